
import Derived.Test.YtjbobaeggdafpaaGreatQ0
namespace Go.Proofs.YtjbobaeggdafpaaGreat.Vm
open Go
open _root_.Go.RowKit (wrap64)
set_option maxRecDepth 100000
set_option linter.unusedVariables false
namespace vR
def f (k : Nat) (a0 : Int) (a1 : Int) : Option Bool := if (decide (a1 ≤ a0)) = true then (some (decide (a0 ≤ 1048576))) else (some false)
def sig (k : Nat) : Sig := .p [(false, (.i .i64)), (false, (.i .i64))] [.c false .b] fun x => f k x.1 x.2.1
def E (k : Nat) : List (Nat × Sig) := []
noncomputable def d : FD := ⟨81, Tryz.f81, 12, 12, [], [], [], [], [.tmp 4], .n⟩
def O (k : Nat) : List (Orc (denR ([.c false .b]))) := []
theorem ok (k : Nat) : zU Tryz.prog (81, sig k) := fnP SS d E O sig (fun _ => rfl) Tryz.func81 (by kernel_rfl) rfl (fun k => trivial) trivial (by kernel_rfl) (fun _ => pn) (fun k x => by kernel_rfl) k
end vR
namespace yH
mutual
def l0 : Nat → (List Int) → Int → A0 → Option Int
 | 0, _, _, _ => none
 | k + 1, t, t2, t3 => if (decide (t2 < (t.length : Int))) = true then (if 0 ≤ t2 ∧ t2 < (t.length : Int) then ((t[t2.toNat]?).bind fun e => (vR.f k e 0).bind fun r => if (!r) = true then (some 41) else (l0 k t (wrap64 (t2 + 1)) t3)) else none) else ((vR.f k t3.1 1).bind fun r2 => if (!r2) = true then (some 41) else (if (decide (t3.2.1 < t3.2.2.2.1)) = true then (some 41) else (j1 k t3)))
def j1 : Nat → A0 → Option Int
 | 0, _ => none
 | k + 1, t4 => if (decide (64 < (t4.2.2.2.2.2.2.1.length : Int))) = true then (some 42) else (l2 k 0 t4)
def l2 : Nat → Int → A0 → Option Int
 | 0, _, _ => none
 | k + 1, t5, t6 => if (decide (t5 < (t6.2.2.2.2.2.2.1.length : Int))) = true then ((at? t6.2.2.2.2.2.2.1 t5).bind fun e2 => if (decide (t5 = 0)) = true then (if (decide (e2.1 < 0)) = true then (some 42) else (if (decide (0 < t5)) = true then ((at? t6.2.2.2.2.2.2.1 (wrap64 (t5 - 1))).bind fun e3 => if (decide (e2.1 ≤ e3.2.1)) = true then (some 42) else (if (decide (e2.2.1 < e2.1)) = true then (some 42) else (if (decide (1114111 < e2.2.1)) = true then (some 42) else (j3 k t5 t6 e2)))) else (if (decide (e2.2.1 < e2.1)) = true then (some 42) else (if (decide (1114111 < e2.2.1)) = true then (some 42) else (j3 k t5 t6 e2))))) else (if (decide (0 < t5)) = true then ((at? t6.2.2.2.2.2.2.1 (wrap64 (t5 - 1))).bind fun e4 => if (decide (e2.1 ≤ e4.2.1)) = true then (some 42) else (if (decide (e2.2.1 < e2.1)) = true then (some 42) else (if (decide (1114111 < e2.2.1)) = true then (some 42) else (j3 k t5 t6 e2)))) else (if (decide (e2.2.1 < e2.1)) = true then (some 42) else (if (decide (1114111 < e2.2.1)) = true then (some 42) else (j3 k t5 t6 e2))))) else (some 0)
def j3 : Nat → Int → A0 → xO → Option Int
 | 0, _, _, _ => none
 | k + 1, t7, t8, t9 => (vR.f k t9.2.2 0).bind fun r3 => if (!r3) = true then (some 41) else (l2 k (wrap64 (t7 + 1)) t8)
end
def f (k : Nat) (a0 : A0) : Option Int := l0 k ([a0.2.1, a0.2.2.1, a0.2.2.2.1, a0.2.2.2.2.1, a0.2.2.2.2.2.1] : List Int) 0 a0
def sig (k : Nat) : Sig := .p [(true, y9)] [.c false (.i .i64)] fun x => f k x.1
def E (k : Nat) : List (Nat × Sig) := [(81, vR.sig k)]
noncomputable def d : FD := ⟨58, Tryz.f58, 96, 107, [(1, 96, 8), (6, 104, 3)], [], [], [], [.tmp 2], .s .n (.s .n (.s (.s .n (.s (.l 0 .n) .n)) (.j 1 .n (.s .n (.s (.s .n (.s (.l 2 (.s .n (.s (.s (.s .n (.j 3 .n .n)) .n) .n))) .n)) .n)))))⟩
abbrev s0 : Sh := [(1, .at_ 96), (3, .v y10), (4, .v (.i .i64)), (96, .box y9)]
abbrev s1 : Sh := [(1, .at_ 96), (96, .box y9)]
abbrev s2 : Sh := [(1, .at_ 96), (5, .v (.i .i64)), (96, .box y9)]
abbrev s3 : Sh := [(1, .at_ 96), (5, .v (.i .i64)), (6, .at_ 104), (96, .box y9), (104, .box y1)]
def O (k : Nat) : List (Orc (denR ([.c false (.i .i64)]))) := [⟨s0, fun y => l0 k y.2.1 y.2.2.1 y.2.2.2.1⟩, ⟨s1, fun y => j1 k y.2.1⟩, ⟨s2, fun y => l2 k y.2.1 y.2.2.1⟩, ⟨s3, fun y => j3 k y.2.1 y.2.2.2.1 y.2.2.2.2.1⟩]
theorem e0 (k : Nat) (y : denS s0) : l0 (k + 1) y.2.1 y.2.2.1 y.2.2.2.1 = SS.ev d E O k [1, 1, 0, 1, 0, 0] s0 y := by rw [l0]; kernel_rfl
theorem e3 (k : Nat) (y : denS s3) : j3 (k + 1) y.2.1 y.2.2.2.1 y.2.2.2.2.1 = SS.ev d E O k [1, 1, 1, 1, 1, 0, 1, 0, 0, 1, 0, 0, 1, 1] s3 y := by rw [j3]; kernel_rfl
theorem e2 (k : Nat) (y : denS s2) : l2 (k + 1) y.2.1 y.2.2.1 = SS.ev d E O k [1, 1, 1, 1, 1, 0, 1, 0, 0] s2 y := by rw [l2]; kernel_rfl
theorem e1 (k : Nat) (y : denS s1) : j1 (k + 1) y.2.1 = SS.ev d E O k [1, 1, 1, 1] s1 y := by rw [j1]; kernel_rfl
theorem ok (k : Nat) : zU Tryz.prog (58, sig k) := fnP SS d E O sig (fun _ => rfl) Tryz.func58 (by kernel_rfl) rfl (fun k => ⟨vR.ok k, trivial⟩) ⟨fun _ => rfl, fun _ => rfl, fun _ => rfl, fun _ => rfl, trivial⟩ (by kernel_rfl) (fun k => pc 0 rfl (e0 k) <| pc 3 rfl (e3 k) <| pc 2 rfl (e2 k) <| pc 1 rfl (e1 k) <| pn) (fun k x => by kernel_rfl) k
end yH
namespace wM
mutual
def j0 : Nat → A1 → Option (Int × Int)
 | 0, _ => none
 | k + 1, l => l1 k l 0
def l1 : Nat → A1 → Int → Option (Int × Int)
 | 0, _, _ => none
 | k + 1, l2, i => if (decide (i < (l2.length : Int))) = true then ((at? l2 i).bind fun e => (yH.f k e).bind fun r => if (!decide (r = 0)) = true then (some (r, i)) else (l1 k l2 (wrap64 (i + 1)))) else (some (0, 0))
end
def f (k : Nat) (a0 : A1) : Option (Int × Int) := if (decide ((a0.length : Int) = 0)) = true then (some (40, 0)) else (if (decide (32 < (a0.length : Int))) = true then (some (40, 0)) else (j0 k a0))
def sig (k : Nat) : Sig := .p [(false, y11)] [.c false (.i .i64), .c false (.i .i64)] fun x => f k x.1
def E (k : Nat) : List (Nat × Sig) := [(58, yH.sig k)]
noncomputable def d : FD := ⟨24, Tryz.f24, 29, 29, [], [], [], [], [.tmp 2, .tmp 3], .s .n (.j 0 .n (.s (.s .n (.s (.l 1 .n) .n)) .n))⟩
abbrev s0 : Sh := [(0, .v y11)]
abbrev s1 : Sh := [(0, .v y11), (4, .v (.i .i64))]
def O (k : Nat) : List (Orc (denR ([.c false (.i .i64), .c false (.i .i64)]))) := [⟨s0, fun y => j0 k y.1⟩, ⟨s1, fun y => l1 k y.1 y.2.1⟩]
theorem e1 (k : Nat) (y : denS s1) : l1 (k + 1) y.1 y.2.1 = SS.ev d E O k [1, 1, 0, 1, 0, 0] s1 y := by rw [l1]; kernel_rfl
theorem e0 (k : Nat) (y : denS s0) : j0 (k + 1) y.1 = SS.ev d E O k [1, 1] s0 y := by rw [j0]; kernel_rfl
theorem ok (k : Nat) : zU Tryz.prog (24, sig k) := fnP SS d E O sig (fun _ => rfl) Tryz.func24 (by kernel_rfl) rfl (fun k => ⟨yH.ok k, trivial⟩) ⟨fun _ => rfl, fun _ => rfl, trivial⟩ (by kernel_rfl) (fun k => pc 1 rfl (e1 k) <| pc 0 rfl (e0 k) <| pn) (fun k x => by kernel_rfl) k
end wM
namespace vP
def f (k : Nat) (a0 : Int) (a1 : Int) : Option Bool := if (decide (a1 ≤ a0)) = true then (some (decide (a0 ≤ 1048576))) else (some false)
def sig (k : Nat) : Sig := .p [(false, (.i .i64)), (false, (.i .i64))] [.c false .b] fun x => f k x.1 x.2.1
def E (k : Nat) : List (Nat × Sig) := []
noncomputable def d : FD := ⟨82, Tryz.f82, 12, 12, [], [], [], [], [.tmp 4], .n⟩
def O (k : Nat) : List (Orc (denR ([.c false .b]))) := []
theorem ok (k : Nat) : zU Tryz.prog (82, sig k) := fnP SS d E O sig (fun _ => rfl) Tryz.func82 (by kernel_rfl) rfl (fun k => trivial) trivial (by kernel_rfl) (fun _ => pn) (fun k x => by kernel_rfl) k
end vP
namespace vK
mutual
def j0 : Nat → A0 → Option Int
 | 0, _ => none
 | k + 1, t => if (decide (64 < (t.2.2.2.2.2.2.1.length : Int))) = true then (some 42) else (l1 k (-1) t.2.2.2.2.2.2.1 (t.2.2.2.2.2.2.1.length : Int) 0)
def l1 : Nat → Int → (List xO) → Int → Int → Option Int
 | 0, _, _, _, _ => none
 | k + 1, t2, t3, t4, t5 => if (decide (t5 < t4)) = true then ((at? t3 t5).bind fun e => if (decide (e.1 ≤ t2)) = true then (some 42) else (if (decide (e.2.1 < e.1)) = true then (some 42) else (if (decide (1114111 < e.2.1)) = true then (some 42) else (j2 k t3 t4 t5 e)))) else (some 0)
def j2 : Nat → (List xO) → Int → Int → xO → Option Int
 | 0, _, _, _, _ => none
 | k + 1, t6, t7, t8, t9 => (vP.f k t9.2.2 0).bind fun r7 => if (!r7) = true then (some 41) else (l1 k t9.2.1 t6 t7 (wrap64 (t8 + 1)))
end
def f (k : Nat) (a0 : A0) : Option Int := (vP.f k a0.1 1).bind fun r => if (!r) = true then (some 41) else ((vP.f k a0.2.1 0).bind fun r2 => if (!r2) = true then (some 41) else ((vP.f k a0.2.2.1 0).bind fun r3 => if (!r3) = true then (some 41) else ((vP.f k a0.2.2.2.1 0).bind fun r4 => if (!r4) = true then (some 41) else ((vP.f k a0.2.2.2.2.1 0).bind fun r5 => if (!r5) = true then (some 41) else ((vP.f k a0.2.2.2.2.2.1 0).bind fun r6 => if (!r6) = true then (some 41) else (if (decide (a0.2.1 < a0.2.2.2.1)) = true then (some 41) else (j0 k a0)))))))
def sig (k : Nat) : Sig := .p [(true, y9)] [.c false (.i .i64)] fun x => f k x.1
def E (k : Nat) : List (Nat × Sig) := [(82, vP.sig k)]
noncomputable def d : FD := ⟨59, Tryz.f59, 81, 92, [(1, 81, 8), (5, 89, 3)], [], [], [], [.tmp 2], .s .n (.j 0 .n (.s .n (.s .n (.s (.s .n (.s (.l 1 (.s .n (.s .n (.s (.s (.s .n (.j 2 .n .n)) .n) .n)))) .n)) .n))))⟩
abbrev s0 : Sh := [(1, .at_ 81), (81, .box y9)]
abbrev s1 : Sh := [(3, .v (.i .i64)), (52, .v y2), (53, .v (.i .i64)), (54, .v (.i .i64))]
abbrev s2 : Sh := [(5, .at_ 89), (52, .v y2), (53, .v (.i .i64)), (54, .v (.i .i64)), (89, .box y1)]
def O (k : Nat) : List (Orc (denR ([.c false (.i .i64)]))) := [⟨s0, fun y => j0 k y.2.1⟩, ⟨s1, fun y => l1 k y.1 y.2.1 y.2.2.1 y.2.2.2.1⟩, ⟨s2, fun y => j2 k y.2.1 y.2.2.1 y.2.2.2.1 y.2.2.2.2.1⟩]
theorem e2 (k : Nat) (y : denS s2) : j2 (k + 1) y.2.1 y.2.2.1 y.2.2.2.1 y.2.2.2.2.1 = SS.ev d E O k [1, 1, 1, 1, 0, 1, 0, 0, 1, 1, 0, 0, 1, 1] s2 y := by rw [j2]; kernel_rfl
theorem e1 (k : Nat) (y : denS s1) : l1 (k + 1) y.1 y.2.1 y.2.2.1 y.2.2.2.1 = SS.ev d E O k [1, 1, 1, 1, 0, 1, 0, 0] s1 y := by rw [l1]; kernel_rfl
theorem e0 (k : Nat) (y : denS s0) : j0 (k + 1) y.2.1 = SS.ev d E O k [1, 1] s0 y := by rw [j0]; kernel_rfl
theorem ok (k : Nat) : zU Tryz.prog (59, sig k) := fnP SS d E O sig (fun _ => rfl) Tryz.func59 (by kernel_rfl) rfl (fun k => ⟨vP.ok k, trivial⟩) ⟨fun _ => rfl, fun _ => rfl, fun _ => rfl, trivial⟩ (by kernel_rfl) (fun k => pc 2 rfl (e2 k) <| pc 1 rfl (e1 k) <| pc 0 rfl (e0 k) <| pn) (fun k x => by kernel_rfl) k
end vK
namespace qI
mutual
def j0 : Nat → A1 → Option A2
 | 0, _ => none
 | k + 1, styles => l1 k styles (styles.length : Int) 0 ([] : List (Int × Int × Int × Int × Int × Int × List xO × Bool))
def l1 : Nat → A1 → Int → Int → A1 → Option A2
 | 0, _, _, _, _ => none
 | k + 1, t, t2, t3, t4 => if (decide (t3 < t2)) = true then ((at? t t3).bind fun e => (vK.f k e).bind fun r => if (!decide (r = 0)) = true then (some (none, r, t3)) else (if (([] : List xO).length + e.2.2.2.2.2.2.1.length) * 24 ≤ 140737488355328 then (if (t4.length + ([(e.1, e.2.1, e.2.2.1, e.2.2.2.1, e.2.2.2.2.1, e.2.2.2.2.2.1, ([] : List xO) ++ e.2.2.2.2.2.2.1, e.2.2.2.2.2.2.2)] : List (Int × Int × Int × Int × Int × Int × List xO × Bool)).length) * 80 ≤ 140737488355328 then (l1 k t t2 (wrap64 (t3 + 1)) (t4 ++ ([(e.1, e.2.1, e.2.2.1, e.2.2.2.1, e.2.2.2.2.1, e.2.2.2.2.2.1, ([] : List xO) ++ e.2.2.2.2.2.2.1, e.2.2.2.2.2.2.2)] : List (Int × Int × Int × Int × Int × Int × List xO × Bool)))) else none) else none)) else (some (some t4, 0, 0))
end
def f (k : Nat) (a0 : A1) : Option A2 := if (decide ((a0.length : Int) = 0)) = true then (some (none, 40, 0)) else (if (decide (32 < (a0.length : Int))) = true then (some (none, 40, 0)) else (j0 k a0))
def sig (k : Nat) : Sig := .p [(false, y11)] [.o y20, .c false (.i .i64), .c false (.i .i64)] fun x => f k x.1
def E (k : Nat) : List (Nat × Sig) := [(59, vK.sig k)]
noncomputable def d : FD := ⟨25, Tryz.f25, 49, 58, [(18, 49, 1), (7, 50, 8)], [], [], [], [.tmp 2, .tmp 3, .tmp 4], .s .n (.j 0 .n (.s .n (.s (.s .n (.s (.l 1 .n) .n)) .n)))⟩
abbrev s0 : Sh := [(0, .v y11)]
abbrev s1 : Sh := [(5, .at_ 49), (19, .v y11), (20, .v (.i .i64)), (21, .v (.i .i64)), (49, .box y20)]
def O (k : Nat) : List (Orc (denR ([.o y20, .c false (.i .i64), .c false (.i .i64)]))) := [⟨s0, fun y => j0 k y.1⟩, ⟨s1, fun y => l1 k y.2.1 y.2.2.1 y.2.2.2.1 y.2.2.2.2.1⟩]
theorem e1 (k : Nat) (y : denS s1) : l1 (k + 1) y.2.1 y.2.2.1 y.2.2.2.1 y.2.2.2.2.1 = SS.ev d E O k [1, 1, 1, 0, 1, 0, 0] s1 y := by rw [l1]; kernel_rfl
theorem e0 (k : Nat) (y : denS s0) : j0 (k + 1) y.1 = SS.ev d E O k [1, 1] s0 y := by rw [j0]; kernel_rfl
theorem ok (k : Nat) : zU Tryz.prog (25, sig k) := fnP SS d E O sig (fun _ => rfl) Tryz.func25 (by kernel_rfl) rfl (fun k => ⟨vK.ok k, trivial⟩) ⟨fun _ => rfl, fun _ => rfl, trivial⟩ (by kernel_rfl) (fun k => pc 1 rfl (e1 k) <| pc 0 rfl (e0 k) <| pn) (fun k x => by kernel_rfl) k
end qI
namespace xZ
def f (k : Nat) (a0 : A1) : Option A3 := (wM.f k a0).bind fun r => if (!decide (r.1 = 0)) = true then (some none) else ((qI.f k a0).bind fun r2 => optK r2.1 (some none) fun p => some (some p))
def sig (k : Nat) : Sig := .p [(false, y11)] [.o y20] fun x => f k x.1
def E (k : Nat) : List (Nat × Sig) := [(24, wM.sig k), (25, qI.sig k)]
noncomputable def d : FD := ⟨6, Tryz.f6, 22, 22, [], [], [], [], [.tmp 2], .n⟩
def O (k : Nat) : List (Orc (denR ([.o y20]))) := []
theorem ok (k : Nat) : zU Tryz.prog (6, sig k) := fnP SS d E O sig (fun _ => rfl) Tryz.func6 (by kernel_rfl) rfl (fun k => ⟨wM.ok k, qI.ok k, trivial⟩) trivial (by kernel_rfl) (fun _ => pn) (fun k x => by kernel_rfl) k
end xZ
namespace vN
def f (k : Nat) (a0 : zA) : Option Bool := if (decide (a0.1 = 3)) = true then (some (decide (a0.2.2.2.2.2.1 ≤ (-10000)))) else (some false)
def sig (k : Nat) : Sig := .p [(true, y27)] [.c false .b] fun x => f k x.1
def E (k : Nat) : List (Nat × Sig) := []
noncomputable def d : FD := ⟨46, Tryz.f46, 11, 20, [(1, 11, 9)], [], [], [], [.tmp 2], .n⟩
def O (k : Nat) : List (Orc (denR ([.c false .b]))) := []
theorem ok (k : Nat) : zU Tryz.prog (46, sig k) := fnP SS d E O sig (fun _ => rfl) Tryz.func46 (by kernel_rfl) rfl (fun k => trivial) trivial (by kernel_rfl) (fun _ => pn) (fun k x => by kernel_rfl) k
end vN
namespace qK
def f (k : Nat) (a0 : Int) : Option Bool := if (decide (0 ≤ a0)) = true then (some (decide (a0 ≤ 68719476736))) else (some false)
def sig (k : Nat) : Sig := .p [(false, (.i .i64))] [.c false .b] fun x => f k x.1
def E (k : Nat) : List (Nat × Sig) := []
noncomputable def d : FD := ⟨106, Tryz.f106, 9, 9, [], [], [], [], [.tmp 2], .n⟩
def O (k : Nat) : List (Orc (denR ([.c false .b]))) := []
theorem ok (k : Nat) : zU Tryz.prog (106, sig k) := fnP SS d E O sig (fun _ => rfl) Tryz.func106 (by kernel_rfl) rfl (fun k => trivial) trivial (by kernel_rfl) (fun _ => pn) (fun k x => by kernel_rfl) k
end qK
namespace zAP
mutual
def j0 : Nat → zA → Option Bool
 | 0, _ => none
 | k + 1, t => if (decide (t.1 = 1)) = true then (if (decide (t.2.2.1 = 0)) = true then (if (decide (t.2.2.2.1 = 0)) = true then (if (decide (t.2.2.2.2.2.1 = 0)) = true then (if (!t.2.2.2.2.1) = true then (some (!t.2.2.2.2.2.2.1)) else (some false)) else (some false)) else (some false)) else (some false)) else (if (decide (t.1 = 2)) = true then (if (decide (t.2.2.2.2.2.1 = 0)) = true then (if (!t.2.2.2.2.2.2.1) = true then (if (!t.2.2.2.2.1) = true then (some true) else (if (decide (t.2.1 = 0)) = true then (some (decide (t.2.2.1 = 0))) else (some false))) else (some false)) else (some false)) else (if (decide (t.1 = 3)) = true then (if (decide (t.2.2.1 = 0)) = true then (if (decide (t.2.2.2.1 = 0)) = true then (if (!t.2.2.2.2.1) = true then (if (decide ((-10000) ≤ t.2.2.2.2.2.1)) = true then (some (decide (t.2.2.2.2.2.1 ≤ 10000))) else (some false)) else (some false)) else (some false)) else (some false)) else (some false)))
end
def f (k : Nat) (a0 : zA) : Option Bool := (qK.f k a0.2.1).bind fun r => if (!r) = true then (some false) else ((qK.f k a0.2.2.1).bind fun r2 => if (!r2) = true then (some false) else ((qK.f k a0.2.2.2.1).bind fun r3 => if (!r3) = true then (some false) else (if (decide (a0.2.1 < a0.2.2.2.1)) = true then (some false) else (j0 k a0))))
def sig (k : Nat) : Sig := .p [(true, y27)] [.c false .b] fun x => f k x.1
def E (k : Nat) : List (Nat × Sig) := [(106, qK.sig k)]
noncomputable def d : FD := ⟨75, Tryz.f75, 103, 112, [(1, 103, 9)], [], [], [], [.tmp 2], .s .n (.j 0 .n .n)⟩
abbrev s0 : Sh := [(1, .at_ 103), (103, .box y27)]
def O (k : Nat) : List (Orc (denR ([.c false .b]))) := [⟨s0, fun y => j0 k y.2.1⟩]
theorem e0 (k : Nat) (y : denS s0) : j0 (k + 1) y.2.1 = SS.ev d E O k [1, 1] s0 y := by rw [j0]; kernel_rfl
theorem ok (k : Nat) : zU Tryz.prog (75, sig k) := fnP SS d E O sig (fun _ => rfl) Tryz.func75 (by kernel_rfl) rfl (fun k => ⟨qK.ok k, trivial⟩) ⟨fun _ => rfl, trivial⟩ (by kernel_rfl) (fun k => pc 0 rfl (e0 k) <| pn) (fun k x => by kernel_rfl) k
end zAP
namespace uU
mutual
def j0 : Nat → (List zA) → Option Int
 | 0, _ => none
 | k + 1, list => l1 k 0 list (list.length : Int) 0
def l1 : Nat → Int → (List zA) → Int → Int → Option Int
 | 0, _, _, _, _ => none
 | k + 1, at_, t, t2, t3 => if (decide (t3 < t2)) = true then ((at? t t3).bind fun e2 => if (!decide (e2.2.2.2.2.2.2.2.1 = at_)) = true then (some 70) else (if (decide (e2.2.2.2.2.2.2.2.2 < e2.2.2.2.2.2.2.2.1)) = true then (some 70) else (if (decide (65536 < e2.2.2.2.2.2.2.2.2)) = true then (some 70) else ((zAP.f k e2).bind fun r2 => if (!r2) = true then (some 70) else (j2 k t t2 t3 e2))))) else (some 0)
def j2 : Nat → (List zA) → Int → Int → zA → Option Int
 | 0, _, _, _, _ => none
 | k + 1, t4, t5, t6, x => l1 k x.2.2.2.2.2.2.2.2 t4 t5 (wrap64 (t6 + 1))
end
def f (k : Nat) (a0 : (List zA)) : Option Int := if (decide ((a0.length : Int) = 0)) = true then (some 70) else (if (decide (262144 < (a0.length : Int))) = true then (some 70) else ((at? a0 (wrap64 ((a0.length : Int) - 1))).bind fun e => (vN.f k e).bind fun r => if (!r) = true then (some 70) else (j0 k a0)))
def sig (k : Nat) : Sig := .p [(false, y28)] [.c false (.i .i64)] fun x => f k x.1
def E (k : Nat) : List (Nat × Sig) := [(46, vN.sig k), (75, zAP.sig k)]
noncomputable def d : FD := ⟨44, Tryz.f44, 54, 63, [(5, 54, 9)], [], [], [], [.tmp 2], .s .n (.j 0 .n (.s .n (.s (.s .n (.s (.l 1 (.s .n (.s .n (.s (.s (.s .n (.j 2 .n .n)) .n) .n)))) .n)) .n)))⟩
abbrev s0 : Sh := [(0, .v y28)]
abbrev s1 : Sh := [(3, .v (.i .i64)), (24, .v y28), (25, .v (.i .i64)), (26, .v (.i .i64))]
abbrev s2 : Sh := [(5, .at_ 54), (24, .v y28), (25, .v (.i .i64)), (26, .v (.i .i64)), (54, .box y27)]
def O (k : Nat) : List (Orc (denR ([.c false (.i .i64)]))) := [⟨s0, fun y => j0 k y.1⟩, ⟨s1, fun y => l1 k y.1 y.2.1 y.2.2.1 y.2.2.2.1⟩, ⟨s2, fun y => j2 k y.2.1 y.2.2.1 y.2.2.2.1 y.2.2.2.2.1⟩]
theorem e2 (k : Nat) (y : denS s2) : j2 (k + 1) y.2.1 y.2.2.1 y.2.2.2.1 y.2.2.2.2.1 = SS.ev d E O k [1, 1, 1, 0, 1, 0, 0, 1, 1, 0, 0, 1, 1] s2 y := by rw [j2]; kernel_rfl
theorem e1 (k : Nat) (y : denS s1) : l1 (k + 1) y.1 y.2.1 y.2.2.1 y.2.2.2.1 = SS.ev d E O k [1, 1, 1, 0, 1, 0, 0] s1 y := by rw [l1]; kernel_rfl
theorem e0 (k : Nat) (y : denS s0) : j0 (k + 1) y.1 = SS.ev d E O k [1, 1] s0 y := by rw [j0]; kernel_rfl
theorem ok (k : Nat) : zU Tryz.prog (44, sig k) := fnP SS d E O sig (fun _ => rfl) Tryz.func44 (by kernel_rfl) rfl (fun k => ⟨vN.ok k, zAP.ok k, trivial⟩) ⟨fun _ => rfl, fun _ => rfl, fun _ => rfl, trivial⟩ (by kernel_rfl) (fun k => pc 2 rfl (e2 k) <| pc 1 rfl (e1 k) <| pc 0 rfl (e0 k) <| pn) (fun k x => by kernel_rfl) k
end uU
namespace zAD
mutual
def j0 : Nat → (List zA) → Int → Option Bool
 | 0, _, _ => none
 | k + 1, list, k_ => (at? list k_).bind fun e => if (decide (e.1 = 3)) = true then (some (decide (e.2.2.2.2.2.1 < 10000))) else (if (decide (e.1 = 2)) = true then (if (!e.2.2.2.2.1) = true then (if (decide (0 < k_)) = true then ((at? list (wrap64 (k_ - 1))).bind fun e2 => some (decide (e2.1 = 1))) else (some false)) else (some false)) else (some false))
end
def f (k : Nat) (a0 : (List zA)) (a1 : Int) : Option Bool := if (decide (a1 < 0)) = true then (some false) else (if (decide ((a0.length : Int) ≤ a1)) = true then (some false) else (j0 k a0 a1))
def sig (k : Nat) : Sig := .p [(false, y28), (false, (.i .i64))] [.c false .b] fun x => f k x.1 x.2.1
def E (k : Nat) : List (Nat × Sig) := []
noncomputable def d : FD := ⟨45, Tryz.f45, 43, 52, [(5, 43, 9)], [], [], [], [.tmp 4], .s .n (.j 0 .n .n)⟩
abbrev s0 : Sh := [(0, .v y28), (1, .v (.i .i64))]
def O (k : Nat) : List (Orc (denR ([.c false .b]))) := [⟨s0, fun y => j0 k y.1 y.2.1⟩]
theorem e0 (k : Nat) (y : denS s0) : j0 (k + 1) y.1 y.2.1 = SS.ev d E O k [1, 1] s0 y := by rw [j0]; kernel_rfl
theorem ok (k : Nat) : zU Tryz.prog (45, sig k) := fnP SS d E O sig (fun _ => rfl) Tryz.func45 (by kernel_rfl) rfl (fun k => trivial) ⟨fun _ => rfl, trivial⟩ (by kernel_rfl) (fun k => pc 0 rfl (e0 k) <| pn) (fun k x => by kernel_rfl) k
end zAD
namespace xB
mutual
def l0 : Nat → (List zA) → Int → Int → Int → Int → (List zA) → Int → Int → zE → Option A4
 | 0, _, _, _, _, _, _, _, _, _ => none
 | k + 1, t, t2, t3, t4, t5, t6, t7, t8, t9 => if (decide (t8 < t7)) = true then ((at? t6 t8).bind fun e => if (t9.2.1.length + ([t2] : List Int).length) * 8 ≤ 140737488355328 then (if (t9.2.2.1.length + ([t3] : List Int).length) * 8 ≤ 140737488355328 then (if (t9.2.2.2.1.length + ([t4] : List Int).length) * 8 ≤ 140737488355328 then (if (t9.2.2.2.2.1.length + ([t5] : List Int).length) * 8 ≤ 140737488355328 then (if (decide (e.1 = 3)) = true then (j1 k t t2 t3 t4 t5 t8 t6 t7 t8 (t9.1, t9.2.1 ++ ([t2] : List Int), t9.2.2.1 ++ ([t3] : List Int), t9.2.2.2.1 ++ ([t4] : List Int), t9.2.2.2.2.1 ++ ([t5] : List Int), t9.2.2.2.2.2.1, (if t9.2.2.2.2.2.2.1 < e.2.1 then e.2.1 else t9.2.2.2.2.2.2.1), t9.2.2.2.2.2.2.2) e) else (j1 k t (wrap64 (t2 + e.2.1)) (wrap64 (t3 + e.2.2.1)) (wrap64 (t4 + e.2.2.2.1)) t5 t8 t6 t7 t8 (t9.1, t9.2.1 ++ ([t2] : List Int), t9.2.2.1 ++ ([t3] : List Int), t9.2.2.2.1 ++ ([t4] : List Int), t9.2.2.2.2.1 ++ ([t5] : List Int), t9.2.2.2.2.2.1, t9.2.2.2.2.2.2.1, t9.2.2.2.2.2.2.2) e)) else none) else none) else none) else none) else (if (t9.2.1.length + ([t2] : List Int).length) * 8 ≤ 140737488355328 then (if (t9.2.2.1.length + ([t3] : List Int).length) * 8 ≤ 140737488355328 then (if (t9.2.2.2.1.length + ([t4] : List Int).length) * 8 ≤ 140737488355328 then (if (t9.2.2.2.2.1.length + ([t5] : List Int).length) * 8 ≤ 140737488355328 then (if (wrap64 ((t.length : Int) + 1)) = (wrap64 ((t.length : Int) + 1)) ∧ 0 ≤ (wrap64 ((t.length : Int) + 1)) ∧ (8 : Int) * (wrap64 ((t.length : Int) + 1)) ≤ 281474976710656 then (if 0 ≤ (t.length : Int) ∧ (t.length : Int) < ((List.replicate ((wrap64 ((t.length : Int) + 1)).toNat) 0 : List Int).length : Int) then (((List.replicate ((wrap64 ((t.length : Int) + 1)).toNat) 0 : List Int)[(t.length : Int).toNat]?).bind fun e2 => l2 k t (wrap64 ((t.length : Int) - 1)) (t9.1, t9.2.1 ++ ([t2] : List Int), t9.2.2.1 ++ ([t3] : List Int), t9.2.2.2.1 ++ ([t4] : List Int), t9.2.2.2.2.1 ++ ([t5] : List Int), (List.replicate ((wrap64 ((t.length : Int) + 1)).toNat) 0 : List Int).set ((t.length : Int).toNat) (t.length : Int), t9.2.2.2.2.2.2.1, t9.2.2.2.2.2.2.2)) else none) else none) else none) else none) else none) else none)
def j1 : Nat → (List zA) → Int → Int → Int → Int → Int → (List zA) → Int → Int → zE → zA → Option A4
 | 0, _, _, _, _, _, _, _, _, _, _, _ => none
 | k + 1, t10, t11, t12, t13, t14, t15, t16, t17, t18, t19, t20 => if t20.2.2.2.2.1 = true then (j3 k t10 t11 t12 t13 (wrap64 (t14 + 1)) t15 t16 t17 t18 t19) else (j3 k t10 t11 t12 t13 t14 t15 t16 t17 t18 t19)
def l2 : Nat → (List zA) → Int → zE → Option A4
 | 0, _, _, _ => none
 | k + 1, t21, t22, t23 => if (decide (0 ≤ t22)) = true then (if 0 ≤ t22 ∧ t22 < (t23.2.2.2.2.2.1.length : Int) then ((t23.2.2.2.2.2.1[t22.toNat]?).bind fun e3 => (at? t21 t22).bind fun e4 => if (!decide (e4.1 = 1)) = true then ((vN.f k e4).bind fun r2 => if (!r2) = true then (if (!e4.2.2.2.2.1) = true then (if 0 ≤ (wrap64 (t22 + 1)) ∧ (wrap64 (t22 + 1)) < ((t23.2.2.2.2.2.1.set t22.toNat t22).length : Int) then (((t23.2.2.2.2.2.1.set t22.toNat t22)[(wrap64 (t22 + 1)).toNat]?).bind fun e5 => if 0 ≤ t22 ∧ t22 < ((t23.2.2.2.2.2.1.set t22.toNat t22).length : Int) then (((t23.2.2.2.2.2.1.set t22.toNat t22)[t22.toNat]?).bind fun e6 => j4 k t21 t22 (t23.1, t23.2.1, t23.2.2.1, t23.2.2.2.1, t23.2.2.2.2.1, (t23.2.2.2.2.2.1.set t22.toNat t22).set t22.toNat e5, t23.2.2.2.2.2.2.1, t23.2.2.2.2.2.2.2)) else none) else none) else (j4 k t21 t22 (t23.1, t23.2.1, t23.2.2.1, t23.2.2.2.1, t23.2.2.2.2.1, t23.2.2.2.2.2.1.set t22.toNat t22, t23.2.2.2.2.2.2.1, t23.2.2.2.2.2.2.2))) else (j4 k t21 t22 (t23.1, t23.2.1, t23.2.2.1, t23.2.2.2.1, t23.2.2.2.2.1, t23.2.2.2.2.2.1.set t22.toNat t22, t23.2.2.2.2.2.2.1, t23.2.2.2.2.2.2.2))) else (j4 k t21 t22 (t23.1, t23.2.1, t23.2.2.1, t23.2.2.2.1, t23.2.2.2.2.1, t23.2.2.2.2.2.1.set t22.toNat t22, t23.2.2.2.2.2.2.1, t23.2.2.2.2.2.2.2))) else none) else (some (some t23, 0))
def j3 : Nat → (List zA) → Int → Int → Int → Int → Int → (List zA) → Int → Int → zE → Option A4
 | 0, _, _, _, _, _, _, _, _, _, _ => none
 | k + 1, t24, t25, t26, t27, t28, t29, t30, t31, t32, t33 => (zAD.f k t24 t29).bind fun r3 => if r3 = true then (if (t33.2.2.2.2.2.2.2.length + ([t29] : List Int).length) * 8 ≤ 140737488355328 then (l0 k t24 t25 t26 t27 t28 t30 t31 (wrap64 (t32 + 1)) (t33.1, t33.2.1, t33.2.2.1, t33.2.2.2.1, t33.2.2.2.2.1, t33.2.2.2.2.2.1, t33.2.2.2.2.2.2.1, t33.2.2.2.2.2.2.2 ++ ([t29] : List Int))) else none) else (l0 k t24 t25 t26 t27 t28 t30 t31 (wrap64 (t32 + 1)) t33)
def j4 : Nat → (List zA) → Int → zE → Option A4
 | 0, _, _, _ => none
 | k + 1, t34, t35, t36 => l2 k t34 (wrap64 (t35 - 1)) t36
end
def f (k : Nat) (a0 : (List zA)) : Option A4 := (uU.f k a0).bind fun r => if (!decide (r = 0)) = true then (some (none, r)) else (if (([] : List zA).length + a0.length) * 72 ≤ 140737488355328 then (l0 k a0 0 0 0 0 a0 (a0.length : Int) 0 (([] : List zA) ++ a0, ([] : List Int), ([] : List Int), ([] : List Int), ([] : List Int), ([] : List Int), 0, ([] : List Int))) else none)
def sig (k : Nat) : Sig := .p [(false, y28)] [.o y36, .c false (.i .i64)] fun x => f k x.1
def E (k : Nat) : List (Nat × Sig) := [(44, uU.sig k), (45, zAD.sig k), (46, vN.sig k)]
noncomputable def d : FD := ⟨15, Tryz.f15, 216, 242, [(23, 216, 8), (11, 224, 9), (13, 233, 9)], [], [], [], [.tmp 2, .tmp 3], .s .n (.s .n (.s .n (.s .n (.s (.s .n (.s (.l 0 (.s .n (.s .n (.s (.s (.s .n (.s .n (.j 1 .n (.j 3 .n .n)))) .n) .n)))) .n)) (.s .n (.s .n (.s .n (.s (.s .n (.s (.l 2 (.s .n (.j 4 .n .n))) .n)) .n))))))))⟩
abbrev s0 : Sh := [(0, .v y28), (5, .at_ 216), (6, .v (.i .i64)), (7, .v (.i .i64)), (8, .v (.i .i64)), (9, .v (.i .i64)), (24, .v y28), (25, .v (.i .i64)), (26, .v (.i .i64)), (216, .box y36)]
abbrev s1 : Sh := [(0, .v y28), (5, .at_ 216), (6, .v (.i .i64)), (7, .v (.i .i64)), (8, .v (.i .i64)), (9, .v (.i .i64)), (10, .v (.i .i64)), (11, .at_ 224), (24, .v y28), (25, .v (.i .i64)), (26, .v (.i .i64)), (216, .box y36), (224, .box y27)]
abbrev s2 : Sh := [(0, .v y28), (5, .at_ 216), (12, .v (.i .i64)), (216, .box y36)]
abbrev s3 : Sh := [(0, .v y28), (5, .at_ 216), (6, .v (.i .i64)), (7, .v (.i .i64)), (8, .v (.i .i64)), (9, .v (.i .i64)), (10, .v (.i .i64)), (24, .v y28), (25, .v (.i .i64)), (26, .v (.i .i64)), (216, .box y36)]
abbrev s4 : Sh := [(0, .v y28), (5, .at_ 216), (12, .v (.i .i64)), (216, .box y36)]
def O (k : Nat) : List (Orc (denR ([.o y36, .c false (.i .i64)]))) := [⟨s0, fun y => l0 k y.1 y.2.2.1 y.2.2.2.1 y.2.2.2.2.1 y.2.2.2.2.2.1 y.2.2.2.2.2.2.1 y.2.2.2.2.2.2.2.1 y.2.2.2.2.2.2.2.2.1 y.2.2.2.2.2.2.2.2.2.1⟩, ⟨s1, fun y => j1 k y.1 y.2.2.1 y.2.2.2.1 y.2.2.2.2.1 y.2.2.2.2.2.1 y.2.2.2.2.2.2.1 y.2.2.2.2.2.2.2.2.1 y.2.2.2.2.2.2.2.2.2.1 y.2.2.2.2.2.2.2.2.2.2.1 y.2.2.2.2.2.2.2.2.2.2.2.1 y.2.2.2.2.2.2.2.2.2.2.2.2.1⟩, ⟨s2, fun y => l2 k y.1 y.2.2.1 y.2.2.2.1⟩, ⟨s3, fun y => j3 k y.1 y.2.2.1 y.2.2.2.1 y.2.2.2.2.1 y.2.2.2.2.2.1 y.2.2.2.2.2.2.1 y.2.2.2.2.2.2.2.1 y.2.2.2.2.2.2.2.2.1 y.2.2.2.2.2.2.2.2.2.1 y.2.2.2.2.2.2.2.2.2.2.1⟩, ⟨s4, fun y => j4 k y.1 y.2.2.1 y.2.2.2.1⟩]
theorem e3 (k : Nat) (y : denS s3) : j3 (k + 1) y.1 y.2.2.1 y.2.2.2.1 y.2.2.2.2.1 y.2.2.2.2.2.1 y.2.2.2.2.2.2.1 y.2.2.2.2.2.2.2.1 y.2.2.2.2.2.2.2.2.1 y.2.2.2.2.2.2.2.2.2.1 y.2.2.2.2.2.2.2.2.2.2.1 = SS.ev d E O k [1, 1, 1, 1, 0, 1, 0, 0, 1, 1, 0, 0, 1, 1, 1, 1] s3 y := by rw [j3]; kernel_rfl
theorem e1 (k : Nat) (y : denS s1) : j1 (k + 1) y.1 y.2.2.1 y.2.2.2.1 y.2.2.2.2.1 y.2.2.2.2.2.1 y.2.2.2.2.2.2.1 y.2.2.2.2.2.2.2.2.1 y.2.2.2.2.2.2.2.2.2.1 y.2.2.2.2.2.2.2.2.2.2.1 y.2.2.2.2.2.2.2.2.2.2.2.1 y.2.2.2.2.2.2.2.2.2.2.2.2.1 = SS.ev d E O k [1, 1, 1, 1, 0, 1, 0, 0, 1, 1, 0, 0, 1, 1, 1] s1 y := by rw [j1]; kernel_rfl
theorem e0 (k : Nat) (y : denS s0) : l0 (k + 1) y.1 y.2.2.1 y.2.2.2.1 y.2.2.2.2.1 y.2.2.2.2.2.1 y.2.2.2.2.2.2.1 y.2.2.2.2.2.2.2.1 y.2.2.2.2.2.2.2.2.1 y.2.2.2.2.2.2.2.2.2.1 = SS.ev d E O k [1, 1, 1, 1, 0, 1, 0, 0] s0 y := by rw [l0]; kernel_rfl
theorem e4 (k : Nat) (y : denS s4) : j4 (k + 1) y.1 y.2.2.1 y.2.2.2.1 = SS.ev d E O k [1, 1, 1, 1, 1, 1, 1, 1, 0, 1, 0, 0, 1, 1] s4 y := by rw [j4]; kernel_rfl
theorem e2 (k : Nat) (y : denS s2) : l2 (k + 1) y.1 y.2.2.1 y.2.2.2.1 = SS.ev d E O k [1, 1, 1, 1, 1, 1, 1, 1, 0, 1, 0, 0] s2 y := by rw [l2]; kernel_rfl
theorem ok (k : Nat) : zU Tryz.prog (15, sig k) := fnP SS d E O sig (fun _ => rfl) Tryz.func15 (by kernel_rfl) rfl (fun k => ⟨uU.ok k, zAD.ok k, vN.ok k, trivial⟩) ⟨fun _ => rfl, fun _ => rfl, fun _ => rfl, fun _ => rfl, fun _ => rfl, trivial⟩ (by kernel_rfl) (fun k => pc 3 rfl (e3 k) <| pc 1 rfl (e1 k) <| pc 0 rfl (e0 k) <| pc 4 rfl (e4 k) <| pc 2 rfl (e2 k) <| pn) (fun k x => by kernel_rfl) k
end xB
namespace zS
mutual
def j0 : Nat → zE → Int → zA → Option zA
 | 0, _, _, _ => none
 | k + 1, p, k_, t => (at? p.1 k_).bind fun e => some e
end
def f (k : Nat) (a0 : zE) (a1 : Int) : Option zA := if (decide (a1 < 0)) = true then (some (0, 0, 0, 0, (false), 0, (false), 0, 0)) else (if (decide ((a0.1.length : Int) ≤ a1)) = true then (some (0, 0, 0, 0, (false), 0, (false), 0, 0)) else (j0 k a0 a1 (0, 0, 0, 0, (false), 0, (false), 0, 0)))
def sig (k : Nat) : Sig := .p [(false, y45), (false, (.i .i64))] [.c true y27] fun x => f k x.1 x.2.1
def E (k : Nat) : List (Nat × Sig) := []
noncomputable def d : FD := ⟨52, Tryz.f52, 24, 33, [(4, 24, 9)], [], [], [], [.cell 4 63], .s .n (.j 0 .n .n)⟩
abbrev s0 : Sh := [(0, .v y45), (1, .v (.i .i64)), (4, .at_ 24), (24, .box y27)]
def O (k : Nat) : List (Orc (denR ([.c true y27]))) := [⟨s0, fun y => j0 k y.1 y.2.1 y.2.2.2.1⟩]
theorem e0 (k : Nat) (y : denS s0) : j0 (k + 1) y.1 y.2.1 y.2.2.2.1 = SS.ev d E O k [1, 1] s0 y := by rw [j0]; kernel_rfl
theorem ok (k : Nat) : zU Tryz.prog (52, sig k) := fnP SS d E O sig (fun _ => rfl) Tryz.func52 (by kernel_rfl) rfl (fun k => trivial) ⟨fun _ => rfl, trivial⟩ (by kernel_rfl) (fun k => pc 0 rfl (e0 k) <| pn) (fun k x => by kernel_rfl) k
end zS
namespace wT
def f (k : Nat) (a0 : zE) (a1 : Int) : Option Int := if (decide (a1 < 0)) = true then (some 0) else (if (decide ((wrap64 ((a0.1.length : Int) - 1)) ≤ a1)) = true then (some (a0.1.length : Int)) else ((at? a0.2.2.2.2.2.1 (wrap64 (a1 + 1))).bind fun e => some e))
def sig (k : Nat) : Sig := .p [(false, y45), (false, (.i .i64))] [.c false (.i .i64)] fun x => f k x.1 x.2.1
def E (k : Nat) : List (Nat × Sig) := []
noncomputable def d : FD := ⟨55, Tryz.f55, 30, 30, [], [], [], [], [.tmp 4], .n⟩
def O (k : Nat) : List (Orc (denR ([.c false (.i .i64)]))) := []
theorem ok (k : Nat) : zU Tryz.prog (55, sig k) := fnP SS d E O sig (fun _ => rfl) Tryz.func55 (by kernel_rfl) rfl (fun k => trivial) trivial (by kernel_rfl) (fun _ => pn) (fun k x => by kernel_rfl) k
end wT
namespace qR
mutual
def l0 : Nat → zE → (List Int) → Int → (List Int) → (List Int) → Int → Int → Option (List Int)
 | 0, _, _, _, _, _, _, _ => none
 | k + 1, p, list, size, out, t, t2, t3 => if (decide (t3 < t2)) = true then ((at? t t3).bind fun e => if (decide (t3 = (wrap64 ((list.length : Int) - 1)))) = true then (if (out.length + ([size] : List Int).length) * 8 ≤ 140737488355328 then (some (out ++ ([size] : List Int))) else none) else ((wT.f k p e).bind fun r => (at? list (wrap64 (t3 + 1))).bind fun e2 => (zS.f k p (if e2 < r then e2 else r)).bind fun r2 => if (out.length + ([(if r2.2.2.2.2.2.2.2.1 < size then r2.2.2.2.2.2.2.2.1 else size)] : List Int).length) * 8 ≤ 140737488355328 then (l0 k p list size (out ++ ([(if r2.2.2.2.2.2.2.2.1 < size then r2.2.2.2.2.2.2.2.1 else size)] : List Int)) t t2 (wrap64 (t3 + 1))) else none)) else (some out)
end
def f (k : Nat) (a0 : zE) (a1 : (List Int)) (a2 : Int) : Option (List Int) := l0 k a0 a1 a2 ([] : List Int) a1 (a1.length : Int) 0
def sig (k : Nat) : Sig := .p [(false, y45), (false, y37), (false, (.i .i64))] [.c false y10] fun x => f k x.1 x.2.1 x.2.2.1
def E (k : Nat) : List (Nat × Sig) := [(52, zS.sig k), (55, wT.sig k)]
noncomputable def d : FD := ⟨19, Tryz.f19, 45, 45, [], [], [], [], [.tmp 6], .s .n (.s .n (.s (.s .n (.s (.l 0 .n) .n)) .n))⟩
abbrev s0 : Sh := [(0, .v y45), (1, .v y37), (2, .v (.i .i64)), (7, .v y10), (10, .v y37), (11, .v (.i .i64)), (12, .v (.i .i64))]
def O (k : Nat) : List (Orc (denR ([.c false y10]))) := [⟨s0, fun y => l0 k y.1 y.2.1 y.2.2.1 y.2.2.2.1 y.2.2.2.2.1 y.2.2.2.2.2.1 y.2.2.2.2.2.2.1⟩]
theorem e0 (k : Nat) (y : denS s0) : l0 (k + 1) y.1 y.2.1 y.2.2.1 y.2.2.2.1 y.2.2.2.2.1 y.2.2.2.2.2.1 y.2.2.2.2.2.2.1 = SS.ev d E O k [1, 1, 0, 1, 0, 0] s0 y := by rw [l0]; kernel_rfl
theorem ok (k : Nat) : zU Tryz.prog (19, sig k) := fnP SS d E O sig (fun _ => rfl) Tryz.func19 (by kernel_rfl) rfl (fun k => ⟨zS.ok k, wT.ok k, trivial⟩) ⟨fun _ => rfl, trivial⟩ (by kernel_rfl) (fun k => pc 0 rfl (e0 k) <| pn) (fun k x => by kernel_rfl) k
end qR
namespace yR
def f (k : Nat) (a0 : Int) : Option Int := some (if (-1152921504606846976) < (if a0 < 1152921504606846976 then a0 else 1152921504606846976) then (if a0 < 1152921504606846976 then a0 else 1152921504606846976) else (-1152921504606846976))
def sig (k : Nat) : Sig := .p [(false, (.i .i64))] [.c false (.i .i64)] fun x => f k x.1
def E (k : Nat) : List (Nat × Sig) := []
noncomputable def d : FD := ⟨125, Tryz.f125, 6, 6, [], [], [], [], [.tmp 2], .n⟩
def O (k : Nat) : List (Orc (denR ([.c false (.i .i64)]))) := []
theorem ok (k : Nat) : zU Tryz.prog (125, sig k) := fnP SS d E O sig (fun _ => rfl) Tryz.func125 (by kernel_rfl) rfl (fun k => trivial) trivial (by kernel_rfl) (fun _ => pn) (fun k x => by kernel_rfl) k
end yR
namespace uI
def f (k : Nat) (a0 : Int) (a1 : Int) : Option (Int × Int) := some (IntKind.u64.wrap ((IntKind.u64.wrap ((IntKind.u64.wrap ((shrI .u64 a0 (32 : Int)) * (shrI .u64 a1 (32 : Int)))) + (shrI .u64 (IntKind.u64.wrap ((IntKind.u64.wrap ((shrI .u64 a0 (32 : Int)) * (andI .u64 a1 (4294967295 : Int)))) + (shrI .u64 (IntKind.u64.wrap ((andI .u64 a0 (4294967295 : Int)) * (andI .u64 a1 (4294967295 : Int)))) (32 : Int)))) (32 : Int)))) + (shrI .u64 (IntKind.u64.wrap ((andI .u64 (IntKind.u64.wrap ((IntKind.u64.wrap ((shrI .u64 a0 (32 : Int)) * (andI .u64 a1 (4294967295 : Int)))) + (shrI .u64 (IntKind.u64.wrap ((andI .u64 a0 (4294967295 : Int)) * (andI .u64 a1 (4294967295 : Int)))) (32 : Int)))) (4294967295 : Int)) + (IntKind.u64.wrap ((andI .u64 a0 (4294967295 : Int)) * (shrI .u64 a1 (32 : Int)))))) (32 : Int))), IntKind.u64.wrap (a0 * a1))
def sig (k : Nat) : Sig := .p [(false, (.i .u64)), (false, (.i .u64))] [.c false (.i .u64), .c false (.i .u64)] fun x => f k x.1 x.2.1
def E (k : Nat) : List (Nat × Sig) := []
noncomputable def d : FD := ⟨133, Tryz.f133, 51, 51, [], [], [], [], [.tmp 4, .tmp 5], .n⟩
def O (k : Nat) : List (Orc (denR ([.c false (.i .u64), .c false (.i .u64)]))) := []
theorem ok (k : Nat) : zU Tryz.prog (133, sig k) := fnP SS d E O sig (fun _ => rfl) Tryz.func133 (by kernel_rfl) rfl (fun k => trivial) trivial (by kernel_rfl) (fun _ => pn) (fun k x => by kernel_rfl) k
end uI
namespace qV
def f (k : Nat) (a0 : Int) (a1 : Int) : Option zB := (uI.f k a0 a1).bind fun r => some (r.2, r.1, 0, 0)
def sig (k : Nat) : Sig := .p [(false, (.i .u64)), (false, (.i .u64))] [.c true y48] fun x => f k x.1 x.2.1
def E (k : Nat) : List (Nat × Sig) := [(133, uI.sig k)]
noncomputable def d : FD := ⟨126, Tryz.f126, 16, 20, [(4, 16, 4)], [], [], [], [.cell 4 184], .n⟩
def O (k : Nat) : List (Orc (denR ([.c true y48]))) := []
theorem ok (k : Nat) : zU Tryz.prog (126, sig k) := fnP SS d E O sig (fun _ => rfl) Tryz.func126 (by kernel_rfl) rfl (fun k => ⟨uI.ok k, trivial⟩) trivial (by kernel_rfl) (fun _ => pn) (fun k x => by kernel_rfl) k
end qV
namespace yO
mutual
def l0 : Nat → Int → Int → zB → Int → zB → zB → Option zB
 | 0, _, _, _, _, _, _ => none
 | k + 1, by_, zBP, t, t2, t3, out => if (decide (t2 < 4)) = true then ((at? ([t.1, t.2.1, t.2.2.1, t.2.2.2] : List Int) t2).bind fun e => (uI.f k e by_).bind fun r => if 0 ≤ r.2 ∧ 0 ≤ zBP ∧ 0 ≤ (0 : Int) ∧ (0 : Int) ≤ 1 then (if 0 ≤ t2 ∧ t2 < (4 : Int) then (if t2.toNat < 4 then (l0 k by_ (IntKind.u64.wrap (r.1 + ((r.2 + zBP + (0 : Int)) / 18446744073709551616))) t (wrap64 (t2 + 1)) t3 ((if t2.toNat = 0 then ((r.2 + zBP + (0 : Int)) % 18446744073709551616) else out.1), (if t2.toNat = 1 then ((r.2 + zBP + (0 : Int)) % 18446744073709551616) else out.2.1), (if t2.toNat = 2 then ((r.2 + zBP + (0 : Int)) % 18446744073709551616) else out.2.2.1), (if t2.toNat = 3 then ((r.2 + zBP + (0 : Int)) % 18446744073709551616) else out.2.2.2))) else none) else none) else none) else (some out)
end
def f (k : Nat) (a0 : zB) (a1 : Int) : Option zB := l0 k a1 0 a0 0 (0, 0, 0, 0) (0, 0, 0, 0)
def sig (k : Nat) : Sig := .p [(true, y48), (false, (.i .u64))] [.c true y48] fun x => f k x.1 x.2.1
def E (k : Nat) : List (Nat × Sig) := [(133, uI.sig k)]
noncomputable def d : FD := ⟨127, Tryz.f127, 38, 50, [(2, 38, 4), (4, 42, 4), (5, 46, 4)], [], [], [], [.cell 4 184], .s .n (.s .n (.s .n (.s (.s .n (.s (.l 0 .n) .n)) .n)))⟩
abbrev s0 : Sh := [(1, .v (.i .u64)), (4, .at_ 42), (5, .at_ 46), (6, .v (.i .u64)), (13, .agg y48), (14, .v (.i .i64)), (42, .box y48), (46, .box y48)]
def O (k : Nat) : List (Orc (denR ([.c true y48]))) := [⟨s0, fun y => l0 k y.1 y.2.2.2.1 y.2.2.2.2.1 y.2.2.2.2.2.1 y.2.2.2.2.2.2.1 y.2.2.2.2.2.2.2.1⟩]
theorem e0 (k : Nat) (y : denS s0) : l0 (k + 1) y.1 y.2.2.2.1 y.2.2.2.2.1 y.2.2.2.2.2.1 y.2.2.2.2.2.2.1 y.2.2.2.2.2.2.2.1 = SS.ev d E O k [1, 1, 1, 0, 1, 0, 0] s0 y := by rw [l0]; kernel_rfl
theorem ok (k : Nat) : zU Tryz.prog (127, sig k) := fnP SS d E O sig (fun _ => rfl) Tryz.func127 (by kernel_rfl) rfl (fun k => ⟨uI.ok k, trivial⟩) ⟨fun _ => rfl, trivial⟩ (by kernel_rfl) (fun k => pc 0 rfl (e0 k) <| pn) (fun k x => by kernel_rfl) k
end yO
namespace vL
mutual
def l0 : Nat → Int → zB → zB → Option Bool
 | 0, _, _, _ => none
 | k + 1, i, a, b => if (decide (0 ≤ i)) = true then (if 0 ≤ i ∧ i < (4 : Int) then ((([a.1, a.2.1, a.2.2.1, a.2.2.2] : List Int)[i.toNat]?).bind fun e => if 0 ≤ i ∧ i < (4 : Int) then ((([b.1, b.2.1, b.2.2.1, b.2.2.2] : List Int)[i.toNat]?).bind fun e2 => if (!decide (e = e2)) = true then (if 0 ≤ i ∧ i < (4 : Int) then ((([a.1, a.2.1, a.2.2.1, a.2.2.2] : List Int)[i.toNat]?).bind fun e3 => if 0 ≤ i ∧ i < (4 : Int) then ((([b.1, b.2.1, b.2.2.1, b.2.2.2] : List Int)[i.toNat]?).bind fun e4 => some (decide (e3 < e4))) else none) else none) else (l0 k (wrap64 (i - 1)) a b)) else none) else none) else (some false)
end
def f (k : Nat) (a0 : zB) (a1 : zB) : Option Bool := l0 k 3 a0 a1
def sig (k : Nat) : Sig := .p [(true, y48), (true, y48)] [.c false .b] fun x => f k x.1 x.2.1
def E (k : Nat) : List (Nat × Sig) := []
noncomputable def d : FD := ⟨128, Tryz.f128, 24, 32, [(2, 24, 4), (3, 28, 4)], [], [], [], [.tmp 4], .s .n (.s (.s .n (.s (.l 0 .n) .n)) .n)⟩
abbrev s0 : Sh := [(2, .at_ 24), (3, .at_ 28), (5, .v (.i .i64)), (24, .box y48), (28, .box y48)]
def O (k : Nat) : List (Orc (denR ([.c false .b]))) := [⟨s0, fun y => l0 k y.2.2.1 y.2.2.2.1 y.2.2.2.2.1⟩]
theorem e0 (k : Nat) (y : denS s0) : l0 (k + 1) y.2.2.1 y.2.2.2.1 y.2.2.2.2.1 = SS.ev d E O k [1, 0, 1, 0, 0] s0 y := by rw [l0]; kernel_rfl
theorem ok (k : Nat) : zU Tryz.prog (128, sig k) := fnP SS d E O sig (fun _ => rfl) Tryz.func128 (by kernel_rfl) rfl (fun k => trivial) ⟨fun _ => rfl, trivial⟩ (by kernel_rfl) (fun k => pc 0 rfl (e0 k) <| pn) (fun k x => by kernel_rfl) k
end vL
namespace vW
mutual
def j0 : Nat → Int → Int → Option Int
 | 0, _, _ => none
 | k + 1, t, s => (qV.f k (IntKind.u64.wrap (t)) (IntKind.u64.wrap (t))).bind fun r3 => (yO.f k r3 (IntKind.u64.wrap (t))).bind fun r4 => (yO.f k r4 100).bind fun r5 => (qV.f k (IntKind.u64.wrap (s)) (IntKind.u64.wrap (s))).bind fun r6 => (yO.f k r6 (IntKind.u64.wrap (s))).bind fun r7 => l1 k 0 10000 r5 r7
def l1 : Nat → Int → Int → zB → zB → Option Int
 | 0, _, _, _, _ => none
 | k + 1, low, high, left, cube => if (decide (low < high)) = true then ((yO.f k cube (IntKind.u64.wrap (wrap64 ((wrap64 ((wrap64 (low + high)) + 1)).tdiv 2)))).bind fun r8 => (vL.f k left r8).bind fun r9 => if r9 = true then (l1 k low (wrap64 ((wrap64 ((wrap64 ((wrap64 (low + high)) + 1)).tdiv 2)) - 1)) left cube) else (l1 k (wrap64 ((wrap64 ((wrap64 (low + high)) + 1)).tdiv 2)) high left cube)) else (some low)
end
def f (k : Nat) (a0 : Int) (a1 : Int) : Option Int := (yR.f k a0).bind fun r => (yR.f k a1).bind fun r2 => if (decide (r ≤ 0)) = true then (some 0) else (if (decide (r2 ≤ 0)) = true then (some 10000) else (if r2 ≠ 0 then (if (decide (5 ≤ (wrap64 (r.tdiv r2)))) = true then (some 10000) else (j0 k r r2)) else none))
def sig (k : Nat) : Sig := .p [(false, (.i .i64)), (false, (.i .i64))] [.c false (.i .i64)] fun x => f k x.1 x.2.1
def E (k : Nat) : List (Nat × Sig) := [(125, yR.sig k), (126, qV.sig k), (127, yO.sig k), (128, vL.sig k)]
noncomputable def d : FD := ⟨107, Tryz.f107, 59, 67, [(5, 59, 4), (6, 63, 4)], [], [], [], [.tmp 4], .s .n (.s .n (.s .n (.j 0 .n (.s .n (.s .n (.s .n (.s (.s (.l 1 .n) .n) .n)))))))⟩
abbrev s0 : Sh := [(0, .v (.i .i64)), (1, .v (.i .i64))]
abbrev s1 : Sh := [(5, .at_ 59), (6, .at_ 63), (7, .v (.i .i64)), (8, .v (.i .i64)), (59, .box y48), (63, .box y48)]
def O (k : Nat) : List (Orc (denR ([.c false (.i .i64)]))) := [⟨s0, fun y => j0 k y.1 y.2.1⟩, ⟨s1, fun y => l1 k y.2.2.1 y.2.2.2.1 y.2.2.2.2.1 y.2.2.2.2.2.1⟩]
theorem e1 (k : Nat) (y : denS s1) : l1 (k + 1) y.2.2.1 y.2.2.2.1 y.2.2.2.2.1 y.2.2.2.2.2.1 = SS.ev d E O k [1, 1, 1, 1, 1, 1, 1, 0, 0, 0] s1 y := by rw [l1]; kernel_rfl
theorem e0 (k : Nat) (y : denS s0) : j0 (k + 1) y.1 y.2.1 = SS.ev d E O k [1, 1, 1, 1] s0 y := by rw [j0]; kernel_rfl
theorem ok (k : Nat) : zU Tryz.prog (107, sig k) := fnP SS d E O sig (fun _ => rfl) Tryz.func107 (by kernel_rfl) rfl (fun k => ⟨yR.ok k, qV.ok k, yO.ok k, vL.ok k, trivial⟩) ⟨fun _ => rfl, fun _ => rfl, trivial⟩ (by kernel_rfl) (fun k => pc 1 rfl (e1 k) <| pc 0 rfl (e0 k) <| pn) (fun k x => by kernel_rfl) k
end vW
namespace uS
def f (k : Nat) (a0 : Int) : Option Int := (yR.f k a0).bind fun r => if (decide (r < 0)) = true then (some (IntKind.u64.wrap (wrap64 (-r)))) else (some (IntKind.u64.wrap (r)))
def sig (k : Nat) : Sig := .p [(false, (.i .i64))] [.c false (.i .u64)] fun x => f k x.1
def E (k : Nat) : List (Nat × Sig) := [(125, yR.sig k)]
noncomputable def d : FD := ⟨135, Tryz.f135, 12, 12, [], [], [], [], [.tmp 2], .n⟩
def O (k : Nat) : List (Orc (denR ([.c false (.i .u64)]))) := []
theorem ok (k : Nat) : zU Tryz.prog (135, sig k) := fnP SS d E O sig (fun _ => rfl) Tryz.func135 (by kernel_rfl) rfl (fun k => ⟨yR.ok k, trivial⟩) trivial (by kernel_rfl) (fun _ => pn) (fun k x => by kernel_rfl) k
end uS
namespace zAs
mutual
def l0 : Nat → Int → Int → Option Int
 | 0, _, _ => none
 | k + 1, x, y => if (decide (0 < y)) = true then (if y ≠ 0 then (l0 k y (x.tmod y)) else none) else (some (wrap64 (x)))
end
def f (k : Nat) (a0 : Int) (a1 : Int) : Option Int := (uS.f k a0).bind fun r => (uS.f k a1).bind fun r2 => l0 k r r2
def sig (k : Nat) : Sig := .p [(false, (.i .i64)), (false, (.i .i64))] [.c false (.i .i64)] fun x => f k x.1 x.2.1
def E (k : Nat) : List (Nat × Sig) := [(135, uS.sig k)]
noncomputable def d : FD := ⟨129, Tryz.f129, 19, 19, [], [], [], [], [.tmp 4], .s .n (.s .n (.s (.s (.l 0 .n) .n) .n))⟩
abbrev s0 : Sh := [(5, .v (.i .u64)), (6, .v (.i .u64))]
def O (k : Nat) : List (Orc (denR ([.c false (.i .i64)]))) := [⟨s0, fun y => l0 k y.1 y.2.1⟩]
theorem e0 (k : Nat) (y : denS s0) : l0 (k + 1) y.1 y.2.1 = SS.ev d E O k [1, 1, 0, 0, 0] s0 y := by rw [l0]; kernel_rfl
theorem ok (k : Nat) : zU Tryz.prog (129, sig k) := fnP SS d E O sig (fun _ => rfl) Tryz.func129 (by kernel_rfl) rfl (fun k => ⟨uS.ok k, trivial⟩) ⟨fun _ => rfl, trivial⟩ (by kernel_rfl) (fun k => pc 0 rfl (e0 k) <| pn) (fun k x => by kernel_rfl) k
end zAs
namespace uP
mutual
def j0 : Nat → Int → Int → Option (Int × Int)
 | 0, _, _ => none
 | k + 1, a, b => (zAs.f k a b).bind fun r3 => if r3 ≠ 0 then (if r3 ≠ 0 then (some (wrap64 (a.tdiv r3), wrap64 (b.tdiv r3))) else none) else none
end
def f (k : Nat) (a0 : Int) (a1 : Int) : Option (Int × Int) := (yR.f k a0).bind fun r => (yR.f k a1).bind fun r2 => if (decide (r2 = 0)) = true then (some (0, 1)) else (if (decide (r2 < 0)) = true then (j0 k (wrap64 (-r)) (wrap64 (-r2))) else (j0 k r r2))
def sig (k : Nat) : Sig := .p [(false, (.i .i64)), (false, (.i .i64))] [.c false (.i .i64), .c false (.i .i64)] fun x => f k x.1 x.2.1
def E (k : Nat) : List (Nat × Sig) := [(125, yR.sig k), (129, zAs.sig k)]
noncomputable def d : FD := ⟨108, Tryz.f108, 28, 28, [], [], [], [], [.tmp 4, .tmp 5], .s .n (.s .n (.s .n (.j 0 .n .n)))⟩
abbrev s0 : Sh := [(0, .v (.i .i64)), (1, .v (.i .i64))]
def O (k : Nat) : List (Orc (denR ([.c false (.i .i64), .c false (.i .i64)]))) := [⟨s0, fun y => j0 k y.1 y.2.1⟩]
theorem e0 (k : Nat) (y : denS s0) : j0 (k + 1) y.1 y.2.1 = SS.ev d E O k [1, 1, 1, 1] s0 y := by rw [j0]; kernel_rfl
theorem ok (k : Nat) : zU Tryz.prog (108, sig k) := fnP SS d E O sig (fun _ => rfl) Tryz.func108 (by kernel_rfl) rfl (fun k => ⟨yR.ok k, zAs.ok k, trivial⟩) ⟨fun _ => rfl, trivial⟩ (by kernel_rfl) (fun k => pc 0 rfl (e0 k) <| pn) (fun k x => by kernel_rfl) k
end uP
namespace uB
mutual
def j0 : Nat → Int → zB → wC → wC → Option wC
 | 0, _, _, _, _ => none
 | k + 1, t, t2, t3, t4 => (uP.f k t t2.2.1).bind fun r5 => if (decide (12 < t4.2.2.1)) = true then (j3 k t3 (r5.1, r5.2, t4.2.2.1, 2, t4.2.2.2.2)) else (j3 k t3 (r5.1, r5.2, t4.2.2.1, t4.2.2.2.1, t4.2.2.2.2))
def j1 : Nat → zB → wC → wC → Option wC
 | 0, _, _, _ => none
 | k + 1, t5, t6, t7 => if (decide (0 < t5.2.2.1)) = true then (some ((-1), t7.2.1, t7.2.2.1, t7.2.2.2.1, t7.2.2.2.2)) else (some t7)
def j2 : Nat → Int → zB → wC → Option wC
 | 0, _, _, _ => none
 | k + 1, t8, t9, t10 => (vW.f k (wrap64 (-t8)) t9.2.2.1).bind fun r6 => (uP.f k t8 t9.2.2.1).bind fun r7 => if (decide (12 < r6)) = true then (some (r7.1, r7.2, r6, 0, (false))) else (some (r7.1, r7.2, r6, 1, (false)))
def j3 : Nat → wC → wC → Option wC
 | 0, _, _ => none
 | k + 1, t11, t12 => if (decide (99 < t12.2.2.1)) = true then (some (t12.1, t12.2.1, t12.2.2.1, 3, t12.2.2.2.2)) else (some t12)
end
def f (k : Nat) (a0 : zB) (a1 : Int) : Option wC := if (decide ((wrap64 (a1 - a0.1)) = 0)) = true then (some (0, 1, 0, 1, (false))) else (if (decide (0 < (wrap64 (a1 - a0.1)))) = true then (if (decide (0 < a0.2.2.2)) = true then (some (0, 1, 0, 1, (false))) else (if (decide (0 < (wrap64 (a1 - a0.1)))) = true then (if (decide (a0.2.1 = 0)) = true then (some (0, 1, 10000, 3, (false))) else (if (decide (0 < (wrap64 (a1 - a0.1)))) = true then ((vW.f k (wrap64 (a1 - a0.1)) a0.2.1).bind fun r => j0 k (wrap64 (a1 - a0.1)) a0 (0, 0, 0, 0, (false)) (0, 0, r, 1, (false))) else (if (decide (a0.2.2.1 < (wrap64 (-(wrap64 (a1 - a0.1)))))) = true then (j1 k a0 (0, 0, 0, 0, (false)) (0, 1, 10000, 0, (true))) else (j2 k (wrap64 (a1 - a0.1)) a0 (0, 0, 0, 0, (false)))))) else (if (decide (0 < (wrap64 (a1 - a0.1)))) = true then ((vW.f k (wrap64 (a1 - a0.1)) a0.2.1).bind fun r2 => j0 k (wrap64 (a1 - a0.1)) a0 (0, 0, 0, 0, (false)) (0, 0, r2, 1, (false))) else (if (decide (a0.2.2.1 < (wrap64 (-(wrap64 (a1 - a0.1)))))) = true then (j1 k a0 (0, 0, 0, 0, (false)) (0, 1, 10000, 0, (true))) else (j2 k (wrap64 (a1 - a0.1)) a0 (0, 0, 0, 0, (false))))))) else (if (decide (0 < (wrap64 (a1 - a0.1)))) = true then (if (decide (a0.2.1 = 0)) = true then (some (0, 1, 10000, 3, (false))) else (if (decide (0 < (wrap64 (a1 - a0.1)))) = true then ((vW.f k (wrap64 (a1 - a0.1)) a0.2.1).bind fun r3 => j0 k (wrap64 (a1 - a0.1)) a0 (0, 0, 0, 0, (false)) (0, 0, r3, 1, (false))) else (if (decide (a0.2.2.1 < (wrap64 (-(wrap64 (a1 - a0.1)))))) = true then (j1 k a0 (0, 0, 0, 0, (false)) (0, 1, 10000, 0, (true))) else (j2 k (wrap64 (a1 - a0.1)) a0 (0, 0, 0, 0, (false)))))) else (if (decide (0 < (wrap64 (a1 - a0.1)))) = true then ((vW.f k (wrap64 (a1 - a0.1)) a0.2.1).bind fun r4 => j0 k (wrap64 (a1 - a0.1)) a0 (0, 0, 0, 0, (false)) (0, 0, r4, 1, (false))) else (if (decide (a0.2.2.1 < (wrap64 (-(wrap64 (a1 - a0.1)))))) = true then (j1 k a0 (0, 0, 0, 0, (false)) (0, 1, 10000, 0, (true))) else (j2 k (wrap64 (a1 - a0.1)) a0 (0, 0, 0, 0, (false)))))))
def sig (k : Nat) : Sig := .p [(true, y53), (false, (.i .i64))] [.c true y52] fun x => f k x.1 x.2.1
def E (k : Nat) : List (Nat × Sig) := [(107, vW.sig k), (108, uP.sig k)]
noncomputable def d : FD := ⟨77, Tryz.f77, 93, 117, [(2, 93, 4), (4, 97, 5), (6, 102, 5), (7, 107, 5), (8, 112, 5)], [], [], [], [.cell 4 92], .s .n (.s .n (.j 2 (.s (.s .n (.s .n (.s .n (.s .n (.s .n (.s (.j 0 .n (.s .n (.j 3 .n .n))) (.s .n (.s (.j 1 .n .n) .n)))))))) .n) .n))⟩
abbrev s0 : Sh := [(2, .at_ 93), (4, .at_ 97), (5, .v (.i .i64)), (6, .at_ 102), (93, .box y53), (97, .box y52), (102, .box y52)]
abbrev s1 : Sh := [(2, .at_ 93), (4, .at_ 97), (7, .at_ 107), (93, .box y53), (97, .box y52), (107, .box y52)]
abbrev s2 : Sh := [(2, .at_ 93), (4, .at_ 97), (5, .v (.i .i64)), (93, .box y53), (97, .box y52)]
abbrev s3 : Sh := [(4, .at_ 97), (6, .at_ 102), (97, .box y52), (102, .box y52)]
def O (k : Nat) : List (Orc (denR ([.c true y52]))) := [⟨s0, fun y => j0 k y.2.2.1 y.2.2.2.2.1 y.2.2.2.2.2.1 y.2.2.2.2.2.2.1⟩, ⟨s1, fun y => j1 k y.2.2.2.1 y.2.2.2.2.1 y.2.2.2.2.2.1⟩, ⟨s2, fun y => j2 k y.2.2.1 y.2.2.2.1 y.2.2.2.2.1⟩, ⟨s3, fun y => j3 k y.2.2.1 y.2.2.2.1⟩]
theorem e3 (k : Nat) (y : denS s3) : j3 (k + 1) y.2.2.1 y.2.2.2.1 = SS.ev d E O k [1, 1, 0, 0, 1, 1, 1, 1, 1, 0, 1, 1, 1] s3 y := by rw [j3]; kernel_rfl
theorem e0 (k : Nat) (y : denS s0) : j0 (k + 1) y.2.2.1 y.2.2.2.2.1 y.2.2.2.2.2.1 y.2.2.2.2.2.2.1 = SS.ev d E O k [1, 1, 0, 0, 1, 1, 1, 1, 1, 0, 1] s0 y := by rw [j0]; kernel_rfl
theorem e1 (k : Nat) (y : denS s1) : j1 (k + 1) y.2.2.2.1 y.2.2.2.2.1 y.2.2.2.2.2.1 = SS.ev d E O k [1, 1, 0, 0, 1, 1, 1, 1, 1, 1, 1, 0, 1] s1 y := by rw [j1]; kernel_rfl
theorem e2 (k : Nat) (y : denS s2) : j2 (k + 1) y.2.2.1 y.2.2.2.1 y.2.2.2.2.1 = SS.ev d E O k [1, 1, 1] s2 y := by rw [j2]; kernel_rfl
theorem ok (k : Nat) : zU Tryz.prog (77, sig k) := fnP SS d E O sig (fun _ => rfl) Tryz.func77 (by kernel_rfl) rfl (fun k => ⟨vW.ok k, uP.ok k, trivial⟩) ⟨fun _ => rfl, fun _ => rfl, fun _ => rfl, fun _ => rfl, trivial⟩ (by kernel_rfl) (fun k => pc 3 rfl (e3 k) <| pc 0 rfl (e0 k) <| pc 1 rfl (e1 k) <| pc 2 rfl (e2 k) <| pn) (fun k x => by kernel_rfl) k
end uB
namespace wK
mutual
def j0 : Nat → zE → Int → Int → zB → Option zB
 | 0, _, _, _, _ => none
 | k + 1, t, t2, t3, t4 => (wT.f k t t2).bind fun r => (at? t.2.1 t3).bind fun e => (at? t.2.1 (if t3 < r then t3 else r)).bind fun e2 => (at? t.2.2.1 t3).bind fun e3 => (at? t.2.2.1 (if t3 < r then t3 else r)).bind fun e4 => (at? t.2.2.2.1 t3).bind fun e5 => (at? t.2.2.2.1 (if t3 < r then t3 else r)).bind fun e6 => (at? t.2.2.2.2.1 t3).bind fun e7 => (at? t.2.2.2.2.1 (if t3 < r then t3 else r)).bind fun e8 => (at? t.1 t3).bind fun e9 => if (decide (e9.1 = 3)) = true then ((at? t.1 t3).bind fun e10 => some (wrap64 ((wrap64 (e - e2)) + e10.2.1), wrap64 (e3 - e4), wrap64 (e5 - e6), wrap64 (e7 - e8))) else (some (wrap64 (e - e2), wrap64 (e3 - e4), wrap64 (e5 - e6), wrap64 (e7 - e8)))
end
def f (k : Nat) (a0 : zE) (a1 : Int) (a2 : Int) : Option zB := if (decide (a2 < 0)) = true then (some (0, 0, 0, 0)) else (if (decide ((a0.1.length : Int) ≤ a2)) = true then (some (0, 0, 0, 0)) else (j0 k a0 a1 a2 (0, 0, 0, 0)))
def sig (k : Nat) : Sig := .p [(false, y45), (false, (.i .i64)), (false, (.i .i64))] [.c true y53] fun x => f k x.1 x.2.1 x.2.2.1
def E (k : Nat) : List (Nat × Sig) := [(55, wT.sig k)]
noncomputable def d : FD := ⟨78, Tryz.f78, 109, 117, [(6, 109, 4), (8, 113, 4)], [], [], [], [.cell 6 143], .s .n (.j 0 .n .n)⟩
abbrev s0 : Sh := [(0, .v y45), (1, .v (.i .i64)), (2, .v (.i .i64)), (6, .at_ 109), (109, .box y53)]
def O (k : Nat) : List (Orc (denR ([.c true y53]))) := [⟨s0, fun y => j0 k y.1 y.2.1 y.2.2.1 y.2.2.2.2.1⟩]
theorem e0 (k : Nat) (y : denS s0) : j0 (k + 1) y.1 y.2.1 y.2.2.1 y.2.2.2.2.1 = SS.ev d E O k [1, 1] s0 y := by rw [j0]; kernel_rfl
theorem ok (k : Nat) : zU Tryz.prog (78, sig k) := fnP SS d E O sig (fun _ => rfl) Tryz.func78 (by kernel_rfl) rfl (fun k => ⟨wT.ok k, trivial⟩) ⟨fun _ => rfl, trivial⟩ (by kernel_rfl) (fun k => pc 0 rfl (e0 k) <| pn) (fun k x => by kernel_rfl) k
end wK
namespace xX
def f (k : Nat) (a0 : zE) (a1 : Int) (a2 : Int) (a3 : Int) : Option wC := (wK.f k a0 a1 a2).bind fun r => (uB.f k r a3).bind fun r2 => some r2
def sig (k : Nat) : Sig := .p [(false, y45), (false, (.i .i64)), (false, (.i .i64)), (false, (.i .i64))] [.c true y52] fun x => f k x.1 x.2.1 x.2.2.1 x.2.2.2.1
def E (k : Nat) : List (Nat × Sig) := [(77, uB.sig k), (78, wK.sig k)]
noncomputable def d : FD := ⟨51, Tryz.f51, 15, 20, [(8, 15, 5)], [], [], [], [.cell 8 92], .n⟩
def O (k : Nat) : List (Orc (denR ([.c true y52]))) := []
theorem ok (k : Nat) : zU Tryz.prog (51, sig k) := fnP SS d E O sig (fun _ => rfl) Tryz.func51 (by kernel_rfl) rfl (fun k => ⟨uB.ok k, wK.ok k, trivial⟩) trivial (by kernel_rfl) (fun _ => pn) (fun k x => by kernel_rfl) k
end xX
namespace qU
mutual
def l0 : Nat → Int → Int → (List zJ) → Int → (List zJ) → Int → Int → Option (List zJ)
 | 0, _, _, _, _, _, _, _ => none
 | k + 1, t, t2, t3, t4, t5, t6, t7 => if (decide (t7 < t6)) = true then ((at? t5 t7).bind fun e => if (decide ((wrap64 ((if (wrap64 (t4 + e.1)) < t2 then (wrap64 (t4 + e.1)) else t2) - (if t < t4 then t4 else t))) ≤ 0)) = true then (l0 k t t2 t3 (wrap64 (t4 + e.1)) t5 t6 (wrap64 (t7 + 1))) else (if (decide (0 ≤ (wrap64 ((t3.length : Int) - 1)))) = true then (if 0 ≤ (wrap64 ((t3.length : Int) - 1)) ∧ (wrap64 ((t3.length : Int) - 1)) < (t3.length : Int) then ((t3[(wrap64 ((t3.length : Int) - 1)).toNat]?).bind fun e2 => if (decide (e2.2 = e.2)) = true then (if 0 ≤ (wrap64 ((t3.length : Int) - 1)) ∧ (wrap64 ((t3.length : Int) - 1)) < (t3.length : Int) then ((t3[(wrap64 ((t3.length : Int) - 1)).toNat]?).bind fun e3 => if 0 ≤ (wrap64 ((t3.length : Int) - 1)) ∧ (wrap64 ((t3.length : Int) - 1)) < (t3.length : Int) then ((t3[(wrap64 ((t3.length : Int) - 1)).toNat]?).bind fun e4 => l0 k t t2 (t3.set ((wrap64 ((t3.length : Int) - 1)).toNat) (wrap64 (e3.1 + (wrap64 ((if (wrap64 (t4 + e.1)) < t2 then (wrap64 (t4 + e.1)) else t2) - (if t < t4 then t4 else t)))), e4.2)) (wrap64 (t4 + e.1)) t5 t6 (wrap64 (t7 + 1))) else none) else none) else (j1 k t t2 t3 (wrap64 (t4 + e.1)) (wrap64 ((if (wrap64 (t4 + e.1)) < t2 then (wrap64 (t4 + e.1)) else t2) - (if t < t4 then t4 else t))) t5 t6 t7 e)) else none) else (j1 k t t2 t3 (wrap64 (t4 + e.1)) (wrap64 ((if (wrap64 (t4 + e.1)) < t2 then (wrap64 (t4 + e.1)) else t2) - (if t < t4 then t4 else t))) t5 t6 t7 e))) else (some t3)
def j1 : Nat → Int → Int → (List zJ) → Int → Int → (List zJ) → Int → Int → zJ → Option (List zJ)
 | 0, _, _, _, _, _, _, _, _, _ => none
 | k + 1, t8, t9, t10, t11, t12, t13, t14, t15, t16 => if (t10.length + ([(t12, t16.2)] : List zJ).length) * 16 ≤ 140737488355328 then (l0 k t8 t9 (t10 ++ ([(t12, t16.2)] : List zJ)) t11 t13 t14 (wrap64 (t15 + 1))) else none
end
def f (k : Nat) (a0 : (List zJ)) (a1 : Int) (a2 : Int) : Option (List zJ) := l0 k a1 a2 ([] : List zJ) 0 a0 (a0.length : Int) 0
def sig (k : Nat) : Sig := .p [(false, y55), (false, (.i .i64)), (false, (.i .i64))] [.c false y54] fun x => f k x.1 x.2.1 x.2.2.1
def E (k : Nat) : List (Nat × Sig) := []
noncomputable def d : FD := ⟨53, Tryz.f53, 68, 70, [(10, 68, 2)], [], [], [], [.tmp 6], .s .n (.s .n (.s .n (.s (.s .n (.s (.l 0 (.s .n (.s .n (.s (.s (.s .n (.s .n (.s .n (.s .n (.j 1 .n .n))))) .n) .n)))) .n)) .n)))⟩
abbrev s0 : Sh := [(1, .v (.i .i64)), (2, .v (.i .i64)), (7, .v y54), (8, .v (.i .i64)), (13, .v y55), (14, .v (.i .i64)), (15, .v (.i .i64))]
abbrev s1 : Sh := [(1, .v (.i .i64)), (2, .v (.i .i64)), (7, .v y54), (8, .v (.i .i64)), (10, .at_ 68), (11, .v (.i .i64)), (13, .v y55), (14, .v (.i .i64)), (15, .v (.i .i64)), (68, .box y0)]
def O (k : Nat) : List (Orc (denR ([.c false y54]))) := [⟨s0, fun y => l0 k y.1 y.2.1 y.2.2.1 y.2.2.2.1 y.2.2.2.2.1 y.2.2.2.2.2.1 y.2.2.2.2.2.2.1⟩, ⟨s1, fun y => j1 k y.1 y.2.1 y.2.2.1 y.2.2.2.1 y.2.2.2.2.2.1 y.2.2.2.2.2.2.1 y.2.2.2.2.2.2.2.1 y.2.2.2.2.2.2.2.2.1 y.2.2.2.2.2.2.2.2.2.1⟩]
theorem e1 (k : Nat) (y : denS s1) : j1 (k + 1) y.1 y.2.1 y.2.2.1 y.2.2.2.1 y.2.2.2.2.2.1 y.2.2.2.2.2.2.1 y.2.2.2.2.2.2.2.1 y.2.2.2.2.2.2.2.2.1 y.2.2.2.2.2.2.2.2.2.1 = SS.ev d E O k [1, 1, 1, 0, 1, 0, 0, 1, 1, 0, 0, 1, 1, 1, 1, 1] s1 y := by rw [j1]; kernel_rfl
theorem e0 (k : Nat) (y : denS s0) : l0 (k + 1) y.1 y.2.1 y.2.2.1 y.2.2.2.1 y.2.2.2.2.1 y.2.2.2.2.2.1 y.2.2.2.2.2.2.1 = SS.ev d E O k [1, 1, 1, 0, 1, 0, 0] s0 y := by rw [l0]; kernel_rfl
theorem ok (k : Nat) : zU Tryz.prog (53, sig k) := fnP SS d E O sig (fun _ => rfl) Tryz.func53 (by kernel_rfl) rfl (fun k => trivial) ⟨fun _ => rfl, fun _ => rfl, trivial⟩ (by kernel_rfl) (fun k => pc 1 rfl (e1 k) <| pc 0 rfl (e0 k) <| pn) (fun k x => by kernel_rfl) k
end qU
namespace wI
def f (k : Nat) (a0 : A1) (a1 : Int) : Option Int := if (decide (a1 < 0)) = true then (some 43) else (if (decide ((a0.length : Int) ≤ a1)) = true then (some 43) else (some 0))
def sig (k : Nat) : Sig := .p [(false, y56), (false, (.i .i64))] [.c false (.i .i64)] fun x => f k x.1 x.2.1
def E (k : Nat) : List (Nat × Sig) := []
noncomputable def d : FD := ⟨85, Tryz.f85, 16, 16, [], [], [], [], [.tmp 4], .n⟩
def O (k : Nat) : List (Orc (denR ([.c false (.i .i64)]))) := []
theorem ok (k : Nat) : zU Tryz.prog (85, sig k) := fnP SS d E O sig (fun _ => rfl) Tryz.func85 (by kernel_rfl) rfl (fun k => trivial) trivial (by kernel_rfl) (fun _ => pn) (fun k x => by kernel_rfl) k
end wI
namespace yU
def f (k : Nat) (a0 : A1) (a1 : Int) : Option A5 := (wI.f k a0 a1).bind fun r => if (!decide (r = 0)) = true then (some (0, 0, 0, 0, 0, 0, ([] : List xO), (false))) else ((at? a0 a1).bind fun e => some e)
def sig (k : Nat) : Sig := .p [(false, y66), (false, (.i .i64))] [.c true y64] fun x => f k x.1 x.2.1
def E (k : Nat) : List (Nat × Sig) := [(85, wI.sig k)]
noncomputable def d : FD := ⟨109, Tryz.f109, 17, 25, [(4, 17, 8)], [], [], [], [.cell 4 68], .n⟩
def O (k : Nat) : List (Orc (denR ([.c true y64]))) := []
theorem ok (k : Nat) : zU Tryz.prog (109, sig k) := fnP SS d E O sig (fun _ => rfl) Tryz.func109 (by kernel_rfl) rfl (fun k => ⟨wI.ok k, trivial⟩) trivial (by kernel_rfl) (fun _ => pn) (fun k x => by kernel_rfl) k
end yU
namespace yZ
def f (k : Nat) (a0 : A1) (a1 : Int) : Option Int := (yU.f k a0 a1).bind fun r => some r.1
def sig (k : Nat) : Sig := .p [(false, y66), (false, (.i .i64))] [.c false (.i .i64)] fun x => f k x.1 x.2.1
def E (k : Nat) : List (Nat × Sig) := [(109, yU.sig k)]
noncomputable def d : FD := ⟨80, Tryz.f80, 9, 9, [], [], [], [], [.tmp 4], .n⟩
def O (k : Nat) : List (Orc (denR ([.c false (.i .i64)]))) := []
theorem ok (k : Nat) : zU Tryz.prog (80, sig k) := fnP SS d E O sig (fun _ => rfl) Tryz.func80 (by kernel_rfl) rfl (fun k => ⟨yU.ok k, trivial⟩) trivial (by kernel_rfl) (fun _ => pn) (fun k x => by kernel_rfl) k
end yZ
namespace xT
mutual
def l0 : Nat → A1 → Int → (List zJ) → Int → Int → Option Int
 | 0, _, _, _, _, _ => none
 | k + 1, t, most, t2, t3, t4 => if (decide (t4 < t3)) = true then ((at? t2 t4).bind fun e => if (decide (0 < e.1)) = true then ((yZ.f k t e.2).bind fun r => l0 k t (if most < r then r else most) t2 t3 (wrap64 (t4 + 1))) else (l0 k t most t2 t3 (wrap64 (t4 + 1)))) else (if (decide (most = 0)) = true then ((yZ.f k t 0).bind fun r2 => some r2) else (some most))
end
def f (k : Nat) (a0 : A1) (a1 : (List zJ)) : Option Int := l0 k a0 0 a1 (a1.length : Int) 0
def sig (k : Nat) : Sig := .p [(false, y66), (false, y55)] [.c false (.i .i64)] fun x => f k x.1 x.2.1
def E (k : Nat) : List (Nat × Sig) := [(80, yZ.sig k)]
noncomputable def d : FD := ⟨79, Tryz.f79, 29, 31, [(7, 29, 2)], [], [], [], [.tmp 4], .s .n (.s .n (.s (.s .n (.s (.l 0 .n) .n)) .n))⟩
abbrev s0 : Sh := [(0, .v y66), (5, .v (.i .i64)), (8, .v y55), (9, .v (.i .i64)), (10, .v (.i .i64))]
def O (k : Nat) : List (Orc (denR ([.c false (.i .i64)]))) := [⟨s0, fun y => l0 k y.1 y.2.1 y.2.2.1 y.2.2.2.1 y.2.2.2.2.1⟩]
theorem e0 (k : Nat) (y : denS s0) : l0 (k + 1) y.1 y.2.1 y.2.2.1 y.2.2.2.1 y.2.2.2.2.1 = SS.ev d E O k [1, 1, 0, 1, 0, 0] s0 y := by rw [l0]; kernel_rfl
theorem ok (k : Nat) : zU Tryz.prog (79, sig k) := fnP SS d E O sig (fun _ => rfl) Tryz.func79 (by kernel_rfl) rfl (fun k => ⟨yZ.ok k, trivial⟩) ⟨fun _ => rfl, trivial⟩ (by kernel_rfl) (fun k => pc 0 rfl (e0 k) <| pn) (fun k x => by kernel_rfl) k
end xT
namespace zAc
mutual
def l0 : Nat → A1 → (List zJ) → Int → Option Int
 | 0, _, _, _ => none
 | k + 1, t, all, k_ => if (decide (0 ≤ k_)) = true then ((at? all k_).bind fun e => if (decide (0 < e.1)) = true then ((at? all k_).bind fun e2 => (yZ.f k t e2.2).bind fun r2 => some r2) else (l0 k t all (wrap64 (k_ - 1)))) else ((yZ.f k t 0).bind fun r3 => some r3)
end
def f (k : Nat) (a0 : A1) (a1 : (List zJ)) (a2 : (List zJ)) : Option Int := if (decide (0 < (a1.length : Int))) = true then ((xT.f k a0 a1).bind fun r => some r) else (l0 k a0 a2 (wrap64 ((a2.length : Int) - 1)))
def sig (k : Nat) : Sig := .p [(false, y66), (false, y55), (false, y55)] [.c false (.i .i64)] fun x => f k x.1 x.2.1 x.2.2.1
def E (k : Nat) : List (Nat × Sig) := [(79, xT.sig k), (80, yZ.sig k)]
noncomputable def d : FD := ⟨54, Tryz.f54, 36, 36, [], [], [], [], [.tmp 6], .s .n (.s .n (.s (.s .n (.s (.l 0 .n) .n)) .n))⟩
abbrev s0 : Sh := [(0, .v y66), (2, .v y55), (7, .v (.i .i64))]
def O (k : Nat) : List (Orc (denR ([.c false (.i .i64)]))) := [⟨s0, fun y => l0 k y.1 y.2.1 y.2.2.1⟩]
theorem e0 (k : Nat) (y : denS s0) : l0 (k + 1) y.1 y.2.1 y.2.2.1 = SS.ev d E O k [1, 1, 0, 1, 0, 0] s0 y := by rw [l0]; kernel_rfl
theorem ok (k : Nat) : zU Tryz.prog (54, sig k) := fnP SS d E O sig (fun _ => rfl) Tryz.func54 (by kernel_rfl) rfl (fun k => ⟨xT.ok k, yZ.ok k, trivial⟩) ⟨fun _ => rfl, trivial⟩ (by kernel_rfl) (fun k => pc 0 rfl (e0 k) <| pn) (fun k x => by kernel_rfl) k
end zAc
namespace qC
mutual
def l0 : Nat → A1 → ByteArray → (List zJ) → zE → Int → A7 → Int → Int → (List Int) → Int → Int → zO → Option A6
 | 0, _, _, _, _, _, _, _, _, _, _, _, _ => none
 | k + 1, t, t2, t3, t4, t5, t6, t7, t8, t9, t10, t11, t12 => if (decide (t11 < t10)) = true then (if 0 ≤ t11 ∧ t11 < (t9.length : Int) then ((t9[t11.toNat]?).bind fun e => (at? t12.1 t11).bind fun e2 => (xX.f k t4 t8 e2 t5).bind fun r2 => (at? t12.1 t11).bind fun e3 => (zS.f k t4 e3).bind fun r3 => (qU.f k t3 t7 e).bind fun r4 => (sSub t2 t7 e).bind fun v => (zAc.f k t r4 t3).bind fun r5 => if r3.2.2.2.2.2.2.1 = true then (if (t6.length + ([(v, r4, r2.1, r2.2.1, r5, decide (r3.2.2.2.2.2.2.2.1 < r3.2.2.2.2.2.2.2.2), 0, decide (t11 = 0), decide (t11 = (wrap64 ((t12.1.length : Int) - 1))))] : List (ByteArray × List zJ × Int × Int × Int × Bool × Int × Bool × Bool)).length) * 88 ≤ 140737488355328 then (j1 k t t2 t3 t4 t5 (t6 ++ ([(v, r4, r2.1, r2.2.1, r5, decide (r3.2.2.2.2.2.2.2.1 < r3.2.2.2.2.2.2.2.2), 0, decide (t11 = 0), decide (t11 = (wrap64 ((t12.1.length : Int) - 1))))] : List (ByteArray × List zJ × Int × Int × Int × Bool × Int × Bool × Bool))) t11 e t9 t10 t11 t12) else none) else (if (t6.length + ([(v, r4, r2.1, r2.2.1, r5, (false), 0, decide (t11 = 0), decide (t11 = (wrap64 ((t12.1.length : Int) - 1))))] : List (ByteArray × List zJ × Int × Int × Int × Bool × Int × Bool × Bool)).length) * 88 ≤ 140737488355328 then (j1 k t t2 t3 t4 t5 (t6 ++ ([(v, r4, r2.1, r2.2.1, r5, (false), 0, decide (t11 = 0), decide (t11 = (wrap64 ((t12.1.length : Int) - 1))))] : List (ByteArray × List zJ × Int × Int × Int × Bool × Int × Bool × Bool))) t11 e t9 t10 t11 t12) else none)) else none) else (some t6)
def j1 : Nat → A1 → ByteArray → (List zJ) → zE → Int → A7 → Int → Int → (List Int) → Int → Int → zO → Option A6
 | 0, _, _, _, _, _, _, _, _, _, _, _, _ => none
 | k + 1, t13, t14, t15, t16, t17, t18, t19, t20, t21, t22, t23, t24 => (at? t24.1 t19).bind fun e4 => l0 k t13 t14 t15 t16 t17 t18 t20 e4 t21 t22 (wrap64 (t23 + 1)) t24
end
def f (k : Nat) (a0 : A1) (a1 : ByteArray) (a2 : (List zJ)) (a3 : zE) (a4 : zO) (a5 : Int) : Option A6 := (qR.f k a3 a4.1 (a1.size : Int)).bind fun r => l0 k a0 a1 a2 a3 a5 ([] : List (ByteArray × List zJ × Int × Int × Int × Bool × Int × Bool × Bool)) 0 (-1) r (r.length : Int) 0 a4
def sig (k : Nat) : Sig := .p [(false, y66), (false, .s), (false, y55), (false, y86), (true, y87), (false, (.i .i64))] [.c false y76] fun x => f k x.1 x.2.1 x.2.2.1 x.2.2.2.1 x.2.2.2.2.1 x.2.2.2.2.2.1
def E (k : Nat) : List (Nat × Sig) := [(19, qR.sig k), (51, xX.sig k), (52, zS.sig k), (53, qU.sig k), (54, zAc.sig k)]
noncomputable def d : FD := ⟨18, Tryz.f18, 95, 112, [(10, 95, 3), (18, 98, 5), (19, 103, 9)], [], [], [], [.tmp 12], .s .n (.s .n (.s .n (.s (.s .n (.s (.l 0 (.s .n (.s .n (.s (.s (.s .n (.s .n (.s .n (.s .n (.j 1 .n .n))))) .n) .n)))) .n)) .n)))⟩
abbrev s0 : Sh := [(0, .v y66), (1, .v .s), (2, .v y55), (3, .v y86), (5, .v (.i .i64)), (10, .at_ 95), (13, .v y76), (14, .v (.i .i64)), (15, .v (.i .i64)), (26, .v y10), (27, .v (.i .i64)), (28, .v (.i .i64)), (95, .box y87)]
abbrev s1 : Sh := [(0, .v y66), (1, .v .s), (2, .v y55), (3, .v y86), (5, .v (.i .i64)), (10, .at_ 95), (13, .v y76), (16, .v (.i .i64)), (17, .v (.i .i64)), (26, .v y10), (27, .v (.i .i64)), (28, .v (.i .i64)), (95, .box y87)]
def O (k : Nat) : List (Orc (denR ([.c false y76]))) := [⟨s0, fun y => l0 k y.1 y.2.1 y.2.2.1 y.2.2.2.1 y.2.2.2.2.1 y.2.2.2.2.2.2.1 y.2.2.2.2.2.2.2.1 y.2.2.2.2.2.2.2.2.1 y.2.2.2.2.2.2.2.2.2.1 y.2.2.2.2.2.2.2.2.2.2.1 y.2.2.2.2.2.2.2.2.2.2.2.1 y.2.2.2.2.2.2.2.2.2.2.2.2.1⟩, ⟨s1, fun y => j1 k y.1 y.2.1 y.2.2.1 y.2.2.2.1 y.2.2.2.2.1 y.2.2.2.2.2.2.1 y.2.2.2.2.2.2.2.1 y.2.2.2.2.2.2.2.2.1 y.2.2.2.2.2.2.2.2.2.1 y.2.2.2.2.2.2.2.2.2.2.1 y.2.2.2.2.2.2.2.2.2.2.2.1 y.2.2.2.2.2.2.2.2.2.2.2.2.1⟩]
theorem e1 (k : Nat) (y : denS s1) : j1 (k + 1) y.1 y.2.1 y.2.2.1 y.2.2.2.1 y.2.2.2.2.1 y.2.2.2.2.2.2.1 y.2.2.2.2.2.2.2.1 y.2.2.2.2.2.2.2.2.1 y.2.2.2.2.2.2.2.2.2.1 y.2.2.2.2.2.2.2.2.2.2.1 y.2.2.2.2.2.2.2.2.2.2.2.1 y.2.2.2.2.2.2.2.2.2.2.2.2.1 = SS.ev d E O k [1, 1, 1, 0, 1, 0, 0, 1, 1, 0, 0, 1, 1, 1, 1, 1] s1 y := by rw [j1]; kernel_rfl
theorem e0 (k : Nat) (y : denS s0) : l0 (k + 1) y.1 y.2.1 y.2.2.1 y.2.2.2.1 y.2.2.2.2.1 y.2.2.2.2.2.2.1 y.2.2.2.2.2.2.2.1 y.2.2.2.2.2.2.2.2.1 y.2.2.2.2.2.2.2.2.2.1 y.2.2.2.2.2.2.2.2.2.2.1 y.2.2.2.2.2.2.2.2.2.2.2.1 y.2.2.2.2.2.2.2.2.2.2.2.2.1 = SS.ev d E O k [1, 1, 1, 0, 1, 0, 0] s0 y := by rw [l0]; kernel_rfl
theorem ok (k : Nat) : zU Tryz.prog (18, sig k) := fnP SS d E O sig (fun _ => rfl) Tryz.func18 (by kernel_rfl) rfl (fun k => ⟨qR.ok k, xX.ok k, zS.ok k, qU.ok k, zAc.ok k, trivial⟩) ⟨fun _ => rfl, fun _ => rfl, trivial⟩ (by kernel_rfl) (fun k => pc 1 rfl (e1 k) <| pc 0 rfl (e0 k) <| pn) (fun k x => by kernel_rfl) k
end qC
namespace yF
mutual
def j0 : Nat → ByteArray → Int → Option Int
 | 0, _, _ => none
 | k + 1, t, t2 => (bAt t t2).bind fun e => if (decide (e < 128)) = true then (some 1) else (if (decide (e < 194)) = true then (some 0) else (if (decide (244 < e)) = true then (some 0) else (if (decide (e < 224)) = true then (j1 k t t2 1 128 191 (wrap64 (t2 + 1))) else (if (decide (e < 240)) = true then (j2 k t t2 2 128 191 e (wrap64 (t2 + 1))) else (j3 k t t2 3 128 191 e (wrap64 (t2 + 1)))))))
def j1 : Nat → ByteArray → Int → Int → Int → Int → Int → Option Int
 | 0, _, _, _, _, _, _ => none
 | k + 1, t3, t4, t5, t6, t7, t8 => j4 k t3 t4 t5 t6 t7 t8
def j2 : Nat → ByteArray → Int → Int → Int → Int → Int → Int → Option Int
 | 0, _, _, _, _, _, _, _ => none
 | k + 1, t9, t10, t11, t12, t13, t14, t15 => if (decide (t14 = 224)) = true then (j5 k t9 t10 t11 160 t13 t14 t15) else (j5 k t9 t10 t11 t12 t13 t14 t15)
def j3 : Nat → ByteArray → Int → Int → Int → Int → Int → Int → Option Int
 | 0, _, _, _, _, _, _, _ => none
 | k + 1, t16, t17, t18, t19, t20, t21, t22 => if (decide (t21 = 240)) = true then (j6 k t16 t17 t18 144 t20 t21 t22) else (j6 k t16 t17 t18 t19 t20 t21 t22)
def j4 : Nat → ByteArray → Int → Int → Int → Int → Int → Option Int
 | 0, _, _, _, _, _, _ => none
 | k + 1, t23, t24, t25, t26, t27, t28 => if (decide (t25 = 0)) = true then (some (wrap64 (t28 - t24))) else (if (decide ((t23.size : Int) ≤ t28)) = true then (some 0) else ((bAt t23 t28).bind fun e2 => if (decide (e2 < t26)) = true then (some 0) else ((bAt t23 t28).bind fun e3 => if (decide (t27 < e3)) = true then (some 0) else (j7 k t23 t24 t25 t28))))
def j5 : Nat → ByteArray → Int → Int → Int → Int → Int → Int → Option Int
 | 0, _, _, _, _, _, _, _ => none
 | k + 1, t29, t30, t31, t32, t33, t34, t35 => if (decide (t34 = 237)) = true then (j1 k t29 t30 t31 t32 159 t35) else (j1 k t29 t30 t31 t32 t33 t35)
def j6 : Nat → ByteArray → Int → Int → Int → Int → Int → Int → Option Int
 | 0, _, _, _, _, _, _, _ => none
 | k + 1, t36, t37, t38, t39, t40, t41, t42 => if (decide (t41 = 244)) = true then (j1 k t36 t37 t38 t39 143 t42) else (j1 k t36 t37 t38 t39 t40 t42)
def j7 : Nat → ByteArray → Int → Int → Int → Option Int
 | 0, _, _, _, _ => none
 | k + 1, t43, t44, t45, t46 => j4 k t43 t44 (wrap64 (t45 - 1)) 128 191 (wrap64 (t46 + 1))
end
def f (k : Nat) (a0 : ByteArray) (a1 : Int) : Option Int := if (decide (a1 < 0)) = true then (some 0) else (if (decide ((a0.size : Int) ≤ a1)) = true then (some 0) else (j0 k a0 a1))
def sig (k : Nat) : Sig := .p [(false, .s), (false, (.i .i64))] [.c false (.i .i64)] fun x => f k x.1 x.2.1
def E (k : Nat) : List (Nat × Sig) := []
noncomputable def d : FD := ⟨87, Tryz.f87, 74, 74, [], [], [], [], [.tmp 4], .s .n (.g 0 4 (.j 0 .n (.s .n (.s .n (.s .n (.s .n (.j 1 (.s (.s .n (.s .n (.s .n (.s .n (.s .n (.s .n (.s .n (.s (.j 2 .n (.j 5 .n .n)) (.j 3 .n (.j 6 .n .n)))))))))) .n) (.j 4 .n (.s .n (.j 7 .n .n))))))))))⟩
abbrev s0 : Sh := [(0, .v .s), (1, .v (.i .i64))]
abbrev s1 : Sh := [(0, .v .s), (1, .v (.i .i64)), (5, .v (.i .i64)), (6, .v (.i .u8)), (7, .v (.i .u8)), (9, .v (.i .i64))]
abbrev s2 : Sh := [(0, .v .s), (1, .v (.i .i64)), (5, .v (.i .i64)), (6, .v (.i .u8)), (7, .v (.i .u8)), (8, .v (.i .u8)), (9, .v (.i .i64))]
abbrev s3 : Sh := [(0, .v .s), (1, .v (.i .i64)), (5, .v (.i .i64)), (6, .v (.i .u8)), (7, .v (.i .u8)), (8, .v (.i .u8)), (9, .v (.i .i64))]
abbrev s4 : Sh := [(0, .v .s), (1, .v (.i .i64)), (5, .v (.i .i64)), (6, .v (.i .u8)), (7, .v (.i .u8)), (9, .v (.i .i64))]
abbrev s5 : Sh := [(0, .v .s), (1, .v (.i .i64)), (5, .v (.i .i64)), (6, .v (.i .u8)), (7, .v (.i .u8)), (8, .v (.i .u8)), (9, .v (.i .i64))]
abbrev s6 : Sh := [(0, .v .s), (1, .v (.i .i64)), (5, .v (.i .i64)), (6, .v (.i .u8)), (7, .v (.i .u8)), (8, .v (.i .u8)), (9, .v (.i .i64))]
abbrev s7 : Sh := [(0, .v .s), (1, .v (.i .i64)), (5, .v (.i .i64)), (9, .v (.i .i64))]
def O (k : Nat) : List (Orc (denR ([.c false (.i .i64)]))) := [⟨s0, fun y => j0 k y.1 y.2.1⟩, ⟨s1, fun y => j1 k y.1 y.2.1 y.2.2.1 y.2.2.2.1 y.2.2.2.2.1 y.2.2.2.2.2.1⟩, ⟨s2, fun y => j2 k y.1 y.2.1 y.2.2.1 y.2.2.2.1 y.2.2.2.2.1 y.2.2.2.2.2.1 y.2.2.2.2.2.2.1⟩, ⟨s3, fun y => j3 k y.1 y.2.1 y.2.2.1 y.2.2.2.1 y.2.2.2.2.1 y.2.2.2.2.2.1 y.2.2.2.2.2.2.1⟩, ⟨s4, fun y => j4 k y.1 y.2.1 y.2.2.1 y.2.2.2.1 y.2.2.2.2.1 y.2.2.2.2.2.1⟩, ⟨s5, fun y => j5 k y.1 y.2.1 y.2.2.1 y.2.2.2.1 y.2.2.2.2.1 y.2.2.2.2.2.1 y.2.2.2.2.2.2.1⟩, ⟨s6, fun y => j6 k y.1 y.2.1 y.2.2.1 y.2.2.2.1 y.2.2.2.2.1 y.2.2.2.2.2.1 y.2.2.2.2.2.2.1⟩, ⟨s7, fun y => j7 k y.1 y.2.1 y.2.2.1 y.2.2.2.1⟩]
theorem e5 (k : Nat) (y : denS s5) : j5 (k + 1) y.1 y.2.1 y.2.2.1 y.2.2.2.1 y.2.2.2.2.1 y.2.2.2.2.2.1 y.2.2.2.2.2.2.1 = SS.ev d E O k [1, 0, 1, 1, 1, 1, 1, 0, 0, 1, 1, 1, 1, 1, 1, 1, 0, 1, 1] s5 y := by rw [j5]; kernel_rfl
theorem e2 (k : Nat) (y : denS s2) : j2 (k + 1) y.1 y.2.1 y.2.2.1 y.2.2.2.1 y.2.2.2.2.1 y.2.2.2.2.2.1 y.2.2.2.2.2.2.1 = SS.ev d E O k [1, 0, 1, 1, 1, 1, 1, 0, 0, 1, 1, 1, 1, 1, 1, 1, 0, 1] s2 y := by rw [j2]; kernel_rfl
theorem e6 (k : Nat) (y : denS s6) : j6 (k + 1) y.1 y.2.1 y.2.2.1 y.2.2.2.1 y.2.2.2.2.1 y.2.2.2.2.2.1 y.2.2.2.2.2.2.1 = SS.ev d E O k [1, 0, 1, 1, 1, 1, 1, 0, 0, 1, 1, 1, 1, 1, 1, 1, 1, 1, 1] s6 y := by rw [j6]; kernel_rfl
theorem e3 (k : Nat) (y : denS s3) : j3 (k + 1) y.1 y.2.1 y.2.2.1 y.2.2.2.1 y.2.2.2.2.1 y.2.2.2.2.2.1 y.2.2.2.2.2.2.1 = SS.ev d E O k [1, 0, 1, 1, 1, 1, 1, 0, 0, 1, 1, 1, 1, 1, 1, 1, 1, 1] s3 y := by rw [j3]; kernel_rfl
theorem e7 (k : Nat) (y : denS s7) : j7 (k + 1) y.1 y.2.1 y.2.2.1 y.2.2.2.1 = SS.ev d E O k [1, 0, 1, 1, 1, 1, 1, 1, 1, 1, 1] s7 y := by rw [j7]; kernel_rfl
theorem e4 (k : Nat) (y : denS s4) : j4 (k + 1) y.1 y.2.1 y.2.2.1 y.2.2.2.1 y.2.2.2.2.1 y.2.2.2.2.2.1 = SS.ev d E O k [1, 0, 1, 1, 1, 1, 1, 1, 1] s4 y := by rw [j4]; kernel_rfl
theorem e1 (k : Nat) (y : denS s1) : j1 (k + 1) y.1 y.2.1 y.2.2.1 y.2.2.2.1 y.2.2.2.2.1 y.2.2.2.2.2.1 = SS.ev d E O k [1, 0, 1, 1, 1, 1, 1, 1] s1 y := by rw [j1]; kernel_rfl
theorem e0 (k : Nat) (y : denS s0) : j0 (k + 1) y.1 y.2.1 = SS.ev d E O k [1, 0, 1] s0 y := by rw [j0]; kernel_rfl
theorem ok (k : Nat) : zU Tryz.prog (87, sig k) := fnP SS d E O sig (fun _ => rfl) Tryz.func87 (by kernel_rfl) rfl (fun k => trivial) ⟨fun _ => rfl, fun _ => rfl, fun _ => rfl, fun _ => rfl, fun _ => rfl, fun _ => rfl, fun _ => rfl, fun _ => rfl, trivial⟩ (by kernel_rfl) (fun k => pc 5 rfl (e5 k) <| pc 2 rfl (e2 k) <| pc 6 rfl (e6 k) <| pc 3 rfl (e3 k) <| pc 7 rfl (e7 k) <| pc 4 rfl (e4 k) <| pc 1 rfl (e1 k) <| pc 0 rfl (e0 k) <| pn) (fun k x => by kernel_rfl) k
end yF
namespace qN
mutual
def j0 : Nat → ByteArray → Int → Option Int
 | 0, _, _ => none
 | k + 1, s, at_ => if (decide (at_ = (s.size : Int))) = true then (some (-1)) else ((yF.f k s at_).bind fun r => if (decide (r = 0)) = true then (some at_) else (j0 k s (wrap64 (at_ + r))))
end
def f (k : Nat) (a0 : ByteArray) : Option Int := j0 k a0 0
def sig (k : Nat) : Sig := .p [(false, .s)] [.c false (.i .i64)] fun x => f k x.1
def E (k : Nat) : List (Nat × Sig) := [(87, yF.sig k)]
noncomputable def d : FD := ⟨110, Tryz.f110, 18, 18, [], [], [], [], [.tmp 2], .s .n (.g 0 0 (.s .n (.j 0 .n .n)))⟩
abbrev s0 : Sh := [(0, .v .s), (3, .v (.i .i64))]
def O (k : Nat) : List (Orc (denR ([.c false (.i .i64)]))) := [⟨s0, fun y => j0 k y.1 y.2.1⟩]
theorem e0 (k : Nat) (y : denS s0) : j0 (k + 1) y.1 y.2.1 = SS.ev d E O k [1, 0, 1, 1] s0 y := by rw [j0]; kernel_rfl
theorem ok (k : Nat) : zU Tryz.prog (110, sig k) := fnP SS d E O sig (fun _ => rfl) Tryz.func110 (by kernel_rfl) rfl (fun k => ⟨yF.ok k, trivial⟩) ⟨fun _ => rfl, trivial⟩ (by kernel_rfl) (fun k => pc 0 rfl (e0 k) <| pn) (fun k x => by kernel_rfl) k
end qN
namespace zAU
def f (k : Nat) (a0 : ByteArray) : Option Int := (qN.f k a0).bind fun r => if (decide (0 ≤ r)) = true then (some 20) else (some 0)
def sig (k : Nat) : Sig := .p [(false, .s)] [.c false (.i .i64)] fun x => f k x.1
def E (k : Nat) : List (Nat × Sig) := [(110, qN.sig k)]
noncomputable def d : FD := ⟨83, Tryz.f83, 6, 6, [], [], [], [], [.tmp 2], .n⟩
def O (k : Nat) : List (Orc (denR ([.c false (.i .i64)]))) := []
theorem ok (k : Nat) : zU Tryz.prog (83, sig k) := fnP SS d E O sig (fun _ => rfl) Tryz.func83 (by kernel_rfl) rfl (fun k => ⟨qN.ok k, trivial⟩) trivial (by kernel_rfl) (fun _ => pn) (fun k x => by kernel_rfl) k
end zAU
namespace xU
mutual
def j0 : Nat → Int → Bool → Option Int
 | 0, _, _ => none
 | k + 1, t, t2 => if t2 = true then (some 1) else (if (decide (t = 160)) = true then (j1 k t true) else (j1 k t (decide (t = 8239))))
def j1 : Nat → Int → Bool → Option Int
 | 0, _, _ => none
 | k + 1, t3, t4 => if t4 = true then (some 2) else (if (decide (t3 = 173)) = true then (some 3) else (if (decide (t3 = 8203)) = true then (some 4) else (if (decide (t3 = 8288)) = true then (j2 k t3 true) else (j2 k t3 (decide (t3 = 65279))))))
def j2 : Nat → Int → Bool → Option Int
 | 0, _, _ => none
 | k + 1, t5, t6 => if t6 = true then (some 5) else (if (decide (t5 = 45)) = true then (j3 k t5 true) else (j3 k t5 (decide (t5 = 8208))))
def j3 : Nat → Int → Bool → Option Int
 | 0, _, _ => none
 | k + 1, t7, t8 => if t8 = true then (some 6) else (if (decide (t7 = 8232)) = true then (some 7) else (if (decide (t7 = 10)) = true then (some 8) else (some 0)))
end
def f (k : Nat) (a0 : Int) : Option Int := if (decide (a0 = 32)) = true then (j0 k a0 true) else (j0 k a0 (decide (a0 = 9)))
def sig (k : Nat) : Sig := .p [(false, (.i .i32))] [.c false (.i .i64)] fun x => f k x.1
def E (k : Nat) : List (Nat × Sig) := []
noncomputable def d : FD := ⟨62, Tryz.f62, 24, 24, [], [], [], [], [.tmp 2], .s .n (.s (.s .n (.s (.j 0 .n (.s .n (.j 1 .n (.s .n (.s .n (.s .n (.s .n (.s .n (.j 2 .n (.s .n (.j 3 .n .n))))))))))) .n)) .n)⟩
abbrev s0 : Sh := [(3, .v (.i .i32)), (4, .v .b)]
abbrev s1 : Sh := [(3, .v (.i .i32)), (7, .v .b)]
abbrev s2 : Sh := [(3, .v (.i .i32)), (14, .v .b)]
abbrev s3 : Sh := [(3, .v (.i .i32)), (17, .v .b)]
def O (k : Nat) : List (Orc (denR ([.c false (.i .i64)]))) := [⟨s0, fun y => j0 k y.1 y.2.1⟩, ⟨s1, fun y => j1 k y.1 y.2.1⟩, ⟨s2, fun y => j2 k y.1 y.2.1⟩, ⟨s3, fun y => j3 k y.1 y.2.1⟩]
theorem e3 (k : Nat) (y : denS s3) : j3 (k + 1) y.1 y.2.1 = SS.ev d E O k [1, 0, 1, 0, 1, 1, 1, 1, 1, 1, 1, 1, 1, 1, 1] s3 y := by rw [j3]; kernel_rfl
theorem e2 (k : Nat) (y : denS s2) : j2 (k + 1) y.1 y.2.1 = SS.ev d E O k [1, 0, 1, 0, 1, 1, 1, 1, 1, 1, 1, 1, 1] s2 y := by rw [j2]; kernel_rfl
theorem e1 (k : Nat) (y : denS s1) : j1 (k + 1) y.1 y.2.1 = SS.ev d E O k [1, 0, 1, 0, 1, 1, 1] s1 y := by rw [j1]; kernel_rfl
theorem e0 (k : Nat) (y : denS s0) : j0 (k + 1) y.1 y.2.1 = SS.ev d E O k [1, 0, 1, 0, 1] s0 y := by rw [j0]; kernel_rfl
theorem ok (k : Nat) : zU Tryz.prog (62, sig k) := fnP SS d E O sig (fun _ => rfl) Tryz.func62 (by kernel_rfl) rfl (fun k => trivial) ⟨fun _ => rfl, fun _ => rfl, fun _ => rfl, fun _ => rfl, trivial⟩ (by kernel_rfl) (fun k => pc 3 rfl (e3 k) <| pc 2 rfl (e2 k) <| pc 1 rfl (e1 k) <| pc 0 rfl (e0 k) <| pn) (fun k x => by kernel_rfl) k
end xU
namespace zAb
mutual
def l0 : Nat → Int → A8 → Option Int
 | 0, _, _ => none
 | k + 1, n, t => if t.2 < t.1.size then ((xU.f k ((Utf8.decode t.1 t.2).1 : Int)).bind fun r => if (decide (r = 8)) = true then (l0 k (wrap64 (n + 1)) (t.1, (t.2 + (Utf8.decode t.1 t.2).2))) else (l0 k n (t.1, (t.2 + (Utf8.decode t.1 t.2).2)))) else (some n)
end
def f (k : Nat) (a0 : ByteArray) : Option Int := l0 k 0 (a0, 0)
def sig (k : Nat) : Sig := .p [(false, .s)] [.c false (.i .i64)] fun x => f k x.1
def E (k : Nat) : List (Nat × Sig) := [(62, xU.sig k)]
noncomputable def d : FD := ⟨84, Tryz.f84, 17, 17, [], [], [], [], [.tmp 2], .s .n (.s .n (.s (.s .n (.s (.l 0 .n) .n)) .n))⟩
abbrev s0 : Sh := [(3, .v (.i .i64)), (7, .it)]
def O (k : Nat) : List (Orc (denR ([.c false (.i .i64)]))) := [⟨s0, fun y => l0 k y.1 y.2.1⟩]
theorem e0 (k : Nat) (y : denS s0) : l0 (k + 1) y.1 y.2.1 = SS.ev d E O k [1, 1, 0, 1, 0, 0] s0 y := by rw [l0]; kernel_rfl
theorem ok (k : Nat) : zU Tryz.prog (84, sig k) := fnP SS d E O sig (fun _ => rfl) Tryz.func84 (by kernel_rfl) rfl (fun k => ⟨xU.ok k, trivial⟩) ⟨fun _ => rfl, trivial⟩ (by kernel_rfl) (fun k => pc 0 rfl (e0 k) <| pn) (fun k x => by kernel_rfl) k
end zAb
namespace zAI
def f (k : Nat) (a0 : Int) : Option Bool := some (decide ((andI .u8 a0 (192 : Int)) = 128))
def sig (k : Nat) : Sig := .p [(false, (.i .u8))] [.c false .b] fun x => f k x.1
def E (k : Nat) : List (Nat × Sig) := []
noncomputable def d : FD := ⟨111, Tryz.f111, 6, 6, [], [], [], [], [.tmp 2], .n⟩
def O (k : Nat) : List (Orc (denR ([.c false .b]))) := []
theorem ok (k : Nat) : zU Tryz.prog (111, sig k) := fnP SS d E O sig (fun _ => rfl) Tryz.func111 (by kernel_rfl) rfl (fun k => trivial) trivial (by kernel_rfl) (fun _ => pn) (fun k x => by kernel_rfl) k
end zAI
namespace qS
mutual
def j0 : Nat → ByteArray → Int → Option Int
 | 0, _, _ => none
 | k + 1, s, at_ => if (decide (at_ < (s.size : Int))) = true then ((bAt s at_).bind fun e => (zAI.f k e).bind fun r => if r = true then (some 21) else (some 0)) else (some 0)
end
def f (k : Nat) (a0 : ByteArray) (a1 : Int) : Option Int := if (decide (a1 < 0)) = true then (some 30) else (if (decide ((a0.size : Int) < a1)) = true then (some 30) else (j0 k a0 a1))
def sig (k : Nat) : Sig := .p [(false, .s), (false, (.i .i64))] [.c false (.i .i64)] fun x => f k x.1 x.2.1
def E (k : Nat) : List (Nat × Sig) := [(111, zAI.sig k)]
noncomputable def d : FD := ⟨86, Tryz.f86, 23, 23, [], [], [], [], [.tmp 4], .s .n (.j 0 .n .n)⟩
abbrev s0 : Sh := [(0, .v .s), (1, .v (.i .i64))]
def O (k : Nat) : List (Orc (denR ([.c false (.i .i64)]))) := [⟨s0, fun y => j0 k y.1 y.2.1⟩]
theorem e0 (k : Nat) (y : denS s0) : j0 (k + 1) y.1 y.2.1 = SS.ev d E O k [1, 1] s0 y := by rw [j0]; kernel_rfl
theorem ok (k : Nat) : zU Tryz.prog (86, sig k) := fnP SS d E O sig (fun _ => rfl) Tryz.func86 (by kernel_rfl) rfl (fun k => ⟨zAI.ok k, trivial⟩) ⟨fun _ => rfl, trivial⟩ (by kernel_rfl) (fun k => pc 0 rfl (e0 k) <| pn) (fun k x => by kernel_rfl) k
end qS
namespace vZ
mutual
def j0 : Nat → A1 → ByteArray → (List zJ) → Option Int
 | 0, _, _, _ => none
 | k + 1, t, t2, t3 => l1 k t t2 0 t3 (t3.length : Int) 0
def l1 : Nat → A1 → ByteArray → Int → (List zJ) → Int → Int → Option Int
 | 0, _, _, _, _, _, _ => none
 | k + 1, t4, t5, t6, t7, t8, t9 => if (decide (t9 < t8)) = true then ((at? t7 t9).bind fun e2 => if (decide (e2.1 < 0)) = true then (some 70) else (if (decide ((wrap64 ((t5.size : Int) - t6)) < e2.1)) = true then (some 70) else (j2 k t4 t5 t6 t7 t8 t9 e2))) else (if (!decide (t6 = (t5.size : Int))) = true then (some 70) else (some 0))
def j2 : Nat → A1 → ByteArray → Int → (List zJ) → Int → Int → zJ → Option Int
 | 0, _, _, _, _, _, _, _ => none
 | k + 1, t10, t11, t12, t13, t14, t15, t16 => (wI.f k t10 t16.2).bind fun r3 => if (!decide (r3 = 0)) = true then (some r3) else ((qS.f k t11 (wrap64 (t12 + t16.1))).bind fun r4 => if (!decide (r4 = 0)) = true then (some r4) else (l1 k t10 t11 (wrap64 (t12 + t16.1)) t13 t14 (wrap64 (t15 + 1))))
end
def f (k : Nat) (a0 : A1) (a1 : ByteArray) (a2 : (List zJ)) : Option Int := (zAU.f k a1).bind fun r => if (!decide (r = 0)) = true then (some r) else ((zAb.f k a1).bind fun r2 => if (decide (a1 = ByteArray.empty)) = true then (some 70) else (if (decide (1 < r2)) = true then (some 70) else (if (decide (r2 = 1)) = true then ((bAt a1 (wrap64 ((a1.size : Int) - 1))).bind fun e => if (!decide (e = 10)) = true then (some 70) else (j0 k a0 a1 a2)) else (j0 k a0 a1 a2))))
def sig (k : Nat) : Sig := .p [(false, y56), (false, .s), (false, y55)] [.c false (.i .i64)] fun x => f k x.1 x.2.1 x.2.2.1
def E (k : Nat) : List (Nat × Sig) := [(83, zAU.sig k), (84, zAb.sig k), (85, wI.sig k), (86, qS.sig k)]
noncomputable def d : FD := ⟨60, Tryz.f60, 79, 81, [(11, 79, 2)], [], [], [], [.tmp 6], .s .n (.s .n (.j 0 .n (.s .n (.s (.s .n (.s (.l 1 (.s .n (.s .n (.s (.s (.s .n (.j 2 .n .n)) .n) .n)))) .n)) .n))))⟩
abbrev s0 : Sh := [(0, .v y56), (1, .v .s), (2, .v y55)]
abbrev s1 : Sh := [(0, .v y56), (1, .v .s), (9, .v (.i .i64)), (39, .v y55), (40, .v (.i .i64)), (41, .v (.i .i64))]
abbrev s2 : Sh := [(0, .v y56), (1, .v .s), (9, .v (.i .i64)), (11, .at_ 79), (39, .v y55), (40, .v (.i .i64)), (41, .v (.i .i64)), (79, .box y0)]
def O (k : Nat) : List (Orc (denR ([.c false (.i .i64)]))) := [⟨s0, fun y => j0 k y.1 y.2.1 y.2.2.1⟩, ⟨s1, fun y => l1 k y.1 y.2.1 y.2.2.1 y.2.2.2.1 y.2.2.2.2.1 y.2.2.2.2.2.1⟩, ⟨s2, fun y => j2 k y.1 y.2.1 y.2.2.1 y.2.2.2.2.1 y.2.2.2.2.2.1 y.2.2.2.2.2.2.1 y.2.2.2.2.2.2.2.1⟩]
theorem e2 (k : Nat) (y : denS s2) : j2 (k + 1) y.1 y.2.1 y.2.2.1 y.2.2.2.2.1 y.2.2.2.2.2.1 y.2.2.2.2.2.2.1 y.2.2.2.2.2.2.2.1 = SS.ev d E O k [1, 1, 1, 1, 0, 1, 0, 0, 1, 1, 0, 0, 1, 1] s2 y := by rw [j2]; kernel_rfl
theorem e1 (k : Nat) (y : denS s1) : l1 (k + 1) y.1 y.2.1 y.2.2.1 y.2.2.2.1 y.2.2.2.2.1 y.2.2.2.2.2.1 = SS.ev d E O k [1, 1, 1, 1, 0, 1, 0, 0] s1 y := by rw [l1]; kernel_rfl
theorem e0 (k : Nat) (y : denS s0) : j0 (k + 1) y.1 y.2.1 y.2.2.1 = SS.ev d E O k [1, 1, 1] s0 y := by rw [j0]; kernel_rfl
theorem ok (k : Nat) : zU Tryz.prog (60, sig k) := fnP SS d E O sig (fun _ => rfl) Tryz.func60 (by kernel_rfl) rfl (fun k => ⟨zAU.ok k, zAb.ok k, wI.ok k, qS.ok k, trivial⟩) ⟨fun _ => rfl, fun _ => rfl, fun _ => rfl, trivial⟩ (by kernel_rfl) (fun k => pc 2 rfl (e2 k) <| pc 1 rfl (e1 k) <| pc 0 rfl (e0 k) <| pn) (fun k x => by kernel_rfl) k
end vZ
namespace zAy
mutual
def l0 : Nat → Int → A8 → Option (Int × Int)
 | 0, _, _ => none
 | k + 1, n, t => if t.2 < t.1.size then (some (((Utf8.decode t.1 t.2).1 : Int), n)) else (some (0, 0))
end
def f (k : Nat) (a0 : ByteArray) : Option (Int × Int) := (yF.f k a0 0).bind fun r => (sSub a0 0 r).bind fun v => l0 k r (v, 0)
def sig (k : Nat) : Sig := .p [(false, .s)] [.c false (.i .i32), .c false (.i .i64)] fun x => f k x.1
def E (k : Nat) : List (Nat × Sig) := [(87, yF.sig k)]
noncomputable def d : FD := ⟨61, Tryz.f61, 18, 18, [], [], [], [], [.tmp 2, .tmp 3], .s .n (.s .n (.s (.s .n (.s (.l 0 .n) .n)) .n))⟩
abbrev s0 : Sh := [(4, .v (.i .i64)), (12, .it)]
def O (k : Nat) : List (Orc (denR ([.c false (.i .i32), .c false (.i .i64)]))) := [⟨s0, fun y => l0 k y.1 y.2.1⟩]
theorem e0 (k : Nat) (y : denS s0) : l0 (k + 1) y.1 y.2.1 = SS.ev d E O k [1, 1, 0, 1, 0, 0] s0 y := by rw [l0]; kernel_rfl
theorem ok (k : Nat) : zU Tryz.prog (61, sig k) := fnP SS d E O sig (fun _ => rfl) Tryz.func61 (by kernel_rfl) rfl (fun k => ⟨yF.ok k, trivial⟩) ⟨fun _ => rfl, trivial⟩ (by kernel_rfl) (fun k => pc 0 rfl (e0 k) <| pn) (fun k x => by kernel_rfl) k
end zAy
namespace yD
def f (k : Nat) (a0 : A10) (a1 : zA) : Option A9 := if (a0.2.1.length + ([a1] : List zA).length) * 72 ≤ 140737488355328 then (some (a0.1, a0.2.1 ++ ([a1] : List zA), a0.2.2.1, (false))) else none
def sig (k : Nat) : Sig := .l y89 [(true, y27)] [] fun b x => f k b x.1
def E (k : Nat) : List (Nat × Sig) := []
noncomputable def d : FD := ⟨88, Tryz.f88, 17, 30, [(0, 17, 4), (3, 21, 9)], [0], [], [], [], .n⟩
def O (k : Nat) : List (Orc (denR ([] ++ [.c true y89]))) := []
theorem ok (k : Nat) : zU Tryz.prog (88, sig k) := fnL SS d E O sig (fun _ => rfl) Tryz.func88 (by kernel_rfl) rfl (fun k => trivial) trivial (by kernel_rfl) (fun _ => pn) (fun k b x => by kernel_rfl) k
end yD
namespace wJ
def f (k : Nat) (a0 : A10) (a1 : Int) (a2 : Int) : Option A9 := (yD.f k a0 (2, 0, 0, 0, (true), 0, (false), a1, a1)).bind fun r => (yD.f k r (3, 0, 0, 0, (false), (-10000), (false), a1, a2)).bind fun r2 => some r2
def sig (k : Nat) : Sig := .l y89 [(false, (.i .i64)), (false, (.i .i64))] [] fun b x => f k b x.1 x.2.1
def E (k : Nat) : List (Nat × Sig) := [(88, yD.sig k)]
noncomputable def d : FD := ⟨63, Tryz.f63, 16, 20, [(0, 16, 4)], [0], [], [], [], .n⟩
def O (k : Nat) : List (Orc (denR ([] ++ [.c true y89]))) := []
theorem ok (k : Nat) : zU Tryz.prog (63, sig k) := fnL SS d E O sig (fun _ => rfl) Tryz.func63 (by kernel_rfl) rfl (fun k => ⟨yD.ok k, trivial⟩) trivial (by kernel_rfl) (fun _ => pn) (fun k b x => by kernel_rfl) k
end wJ
namespace uA
def f (k : Nat) (a0 : A1) (a1 : Int) : Option A11 := (yU.f k a0 a1).bind fun r => some (r.2.1, r.2.2.1, r.2.2.2.1)
def sig (k : Nat) : Sig := .p [(false, y66), (false, (.i .i64))] [.c false (.i .i64), .c false (.i .i64), .c false (.i .i64)] fun x => f k x.1 x.2.1
def E (k : Nat) : List (Nat × Sig) := [(109, yU.sig k)]
noncomputable def d : FD := ⟨89, Tryz.f89, 17, 25, [(7, 17, 8)], [], [], [], [.tmp 4, .tmp 5, .tmp 6], .n⟩
def O (k : Nat) : List (Orc (denR ([.c false (.i .i64), .c false (.i .i64), .c false (.i .i64)]))) := []
theorem ok (k : Nat) : zU Tryz.prog (89, sig k) := fnP SS d E O sig (fun _ => rfl) Tryz.func89 (by kernel_rfl) rfl (fun k => ⟨yU.ok k, trivial⟩) trivial (by kernel_rfl) (fun _ => pn) (fun k x => by kernel_rfl) k
end uA
namespace vS
def f (k : Nat) (a0 : A1) (a1 : Int) : Option Int := (yU.f k a0 a1).bind fun r => some r.2.2.2.2.1
def sig (k : Nat) : Sig := .p [(false, y66), (false, (.i .i64))] [.c false (.i .i64)] fun x => f k x.1 x.2.1
def E (k : Nat) : List (Nat × Sig) := [(109, yU.sig k)]
noncomputable def d : FD := ⟨90, Tryz.f90, 9, 9, [], [], [], [], [.tmp 4], .n⟩
def O (k : Nat) : List (Orc (denR ([.c false (.i .i64)]))) := []
theorem ok (k : Nat) : zU Tryz.prog (90, sig k) := fnP SS d E O sig (fun _ => rfl) Tryz.func90 (by kernel_rfl) rfl (fun k => ⟨yU.ok k, trivial⟩) trivial (by kernel_rfl) (fun _ => pn) (fun k x => by kernel_rfl) k
end vS
namespace wA
def f (k : Nat) (a0 : Int) (a1 : Int) : Option Int := (yR.f k a0).bind fun r => (yR.f k a1).bind fun r2 => (yR.f k (wrap64 (r + r2))).bind fun r3 => some r3
def sig (k : Nat) : Sig := .p [(false, (.i .i64)), (false, (.i .i64))] [.c false (.i .i64)] fun x => f k x.1 x.2.1
def E (k : Nat) : List (Nat × Sig) := [(125, yR.sig k)]
noncomputable def d : FD := ⟨112, Tryz.f112, 11, 11, [], [], [], [], [.tmp 4], .n⟩
def O (k : Nat) : List (Orc (denR ([.c false (.i .i64)]))) := []
theorem ok (k : Nat) : zU Tryz.prog (112, sig k) := fnP SS d E O sig (fun _ => rfl) Tryz.func112 (by kernel_rfl) rfl (fun k => ⟨yR.ok k, trivial⟩) trivial (by kernel_rfl) (fun _ => pn) (fun k x => by kernel_rfl) k
end wA
namespace wO
mutual
def j0 : Nat → Int → Int → A10 → Option A9
 | 0, _, _, _ => none
 | k + 1, t, t2, t3 => if 0 ≤ t2 ∧ t2 < (t3.2.1.length : Int) then ((t3.2.1[t2.toNat]?).bind fun e3 => some (t3.1, t3.2.1.set t2.toNat (e3.1, e3.2.1, e3.2.2.1, e3.2.2.2.1, e3.2.2.2.2.1, e3.2.2.2.2.2.1, e3.2.2.2.2.2.2.1, e3.2.2.2.2.2.2.2.1, t), t3.2.2.1, t3.2.2.2)) else none
def j1 : Nat → Int → Int → Int → Int → A10 → Option A9
 | 0, _, _, _, _, _ => none
 | k + 1, t4, t5, t6, t7, t8 => (yD.f k t8 (1, t4, 0, 0, (false), 0, (false), t6, t7)).bind fun r2 => some (r2.1, r2.2.1, t5, (true))
end
def f (k : Nat) (a0 : A10) (a1 : Int) (a2 : Int) (a3 : Int) (a4 : Int) : Option A9 := if a0.2.2.2 = true then (if (decide (a0.2.2.1 = a2)) = true then (if 0 ≤ (wrap64 ((a0.2.1.length : Int) - 1)) ∧ (wrap64 ((a0.2.1.length : Int) - 1)) < (a0.2.1.length : Int) then ((a0.2.1[(wrap64 ((a0.2.1.length : Int) - 1)).toNat]?).bind fun e => (wA.f k e.2.1 a1).bind fun r => if 0 ≤ (wrap64 ((a0.2.1.length : Int) - 1)) ∧ (wrap64 ((a0.2.1.length : Int) - 1)) < (a0.2.1.length : Int) then ((a0.2.1[(wrap64 ((a0.2.1.length : Int) - 1)).toNat]?).bind fun e2 => j0 k a4 (wrap64 ((a0.2.1.length : Int) - 1)) (a0.1, a0.2.1.set ((wrap64 ((a0.2.1.length : Int) - 1)).toNat) (e2.1, r, e2.2.2.1, e2.2.2.2.1, e2.2.2.2.2.1, e2.2.2.2.2.2.1, e2.2.2.2.2.2.2.1, e2.2.2.2.2.2.2.2.1, e2.2.2.2.2.2.2.2.2), a0.2.2.1, a0.2.2.2)) else none) else none) else (j1 k a1 a2 a3 a4 a0)) else (j1 k a1 a2 a3 a4 a0)
def sig (k : Nat) : Sig := .l y89 [(false, (.i .i64)), (false, (.i .i64)), (false, (.i .i64)), (false, (.i .i64))] [] fun b x => f k b x.1 x.2.1 x.2.2.1 x.2.2.2.1
def E (k : Nat) : List (Nat × Sig) := [(88, yD.sig k), (112, wA.sig k)]
noncomputable def d : FD := ⟨91, Tryz.f91, 67, 71, [(0, 67, 4)], [0], [], [], [], .j 1 (.s .n (.s .n (.s (.j 0 .n .n) .n))) .n⟩
abbrev s0 : Sh := [(0, .at_ 67), (4, .v (.i .i64)), (10, .v (.i .i64)), (67, .box y89)]
abbrev s1 : Sh := [(0, .at_ 67), (1, .v (.i .i64)), (2, .v (.i .i64)), (3, .v (.i .i64)), (4, .v (.i .i64)), (67, .box y89)]
def O (k : Nat) : List (Orc (denR ([] ++ [.c true y89]))) := [⟨s0, fun y => j0 k y.2.1 y.2.2.1 y.2.2.2.1⟩, ⟨s1, fun y => j1 k y.2.1 y.2.2.1 y.2.2.2.1 y.2.2.2.2.1 y.2.2.2.2.2.1⟩]
theorem e0 (k : Nat) (y : denS s0) : j0 (k + 1) y.2.1 y.2.2.1 y.2.2.2.1 = SS.evL d E y89 O k [0, 1, 1, 0, 1] s0 y := by rw [j0]; kernel_rfl
theorem e1 (k : Nat) (y : denS s1) : j1 (k + 1) y.2.1 y.2.2.1 y.2.2.2.1 y.2.2.2.2.1 y.2.2.2.2.2.1 = SS.evL d E y89 O k [1] s1 y := by rw [j1]; kernel_rfl
theorem ok (k : Nat) : zU Tryz.prog (91, sig k) := fnL SS d E O sig (fun _ => rfl) Tryz.func91 (by kernel_rfl) rfl (fun k => ⟨yD.ok k, wA.ok k, trivial⟩) ⟨fun _ => rfl, fun _ => rfl, trivial⟩ (by kernel_rfl) (fun k => pc 0 rfl (e0 k) <| pc 1 rfl (e1 k) <| pn) (fun k b x => by kernel_rfl) k
end wO
namespace wZ
mutual
def l0 : Nat → Int → Int → Int → A0 → Option Int
 | 0, _, _, _, _ => none
 | k + 1, r, low, high, s => if (decide (low < high)) = true then ((at? s.2.2.2.2.2.2.1 (wrap64 ((wrap64 (low + high)).tdiv 2))).bind fun e => if (decide (e.2.1 < r)) = true then (l0 k r (wrap64 ((wrap64 ((wrap64 (low + high)).tdiv 2)) + 1)) high s) else (l0 k r low (wrap64 ((wrap64 (low + high)).tdiv 2)) s)) else (if (decide (low < (s.2.2.2.2.2.2.1.length : Int))) = true then ((at? s.2.2.2.2.2.2.1 low).bind fun e2 => if (decide (e2.1 ≤ r)) = true then ((at? s.2.2.2.2.2.2.1 low).bind fun e3 => some e3.2.2) else (j1 k s)) else (j1 k s))
def j1 : Nat → A0 → Option Int
 | 0, _ => none
 | k + 1, s2 => some s2.2.2.2.2.2.1
end
def f (k : Nat) (a0 : A0) (a1 : Int) : Option Int := l0 k a1 0 (a0.2.2.2.2.2.2.1.length : Int) a0
def sig (k : Nat) : Sig := .p [(true, y9), (false, (.i .i64))] [.c false (.i .i64)] fun x => f k x.1 x.2.1
def E (k : Nat) : List (Nat × Sig) := []
noncomputable def d : FD := ⟨113, Tryz.f113, 52, 60, [(2, 52, 8)], [], [], [], [.tmp 4], .s .n (.s .n (.s (.s (.l 0 .n) .n) (.j 1 .n .n)))⟩
abbrev s0 : Sh := [(1, .v (.i .i64)), (2, .at_ 52), (5, .v (.i .i64)), (6, .v (.i .i64)), (52, .box y9)]
abbrev s1 : Sh := [(2, .at_ 52), (52, .box y9)]
def O (k : Nat) : List (Orc (denR ([.c false (.i .i64)]))) := [⟨s0, fun y => l0 k y.1 y.2.2.1 y.2.2.2.1 y.2.2.2.2.1⟩, ⟨s1, fun y => j1 k y.2.1⟩]
theorem e0 (k : Nat) (y : denS s0) : l0 (k + 1) y.1 y.2.2.1 y.2.2.2.1 y.2.2.2.2.1 = SS.ev d E O k [1, 1, 0, 0, 0] s0 y := by rw [l0]; kernel_rfl
theorem e1 (k : Nat) (y : denS s1) : j1 (k + 1) y.2.1 = SS.ev d E O k [1, 1, 1, 1] s1 y := by rw [j1]; kernel_rfl
theorem ok (k : Nat) : zU Tryz.prog (113, sig k) := fnP SS d E O sig (fun _ => rfl) Tryz.func113 (by kernel_rfl) rfl (fun k => trivial) ⟨fun _ => rfl, fun _ => rfl, trivial⟩ (by kernel_rfl) (fun k => pc 0 rfl (e0 k) <| pc 1 rfl (e1 k) <| pn) (fun k x => by kernel_rfl) k
end wZ
namespace xF
mutual
def j0 : Nat → Int → Int → Bool → A0 → Option Int
 | 0, _, _, _, _ => none
 | k + 1, r3, t, t2, s => if t2 = true then (some s.2.1) else (if (decide (t = 3)) = true then (j1 k r3 true s) else (if (decide (t = 4)) = true then (j1 k r3 true s) else (if (decide (t = 5)) = true then (j1 k r3 true s) else (if (decide (t = 7)) = true then (j1 k r3 true s) else (j1 k r3 (decide (t = 8)) s)))))
def j1 : Nat → Int → Bool → A0 → Option Int
 | 0, _, _, _ => none
 | k + 1, r4, t3, s2 => if t3 = true then (some 0) else ((wZ.f k s2 (wrap64 (r4))).bind fun r5 => some r5)
end
def f (k : Nat) (a0 : A1) (a1 : Int) (a2 : Int) : Option Int := (yU.f k a0 a1).bind fun r => (xU.f k a2).bind fun r2 => if (decide (r2 = 1)) = true then (j0 k a2 r2 true r) else (j0 k a2 r2 (decide (r2 = 2)) r)
def sig (k : Nat) : Sig := .p [(false, y66), (false, (.i .i64)), (false, (.i .i32))] [.c false (.i .i64)] fun x => f k x.1 x.2.1 x.2.2.1
def E (k : Nat) : List (Nat × Sig) := [(62, xU.sig k), (109, yU.sig k), (113, wZ.sig k)]
noncomputable def d : FD := ⟨92, Tryz.f92, 28, 36, [(7, 28, 8)], [], [], [], [.tmp 6], .s .n (.s .n (.s (.s .n (.s (.j 0 .n (.s .n (.j 1 .n .n))) .n)) .n))⟩
abbrev s0 : Sh := [(2, .v (.i .i32)), (7, .at_ 28), (12, .v (.i .i64)), (13, .v .b), (28, .box y64)]
abbrev s1 : Sh := [(2, .v (.i .i32)), (7, .at_ 28), (18, .v .b), (28, .box y64)]
def O (k : Nat) : List (Orc (denR ([.c false (.i .i64)]))) := [⟨s0, fun y => j0 k y.1 y.2.2.1 y.2.2.2.1 y.2.2.2.2.1⟩, ⟨s1, fun y => j1 k y.1 y.2.2.1 y.2.2.2.1⟩]
theorem e1 (k : Nat) (y : denS s1) : j1 (k + 1) y.1 y.2.2.1 y.2.2.2.1 = SS.ev d E O k [1, 1, 0, 1, 0, 1, 1, 1] s1 y := by rw [j1]; kernel_rfl
theorem e0 (k : Nat) (y : denS s0) : j0 (k + 1) y.1 y.2.2.1 y.2.2.2.1 y.2.2.2.2.1 = SS.ev d E O k [1, 1, 0, 1, 0, 1] s0 y := by rw [j0]; kernel_rfl
theorem ok (k : Nat) : zU Tryz.prog (92, sig k) := fnP SS d E O sig (fun _ => rfl) Tryz.func92 (by kernel_rfl) rfl (fun k => ⟨xU.ok k, yU.ok k, wZ.ok k, trivial⟩) ⟨fun _ => rfl, fun _ => rfl, trivial⟩ (by kernel_rfl) (fun k => pc 1 rfl (e1 k) <| pc 0 rfl (e0 k) <| pn) (fun k x => by kernel_rfl) k
end xF
namespace uK
def f (k : Nat) (a0 : A10) (a1 : Int) (a2 : Int) (a3 : Int) (a4 : Int) : Option A9 := (xU.f k a1).bind fun r => if (decide (r = 1)) = true then ((uA.f k a0.1 a2).bind fun r2 => (yD.f k a0 (2, r2.1, r2.2.1, r2.2.2, (false), 0, (false), a3, a4)).bind fun r3 => some r3) else (if (decide (r = 3)) = true then ((vS.f k a0.1 a2).bind fun r4 => (yD.f k a0 (3, r4, 0, 0, (false), 50, (true), a3, a4)).bind fun r5 => some r5) else (if (decide (r = 4)) = true then ((yD.f k a0 (3, 0, 0, 0, (false), 0, (false), a3, a4)).bind fun r6 => some r6) else (if (decide (r = 5)) = true then ((yD.f k a0 (3, 0, 0, 0, (false), 10000, (false), a3, a4)).bind fun r7 => some r7) else (if (decide (r = 7)) = true then ((wJ.f k a0 a3 a4).bind fun r8 => some r8) else (if (decide (r = 6)) = true then ((xF.f k a0.1 a2 a1).bind fun r9 => (wO.f k a0 r9 a2 a3 a4).bind fun r10 => (yD.f k r10 (3, 0, 0, 0, (false), 50, (true), a4, a4)).bind fun r11 => some r11) else ((xF.f k a0.1 a2 a1).bind fun r12 => (wO.f k a0 r12 a2 a3 a4).bind fun r13 => some r13))))))
def sig (k : Nat) : Sig := .l y89 [(false, (.i .i32)), (false, (.i .i64)), (false, (.i .i64)), (false, (.i .i64))] [] fun b x => f k b x.1 x.2.1 x.2.2.1 x.2.2.2.1
def E (k : Nat) : List (Nat × Sig) := [(62, xU.sig k), (63, wJ.sig k), (88, yD.sig k), (89, uA.sig k), (90, vS.sig k), (91, wO.sig k), (92, xF.sig k)]
noncomputable def d : FD := ⟨64, Tryz.f64, 99, 103, [(0, 99, 4)], [0], [], [], [], .n⟩
def O (k : Nat) : List (Orc (denR ([] ++ [.c true y89]))) := []
theorem ok (k : Nat) : zU Tryz.prog (64, sig k) := fnL SS d E O sig (fun _ => rfl) Tryz.func64 (by kernel_rfl) rfl (fun k => ⟨xU.ok k, wJ.ok k, yD.ok k, uA.ok k, vS.ok k, wO.ok k, xF.ok k, trivial⟩) trivial (by kernel_rfl) (fun _ => pn) (fun k b x => by kernel_rfl) k
end uK
namespace wX
mutual
def l0 : Nat → ByteArray → (List zJ) → Int → Int → Int → A8 → A10 → Option A12
 | 0, _, _, _, _, _, _, _ => none
 | k + 1, t, t2, t3, t4, t5, t6, t7 => if t6.2 < t6.1.size then (l1 k t t2 t4 t5 (t6.2 : Int) ((Utf8.decode t6.1 t6.2).1 : Int) (t6.1, (t6.2 + (Utf8.decode t6.1 t6.2).2)) t7) else ((wJ.f k t7 t3 t3).bind fun r2 => some (r2.2.1, 0))
def l1 : Nat → ByteArray → (List zJ) → Int → Int → Int → Int → A8 → A10 → Option A12
 | 0, _, _, _, _, _, _, _, _ => none
 | k + 1, t8, t9, t10, t11, t12, t13, t14, t15 => if (decide (t11 = 0)) = true then ((at? t9 (wrap64 (t10 + 1))).bind fun e => l1 k t8 t9 (wrap64 (t10 + 1)) e.1 t12 t13 (t14.1, t14.2) t15) else ((sSub t8 t12 (t8.size : Int)).bind fun v => (zAy.f k v).bind fun r3 => if (decide (0 < r3.2)) = true then (j2 k t8 t9 t10 t11 t12 t13 (wrap64 (t12 + r3.2)) (t14.1, t14.2) t15) else (j2 k t8 t9 t10 t11 t12 t13 (t8.size : Int) (t14.1, t14.2) t15))
def j2 : Nat → ByteArray → (List zJ) → Int → Int → Int → Int → Int → A8 → A10 → Option A12
 | 0, _, _, _, _, _, _, _, _, _ => none
 | k + 1, t16, t17, t18, t19, t20, t21, t22, t23, t24 => (xU.f k t21).bind fun r4 => if (decide (r4 = 8)) = true then ((wJ.f k t24 t20 t22).bind fun r5 => some (r5.2.1, 0)) else ((at? t17 t18).bind fun e2 => (uK.f k t24 t21 e2.2 t20 t22).bind fun r6 => l0 k t16 t17 t22 t18 (wrap64 (t19 - (wrap64 (t22 - t20)))) (t23.1, t23.2) r6)
end
def f (k : Nat) (a0 : A1) (a1 : ByteArray) (a2 : (List zJ)) : Option A12 := (vZ.f k a0 a1 a2).bind fun r => if (!decide (r = 0)) = true then (some (([] : List zA), r)) else (l0 k a1 a2 0 (-1) 0 (a1, 0) (a0, ([] : List zA), 0, (false)))
def sig (k : Nat) : Sig := .p [(false, y66), (false, .s), (false, y55)] [.c false y29, .c false (.i .i64)] fun x => f k x.1 x.2.1 x.2.2.1
def E (k : Nat) : List (Nat × Sig) := [(60, vZ.sig k), (61, zAy.sig k), (62, xU.sig k), (63, wJ.sig k), (64, uK.sig k)]
noncomputable def d : FD := ⟨26, Tryz.f26, 92, 96, [(27, 92, 4)], [], [6], [], [.tmp 6, .tmp 7], .s .n (.s .n (.s .n (.s .n (.s (.s .n (.s (.l 0 (.s .n (.s .n (.s (.s .n (.s (.s (.l 1 .n) .n) (.s .n (.j 2 .n .n)))) .n)))) .n)) .n))))⟩
abbrev s0 : Sh := [(1, .v .s), (2, .v y55), (9, .at_ 92), (10, .v (.i .i64)), (11, .v (.i .i64)), (12, .v (.i .i64)), (29, .it), (92, .box y89)]
abbrev s1 : Sh := [(1, .v .s), (2, .v y55), (9, .at_ 92), (11, .v (.i .i64)), (12, .v (.i .i64)), (13, .v (.i .i64)), (14, .v (.i .i32)), (29, .it), (92, .box y89)]
abbrev s2 : Sh := [(1, .v .s), (2, .v y55), (9, .at_ 92), (11, .v (.i .i64)), (12, .v (.i .i64)), (13, .v (.i .i64)), (14, .v (.i .i32)), (15, .v (.i .i64)), (29, .it), (92, .box y89)]
def O (k : Nat) : List (Orc (denR ([.c false y29, .c false (.i .i64)]))) := [⟨s0, fun y => l0 k y.1 y.2.1 y.2.2.2.1 y.2.2.2.2.1 y.2.2.2.2.2.1 y.2.2.2.2.2.2.1 y.2.2.2.2.2.2.2.1⟩, ⟨s1, fun y => l1 k y.1 y.2.1 y.2.2.2.1 y.2.2.2.2.1 y.2.2.2.2.2.1 y.2.2.2.2.2.2.1 y.2.2.2.2.2.2.2.1 y.2.2.2.2.2.2.2.2.1⟩, ⟨s2, fun y => j2 k y.1 y.2.1 y.2.2.2.1 y.2.2.2.2.1 y.2.2.2.2.2.1 y.2.2.2.2.2.2.1 y.2.2.2.2.2.2.2.1 y.2.2.2.2.2.2.2.2.1 y.2.2.2.2.2.2.2.2.2.1⟩]
theorem e1 (k : Nat) (y : denS s1) : l1 (k + 1) y.1 y.2.1 y.2.2.2.1 y.2.2.2.2.1 y.2.2.2.2.2.1 y.2.2.2.2.2.2.1 y.2.2.2.2.2.2.2.1 y.2.2.2.2.2.2.2.2.1 = SS.ev d E O k [1, 1, 1, 1, 0, 1, 0, 0, 1, 1, 0, 1, 0, 0, 0] s1 y := by rw [l1]; kernel_rfl
theorem e2 (k : Nat) (y : denS s2) : j2 (k + 1) y.1 y.2.1 y.2.2.2.1 y.2.2.2.2.1 y.2.2.2.2.2.1 y.2.2.2.2.2.2.1 y.2.2.2.2.2.2.2.1 y.2.2.2.2.2.2.2.2.1 y.2.2.2.2.2.2.2.2.2.1 = SS.ev d E O k [1, 1, 1, 1, 0, 1, 0, 0, 1, 1, 0, 1, 1, 1, 1] s2 y := by rw [j2]; kernel_rfl
theorem e0 (k : Nat) (y : denS s0) : l0 (k + 1) y.1 y.2.1 y.2.2.2.1 y.2.2.2.2.1 y.2.2.2.2.2.1 y.2.2.2.2.2.2.1 y.2.2.2.2.2.2.2.1 = SS.ev d E O k [1, 1, 1, 1, 0, 1, 0, 0] s0 y := by rw [l0]; kernel_rfl
theorem ok (k : Nat) : zU Tryz.prog (26, sig k) := fnP SS d E O sig (fun _ => rfl) Tryz.func26 (by kernel_rfl) rfl (fun k => ⟨vZ.ok k, zAy.ok k, xU.ok k, wJ.ok k, uK.ok k, trivial⟩) ⟨fun _ => rfl, fun _ => rfl, fun _ => rfl, trivial⟩ (by kernel_rfl) (fun k => pc 1 rfl (e1 k) <| pc 2 rfl (e2 k) <| pc 0 rfl (e0 k) <| pn) (fun k x => by kernel_rfl) k
end wX
namespace xJ
mutual
def l0 : Nat → (List Int) → Int → Int → zD → Option Int
 | 0, _, _, _, _ => none
 | k + 1, t, t2, t3, s => if (decide (t3 < t2)) = true then (if 0 ≤ t3 ∧ t3 < (t.length : Int) then ((t[t3.toNat]?).bind fun e => if (decide (e < 0)) = true then (some 80) else (if (decide (10000 < e)) = true then (some 80) else (l0 k t t2 (wrap64 (t3 + 1)) s))) else none) else (l1 k ([s.2.2.1, s.2.2.2.1, s.2.2.2.2.1] : List Int) (([s.2.2.1, s.2.2.2.1, s.2.2.2.2.1] : List Int).length : Int) 0 s)
def l1 : Nat → (List Int) → Int → Int → zD → Option Int
 | 0, _, _, _, _ => none
 | k + 1, t4, t5, t6, s2 => if (decide (t6 < t5)) = true then (if 0 ≤ t6 ∧ t6 < (t4.length : Int) then ((t4[t6.toNat]?).bind fun e2 => if (decide (e2 < 0)) = true then (some 80) else (if (decide (1048576 < e2)) = true then (some 80) else (l1 k t4 t5 (wrap64 (t6 + 1)) s2))) else none) else (l2 k ([s2.2.2.2.2.2.1, s2.2.2.2.2.2.2] : List Int) (([s2.2.2.2.2.2.1, s2.2.2.2.2.2.2] : List Int).length : Int) 0)
def l2 : Nat → (List Int) → Int → Int → Option Int
 | 0, _, _, _ => none
 | k + 1, t7, t8, t9 => if (decide (t9 < t8)) = true then (if 0 ≤ t9 ∧ t9 < (t7.length : Int) then ((t7[t9.toNat]?).bind fun e3 => if (decide (e3 < 1)) = true then (some 80) else (if (decide (100 < e3)) = true then (some 80) else (l2 k t7 t8 (wrap64 (t9 + 1))))) else none) else (some 0)
end
def f (k : Nat) (a0 : zD) : Option Int := l0 k ([a0.1, a0.2.1] : List Int) (([a0.1, a0.2.1] : List Int).length : Int) 0 a0
def sig (k : Nat) : Sig := .p [(true, y92)] [.c false (.i .i64)] fun x => f k x.1
def E (k : Nat) : List (Nat × Sig) := []
noncomputable def d : FD := ⟨65, Tryz.f65, 62, 69, [(1, 62, 7)], [], [], [], [.tmp 2], .s .n (.s (.s .n (.s (.l 0 .n) .n)) (.s (.s .n (.s (.l 1 .n) .n)) (.s (.s .n (.s (.l 2 .n) .n)) .n)))⟩
abbrev s0 : Sh := [(1, .at_ 62), (13, .v y10), (14, .v (.i .i64)), (15, .v (.i .i64)), (62, .box y92)]
abbrev s1 : Sh := [(1, .at_ 62), (32, .v y10), (33, .v (.i .i64)), (34, .v (.i .i64)), (62, .box y92)]
abbrev s2 : Sh := [(49, .v y10), (50, .v (.i .i64)), (51, .v (.i .i64))]
def O (k : Nat) : List (Orc (denR ([.c false (.i .i64)]))) := [⟨s0, fun y => l0 k y.2.1 y.2.2.1 y.2.2.2.1 y.2.2.2.2.1⟩, ⟨s1, fun y => l1 k y.2.1 y.2.2.1 y.2.2.2.1 y.2.2.2.2.1⟩, ⟨s2, fun y => l2 k y.1 y.2.1 y.2.2.1⟩]
theorem e0 (k : Nat) (y : denS s0) : l0 (k + 1) y.2.1 y.2.2.1 y.2.2.2.1 y.2.2.2.2.1 = SS.ev d E O k [1, 0, 1, 0, 0] s0 y := by rw [l0]; kernel_rfl
theorem e1 (k : Nat) (y : denS s1) : l1 (k + 1) y.2.1 y.2.2.1 y.2.2.2.1 y.2.2.2.2.1 = SS.ev d E O k [1, 1, 0, 1, 0, 0] s1 y := by rw [l1]; kernel_rfl
theorem e2 (k : Nat) (y : denS s2) : l2 (k + 1) y.1 y.2.1 y.2.2.1 = SS.ev d E O k [1, 1, 1, 0, 1, 0, 0] s2 y := by rw [l2]; kernel_rfl
theorem ok (k : Nat) : zU Tryz.prog (65, sig k) := fnP SS d E O sig (fun _ => rfl) Tryz.func65 (by kernel_rfl) rfl (fun k => trivial) ⟨fun _ => rfl, fun _ => rfl, fun _ => rfl, trivial⟩ (by kernel_rfl) (fun k => pc 0 rfl (e0 k) <| pc 1 rfl (e1 k) <| pc 2 rfl (e2 k) <| pn) (fun k x => by kernel_rfl) k
end xJ
namespace uQ
mutual
def j0 : Nat → zD → Option Int
 | 0, _ => none
 | k + 1, set_ => (xJ.f k set_).bind fun r => some r
end
def f (k : Nat) (a0 : Int) (a1 : zD) : Option Int := if (decide (a0 < 1)) = true then (some 41) else (if (decide (1073741824 < a0)) = true then (some 41) else (j0 k a1))
def sig (k : Nat) : Sig := .p [(false, (.i .i64)), (true, y92)] [.c false (.i .i64)] fun x => f k x.1 x.2.1
def E (k : Nat) : List (Nat × Sig) := [(65, xJ.sig k)]
noncomputable def d : FD := ⟨27, Tryz.f27, 13, 20, [(3, 13, 7)], [], [], [], [.tmp 4], .s .n (.j 0 .n .n)⟩
abbrev s0 : Sh := [(3, .at_ 13), (13, .box y92)]
def O (k : Nat) : List (Orc (denR ([.c false (.i .i64)]))) := [⟨s0, fun y => j0 k y.2.1⟩]
theorem e0 (k : Nat) (y : denS s0) : j0 (k + 1) y.2.1 = SS.ev d E O k [1, 1] s0 y := by rw [j0]; kernel_rfl
theorem ok (k : Nat) : zU Tryz.prog (27, sig k) := fnP SS d E O sig (fun _ => rfl) Tryz.func27 (by kernel_rfl) rfl (fun k => ⟨xJ.ok k, trivial⟩) ⟨fun _ => rfl, trivial⟩ (by kernel_rfl) (fun k => pc 0 rfl (e0 k) <| pn) (fun k x => by kernel_rfl) k
end uQ
namespace yB
def f (k : Nat) (a0 : zE) : Option Int := some (a0.2.2.2.2.2.2.2.length : Int)
def sig (k : Nat) : Sig := .p [(false, y45)] [.c false (.i .i64)] fun x => f k x.1
def E (k : Nat) : List (Nat × Sig) := []
noncomputable def d : FD := ⟨93, Tryz.f93, 8, 8, [], [], [], [], [.tmp 2], .n⟩
def O (k : Nat) : List (Orc (denR ([.c false (.i .i64)]))) := []
theorem ok (k : Nat) : zU Tryz.prog (93, sig k) := fnP SS d E O sig (fun _ => rfl) Tryz.func93 (by kernel_rfl) rfl (fun k => trivial) trivial (by kernel_rfl) (fun _ => pn) (fun k x => by kernel_rfl) k
end yB
namespace zM
mutual
def j0 : Nat → zE → Int → Option Int
 | 0, _, _ => none
 | k + 1, p, n => (at? p.2.2.2.2.2.2.2 n).bind fun e => some e
end
def f (k : Nat) (a0 : zE) (a1 : Int) : Option Int := if (decide (a1 < 0)) = true then (some (-1)) else (if (decide ((a0.2.2.2.2.2.2.2.length : Int) ≤ a1)) = true then (some (-1)) else (j0 k a0 a1))
def sig (k : Nat) : Sig := .p [(false, y45), (false, (.i .i64))] [.c false (.i .i64)] fun x => f k x.1 x.2.1
def E (k : Nat) : List (Nat × Sig) := []
noncomputable def d : FD := ⟨94, Tryz.f94, 23, 23, [], [], [], [], [.tmp 4], .s .n (.j 0 .n .n)⟩
abbrev s0 : Sh := [(0, .v y45), (1, .v (.i .i64))]
def O (k : Nat) : List (Orc (denR ([.c false (.i .i64)]))) := [⟨s0, fun y => j0 k y.1 y.2.1⟩]
theorem e0 (k : Nat) (y : denS s0) : j0 (k + 1) y.1 y.2.1 = SS.ev d E O k [1, 1] s0 y := by rw [j0]; kernel_rfl
theorem ok (k : Nat) : zU Tryz.prog (94, sig k) := fnP SS d E O sig (fun _ => rfl) Tryz.func94 (by kernel_rfl) rfl (fun k => trivial) ⟨fun _ => rfl, trivial⟩ (by kernel_rfl) (fun k => pc 0 rfl (e0 k) <| pn) (fun k x => by kernel_rfl) k
end zM
namespace yG
mutual
def l0 : Nat → Int → Int → zR → Option zR
 | 0, _, _, _ => none
 | k + 1, last, k_, s => if (decide (0 ≤ k_)) = true then (if 0 ≤ (wrap64 (k_ + 1)) ∧ (wrap64 (k_ + 1)) < (s.2.2.2.2.2.2.2.2.2.2.2.length : Int) then ((s.2.2.2.2.2.2.2.2.2.2.2[(wrap64 (k_ + 1)).toNat]?).bind fun e2 => (zM.f k s.1 k_).bind fun r2 => (zS.f k s.1 r2).bind fun r3 => (vN.f k r3).bind fun r4 => if r4 = true then (j1 k k_ k_ (s.1, s.2.1, s.2.2.1, s.2.2.2.1, s.2.2.2.2.1, s.2.2.2.2.2.1, s.2.2.2.2.2.2.1, s.2.2.2.2.2.2.2.1, s.2.2.2.2.2.2.2.2.1, s.2.2.2.2.2.2.2.2.2.1, s.2.2.2.2.2.2.2.2.2.2.1, s.2.2.2.2.2.2.2.2.2.2.2.set ((wrap64 (k_ + 1)).toNat) last)) else (j1 k last k_ (s.1, s.2.1, s.2.2.1, s.2.2.2.1, s.2.2.2.2.1, s.2.2.2.2.2.1, s.2.2.2.2.2.2.1, s.2.2.2.2.2.2.2.1, s.2.2.2.2.2.2.2.2.1, s.2.2.2.2.2.2.2.2.2.1, s.2.2.2.2.2.2.2.2.2.2.1, s.2.2.2.2.2.2.2.2.2.2.2.set ((wrap64 (k_ + 1)).toNat) last))) else none) else (if 0 ≤ (0 : Int) ∧ (0 : Int) < (s.2.2.2.2.2.2.2.2.2.2.2.length : Int) then ((s.2.2.2.2.2.2.2.2.2.2.2[(0 : Int).toNat]?).bind fun e3 => some (s.1, s.2.1, s.2.2.1, s.2.2.2.1, s.2.2.2.2.1, s.2.2.2.2.2.1, s.2.2.2.2.2.2.1, s.2.2.2.2.2.2.2.1, s.2.2.2.2.2.2.2.2.1, s.2.2.2.2.2.2.2.2.2.1, s.2.2.2.2.2.2.2.2.2.2.1, s.2.2.2.2.2.2.2.2.2.2.2.set ((0 : Int).toNat) last)) else none)
def j1 : Nat → Int → Int → zR → Option zR
 | 0, _, _, _ => none
 | k + 1, last2, k_2, s2 => l0 k last2 (wrap64 (k_2 - 1)) s2
end
def f (k : Nat) (a0 : zR) : Option zR := (yB.f k a0.1).bind fun r => if (wrap64 (r + 1)) = (wrap64 (r + 1)) ∧ 0 ≤ (wrap64 (r + 1)) ∧ (8 : Int) * (wrap64 (r + 1)) ≤ 281474976710656 then (if 0 ≤ r ∧ r < ((List.replicate ((wrap64 (r + 1)).toNat) 0 : List Int).length : Int) then (((List.replicate ((wrap64 (r + 1)).toNat) 0 : List Int)[r.toNat]?).bind fun e => l0 k (wrap64 (r - 1)) (wrap64 (r - 1)) (a0.1, a0.2.1, a0.2.2.1, a0.2.2.2.1, a0.2.2.2.2.1, a0.2.2.2.2.2.1, a0.2.2.2.2.2.2.1, a0.2.2.2.2.2.2.2.1, a0.2.2.2.2.2.2.2.2.1, a0.2.2.2.2.2.2.2.2.2.1, a0.2.2.2.2.2.2.2.2.2.2.1, (List.replicate ((wrap64 (r + 1)).toNat) 0 : List Int).set r.toNat (wrap64 (r - 1)))) else none) else none
def sig (k : Nat) : Sig := .l y104 [] [] fun b x => f k b
def E (k : Nat) : List (Nat × Sig) := [(46, vN.sig k), (52, zS.sig k), (93, yB.sig k), (94, zM.sig k)]
noncomputable def d : FD := ⟨66, Tryz.f66, 59, 71, [(0, 59, 12)], [0], [], [], [], .s .n (.s .n (.s .n (.s .n (.s (.s .n (.s (.l 0 (.s .n (.j 1 .n .n))) .n)) .n))))⟩
abbrev s0 : Sh := [(0, .at_ 59), (3, .v (.i .i64)), (4, .v (.i .i64)), (59, .box y104)]
abbrev s1 : Sh := [(0, .at_ 59), (3, .v (.i .i64)), (4, .v (.i .i64)), (59, .box y104)]
def O (k : Nat) : List (Orc (denR ([] ++ [.c true y104]))) := [⟨s0, fun y => l0 k y.2.1 y.2.2.1 y.2.2.2.1⟩, ⟨s1, fun y => j1 k y.2.1 y.2.2.1 y.2.2.2.1⟩]
theorem e1 (k : Nat) (y : denS s1) : j1 (k + 1) y.2.1 y.2.2.1 y.2.2.2.1 = SS.evL d E y104 O k [1, 1, 1, 1, 0, 1, 0, 0, 1, 1] s1 y := by rw [j1]; kernel_rfl
theorem e0 (k : Nat) (y : denS s0) : l0 (k + 1) y.2.1 y.2.2.1 y.2.2.2.1 = SS.evL d E y104 O k [1, 1, 1, 1, 0, 1, 0, 0] s0 y := by rw [l0]; kernel_rfl
theorem ok (k : Nat) : zU Tryz.prog (66, sig k) := fnL SS d E O sig (fun _ => rfl) Tryz.func66 (by kernel_rfl) rfl (fun k => ⟨vN.ok k, zS.ok k, yB.ok k, zM.ok k, trivial⟩) ⟨fun _ => rfl, fun _ => rfl, trivial⟩ (by kernel_rfl) (fun k => pc 1 rfl (e1 k) <| pc 0 rfl (e0 k) <| pn) (fun k b x => by kernel_rfl) k
end yG
namespace uY
def f (k : Nat) (a0 : zR) (a1 : wC) (a2 : Bool) : Option Bool := if (!a0.2.2.2.2.2.2.2.2.2.1) = true then (if (!a1.2.2.2.2) = true then (some (decide (a1.2.2.1 ≤ a0.2.2.1))) else (some false)) else (if a1.2.2.2.2 = true then (some a2) else (some true))
def sig (k : Nat) : Sig := .p [(false, y117), (true, y52), (false, .b)] [.c false .b] fun x => f k x.1 x.2.1 x.2.2.1
def E (k : Nat) : List (Nat × Sig) := []
noncomputable def d : FD := ⟨116, Tryz.f116, 30, 35, [(4, 30, 5)], [], [], [], [.tmp 6], .n⟩
def O (k : Nat) : List (Orc (denR ([.c false .b]))) := []
theorem ok (k : Nat) : zU Tryz.prog (116, sig k) := fnP SS d E O sig (fun _ => rfl) Tryz.func116 (by kernel_rfl) rfl (fun k => trivial) trivial (by kernel_rfl) (fun _ => pn) (fun k x => by kernel_rfl) k
end uY
namespace wR
def f (k : Nat) (a0 : zR) (a1 : Int) (a2 : Int) : Option (wC × Bool) := (zM.f k a0.1 a1).bind fun r => (zM.f k a0.1 a2).bind fun r2 => (xX.f k a0.1 r r2 a0.2.1).bind fun r3 => (uY.f k a0 r3 (decide (a2 = (wrap64 (a1 + 1))))).bind fun r4 => some (r3, r4)
def sig (k : Nat) : Sig := .p [(false, y117), (false, (.i .i64)), (false, (.i .i64))] [.c true y52, .c false .b] fun x => f k x.1 x.2.1 x.2.2.1
def E (k : Nat) : List (Nat × Sig) := [(51, xX.sig k), (94, zM.sig k), (116, uY.sig k)]
noncomputable def d : FD := ⟨96, Tryz.f96, 38, 48, [(6, 38, 5), (8, 43, 5)], [], [], [], [.cell 6 92, .tmp 7], .n⟩
def O (k : Nat) : List (Orc (denR ([.c true y52, .c false .b]))) := []
theorem ok (k : Nat) : zU Tryz.prog (96, sig k) := fnP SS d E O sig (fun _ => rfl) Tryz.func96 (by kernel_rfl) rfl (fun k => ⟨xX.ok k, zM.ok k, uY.ok k, trivial⟩) trivial (by kernel_rfl) (fun _ => pn) (fun k x => by kernel_rfl) k
end wR
namespace vU
def f (k : Nat) (a0 : Int) (a1 : Int) : Option Int := (wA.f k a0 a1).bind fun r => some (if 1125899906842624 < r then 1125899906842624 else r)
def sig (k : Nat) : Sig := .p [(false, (.i .i64)), (false, (.i .i64))] [.c false (.i .i64)] fun x => f k x.1 x.2.1
def E (k : Nat) : List (Nat × Sig) := [(112, wA.sig k)]
noncomputable def d : FD := ⟨97, Tryz.f97, 9, 9, [], [], [], [], [.tmp 4], .n⟩
def O (k : Nat) : List (Orc (denR ([.c false (.i .i64)]))) := []
theorem ok (k : Nat) : zU Tryz.prog (97, sig k) := fnP SS d E O sig (fun _ => rfl) Tryz.func97 (by kernel_rfl) rfl (fun k => ⟨wA.ok k, trivial⟩) trivial (by kernel_rfl) (fun _ => pn) (fun k x => by kernel_rfl) k
end vU
namespace qJ
mutual
def j0 : Nat → Bool → Int → Option Int
 | 0, _, _ => none
 | k + 1, neg, n => if neg = true then (some (wrap64 (-n))) else (some n)
end
def f (k : Nat) (a0 : Bool) (a1 : Int) (a2 : Int) : Option Int := if (decide (a1 = 0)) = true then (if (decide (a2 < 1152921504606846976)) = true then (j0 k a0 (wrap64 (a2))) else (j0 k a0 1152921504606846976)) else (j0 k a0 1152921504606846976)
def sig (k : Nat) : Sig := .p [(false, .b), (false, (.i .u64)), (false, (.i .u64))] [.c false (.i .i64)] fun x => f k x.1 x.2.1 x.2.2.1
def E (k : Nat) : List (Nat × Sig) := []
noncomputable def d : FD := ⟨138, Tryz.f138, 20, 20, [], [], [], [], [.tmp 6], .s .n (.s .n (.j 0 .n .n))⟩
abbrev s0 : Sh := [(0, .v .b), (7, .v (.i .i64))]
def O (k : Nat) : List (Orc (denR ([.c false (.i .i64)]))) := [⟨s0, fun y => j0 k y.1 y.2.1⟩]
theorem e0 (k : Nat) (y : denS s0) : j0 (k + 1) y.1 y.2.1 = SS.ev d E O k [1, 1, 1] s0 y := by rw [j0]; kernel_rfl
theorem ok (k : Nat) : zU Tryz.prog (138, sig k) := fnP SS d E O sig (fun _ => rfl) Tryz.func138 (by kernel_rfl) rfl (fun k => trivial) ⟨fun _ => rfl, trivial⟩ (by kernel_rfl) (fun k => pc 0 rfl (e0 k) <| pn) (fun k x => by kernel_rfl) k
end qJ
namespace zAB
def f (k : Nat) (a0 : Int) (a1 : Int) : Option Int := (uS.f k a0).bind fun r => (uS.f k a1).bind fun r2 => (uI.f k r r2).bind fun r3 => (qJ.f k (!decide ((decide (a0 < 0)) = (decide (a1 < 0)))) r3.1 r3.2).bind fun r4 => some r4
def sig (k : Nat) : Sig := .p [(false, (.i .i64)), (false, (.i .i64))] [.c false (.i .i64)] fun x => f k x.1 x.2.1
def E (k : Nat) : List (Nat × Sig) := [(133, uI.sig k), (135, uS.sig k), (138, qJ.sig k)]
noncomputable def d : FD := ⟨136, Tryz.f136, 23, 23, [], [], [], [], [.tmp 4], .n⟩
def O (k : Nat) : List (Orc (denR ([.c false (.i .i64)]))) := []
theorem ok (k : Nat) : zU Tryz.prog (136, sig k) := fnP SS d E O sig (fun _ => rfl) Tryz.func136 (by kernel_rfl) rfl (fun k => ⟨uI.ok k, uS.ok k, qJ.ok k, trivial⟩) trivial (by kernel_rfl) (fun _ => pn) (fun k x => by kernel_rfl) k
end zAB
namespace zBn
def f (k : Nat) (a0 : Int) : Option Int := (yR.f k a0).bind fun r => some (wrap64 (-r))
def sig (k : Nat) : Sig := .p [(false, (.i .i64))] [.c false (.i .i64)] fun x => f k x.1
def E (k : Nat) : List (Nat × Sig) := [(125, yR.sig k)]
noncomputable def d : FD := ⟨139, Tryz.f139, 6, 6, [], [], [], [], [.tmp 2], .n⟩
def O (k : Nat) : List (Orc (denR ([.c false (.i .i64)]))) := []
theorem ok (k : Nat) : zU Tryz.prog (139, sig k) := fnP SS d E O sig (fun _ => rfl) Tryz.func139 (by kernel_rfl) rfl (fun k => ⟨yR.ok k, trivial⟩) trivial (by kernel_rfl) (fun _ => pn) (fun k x => by kernel_rfl) k
end zBn
namespace zBx
def f (k : Nat) (a0 : Int) (a1 : Int) : Option Int := (zBn.f k a1).bind fun r => (wA.f k a0 r).bind fun r2 => some r2
def sig (k : Nat) : Sig := .p [(false, (.i .i64)), (false, (.i .i64))] [.c false (.i .i64)] fun x => f k x.1 x.2.1
def E (k : Nat) : List (Nat × Sig) := [(112, wA.sig k), (139, zBn.sig k)]
noncomputable def d : FD := ⟨137, Tryz.f137, 9, 9, [], [], [], [], [.tmp 4], .n⟩
def O (k : Nat) : List (Orc (denR ([.c false (.i .i64)]))) := []
theorem ok (k : Nat) : zU Tryz.prog (137, sig k) := fnP SS d E O sig (fun _ => rfl) Tryz.func137 (by kernel_rfl) rfl (fun k => ⟨wA.ok k, zBn.ok k, trivial⟩) trivial (by kernel_rfl) (fun _ => pn) (fun k x => by kernel_rfl) k
end zBx
namespace uC
mutual
def j0 : Nat → Int → Option Int
 | 0, _ => none
 | k + 1, d => some (if 0 < d then d else 0)
end
def f (k : Nat) (a0 : Int) (a1 : Int) (a2 : Int) : Option Int := (wA.f k a0 a1).bind fun r => (zAB.f k r r).bind fun r2 => if (decide (0 ≤ a2)) = true then ((zAB.f k a2 a2).bind fun r3 => (wA.f k r2 r3).bind fun r4 => j0 k r4) else (if (decide ((-10000) < a2)) = true then ((zAB.f k a2 a2).bind fun r5 => (zBx.f k r2 r5).bind fun r6 => j0 k r6) else (j0 k r2))
def sig (k : Nat) : Sig := .p [(false, (.i .i64)), (false, (.i .i64)), (false, (.i .i64))] [.c false (.i .i64)] fun x => f k x.1 x.2.1 x.2.2.1
def E (k : Nat) : List (Nat × Sig) := [(112, wA.sig k), (136, zAB.sig k), (137, zBx.sig k)]
noncomputable def d : FD := ⟨130, Tryz.f130, 33, 33, [], [], [], [], [.tmp 6], .s .n (.s .n (.s .n (.j 0 .n .n)))⟩
abbrev s0 : Sh := [(8, .v (.i .i64))]
def O (k : Nat) : List (Orc (denR ([.c false (.i .i64)]))) := [⟨s0, fun y => j0 k y.1⟩]
theorem e0 (k : Nat) (y : denS s0) : j0 (k + 1) y.1 = SS.ev d E O k [1, 1, 1, 1] s0 y := by rw [j0]; kernel_rfl
theorem ok (k : Nat) : zU Tryz.prog (130, sig k) := fnP SS d E O sig (fun _ => rfl) Tryz.func130 (by kernel_rfl) rfl (fun k => ⟨wA.ok k, zAB.ok k, zBx.ok k, trivial⟩) ⟨fun _ => rfl, trivial⟩ (by kernel_rfl) (fun k => pc 0 rfl (e0 k) <| pn) (fun k x => by kernel_rfl) k
end uC
namespace zAk
def f (k : Nat) (a0 : Int) (a1 : Int) : Option Bool := if (decide (1 < (wrap64 (a0 - a1)))) = true then (some true) else (some (decide (1 < (wrap64 (a1 - a0)))))
def sig (k : Nat) : Sig := .p [(false, (.i .i64)), (false, (.i .i64))] [.c false .b] fun x => f k x.1 x.2.1
def E (k : Nat) : List (Nat × Sig) := []
noncomputable def d : FD := ⟨131, Tryz.f131, 15, 15, [], [], [], [], [.tmp 4], .n⟩
def O (k : Nat) : List (Orc (denR ([.c false .b]))) := []
theorem ok (k : Nat) : zU Tryz.prog (131, sig k) := fnP SS d E O sig (fun _ => rfl) Tryz.func131 (by kernel_rfl) rfl (fun k => trivial) trivial (by kernel_rfl) (fun _ => pn) (fun k x => by kernel_rfl) k
end zAk
namespace vE
mutual
def j0 : Nat → Bool → Int → zD → zA → zAN → Option Int
 | 0, _, _, _, _, _ => none
 | k + 1, last, d, s, end_, ahead => if ahead.2 = true then (if end_.2.2.2.2.2.2.1 = true then ((wA.f k d s.2.2.2.1).bind fun r4 => j1 k last r4 s ahead) else (j1 k last d s ahead)) else (j1 k last d s ahead)
def j1 : Nat → Bool → Int → zD → zAN → Option Int
 | 0, _, _, _, _ => none
 | k + 1, last2, d2, s2, ahead2 => if ahead2.2 = true then (if last2 = true then ((wA.f k d2 s2.2.2.2.2.1).bind fun r5 => j2 k r5) else (j2 k d2)) else (j2 k d2)
def j2 : Nat → Int → Option Int
 | 0, _ => none
 | k + 1, d3 => some (if 1125899906842624 < d3 then 1125899906842624 else d3)
end
def f (k : Nat) (a0 : zD) (a1 : wC) (a2 : zA) (a3 : zAN) (a4 : Bool) : Option Int := if a1.2.2.2.2 = true then (some 1125899906842624) else ((uC.f k a0.2.1 a1.2.2.1 a2.2.2.2.2.2.1).bind fun r => if (decide (0 ≤ a3.1)) = true then ((zAk.f k a1.2.2.2.1 a3.1).bind fun r2 => if r2 = true then ((wA.f k r a0.2.2.1).bind fun r3 => j0 k a4 r3 a0 a2 a3) else (j0 k a4 r a0 a2 a3)) else (j0 k a4 r a0 a2 a3))
def sig (k : Nat) : Sig := .p [(true, y92), (true, y52), (true, y27), (true, y49), (false, .b)] [.c false (.i .i64)] fun x => f k x.1 x.2.1 x.2.2.1 x.2.2.2.1 x.2.2.2.2.1
def E (k : Nat) : List (Nat × Sig) := [(112, wA.sig k), (130, uC.sig k), (131, zAk.sig k)]
noncomputable def d : FD := ⟨117, Tryz.f117, 56, 79, [(5, 56, 7), (6, 63, 5), (7, 68, 9), (8, 77, 2)], [], [], [], [.tmp 10], .s .n (.s .n (.s .n (.j 0 .n (.j 1 .n (.j 2 .n .n)))))⟩
abbrev s0 : Sh := [(4, .v .b), (5, .at_ 56), (7, .at_ 68), (8, .at_ 77), (11, .v (.i .i64)), (56, .box y92), (68, .box y27), (77, .box y49)]
abbrev s1 : Sh := [(4, .v .b), (5, .at_ 56), (8, .at_ 77), (11, .v (.i .i64)), (56, .box y92), (77, .box y49)]
abbrev s2 : Sh := [(11, .v (.i .i64))]
def O (k : Nat) : List (Orc (denR ([.c false (.i .i64)]))) := [⟨s0, fun y => j0 k y.1 y.2.2.2.2.1 y.2.2.2.2.2.1 y.2.2.2.2.2.2.1 y.2.2.2.2.2.2.2.1⟩, ⟨s1, fun y => j1 k y.1 y.2.2.2.1 y.2.2.2.2.1 y.2.2.2.2.2.1⟩, ⟨s2, fun y => j2 k y.1⟩]
theorem e2 (k : Nat) (y : denS s2) : j2 (k + 1) y.1 = SS.ev d E O k [1, 1, 1, 1, 1, 1] s2 y := by rw [j2]; kernel_rfl
theorem e1 (k : Nat) (y : denS s1) : j1 (k + 1) y.1 y.2.2.2.1 y.2.2.2.2.1 y.2.2.2.2.2.1 = SS.ev d E O k [1, 1, 1, 1, 1] s1 y := by rw [j1]; kernel_rfl
theorem e0 (k : Nat) (y : denS s0) : j0 (k + 1) y.1 y.2.2.2.2.1 y.2.2.2.2.2.1 y.2.2.2.2.2.2.1 y.2.2.2.2.2.2.2.1 = SS.ev d E O k [1, 1, 1, 1] s0 y := by rw [j0]; kernel_rfl
theorem ok (k : Nat) : zU Tryz.prog (117, sig k) := fnP SS d E O sig (fun _ => rfl) Tryz.func117 (by kernel_rfl) rfl (fun k => ⟨wA.ok k, uC.ok k, zAk.ok k, trivial⟩) ⟨fun _ => rfl, fun _ => rfl, fun _ => rfl, trivial⟩ (by kernel_rfl) (fun k => pc 2 rfl (e2 k) <| pc 1 rfl (e1 k) <| pc 0 rfl (e0 k) <| pn) (fun k x => by kernel_rfl) k
end vE
namespace xR
mutual
def j0 : Nat → zR → Int → wC → zAN → Option Int
 | 0, _, _, _, _ => none
 | k + 1, s, j, f, ahead => (zM.f k s.1 j).bind fun r3 => (zS.f k s.1 r3).bind fun r4 => (yB.f k s.1).bind fun r5 => (vE.f k (s.2.2.1, s.2.2.2.1, s.2.2.2.2.1, s.2.2.2.2.2.1, s.2.2.2.2.2.2.1, s.2.2.2.2.2.2.2.1, s.2.2.2.2.2.2.2.2.1) f r4 ahead (decide (j = (wrap64 (r5 - 1))))).bind fun r6 => some r6
end
def f (k : Nat) (a0 : zR) (a1 : Int) (a2 : Int) (a3 : wC) (a4 : Int) : Option Int := if (decide (0 ≤ a1)) = true then ((zM.f k a0.1 a1).bind fun r => (zS.f k a0.1 r).bind fun r2 => j0 k a0 a2 a3 (a4, r2.2.2.2.2.2.2.1)) else (j0 k a0 a2 a3 ((-1), (false)))
def sig (k : Nat) : Sig := .p [(false, y117), (false, (.i .i64)), (false, (.i .i64)), (true, y52), (false, (.i .i64))] [.c false (.i .i64)] fun x => f k x.1 x.2.1 x.2.2.1 x.2.2.2.1 x.2.2.2.2.1
def E (k : Nat) : List (Nat × Sig) := [(52, zS.sig k), (93, yB.sig k), (94, zM.sig k), (117, vE.sig k)]
noncomputable def d : FD := ⟨98, Tryz.f98, 56, 63, [(8, 56, 5), (11, 61, 2)], [], [], [], [.tmp 10], .s .n (.s .n (.j 0 .n .n))⟩
abbrev s0 : Sh := [(0, .v y117), (2, .v (.i .i64)), (8, .at_ 56), (11, .at_ 61), (56, .box y52), (61, .box y49)]
def O (k : Nat) : List (Orc (denR ([.c false (.i .i64)]))) := [⟨s0, fun y => j0 k y.1 y.2.1 y.2.2.2.2.1 y.2.2.2.2.2.1⟩]
theorem e0 (k : Nat) (y : denS s0) : j0 (k + 1) y.1 y.2.1 y.2.2.2.2.1 y.2.2.2.2.2.1 = SS.ev d E O k [1, 1, 1] s0 y := by rw [j0]; kernel_rfl
theorem ok (k : Nat) : zU Tryz.prog (98, sig k) := fnP SS d E O sig (fun _ => rfl) Tryz.func98 (by kernel_rfl) rfl (fun k => ⟨zS.ok k, yB.ok k, zM.ok k, vE.ok k, trivial⟩) ⟨fun _ => rfl, trivial⟩ (by kernel_rfl) (fun k => pc 0 rfl (e0 k) <| pn) (fun k x => by kernel_rfl) k
end xR
namespace xH
mutual
def j0 : Nat → zE → zB → Option A13
 | 0, _, _ => none
 | k + 1, p, s => some (wrap64 (s.1 - s.2.2.1), wrap64 ((wrap64 (s.1 + (wrap64 (5 * s.2.1)))) + p.2.2.2.2.2.2.1), decide (0 < s.2.2.2))
end
def f (k : Nat) (a0 : zE) (a1 : Int) (a2 : Int) : Option A13 := (wK.f k a0 a1 a2).bind fun r => (zS.f k a0 a2).bind fun r2 => if (decide (r2.1 = 3)) = true then (j0 k a0 (wrap64 (r.1 - r2.2.1), r.2.1, r.2.2.1, r.2.2.2)) else (j0 k a0 r)
def sig (k : Nat) : Sig := .p [(false, y45), (false, (.i .i64)), (false, (.i .i64))] [.c false (.i .i64), .c false (.i .i64), .c false .b] fun x => f k x.1 x.2.1 x.2.2.1
def E (k : Nat) : List (Nat × Sig) := [(52, zS.sig k), (78, wK.sig k)]
noncomputable def d : FD := ⟨115, Tryz.f115, 46, 59, [(9, 46, 4), (10, 50, 9)], [], [], [], [.tmp 6, .tmp 7, .tmp 8], .s .n (.s .n (.j 0 .n .n))⟩
abbrev s0 : Sh := [(0, .v y45), (9, .at_ 46), (46, .box y53)]
def O (k : Nat) : List (Orc (denR ([.c false (.i .i64), .c false (.i .i64), .c false .b]))) := [⟨s0, fun y => j0 k y.1 y.2.2.1⟩]
theorem e0 (k : Nat) (y : denS s0) : j0 (k + 1) y.1 y.2.2.1 = SS.ev d E O k [1, 1, 1] s0 y := by rw [j0]; kernel_rfl
theorem ok (k : Nat) : zU Tryz.prog (115, sig k) := fnP SS d E O sig (fun _ => rfl) Tryz.func115 (by kernel_rfl) rfl (fun k => ⟨zS.ok k, wK.ok k, trivial⟩) ⟨fun _ => rfl, trivial⟩ (by kernel_rfl) (fun k => pc 0 rfl (e0 k) <| pn) (fun k x => by kernel_rfl) k
end xH
namespace zY
mutual
def j0 : Nat → zR → Int → Int → Option Int
 | 0, _, _, _ => none
 | k + 1, t, t2, t3 => (zM.f k t.1 t2).bind fun r => l1 k t (wrap64 (t2 + 1)) t3 r
def l1 : Nat → zR → Int → Int → Int → Option Int
 | 0, _, _, _, _ => none
 | k + 1, t4, t5, t6, t7 => if (decide (t5 < t6)) = true then ((zM.f k t4.1 (wrap64 ((wrap64 (t5 + t6)).tdiv 2))).bind fun r2 => (xH.f k t4.1 t7 r2).bind fun r3 => if (decide (r3.2.1 < t4.2.1)) = true then (if (!r3.2.2) = true then (l1 k t4 (wrap64 ((wrap64 ((wrap64 (t5 + t6)).tdiv 2)) + 1)) t6 t7) else (l1 k t4 t5 (wrap64 ((wrap64 (t5 + t6)).tdiv 2)) t7)) else (l1 k t4 t5 (wrap64 ((wrap64 (t5 + t6)).tdiv 2)) t7)) else (some t5)
end
def f (k : Nat) (a0 : zR) (a1 : Int) (a2 : Int) : Option Int := if a0.2.2.2.2.2.2.2.2.2.1 = true then (some (wrap64 (a1 + 1))) else (if (decide (10000 ≤ a0.2.2.1)) = true then (some (wrap64 (a1 + 1))) else (j0 k a0 a1 a2))
def sig (k : Nat) : Sig := .p [(false, y117), (false, (.i .i64)), (false, (.i .i64))] [.c false (.i .i64)] fun x => f k x.1 x.2.1 x.2.2.1
def E (k : Nat) : List (Nat × Sig) := [(94, zM.sig k), (115, xH.sig k)]
noncomputable def d : FD := ⟨114, Tryz.f114, 74, 74, [], [], [], [], [.tmp 6], .s .n (.j 0 .n (.s .n (.s .n (.s (.s (.l 1 .n) .n) .n))))⟩
abbrev s0 : Sh := [(0, .v y117), (1, .v (.i .i64)), (2, .v (.i .i64))]
abbrev s1 : Sh := [(0, .v y117), (7, .v (.i .i64)), (8, .v (.i .i64)), (9, .v (.i .i64))]
def O (k : Nat) : List (Orc (denR ([.c false (.i .i64)]))) := [⟨s0, fun y => j0 k y.1 y.2.1 y.2.2.1⟩, ⟨s1, fun y => l1 k y.1 y.2.1 y.2.2.1 y.2.2.2.1⟩]
theorem e1 (k : Nat) (y : denS s1) : l1 (k + 1) y.1 y.2.1 y.2.2.1 y.2.2.2.1 = SS.ev d E O k [1, 1, 1, 1, 0, 0, 0] s1 y := by rw [l1]; kernel_rfl
theorem e0 (k : Nat) (y : denS s0) : j0 (k + 1) y.1 y.2.1 y.2.2.1 = SS.ev d E O k [1, 1] s0 y := by rw [j0]; kernel_rfl
theorem ok (k : Nat) : zU Tryz.prog (114, sig k) := fnP SS d E O sig (fun _ => rfl) Tryz.func114 (by kernel_rfl) rfl (fun k => ⟨zM.ok k, xH.ok k, trivial⟩) ⟨fun _ => rfl, fun _ => rfl, trivial⟩ (by kernel_rfl) (fun k => pc 1 rfl (e1 k) <| pc 0 rfl (e0 k) <| pn) (fun k x => by kernel_rfl) k
end zY
namespace zI
mutual
def l0 : Nat → zR → Int → Int → Int → zB → zB → Option zB
 | 0, _, _, _, _, _, _ => none
 | k + 1, t, t2, t3, t4, t5, t6 => if (decide (t4 ≤ t3)) = true then ((wR.f k t t2 t4).bind fun r2 => (zM.f k t.1 t2).bind fun r3 => (zM.f k t.1 t4).bind fun r4 => (xH.f k t.1 r3 r4).bind fun r5 => if (decide (t.2.1 < r5.1)) = true then (if (decide ((wrap64 (t2 + 1)) < t4)) = true then (some t6) else (j1 k t t2 t3 t4 r2.2 t5 t6 r2.1)) else (j1 k t t2 t3 t4 r2.2 t5 t6 r2.1)) else (some t6)
def j1 : Nat → zR → Int → Int → Int → Bool → zB → zB → wC → Option zB
 | 0, _, _, _, _, _, _, _, _ => none
 | k + 1, t7, t8, t9, t10, t11, t12, t13, t14 => if (!t11) = true then (j2 k t7 t8 t9 t10 t12 t13) else ((yB.f k t7.1).bind fun r6 => if (decide (t10 < (wrap64 (r6 - 1)))) = true then ((at? t7.2.2.2.2.2.2.2.2.2.2.1 t10).bind fun e2 => (at? ([e2.1, e2.2.1, e2.2.2.1, e2.2.2.2] : List Int) t14.2.2.2.1).bind fun e3 => j3 k t7 t8 t9 t10 e3 t12 t13 t14) else (j3 k t7 t8 t9 t10 0 t12 t13 t14))
def j2 : Nat → zR → Int → Int → Int → zB → zB → Option zB
 | 0, _, _, _, _, _, _ => none
 | k + 1, t15, t16, t17, t18, t19, t20 => l0 k t15 t16 t17 (wrap64 (t18 + 1)) t19 t20
def j3 : Nat → zR → Int → Int → Int → Int → zB → zB → wC → Option zB
 | 0, _, _, _, _, _, _, _, _ => none
 | k + 1, t21, t22, t23, t24, t25, t26, t27, t28 => if (decide (t25 = 1125899906842625)) = true then (j2 k t21 t22 t23 t24 t26 t27) else (l4 k t21 t22 t23 t24 t25 0 t26 t27 t28)
def l4 : Nat → zR → Int → Int → Int → Int → Int → zB → zB → wC → Option zB
 | 0, _, _, _, _, _, _, _, _, _ => none
 | k + 1, t29, t30, t31, t32, t33, t34, t35, t36, t37 => if (decide (t34 < 4)) = true then (if 0 ≤ t34 ∧ t34 < (4 : Int) then ((([t36.1, t36.2.1, t36.2.2.1, t36.2.2.2] : List Int)[t34.toNat]?).bind fun e4 => (xR.f k t29 t30 t32 t37 t34).bind fun r7 => (vU.f k r7 t33).bind fun r8 => if 0 ≤ t34 ∧ t34 < (4 : Int) then (if t34.toNat < 4 then (l4 k t29 t30 t31 t32 t33 (wrap64 (t34 + 1)) t35 ((if t34.toNat = 0 then (if r8 < e4 then r8 else e4) else t36.1), (if t34.toNat = 1 then (if r8 < e4 then r8 else e4) else t36.2.1), (if t34.toNat = 2 then (if r8 < e4 then r8 else e4) else t36.2.2.1), (if t34.toNat = 3 then (if r8 < e4 then r8 else e4) else t36.2.2.2)) t37) else none) else none) else none) else (j2 k t29 t30 t31 t32 t35 t36)
end
def f (k : Nat) (a0 : zR) (a1 : Int) : Option zB := (at? a0.2.2.2.2.2.2.2.2.2.2.2 (wrap64 (a1 + 1))).bind fun e => (zY.f k a0 a1 e).bind fun r => l0 k a0 a1 e r (0, 0, 0, 0) (1125899906842625, 1125899906842625, 1125899906842625, 1125899906842625)
def sig (k : Nat) : Sig := .p [(false, y117), (false, (.i .i64))] [.c true y53] fun x => f k x.1 x.2.1
def E (k : Nat) : List (Nat × Sig) := [(93, yB.sig k), (94, zM.sig k), (96, wR.sig k), (97, vU.sig k), (98, xR.sig k), (114, zY.sig k), (115, xH.sig k)]
noncomputable def d : FD := ⟨95, Tryz.f95, 114, 127, [(4, 114, 4), (5, 118, 4), (8, 122, 5)], [], [], [], [.cell 4 157], .s .n (.s (.s .n (.s .n (.s .n (.s (.s .n (.s (.l 0 (.s .n (.j 2 (.s (.s .n (.j 1 .n (.s .n (.s .n (.j 3 .n (.s .n (.s .n (.s (.l 4 .n) .n)))))))) .n) .n))) .n)) .n)))) .n)⟩
abbrev s0 : Sh := [(0, .v y117), (1, .v (.i .i64)), (4, .at_ 114), (5, .at_ 118), (6, .v (.i .i64)), (7, .v (.i .i64)), (114, .box y53), (118, .box y53)]
abbrev s1 : Sh := [(0, .v y117), (1, .v (.i .i64)), (4, .at_ 114), (5, .at_ 118), (6, .v (.i .i64)), (7, .v (.i .i64)), (8, .at_ 122), (9, .v .b), (114, .box y53), (118, .box y53), (122, .box y52)]
abbrev s2 : Sh := [(0, .v y117), (1, .v (.i .i64)), (4, .at_ 114), (5, .at_ 118), (6, .v (.i .i64)), (7, .v (.i .i64)), (114, .box y53), (118, .box y53)]
abbrev s3 : Sh := [(0, .v y117), (1, .v (.i .i64)), (4, .at_ 114), (5, .at_ 118), (6, .v (.i .i64)), (7, .v (.i .i64)), (8, .at_ 122), (13, .v (.i .i64)), (114, .box y53), (118, .box y53), (122, .box y52)]
abbrev s4 : Sh := [(0, .v y117), (1, .v (.i .i64)), (4, .at_ 114), (5, .at_ 118), (6, .v (.i .i64)), (7, .v (.i .i64)), (8, .at_ 122), (13, .v (.i .i64)), (95, .v (.i .i64)), (114, .box y53), (118, .box y53), (122, .box y52)]
def O (k : Nat) : List (Orc (denR ([.c true y53]))) := [⟨s0, fun y => l0 k y.1 y.2.1 y.2.2.2.2.1 y.2.2.2.2.2.1 y.2.2.2.2.2.2.1 y.2.2.2.2.2.2.2.1⟩, ⟨s1, fun y => j1 k y.1 y.2.1 y.2.2.2.2.1 y.2.2.2.2.2.1 y.2.2.2.2.2.2.2.1 y.2.2.2.2.2.2.2.2.1 y.2.2.2.2.2.2.2.2.2.1 y.2.2.2.2.2.2.2.2.2.2.1⟩, ⟨s2, fun y => j2 k y.1 y.2.1 y.2.2.2.2.1 y.2.2.2.2.2.1 y.2.2.2.2.2.2.1 y.2.2.2.2.2.2.2.1⟩, ⟨s3, fun y => j3 k y.1 y.2.1 y.2.2.2.2.1 y.2.2.2.2.2.1 y.2.2.2.2.2.2.2.1 y.2.2.2.2.2.2.2.2.1 y.2.2.2.2.2.2.2.2.2.1 y.2.2.2.2.2.2.2.2.2.2.1⟩, ⟨s4, fun y => l4 k y.1 y.2.1 y.2.2.2.2.1 y.2.2.2.2.2.1 y.2.2.2.2.2.2.2.1 y.2.2.2.2.2.2.2.2.1 y.2.2.2.2.2.2.2.2.2.1 y.2.2.2.2.2.2.2.2.2.2.1 y.2.2.2.2.2.2.2.2.2.2.2.1⟩]
theorem e4 (k : Nat) (y : denS s4) : l4 (k + 1) y.1 y.2.1 y.2.2.2.2.1 y.2.2.2.2.2.1 y.2.2.2.2.2.2.2.1 y.2.2.2.2.2.2.2.2.1 y.2.2.2.2.2.2.2.2.2.1 y.2.2.2.2.2.2.2.2.2.2.1 y.2.2.2.2.2.2.2.2.2.2.2.1 = SS.ev d E O k [1, 0, 1, 1, 1, 0, 1, 0, 0, 1, 0, 0, 1, 1, 1, 1, 1, 1, 1, 0, 0] s4 y := by rw [l4]; kernel_rfl
theorem e3 (k : Nat) (y : denS s3) : j3 (k + 1) y.1 y.2.1 y.2.2.2.2.1 y.2.2.2.2.2.1 y.2.2.2.2.2.2.2.1 y.2.2.2.2.2.2.2.2.1 y.2.2.2.2.2.2.2.2.2.1 y.2.2.2.2.2.2.2.2.2.2.1 = SS.ev d E O k [1, 0, 1, 1, 1, 0, 1, 0, 0, 1, 0, 0, 1, 1, 1, 1, 1] s3 y := by rw [j3]; kernel_rfl
theorem e1 (k : Nat) (y : denS s1) : j1 (k + 1) y.1 y.2.1 y.2.2.2.2.1 y.2.2.2.2.2.1 y.2.2.2.2.2.2.2.1 y.2.2.2.2.2.2.2.2.1 y.2.2.2.2.2.2.2.2.2.1 y.2.2.2.2.2.2.2.2.2.2.1 = SS.ev d E O k [1, 0, 1, 1, 1, 0, 1, 0, 0, 1, 0, 0, 1, 1] s1 y := by rw [j1]; kernel_rfl
theorem e2 (k : Nat) (y : denS s2) : j2 (k + 1) y.1 y.2.1 y.2.2.2.2.1 y.2.2.2.2.2.1 y.2.2.2.2.2.2.1 y.2.2.2.2.2.2.2.1 = SS.ev d E O k [1, 0, 1, 1, 1, 0, 1, 0, 0, 1, 1] s2 y := by rw [j2]; kernel_rfl
theorem e0 (k : Nat) (y : denS s0) : l0 (k + 1) y.1 y.2.1 y.2.2.2.2.1 y.2.2.2.2.2.1 y.2.2.2.2.2.2.1 y.2.2.2.2.2.2.2.1 = SS.ev d E O k [1, 0, 1, 1, 1, 0, 1, 0, 0] s0 y := by rw [l0]; kernel_rfl
theorem ok (k : Nat) : zU Tryz.prog (95, sig k) := fnP SS d E O sig (fun _ => rfl) Tryz.func95 (by kernel_rfl) rfl (fun k => ⟨yB.ok k, zM.ok k, wR.ok k, vU.ok k, xR.ok k, zY.ok k, xH.ok k, trivial⟩) ⟨fun _ => rfl, fun _ => rfl, fun _ => rfl, fun _ => rfl, fun _ => rfl, trivial⟩ (by kernel_rfl) (fun k => pc 4 rfl (e4 k) <| pc 3 rfl (e3 k) <| pc 1 rfl (e1 k) <| pc 2 rfl (e2 k) <| pc 0 rfl (e0 k) <| pn) (fun k x => by kernel_rfl) k
end zI
namespace xV
mutual
def l0 : Nat → Int → zR → Option A14
 | 0, _, _ => none
 | k + 1, k_, s => if (decide (0 ≤ k_)) = true then ((zI.f k s k_).bind fun r2 => if 0 ≤ k_ ∧ k_ < (s.2.2.2.2.2.2.2.2.2.2.1.length : Int) then ((s.2.2.2.2.2.2.2.2.2.2.1[k_.toNat]?).bind fun e => l0 k (wrap64 (k_ - 1)) (s.1, s.2.1, s.2.2.1, s.2.2.2.1, s.2.2.2.2.1, s.2.2.2.2.2.1, s.2.2.2.2.2.2.1, s.2.2.2.2.2.2.2.1, s.2.2.2.2.2.2.2.2.1, s.2.2.2.2.2.2.2.2.2.1, s.2.2.2.2.2.2.2.2.2.2.1.set k_.toNat r2, s.2.2.2.2.2.2.2.2.2.2.2)) else none) else ((zI.f k s (-1)).bind fun r3 => some (r3.1, s))
end
def f (k : Nat) (a0 : zR) : Option A14 := (yB.f k a0.1).bind fun r => if r = r ∧ 0 ≤ r ∧ (32 : Int) * r ≤ 281474976710656 then (l0 k (wrap64 (r - 2)) (a0.1, a0.2.1, a0.2.2.1, a0.2.2.2.1, a0.2.2.2.2.1, a0.2.2.2.2.2.1, a0.2.2.2.2.2.2.1, a0.2.2.2.2.2.2.2.1, a0.2.2.2.2.2.2.2.2.1, a0.2.2.2.2.2.2.2.2.2.1, (List.replicate r.toNat (0, 0, 0, 0) : List zB), a0.2.2.2.2.2.2.2.2.2.2.2)) else none
def sig (k : Nat) : Sig := .l y104 [] [.c false (.i .i64)] fun b x => f k b
def E (k : Nat) : List (Nat × Sig) := [(93, yB.sig k), (95, zI.sig k)]
noncomputable def d : FD := ⟨67, Tryz.f67, 33, 45, [(0, 33, 12)], [0], [], [], [.tmp 2], .s .n (.s .n (.s .n (.s (.s .n (.s (.l 0 .n) .n)) .n)))⟩
abbrev s0 : Sh := [(0, .at_ 33), (4, .v (.i .i64)), (33, .box y104)]
def O (k : Nat) : List (Orc (denR ([.c false (.i .i64)] ++ [.c true y104]))) := [⟨s0, fun y => l0 k y.2.1 y.2.2.1⟩]
theorem e0 (k : Nat) (y : denS s0) : l0 (k + 1) y.2.1 y.2.2.1 = SS.evL d E y104 O k [1, 1, 1, 0, 1, 0, 0] s0 y := by rw [l0]; kernel_rfl
theorem ok (k : Nat) : zU Tryz.prog (67, sig k) := fnL SS d E O sig (fun _ => rfl) Tryz.func67 (by kernel_rfl) rfl (fun k => ⟨yB.ok k, zI.ok k, trivial⟩) ⟨fun _ => rfl, trivial⟩ (by kernel_rfl) (fun k => pc 0 rfl (e0 k) <| pn) (fun k b x => by kernel_rfl) k
end xV
namespace zP
mutual
def j0 : Nat → zR → Int → (List Int) → Int → Int → Int → Int → Option (List Int)
 | 0, _, _, _, _, _, _, _ => none
 | k + 1, t, t2, t3, t4, t5, t6, t7 => if (decide (t4 = (wrap64 (t7 - 1)))) = true then (some t3) else ((at? t.2.2.2.2.2.2.2.2.2.2.2 (wrap64 (t4 + 1))).bind fun e => l1 k t t2 t3 t4 t5 t6 t7 e (wrap64 (t4 + 1)))
def l1 : Nat → zR → Int → (List Int) → Int → Int → Int → Int → Int → Int → Option (List Int)
 | 0, _, _, _, _, _, _, _, _, _ => none
 | k + 1, t8, t9, t10, t11, t12, t13, t14, t15, t16 => if (decide (t16 ≤ t15)) = true then ((wR.f k t8 t11 t16).bind fun r2 => if (!r2.2) = true then (j2 k t8 t9 t10 t11 t12 t13 t14 t15 t16) else (if (decide (t16 < (wrap64 (t14 - 1)))) = true then ((at? t8.2.2.2.2.2.2.2.2.2.2.1 t16).bind fun e2 => (at? ([e2.1, e2.2.1, e2.2.2.1, e2.2.2.2] : List Int) r2.1.2.2.2.1).bind fun e3 => j3 k t8 t9 t10 t11 t12 t13 t14 t15 t16 e3 r2.1) else (j3 k t8 t9 t10 t11 t12 t13 t14 t15 t16 0 r2.1))) else (some t10)
def j2 : Nat → zR → Int → (List Int) → Int → Int → Int → Int → Int → Int → Option (List Int)
 | 0, _, _, _, _, _, _, _, _, _ => none
 | k + 1, t17, t18, t19, t20, t21, t22, t23, t24, t25 => l1 k t17 t18 t19 t20 t21 t22 t23 t24 (wrap64 (t25 + 1))
def j3 : Nat → zR → Int → (List Int) → Int → Int → Int → Int → Int → Int → Int → wC → Option (List Int)
 | 0, _, _, _, _, _, _, _, _, _, _, _ => none
 | k + 1, t26, t27, t28, t29, t30, t31, t32, t33, t34, t35, t36 => (xR.f k t26 t29 t34 t36 t30).bind fun r3 => (vU.f k t31 r3).bind fun r4 => if (decide (t35 = 1125899906842625)) = true then (j2 k t26 t27 t28 t29 t30 t31 t32 t33 t34) else ((vU.f k r4 t35).bind fun r5 => if (!decide (r5 = t27)) = true then (j2 k t26 t27 t28 t29 t30 t31 t32 t33 t34) else (j4 k t26 t27 t28 t32 t34 r4 t36))
def j4 : Nat → zR → Int → (List Int) → Int → Int → Int → wC → Option (List Int)
 | 0, _, _, _, _, _, _, _ => none
 | k + 1, t37, t38, t39, t40, t41, t42, t43 => (zM.f k t37.1 t41).bind fun r6 => if (t39.length + ([r6] : List Int).length) * 8 ≤ 140737488355328 then (j0 k t37 t38 (t39 ++ ([r6] : List Int)) t41 t43.2.2.2.1 t42 t40) else none
end
def f (k : Nat) (a0 : zR) (a1 : Int) : Option (List Int) := (yB.f k a0.1).bind fun r => j0 k a0 a1 ([] : List Int) (-1) 0 0 r
def sig (k : Nat) : Sig := .p [(false, y117), (false, (.i .i64))] [.c false y10] fun x => f k x.1 x.2.1
def E (k : Nat) : List (Nat × Sig) := [(93, yB.sig k), (94, zM.sig k), (96, wR.sig k), (97, vU.sig k), (98, xR.sig k)]
noncomputable def d : FD := ⟨68, Tryz.f68, 95, 100, [(12, 95, 5)], [], [], [], [.tmp 4], .s .n (.g 0 0 (.s .n (.s .n (.s .n (.j 0 .n (.s .n (.s .n (.s (.s .n (.s (.l 1 (.s .n (.j 2 (.s (.s .n (.s .n (.s .n (.j 3 .n (.s .n (.j 4 .n .n)))))) .n) .n))) .n)) .n))))))))⟩
abbrev s0 : Sh := [(0, .v y117), (1, .v (.i .i64)), (5, .v y10), (6, .v (.i .i64)), (7, .v (.i .i64)), (8, .v (.i .i64)), (9, .v (.i .i64))]
abbrev s1 : Sh := [(0, .v y117), (1, .v (.i .i64)), (5, .v y10), (6, .v (.i .i64)), (7, .v (.i .i64)), (8, .v (.i .i64)), (9, .v (.i .i64)), (10, .v (.i .i64)), (11, .v (.i .i64))]
abbrev s2 : Sh := [(0, .v y117), (1, .v (.i .i64)), (5, .v y10), (6, .v (.i .i64)), (7, .v (.i .i64)), (8, .v (.i .i64)), (9, .v (.i .i64)), (10, .v (.i .i64)), (11, .v (.i .i64))]
abbrev s3 : Sh := [(0, .v y117), (1, .v (.i .i64)), (5, .v y10), (6, .v (.i .i64)), (7, .v (.i .i64)), (8, .v (.i .i64)), (9, .v (.i .i64)), (10, .v (.i .i64)), (11, .v (.i .i64)), (12, .at_ 95), (14, .v (.i .i64)), (95, .box y52)]
abbrev s4 : Sh := [(0, .v y117), (1, .v (.i .i64)), (5, .v y10), (9, .v (.i .i64)), (11, .v (.i .i64)), (12, .at_ 95), (15, .v (.i .i64)), (95, .box y52)]
def O (k : Nat) : List (Orc (denR ([.c false y10]))) := [⟨s0, fun y => j0 k y.1 y.2.1 y.2.2.1 y.2.2.2.1 y.2.2.2.2.1 y.2.2.2.2.2.1 y.2.2.2.2.2.2.1⟩, ⟨s1, fun y => l1 k y.1 y.2.1 y.2.2.1 y.2.2.2.1 y.2.2.2.2.1 y.2.2.2.2.2.1 y.2.2.2.2.2.2.1 y.2.2.2.2.2.2.2.1 y.2.2.2.2.2.2.2.2.1⟩, ⟨s2, fun y => j2 k y.1 y.2.1 y.2.2.1 y.2.2.2.1 y.2.2.2.2.1 y.2.2.2.2.2.1 y.2.2.2.2.2.2.1 y.2.2.2.2.2.2.2.1 y.2.2.2.2.2.2.2.2.1⟩, ⟨s3, fun y => j3 k y.1 y.2.1 y.2.2.1 y.2.2.2.1 y.2.2.2.2.1 y.2.2.2.2.2.1 y.2.2.2.2.2.2.1 y.2.2.2.2.2.2.2.1 y.2.2.2.2.2.2.2.2.1 y.2.2.2.2.2.2.2.2.2.2.1 y.2.2.2.2.2.2.2.2.2.2.2.1⟩, ⟨s4, fun y => j4 k y.1 y.2.1 y.2.2.1 y.2.2.2.1 y.2.2.2.2.1 y.2.2.2.2.2.2.1 y.2.2.2.2.2.2.2.1⟩]
theorem e4 (k : Nat) (y : denS s4) : j4 (k + 1) y.1 y.2.1 y.2.2.1 y.2.2.2.1 y.2.2.2.2.1 y.2.2.2.2.2.2.1 y.2.2.2.2.2.2.2.1 = SS.ev d E O k [1, 0, 1, 1, 1, 1, 1, 1, 0, 1, 0, 0, 1, 0, 0, 1, 1, 1, 1, 1, 1] s4 y := by rw [j4]; kernel_rfl
theorem e3 (k : Nat) (y : denS s3) : j3 (k + 1) y.1 y.2.1 y.2.2.1 y.2.2.2.1 y.2.2.2.2.1 y.2.2.2.2.2.1 y.2.2.2.2.2.2.1 y.2.2.2.2.2.2.2.1 y.2.2.2.2.2.2.2.2.1 y.2.2.2.2.2.2.2.2.2.2.1 y.2.2.2.2.2.2.2.2.2.2.2.1 = SS.ev d E O k [1, 0, 1, 1, 1, 1, 1, 1, 0, 1, 0, 0, 1, 0, 0, 1, 1, 1, 1] s3 y := by rw [j3]; kernel_rfl
theorem e2 (k : Nat) (y : denS s2) : j2 (k + 1) y.1 y.2.1 y.2.2.1 y.2.2.2.1 y.2.2.2.2.1 y.2.2.2.2.2.1 y.2.2.2.2.2.2.1 y.2.2.2.2.2.2.2.1 y.2.2.2.2.2.2.2.2.1 = SS.ev d E O k [1, 0, 1, 1, 1, 1, 1, 1, 0, 1, 0, 0, 1, 1] s2 y := by rw [j2]; kernel_rfl
theorem e1 (k : Nat) (y : denS s1) : l1 (k + 1) y.1 y.2.1 y.2.2.1 y.2.2.2.1 y.2.2.2.2.1 y.2.2.2.2.2.1 y.2.2.2.2.2.2.1 y.2.2.2.2.2.2.2.1 y.2.2.2.2.2.2.2.2.1 = SS.ev d E O k [1, 0, 1, 1, 1, 1, 1, 1, 0, 1, 0, 0] s1 y := by rw [l1]; kernel_rfl
theorem e0 (k : Nat) (y : denS s0) : j0 (k + 1) y.1 y.2.1 y.2.2.1 y.2.2.2.1 y.2.2.2.2.1 y.2.2.2.2.2.1 y.2.2.2.2.2.2.1 = SS.ev d E O k [1, 0, 1, 1, 1, 1] s0 y := by rw [j0]; kernel_rfl
theorem ok (k : Nat) : zU Tryz.prog (68, sig k) := fnP SS d E O sig (fun _ => rfl) Tryz.func68 (by kernel_rfl) rfl (fun k => ⟨yB.ok k, zM.ok k, wR.ok k, vU.ok k, xR.ok k, trivial⟩) ⟨fun _ => rfl, fun _ => rfl, fun _ => rfl, fun _ => rfl, fun _ => rfl, trivial⟩ (by kernel_rfl) (fun k => pc 4 rfl (e4 k) <| pc 3 rfl (e3 k) <| pc 2 rfl (e2 k) <| pc 1 rfl (e1 k) <| pc 0 rfl (e0 k) <| pn) (fun k x => by kernel_rfl) k
end zP
namespace qZ
mutual
def j0 : Nat → Int → zO → zR → Option A15
 | 0, _, _, _ => none
 | k + 1, total, t, s => (zP.f k s total).bind fun r5 => some ((r5, total, s.2.2.2.2.2.2.2.2.2.1), 0)
end
def f (k : Nat) (a0 : zE) (a1 : Int) (a2 : zD) : Option A15 := (uQ.f k a1 a2).bind fun r => if (!decide (r = 0)) = true then (some ((([] : List Int), 0, (false)), r)) else ((yG.f k (a0, a1, a2.1, a2.2.1, a2.2.2.1, a2.2.2.2.1, a2.2.2.2.2.1, a2.2.2.2.2.2.1, a2.2.2.2.2.2.2, (false), ([] : List zB), ([] : List Int))).bind fun r2 => (xV.f k r2).bind fun r3 => if (decide (r3.1 = 1125899906842625)) = true then ((xV.f k (r3.2.1, r3.2.2.1, r3.2.2.2.1, r3.2.2.2.2.1, r3.2.2.2.2.2.1, r3.2.2.2.2.2.2.1, r3.2.2.2.2.2.2.2.1, r3.2.2.2.2.2.2.2.2.1, r3.2.2.2.2.2.2.2.2.2.1, (true), r3.2.2.2.2.2.2.2.2.2.2.2.1, r3.2.2.2.2.2.2.2.2.2.2.2.2)).bind fun r4 => j0 k r4.1 (([] : List Int), 0, (false)) r4.2) else (j0 k r3.1 (([] : List Int), 0, (false)) r3.2))
def sig (k : Nat) : Sig := .p [(false, y86), (false, (.i .i64)), (true, y92)] [.c true y118, .c false (.i .i64)] fun x => f k x.1 x.2.1 x.2.2.1
def E (k : Nat) : List (Nat × Sig) := [(27, uQ.sig k), (66, yG.sig k), (67, xV.sig k), (68, zP.sig k)]
noncomputable def d : FD := ⟨28, Tryz.f28, 46, 71, [(5, 46, 7), (6, 53, 3), (23, 56, 12), (11, 68, 3)], [], [], [], [.cell 6 35, .tmp 7], .s .n (.s .n (.s .n (.s .n (.s .n (.j 0 .n .n)))))⟩
abbrev s0 : Sh := [(6, .at_ 53), (9, .at_ 56), (10, .v (.i .i64)), (53, .box y118), (56, .box y104)]
def O (k : Nat) : List (Orc (denR ([.c true y118, .c false (.i .i64)]))) := [⟨s0, fun y => j0 k y.2.2.1 y.2.2.2.1 y.2.2.2.2.1⟩]
theorem e0 (k : Nat) (y : denS s0) : j0 (k + 1) y.2.2.1 y.2.2.2.1 y.2.2.2.2.1 = SS.ev d E O k [1, 1, 1, 1, 1, 1] s0 y := by rw [j0]; kernel_rfl
theorem ok (k : Nat) : zU Tryz.prog (28, sig k) := fnP SS d E O sig (fun _ => rfl) Tryz.func28 (by kernel_rfl) rfl (fun k => ⟨uQ.ok k, yG.ok k, xV.ok k, zP.ok k, trivial⟩) ⟨fun _ => rfl, trivial⟩ (by kernel_rfl) (fun k => pc 0 rfl (e0 k) <| pn) (fun k x => by kernel_rfl) k
end qZ
namespace wV
def f (k : Nat) (a0 : A1) (a1 : ByteArray) (a2 : (List zJ)) (a3 : Int) (a4 : zD) : Option A16 := (wX.f k a0 a1 a2).bind fun r => if (!decide (r.2 = 0)) = true then (some (([] : List (ByteArray × List zJ × Int × Int × Int × Bool × Int × Bool × Bool)), (([] : List Int), 0, (false)), r.2)) else ((uQ.f k a3 a4).bind fun r2 => if (!decide (r2 = 0)) = true then (some (([] : List (ByteArray × List zJ × Int × Int × Int × Bool × Int × Bool × Bool)), (([] : List Int), 0, (false)), r2)) else ((xB.f k r.1).bind fun r3 => optK r3.1 (if (!decide (r3.2 = 0)) = true then (some (([] : List (ByteArray × List zJ × Int × Int × Int × Bool × Int × Bool × Bool)), (([] : List Int), 0, (false)), r3.2)) else (none)) fun p => if (!decide (r3.2 = 0)) = true then (some (([] : List (ByteArray × List zJ × Int × Int × Int × Bool × Int × Bool × Bool)), (([] : List Int), 0, (false)), r3.2)) else ((qZ.f k p a3 a4).bind fun r4 => if (!decide (r4.2 = 0)) = true then (some (([] : List (ByteArray × List zJ × Int × Int × Int × Bool × Int × Bool × Bool)), (([] : List Int), 0, (false)), r4.2)) else ((qC.f k a0 a1 a2 p r4.1 a3).bind fun r5 => some (r5, r4.1, 0)))))
def sig (k : Nat) : Sig := .p [(false, y66), (false, .s), (false, y55), (false, (.i .i64)), (true, y92)] [.c false y76, .c true y87, .c false (.i .i64)] fun x => f k x.1 x.2.1 x.2.2.1 x.2.2.2.1 x.2.2.2.2.1
def E (k : Nat) : List (Nat × Sig) := [(15, xB.sig k), (18, qC.sig k), (26, wX.sig k), (27, uQ.sig k), (28, qZ.sig k)]
noncomputable def d : FD := ⟨8, Tryz.f8, 64, 77, [(9, 64, 7), (11, 71, 3), (17, 74, 3)], [], [], [], [.tmp 10, .cell 11 35, .tmp 12], .s .n (.s .n (.s .n (.s .n (.s .n (.s .n (.s (.f 16 .n) (.s .n (.s (.f 74 .n) .n))))))))⟩
def O (k : Nat) : List (Orc (denR ([.c false y76, .c true y87, .c false (.i .i64)]))) := []
theorem ok (k : Nat) : zU Tryz.prog (8, sig k) := fnP SS d E O sig (fun _ => rfl) Tryz.func8 (by kernel_rfl) rfl (fun k => ⟨xB.ok k, qC.ok k, wX.ok k, uQ.ok k, qZ.ok k, trivial⟩) trivial (by kernel_rfl) (fun _ => pn) (fun k x => by kernel_rfl) k
end wV
namespace qF
def f (k : Nat)  : Option Bool := (xZ.f k ([(10, 6, 3, 2, 6, 6, ([] : List xO), (false))] : List (Int × Int × Int × Int × Int × Int × List xO × Bool))).bind fun r => optK r (some false) fun p => (wV.f k p (ByteArray.mk #[97, 97, 32, 98, 98, 10]) ([(6, 0)] : List zJ) 20 (200, 10, 0, 0, 0, 1, 1)).bind fun r2 => if (decide (r2.2.2 = 0)) = true then (if (decide ((r2.2.1.1.length : Int) = 2)) = true then (if (decide ((r2.1.length : Int) = 2)) = true then ((at? r2.1 0).bind fun e => if (decide (e.1 = (ByteArray.mk #[97, 97, 32]))) = true then ((at? r2.1 1).bind fun e2 => if (decide (e2.1 = (ByteArray.mk #[98, 98, 10]))) = true then ((at? r2.1 1).bind fun e3 => if e3.2.2.2.2.2.2.2.2 = true then ((at? r2.1 0).bind fun e4 => some (decide (e4.2.2.2.2.1 = 10))) else (some false)) else (some false)) else (some false)) else (some false)) else (some false)) else (some false)
def sig (k : Nat) : Sig := .p [] [.c false .b] fun x => f k
def E (k : Nat) : List (Nat × Sig) := [(6, xZ.sig k), (8, wV.sig k)]
noncomputable def d : FD := ⟨5, Tryz.f5, 61, 64, [(4, 61, 3)], [], [], [], [.tmp 0], .s .n (.s .n (.s .n (.s (.s (.f 2 .n) .n) (.s .n (.s (.f 3 .n) .n)))))⟩
def O (k : Nat) : List (Orc (denR ([.c false .b]))) := []
theorem ok (k : Nat) : zU Tryz.prog (5, sig k) := fnP SS d E O sig (fun _ => rfl) Tryz.func5 (by kernel_rfl) rfl (fun k => ⟨xZ.ok k, wV.ok k, trivial⟩) trivial (by kernel_rfl) (fun _ => pn) (fun k x => by kernel_rfl) k
end qF
namespace zAg
def f (k : Nat) (a0 : A17) : Option Bool := if (decide ((a0.1.size : Int) ≤ 400)) = true then (some (decide ((a0.2.1.length : Int) ≤ 100))) else (some false)
def sig (k : Nat) : Sig := .p [(true, y121)] [.c false .b] fun x => f k x.1
def E (k : Nat) : List (Nat × Sig) := []
noncomputable def d : FD := ⟨7, Tryz.f7, 13, 23, [(1, 13, 10)], [], [], [], [.tmp 2], .n⟩
def O (k : Nat) : List (Orc (denR ([.c false .b]))) := []
theorem ok (k : Nat) : zU Tryz.prog (7, sig k) := fnP SS d E O sig (fun _ => rfl) Tryz.func7 (by kernel_rfl) rfl (fun k => trivial) trivial (by kernel_rfl) (fun _ => pn) (fun k x => by kernel_rfl) k
end zAg
namespace xM
mutual
def l0 : Nat → ByteArray → Int → Int → Int → Int → Option Int
 | 0, _, _, _, _, _ => none
 | k + 1, s, at_, n, r, i => if (decide (i < n)) = true then ((bAt s (wrap64 (at_ + i))).bind fun e2 => l0 k s at_ n (wrap64 ((wrap64 (r * 64)) + ((wrap64 (e2)).tmod 64))) (wrap64 (i + 1))) else (some r)
end
def f (k : Nat) (a0 : ByteArray) (a1 : Int) (a2 : Int) : Option Int := (bAt a0 a1).bind fun e => if (decide (a2 = 1)) = true then (some (wrap64 (e))) else (if 0 ≤ (wrap64 (7 - a2)) then (if (shlI .i64 (1 : Int) (wrap64 (7 - a2))) ≠ 0 then (l0 k a0 a1 a2 ((wrap64 (e)).tmod (shlI .i64 (1 : Int) (wrap64 (7 - a2)))) 1) else none) else none)
def sig (k : Nat) : Sig := .p [(false, .s), (false, (.i .i64)), (false, (.i .i64))] [.c false (.i .i64)] fun x => f k x.1 x.2.1 x.2.2.1
def E (k : Nat) : List (Nat × Sig) := []
noncomputable def d : FD := ⟨99, Tryz.f99, 38, 38, [], [], [], [], [.tmp 6], .s .n (.s .n (.s .n (.s .n (.s (.s .n (.s (.l 0 .n) .n)) .n))))⟩
abbrev s0 : Sh := [(0, .v .s), (1, .v (.i .i64)), (2, .v (.i .i64)), (8, .v (.i .i64)), (9, .v (.i .i64))]
def O (k : Nat) : List (Orc (denR ([.c false (.i .i64)]))) := [⟨s0, fun y => l0 k y.1 y.2.1 y.2.2.1 y.2.2.2.1 y.2.2.2.2.1⟩]
theorem e0 (k : Nat) (y : denS s0) : l0 (k + 1) y.1 y.2.1 y.2.2.1 y.2.2.2.1 y.2.2.2.2.1 = SS.ev d E O k [1, 1, 1, 1, 0, 1, 0, 0] s0 y := by rw [l0]; kernel_rfl
theorem ok (k : Nat) : zU Tryz.prog (99, sig k) := fnP SS d E O sig (fun _ => rfl) Tryz.func99 (by kernel_rfl) rfl (fun k => trivial) ⟨fun _ => rfl, trivial⟩ (by kernel_rfl) (fun k => pc 0 rfl (e0 k) <| pn) (fun k x => by kernel_rfl) k
end xM
namespace uO
def f (k : Nat) (a0 : Int) : Option Bool := if (decide (0 ≤ a0)) = true then (if (decide (a0 ≤ 1114111)) = true then (if (decide (a0 < 55296)) = true then (some true) else (some (decide (57343 < a0)))) else (some false)) else (some false)
def sig (k : Nat) : Sig := .p [(false, (.i .i64))] [.c false .b] fun x => f k x.1
def E (k : Nat) : List (Nat × Sig) := []
noncomputable def d : FD := ⟨118, Tryz.f118, 17, 17, [], [], [], [], [.tmp 2], .n⟩
def O (k : Nat) : List (Orc (denR ([.c false .b]))) := []
theorem ok (k : Nat) : zU Tryz.prog (118, sig k) := fnP SS d E O sig (fun _ => rfl) Tryz.func118 (by kernel_rfl) rfl (fun k => trivial) trivial (by kernel_rfl) (fun _ => pn) (fun k x => by kernel_rfl) k
end uO
namespace qB
def f (k : Nat) (a0 : Int) : Option (List Int) := (uO.f k a0).bind fun r => if (!r) = true then (some ([] : List Int)) else (if (decide (a0 < 128)) = true then (some ([a0] : List Int)) else (if (decide (a0 < 2048)) = true then (some ([wrap64 (192 + (wrap64 (a0.tdiv 64))), wrap64 (128 + (a0.tmod 64))] : List Int)) else (if (decide (a0 < 65536)) = true then (some ([wrap64 (224 + (wrap64 (a0.tdiv 4096))), wrap64 (128 + ((wrap64 (a0.tdiv 64)).tmod 64)), wrap64 (128 + (a0.tmod 64))] : List Int)) else (some ([wrap64 (240 + (wrap64 (a0.tdiv 262144))), wrap64 (128 + ((wrap64 (a0.tdiv 4096)).tmod 64)), wrap64 (128 + ((wrap64 (a0.tdiv 64)).tmod 64)), wrap64 (128 + (a0.tmod 64))] : List Int)))))
def sig (k : Nat) : Sig := .p [(false, (.i .i64))] [.c false y10] fun x => f k x.1
def E (k : Nat) : List (Nat × Sig) := [(118, uO.sig k)]
noncomputable def d : FD := ⟨100, Tryz.f100, 47, 47, [], [], [], [], [.tmp 2], .n⟩
def O (k : Nat) : List (Orc (denR ([.c false y10]))) := []
theorem ok (k : Nat) : zU Tryz.prog (100, sig k) := fnP SS d E O sig (fun _ => rfl) Tryz.func100 (by kernel_rfl) rfl (fun k => ⟨uO.ok k, trivial⟩) trivial (by kernel_rfl) (fun _ => pn) (fun k x => by kernel_rfl) k
end qB
namespace xS
mutual
def j0 : Nat → ByteArray → Int → (List Int) → Option Bool
 | 0, _, _, _ => none
 | k + 1, s, at_, l => l1 k s at_ l 0
def l1 : Nat → ByteArray → Int → (List Int) → Int → Option Bool
 | 0, _, _, _, _ => none
 | k + 1, s2, at_2, l2, i => if (decide (i < (l2.length : Int))) = true then ((bAt s2 (wrap64 (at_2 + i))).bind fun e => (at? l2 i).bind fun e2 => if (!decide ((wrap64 (e)) = e2)) = true then (some false) else (l1 k s2 at_2 l2 (wrap64 (i + 1)))) else (some true)
end
def f (k : Nat) (a0 : ByteArray) (a1 : Int) (a2 : (List Int)) : Option Bool := if (decide ((a2.length : Int) = 0)) = true then (some false) else (if (decide ((a0.size : Int) < (wrap64 (a1 + (a2.length : Int))))) = true then (some false) else (j0 k a0 a1 a2))
def sig (k : Nat) : Sig := .p [(false, .s), (false, (.i .i64)), (false, y37)] [.c false .b] fun x => f k x.1 x.2.1 x.2.2.1
def E (k : Nat) : List (Nat × Sig) := []
noncomputable def d : FD := ⟨101, Tryz.f101, 37, 37, [], [], [], [], [.tmp 6], .s .n (.j 0 .n (.s (.s .n (.s (.l 1 .n) .n)) .n))⟩
abbrev s0 : Sh := [(0, .v .s), (1, .v (.i .i64)), (2, .v y37)]
abbrev s1 : Sh := [(0, .v .s), (1, .v (.i .i64)), (2, .v y37), (7, .v (.i .i64))]
def O (k : Nat) : List (Orc (denR ([.c false .b]))) := [⟨s0, fun y => j0 k y.1 y.2.1 y.2.2.1⟩, ⟨s1, fun y => l1 k y.1 y.2.1 y.2.2.1 y.2.2.2.1⟩]
theorem e1 (k : Nat) (y : denS s1) : l1 (k + 1) y.1 y.2.1 y.2.2.1 y.2.2.2.1 = SS.ev d E O k [1, 1, 0, 1, 0, 0] s1 y := by rw [l1]; kernel_rfl
theorem e0 (k : Nat) (y : denS s0) : j0 (k + 1) y.1 y.2.1 y.2.2.1 = SS.ev d E O k [1, 1] s0 y := by rw [j0]; kernel_rfl
theorem ok (k : Nat) : zU Tryz.prog (101, sig k) := fnP SS d E O sig (fun _ => rfl) Tryz.func101 (by kernel_rfl) rfl (fun k => trivial) ⟨fun _ => rfl, fun _ => rfl, trivial⟩ (by kernel_rfl) (fun k => pc 1 rfl (e1 k) <| pc 0 rfl (e0 k) <| pn) (fun k x => by kernel_rfl) k
end xS
namespace zW
mutual
def l0 : Nat → ByteArray → Int → Int → Option (Int × Int)
 | 0, _, _, _ => none
 | k + 1, s, at_, n => if (decide (n ≤ 4)) = true then (if (decide ((wrap64 (at_ + n)) ≤ (s.size : Int))) = true then (j1 k s at_ n) else (some ((-1), 0))) else (some ((-1), 0))
def j1 : Nat → ByteArray → Int → Int → Option (Int × Int)
 | 0, _, _, _ => none
 | k + 1, s2, at_2, n2 => (xM.f k s2 at_2 n2).bind fun r => (qB.f k r).bind fun r2 => if (decide ((r2.length : Int) = n2)) = true then ((xS.f k s2 at_2 r2).bind fun r3 => if r3 = true then (some (r, n2)) else (j2 k s2 at_2 n2)) else (j2 k s2 at_2 n2)
def j2 : Nat → ByteArray → Int → Int → Option (Int × Int)
 | 0, _, _, _ => none
 | k + 1, s3, at_3, n3 => l0 k s3 at_3 (wrap64 (n3 + 1))
end
def f (k : Nat) (a0 : ByteArray) (a1 : Int) : Option (Int × Int) := l0 k a0 a1 1
def sig (k : Nat) : Sig := .p [(false, .s), (false, (.i .i64))] [.c false (.i .i64), .c false (.i .i64)] fun x => f k x.1 x.2.1
def E (k : Nat) : List (Nat × Sig) := [(99, xM.sig k), (100, qB.sig k), (101, xS.sig k)]
noncomputable def d : FD := ⟨71, Tryz.f71, 39, 39, [], [], [], [], [.tmp 4, .tmp 5], .s .n (.s (.s .n (.s (.l 0 (.j 1 .n (.j 2 .n .n))) .n)) .n)⟩
abbrev s0 : Sh := [(0, .v .s), (1, .v (.i .i64)), (6, .v (.i .i64))]
abbrev s1 : Sh := [(0, .v .s), (1, .v (.i .i64)), (6, .v (.i .i64))]
abbrev s2 : Sh := [(0, .v .s), (1, .v (.i .i64)), (6, .v (.i .i64))]
def O (k : Nat) : List (Orc (denR ([.c false (.i .i64), .c false (.i .i64)]))) := [⟨s0, fun y => l0 k y.1 y.2.1 y.2.2.1⟩, ⟨s1, fun y => j1 k y.1 y.2.1 y.2.2.1⟩, ⟨s2, fun y => j2 k y.1 y.2.1 y.2.2.1⟩]
theorem e2 (k : Nat) (y : denS s2) : j2 (k + 1) y.1 y.2.1 y.2.2.1 = SS.ev d E O k [1, 0, 1, 0, 0, 1, 1] s2 y := by rw [j2]; kernel_rfl
theorem e1 (k : Nat) (y : denS s1) : j1 (k + 1) y.1 y.2.1 y.2.2.1 = SS.ev d E O k [1, 0, 1, 0, 0, 1] s1 y := by rw [j1]; kernel_rfl
theorem e0 (k : Nat) (y : denS s0) : l0 (k + 1) y.1 y.2.1 y.2.2.1 = SS.ev d E O k [1, 0, 1, 0, 0] s0 y := by rw [l0]; kernel_rfl
theorem ok (k : Nat) : zU Tryz.prog (71, sig k) := fnP SS d E O sig (fun _ => rfl) Tryz.func71 (by kernel_rfl) rfl (fun k => ⟨xM.ok k, qB.ok k, xS.ok k, trivial⟩) ⟨fun _ => rfl, fun _ => rfl, fun _ => rfl, trivial⟩ (by kernel_rfl) (fun k => pc 2 rfl (e2 k) <| pc 1 rfl (e1 k) <| pc 0 rfl (e0 k) <| pn) (fun k x => by kernel_rfl) k
end zW
namespace yA
mutual
def l0 : Nat → ByteArray → (List Int) → (List Int) → Int → Option A18
 | 0, _, _, _, _ => none
 | k + 1, s, l, at_, i => if (decide (i < (s.size : Int))) = true then ((zW.f k s i).bind fun r => if (decide (r.2 = 0)) = true then (some (l, at_, i)) else (if (l.length + ([r.1] : List Int).length) * 8 ≤ 140737488355328 then (if (at_.length + ([i] : List Int).length) * 8 ≤ 140737488355328 then (l0 k s (l ++ ([r.1] : List Int)) (at_ ++ ([i] : List Int)) (wrap64 (i + r.2))) else none) else none)) else (some (l, at_, (-1)))
end
def f (k : Nat) (a0 : ByteArray) : Option A18 := l0 k a0 ([] : List Int) ([] : List Int) 0
def sig (k : Nat) : Sig := .p [(false, .s)] [.c false y10, .c false y10, .c false (.i .i64)] fun x => f k x.1
def E (k : Nat) : List (Nat × Sig) := [(71, zW.sig k)]
noncomputable def d : FD := ⟨30, Tryz.f30, 38, 38, [], [], [], [], [.tmp 2, .tmp 3, .tmp 4], .s .n (.s .n (.s (.s .n (.s (.l 0 .n) .n)) .n))⟩
abbrev s0 : Sh := [(0, .v .s), (5, .v y10), (6, .v y10), (7, .v (.i .i64))]
def O (k : Nat) : List (Orc (denR ([.c false y10, .c false y10, .c false (.i .i64)]))) := [⟨s0, fun y => l0 k y.1 y.2.1 y.2.2.1 y.2.2.2.1⟩]
theorem e0 (k : Nat) (y : denS s0) : l0 (k + 1) y.1 y.2.1 y.2.2.1 y.2.2.2.1 = SS.ev d E O k [1, 1, 0, 1, 0, 0] s0 y := by rw [l0]; kernel_rfl
theorem ok (k : Nat) : zU Tryz.prog (30, sig k) := fnP SS d E O sig (fun _ => rfl) Tryz.func30 (by kernel_rfl) rfl (fun k => ⟨zW.ok k, trivial⟩) ⟨fun _ => rfl, trivial⟩ (by kernel_rfl) (fun k => pc 0 rfl (e0 k) <| pn) (fun k x => by kernel_rfl) k
end yA
namespace qE
def f (k : Nat) (a0 : ByteArray) : Option Bool := (yA.f k a0).bind fun r => some (decide (r.2.2 < 0))
def sig (k : Nat) : Sig := .p [(false, .s)] [.c false .b] fun x => f k x.1
def E (k : Nat) : List (Nat × Sig) := [(30, yA.sig k)]
noncomputable def d : FD := ⟨69, Tryz.f69, 14, 14, [], [], [], [], [.tmp 2], .n⟩
def O (k : Nat) : List (Orc (denR ([.c false .b]))) := []
theorem ok (k : Nat) : zU Tryz.prog (69, sig k) := fnP SS d E O sig (fun _ => rfl) Tryz.func69 (by kernel_rfl) rfl (fun k => ⟨yA.ok k, trivial⟩) trivial (by kernel_rfl) (fun _ => pn) (fun k x => by kernel_rfl) k
end qE
namespace wG
mutual
def l0 : Nat → ByteArray → Int → (List Int) → Int → Option Bool
 | 0, _, _, _, _ => none
 | k + 1, s, at_, l, i => if (decide (i < (l.length : Int))) = true then (if 0 ≤ i ∧ i < (l.length : Int) then ((l[i.toNat]?).bind fun e => if (decide (e = at_)) = true then (some true) else (l0 k s at_ l (wrap64 (i + 1)))) else none) else (some (decide (at_ = (s.size : Int))))
end
def f (k : Nat) (a0 : ByteArray) (a1 : Int) : Option Bool := (yA.f k a0).bind fun r => l0 k a0 a1 r.2.1 0
def sig (k : Nat) : Sig := .p [(false, .s), (false, (.i .i64))] [.c false .b] fun x => f k x.1 x.2.1
def E (k : Nat) : List (Nat × Sig) := [(30, yA.sig k)]
noncomputable def d : FD := ⟨70, Tryz.f70, 31, 31, [], [], [], [], [.tmp 4], .s .n (.s .n (.s (.s .n (.s (.l 0 .n) .n)) .n))⟩
abbrev s0 : Sh := [(0, .v .s), (1, .v (.i .i64)), (6, .v y10), (8, .v (.i .i64))]
def O (k : Nat) : List (Orc (denR ([.c false .b]))) := [⟨s0, fun y => l0 k y.1 y.2.1 y.2.2.1 y.2.2.2.1⟩]
theorem e0 (k : Nat) (y : denS s0) : l0 (k + 1) y.1 y.2.1 y.2.2.1 y.2.2.2.1 = SS.ev d E O k [1, 1, 0, 1, 0, 0] s0 y := by rw [l0]; kernel_rfl
theorem ok (k : Nat) : zU Tryz.prog (70, sig k) := fnP SS d E O sig (fun _ => rfl) Tryz.func70 (by kernel_rfl) rfl (fun k => ⟨yA.ok k, trivial⟩) ⟨fun _ => rfl, trivial⟩ (by kernel_rfl) (fun k => pc 0 rfl (e0 k) <| pn) (fun k x => by kernel_rfl) k
end wG
namespace yP
mutual
def l0 : Nat → A1 → ByteArray → (List zJ) → Int → Option Int
 | 0, _, _, _, _ => none
 | k + 1, t, t2, t3, t4 => if (decide ((wrap64 (t4 + 1)) < (t2.size : Int))) = true then ((bAt t2 t4).bind fun e => if (decide (e = 10)) = true then (some 70) else (l0 k t t2 t3 (wrap64 (t4 + 1)))) else (l1 k t t2 t3 0 0)
def l1 : Nat → A1 → ByteArray → (List zJ) → Int → Int → Option Int
 | 0, _, _, _, _, _ => none
 | k + 1, t5, t6, t7, t8, t9 => if (decide (t9 < (t7.length : Int))) = true then ((at? t7 t9).bind fun e2 => if (decide (e2.1 < 0)) = true then (some 70) else ((at? t7 t9).bind fun e3 => if (decide ((wrap64 ((t6.size : Int) - t8)) < e3.1)) = true then (some 70) else (j2 k t5 t6 t7 t8 t9))) else (if (!decide (t8 = (t6.size : Int))) = true then (some 70) else (some 0))
def j2 : Nat → A1 → ByteArray → (List zJ) → Int → Int → Option Int
 | 0, _, _, _, _, _ => none
 | k + 1, t10, t11, t12, t13, t14 => (at? t12 t14).bind fun e4 => if (decide (e4.2 < 0)) = true then (some 43) else ((at? t12 t14).bind fun e5 => if (decide ((t10.length : Int) ≤ e5.2)) = true then (some 43) else (j3 k t10 t11 t12 t13 t14))
def j3 : Nat → A1 → ByteArray → (List zJ) → Int → Int → Option Int
 | 0, _, _, _, _, _ => none
 | k + 1, t15, t16, t17, t18, t19 => (at? t17 t19).bind fun e6 => (wG.f k t16 (wrap64 (t18 + e6.1))).bind fun r2 => if (!r2) = true then (some 21) else (l1 k t15 t16 t17 (wrap64 (t18 + e6.1)) (wrap64 (t19 + 1)))
end
def f (k : Nat) (a0 : A1) (a1 : ByteArray) (a2 : (List zJ)) : Option Int := (qE.f k a1).bind fun r => if (!r) = true then (some 20) else (if (decide (a1 = ByteArray.empty)) = true then (some 70) else (l0 k a0 a1 a2 0))
def sig (k : Nat) : Sig := .p [(false, y11), (false, .s), (false, y55)] [.c false (.i .i64)] fun x => f k x.1 x.2.1 x.2.2.1
def E (k : Nat) : List (Nat × Sig) := [(69, qE.sig k), (70, wG.sig k)]
noncomputable def d : FD := ⟨29, Tryz.f29, 81, 81, [], [], [], [], [.tmp 6], .s .n (.s .n (.s .n (.s (.s .n (.s (.l 0 .n) .n)) (.s .n (.s (.s .n (.s (.l 1 (.s .n (.s (.s (.j 2 .n (.j 3 .n .n)) .n) .n))) .n)) .n)))))⟩
abbrev s0 : Sh := [(0, .v y11), (1, .v .s), (2, .v y55), (7, .v (.i .i64))]
abbrev s1 : Sh := [(0, .v y11), (1, .v .s), (2, .v y55), (8, .v (.i .i64)), (9, .v (.i .i64))]
abbrev s2 : Sh := [(0, .v y11), (1, .v .s), (2, .v y55), (8, .v (.i .i64)), (9, .v (.i .i64))]
abbrev s3 : Sh := [(0, .v y11), (1, .v .s), (2, .v y55), (8, .v (.i .i64)), (9, .v (.i .i64))]
def O (k : Nat) : List (Orc (denR ([.c false (.i .i64)]))) := [⟨s0, fun y => l0 k y.1 y.2.1 y.2.2.1 y.2.2.2.1⟩, ⟨s1, fun y => l1 k y.1 y.2.1 y.2.2.1 y.2.2.2.1 y.2.2.2.2.1⟩, ⟨s2, fun y => j2 k y.1 y.2.1 y.2.2.1 y.2.2.2.1 y.2.2.2.2.1⟩, ⟨s3, fun y => j3 k y.1 y.2.1 y.2.2.1 y.2.2.2.1 y.2.2.2.2.1⟩]
theorem e0 (k : Nat) (y : denS s0) : l0 (k + 1) y.1 y.2.1 y.2.2.1 y.2.2.2.1 = SS.ev d E O k [1, 1, 1, 0, 1, 0, 0] s0 y := by rw [l0]; kernel_rfl
theorem e3 (k : Nat) (y : denS s3) : j3 (k + 1) y.1 y.2.1 y.2.2.1 y.2.2.2.1 y.2.2.2.2.1 = SS.ev d E O k [1, 1, 1, 1, 1, 0, 1, 0, 0, 1, 0, 0, 1, 1] s3 y := by rw [j3]; kernel_rfl
theorem e2 (k : Nat) (y : denS s2) : j2 (k + 1) y.1 y.2.1 y.2.2.1 y.2.2.2.1 y.2.2.2.2.1 = SS.ev d E O k [1, 1, 1, 1, 1, 0, 1, 0, 0, 1, 0, 0, 1] s2 y := by rw [j2]; kernel_rfl
theorem e1 (k : Nat) (y : denS s1) : l1 (k + 1) y.1 y.2.1 y.2.2.1 y.2.2.2.1 y.2.2.2.2.1 = SS.ev d E O k [1, 1, 1, 1, 1, 0, 1, 0, 0] s1 y := by rw [l1]; kernel_rfl
theorem ok (k : Nat) : zU Tryz.prog (29, sig k) := fnP SS d E O sig (fun _ => rfl) Tryz.func29 (by kernel_rfl) rfl (fun k => ⟨qE.ok k, wG.ok k, trivial⟩) ⟨fun _ => rfl, fun _ => rfl, fun _ => rfl, fun _ => rfl, trivial⟩ (by kernel_rfl) (fun k => pc 0 rfl (e0 k) <| pc 3 rfl (e3 k) <| pc 2 rfl (e2 k) <| pc 1 rfl (e1 k) <| pn) (fun k x => by kernel_rfl) k
end yP
namespace wD
mutual
def l0 : Nat → (List zJ) → Int → Int → Option Int
 | 0, _, _, _ => none
 | k + 1, list, at_, i => if (decide (i < (list.length : Int))) = true then ((at? list i).bind fun e => if (decide (at_ < e.1)) = true then ((at? list i).bind fun e2 => some e2.2) else ((at? list i).bind fun e3 => l0 k list (wrap64 (at_ - e3.1)) (wrap64 (i + 1)))) else (some 0)
end
def f (k : Nat) (a0 : (List zJ)) (a1 : Int) : Option Int := l0 k a0 a1 0
def sig (k : Nat) : Sig := .p [(false, y55), (false, (.i .i64))] [.c false (.i .i64)] fun x => f k x.1 x.2.1
def E (k : Nat) : List (Nat × Sig) := []
noncomputable def d : FD := ⟨31, Tryz.f31, 31, 31, [], [], [], [], [.tmp 4], .s .n (.s (.s .n (.s (.l 0 .n) .n)) .n)⟩
abbrev s0 : Sh := [(0, .v y55), (1, .v (.i .i64)), (5, .v (.i .i64))]
def O (k : Nat) : List (Orc (denR ([.c false (.i .i64)]))) := [⟨s0, fun y => l0 k y.1 y.2.1 y.2.2.1⟩]
theorem e0 (k : Nat) (y : denS s0) : l0 (k + 1) y.1 y.2.1 y.2.2.1 = SS.ev d E O k [1, 0, 1, 0, 0] s0 y := by rw [l0]; kernel_rfl
theorem ok (k : Nat) : zU Tryz.prog (31, sig k) := fnP SS d E O sig (fun _ => rfl) Tryz.func31 (by kernel_rfl) rfl (fun k => trivial) ⟨fun _ => rfl, trivial⟩ (by kernel_rfl) (fun k => pc 0 rfl (e0 k) <| pn) (fun k x => by kernel_rfl) k
end wD
namespace yW
mutual
def l0 : Nat → Int → A19 → Int → Option Int
 | 0, _, _, _ => none
 | k + 1, r, kinds, k_ => if (decide (k_ < (kinds.length : Int))) = true then (l1 k r kinds k_ 0) else (some 0)
def l1 : Nat → Int → A19 → Int → Int → Option Int
 | 0, _, _, _, _ => none
 | k + 1, r2, kinds2, k_2, i => (at? kinds2 k_2).bind fun e => if (decide (i < (e.length : Int))) = true then ((at? kinds2 k_2).bind fun e2 => (at? e2 i).bind fun e3 => if (decide (e3 = r2)) = true then (some k_2) else (l1 k r2 kinds2 k_2 (wrap64 (i + 1)))) else (l0 k r2 kinds2 (wrap64 (k_2 + 1)))
end
def f (k : Nat) (a0 : Int) : Option Int := l0 k a0 ([([] : List Int), ([32, 9] : List Int), ([160, 8239] : List Int), ([173] : List Int), ([8203] : List Int), ([8288, 65279] : List Int), ([45, 8208] : List Int), ([8232] : List Int), ([10] : List Int)] : List (List Int)) 1
def sig (k : Nat) : Sig := .p [(false, (.i .i64))] [.c false (.i .i64)] fun x => f k x.1
def E (k : Nat) : List (Nat × Sig) := []
noncomputable def d : FD := ⟨33, Tryz.f33, 41, 41, [], [], [], [], [.tmp 2], .s .n (.s .n (.s (.s .n (.s (.l 0 (.s .n (.s (.s (.s .n (.s (.l 1 (.s (.s (.f 3 .n) .n) .n)) .n)) .n) .n))) .n)) .n))⟩
abbrev s0 : Sh := [(0, .v (.i .i64)), (3, .v y122), (4, .v (.i .i64))]
abbrev s1 : Sh := [(0, .v (.i .i64)), (3, .v y122), (4, .v (.i .i64)), (5, .v (.i .i64))]
def O (k : Nat) : List (Orc (denR ([.c false (.i .i64)]))) := [⟨s0, fun y => l0 k y.1 y.2.1 y.2.2.1⟩, ⟨s1, fun y => l1 k y.1 y.2.1 y.2.2.1 y.2.2.2.1⟩]
theorem e1 (k : Nat) (y : denS s1) : l1 (k + 1) y.1 y.2.1 y.2.2.1 y.2.2.2.1 = SS.ev d E O k [1, 1, 0, 1, 0, 0, 1, 0, 0, 1, 0, 0] s1 y := by rw [l1]; kernel_rfl
theorem e0 (k : Nat) (y : denS s0) : l0 (k + 1) y.1 y.2.1 y.2.2.1 = SS.ev d E O k [1, 1, 0, 1, 0, 0] s0 y := by rw [l0]; kernel_rfl
theorem ok (k : Nat) : zU Tryz.prog (33, sig k) := fnP SS d E O sig (fun _ => rfl) Tryz.func33 (by kernel_rfl) rfl (fun k => trivial) ⟨fun _ => rfl, fun _ => rfl, trivial⟩ (by kernel_rfl) (fun k => pc 1 rfl (e1 k) <| pc 0 rfl (e0 k) <| pn) (fun k x => by kernel_rfl) k
end yW
namespace xA
mutual
def j0 : Nat → A1 → Int → A0 → Option A5
 | 0, _, _, _ => none
 | k + 1, l, style, t => (at? l style).bind fun e => some e
end
def f (k : Nat) (a0 : A1) (a1 : Int) : Option A5 := if (decide (a1 < 0)) = true then (some (0, 0, 0, 0, 0, 0, ([] : List xO), (false))) else (if (decide ((a0.length : Int) ≤ a1)) = true then (some (0, 0, 0, 0, 0, 0, ([] : List xO), (false))) else (j0 k a0 a1 (0, 0, 0, 0, 0, 0, ([] : List xO), (false))))
def sig (k : Nat) : Sig := .p [(false, y65), (false, (.i .i64))] [.c true y64] fun x => f k x.1 x.2.1
def E (k : Nat) : List (Nat × Sig) := []
noncomputable def d : FD := ⟨35, Tryz.f35, 18, 26, [(4, 18, 8)], [], [], [], [.cell 4 68], .s .n (.j 0 .n .n)⟩
abbrev s0 : Sh := [(0, .v y65), (1, .v (.i .i64)), (4, .at_ 18), (18, .box y19)]
def O (k : Nat) : List (Orc (denR ([.c true y64]))) := [⟨s0, fun y => j0 k y.1 y.2.1 y.2.2.2.1⟩]
theorem e0 (k : Nat) (y : denS s0) : j0 (k + 1) y.1 y.2.1 y.2.2.2.1 = SS.ev d E O k [1, 1] s0 y := by rw [j0]; kernel_rfl
theorem ok (k : Nat) : zU Tryz.prog (35, sig k) := fnP SS d E O sig (fun _ => rfl) Tryz.func35 (by kernel_rfl) rfl (fun k => trivial) ⟨fun _ => rfl, trivial⟩ (by kernel_rfl) (fun k => pc 0 rfl (e0 k) <| pn) (fun k x => by kernel_rfl) k
end xA
namespace yN
mutual
def j0 : Nat → Int → Int → Bool → A0 → Option Int
 | 0, _, _, _, _ => none
 | k + 1, r3, t, t2, s => if t2 = true then (some s.2.1) else (if (decide (t = 3)) = true then (j1 k r3 true s) else (if (decide (t = 4)) = true then (j1 k r3 true s) else (if (decide (t = 5)) = true then (j1 k r3 true s) else (if (decide (t = 7)) = true then (j1 k r3 true s) else (j1 k r3 (decide (t = 8)) s)))))
def j1 : Nat → Int → Bool → A0 → Option Int
 | 0, _, _, _ => none
 | k + 1, r4, t3, s2 => if t3 = true then (some 0) else (l2 k r4 0 s2)
def l2 : Nat → Int → Int → A0 → Option Int
 | 0, _, _, _ => none
 | k + 1, r5, i, s3 => if (decide (i < (s3.2.2.2.2.2.2.1.length : Int))) = true then ((at? s3.2.2.2.2.2.2.1 i).bind fun e => if (decide (e.1 ≤ r5)) = true then ((at? s3.2.2.2.2.2.2.1 i).bind fun e2 => if (decide (r5 ≤ e2.2.1)) = true then ((at? s3.2.2.2.2.2.2.1 i).bind fun e3 => some e3.2.2) else (j3 k r5 i s3)) else (j3 k r5 i s3)) else (some s3.2.2.2.2.2.1)
def j3 : Nat → Int → Int → A0 → Option Int
 | 0, _, _, _ => none
 | k + 1, r6, i2, s4 => l2 k r6 (wrap64 (i2 + 1)) s4
end
def f (k : Nat) (a0 : A1) (a1 : Int) (a2 : Int) : Option Int := (xA.f k a0 a1).bind fun r => (yW.f k a2).bind fun r2 => if (decide (r2 = 1)) = true then (j0 k a2 r2 true r) else (j0 k a2 r2 (decide (r2 = 2)) r)
def sig (k : Nat) : Sig := .p [(false, y65), (false, (.i .i64)), (false, (.i .i64))] [.c false (.i .i64)] fun x => f k x.1 x.2.1 x.2.2.1
def E (k : Nat) : List (Nat × Sig) := [(33, yW.sig k), (35, xA.sig k)]
noncomputable def d : FD := ⟨32, Tryz.f32, 58, 66, [(7, 58, 8)], [], [], [], [.tmp 6], .s .n (.s .n (.s (.s .n (.s (.j 0 .n (.s .n (.j 1 .n .n))) .n)) (.s (.s .n (.s (.l 2 (.s .n (.j 3 .n .n))) .n)) .n)))⟩
abbrev s0 : Sh := [(2, .v (.i .i64)), (7, .at_ 58), (13, .v (.i .i64)), (14, .v .b), (58, .box y64)]
abbrev s1 : Sh := [(2, .v (.i .i64)), (7, .at_ 58), (19, .v .b), (58, .box y64)]
abbrev s2 : Sh := [(2, .v (.i .i64)), (7, .at_ 58), (8, .v (.i .i64)), (58, .box y64)]
abbrev s3 : Sh := [(2, .v (.i .i64)), (7, .at_ 58), (8, .v (.i .i64)), (58, .box y64)]
def O (k : Nat) : List (Orc (denR ([.c false (.i .i64)]))) := [⟨s0, fun y => j0 k y.1 y.2.2.1 y.2.2.2.1 y.2.2.2.2.1⟩, ⟨s1, fun y => j1 k y.1 y.2.2.1 y.2.2.2.1⟩, ⟨s2, fun y => l2 k y.1 y.2.2.1 y.2.2.2.1⟩, ⟨s3, fun y => j3 k y.1 y.2.2.1 y.2.2.2.1⟩]
theorem e1 (k : Nat) (y : denS s1) : j1 (k + 1) y.1 y.2.2.1 y.2.2.2.1 = SS.ev d E O k [1, 1, 0, 1, 0, 1, 1, 1] s1 y := by rw [j1]; kernel_rfl
theorem e0 (k : Nat) (y : denS s0) : j0 (k + 1) y.1 y.2.2.1 y.2.2.2.1 y.2.2.2.2.1 = SS.ev d E O k [1, 1, 0, 1, 0, 1] s0 y := by rw [j0]; kernel_rfl
theorem e3 (k : Nat) (y : denS s3) : j3 (k + 1) y.1 y.2.2.1 y.2.2.2.1 = SS.ev d E O k [1, 1, 1, 0, 1, 0, 0, 1, 1] s3 y := by rw [j3]; kernel_rfl
theorem e2 (k : Nat) (y : denS s2) : l2 (k + 1) y.1 y.2.2.1 y.2.2.2.1 = SS.ev d E O k [1, 1, 1, 0, 1, 0, 0] s2 y := by rw [l2]; kernel_rfl
theorem ok (k : Nat) : zU Tryz.prog (32, sig k) := fnP SS d E O sig (fun _ => rfl) Tryz.func32 (by kernel_rfl) rfl (fun k => ⟨yW.ok k, xA.ok k, trivial⟩) ⟨fun _ => rfl, fun _ => rfl, fun _ => rfl, fun _ => rfl, trivial⟩ (by kernel_rfl) (fun k => pc 1 rfl (e1 k) <| pc 0 rfl (e0 k) <| pc 3 rfl (e3 k) <| pc 2 rfl (e2 k) <| pn) (fun k x => by kernel_rfl) k
end yN
namespace zG
def f (k : Nat) (a0 : Int) : Option Int := if (decide (1152921504606846976 < a0)) = true then (some 1152921504606846976) else (if (decide (a0 < (-1152921504606846976))) = true then (some (-1152921504606846976)) else (some a0))
def sig (k : Nat) : Sig := .p [(false, (.i .i64))] [.c false (.i .i64)] fun x => f k x.1
def E (k : Nat) : List (Nat × Sig) := []
noncomputable def d : FD := ⟨72, Tryz.f72, 8, 8, [], [], [], [], [.tmp 2], .n⟩
def O (k : Nat) : List (Orc (denR ([.c false (.i .i64)]))) := []
theorem ok (k : Nat) : zU Tryz.prog (72, sig k) := fnP SS d E O sig (fun _ => rfl) Tryz.func72 (by kernel_rfl) rfl (fun k => trivial) trivial (by kernel_rfl) (fun _ => pn) (fun k x => by kernel_rfl) k
end zG
namespace zV
def f (k : Nat) (a0 : Int) (a1 : Int) : Option Int := (zG.f k a0).bind fun r => (zG.f k a1).bind fun r2 => (zG.f k (wrap64 (r + r2))).bind fun r3 => some r3
def sig (k : Nat) : Sig := .p [(false, (.i .i64)), (false, (.i .i64))] [.c false (.i .i64)] fun x => f k x.1 x.2.1
def E (k : Nat) : List (Nat × Sig) := [(72, zG.sig k)]
noncomputable def d : FD := ⟨34, Tryz.f34, 11, 11, [], [], [], [], [.tmp 4], .n⟩
def O (k : Nat) : List (Orc (denR ([.c false (.i .i64)]))) := []
theorem ok (k : Nat) : zU Tryz.prog (34, sig k) := fnP SS d E O sig (fun _ => rfl) Tryz.func34 (by kernel_rfl) rfl (fun k => ⟨zG.ok k, trivial⟩) trivial (by kernel_rfl) (fun _ => pn) (fun k x => by kernel_rfl) k
end zV
namespace uJ
def f (k : Nat) (a0 : Int) (a1 : Int) : Option (List zA) := some ([(2, 0, 0, 0, (true), 0, (false), a0, a0), (3, 0, 0, 0, (false), (-10000), (false), a0, a1)] : List zA)
def sig (k : Nat) : Sig := .p [(false, (.i .i64)), (false, (.i .i64))] [.c false y29] fun x => f k x.1 x.2.1
def E (k : Nat) : List (Nat × Sig) := []
noncomputable def d : FD := ⟨36, Tryz.f36, 12, 12, [], [], [], [], [.tmp 4], .n⟩
def O (k : Nat) : List (Orc (denR ([.c false y29]))) := []
theorem ok (k : Nat) : zU Tryz.prog (36, sig k) := fnP SS d E O sig (fun _ => rfl) Tryz.func36 (by kernel_rfl) rfl (fun k => trivial) trivial (by kernel_rfl) (fun _ => pn) (fun k x => by kernel_rfl) k
end uJ
namespace zH
mutual
def l0 : Nat → A1 → ByteArray → (List zJ) → (List Int) → (List Int) → (List zA) → Int → Int → Option A12
 | 0, _, _, _, _, _, _, _, _ => none
 | k + 1, t, t2, t3, t4, t5, t6, t7, t8 => if (decide (t8 < (t4.length : Int))) = true then (if 0 ≤ t8 ∧ t8 < (t5.length : Int) then ((t5[t8.toNat]?).bind fun e => if (decide ((wrap64 (t8 + 1)) < (t5.length : Int))) = true then (if 0 ≤ (wrap64 (t8 + 1)) ∧ (wrap64 (t8 + 1)) < (t5.length : Int) then ((t5[(wrap64 (t8 + 1)).toNat]?).bind fun e2 => j1 k t t2 t3 t4 t5 t6 t7 t8 e e2) else none) else (j1 k t t2 t3 t4 t5 t6 t7 t8 e (t2.size : Int))) else none) else ((uJ.f k (t2.size : Int) (t2.size : Int)).bind fun r3 => if (t6.length + r3.length) * 72 ≤ 140737488355328 then (some (t6 ++ r3, 0)) else none)
def j1 : Nat → A1 → ByteArray → (List zJ) → (List Int) → (List Int) → (List zA) → Int → Int → Int → Int → Option A12
 | 0, _, _, _, _, _, _, _, _, _, _ => none
 | k + 1, t9, t10, t11, t12, t13, t14, t15, t16, t17, t18 => (wD.f k t11 t17).bind fun r4 => if 0 ≤ t16 ∧ t16 < (t12.length : Int) then ((t12[t16.toNat]?).bind fun e3 => (yN.f k t9 r4 e3).bind fun r5 => if 0 ≤ t16 ∧ t16 < (t12.length : Int) then ((t12[t16.toNat]?).bind fun e4 => (yW.f k e4).bind fun r6 => if (decide (r6 = 0)) = true then (j2 k t9 t10 t11 t12 t13 t14 t15 t16 t17 t18 r4 r5 r6 (wrap64 ((t14.length : Int) - 1))) else (if (decide (r6 = 2)) = true then (j2 k t9 t10 t11 t12 t13 t14 t15 t16 t17 t18 r4 r5 r6 (wrap64 ((t14.length : Int) - 1))) else (if (decide (r6 = 6)) = true then (j2 k t9 t10 t11 t12 t13 t14 t15 t16 t17 t18 r4 r5 r6 (wrap64 ((t14.length : Int) - 1))) else (j3 k t9 t10 t11 t12 t13 t14 t16 t17 t18 r4 r6)))) else none) else none
def j2 : Nat → A1 → ByteArray → (List zJ) → (List Int) → (List Int) → (List zA) → Int → Int → Int → Int → Int → Int → Int → Int → Option A12
 | 0, _, _, _, _, _, _, _, _, _, _, _, _, _, _ => none
 | k + 1, t19, t20, t21, t22, t23, t24, t25, t26, t27, t28, t29, t30, t31, t32 => if (decide (t25 = t29)) = true then (if 0 ≤ t32 ∧ t32 < (t24.length : Int) then ((t24[t32.toNat]?).bind fun e5 => (zV.f k e5.2.1 t30).bind fun r7 => if 0 ≤ t32 ∧ t32 < (t24.length : Int) then ((t24[t32.toNat]?).bind fun e6 => if 0 ≤ t32 ∧ t32 < ((t24.set t32.toNat (e6.1, r7, e6.2.2.1, e6.2.2.2.1, e6.2.2.2.2.1, e6.2.2.2.2.2.1, e6.2.2.2.2.2.2.1, e6.2.2.2.2.2.2.2.1, e6.2.2.2.2.2.2.2.2)).length : Int) then (((t24.set t32.toNat (e6.1, r7, e6.2.2.1, e6.2.2.2.1, e6.2.2.2.2.1, e6.2.2.2.2.2.1, e6.2.2.2.2.2.2.1, e6.2.2.2.2.2.2.2.1, e6.2.2.2.2.2.2.2.2))[t32.toNat]?).bind fun e7 => j4 k t19 t20 t21 t22 t23 ((t24.set t32.toNat (e6.1, r7, e6.2.2.1, e6.2.2.2.1, e6.2.2.2.2.1, e6.2.2.2.2.2.1, e6.2.2.2.2.2.2.1, e6.2.2.2.2.2.2.2.1, e6.2.2.2.2.2.2.2.2)).set t32.toNat (e7.1, e7.2.1, e7.2.2.1, e7.2.2.2.1, e7.2.2.2.2.1, e7.2.2.2.2.2.1, e7.2.2.2.2.2.2.1, e7.2.2.2.2.2.2.2.1, t28)) t26 t28 t29 t31) else none) else none) else none) else (if (t24.length + ([(1, t30, 0, 0, (false), 0, (false), t27, t28)] : List zA).length) * 72 ≤ 140737488355328 then (j4 k t19 t20 t21 t22 t23 (t24 ++ ([(1, t30, 0, 0, (false), 0, (false), t27, t28)] : List zA)) t26 t28 t29 t31) else none)
def j3 : Nat → A1 → ByteArray → (List zJ) → (List Int) → (List Int) → (List zA) → Int → Int → Int → Int → Int → Option A12
 | 0, _, _, _, _, _, _, _, _, _, _, _ => none
 | k + 1, t33, t34, t35, t36, t37, t38, t39, t40, t41, t42, t43 => (xA.f k t33 t42).bind fun r8 => if (decide (t43 = 1)) = true then (if (t38.length + ([(2, r8.2.1, r8.2.2.1, r8.2.2.2.1, (false), 0, (false), t40, t41)] : List zA).length) * 72 ≤ 140737488355328 then (j5 k t33 t34 t35 t36 t37 (t38 ++ ([(2, r8.2.1, r8.2.2.1, r8.2.2.2.1, (false), 0, (false), t40, t41)] : List zA)) (-1) t39 t43) else none) else (if (decide (t43 = 3)) = true then (if (t38.length + ([(3, r8.2.2.2.2.1, 0, 0, (false), 50, (true), t40, t41)] : List zA).length) * 72 ≤ 140737488355328 then (j5 k t33 t34 t35 t36 t37 (t38 ++ ([(3, r8.2.2.2.2.1, 0, 0, (false), 50, (true), t40, t41)] : List zA)) (-1) t39 t43) else none) else (if (decide (t43 = 4)) = true then (if (t38.length + ([(3, 0, 0, 0, (false), 0, (false), t40, t41)] : List zA).length) * 72 ≤ 140737488355328 then (j5 k t33 t34 t35 t36 t37 (t38 ++ ([(3, 0, 0, 0, (false), 0, (false), t40, t41)] : List zA)) (-1) t39 t43) else none) else (if (decide (t43 = 5)) = true then (if (t38.length + ([(3, 0, 0, 0, (false), 10000, (false), t40, t41)] : List zA).length) * 72 ≤ 140737488355328 then (j5 k t33 t34 t35 t36 t37 (t38 ++ ([(3, 0, 0, 0, (false), 10000, (false), t40, t41)] : List zA)) (-1) t39 t43) else none) else ((uJ.f k t40 t41).bind fun r9 => if (t38.length + r9.length) * 72 ≤ 140737488355328 then (j5 k t33 t34 t35 t36 t37 (t38 ++ r9) (-1) t39 t43) else none))))
def j4 : Nat → A1 → ByteArray → (List zJ) → (List Int) → (List Int) → (List zA) → Int → Int → Int → Int → Option A12
 | 0, _, _, _, _, _, _, _, _, _, _ => none
 | k + 1, t44, t45, t46, t47, t48, t49, t50, t51, t52, t53 => if (decide (t53 = 6)) = true then (if (t49.length + ([(3, 0, 0, 0, (false), 50, (true), t51, t51)] : List zA).length) * 72 ≤ 140737488355328 then (j6 k t44 t45 t46 t47 t48 (t49 ++ ([(3, 0, 0, 0, (false), 50, (true), t51, t51)] : List zA)) (-1) t50) else none) else (j6 k t44 t45 t46 t47 t48 t49 t52 t50)
def j5 : Nat → A1 → ByteArray → (List zJ) → (List Int) → (List Int) → (List zA) → Int → Int → Int → Option A12
 | 0, _, _, _, _, _, _, _, _, _ => none
 | k + 1, t54, t55, t56, t57, t58, t59, t60, t61, t62 => if (decide (t62 = 8)) = true then (some (t59, 0)) else (j6 k t54 t55 t56 t57 t58 t59 t60 t61)
def j6 : Nat → A1 → ByteArray → (List zJ) → (List Int) → (List Int) → (List zA) → Int → Int → Option A12
 | 0, _, _, _, _, _, _, _, _ => none
 | k + 1, t63, t64, t65, t66, t67, t68, t69, t70 => l0 k t63 t64 t65 t66 t67 t68 t69 (wrap64 (t70 + 1))
end
def f (k : Nat) (a0 : A1) (a1 : ByteArray) (a2 : (List zJ)) : Option A12 := (yP.f k a0 a1 a2).bind fun r => if (!decide (r = 0)) = true then (some (([] : List zA), r)) else ((yA.f k a1).bind fun r2 => l0 k a0 a1 a2 r2.1 r2.2.1 ([] : List zA) (-1) 0)
def sig (k : Nat) : Sig := .p [(false, y65), (false, .s), (false, y67)] [.c false y29, .c false (.i .i64)] fun x => f k x.1 x.2.1 x.2.2.1
def E (k : Nat) : List (Nat × Sig) := [(29, yP.sig k), (30, yA.sig k), (31, wD.sig k), (32, yN.sig k), (33, yW.sig k), (34, zV.sig k), (35, xA.sig k), (36, uJ.sig k)]
noncomputable def d : FD := ⟨9, Tryz.f9, 179, 187, [(21, 179, 8)], [], [], [], [.tmp 6, .tmp 7], .s .n (.s .n (.s .n (.s .n (.s .n (.s (.s .n (.s (.l 0 (.s .n (.j 6 (.s (.s .n (.j 1 .n (.s .n (.s .n (.s .n (.j 3 (.s .n (.s (.j 4 (.j 2 .n .n) .n) .n)) (.s .n (.s .n (.j 5 .n .n))))))))) .n) .n))) .n)) .n)))))⟩
abbrev s0 : Sh := [(0, .v y65), (1, .v .s), (2, .v y67), (9, .v y10), (10, .v y10), (12, .v y29), (13, .v (.i .i64)), (14, .v (.i .i64))]
abbrev s1 : Sh := [(0, .v y65), (1, .v .s), (2, .v y67), (9, .v y10), (10, .v y10), (12, .v y29), (13, .v (.i .i64)), (14, .v (.i .i64)), (15, .v (.i .i64)), (16, .v (.i .i64))]
abbrev s2 : Sh := [(0, .v y65), (1, .v .s), (2, .v y67), (9, .v y10), (10, .v y10), (12, .v y29), (13, .v (.i .i64)), (14, .v (.i .i64)), (15, .v (.i .i64)), (16, .v (.i .i64)), (17, .v (.i .i64)), (18, .v (.i .i64)), (19, .v (.i .i64)), (20, .v (.i .i64))]
abbrev s3 : Sh := [(0, .v y65), (1, .v .s), (2, .v y67), (9, .v y10), (10, .v y10), (12, .v y29), (14, .v (.i .i64)), (15, .v (.i .i64)), (16, .v (.i .i64)), (17, .v (.i .i64)), (19, .v (.i .i64))]
abbrev s4 : Sh := [(0, .v y65), (1, .v .s), (2, .v y67), (9, .v y10), (10, .v y10), (12, .v y29), (14, .v (.i .i64)), (16, .v (.i .i64)), (17, .v (.i .i64)), (19, .v (.i .i64))]
abbrev s5 : Sh := [(0, .v y65), (1, .v .s), (2, .v y67), (9, .v y10), (10, .v y10), (12, .v y29), (13, .v (.i .i64)), (14, .v (.i .i64)), (19, .v (.i .i64))]
abbrev s6 : Sh := [(0, .v y65), (1, .v .s), (2, .v y67), (9, .v y10), (10, .v y10), (12, .v y29), (13, .v (.i .i64)), (14, .v (.i .i64))]
def O (k : Nat) : List (Orc (denR ([.c false y29, .c false (.i .i64)]))) := [⟨s0, fun y => l0 k y.1 y.2.1 y.2.2.1 y.2.2.2.1 y.2.2.2.2.1 y.2.2.2.2.2.1 y.2.2.2.2.2.2.1 y.2.2.2.2.2.2.2.1⟩, ⟨s1, fun y => j1 k y.1 y.2.1 y.2.2.1 y.2.2.2.1 y.2.2.2.2.1 y.2.2.2.2.2.1 y.2.2.2.2.2.2.1 y.2.2.2.2.2.2.2.1 y.2.2.2.2.2.2.2.2.1 y.2.2.2.2.2.2.2.2.2.1⟩, ⟨s2, fun y => j2 k y.1 y.2.1 y.2.2.1 y.2.2.2.1 y.2.2.2.2.1 y.2.2.2.2.2.1 y.2.2.2.2.2.2.1 y.2.2.2.2.2.2.2.1 y.2.2.2.2.2.2.2.2.1 y.2.2.2.2.2.2.2.2.2.1 y.2.2.2.2.2.2.2.2.2.2.1 y.2.2.2.2.2.2.2.2.2.2.2.1 y.2.2.2.2.2.2.2.2.2.2.2.2.1 y.2.2.2.2.2.2.2.2.2.2.2.2.2.1⟩, ⟨s3, fun y => j3 k y.1 y.2.1 y.2.2.1 y.2.2.2.1 y.2.2.2.2.1 y.2.2.2.2.2.1 y.2.2.2.2.2.2.1 y.2.2.2.2.2.2.2.1 y.2.2.2.2.2.2.2.2.1 y.2.2.2.2.2.2.2.2.2.1 y.2.2.2.2.2.2.2.2.2.2.1⟩, ⟨s4, fun y => j4 k y.1 y.2.1 y.2.2.1 y.2.2.2.1 y.2.2.2.2.1 y.2.2.2.2.2.1 y.2.2.2.2.2.2.1 y.2.2.2.2.2.2.2.1 y.2.2.2.2.2.2.2.2.1 y.2.2.2.2.2.2.2.2.2.1⟩, ⟨s5, fun y => j5 k y.1 y.2.1 y.2.2.1 y.2.2.2.1 y.2.2.2.2.1 y.2.2.2.2.2.1 y.2.2.2.2.2.2.1 y.2.2.2.2.2.2.2.1 y.2.2.2.2.2.2.2.2.1⟩, ⟨s6, fun y => j6 k y.1 y.2.1 y.2.2.1 y.2.2.2.1 y.2.2.2.2.1 y.2.2.2.2.2.1 y.2.2.2.2.2.2.1 y.2.2.2.2.2.2.2.1⟩]
theorem e2 (k : Nat) (y : denS s2) : j2 (k + 1) y.1 y.2.1 y.2.2.1 y.2.2.2.1 y.2.2.2.2.1 y.2.2.2.2.2.1 y.2.2.2.2.2.2.1 y.2.2.2.2.2.2.2.1 y.2.2.2.2.2.2.2.2.1 y.2.2.2.2.2.2.2.2.2.1 y.2.2.2.2.2.2.2.2.2.2.1 y.2.2.2.2.2.2.2.2.2.2.2.1 y.2.2.2.2.2.2.2.2.2.2.2.2.1 y.2.2.2.2.2.2.2.2.2.2.2.2.2.1 = SS.ev d E O k [1, 1, 1, 1, 1, 0, 1, 0, 0, 1, 0, 0, 1, 1, 1, 1, 1, 0, 1, 0, 0, 1] s2 y := by rw [j2]; kernel_rfl
theorem e4 (k : Nat) (y : denS s4) : j4 (k + 1) y.1 y.2.1 y.2.2.1 y.2.2.2.1 y.2.2.2.2.1 y.2.2.2.2.2.1 y.2.2.2.2.2.2.1 y.2.2.2.2.2.2.2.1 y.2.2.2.2.2.2.2.2.1 y.2.2.2.2.2.2.2.2.2.1 = SS.ev d E O k [1, 1, 1, 1, 1, 0, 1, 0, 0, 1, 0, 0, 1, 1, 1, 1, 1, 0, 1, 0, 1] s4 y := by rw [j4]; kernel_rfl
theorem e5 (k : Nat) (y : denS s5) : j5 (k + 1) y.1 y.2.1 y.2.2.1 y.2.2.2.1 y.2.2.2.2.1 y.2.2.2.2.2.1 y.2.2.2.2.2.2.1 y.2.2.2.2.2.2.2.1 y.2.2.2.2.2.2.2.2.1 = SS.ev d E O k [1, 1, 1, 1, 1, 0, 1, 0, 0, 1, 0, 0, 1, 1, 1, 1, 1, 1, 1, 1, 1] s5 y := by rw [j5]; kernel_rfl
theorem e3 (k : Nat) (y : denS s3) : j3 (k + 1) y.1 y.2.1 y.2.2.1 y.2.2.2.1 y.2.2.2.2.1 y.2.2.2.2.2.1 y.2.2.2.2.2.2.1 y.2.2.2.2.2.2.2.1 y.2.2.2.2.2.2.2.2.1 y.2.2.2.2.2.2.2.2.2.1 y.2.2.2.2.2.2.2.2.2.2.1 = SS.ev d E O k [1, 1, 1, 1, 1, 0, 1, 0, 0, 1, 0, 0, 1, 1, 1, 1, 1, 1] s3 y := by rw [j3]; kernel_rfl
theorem e1 (k : Nat) (y : denS s1) : j1 (k + 1) y.1 y.2.1 y.2.2.1 y.2.2.2.1 y.2.2.2.2.1 y.2.2.2.2.2.1 y.2.2.2.2.2.2.1 y.2.2.2.2.2.2.2.1 y.2.2.2.2.2.2.2.2.1 y.2.2.2.2.2.2.2.2.2.1 = SS.ev d E O k [1, 1, 1, 1, 1, 0, 1, 0, 0, 1, 0, 0, 1, 1] s1 y := by rw [j1]; kernel_rfl
theorem e6 (k : Nat) (y : denS s6) : j6 (k + 1) y.1 y.2.1 y.2.2.1 y.2.2.2.1 y.2.2.2.2.1 y.2.2.2.2.2.1 y.2.2.2.2.2.2.1 y.2.2.2.2.2.2.2.1 = SS.ev d E O k [1, 1, 1, 1, 1, 0, 1, 0, 0, 1, 1] s6 y := by rw [j6]; kernel_rfl
theorem e0 (k : Nat) (y : denS s0) : l0 (k + 1) y.1 y.2.1 y.2.2.1 y.2.2.2.1 y.2.2.2.2.1 y.2.2.2.2.2.1 y.2.2.2.2.2.2.1 y.2.2.2.2.2.2.2.1 = SS.ev d E O k [1, 1, 1, 1, 1, 0, 1, 0, 0] s0 y := by rw [l0]; kernel_rfl
theorem ok (k : Nat) : zU Tryz.prog (9, sig k) := fnP SS d E O sig (fun _ => rfl) Tryz.func9 (by kernel_rfl) rfl (fun k => ⟨yP.ok k, yA.ok k, wD.ok k, yN.ok k, yW.ok k, zV.ok k, xA.ok k, uJ.ok k, trivial⟩) ⟨fun _ => rfl, fun _ => rfl, fun _ => rfl, fun _ => rfl, fun _ => rfl, fun _ => rfl, fun _ => rfl, trivial⟩ (by kernel_rfl) (fun k => pc 2 rfl (e2 k) <| pc 4 rfl (e4 k) <| pc 5 rfl (e5 k) <| pc 3 rfl (e3 k) <| pc 1 rfl (e1 k) <| pc 6 rfl (e6 k) <| pc 0 rfl (e0 k) <| pn) (fun k x => by kernel_rfl) k
end zH
namespace zZ
mutual
def j0 : Nat → zD → Option Bool
 | 0, _ => none
 | k + 1, t => l1 k ([t.2.2.1, t.2.2.2.1, t.2.2.2.2.1] : List Int) 0 t
def l1 : Nat → (List Int) → Int → zD → Option Bool
 | 0, _, _, _ => none
 | k + 1, t2, t3, t4 => if (decide (t3 < (t2.length : Int))) = true then (if 0 ≤ t3 ∧ t3 < (t2.length : Int) then ((t2[t3.toNat]?).bind fun e => if (decide (e < 0)) = true then (some false) else (if 0 ≤ t3 ∧ t3 < (t2.length : Int) then ((t2[t3.toNat]?).bind fun e2 => if (decide (1048576 < e2)) = true then (some false) else (j2 k t2 t3 t4)) else none)) else none) else (if (decide (1 ≤ t4.2.2.2.2.2.1)) = true then (if (decide (t4.2.2.2.2.2.1 ≤ 100)) = true then (if (decide (1 ≤ t4.2.2.2.2.2.2)) = true then (some (decide (t4.2.2.2.2.2.2 ≤ 100))) else (some false)) else (some false)) else (some false))
def j2 : Nat → (List Int) → Int → zD → Option Bool
 | 0, _, _, _ => none
 | k + 1, t5, t6, t7 => l1 k t5 (wrap64 (t6 + 1)) t7
end
def f (k : Nat) (a0 : zD) : Option Bool := if (decide (a0.1 < 0)) = true then (some false) else (if (decide (10000 < a0.1)) = true then (some false) else (if (decide (a0.2.1 < 0)) = true then (some false) else (if (decide (10000 < a0.2.1)) = true then (some false) else (j0 k a0))))
def sig (k : Nat) : Sig := .p [(true, y92)] [.c false .b] fun x => f k x.1
def E (k : Nat) : List (Nat × Sig) := []
noncomputable def d : FD := ⟨10, Tryz.f10, 66, 73, [(1, 66, 7)], [], [], [], [.tmp 2], .s .n (.j 0 .n (.s .n (.s (.s .n (.s (.l 1 (.s .n (.j 2 .n .n))) .n)) .n)))⟩
abbrev s0 : Sh := [(1, .at_ 66), (66, .box y92)]
abbrev s1 : Sh := [(1, .at_ 66), (3, .v y10), (4, .v (.i .i64)), (66, .box y92)]
abbrev s2 : Sh := [(1, .at_ 66), (3, .v y10), (4, .v (.i .i64)), (66, .box y92)]
def O (k : Nat) : List (Orc (denR ([.c false .b]))) := [⟨s0, fun y => j0 k y.2.1⟩, ⟨s1, fun y => l1 k y.2.1 y.2.2.1 y.2.2.2.1⟩, ⟨s2, fun y => j2 k y.2.1 y.2.2.1 y.2.2.2.1⟩]
theorem e2 (k : Nat) (y : denS s2) : j2 (k + 1) y.2.1 y.2.2.1 y.2.2.2.1 = SS.ev d E O k [1, 1, 1, 0, 1, 0, 0, 1, 1] s2 y := by rw [j2]; kernel_rfl
theorem e1 (k : Nat) (y : denS s1) : l1 (k + 1) y.2.1 y.2.2.1 y.2.2.2.1 = SS.ev d E O k [1, 1, 1, 0, 1, 0, 0] s1 y := by rw [l1]; kernel_rfl
theorem e0 (k : Nat) (y : denS s0) : j0 (k + 1) y.2.1 = SS.ev d E O k [1, 1] s0 y := by rw [j0]; kernel_rfl
theorem ok (k : Nat) : zU Tryz.prog (10, sig k) := fnP SS d E O sig (fun _ => rfl) Tryz.func10 (by kernel_rfl) rfl (fun k => trivial) ⟨fun _ => rfl, fun _ => rfl, fun _ => rfl, trivial⟩ (by kernel_rfl) (fun k => pc 2 rfl (e2 k) <| pc 1 rfl (e1 k) <| pc 0 rfl (e0 k) <| pn) (fun k x => by kernel_rfl) k
end zZ
namespace vX
mutual
def j0 : Nat → (List zA) → Int → Option Bool
 | 0, _, _ => none
 | k + 1, list, k_ => (at? list k_).bind fun e => if (decide (e.1 = 3)) = true then ((at? list k_).bind fun e2 => some (decide (e2.2.2.2.2.2.1 < 10000))) else ((at? list k_).bind fun e3 => if (decide (e3.1 = 2)) = true then ((at? list k_).bind fun e4 => if (!e4.2.2.2.2.1) = true then (if (decide (0 < k_)) = true then ((at? list (wrap64 (k_ - 1))).bind fun e5 => some (decide (e5.1 = 1))) else (some false)) else (some false)) else (some false))
end
def f (k : Nat) (a0 : (List zA)) (a1 : Int) : Option Bool := if (decide (a1 < 0)) = true then (some false) else (if (decide ((a0.length : Int) ≤ a1)) = true then (some false) else (j0 k a0 a1))
def sig (k : Nat) : Sig := .p [(false, y28), (false, (.i .i64))] [.c false .b] fun x => f k x.1 x.2.1
def E (k : Nat) : List (Nat × Sig) := []
noncomputable def d : FD := ⟨42, Tryz.f42, 52, 52, [], [], [], [], [.tmp 4], .s .n (.j 0 .n .n)⟩
abbrev s0 : Sh := [(0, .v y28), (1, .v (.i .i64))]
def O (k : Nat) : List (Orc (denR ([.c false .b]))) := [⟨s0, fun y => j0 k y.1 y.2.1⟩]
theorem e0 (k : Nat) (y : denS s0) : j0 (k + 1) y.1 y.2.1 = SS.ev d E O k [1, 1] s0 y := by rw [j0]; kernel_rfl
theorem ok (k : Nat) : zU Tryz.prog (42, sig k) := fnP SS d E O sig (fun _ => rfl) Tryz.func42 (by kernel_rfl) rfl (fun k => trivial) ⟨fun _ => rfl, trivial⟩ (by kernel_rfl) (fun k => pc 0 rfl (e0 k) <| pn) (fun k x => by kernel_rfl) k
end vX
namespace yC
mutual
def l0 : Nat → (List zA) → (List Int) → Int → Option (List Int)
 | 0, _, _, _ => none
 | k + 1, l, out, k_ => if (decide (k_ < (l.length : Int))) = true then ((vX.f k l k_).bind fun r => if r = true then (if (out.length + ([k_] : List Int).length) * 8 ≤ 140737488355328 then (j1 k l (out ++ ([k_] : List Int)) k_) else none) else (j1 k l out k_)) else (some out)
def j1 : Nat → (List zA) → (List Int) → Int → Option (List Int)
 | 0, _, _, _ => none
 | k + 1, l2, out2, k_2 => l0 k l2 out2 (wrap64 (k_2 + 1))
end
def f (k : Nat) (a0 : (List zA)) : Option (List Int) := l0 k a0 ([] : List Int) 0
def sig (k : Nat) : Sig := .p [(false, y28)] [.c false y10] fun x => f k x.1
def E (k : Nat) : List (Nat × Sig) := [(42, vX.sig k)]
noncomputable def d : FD := ⟨12, Tryz.f12, 19, 19, [], [], [], [], [.tmp 2], .s .n (.s .n (.s (.s .n (.s (.l 0 (.s .n (.j 1 .n .n))) .n)) .n))⟩
abbrev s0 : Sh := [(0, .v y28), (3, .v y10), (4, .v (.i .i64))]
abbrev s1 : Sh := [(0, .v y28), (3, .v y10), (4, .v (.i .i64))]
def O (k : Nat) : List (Orc (denR ([.c false y10]))) := [⟨s0, fun y => l0 k y.1 y.2.1 y.2.2.1⟩, ⟨s1, fun y => j1 k y.1 y.2.1 y.2.2.1⟩]
theorem e1 (k : Nat) (y : denS s1) : j1 (k + 1) y.1 y.2.1 y.2.2.1 = SS.ev d E O k [1, 1, 0, 1, 0, 0, 1, 1] s1 y := by rw [j1]; kernel_rfl
theorem e0 (k : Nat) (y : denS s0) : l0 (k + 1) y.1 y.2.1 y.2.2.1 = SS.ev d E O k [1, 1, 0, 1, 0, 0] s0 y := by rw [l0]; kernel_rfl
theorem ok (k : Nat) : zU Tryz.prog (12, sig k) := fnP SS d E O sig (fun _ => rfl) Tryz.func12 (by kernel_rfl) rfl (fun k => ⟨vX.ok k, trivial⟩) ⟨fun _ => rfl, fun _ => rfl, trivial⟩ (by kernel_rfl) (fun k => pc 1 rfl (e1 k) <| pc 0 rfl (e0 k) <| pn) (fun k x => by kernel_rfl) k
end yC
namespace xE
def f (k : Nat) (a0 : zA) : Option Bool := if (decide (a0.1 = 3)) = true then (some (decide (a0.2.2.2.2.2.1 ≤ (-10000)))) else (some false)
def sig (k : Nat) : Sig := .p [(true, y27)] [.c false .b] fun x => f k x.1
def E (k : Nat) : List (Nat × Sig) := []
noncomputable def d : FD := ⟨23, Tryz.f23, 11, 20, [(1, 11, 9)], [], [], [], [.tmp 2], .n⟩
def O (k : Nat) : List (Orc (denR ([.c false .b]))) := []
theorem ok (k : Nat) : zU Tryz.prog (23, sig k) := fnP SS d E O sig (fun _ => rfl) Tryz.func23 (by kernel_rfl) rfl (fun k => trivial) trivial (by kernel_rfl) (fun _ => pn) (fun k x => by kernel_rfl) k
end xE
namespace wL
mutual
def l0 : Nat → (List Int) → Int → Int → Option Int
 | 0, _, _, _ => none
 | k + 1, ends, b, i => if (decide (i < (ends.length : Int))) = true then ((at? ends i).bind fun e => if (decide (e = b)) = true then (some i) else (l0 k ends b (wrap64 (i + 1)))) else (some (-1))
end
def f (k : Nat) (a0 : (List Int)) (a1 : Int) : Option Int := l0 k a0 a1 0
def sig (k : Nat) : Sig := .p [(false, y37), (false, (.i .i64))] [.c false (.i .i64)] fun x => f k x.1 x.2.1
def E (k : Nat) : List (Nat × Sig) := []
noncomputable def d : FD := ⟨37, Tryz.f37, 19, 19, [], [], [], [], [.tmp 4], .s .n (.s (.s .n (.s (.l 0 .n) .n)) .n)⟩
abbrev s0 : Sh := [(0, .v y37), (1, .v (.i .i64)), (5, .v (.i .i64))]
def O (k : Nat) : List (Orc (denR ([.c false (.i .i64)]))) := [⟨s0, fun y => l0 k y.1 y.2.1 y.2.2.1⟩]
theorem e0 (k : Nat) (y : denS s0) : l0 (k + 1) y.1 y.2.1 y.2.2.1 = SS.ev d E O k [1, 0, 1, 0, 0] s0 y := by rw [l0]; kernel_rfl
theorem ok (k : Nat) : zU Tryz.prog (37, sig k) := fnP SS d E O sig (fun _ => rfl) Tryz.func37 (by kernel_rfl) rfl (fun k => trivial) ⟨fun _ => rfl, trivial⟩ (by kernel_rfl) (fun k => pc 0 rfl (e0 k) <| pn) (fun k x => by kernel_rfl) k
end wL
namespace yE
mutual
def l0 : Nat → (List zA) → Int → Int → Option Int
 | 0, _, _, _ => none
 | k + 1, l, a, k_ => if (decide (k_ < (l.length : Int))) = true then (if (decide (a < k_)) = true then ((at? l k_).bind fun e => if (decide (e.1 = 1)) = true then (some k_) else ((at? l k_).bind fun e2 => (xE.f k e2).bind fun r => if r = true then (some k_) else ((at? l k_).bind fun e3 => if (decide (e3.1 = 2)) = true then ((at? l k_).bind fun e4 => if e4.2.2.2.2.1 = true then (some k_) else (j1 k l a k_)) else (j1 k l a k_)))) else (j1 k l a k_)) else (some (l.length : Int))
def j1 : Nat → (List zA) → Int → Int → Option Int
 | 0, _, _, _ => none
 | k + 1, l2, a2, k_2 => l0 k l2 a2 (wrap64 (k_2 + 1))
end
def f (k : Nat) (a0 : (List zA)) (a1 : Int) : Option Int := if (decide (a1 < 0)) = true then (some 0) else (l0 k a0 a1 a1)
def sig (k : Nat) : Sig := .p [(false, y28), (false, (.i .i64))] [.c false (.i .i64)] fun x => f k x.1 x.2.1
def E (k : Nat) : List (Nat × Sig) := [(23, xE.sig k)]
noncomputable def d : FD := ⟨56, Tryz.f56, 51, 51, [], [], [], [], [.tmp 4], .s .n (.s .n (.s (.s .n (.s (.l 0 (.s .n (.j 1 .n .n))) .n)) .n))⟩
abbrev s0 : Sh := [(0, .v y28), (1, .v (.i .i64)), (5, .v (.i .i64))]
abbrev s1 : Sh := [(0, .v y28), (1, .v (.i .i64)), (5, .v (.i .i64))]
def O (k : Nat) : List (Orc (denR ([.c false (.i .i64)]))) := [⟨s0, fun y => l0 k y.1 y.2.1 y.2.2.1⟩, ⟨s1, fun y => j1 k y.1 y.2.1 y.2.2.1⟩]
theorem e1 (k : Nat) (y : denS s1) : j1 (k + 1) y.1 y.2.1 y.2.2.1 = SS.ev d E O k [1, 1, 0, 1, 0, 0, 1, 1] s1 y := by rw [j1]; kernel_rfl
theorem e0 (k : Nat) (y : denS s0) : l0 (k + 1) y.1 y.2.1 y.2.2.1 = SS.ev d E O k [1, 1, 0, 1, 0, 0] s0 y := by rw [l0]; kernel_rfl
theorem ok (k : Nat) : zU Tryz.prog (56, sig k) := fnP SS d E O sig (fun _ => rfl) Tryz.func56 (by kernel_rfl) rfl (fun k => ⟨xE.ok k, trivial⟩) ⟨fun _ => rfl, fun _ => rfl, trivial⟩ (by kernel_rfl) (fun k => pc 1 rfl (e1 k) <| pc 0 rfl (e0 k) <| pn) (fun k x => by kernel_rfl) k
end yE
namespace yV
mutual
def j0 : Nat → (List zA) → Int → Int → zB → zB → Option A20
 | 0, _, _, _, _, _ => none
 | k + 1, t, t2, t3, t4, t5 => (yE.f k t t2).bind fun r => l1 k t t3 r t4 t5
def l1 : Nat → (List zA) → Int → Int → zB → zB → Option A20
 | 0, _, _, _, _, _ => none
 | k + 1, t6, t7, t8, t9, t10 => if (decide (t8 < t7)) = true then ((at? t6 t8).bind fun e => if (!decide (e.1 = 3)) = true then ((at? t6 t8).bind fun e2 => (at? t6 t8).bind fun e3 => (at? t6 t8).bind fun e4 => j2 k t6 t7 t8 t9 (wrap64 (t10.1 + e2.2.1), wrap64 (t10.2.1 + e3.2.2.1), wrap64 (t10.2.2.1 + e4.2.2.2.1), t10.2.2.2)) else (j2 k t6 t7 t8 t9 t10)) else (some (t10, true))
def j2 : Nat → (List zA) → Int → Int → zB → zB → Option A20
 | 0, _, _, _, _, _ => none
 | k + 1, t11, t12, t13, t14, t15 => (at? t11 t13).bind fun e5 => if e5.2.2.2.2.1 = true then (j3 k t11 t12 t13 t14 (t15.1, t15.2.1, t15.2.2.1, wrap64 (t15.2.2.2 + 1))) else (j3 k t11 t12 t13 t14 t15)
def j3 : Nat → (List zA) → Int → Int → zB → zB → Option A20
 | 0, _, _, _, _, _ => none
 | k + 1, t16, t17, t18, t19, t20 => l1 k t16 t17 (wrap64 (t18 + 1)) t19 t20
end
def f (k : Nat) (a0 : (List zA)) (a1 : Int) (a2 : Int) : Option A20 := if (decide (a2 < 0)) = true then (some ((0, 0, 0, 0), false)) else (if (decide ((a0.length : Int) ≤ a2)) = true then (some ((0, 0, 0, 0), false)) else (j0 k a0 a1 a2 (0, 0, 0, 0) (0, 0, 0, 0)))
def sig (k : Nat) : Sig := .p [(false, y28), (false, (.i .i64)), (false, (.i .i64))] [.c true y53, .c false .b] fun x => f k x.1 x.2.1 x.2.2.1
def E (k : Nat) : List (Nat × Sig) := [(56, yE.sig k)]
noncomputable def d : FD := ⟨57, Tryz.f57, 70, 78, [(6, 70, 4), (8, 74, 4)], [], [], [], [.cell 6 59, .tmp 7], .s .n (.s .n (.j 0 .n (.s (.s .n (.s (.l 1 (.s .n (.j 3 (.s (.j 2 .n .n) .n) .n))) .n)) .n)))⟩
abbrev s0 : Sh := [(0, .v y28), (1, .v (.i .i64)), (2, .v (.i .i64)), (6, .at_ 70), (8, .at_ 74), (70, .box y53), (74, .box y53)]
abbrev s1 : Sh := [(0, .v y28), (2, .v (.i .i64)), (6, .at_ 70), (8, .at_ 74), (9, .v (.i .i64)), (70, .box y53), (74, .box y53)]
abbrev s2 : Sh := [(0, .v y28), (2, .v (.i .i64)), (6, .at_ 70), (8, .at_ 74), (9, .v (.i .i64)), (70, .box y53), (74, .box y53)]
abbrev s3 : Sh := [(0, .v y28), (2, .v (.i .i64)), (6, .at_ 70), (8, .at_ 74), (9, .v (.i .i64)), (70, .box y53), (74, .box y53)]
def O (k : Nat) : List (Orc (denR ([.c true y53, .c false .b]))) := [⟨s0, fun y => j0 k y.1 y.2.1 y.2.2.1 y.2.2.2.2.2.1 y.2.2.2.2.2.2.1⟩, ⟨s1, fun y => l1 k y.1 y.2.1 y.2.2.2.2.1 y.2.2.2.2.2.1 y.2.2.2.2.2.2.1⟩, ⟨s2, fun y => j2 k y.1 y.2.1 y.2.2.2.2.1 y.2.2.2.2.2.1 y.2.2.2.2.2.2.1⟩, ⟨s3, fun y => j3 k y.1 y.2.1 y.2.2.2.2.1 y.2.2.2.2.2.1 y.2.2.2.2.2.2.1⟩]
theorem e2 (k : Nat) (y : denS s2) : j2 (k + 1) y.1 y.2.1 y.2.2.2.2.1 y.2.2.2.2.2.1 y.2.2.2.2.2.2.1 = SS.ev d E O k [1, 1, 1, 0, 1, 0, 0, 1, 0, 0, 1] s2 y := by rw [j2]; kernel_rfl
theorem e3 (k : Nat) (y : denS s3) : j3 (k + 1) y.1 y.2.1 y.2.2.2.2.1 y.2.2.2.2.2.1 y.2.2.2.2.2.2.1 = SS.ev d E O k [1, 1, 1, 0, 1, 0, 0, 1, 1] s3 y := by rw [j3]; kernel_rfl
theorem e1 (k : Nat) (y : denS s1) : l1 (k + 1) y.1 y.2.1 y.2.2.2.2.1 y.2.2.2.2.2.1 y.2.2.2.2.2.2.1 = SS.ev d E O k [1, 1, 1, 0, 1, 0, 0] s1 y := by rw [l1]; kernel_rfl
theorem e0 (k : Nat) (y : denS s0) : j0 (k + 1) y.1 y.2.1 y.2.2.1 y.2.2.2.2.2.1 y.2.2.2.2.2.2.1 = SS.ev d E O k [1, 1, 1] s0 y := by rw [j0]; kernel_rfl
theorem ok (k : Nat) : zU Tryz.prog (57, sig k) := fnP SS d E O sig (fun _ => rfl) Tryz.func57 (by kernel_rfl) rfl (fun k => ⟨yE.ok k, trivial⟩) ⟨fun _ => rfl, fun _ => rfl, fun _ => rfl, fun _ => rfl, trivial⟩ (by kernel_rfl) (fun k => pc 2 rfl (e2 k) <| pc 3 rfl (e3 k) <| pc 1 rfl (e1 k) <| pc 0 rfl (e0 k) <| pn) (fun k x => by kernel_rfl) k
end yV
namespace uX
def f (k : Nat) (a0 : (List zA)) (a1 : Int) (a2 : Int) : Option zB := (yV.f k a0 a1 a2).bind fun r => if r.2 = true then ((at? a0 a2).bind fun e => if (decide (e.1 = 3)) = true then ((at? a0 a2).bind fun e2 => some (wrap64 (r.1.1 + e2.2.1), r.1.2.1, r.1.2.2.1, r.1.2.2.2)) else (some r.1)) else (some r.1)
def sig (k : Nat) : Sig := .p [(false, y28), (false, (.i .i64)), (false, (.i .i64))] [.c true y53] fun x => f k x.1 x.2.1 x.2.2.1
def E (k : Nat) : List (Nat × Sig) := [(57, yV.sig k)]
noncomputable def d : FD := ⟨22, Tryz.f22, 35, 43, [(6, 35, 4), (7, 39, 4)], [], [], [], [.cell 6 59], .n⟩
def O (k : Nat) : List (Orc (denR ([.c true y53]))) := []
theorem ok (k : Nat) : zU Tryz.prog (22, sig k) := fnP SS d E O sig (fun _ => rfl) Tryz.func22 (by kernel_rfl) rfl (fun k => ⟨yV.ok k, trivial⟩) trivial (by kernel_rfl) (fun _ => pn) (fun k x => by kernel_rfl) k
end uX
namespace yM
mutual
def l0 : Nat → (List Int) → Int → Option (List Int)
 | 0, _, _ => none
 | k + 1, a, n => if (decide (0 < n)) = true then ((at? a (wrap64 (n - 1))).bind fun e => if (decide (e = 0)) = true then (j1 k a n) else (j2 k a n)) else (j2 k a n)
def j1 : Nat → (List Int) → Int → Option (List Int)
 | 0, _, _ => none
 | k + 1, a2, n2 => l0 k a2 (wrap64 (n2 - 1))
def j2 : Nat → (List Int) → Int → Option (List Int)
 | 0, _, _ => none
 | k + 1, a3, n3 => if 0 ≤ (0 : Int) ∧ (0 : Int) ≤ n3 ∧ n3 ≤ (a3.length : Int) then (if (([] : List Int).length + ((a3.drop ((0 : Int).toNat)).take (n3.toNat - (0 : Int).toNat)).length) * 8 ≤ 140737488355328 then (some (([] : List Int) ++ ((a3.drop ((0 : Int).toNat)).take (n3.toNat - (0 : Int).toNat)))) else none) else none
end
def f (k : Nat) (a0 : (List Int)) : Option (List Int) := l0 k a0 (a0.length : Int)
def sig (k : Nat) : Sig := .p [(false, y37)] [.c false y10] fun x => f k x.1
def E (k : Nat) : List (Nat × Sig) := []
noncomputable def d : FD := ⟨132, Tryz.f132, 23, 23, [], [], [], [], [.tmp 2], .s .n (.s .n (.j 2 (.s (.l 0 (.j 1 .n .n)) .n) .n))⟩
abbrev s0 : Sh := [(0, .v y37), (3, .v (.i .i64))]
abbrev s1 : Sh := [(0, .v y37), (3, .v (.i .i64))]
abbrev s2 : Sh := [(0, .v y37), (3, .v (.i .i64))]
def O (k : Nat) : List (Orc (denR ([.c false y10]))) := [⟨s0, fun y => l0 k y.1 y.2.1⟩, ⟨s1, fun y => j1 k y.1 y.2.1⟩, ⟨s2, fun y => j2 k y.1 y.2.1⟩]
theorem e1 (k : Nat) (y : denS s1) : j1 (k + 1) y.1 y.2.1 = SS.ev d E O k [1, 1, 0, 0, 0, 1] s1 y := by rw [j1]; kernel_rfl
theorem e0 (k : Nat) (y : denS s0) : l0 (k + 1) y.1 y.2.1 = SS.ev d E O k [1, 1, 0, 0, 0] s0 y := by rw [l0]; kernel_rfl
theorem e2 (k : Nat) (y : denS s2) : j2 (k + 1) y.1 y.2.1 = SS.ev d E O k [1, 1, 1] s2 y := by rw [j2]; kernel_rfl
theorem ok (k : Nat) : zU Tryz.prog (132, sig k) := fnP SS d E O sig (fun _ => rfl) Tryz.func132 (by kernel_rfl) rfl (fun k => trivial) ⟨fun _ => rfl, fun _ => rfl, fun _ => rfl, trivial⟩ (by kernel_rfl) (fun k => pc 1 rfl (e1 k) <| pc 0 rfl (e0 k) <| pc 2 rfl (e2 k) <| pn) (fun k x => by kernel_rfl) k
end yM
namespace zF
mutual
def l0 : Nat → (List Int) → (List Int) → (List Int) → Int → Option (List Int)
 | 0, _, _, _, _ => none
 | k + 1, t, t2, t3, t4 => if (decide (t4 < (t.length : Int))) = true then (l1 k t t2 t3 t4 0) else (l2 k t3 0)
def l1 : Nat → (List Int) → (List Int) → (List Int) → Int → Int → Option (List Int)
 | 0, _, _, _, _, _ => none
 | k + 1, t5, t6, t7, t8, t9 => if (decide (t9 < (t6.length : Int))) = true then (if 0 ≤ (wrap64 (t8 + t9)) ∧ (wrap64 (t8 + t9)) < (t7.length : Int) then ((t7[(wrap64 (t8 + t9)).toNat]?).bind fun e => (at? t5 t8).bind fun e2 => (at? t6 t9).bind fun e3 => if 0 ≤ (wrap64 (t8 + t9)) ∧ (wrap64 (t8 + t9)) < (t7.length : Int) then ((t7[(wrap64 (t8 + t9)).toNat]?).bind fun e4 => if 0 ≤ (wrap64 ((wrap64 (t8 + t9)) + 1)) ∧ (wrap64 ((wrap64 (t8 + t9)) + 1)) < ((t7.set ((wrap64 (t8 + t9)).toNat) (wrap64 (e + (wrap64 (e2 * e3))))).length : Int) then (((t7.set ((wrap64 (t8 + t9)).toNat) (wrap64 (e + (wrap64 (e2 * e3)))))[(wrap64 ((wrap64 (t8 + t9)) + 1)).toNat]?).bind fun e5 => if 0 ≤ (wrap64 (t8 + t9)) ∧ (wrap64 (t8 + t9)) < ((t7.set ((wrap64 (t8 + t9)).toNat) (wrap64 (e + (wrap64 (e2 * e3))))).length : Int) then (((t7.set ((wrap64 (t8 + t9)).toNat) (wrap64 (e + (wrap64 (e2 * e3)))))[(wrap64 (t8 + t9)).toNat]?).bind fun e6 => if 0 ≤ (wrap64 ((wrap64 (t8 + t9)) + 1)) ∧ (wrap64 ((wrap64 (t8 + t9)) + 1)) < ((t7.set ((wrap64 (t8 + t9)).toNat) (wrap64 (e + (wrap64 (e2 * e3))))).length : Int) then (((t7.set ((wrap64 (t8 + t9)).toNat) (wrap64 (e + (wrap64 (e2 * e3)))))[(wrap64 ((wrap64 (t8 + t9)) + 1)).toNat]?).bind fun e7 => if 0 ≤ (wrap64 (t8 + t9)) ∧ (wrap64 (t8 + t9)) < (((t7.set ((wrap64 (t8 + t9)).toNat) (wrap64 (e + (wrap64 (e2 * e3))))).set ((wrap64 ((wrap64 (t8 + t9)) + 1)).toNat) (wrap64 (e5 + (wrap64 (e6.tdiv 1000))))).length : Int) then ((((t7.set ((wrap64 (t8 + t9)).toNat) (wrap64 (e + (wrap64 (e2 * e3))))).set ((wrap64 ((wrap64 (t8 + t9)) + 1)).toNat) (wrap64 (e5 + (wrap64 (e6.tdiv 1000)))))[(wrap64 (t8 + t9)).toNat]?).bind fun e8 => if 0 ≤ (wrap64 (t8 + t9)) ∧ (wrap64 (t8 + t9)) < (((t7.set ((wrap64 (t8 + t9)).toNat) (wrap64 (e + (wrap64 (e2 * e3))))).set ((wrap64 ((wrap64 (t8 + t9)) + 1)).toNat) (wrap64 (e5 + (wrap64 (e6.tdiv 1000))))).length : Int) then ((((t7.set ((wrap64 (t8 + t9)).toNat) (wrap64 (e + (wrap64 (e2 * e3))))).set ((wrap64 ((wrap64 (t8 + t9)) + 1)).toNat) (wrap64 (e5 + (wrap64 (e6.tdiv 1000)))))[(wrap64 (t8 + t9)).toNat]?).bind fun e9 => l1 k t5 t6 (((t7.set ((wrap64 (t8 + t9)).toNat) (wrap64 (e + (wrap64 (e2 * e3))))).set ((wrap64 ((wrap64 (t8 + t9)) + 1)).toNat) (wrap64 (e5 + (wrap64 (e6.tdiv 1000))))).set ((wrap64 (t8 + t9)).toNat) (e8.tmod 1000)) t8 (wrap64 (t9 + 1))) else none) else none) else none) else none) else none) else none) else none) else (l0 k t5 t6 t7 (wrap64 (t8 + 1)))
def l2 : Nat → (List Int) → Int → Option (List Int)
 | 0, _, _ => none
 | k + 1, t10, t11 => if (decide ((wrap64 (t11 + 1)) < (t10.length : Int))) = true then (if 0 ≤ (wrap64 (t11 + 1)) ∧ (wrap64 (t11 + 1)) < (t10.length : Int) then ((t10[(wrap64 (t11 + 1)).toNat]?).bind fun e10 => if 0 ≤ t11 ∧ t11 < (t10.length : Int) then ((t10[t11.toNat]?).bind fun e11 => if 0 ≤ (wrap64 (t11 + 1)) ∧ (wrap64 (t11 + 1)) < (t10.length : Int) then ((t10[(wrap64 (t11 + 1)).toNat]?).bind fun e12 => if 0 ≤ t11 ∧ t11 < ((t10.set ((wrap64 (t11 + 1)).toNat) (wrap64 (e10 + (wrap64 (e11.tdiv 1000))))).length : Int) then (((t10.set ((wrap64 (t11 + 1)).toNat) (wrap64 (e10 + (wrap64 (e11.tdiv 1000)))))[t11.toNat]?).bind fun e13 => if 0 ≤ t11 ∧ t11 < ((t10.set ((wrap64 (t11 + 1)).toNat) (wrap64 (e10 + (wrap64 (e11.tdiv 1000))))).length : Int) then (((t10.set ((wrap64 (t11 + 1)).toNat) (wrap64 (e10 + (wrap64 (e11.tdiv 1000)))))[t11.toNat]?).bind fun e14 => l2 k ((t10.set ((wrap64 (t11 + 1)).toNat) (wrap64 (e10 + (wrap64 (e11.tdiv 1000))))).set t11.toNat (e13.tmod 1000)) (wrap64 (t11 + 1))) else none) else none) else none) else none) else none) else ((yM.f k t10).bind fun r => some r)
end
def f (k : Nat) (a0 : (List Int)) (a1 : (List Int)) : Option (List Int) := if (wrap64 ((wrap64 ((a0.length : Int) + (a1.length : Int))) + 1)) = (wrap64 ((wrap64 ((a0.length : Int) + (a1.length : Int))) + 1)) ∧ 0 ≤ (wrap64 ((wrap64 ((a0.length : Int) + (a1.length : Int))) + 1)) ∧ (8 : Int) * (wrap64 ((wrap64 ((a0.length : Int) + (a1.length : Int))) + 1)) ≤ 281474976710656 then (l0 k a0 a1 (List.replicate ((wrap64 ((wrap64 ((a0.length : Int) + (a1.length : Int))) + 1)).toNat) 0 : List Int) 0) else none
def sig (k : Nat) : Sig := .p [(false, y37), (false, y37)] [.c false y10] fun x => f k x.1 x.2.1
def E (k : Nat) : List (Nat × Sig) := [(132, yM.sig k)]
noncomputable def d : FD := ⟨119, Tryz.f119, 114, 114, [], [], [], [], [.tmp 4], .s .n (.s .n (.s (.s .n (.s (.l 0 (.s .n (.s (.s (.s .n (.s (.l 1 .n) .n)) .n) .n))) .n)) (.s (.s .n (.s (.l 2 .n) .n)) .n)))⟩
abbrev s0 : Sh := [(0, .v y37), (1, .v y37), (5, .v y10), (6, .v (.i .i64))]
abbrev s1 : Sh := [(0, .v y37), (1, .v y37), (5, .v y10), (6, .v (.i .i64)), (7, .v (.i .i64))]
abbrev s2 : Sh := [(5, .v y10), (8, .v (.i .i64))]
def O (k : Nat) : List (Orc (denR ([.c false y10]))) := [⟨s0, fun y => l0 k y.1 y.2.1 y.2.2.1 y.2.2.2.1⟩, ⟨s1, fun y => l1 k y.1 y.2.1 y.2.2.1 y.2.2.2.1 y.2.2.2.2.1⟩, ⟨s2, fun y => l2 k y.1 y.2.1⟩]
theorem e1 (k : Nat) (y : denS s1) : l1 (k + 1) y.1 y.2.1 y.2.2.1 y.2.2.2.1 y.2.2.2.2.1 = SS.ev d E O k [1, 1, 0, 1, 0, 0, 1, 0, 0, 1, 0, 0] s1 y := by rw [l1]; kernel_rfl
theorem e0 (k : Nat) (y : denS s0) : l0 (k + 1) y.1 y.2.1 y.2.2.1 y.2.2.2.1 = SS.ev d E O k [1, 1, 0, 1, 0, 0] s0 y := by rw [l0]; kernel_rfl
theorem e2 (k : Nat) (y : denS s2) : l2 (k + 1) y.1 y.2.1 = SS.ev d E O k [1, 1, 1, 0, 1, 0, 0] s2 y := by rw [l2]; kernel_rfl
theorem ok (k : Nat) : zU Tryz.prog (119, sig k) := fnP SS d E O sig (fun _ => rfl) Tryz.func119 (by kernel_rfl) rfl (fun k => ⟨yM.ok k, trivial⟩) ⟨fun _ => rfl, fun _ => rfl, fun _ => rfl, trivial⟩ (by kernel_rfl) (fun k => pc 1 rfl (e1 k) <| pc 0 rfl (e0 k) <| pc 2 rfl (e2 k) <| pn) (fun k x => by kernel_rfl) k
end zF
namespace zL
mutual
def j0 : Nat → Int → Option (List Int)
 | 0, _ => none
 | k + 1, a => l1 k a ([] : List Int)
def l1 : Nat → Int → (List Int) → Option (List Int)
 | 0, _, _ => none
 | k + 1, a2, out => if (decide (0 < a2)) = true then (if (out.length + ([a2.tmod 1000] : List Int).length) * 8 ≤ 140737488355328 then (l1 k (wrap64 (a2.tdiv 1000)) (out ++ ([a2.tmod 1000] : List Int))) else none) else (some out)
end
def f (k : Nat) (a0 : Int) : Option (List Int) := (zG.f k a0).bind fun r => if (decide (r < 0)) = true then (j0 k (wrap64 (-r))) else (j0 k r)
def sig (k : Nat) : Sig := .p [(false, (.i .i64))] [.c false y10] fun x => f k x.1
def E (k : Nat) : List (Nat × Sig) := [(72, zG.sig k)]
noncomputable def d : FD := ⟨120, Tryz.f120, 20, 20, [], [], [], [], [.tmp 2], .s .n (.s .n (.j 0 .n (.s .n (.s (.s (.l 1 .n) .n) .n))))⟩
abbrev s0 : Sh := [(0, .v (.i .i64))]
abbrev s1 : Sh := [(0, .v (.i .i64)), (3, .v y10)]
def O (k : Nat) : List (Orc (denR ([.c false y10]))) := [⟨s0, fun y => j0 k y.1⟩, ⟨s1, fun y => l1 k y.1 y.2.1⟩]
theorem e1 (k : Nat) (y : denS s1) : l1 (k + 1) y.1 y.2.1 = SS.ev d E O k [1, 1, 1, 1, 0, 0, 0] s1 y := by rw [l1]; kernel_rfl
theorem e0 (k : Nat) (y : denS s0) : j0 (k + 1) y.1 = SS.ev d E O k [1, 1, 1] s0 y := by rw [j0]; kernel_rfl
theorem ok (k : Nat) : zU Tryz.prog (120, sig k) := fnP SS d E O sig (fun _ => rfl) Tryz.func120 (by kernel_rfl) rfl (fun k => ⟨zG.ok k, trivial⟩) ⟨fun _ => rfl, fun _ => rfl, trivial⟩ (by kernel_rfl) (fun k => pc 1 rfl (e1 k) <| pc 0 rfl (e0 k) <| pn) (fun k x => by kernel_rfl) k
end zL
namespace zX
mutual
def l0 : Nat → (List Int) → (List Int) → Int → Option Int
 | 0, _, _, _ => none
 | k + 1, a, b, i => if (decide (0 ≤ i)) = true then (if 0 ≤ i ∧ i < (a.length : Int) then ((a[i.toNat]?).bind fun e => if 0 ≤ i ∧ i < (b.length : Int) then ((b[i.toNat]?).bind fun e2 => if (decide (e < e2)) = true then (some (-1)) else (if 0 ≤ i ∧ i < (a.length : Int) then ((a[i.toNat]?).bind fun e3 => if 0 ≤ i ∧ i < (b.length : Int) then ((b[i.toNat]?).bind fun e4 => if (decide (e4 < e3)) = true then (some 1) else (l0 k a b (wrap64 (i - 1)))) else none) else none)) else none) else none) else (some 0)
end
def f (k : Nat) (a0 : (List Int)) (a1 : (List Int)) : Option Int := (yM.f k a0).bind fun r => (yM.f k a1).bind fun r2 => if (!decide ((r.length : Int) = (r2.length : Int))) = true then (if (decide ((r.length : Int) < (r2.length : Int))) = true then (some (-1)) else (some 1)) else (l0 k r r2 (wrap64 ((r.length : Int) - 1)))
def sig (k : Nat) : Sig := .p [(false, y37), (false, y37)] [.c false (.i .i64)] fun x => f k x.1 x.2.1
def E (k : Nat) : List (Nat × Sig) := [(132, yM.sig k)]
noncomputable def d : FD := ⟨121, Tryz.f121, 45, 45, [], [], [], [], [.tmp 4], .s .n (.s .n (.s .n (.s (.s .n (.s (.l 0 .n) .n)) .n)))⟩
abbrev s0 : Sh := [(0, .v y10), (1, .v y10), (5, .v (.i .i64))]
def O (k : Nat) : List (Orc (denR ([.c false (.i .i64)]))) := [⟨s0, fun y => l0 k y.1 y.2.1 y.2.2.1⟩]
theorem e0 (k : Nat) (y : denS s0) : l0 (k + 1) y.1 y.2.1 y.2.2.1 = SS.ev d E O k [1, 1, 1, 0, 1, 0, 0] s0 y := by rw [l0]; kernel_rfl
theorem ok (k : Nat) : zU Tryz.prog (121, sig k) := fnP SS d E O sig (fun _ => rfl) Tryz.func121 (by kernel_rfl) rfl (fun k => ⟨yM.ok k, trivial⟩) ⟨fun _ => rfl, trivial⟩ (by kernel_rfl) (fun k => pc 0 rfl (e0 k) <| pn) (fun k x => by kernel_rfl) k
end zX
namespace wB
mutual
def l0 : Nat → (List Int) → (List Int) → Int → Int → Option (Int × Bool)
 | 0, _, _, _, _ => none
 | k + 1, a, b, low, high => if (decide (low < high)) = true then ((zL.f k (wrap64 (low + (wrap64 ((wrap64 ((wrap64 (high - low)) + 1)).tdiv 2))))).bind fun r => (zF.f k r b).bind fun r2 => (zX.f k r2 a).bind fun r3 => if (decide (r3 ≤ 0)) = true then (l0 k a b (wrap64 (low + (wrap64 ((wrap64 ((wrap64 (high - low)) + 1)).tdiv 2)))) high) else (l0 k a b low (wrap64 ((wrap64 (low + (wrap64 ((wrap64 ((wrap64 (high - low)) + 1)).tdiv 2)))) - 1)))) else ((zL.f k low).bind fun r4 => (zF.f k r4 b).bind fun r5 => (zX.f k r5 a).bind fun r6 => some (low, decide (r6 = 0)))
end
def f (k : Nat) (a0 : (List Int)) (a1 : (List Int)) : Option (Int × Bool) := l0 k a0 a1 0 1152921504606846976
def sig (k : Nat) : Sig := .p [(false, y37), (false, y37)] [.c false (.i .i64), .c false .b] fun x => f k x.1 x.2.1
def E (k : Nat) : List (Nat × Sig) := [(119, zF.sig k), (120, zL.sig k), (121, zX.sig k)]
noncomputable def d : FD := ⟨122, Tryz.f122, 37, 37, [], [], [], [], [.tmp 4, .tmp 5], .s .n (.s .n (.s (.s (.l 0 .n) .n) .n))⟩
abbrev s0 : Sh := [(0, .v y37), (1, .v y37), (6, .v (.i .i64)), (7, .v (.i .i64))]
def O (k : Nat) : List (Orc (denR ([.c false (.i .i64), .c false .b]))) := [⟨s0, fun y => l0 k y.1 y.2.1 y.2.2.1 y.2.2.2.1⟩]
theorem e0 (k : Nat) (y : denS s0) : l0 (k + 1) y.1 y.2.1 y.2.2.1 y.2.2.2.1 = SS.ev d E O k [1, 1, 0, 0, 0] s0 y := by rw [l0]; kernel_rfl
theorem ok (k : Nat) : zU Tryz.prog (122, sig k) := fnP SS d E O sig (fun _ => rfl) Tryz.func122 (by kernel_rfl) rfl (fun k => ⟨zF.ok k, zL.ok k, zX.ok k, trivial⟩) ⟨fun _ => rfl, trivial⟩ (by kernel_rfl) (fun k => pc 0 rfl (e0 k) <| pn) (fun k x => by kernel_rfl) k
end wB
namespace qA
def f (k : Nat) (a0 : Int) (a1 : Int) : Option Int := (zG.f k a0).bind fun r => (zG.f k a1).bind fun r2 => if (decide (r ≤ 0)) = true then (some 0) else (if (decide (r2 ≤ 0)) = true then (some 10000) else ((zL.f k r).bind fun r3 => (zL.f k r).bind fun r4 => (zF.f k r3 r4).bind fun r5 => (zL.f k r).bind fun r6 => (zF.f k r5 r6).bind fun r7 => (zL.f k 100).bind fun r8 => (zF.f k r7 r8).bind fun r9 => (zL.f k r2).bind fun r10 => (zL.f k r2).bind fun r11 => (zF.f k r10 r11).bind fun r12 => (zL.f k r2).bind fun r13 => (zF.f k r12 r13).bind fun r14 => (zL.f k 10000).bind fun r15 => (zF.f k r14 r15).bind fun r16 => (zX.f k r16 r9).bind fun r17 => if (decide (r17 ≤ 0)) = true then (some 10000) else ((wB.f k r9 r14).bind fun r18 => some r18.1)))
def sig (k : Nat) : Sig := .p [(false, (.i .i64)), (false, (.i .i64))] [.c false (.i .i64)] fun x => f k x.1 x.2.1
def E (k : Nat) : List (Nat × Sig) := [(72, zG.sig k), (119, zF.sig k), (120, zL.sig k), (121, zX.sig k), (122, wB.sig k)]
noncomputable def d : FD := ⟨102, Tryz.f102, 48, 48, [], [], [], [], [.tmp 4], .n⟩
def O (k : Nat) : List (Orc (denR ([.c false (.i .i64)]))) := []
theorem ok (k : Nat) : zU Tryz.prog (102, sig k) := fnP SS d E O sig (fun _ => rfl) Tryz.func102 (by kernel_rfl) rfl (fun k => ⟨zG.ok k, zF.ok k, zL.ok k, zX.ok k, wB.ok k, trivial⟩) trivial (by kernel_rfl) (fun _ => pn) (fun k x => by kernel_rfl) k
end qA
namespace xY
mutual
def j0 : Nat → Int → Int → Option Int
 | 0, _, _ => none
 | k + 1, a, b => if (decide (b < 0)) = true then (j1 k a (wrap64 (-b))) else (j1 k a b)
def j1 : Nat → Int → Int → Option Int
 | 0, _, _ => none
 | k + 1, a2, b2 => l2 k a2 b2
def l2 : Nat → Int → Int → Option Int
 | 0, _, _ => none
 | k + 1, a3, b3 => if (!decide (b3 = 0)) = true then (if b3 ≠ 0 then (l2 k b3 (a3.tmod b3)) else none) else (some a3)
end
def f (k : Nat) (a0 : Int) (a1 : Int) : Option Int := (zG.f k a0).bind fun r => (zG.f k a1).bind fun r2 => if (decide (r < 0)) = true then (j0 k (wrap64 (-r)) r2) else (j0 k r r2)
def sig (k : Nat) : Sig := .p [(false, (.i .i64)), (false, (.i .i64))] [.c false (.i .i64)] fun x => f k x.1 x.2.1
def E (k : Nat) : List (Nat × Sig) := [(72, zG.sig k)]
noncomputable def d : FD := ⟨123, Tryz.f123, 24, 24, [], [], [], [], [.tmp 4], .s .n (.s .n (.j 0 .n (.j 1 .n (.s (.s (.l 2 .n) .n) .n))))⟩
abbrev s0 : Sh := [(0, .v (.i .i64)), (1, .v (.i .i64))]
abbrev s1 : Sh := [(0, .v (.i .i64)), (1, .v (.i .i64))]
abbrev s2 : Sh := [(0, .v (.i .i64)), (1, .v (.i .i64))]
def O (k : Nat) : List (Orc (denR ([.c false (.i .i64)]))) := [⟨s0, fun y => j0 k y.1 y.2.1⟩, ⟨s1, fun y => j1 k y.1 y.2.1⟩, ⟨s2, fun y => l2 k y.1 y.2.1⟩]
theorem e2 (k : Nat) (y : denS s2) : l2 (k + 1) y.1 y.2.1 = SS.ev d E O k [1, 1, 1, 1, 0, 0, 0] s2 y := by rw [l2]; kernel_rfl
theorem e1 (k : Nat) (y : denS s1) : j1 (k + 1) y.1 y.2.1 = SS.ev d E O k [1, 1, 1, 1] s1 y := by rw [j1]; kernel_rfl
theorem e0 (k : Nat) (y : denS s0) : j0 (k + 1) y.1 y.2.1 = SS.ev d E O k [1, 1, 1] s0 y := by rw [j0]; kernel_rfl
theorem ok (k : Nat) : zU Tryz.prog (123, sig k) := fnP SS d E O sig (fun _ => rfl) Tryz.func123 (by kernel_rfl) rfl (fun k => ⟨zG.ok k, trivial⟩) ⟨fun _ => rfl, fun _ => rfl, fun _ => rfl, trivial⟩ (by kernel_rfl) (fun k => pc 2 rfl (e2 k) <| pc 1 rfl (e1 k) <| pc 0 rfl (e0 k) <| pn) (fun k x => by kernel_rfl) k
end xY
namespace wU
mutual
def j0 : Nat → Int → Int → Int → Option (Int × Int)
 | 0, _, _, _ => none
 | k + 1, a, b, g => if g ≠ 0 then (if g ≠ 0 then (some (wrap64 (a.tdiv g), wrap64 (b.tdiv g))) else none) else none
end
def f (k : Nat) (a0 : Int) (a1 : Int) : Option (Int × Int) := (zG.f k a0).bind fun r => (zG.f k a1).bind fun r2 => if (decide (r2 = 0)) = true then (some (0, 1)) else ((xY.f k r r2).bind fun r3 => if (decide (r2 < 0)) = true then (j0 k r r2 (wrap64 (-r3))) else (j0 k r r2 r3))
def sig (k : Nat) : Sig := .p [(false, (.i .i64)), (false, (.i .i64))] [.c false (.i .i64), .c false (.i .i64)] fun x => f k x.1 x.2.1
def E (k : Nat) : List (Nat × Sig) := [(72, zG.sig k), (123, xY.sig k)]
noncomputable def d : FD := ⟨103, Tryz.f103, 26, 26, [], [], [], [], [.tmp 4, .tmp 5], .s .n (.s .n (.s .n (.s .n (.j 0 .n .n))))⟩
abbrev s0 : Sh := [(0, .v (.i .i64)), (1, .v (.i .i64)), (6, .v (.i .i64))]
def O (k : Nat) : List (Orc (denR ([.c false (.i .i64), .c false (.i .i64)]))) := [⟨s0, fun y => j0 k y.1 y.2.1 y.2.2.1⟩]
theorem e0 (k : Nat) (y : denS s0) : j0 (k + 1) y.1 y.2.1 y.2.2.1 = SS.ev d E O k [1, 1, 1, 1, 1] s0 y := by rw [j0]; kernel_rfl
theorem ok (k : Nat) : zU Tryz.prog (103, sig k) := fnP SS d E O sig (fun _ => rfl) Tryz.func103 (by kernel_rfl) rfl (fun k => ⟨zG.ok k, xY.ok k, trivial⟩) ⟨fun _ => rfl, trivial⟩ (by kernel_rfl) (fun k => pc 0 rfl (e0 k) <| pn) (fun k x => by kernel_rfl) k
end wU
namespace vY
def f (k : Nat) (a0 : Int) (a1 : Bool) : Option Int := if (decide (a0 ≤ 12)) = true then (some 1) else (if (!a1) = true then (some 0) else (if (decide (99 < a0)) = true then (some 3) else (some 2)))
def sig (k : Nat) : Sig := .p [(false, (.i .i64)), (false, .b)] [.c false (.i .i64)] fun x => f k x.1 x.2.1
def E (k : Nat) : List (Nat × Sig) := []
noncomputable def d : FD := ⟨104, Tryz.f104, 11, 11, [], [], [], [], [.tmp 4], .n⟩
def O (k : Nat) : List (Orc (denR ([.c false (.i .i64)]))) := []
theorem ok (k : Nat) : zU Tryz.prog (104, sig k) := fnP SS d E O sig (fun _ => rfl) Tryz.func104 (by kernel_rfl) rfl (fun k => trivial) trivial (by kernel_rfl) (fun _ => pn) (fun k x => by kernel_rfl) k
end vY
namespace vB
mutual
def j0 : Nat → Int → zB → wC → Option wC
 | 0, _, _, _ => none
 | k + 1, t, t2, t3 => if (decide (0 < t)) = true then ((qA.f k t t2.2.1).bind fun r => (wU.f k t t2.2.1).bind fun r2 => (vY.f k r true).bind fun r3 => some (r2.1, r2.2, r, r3, (false))) else ((qA.f k (wrap64 (-t)) t2.2.2.1).bind fun r4 => (wU.f k t t2.2.2.1).bind fun r5 => (vY.f k r4 false).bind fun r6 => if (decide (t2.2.2.1 < (wrap64 (-t)))) = true then (if (decide (0 < t2.2.2.1)) = true then (some ((-1), 1, 10000, 0, (true))) else (some (0, 1, 10000, 0, (true)))) else (some (r5.1, r5.2, r4, r6, (false))))
end
def f (k : Nat) (a0 : zB) (a1 : Int) : Option wC := if (decide ((wrap64 (a1 - a0.1)) = 0)) = true then (some (0, 1, 0, 1, (false))) else (if (decide (0 < (wrap64 (a1 - a0.1)))) = true then (if (decide (0 < a0.2.2.2)) = true then (some (0, 1, 0, 1, (false))) else (j0 k (wrap64 (a1 - a0.1)) a0 (0, 0, 0, 0, (false)))) else (j0 k (wrap64 (a1 - a0.1)) a0 (0, 0, 0, 0, (false))))
def sig (k : Nat) : Sig := .p [(true, y53), (false, (.i .i64))] [.c true y52] fun x => f k x.1 x.2.1
def E (k : Nat) : List (Nat × Sig) := [(102, qA.sig k), (103, wU.sig k), (104, vY.sig k)]
noncomputable def d : FD := ⟨73, Tryz.f73, 74, 88, [(2, 74, 4), (4, 78, 5), (6, 83, 5)], [], [], [], [.cell 4 92], .s .n (.s .n (.j 0 .n .n))⟩
abbrev s0 : Sh := [(2, .at_ 74), (4, .at_ 78), (5, .v (.i .i64)), (74, .box y53), (78, .box y52)]
def O (k : Nat) : List (Orc (denR ([.c true y52]))) := [⟨s0, fun y => j0 k y.2.2.1 y.2.2.2.1 y.2.2.2.2.1⟩]
theorem e0 (k : Nat) (y : denS s0) : j0 (k + 1) y.2.2.1 y.2.2.2.1 y.2.2.2.2.1 = SS.ev d E O k [1, 1, 1] s0 y := by rw [j0]; kernel_rfl
theorem ok (k : Nat) : zU Tryz.prog (73, sig k) := fnP SS d E O sig (fun _ => rfl) Tryz.func73 (by kernel_rfl) rfl (fun k => ⟨qA.ok k, wU.ok k, vY.ok k, trivial⟩) ⟨fun _ => rfl, trivial⟩ (by kernel_rfl) (fun k => pc 0 rfl (e0 k) <| pn) (fun k x => by kernel_rfl) k
end vB
namespace yX
def f (k : Nat) (a0 : (List zA)) (a1 : Int) (a2 : Int) (a3 : Int) : Option wC := (uX.f k a0 a1 a2).bind fun r => (vB.f k r a3).bind fun r2 => some r2
def sig (k : Nat) : Sig := .p [(false, y28), (false, (.i .i64)), (false, (.i .i64)), (false, (.i .i64))] [.c true y52] fun x => f k x.1 x.2.1 x.2.2.1 x.2.2.2.1
def E (k : Nat) : List (Nat × Sig) := [(22, uX.sig k), (73, vB.sig k)]
noncomputable def d : FD := ⟨39, Tryz.f39, 15, 20, [(8, 15, 5)], [], [], [], [.cell 8 92], .n⟩
def O (k : Nat) : List (Orc (denR ([.c true y52]))) := []
theorem ok (k : Nat) : zU Tryz.prog (39, sig k) := fnP SS d E O sig (fun _ => rfl) Tryz.func39 (by kernel_rfl) rfl (fun k => ⟨uX.ok k, vB.ok k, trivial⟩) trivial (by kernel_rfl) (fun _ => pn) (fun k x => by kernel_rfl) k
end yX
namespace xW
mutual
def j0 : Nat → (List zA) → (List Int) → Int → Int → Int → Bool → Int → zD → Option Bool
 | 0, _, _, _, _, _, _, _, _ => none
 | k + 1, l, ends, i, k_, width, emergency, a, s => (at? ends k_).bind fun e2 => (yX.f k l a e2 width).bind fun r => if emergency = true then (if (!r.2.2.2.2) = true then (some true) else (some (decide (k_ = (wrap64 (i + 1)))))) else (if (!r.2.2.2.2) = true then (some (decide (r.2.2.1 ≤ s.1))) else (some false))
end
def f (k : Nat) (a0 : (List zA)) (a1 : (List Int)) (a2 : Int) (a3 : Int) (a4 : Int) (a5 : zD) (a6 : Bool) : Option Bool := if (decide (0 ≤ a2)) = true then ((at? a1 a2).bind fun e => j0 k a0 a1 a2 a3 a4 a6 e a5) else (j0 k a0 a1 a2 a3 a4 a6 (-1) a5)
def sig (k : Nat) : Sig := .p [(false, y28), (false, y37), (false, (.i .i64)), (false, (.i .i64)), (false, (.i .i64)), (true, y92), (false, .b)] [.c false .b] fun x => f k x.1 x.2.1 x.2.2.1 x.2.2.2.1 x.2.2.2.2.1 x.2.2.2.2.2.1 x.2.2.2.2.2.2.1
def E (k : Nat) : List (Nat × Sig) := [(39, yX.sig k)]
noncomputable def d : FD := ⟨38, Tryz.f38, 51, 63, [(12, 51, 7), (16, 58, 5)], [], [], [], [.tmp 14], .s .n (.s .n (.j 0 .n .n))⟩
abbrev s0 : Sh := [(0, .v y28), (1, .v y37), (2, .v (.i .i64)), (3, .v (.i .i64)), (4, .v (.i .i64)), (6, .v .b), (12, .at_ 51), (15, .v (.i .i64)), (51, .box y92)]
def O (k : Nat) : List (Orc (denR ([.c false .b]))) := [⟨s0, fun y => j0 k y.1 y.2.1 y.2.2.1 y.2.2.2.1 y.2.2.2.2.1 y.2.2.2.2.2.1 y.2.2.2.2.2.2.2.1 y.2.2.2.2.2.2.2.2.1⟩]
theorem e0 (k : Nat) (y : denS s0) : j0 (k + 1) y.1 y.2.1 y.2.2.1 y.2.2.2.1 y.2.2.2.2.1 y.2.2.2.2.2.1 y.2.2.2.2.2.2.2.1 y.2.2.2.2.2.2.2.2.1 = SS.ev d E O k [1, 1, 1] s0 y := by rw [j0]; kernel_rfl
theorem ok (k : Nat) : zU Tryz.prog (38, sig k) := fnP SS d E O sig (fun _ => rfl) Tryz.func38 (by kernel_rfl) rfl (fun k => ⟨yX.ok k, trivial⟩) ⟨fun _ => rfl, trivial⟩ (by kernel_rfl) (fun k => pc 0 rfl (e0 k) <| pn) (fun k x => by kernel_rfl) k
end xW
namespace uZ
def f (k : Nat) (a0 : Int) (a1 : Int) : Option Int := (zV.f k a0 a1).bind fun r => some (if 1125899906842624 < r then 1125899906842624 else r)
def sig (k : Nat) : Sig := .p [(false, (.i .i64)), (false, (.i .i64))] [.c false (.i .i64)] fun x => f k x.1 x.2.1
def E (k : Nat) : List (Nat × Sig) := [(34, zV.sig k)]
noncomputable def d : FD := ⟨40, Tryz.f40, 9, 9, [], [], [], [], [.tmp 4], .n⟩
def O (k : Nat) : List (Orc (denR ([.c false (.i .i64)]))) := []
theorem ok (k : Nat) : zU Tryz.prog (40, sig k) := fnP SS d E O sig (fun _ => rfl) Tryz.func40 (by kernel_rfl) rfl (fun k => ⟨zV.ok k, trivial⟩) trivial (by kernel_rfl) (fun _ => pn) (fun k x => by kernel_rfl) k
end uZ
namespace vF
mutual
def l0 : Nat → (List Int) → Int → Int → Option Int
 | 0, _, _, _ => none
 | k + 1, a, n, i => if (decide (0 ≤ i)) = true then ((at? a i).bind fun e => l0 k a (wrap64 ((wrap64 (n * 1000)) + e)) (wrap64 (i - 1))) else (some n)
end
def f (k : Nat) (a0 : (List Int)) : Option Int := (zL.f k 1152921504606846976).bind fun r => (zX.f k a0 r).bind fun r2 => if (decide (0 ≤ r2)) = true then (some 1152921504606846976) else (l0 k a0 0 (wrap64 ((a0.length : Int) - 1)))
def sig (k : Nat) : Sig := .p [(false, y37)] [.c false (.i .i64)] fun x => f k x.1
def E (k : Nat) : List (Nat × Sig) := [(120, zL.sig k), (121, zX.sig k)]
noncomputable def d : FD := ⟨124, Tryz.f124, 24, 24, [], [], [], [], [.tmp 2], .s .n (.s .n (.s .n (.s (.s .n (.s (.l 0 .n) .n)) .n)))⟩
abbrev s0 : Sh := [(0, .v y37), (3, .v (.i .i64)), (4, .v (.i .i64))]
def O (k : Nat) : List (Orc (denR ([.c false (.i .i64)]))) := [⟨s0, fun y => l0 k y.1 y.2.1 y.2.2.1⟩]
theorem e0 (k : Nat) (y : denS s0) : l0 (k + 1) y.1 y.2.1 y.2.2.1 = SS.ev d E O k [1, 1, 1, 0, 1, 0, 0] s0 y := by rw [l0]; kernel_rfl
theorem ok (k : Nat) : zU Tryz.prog (124, sig k) := fnP SS d E O sig (fun _ => rfl) Tryz.func124 (by kernel_rfl) rfl (fun k => ⟨zL.ok k, zX.ok k, trivial⟩) ⟨fun _ => rfl, trivial⟩ (by kernel_rfl) (fun k => pc 0 rfl (e0 k) <| pn) (fun k x => by kernel_rfl) k
end vF
namespace uF
def f (k : Nat) (a0 : Int) (a1 : Int) : Option Int := (zG.f k a0).bind fun r => (zG.f k a1).bind fun r2 => (zL.f k r).bind fun r3 => (zL.f k r2).bind fun r4 => (zF.f k r3 r4).bind fun r5 => (vF.f k r5).bind fun r6 => if (decide (r < 0)) = true then (if (decide (0 < r2)) = true then (some (wrap64 (-r6))) else (if (decide (0 < r)) = true then (if (decide (r2 < 0)) = true then (some (wrap64 (-r6))) else (some r6)) else (some r6))) else (if (decide (0 < r)) = true then (if (decide (r2 < 0)) = true then (some (wrap64 (-r6))) else (some r6)) else (some r6))
def sig (k : Nat) : Sig := .p [(false, (.i .i64)), (false, (.i .i64))] [.c false (.i .i64)] fun x => f k x.1 x.2.1
def E (k : Nat) : List (Nat × Sig) := [(72, zG.sig k), (119, zF.sig k), (120, zL.sig k), (124, vF.sig k)]
noncomputable def d : FD := ⟨105, Tryz.f105, 33, 33, [], [], [], [], [.tmp 4], .n⟩
def O (k : Nat) : List (Orc (denR ([.c false (.i .i64)]))) := []
theorem ok (k : Nat) : zU Tryz.prog (105, sig k) := fnP SS d E O sig (fun _ => rfl) Tryz.func105 (by kernel_rfl) rfl (fun k => ⟨zG.ok k, zF.ok k, zL.ok k, vF.ok k, trivial⟩) trivial (by kernel_rfl) (fun _ => pn) (fun k x => by kernel_rfl) k
end uF
namespace wP
mutual
def j0 : Nat → Int → Option Int
 | 0, _ => none
 | k + 1, d => if (decide (d < 0)) = true then (some 0) else (some d)
end
def f (k : Nat) (a0 : Int) (a1 : Int) (a2 : Int) : Option Int := (zV.f k a0 a1).bind fun r => (uF.f k r r).bind fun r2 => if (decide (0 ≤ a2)) = true then ((uF.f k a2 a2).bind fun r3 => (zV.f k r2 r3).bind fun r4 => j0 k r4) else (if (decide ((-10000) < a2)) = true then ((uF.f k a2 a2).bind fun r5 => (zV.f k r2 (wrap64 (-r5))).bind fun r6 => j0 k r6) else (j0 k r2))
def sig (k : Nat) : Sig := .p [(false, (.i .i64)), (false, (.i .i64)), (false, (.i .i64))] [.c false (.i .i64)] fun x => f k x.1 x.2.1 x.2.2.1
def E (k : Nat) : List (Nat × Sig) := [(34, zV.sig k), (105, uF.sig k)]
noncomputable def d : FD := ⟨74, Tryz.f74, 33, 33, [], [], [], [], [.tmp 6], .s .n (.s .n (.s .n (.j 0 .n .n)))⟩
abbrev s0 : Sh := [(8, .v (.i .i64))]
def O (k : Nat) : List (Orc (denR ([.c false (.i .i64)]))) := [⟨s0, fun y => j0 k y.1⟩]
theorem e0 (k : Nat) (y : denS s0) : j0 (k + 1) y.1 = SS.ev d E O k [1, 1, 1, 1] s0 y := by rw [j0]; kernel_rfl
theorem ok (k : Nat) : zU Tryz.prog (74, sig k) := fnP SS d E O sig (fun _ => rfl) Tryz.func74 (by kernel_rfl) rfl (fun k => ⟨zV.ok k, uF.ok k, trivial⟩) ⟨fun _ => rfl, trivial⟩ (by kernel_rfl) (fun k => pc 0 rfl (e0 k) <| pn) (fun k x => by kernel_rfl) k
end wP
namespace xK
mutual
def j0 : Nat → Bool → Bool → Int → zD → zA → Option Int
 | 0, _, _, _, _, _ => none
 | k + 1, flag, last, d, s, end_ => if flag = true then (if end_.2.2.2.2.2.2.1 = true then ((zV.f k d s.2.2.2.1).bind fun r6 => j1 k flag last r6 s) else (j1 k flag last d s)) else (j1 k flag last d s)
def j1 : Nat → Bool → Bool → Int → zD → Option Int
 | 0, _, _, _, _ => none
 | k + 1, flag2, last2, d2, s2 => if flag2 = true then (if last2 = true then ((zV.f k d2 s2.2.2.2.2.1).bind fun r7 => j2 k r7) else (j2 k d2)) else (j2 k d2)
def j2 : Nat → Int → Option Int
 | 0, _ => none
 | k + 1, d3 => some (if 1125899906842624 < d3 then 1125899906842624 else d3)
end
def f (k : Nat) (a0 : zD) (a1 : wC) (a2 : zA) (a3 : Int) (a4 : Bool) (a5 : Bool) : Option Int := if a1.2.2.2.2 = true then (some 1125899906842624) else ((wP.f k a0.2.1 a1.2.2.1 a2.2.2.2.2.2.1).bind fun r => if (decide (0 ≤ a3)) = true then ((zV.f k a3 1).bind fun r2 => if (decide (r2 < a1.2.2.2.1)) = true then ((zV.f k r a0.2.2.1).bind fun r3 => j0 k a4 a5 r3 a0 a2) else ((zV.f k a1.2.2.2.1 1).bind fun r4 => if (decide (r4 < a3)) = true then ((zV.f k r a0.2.2.1).bind fun r5 => j0 k a4 a5 r5 a0 a2) else (j0 k a4 a5 r a0 a2))) else (j0 k a4 a5 r a0 a2))
def sig (k : Nat) : Sig := .p [(true, y92), (true, y52), (true, y27), (false, (.i .i64)), (false, .b), (false, .b)] [.c false (.i .i64)] fun x => f k x.1 x.2.1 x.2.2.1 x.2.2.2.1 x.2.2.2.2.1 x.2.2.2.2.2.1
def E (k : Nat) : List (Nat × Sig) := [(34, zV.sig k), (74, wP.sig k)]
noncomputable def d : FD := ⟨41, Tryz.f41, 62, 83, [(6, 62, 7), (7, 69, 5), (8, 74, 9)], [], [], [], [.tmp 12], .s .n (.s .n (.s .n (.j 0 .n (.j 1 .n (.j 2 .n .n)))))⟩
abbrev s0 : Sh := [(4, .v .b), (5, .v .b), (6, .at_ 62), (8, .at_ 74), (13, .v (.i .i64)), (62, .box y92), (74, .box y27)]
abbrev s1 : Sh := [(4, .v .b), (5, .v .b), (6, .at_ 62), (13, .v (.i .i64)), (62, .box y92)]
abbrev s2 : Sh := [(13, .v (.i .i64))]
def O (k : Nat) : List (Orc (denR ([.c false (.i .i64)]))) := [⟨s0, fun y => j0 k y.1 y.2.1 y.2.2.2.2.1 y.2.2.2.2.2.1 y.2.2.2.2.2.2.1⟩, ⟨s1, fun y => j1 k y.1 y.2.1 y.2.2.2.1 y.2.2.2.2.1⟩, ⟨s2, fun y => j2 k y.1⟩]
theorem e2 (k : Nat) (y : denS s2) : j2 (k + 1) y.1 = SS.ev d E O k [1, 1, 1, 1, 1, 1] s2 y := by rw [j2]; kernel_rfl
theorem e1 (k : Nat) (y : denS s1) : j1 (k + 1) y.1 y.2.1 y.2.2.2.1 y.2.2.2.2.1 = SS.ev d E O k [1, 1, 1, 1, 1] s1 y := by rw [j1]; kernel_rfl
theorem e0 (k : Nat) (y : denS s0) : j0 (k + 1) y.1 y.2.1 y.2.2.2.2.1 y.2.2.2.2.2.1 y.2.2.2.2.2.2.1 = SS.ev d E O k [1, 1, 1, 1] s0 y := by rw [j0]; kernel_rfl
theorem ok (k : Nat) : zU Tryz.prog (41, sig k) := fnP SS d E O sig (fun _ => rfl) Tryz.func41 (by kernel_rfl) rfl (fun k => ⟨zV.ok k, wP.ok k, trivial⟩) ⟨fun _ => rfl, fun _ => rfl, fun _ => rfl, trivial⟩ (by kernel_rfl) (fun k => pc 2 rfl (e2 k) <| pc 1 rfl (e1 k) <| pc 0 rfl (e0 k) <| pn) (fun k x => by kernel_rfl) k
end xK
namespace zN
mutual
def l0 : Nat → (List zA) → (List Int) → Int → Bool → (List Int) → Int → Int → Bool → Int → Int → zD → Option (Int × Bool)
 | 0, _, _, _, _, _, _, _, _, _, _, _ => none
 | k + 1, t, t2, t3, t4, t5, t6, t7, t8, t9, t10, t11 => if (decide (t10 < (t2.length : Int))) = true then ((at? t2 t10).bind fun e => (wL.f k t5 e).bind fun r2 => if (decide (r2 ≤ t9)) = true then (some (0, false)) else ((xW.f k t t5 t9 r2 t3 t11 t4).bind fun r3 => if (!r3) = true then (some (0, false)) else (j1 k t t2 t3 t4 t5 t6 t7 t8 t9 t10 r2 t11))) else (some (t6, decide (t9 = (wrap64 ((t5.length : Int) - 1)))))
def j1 : Nat → (List zA) → (List Int) → Int → Bool → (List Int) → Int → Int → Bool → Int → Int → Int → zD → Option (Int × Bool)
 | 0, _, _, _, _, _, _, _, _, _, _, _, _ => none
 | k + 1, t12, t13, t14, t15, t16, t17, t18, t19, t20, t21, t22, t23 => l2 k t12 t13 t14 t15 t16 t17 t18 t19 t20 t21 t22 (wrap64 (t20 + 1)) t23
def l2 : Nat → (List zA) → (List Int) → Int → Bool → (List Int) → Int → Int → Bool → Int → Int → Int → Int → zD → Option (Int × Bool)
 | 0, _, _, _, _, _, _, _, _, _, _, _, _, _ => none
 | k + 1, t24, t25, t26, t27, t28, t29, t30, t31, t32, t33, t34, t35, t36 => if (decide (t35 < t34)) = true then (if 0 ≤ t35 ∧ t35 < (t28.length : Int) then ((t28[t35.toNat]?).bind fun e2 => (at? t24 e2).bind fun e3 => (xE.f k e3).bind fun r4 => if r4 = true then (some (0, false)) else (l2 k t24 t25 t26 t27 t28 t29 t30 t31 t32 t33 t34 (wrap64 (t35 + 1)) t36)) else none) else (if (decide (0 ≤ t32)) = true then (if 0 ≤ t32 ∧ t32 < (t28.length : Int) then ((t28[t32.toNat]?).bind fun e4 => j3 k t24 t25 t26 t27 t28 t29 t30 t31 t33 t34 e4 t36) else none) else (j3 k t24 t25 t26 t27 t28 t29 t30 t31 t33 t34 (-1) t36))
def j3 : Nat → (List zA) → (List Int) → Int → Bool → (List Int) → Int → Int → Bool → Int → Int → Int → zD → Option (Int × Bool)
 | 0, _, _, _, _, _, _, _, _, _, _, _, _ => none
 | k + 1, t37, t38, t39, t40, t41, t42, t43, t44, t45, t46, t47, t48 => (at? t38 t45).bind fun e5 => (yX.f k t37 t47 e5 t39).bind fun r5 => (at? t38 t45).bind fun e6 => (at? t37 e6).bind fun e7 => (xK.f k t48 r5 e7 t43 t44 (decide (t46 = (wrap64 ((t41.length : Int) - 1))))).bind fun r6 => (uZ.f k t42 r6).bind fun r7 => l0 k t37 t38 t39 t40 t41 r7 r5.2.2.2.1 e7.2.2.2.2.2.2.1 t46 (wrap64 (t45 + 1)) t48
end
def f (k : Nat) (a0 : (List zA)) (a1 : (List Int)) (a2 : Int) (a3 : zD) (a4 : Bool) : Option (Int × Bool) := (yC.f k a0).bind fun r => l0 k a0 a1 a2 a4 r 0 (-1) false (-1) 0 a3
def sig (k : Nat) : Sig := .p [(false, y28), (false, y37), (false, (.i .i64)), (true, y92), (false, .b)] [.c false (.i .i64), .c false .b] fun x => f k x.1 x.2.1 x.2.2.1 x.2.2.2.1 x.2.2.2.2.1
def E (k : Nat) : List (Nat × Sig) := [(12, yC.sig k), (23, xE.sig k), (37, wL.sig k), (38, xW.sig k), (39, yX.sig k), (40, uZ.sig k), (41, xK.sig k)]
noncomputable def d : FD := ⟨11, Tryz.f11, 111, 132, [(8, 111, 7), (21, 118, 5), (22, 123, 9)], [], [], [], [.tmp 10, .tmp 11], .s .n (.s .n (.s .n (.s .n (.s (.s .n (.s (.l 0 (.s .n (.s (.s (.s .n (.j 1 .n (.s (.s .n (.s (.l 2 .n) .n)) (.s .n (.j 3 .n .n))))) .n) .n))) .n)) .n))))⟩
abbrev s0 : Sh := [(0, .v y28), (1, .v y37), (2, .v (.i .i64)), (4, .v .b), (8, .at_ 111), (12, .v y10), (13, .v (.i .i64)), (14, .v (.i .i64)), (15, .v .b), (16, .v (.i .i64)), (17, .v (.i .i64)), (111, .box y92)]
abbrev s1 : Sh := [(0, .v y28), (1, .v y37), (2, .v (.i .i64)), (4, .v .b), (8, .at_ 111), (12, .v y10), (13, .v (.i .i64)), (14, .v (.i .i64)), (15, .v .b), (16, .v (.i .i64)), (17, .v (.i .i64)), (18, .v (.i .i64)), (111, .box y92)]
abbrev s2 : Sh := [(0, .v y28), (1, .v y37), (2, .v (.i .i64)), (4, .v .b), (8, .at_ 111), (12, .v y10), (13, .v (.i .i64)), (14, .v (.i .i64)), (15, .v .b), (16, .v (.i .i64)), (17, .v (.i .i64)), (18, .v (.i .i64)), (19, .v (.i .i64)), (111, .box y92)]
abbrev s3 : Sh := [(0, .v y28), (1, .v y37), (2, .v (.i .i64)), (4, .v .b), (8, .at_ 111), (12, .v y10), (13, .v (.i .i64)), (14, .v (.i .i64)), (15, .v .b), (17, .v (.i .i64)), (18, .v (.i .i64)), (20, .v (.i .i64)), (111, .box y92)]
def O (k : Nat) : List (Orc (denR ([.c false (.i .i64), .c false .b]))) := [⟨s0, fun y => l0 k y.1 y.2.1 y.2.2.1 y.2.2.2.1 y.2.2.2.2.2.1 y.2.2.2.2.2.2.1 y.2.2.2.2.2.2.2.1 y.2.2.2.2.2.2.2.2.1 y.2.2.2.2.2.2.2.2.2.1 y.2.2.2.2.2.2.2.2.2.2.1 y.2.2.2.2.2.2.2.2.2.2.2.1⟩, ⟨s1, fun y => j1 k y.1 y.2.1 y.2.2.1 y.2.2.2.1 y.2.2.2.2.2.1 y.2.2.2.2.2.2.1 y.2.2.2.2.2.2.2.1 y.2.2.2.2.2.2.2.2.1 y.2.2.2.2.2.2.2.2.2.1 y.2.2.2.2.2.2.2.2.2.2.1 y.2.2.2.2.2.2.2.2.2.2.2.1 y.2.2.2.2.2.2.2.2.2.2.2.2.1⟩, ⟨s2, fun y => l2 k y.1 y.2.1 y.2.2.1 y.2.2.2.1 y.2.2.2.2.2.1 y.2.2.2.2.2.2.1 y.2.2.2.2.2.2.2.1 y.2.2.2.2.2.2.2.2.1 y.2.2.2.2.2.2.2.2.2.1 y.2.2.2.2.2.2.2.2.2.2.1 y.2.2.2.2.2.2.2.2.2.2.2.1 y.2.2.2.2.2.2.2.2.2.2.2.2.1 y.2.2.2.2.2.2.2.2.2.2.2.2.2.1⟩, ⟨s3, fun y => j3 k y.1 y.2.1 y.2.2.1 y.2.2.2.1 y.2.2.2.2.2.1 y.2.2.2.2.2.2.1 y.2.2.2.2.2.2.2.1 y.2.2.2.2.2.2.2.2.1 y.2.2.2.2.2.2.2.2.2.1 y.2.2.2.2.2.2.2.2.2.2.1 y.2.2.2.2.2.2.2.2.2.2.2.1 y.2.2.2.2.2.2.2.2.2.2.2.2.1⟩]
theorem e2 (k : Nat) (y : denS s2) : l2 (k + 1) y.1 y.2.1 y.2.2.1 y.2.2.2.1 y.2.2.2.2.2.1 y.2.2.2.2.2.2.1 y.2.2.2.2.2.2.2.1 y.2.2.2.2.2.2.2.2.1 y.2.2.2.2.2.2.2.2.2.1 y.2.2.2.2.2.2.2.2.2.2.1 y.2.2.2.2.2.2.2.2.2.2.2.1 y.2.2.2.2.2.2.2.2.2.2.2.2.1 y.2.2.2.2.2.2.2.2.2.2.2.2.2.1 = SS.ev d E O k [1, 1, 1, 1, 0, 1, 0, 0, 1, 0, 0, 1, 1, 0, 1, 0, 0] s2 y := by rw [l2]; kernel_rfl
theorem e3 (k : Nat) (y : denS s3) : j3 (k + 1) y.1 y.2.1 y.2.2.1 y.2.2.2.1 y.2.2.2.2.2.1 y.2.2.2.2.2.2.1 y.2.2.2.2.2.2.2.1 y.2.2.2.2.2.2.2.2.1 y.2.2.2.2.2.2.2.2.2.1 y.2.2.2.2.2.2.2.2.2.2.1 y.2.2.2.2.2.2.2.2.2.2.2.1 y.2.2.2.2.2.2.2.2.2.2.2.2.1 = SS.ev d E O k [1, 1, 1, 1, 0, 1, 0, 0, 1, 0, 0, 1, 1, 1, 1, 1] s3 y := by rw [j3]; kernel_rfl
theorem e1 (k : Nat) (y : denS s1) : j1 (k + 1) y.1 y.2.1 y.2.2.1 y.2.2.2.1 y.2.2.2.2.2.1 y.2.2.2.2.2.2.1 y.2.2.2.2.2.2.2.1 y.2.2.2.2.2.2.2.2.1 y.2.2.2.2.2.2.2.2.2.1 y.2.2.2.2.2.2.2.2.2.2.1 y.2.2.2.2.2.2.2.2.2.2.2.1 y.2.2.2.2.2.2.2.2.2.2.2.2.1 = SS.ev d E O k [1, 1, 1, 1, 0, 1, 0, 0, 1, 0, 0, 1, 1] s1 y := by rw [j1]; kernel_rfl
theorem e0 (k : Nat) (y : denS s0) : l0 (k + 1) y.1 y.2.1 y.2.2.1 y.2.2.2.1 y.2.2.2.2.2.1 y.2.2.2.2.2.2.1 y.2.2.2.2.2.2.2.1 y.2.2.2.2.2.2.2.2.1 y.2.2.2.2.2.2.2.2.2.1 y.2.2.2.2.2.2.2.2.2.2.1 y.2.2.2.2.2.2.2.2.2.2.2.1 = SS.ev d E O k [1, 1, 1, 1, 0, 1, 0, 0] s0 y := by rw [l0]; kernel_rfl
theorem ok (k : Nat) : zU Tryz.prog (11, sig k) := fnP SS d E O sig (fun _ => rfl) Tryz.func11 (by kernel_rfl) rfl (fun k => ⟨yC.ok k, xE.ok k, wL.ok k, xW.ok k, yX.ok k, uZ.ok k, xK.ok k, trivial⟩) ⟨fun _ => rfl, fun _ => rfl, fun _ => rfl, fun _ => rfl, trivial⟩ (by kernel_rfl) (fun k => pc 2 rfl (e2 k) <| pc 3 rfl (e3 k) <| pc 1 rfl (e1 k) <| pc 0 rfl (e0 k) <| pn) (fun k x => by kernel_rfl) k
end zN
namespace wW
mutual
def j0 : Nat → zO → zO → Option Bool
 | 0, _, _ => none
 | k + 1, a, b => l1 k 0 a b
def l1 : Nat → Int → zO → zO → Option Bool
 | 0, _, _, _ => none
 | k + 1, i, a2, b2 => if (decide (i < (a2.1.length : Int))) = true then ((at? a2.1 i).bind fun e => (at? b2.1 i).bind fun e2 => if (!decide (e = e2)) = true then (some false) else (l1 k (wrap64 (i + 1)) a2 b2)) else (some true)
end
def f (k : Nat) (a0 : zO) (a1 : zO) : Option Bool := if (!decide (a0.2.1 = a1.2.1)) = true then (some false) else (if (!decide (a0.2.2 = a1.2.2)) = true then (some false) else (if (!decide ((a0.1.length : Int) = (a1.1.length : Int))) = true then (some false) else (j0 k a0 a1)))
def sig (k : Nat) : Sig := .p [(true, y123), (true, y123)] [.c false .b] fun x => f k x.1 x.2.1
def E (k : Nat) : List (Nat × Sig) := []
noncomputable def d : FD := ⟨13, Tryz.f13, 45, 51, [(2, 45, 3), (3, 48, 3)], [], [], [], [.tmp 4], .s .n (.j 0 .n (.s (.s .n (.s (.l 1 .n) .n)) .n))⟩
abbrev s0 : Sh := [(2, .at_ 45), (3, .at_ 48), (45, .box y123), (48, .box y123)]
abbrev s1 : Sh := [(2, .at_ 45), (3, .at_ 48), (5, .v (.i .i64)), (45, .box y123), (48, .box y123)]
def O (k : Nat) : List (Orc (denR ([.c false .b]))) := [⟨s0, fun y => j0 k y.2.2.1 y.2.2.2.1⟩, ⟨s1, fun y => l1 k y.2.2.1 y.2.2.2.1 y.2.2.2.2.1⟩]
theorem e1 (k : Nat) (y : denS s1) : l1 (k + 1) y.2.2.1 y.2.2.2.1 y.2.2.2.2.1 = SS.ev d E O k [1, 1, 0, 1, 0, 0] s1 y := by rw [l1]; kernel_rfl
theorem e0 (k : Nat) (y : denS s0) : j0 (k + 1) y.2.2.1 y.2.2.2.1 = SS.ev d E O k [1, 1] s0 y := by rw [j0]; kernel_rfl
theorem ok (k : Nat) : zU Tryz.prog (13, sig k) := fnP SS d E O sig (fun _ => rfl) Tryz.func13 (by kernel_rfl) rfl (fun k => trivial) ⟨fun _ => rfl, fun _ => rfl, trivial⟩ (by kernel_rfl) (fun k => pc 1 rfl (e1 k) <| pc 0 rfl (e0 k) <| pn) (fun k x => by kernel_rfl) k
end wW
namespace zT
mutual
def l0 : Nat → (List zA) → (List Int) → Int → Bool → (List Int) → Int → Int → zD → zO → zO → Option zO
 | 0, _, _, _, _, _, _, _, _, _, _ => none
 | k + 1, t, t2, t3, t4, t5, t6, t7, t8, t9, t10 => if (decide (t7 < (t5.length : Int))) = true then ((xW.f k t t5 t6 t7 t3 t8 t4).bind fun r2 => if r2 = true then (if (([] : List Int).length + t2.length) * 8 ≤ 140737488355328 then (if 0 ≤ t7 ∧ t7 < (t5.length : Int) then ((t5[t7.toNat]?).bind fun e => if ((([] : List Int) ++ t2).length + ([e] : List Int).length) * 8 ≤ 140737488355328 then (if (decide (t7 = (wrap64 ((t5.length : Int) - 1)))) = true then ((zN.f k t ((([] : List Int) ++ t2) ++ ([e] : List Int)) t3 t8 t4).bind fun r3 => if r3.2 = true then (if (!t9.2.2) = true then (j1 k t t2 t3 t4 t5 t6 t7 t8 ((([] : List Int) ++ t2) ++ ([e] : List Int), r3.1, (true)) t10) else (if (decide (r3.1 < t9.2.1)) = true then (j1 k t t2 t3 t4 t5 t6 t7 t8 ((([] : List Int) ++ t2) ++ ([e] : List Int), r3.1, (true)) t10) else (j1 k t t2 t3 t4 t5 t6 t7 t8 t9 t10))) else (j1 k t t2 t3 t4 t5 t6 t7 t8 t9 t10)) else ((f k t ((([] : List Int) ++ t2) ++ ([e] : List Int)) (wrap64 (t7 + 1)) t3 t8 t4 t9).bind fun r4 => j1 k t t2 t3 t4 t5 t6 t7 t8 r4 t10)) else none) else none) else none) else (j1 k t t2 t3 t4 t5 t6 t7 t8 t9 t10)) else (some t9)
def j1 : Nat → (List zA) → (List Int) → Int → Bool → (List Int) → Int → Int → zD → zO → zO → Option zO
 | 0, _, _, _, _, _, _, _, _, _, _ => none
 | k + 1, t11, t12, t13, t14, t15, t16, t17, t18, t19, t20 => if 0 ≤ t17 ∧ t17 < (t15.length : Int) then ((t15[t17.toNat]?).bind fun e2 => (at? t11 e2).bind fun e3 => (xE.f k e3).bind fun r5 => if r5 = true then (some t19) else (l0 k t11 t12 t13 t14 t15 t16 (wrap64 (t17 + 1)) t18 t19 t20)) else none
def f : Nat → (List zA) → (List Int) → Int → Int → zD → Bool → zO → Option zO
 | 0, _, _, _, _, _, _, _ => none
 | k + 1, a0, a1, a2, a3, a4, a5, a6 => (yC.f k a0).bind fun r => l0 k a0 a1 a3 a5 r (wrap64 (a2 - 1)) a2 a4 a6 (([] : List Int), 0, (false))
end
def sig (k : Nat) : Sig := .p [(false, y77), (false, y78), (false, (.i .i64)), (false, (.i .i64)), (true, y92), (false, .b), (true, y87)] [.c true y87] fun x => f k x.1 x.2.1 x.2.2.1 x.2.2.2.1 x.2.2.2.2.1 x.2.2.2.2.2.1 x.2.2.2.2.2.2.1
def E (k : Nat) : List (Nat × Sig) := [(11, zN.sig k), (12, yC.sig k), (23, xE.sig k), (38, xW.sig k), (43, sig k)]
noncomputable def d : FD := ⟨43, Tryz.f43, 97, 110, [(11, 97, 7), (13, 104, 3), (14, 107, 3)], [], [], [], [.cell 14 97], .s .n (.s .n (.s .n (.s (.s .n (.s (.l 0 (.s .n (.s (.s (.j 1 (.s .n (.s (.s .n (.s .n (.s .n (.f 18 .n)))) .n)) .n) .n) .n))) .n)) .n)))⟩
abbrev s0 : Sh := [(0, .v y77), (1, .v y78), (3, .v (.i .i64)), (5, .v .b), (11, .at_ 97), (13, .at_ 104), (14, .at_ 107), (15, .v y10), (16, .v (.i .i64)), (17, .v (.i .i64)), (97, .box y92), (104, .box y87), (107, .box y118)]
abbrev s1 : Sh := [(0, .v y77), (1, .v y78), (3, .v (.i .i64)), (5, .v .b), (11, .at_ 97), (13, .at_ 104), (14, .at_ 107), (15, .v y10), (16, .v (.i .i64)), (17, .v (.i .i64)), (97, .box y92), (104, .box y87), (107, .box y118)]
def O (k : Nat) : List (Orc (denR ([.c true y87]))) := [⟨s0, fun y => l0 k y.1 y.2.1 y.2.2.1 y.2.2.2.1 y.2.2.2.2.2.2.2.1 y.2.2.2.2.2.2.2.2.1 y.2.2.2.2.2.2.2.2.2.1 y.2.2.2.2.2.2.2.2.2.2.1 y.2.2.2.2.2.2.2.2.2.2.2.1 y.2.2.2.2.2.2.2.2.2.2.2.2.1⟩, ⟨s1, fun y => j1 k y.1 y.2.1 y.2.2.1 y.2.2.2.1 y.2.2.2.2.2.2.2.1 y.2.2.2.2.2.2.2.2.1 y.2.2.2.2.2.2.2.2.2.1 y.2.2.2.2.2.2.2.2.2.2.1 y.2.2.2.2.2.2.2.2.2.2.2.1 y.2.2.2.2.2.2.2.2.2.2.2.2.1⟩]
theorem e1 (k : Nat) (y : denS s1) : j1 (k + 1) y.1 y.2.1 y.2.2.1 y.2.2.2.1 y.2.2.2.2.2.2.2.1 y.2.2.2.2.2.2.2.2.1 y.2.2.2.2.2.2.2.2.2.1 y.2.2.2.2.2.2.2.2.2.2.1 y.2.2.2.2.2.2.2.2.2.2.2.1 y.2.2.2.2.2.2.2.2.2.2.2.2.1 = SS.ev d E O k [1, 1, 1, 0, 1, 0, 0, 1, 0, 0, 1] s1 y := by rw [j1]; kernel_rfl
theorem e0 (k : Nat) (y : denS s0) : l0 (k + 1) y.1 y.2.1 y.2.2.1 y.2.2.2.1 y.2.2.2.2.2.2.2.1 y.2.2.2.2.2.2.2.2.1 y.2.2.2.2.2.2.2.2.2.1 y.2.2.2.2.2.2.2.2.2.2.1 y.2.2.2.2.2.2.2.2.2.2.2.1 y.2.2.2.2.2.2.2.2.2.2.2.2.1 = SS.ev d E O k [1, 1, 1, 0, 1, 0, 0] s0 y := by rw [l0]; kernel_rfl
theorem ok (k : Nat) : zU Tryz.prog (43, sig k) := fnR SS d E O sig (fun _ => rfl) Tryz.func43 (by kernel_rfl) rfl (fun k hs => ⟨zN.ok k, yC.ok k, xE.ok k, xW.ok k, hs, trivial⟩) ⟨fun _ => rfl, fun _ => rfl, trivial⟩ (by kernel_rfl) (fun k => pc 1 rfl (e1 k) <| pc 0 rfl (e0 k) <| pn) (fun x => by rw [f]) (fun k x => by rw [f]; kernel_rfl) k
end zT
namespace vJ
mutual
def j0 : Nat → Bool → zO → zO → Option zO
 | 0, _, _, _ => none
 | k + 1, emergency, t, best => some (best.1, best.2.1, emergency)
end
def f (k : Nat) (a0 : (List zA)) (a1 : Int) (a2 : zD) : Option zO := (zT.f k a0 ([] : List Int) 0 a1 a2 false (([] : List Int), 0, (false))).bind fun r => if (!r.2.2) = true then ((zT.f k a0 ([] : List Int) 0 a1 a2 true (([] : List Int), 0, (false))).bind fun r2 => j0 k (!r.2.2) (([] : List Int), 0, (false)) r2) else (j0 k (!r.2.2) (([] : List Int), 0, (false)) r)
def sig (k : Nat) : Sig := .p [(false, y77), (false, (.i .i64)), (true, y92)] [.c true y87] fun x => f k x.1 x.2.1 x.2.2.1
def E (k : Nat) : List (Nat × Sig) := [(43, zT.sig k)]
noncomputable def d : FD := ⟨14, Tryz.f14, 29, 42, [(5, 29, 7), (6, 36, 3), (7, 39, 3)], [], [], [], [.cell 6 35], .s .n (.s (.q 4 12 .n) (.s .n (.j 0 (.s .n (.s (.q 4 21 .n) .n)) .n)))⟩
abbrev s0 : Sh := [(6, .at_ 36), (7, .at_ 39), (8, .v .b), (36, .box y118), (39, .box y87)]
def O (k : Nat) : List (Orc (denR ([.c true y87]))) := [⟨s0, fun y => j0 k y.2.2.1 y.2.2.2.1 y.2.2.2.2.1⟩]
theorem e0 (k : Nat) (y : denS s0) : j0 (k + 1) y.2.2.1 y.2.2.2.1 y.2.2.2.2.1 = SS.ev d E O k [1, 1, 1, 1] s0 y := by rw [j0]; kernel_rfl
theorem ok (k : Nat) : zU Tryz.prog (14, sig k) := fnP SS d E O sig (fun _ => rfl) Tryz.func14 (by kernel_rfl) rfl (fun k => ⟨zT.ok k, trivial⟩) ⟨fun _ => rfl, trivial⟩ (by kernel_rfl) (fun k => pc 0 rfl (e0 k) <| pn) (fun k x => by kernel_rfl) k
end vJ
namespace xC
mutual
def l0 : Nat → (List zA) → (List Int) → Int → (List Int) → Int → Option (List Int)
 | 0, _, _, _, _, _ => none
 | k + 1, l, list, size, out, i => if (decide (i < (list.length : Int))) = true then (if (decide (i = (wrap64 ((list.length : Int) - 1)))) = true then (if (out.length + ([size] : List Int).length) * 8 ≤ 140737488355328 then (j1 k l list size (out ++ ([size] : List Int)) i) else none) else ((at? list i).bind fun e => (yE.f k l e).bind fun r => (at? list (wrap64 (i + 1))).bind fun e2 => (at? l (if e2 < r then e2 else r)).bind fun e3 => if (out.length + ([e3.2.2.2.2.2.2.2.1] : List Int).length) * 8 ≤ 140737488355328 then (j1 k l list size (out ++ ([e3.2.2.2.2.2.2.2.1] : List Int)) i) else none)) else (some out)
def j1 : Nat → (List zA) → (List Int) → Int → (List Int) → Int → Option (List Int)
 | 0, _, _, _, _, _ => none
 | k + 1, l2, list2, size2, out2, i2 => l0 k l2 list2 size2 out2 (wrap64 (i2 + 1))
end
def f (k : Nat) (a0 : (List zA)) (a1 : (List Int)) (a2 : Int) : Option (List Int) := l0 k a0 a1 a2 ([] : List Int) 0
def sig (k : Nat) : Sig := .p [(false, y28), (false, y37), (false, (.i .i64))] [.c false y10] fun x => f k x.1 x.2.1 x.2.2.1
def E (k : Nat) : List (Nat × Sig) := [(56, yE.sig k)]
noncomputable def d : FD := ⟨20, Tryz.f20, 46, 46, [], [], [], [], [.tmp 6], .s .n (.s .n (.s (.s .n (.s (.l 0 (.s .n (.j 1 .n .n))) .n)) .n))⟩
abbrev s0 : Sh := [(0, .v y28), (1, .v y37), (2, .v (.i .i64)), (7, .v y10), (8, .v (.i .i64))]
abbrev s1 : Sh := [(0, .v y28), (1, .v y37), (2, .v (.i .i64)), (7, .v y10), (8, .v (.i .i64))]
def O (k : Nat) : List (Orc (denR ([.c false y10]))) := [⟨s0, fun y => l0 k y.1 y.2.1 y.2.2.1 y.2.2.2.1 y.2.2.2.2.1⟩, ⟨s1, fun y => j1 k y.1 y.2.1 y.2.2.1 y.2.2.2.1 y.2.2.2.2.1⟩]
theorem e1 (k : Nat) (y : denS s1) : j1 (k + 1) y.1 y.2.1 y.2.2.1 y.2.2.2.1 y.2.2.2.2.1 = SS.ev d E O k [1, 1, 0, 1, 0, 0, 1, 1] s1 y := by rw [j1]; kernel_rfl
theorem e0 (k : Nat) (y : denS s0) : l0 (k + 1) y.1 y.2.1 y.2.2.1 y.2.2.2.1 y.2.2.2.2.1 = SS.ev d E O k [1, 1, 0, 1, 0, 0] s0 y := by rw [l0]; kernel_rfl
theorem ok (k : Nat) : zU Tryz.prog (20, sig k) := fnP SS d E O sig (fun _ => rfl) Tryz.func20 (by kernel_rfl) rfl (fun k => ⟨yE.ok k, trivial⟩) ⟨fun _ => rfl, fun _ => rfl, trivial⟩ (by kernel_rfl) (fun k => pc 1 rfl (e1 k) <| pc 0 rfl (e0 k) <| pn) (fun k x => by kernel_rfl) k
end xC
namespace yT
mutual
def l0 : Nat → (List zJ) → (List Int) → Int → Option (List Int)
 | 0, _, _, _ => none
 | k + 1, list, out, i => if (decide (i < (list.length : Int))) = true then (l1 k list out i 0) else (some out)
def l1 : Nat → (List zJ) → (List Int) → Int → Int → Option (List Int)
 | 0, _, _, _, _ => none
 | k + 1, list2, out2, i2, n => (at? list2 i2).bind fun e => if (decide (n < e.1)) = true then ((at? list2 i2).bind fun e2 => if (out2.length + ([e2.2] : List Int).length) * 8 ≤ 140737488355328 then (l1 k list2 (out2 ++ ([e2.2] : List Int)) i2 (wrap64 (n + 1))) else none) else (l0 k list2 out2 (wrap64 (i2 + 1)))
end
def f (k : Nat) (a0 : (List zJ)) : Option (List Int) := l0 k a0 ([] : List Int) 0
def sig (k : Nat) : Sig := .p [(false, y55)] [.c false y10] fun x => f k x.1
def E (k : Nat) : List (Nat × Sig) := []
noncomputable def d : FD := ⟨47, Tryz.f47, 30, 30, [], [], [], [], [.tmp 2], .s .n (.s .n (.s (.s .n (.s (.l 0 (.s .n (.s (.s (.s .n (.s (.l 1 .n) .n)) .n) .n))) .n)) .n))⟩
abbrev s0 : Sh := [(0, .v y55), (3, .v y10), (4, .v (.i .i64))]
abbrev s1 : Sh := [(0, .v y55), (3, .v y10), (4, .v (.i .i64)), (5, .v (.i .i64))]
def O (k : Nat) : List (Orc (denR ([.c false y10]))) := [⟨s0, fun y => l0 k y.1 y.2.1 y.2.2.1⟩, ⟨s1, fun y => l1 k y.1 y.2.1 y.2.2.1 y.2.2.2.1⟩]
theorem e1 (k : Nat) (y : denS s1) : l1 (k + 1) y.1 y.2.1 y.2.2.1 y.2.2.2.1 = SS.ev d E O k [1, 1, 0, 1, 0, 0, 1, 0, 0, 1, 0, 0] s1 y := by rw [l1]; kernel_rfl
theorem e0 (k : Nat) (y : denS s0) : l0 (k + 1) y.1 y.2.1 y.2.2.1 = SS.ev d E O k [1, 1, 0, 1, 0, 0] s0 y := by rw [l0]; kernel_rfl
theorem ok (k : Nat) : zU Tryz.prog (47, sig k) := fnP SS d E O sig (fun _ => rfl) Tryz.func47 (by kernel_rfl) rfl (fun k => trivial) ⟨fun _ => rfl, fun _ => rfl, trivial⟩ (by kernel_rfl) (fun k => pc 1 rfl (e1 k) <| pc 0 rfl (e0 k) <| pn) (fun k x => by kernel_rfl) k
end yT
namespace xL
mutual
def l0 : Nat → (List Int) → (List zJ) → Int → Option (List zJ)
 | 0, _, _, _ => none
 | k + 1, s, out, i => if (decide (i < (s.length : Int))) = true then (if (decide (0 < (out.length : Int))) = true then (if 0 ≤ (wrap64 ((out.length : Int) - 1)) ∧ (wrap64 ((out.length : Int) - 1)) < (out.length : Int) then ((out[(wrap64 ((out.length : Int) - 1)).toNat]?).bind fun e => (at? s i).bind fun e2 => if (decide (e.2 = e2)) = true then (if 0 ≤ (wrap64 ((out.length : Int) - 1)) ∧ (wrap64 ((out.length : Int) - 1)) < (out.length : Int) then ((out[(wrap64 ((out.length : Int) - 1)).toNat]?).bind fun e3 => if 0 ≤ (wrap64 ((out.length : Int) - 1)) ∧ (wrap64 ((out.length : Int) - 1)) < (out.length : Int) then ((out[(wrap64 ((out.length : Int) - 1)).toNat]?).bind fun e4 => j1 k s (out.set ((wrap64 ((out.length : Int) - 1)).toNat) (wrap64 (e3.1 + 1), e4.2)) i) else none) else none) else (j2 k s out i)) else none) else (j2 k s out i)) else (some out)
def j1 : Nat → (List Int) → (List zJ) → Int → Option (List zJ)
 | 0, _, _, _ => none
 | k + 1, s2, out2, i2 => l0 k s2 out2 (wrap64 (i2 + 1))
def j2 : Nat → (List Int) → (List zJ) → Int → Option (List zJ)
 | 0, _, _, _ => none
 | k + 1, s3, out3, i3 => (at? s3 i3).bind fun e5 => if (out3.length + ([(1, e5)] : List zJ).length) * 16 ≤ 140737488355328 then (j1 k s3 (out3 ++ ([(1, e5)] : List zJ)) i3) else none
end
def f (k : Nat) (a0 : (List Int)) : Option (List zJ) := l0 k a0 ([] : List zJ) 0
def sig (k : Nat) : Sig := .p [(false, y37)] [.c false y54] fun x => f k x.1
def E (k : Nat) : List (Nat × Sig) := []
noncomputable def d : FD := ⟨48, Tryz.f48, 47, 47, [], [], [], [], [.tmp 2], .s .n (.s .n (.s (.s .n (.s (.l 0 (.s .n (.j 1 (.s (.j 2 .n .n) .n) .n))) .n)) .n))⟩
abbrev s0 : Sh := [(0, .v y37), (3, .v y54), (4, .v (.i .i64))]
abbrev s1 : Sh := [(0, .v y37), (3, .v y54), (4, .v (.i .i64))]
abbrev s2 : Sh := [(0, .v y37), (3, .v y54), (4, .v (.i .i64))]
def O (k : Nat) : List (Orc (denR ([.c false y54]))) := [⟨s0, fun y => l0 k y.1 y.2.1 y.2.2.1⟩, ⟨s1, fun y => j1 k y.1 y.2.1 y.2.2.1⟩, ⟨s2, fun y => j2 k y.1 y.2.1 y.2.2.1⟩]
theorem e2 (k : Nat) (y : denS s2) : j2 (k + 1) y.1 y.2.1 y.2.2.1 = SS.ev d E O k [1, 1, 0, 1, 0, 0, 1, 0, 0, 1] s2 y := by rw [j2]; kernel_rfl
theorem e1 (k : Nat) (y : denS s1) : j1 (k + 1) y.1 y.2.1 y.2.2.1 = SS.ev d E O k [1, 1, 0, 1, 0, 0, 1, 1] s1 y := by rw [j1]; kernel_rfl
theorem e0 (k : Nat) (y : denS s0) : l0 (k + 1) y.1 y.2.1 y.2.2.1 = SS.ev d E O k [1, 1, 0, 1, 0, 0] s0 y := by rw [l0]; kernel_rfl
theorem ok (k : Nat) : zU Tryz.prog (48, sig k) := fnP SS d E O sig (fun _ => rfl) Tryz.func48 (by kernel_rfl) rfl (fun k => trivial) ⟨fun _ => rfl, fun _ => rfl, fun _ => rfl, trivial⟩ (by kernel_rfl) (fun k => pc 2 rfl (e2 k) <| pc 1 rfl (e1 k) <| pc 0 rfl (e0 k) <| pn) (fun k x => by kernel_rfl) k
end xL
namespace xG
mutual
def l0 : Nat → A1 → (List zJ) → Int → Int → Option Int
 | 0, _, _, _, _ => none
 | k + 1, l, runs, most, i => if (decide (i < (runs.length : Int))) = true then ((at? runs i).bind fun e => (xA.f k l e.2).bind fun r => (at? runs i).bind fun e2 => if (decide (0 < e2.1)) = true then (if (decide (most < r.1)) = true then (j1 k l runs r.1 i) else (j1 k l runs most i)) else (j1 k l runs most i)) else (if (decide (most = 0)) = true then ((xA.f k l 0).bind fun r2 => some r2.1) else (some most))
def j1 : Nat → A1 → (List zJ) → Int → Int → Option Int
 | 0, _, _, _, _ => none
 | k + 1, l2, runs2, most2, i2 => l0 k l2 runs2 most2 (wrap64 (i2 + 1))
end
def f (k : Nat) (a0 : A1) (a1 : (List zJ)) : Option Int := l0 k a0 a1 0 0
def sig (k : Nat) : Sig := .p [(false, y65), (false, y55)] [.c false (.i .i64)] fun x => f k x.1 x.2.1
def E (k : Nat) : List (Nat × Sig) := [(35, xA.sig k)]
noncomputable def d : FD := ⟨49, Tryz.f49, 40, 40, [], [], [], [], [.tmp 4], .s .n (.s .n (.s (.s .n (.s (.l 0 (.s .n (.j 1 .n .n))) .n)) .n))⟩
abbrev s0 : Sh := [(0, .v y65), (1, .v y55), (5, .v (.i .i64)), (6, .v (.i .i64))]
abbrev s1 : Sh := [(0, .v y65), (1, .v y55), (5, .v (.i .i64)), (6, .v (.i .i64))]
def O (k : Nat) : List (Orc (denR ([.c false (.i .i64)]))) := [⟨s0, fun y => l0 k y.1 y.2.1 y.2.2.1 y.2.2.2.1⟩, ⟨s1, fun y => j1 k y.1 y.2.1 y.2.2.1 y.2.2.2.1⟩]
theorem e1 (k : Nat) (y : denS s1) : j1 (k + 1) y.1 y.2.1 y.2.2.1 y.2.2.2.1 = SS.ev d E O k [1, 1, 0, 1, 0, 0, 1, 1] s1 y := by rw [j1]; kernel_rfl
theorem e0 (k : Nat) (y : denS s0) : l0 (k + 1) y.1 y.2.1 y.2.2.1 y.2.2.2.1 = SS.ev d E O k [1, 1, 0, 1, 0, 0] s0 y := by rw [l0]; kernel_rfl
theorem ok (k : Nat) : zU Tryz.prog (49, sig k) := fnP SS d E O sig (fun _ => rfl) Tryz.func49 (by kernel_rfl) rfl (fun k => ⟨xA.ok k, trivial⟩) ⟨fun _ => rfl, fun _ => rfl, trivial⟩ (by kernel_rfl) (fun k => pc 1 rfl (e1 k) <| pc 0 rfl (e0 k) <| pn) (fun k x => by kernel_rfl) k
end xG
namespace xP
mutual
def l0 : Nat → A1 → ByteArray → (List zA) → Int → A7 → (List Int) → (List Int) → Int → Int → Int → zO → Option A6
 | 0, _, _, _, _, _, _, _, _, _, _, _ => none
 | k + 1, t, t2, t3, t4, t5, t6, t7, t8, t9, t10, t11 => if (decide (t10 < (t7.length : Int))) = true then ((at? t11.1 t10).bind fun e => (yX.f k t3 t9 e t4).bind fun r3 => if 0 ≤ t10 ∧ t10 < (t7.length : Int) then ((t7[t10.toNat]?).bind fun e2 => (sSub t2 t8 e2).bind fun v => if 0 ≤ t10 ∧ t10 < (t7.length : Int) then ((t7[t10.toNat]?).bind fun e3 => if 0 ≤ t8 ∧ t8 ≤ e3 ∧ e3 ≤ (t6.length : Int) then ((xL.f k ((t6.drop t8.toNat).take (e3.toNat - t8.toNat))).bind fun r4 => (at? t6 (wrap64 ((t6.length : Int) - 1))).bind fun e4 => (xA.f k t e4).bind fun r5 => if 0 ≤ t10 ∧ t10 < (t7.length : Int) then ((t7[t10.toNat]?).bind fun e5 => if (decide (t8 < e5)) = true then ((xG.f k t r4).bind fun r6 => j1 k t t2 t3 t4 t5 t6 t7 t10 t11 (v, r4, r3.1, r3.2.1, r6, (false), 0, decide (t10 = 0), decide (t10 = (wrap64 ((t7.length : Int) - 1))))) else (j1 k t t2 t3 t4 t5 t6 t7 t10 t11 (v, r4, r3.1, r3.2.1, r5.1, (false), 0, decide (t10 = 0), decide (t10 = (wrap64 ((t7.length : Int) - 1)))))) else none) else none) else none) else none) else (some t5)
def j1 : Nat → A1 → ByteArray → (List zA) → Int → A7 → (List Int) → (List Int) → Int → zO → A21 → Option A6
 | 0, _, _, _, _, _, _, _, _, _, _ => none
 | k + 1, t12, t13, t14, t15, t16, t17, t18, t19, t20, t21 => (at? t20.1 t19).bind fun e6 => (at? t14 e6).bind fun e7 => if e7.2.2.2.2.2.2.1 = true then (j2 k t12 t13 t14 t15 t16 t17 t18 t19 t20 (t21.1, t21.2.1, t21.2.2.1, t21.2.2.2.1, t21.2.2.2.2.1, decide (e7.2.2.2.2.2.2.2.1 < e7.2.2.2.2.2.2.2.2), t21.2.2.2.2.2.2.1, t21.2.2.2.2.2.2.2.1, t21.2.2.2.2.2.2.2.2)) else (j2 k t12 t13 t14 t15 t16 t17 t18 t19 t20 (t21.1, t21.2.1, t21.2.2.1, t21.2.2.2.1, t21.2.2.2.2.1, (false), t21.2.2.2.2.2.2.1, t21.2.2.2.2.2.2.2.1, t21.2.2.2.2.2.2.2.2))
def j2 : Nat → A1 → ByteArray → (List zA) → Int → A7 → (List Int) → (List Int) → Int → zO → A21 → Option A6
 | 0, _, _, _, _, _, _, _, _, _, _ => none
 | k + 1, t22, t23, t24, t25, t26, t27, t28, t29, t30, t31 => if (t26.length + ([t31] : List (ByteArray × List zJ × Int × Int × Int × Bool × Int × Bool × Bool)).length) * 88 ≤ 140737488355328 then (if 0 ≤ t29 ∧ t29 < (t28.length : Int) then ((t28[t29.toNat]?).bind fun e8 => (at? t30.1 t29).bind fun e9 => l0 k t22 t23 t24 t25 (t26 ++ ([t31] : List (ByteArray × List zJ × Int × Int × Int × Bool × Int × Bool × Bool))) t27 t28 e8 e9 (wrap64 (t29 + 1)) t30) else none) else none
end
def f (k : Nat) (a0 : A1) (a1 : ByteArray) (a2 : (List zJ)) (a3 : (List zA)) (a4 : zO) (a5 : Int) : Option A6 := (yT.f k a2).bind fun r => (xC.f k a3 a4.1 (a1.size : Int)).bind fun r2 => l0 k a0 a1 a3 a5 ([] : List (ByteArray × List zJ × Int × Int × Int × Bool × Int × Bool × Bool)) r r2 0 (-1) 0 a4
def sig (k : Nat) : Sig := .p [(false, y65), (false, .s), (false, y67), (false, y77), (true, y87), (false, (.i .i64))] [.c false y76] fun x => f k x.1 x.2.1 x.2.2.1 x.2.2.2.1 x.2.2.2.2.1 x.2.2.2.2.2.1
def E (k : Nat) : List (Nat × Sig) := [(20, xC.sig k), (35, xA.sig k), (39, yX.sig k), (47, yT.sig k), (48, xL.sig k), (49, xG.sig k)]
noncomputable def d : FD := ⟨16, Tryz.f16, 126, 152, [(10, 126, 3), (19, 129, 5), (20, 134, 9), (21, 143, 9)], [], [], [], [.tmp 12], .s .n (.s .n (.s .n (.s .n (.s .n (.s (.s .n (.s (.l 0 (.s .n (.s (.s (.s .n (.s .n (.s (.f 14 .n) (.s .n (.j 1 .n (.s .n (.j 2 .n .n))))))) .n) .n))) .n)) .n)))))⟩
abbrev s0 : Sh := [(0, .v y65), (1, .v .s), (3, .v y77), (5, .v (.i .i64)), (10, .at_ 126), (13, .v y76), (14, .v y78), (15, .v y10), (16, .v (.i .i64)), (17, .v (.i .i64)), (18, .v (.i .i64)), (126, .box y87)]
abbrev s1 : Sh := [(0, .v y65), (1, .v .s), (3, .v y77), (5, .v (.i .i64)), (10, .at_ 126), (13, .v y76), (14, .v y78), (15, .v y10), (18, .v (.i .i64)), (20, .at_ 134), (126, .box y87), (134, .box y75)]
abbrev s2 : Sh := [(0, .v y65), (1, .v .s), (3, .v y77), (5, .v (.i .i64)), (10, .at_ 126), (13, .v y76), (14, .v y78), (15, .v y10), (18, .v (.i .i64)), (20, .at_ 134), (126, .box y87), (134, .box y75)]
def O (k : Nat) : List (Orc (denR ([.c false y76]))) := [⟨s0, fun y => l0 k y.1 y.2.1 y.2.2.1 y.2.2.2.1 y.2.2.2.2.2.1 y.2.2.2.2.2.2.1 y.2.2.2.2.2.2.2.1 y.2.2.2.2.2.2.2.2.1 y.2.2.2.2.2.2.2.2.2.1 y.2.2.2.2.2.2.2.2.2.2.1 y.2.2.2.2.2.2.2.2.2.2.2.1⟩, ⟨s1, fun y => j1 k y.1 y.2.1 y.2.2.1 y.2.2.2.1 y.2.2.2.2.2.1 y.2.2.2.2.2.2.1 y.2.2.2.2.2.2.2.1 y.2.2.2.2.2.2.2.2.1 y.2.2.2.2.2.2.2.2.2.2.1 y.2.2.2.2.2.2.2.2.2.2.2.1⟩, ⟨s2, fun y => j2 k y.1 y.2.1 y.2.2.1 y.2.2.2.1 y.2.2.2.2.2.1 y.2.2.2.2.2.2.1 y.2.2.2.2.2.2.2.1 y.2.2.2.2.2.2.2.2.1 y.2.2.2.2.2.2.2.2.2.2.1 y.2.2.2.2.2.2.2.2.2.2.2.1⟩]
theorem e2 (k : Nat) (y : denS s2) : j2 (k + 1) y.1 y.2.1 y.2.2.1 y.2.2.2.1 y.2.2.2.2.2.1 y.2.2.2.2.2.2.1 y.2.2.2.2.2.2.2.1 y.2.2.2.2.2.2.2.2.1 y.2.2.2.2.2.2.2.2.2.2.1 y.2.2.2.2.2.2.2.2.2.2.2.1 = SS.ev d E O k [1, 1, 1, 1, 1, 0, 1, 0, 0, 1, 0, 0, 1, 1, 1, 1, 1, 1, 1] s2 y := by rw [j2]; kernel_rfl
theorem e1 (k : Nat) (y : denS s1) : j1 (k + 1) y.1 y.2.1 y.2.2.1 y.2.2.2.1 y.2.2.2.2.2.1 y.2.2.2.2.2.2.1 y.2.2.2.2.2.2.2.1 y.2.2.2.2.2.2.2.2.1 y.2.2.2.2.2.2.2.2.2.2.1 y.2.2.2.2.2.2.2.2.2.2.2.1 = SS.ev d E O k [1, 1, 1, 1, 1, 0, 1, 0, 0, 1, 0, 0, 1, 1, 1, 1, 1] s1 y := by rw [j1]; kernel_rfl
theorem e0 (k : Nat) (y : denS s0) : l0 (k + 1) y.1 y.2.1 y.2.2.1 y.2.2.2.1 y.2.2.2.2.2.1 y.2.2.2.2.2.2.1 y.2.2.2.2.2.2.2.1 y.2.2.2.2.2.2.2.2.1 y.2.2.2.2.2.2.2.2.2.1 y.2.2.2.2.2.2.2.2.2.2.1 y.2.2.2.2.2.2.2.2.2.2.2.1 = SS.ev d E O k [1, 1, 1, 1, 1, 0, 1, 0, 0] s0 y := by rw [l0]; kernel_rfl
theorem ok (k : Nat) : zU Tryz.prog (16, sig k) := fnP SS d E O sig (fun _ => rfl) Tryz.func16 (by kernel_rfl) rfl (fun k => ⟨xC.ok k, xA.ok k, yX.ok k, yT.ok k, xL.ok k, xG.ok k, trivial⟩) ⟨fun _ => rfl, fun _ => rfl, fun _ => rfl, trivial⟩ (by kernel_rfl) (fun k => pc 2 rfl (e2 k) <| pc 1 rfl (e1 k) <| pc 0 rfl (e0 k) <| pn) (fun k x => by kernel_rfl) k
end xP
namespace vG
mutual
def l0 : Nat → (List zJ) → (List zJ) → Int → Option Bool
 | 0, _, _, _ => none
 | k + 1, a, b, i => if (decide (i < (a.length : Int))) = true then ((at? a i).bind fun e => (at? b i).bind fun e2 => if (!(decide (e.1 = e2.1) && (decide (e.2 = e2.2) && true))) = true then (some false) else (l0 k a b (wrap64 (i + 1)))) else (some true)
end
def f (k : Nat) (a0 : (List zJ)) (a1 : (List zJ)) : Option Bool := if (!decide ((a0.length : Int) = (a1.length : Int))) = true then (some false) else (l0 k a0 a1 0)
def sig (k : Nat) : Sig := .p [(false, y55), (false, y55)] [.c false .b] fun x => f k x.1 x.2.1
def E (k : Nat) : List (Nat × Sig) := []
noncomputable def d : FD := ⟨76, Tryz.f76, 26, 26, [], [], [], [], [.tmp 4], .s .n (.s .n (.s (.s .n (.s (.l 0 .n) .n)) .n))⟩
abbrev s0 : Sh := [(0, .v y55), (1, .v y55), (5, .v (.i .i64))]
def O (k : Nat) : List (Orc (denR ([.c false .b]))) := [⟨s0, fun y => l0 k y.1 y.2.1 y.2.2.1⟩]
theorem e0 (k : Nat) (y : denS s0) : l0 (k + 1) y.1 y.2.1 y.2.2.1 = SS.ev d E O k [1, 1, 0, 1, 0, 0] s0 y := by rw [l0]; kernel_rfl
theorem ok (k : Nat) : zU Tryz.prog (76, sig k) := fnP SS d E O sig (fun _ => rfl) Tryz.func76 (by kernel_rfl) rfl (fun k => trivial) ⟨fun _ => rfl, trivial⟩ (by kernel_rfl) (fun k => pc 0 rfl (e0 k) <| pn) (fun k x => by kernel_rfl) k
end vG
namespace qO
def f (k : Nat) (a0 : A21) (a1 : A21) : Option Bool := if (decide (a0.1 = a1.1)) = true then (if (decide (a0.2.2.1 = a1.2.2.1)) = true then (if (decide (a0.2.2.2.1 = a1.2.2.2.1)) = true then (if (decide (a0.2.2.2.2.1 = a1.2.2.2.2.1)) = true then (if (decide (a0.2.2.2.2.2.1 = a1.2.2.2.2.2.1)) = true then (if (decide (a0.2.2.2.2.2.2.1 = a1.2.2.2.2.2.2.1)) = true then (if (decide (a0.2.2.2.2.2.2.2.1 = a1.2.2.2.2.2.2.2.1)) = true then (if (decide (a0.2.2.2.2.2.2.2.2 = a1.2.2.2.2.2.2.2.2)) = true then ((vG.f k a0.2.1 a1.2.1).bind fun r => some r) else (some false)) else (some false)) else (some false)) else (some false)) else (some false)) else (some false)) else (some false)) else (some false)
def sig (k : Nat) : Sig := .p [(true, y125), (true, y125)] [.c false .b] fun x => f k x.1 x.2.1
def E (k : Nat) : List (Nat × Sig) := [(76, vG.sig k)]
noncomputable def d : FD := ⟨50, Tryz.f50, 66, 84, [(2, 66, 9), (3, 75, 9)], [], [], [], [.tmp 4], .n⟩
def O (k : Nat) : List (Orc (denR ([.c false .b]))) := []
theorem ok (k : Nat) : zU Tryz.prog (50, sig k) := fnP SS d E O sig (fun _ => rfl) Tryz.func50 (by kernel_rfl) rfl (fun k => ⟨vG.ok k, trivial⟩) trivial (by kernel_rfl) (fun _ => pn) (fun k x => by kernel_rfl) k
end qO
end Go.Proofs.YtjbobaeggdafpaaGreat.Vm
