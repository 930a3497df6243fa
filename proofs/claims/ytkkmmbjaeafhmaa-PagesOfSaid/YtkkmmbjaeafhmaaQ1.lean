-- PRINTED by vq.py. Not trusted: Lean checks it.
import Derived.Test.YtkkmmbjaeafhmaaQ0
namespace Go.Proofs.Ytkkmmbjaeafhmaa.Vm
open Go
open _root_.Go.RowKit (wrap64)
set_option maxRecDepth 100000
set_option linter.unusedVariables false
/-! reglet/measure.Check -/
namespace measure_Check
mutual
def l0 : Nat → (List Int) → Int → Int → api_Settings → Option Int
 | 0, _, _, _, _ => none
 | k + 1, t, t2, t3, s => if (decide (t3 < t2)) = true then (if 0 ≤ t3 ∧ t3 < (t.length : Int) then ((t[t3.toNat]?).bind fun e => if (decide (e < 0)) = true then (some 80) else (if (decide (10000 < e)) = true then (some 80) else (l0 k t t2 (wrap64 (t3 + 1)) s))) else none) else (l1 k ([s.2.2.1, s.2.2.2.1, s.2.2.2.2.1] : List Int) (([s.2.2.1, s.2.2.2.1, s.2.2.2.2.1] : List Int).length : Int) 0 s)
def l1 : Nat → (List Int) → Int → Int → api_Settings → Option Int
 | 0, _, _, _, _ => none
 | k + 1, t4, t5, t6, s2 => if (decide (t6 < t5)) = true then (if 0 ≤ t6 ∧ t6 < (t4.length : Int) then ((t4[t6.toNat]?).bind fun e2 => if (decide (e2 < 0)) = true then (some 80) else (if (decide (1048576 < e2)) = true then (some 80) else (l1 k t4 t5 (wrap64 (t6 + 1)) s2))) else none) else (l2 k ([s2.2.2.2.2.2.1, s2.2.2.2.2.2.2] : List Int) (([s2.2.2.2.2.2.1, s2.2.2.2.2.2.2] : List Int).length : Int) 0)
def l2 : Nat → (List Int) → Int → Int → Option Int
 | 0, _, _, _ => none
 | k + 1, t7, t8, t9 => if (decide (t9 < t8)) = true then (if 0 ≤ t9 ∧ t9 < (t7.length : Int) then ((t7[t9.toNat]?).bind fun e3 => if (decide (e3 < 1)) = true then (some 80) else (if (decide (100 < e3)) = true then (some 80) else (l2 k t7 t8 (wrap64 (t9 + 1))))) else none) else (some 0)
end
def f (k : Nat) (a0 : api_Settings) : Option Int := l0 k ([a0.1, a0.2.1] : List Int) (([a0.1, a0.2.1] : List Int).length : Int) 0 a0
def sig (k : Nat) : Sig := .p [(true, y5)] [.c false (.i .i64)] fun x => f k x.1
def E (k : Nat) : List (Nat × Sig) := []
noncomputable def d : FD := ⟨16, Try.f16, 62, 69, [(1, 62, 7)], [], [], [], [.tmp 2], .s .n (.s (.s .n (.s (.l 0 .n) .n)) (.s (.s .n (.s (.l 1 .n) .n)) (.s (.s .n (.s (.l 2 .n) .n)) .n)))⟩
abbrev s0 : Sh := [(1, .at_ 62), (13, .v y6), (14, .v (.i .i64)), (15, .v (.i .i64)), (62, .box y5)]
abbrev s1 : Sh := [(1, .at_ 62), (32, .v y6), (33, .v (.i .i64)), (34, .v (.i .i64)), (62, .box y5)]
abbrev s2 : Sh := [(49, .v y6), (50, .v (.i .i64)), (51, .v (.i .i64))]
def O (k : Nat) : List (Orc (denR ([.c false (.i .i64)]))) := [⟨s0, fun y => l0 k y.2.1 y.2.2.1 y.2.2.2.1 y.2.2.2.2.1⟩, ⟨s1, fun y => l1 k y.2.1 y.2.2.1 y.2.2.2.1 y.2.2.2.2.1⟩, ⟨s2, fun y => l2 k y.1 y.2.1 y.2.2.1⟩]
theorem e0 (k : Nat) (y : denS s0) : l0 (k + 1) y.2.1 y.2.2.1 y.2.2.2.1 y.2.2.2.2.1 = SS.ev d E O k [1, 0, 1, 0, 0] s0 y := by rw [l0]; kernel_rfl
theorem e1 (k : Nat) (y : denS s1) : l1 (k + 1) y.2.1 y.2.2.1 y.2.2.2.1 y.2.2.2.2.1 = SS.ev d E O k [1, 1, 0, 1, 0, 0] s1 y := by rw [l1]; kernel_rfl
theorem e2 (k : Nat) (y : denS s2) : l2 (k + 1) y.1 y.2.1 y.2.2.1 = SS.ev d E O k [1, 1, 1, 0, 1, 0, 0] s2 y := by rw [l2]; kernel_rfl
theorem ok (k : Nat) : EnvOk Try.prog (16, sig k) := fnP SS d E O sig (fun _ => rfl) Try.func16 (by kernel_rfl) rfl (fun k => trivial) ⟨fun _ => rfl, fun _ => rfl, fun _ => rfl, trivial⟩ (by kernel_rfl) (fun k => pc 0 rfl (e0 k) <| pc 1 rfl (e1 k) <| pc 2 rfl (e2 k) <| pn) (fun k x => by kernel_rfl) k
end measure_Check
/-! reglet/pages.Check -/
namespace pages_Check
mutual
def j0 : Nat → api_Settings → Option Int
 | 0, _ => none
 | k + 1, set_ => (measure_Check.f k set_).bind fun r => some r
end
def f (k : Nat) (a0 : Int) (a1 : api_Settings) : Option Int := if (decide (a0 < 1)) = true then (some 41) else (if (decide (1073741824 < a0)) = true then (some 41) else (j0 k a1))
def sig (k : Nat) : Sig := .p [(false, (.i .i64)), (true, y5)] [.c false (.i .i64)] fun x => f k x.1 x.2.1
def E (k : Nat) : List (Nat × Sig) := [(16, measure_Check.sig k)]
noncomputable def d : FD := ⟨13, Try.f13, 13, 20, [(3, 13, 7)], [], [], [], [.tmp 4], .s .n (.j 0 .n .n)⟩
abbrev s0 : Sh := [(3, .at_ 13), (13, .box y5)]
def O (k : Nat) : List (Orc (denR ([.c false (.i .i64)]))) := [⟨s0, fun y => j0 k y.2.1⟩]
theorem e0 (k : Nat) (y : denS s0) : j0 (k + 1) y.2.1 = SS.ev d E O k [1, 1] s0 y := by rw [j0]; kernel_rfl
theorem ok (k : Nat) : EnvOk Try.prog (13, sig k) := fnP SS d E O sig (fun _ => rfl) Try.func13 (by kernel_rfl) rfl (fun k => ⟨measure_Check.ok k, trivial⟩) ⟨fun _ => rfl, trivial⟩ (by kernel_rfl) (fun k => pc 0 rfl (e0 k) <| pn) (fun k x => by kernel_rfl) k
end pages_Check
/-! reglet/pages.Right -/
namespace pages_Right
mutual
def l0 : Nat → (List api_Slot) → (List api_Slot) → Int → Int → Option Int
 | 0, _, _, _, _ => none
 | k + 1, t, t2, t3, t4 => if (decide (t4 < t3)) = true then ((at? t2 t4).bind fun e => if (decide (e.1 < 1)) = true then (some 1) else (if (decide (1048576 < e.1)) = true then (some 1) else (if (decide (e.2.1 < 0)) = true then (some 1) else (if (decide (e.2.2.1 ≤ e.2.1)) = true then (some 1) else (j1 k t t4 t2 t3 t4 e))))) else (if (decide (0 < (t.length : Int))) = true then ((at? t (wrap64 ((t.length : Int) - 1))).bind fun e2 => (at? t (wrap64 ((t.length : Int) - 1))).bind fun e3 => if (!decide (e2.2.1 = (wrap64 (e3.2.2.1 - 1)))) = true then (some 1) else (some 0)) else (some 0))
def j1 : Nat → (List api_Slot) → Int → (List api_Slot) → Int → Int → api_Slot → Option Int
 | 0, _, _, _, _, _, _ => none
 | k + 1, t5, t6, t7, t8, t9, t10 => if (decide (t6 = 0)) = true then (if (!decide (t10.2.1 = 0)) = true then (some 1) else (l0 k t5 t7 t8 (wrap64 (t9 + 1)))) else ((at? t5 (wrap64 (t6 - 1))).bind fun e4 => (at? t5 (wrap64 (t6 - 1))).bind fun e5 => if (decide (e4.2.1 = (wrap64 (e5.2.2.1 - 1)))) = true then (if (!decide (t10.2.1 = 0)) = true then (some 1) else (l0 k t5 t7 t8 (wrap64 (t9 + 1)))) else (j2 k t5 t6 t7 t8 t9 t10))
def j2 : Nat → (List api_Slot) → Int → (List api_Slot) → Int → Int → api_Slot → Option Int
 | 0, _, _, _, _, _, _ => none
 | k + 1, t11, t12, t13, t14, t15, t16 => (at? t11 (wrap64 (t12 - 1))).bind fun e6 => if (!decide (t16.2.1 = (wrap64 (e6.2.1 + 1)))) = true then (some 1) else (if (!decide (t16.2.2.1 = e6.2.2.1)) = true then (some 1) else (if (!decide (t16.2.2.2 = e6.2.2.2)) = true then (some 1) else (l0 k t11 t13 t14 (wrap64 (t15 + 1)))))
end
def f (k : Nat) (a0 : (List api_Slot)) : Option Int := l0 k a0 a0 (a0.length : Int) 0
def sig (k : Nat) : Sig := .p [(false, y10)] [.c false (.i .i64)] fun x => f k x.1
def E (k : Nat) : List (Nat × Sig) := []
noncomputable def d : FD := ⟨14, Try.f14, 101, 109, [(4, 101, 4), (5, 105, 4)], [], [], [], [.tmp 2], .s .n (.s (.s .n (.s (.l 0 (.s .n (.s .n (.s (.s (.s .n (.j 1 .n (.j 2 .n .n))) .n) .n)))) .n)) .n)⟩
abbrev s0 : Sh := [(0, .v y10), (7, .v y10), (8, .v (.i .i64)), (9, .v (.i .i64))]
abbrev s1 : Sh := [(0, .v y10), (3, .v (.i .i64)), (4, .at_ 101), (7, .v y10), (8, .v (.i .i64)), (9, .v (.i .i64)), (101, .box y9)]
abbrev s2 : Sh := [(0, .v y10), (3, .v (.i .i64)), (4, .at_ 101), (7, .v y10), (8, .v (.i .i64)), (9, .v (.i .i64)), (101, .box y9)]
def O (k : Nat) : List (Orc (denR ([.c false (.i .i64)]))) := [⟨s0, fun y => l0 k y.1 y.2.1 y.2.2.1 y.2.2.2.1⟩, ⟨s1, fun y => j1 k y.1 y.2.1 y.2.2.2.1 y.2.2.2.2.1 y.2.2.2.2.2.1 y.2.2.2.2.2.2.1⟩, ⟨s2, fun y => j2 k y.1 y.2.1 y.2.2.2.1 y.2.2.2.2.1 y.2.2.2.2.2.1 y.2.2.2.2.2.2.1⟩]
theorem e2 (k : Nat) (y : denS s2) : j2 (k + 1) y.1 y.2.1 y.2.2.2.1 y.2.2.2.2.1 y.2.2.2.2.2.1 y.2.2.2.2.2.2.1 = SS.ev d E O k [1, 0, 1, 0, 0, 1, 1, 0, 0, 1, 1, 1] s2 y := by rw [j2]; kernel_rfl
theorem e1 (k : Nat) (y : denS s1) : j1 (k + 1) y.1 y.2.1 y.2.2.2.1 y.2.2.2.2.1 y.2.2.2.2.2.1 y.2.2.2.2.2.2.1 = SS.ev d E O k [1, 0, 1, 0, 0, 1, 1, 0, 0, 1, 1] s1 y := by rw [j1]; kernel_rfl
theorem e0 (k : Nat) (y : denS s0) : l0 (k + 1) y.1 y.2.1 y.2.2.1 y.2.2.2.1 = SS.ev d E O k [1, 0, 1, 0, 0] s0 y := by rw [l0]; kernel_rfl
theorem ok (k : Nat) : EnvOk Try.prog (14, sig k) := fnP SS d E O sig (fun _ => rfl) Try.func14 (by kernel_rfl) rfl (fun k => trivial) ⟨fun _ => rfl, fun _ => rfl, fun _ => rfl, trivial⟩ (by kernel_rfl) (fun k => pc 2 rfl (e2 k) <| pc 1 rfl (e1 k) <| pc 0 rfl (e0 k) <| pn) (fun k x => by kernel_rfl) k
end pages_Right
/-! reglet/pages.May -/
namespace pages_May
def f (k : Nat) (a0 : api_Slot) (a1 : api_Settings) : Option Bool := if (decide (a0.2.1 = (wrap64 (a0.2.2.1 - 1)))) = true then (some (!a0.2.2.2)) else (if (decide (a1.2.2.2.2.2.1 ≤ (wrap64 (a0.2.1 + 1)))) = true then (some (decide (a1.2.2.2.2.2.2 ≤ (wrap64 ((wrap64 (a0.2.2.1 - 1)) - a0.2.1))))) else (some false))
def sig (k : Nat) : Sig := .p [(true, y9), (true, y5)] [.c false .b] fun x => f k x.1 x.2.1
def E (k : Nat) : List (Nat × Sig) := []
noncomputable def d : FD := ⟨17, Try.f17, 31, 42, [(2, 31, 4), (3, 35, 7)], [], [], [], [.tmp 4], .n⟩
def O (k : Nat) : List (Orc (denR ([.c false .b]))) := []
theorem ok (k : Nat) : EnvOk Try.prog (17, sig k) := fnP SS d E O sig (fun _ => rfl) Try.func17 (by kernel_rfl) rfl (fun k => trivial) trivial (by kernel_rfl) (fun _ => pn) (fun k x => by kernel_rfl) k
end pages_May
/-! reglet/pages.Next -/
namespace pages_Next
mutual
def l0 : Nat → (List api_Slot) → Int → Int → Int → Int → Int → api_Settings → Option Int
 | 0, _, _, _, _, _, _, _ => none
 | k + 1, list, from_, height, sum, end_, k_, set_ => if (decide (k_ < (list.length : Int))) = true then ((at? list k_).bind fun e => if (decide (height < (wrap64 (sum + e.1)))) = true then (if (decide (from_ < end_)) = true then (some end_) else (j1 k list from_ height (wrap64 (sum + e.1)) end_ k_ set_)) else (j1 k list from_ height (wrap64 (sum + e.1)) end_ k_ set_)) else (some end_)
def j1 : Nat → (List api_Slot) → Int → Int → Int → Int → Int → api_Settings → Option Int
 | 0, _, _, _, _, _, _, _ => none
 | k + 1, list2, from_2, height2, sum2, end_2, k_2, set_2 => (at? list2 k_2).bind fun e2 => (pages_May.f k e2 set_2).bind fun r => if r = true then (j2 k list2 from_2 height2 sum2 (wrap64 (k_2 + 1)) k_2 set_2) else (if (decide (k_2 = (wrap64 ((list2.length : Int) - 1)))) = true then (j2 k list2 from_2 height2 sum2 (wrap64 (k_2 + 1)) k_2 set_2) else (j3 k list2 from_2 height2 sum2 end_2 k_2 set_2))
def j2 : Nat → (List api_Slot) → Int → Int → Int → Int → Int → api_Settings → Option Int
 | 0, _, _, _, _, _, _, _ => none
 | k + 1, list3, from_3, height3, sum3, end_3, k_3, set_3 => if (decide (height3 < sum3)) = true then (some end_3) else (j3 k list3 from_3 height3 sum3 end_3 k_3 set_3)
def j3 : Nat → (List api_Slot) → Int → Int → Int → Int → Int → api_Settings → Option Int
 | 0, _, _, _, _, _, _, _ => none
 | k + 1, list4, from_4, height4, sum4, end_4, k_4, set_4 => l0 k list4 from_4 height4 sum4 end_4 (wrap64 (k_4 + 1)) set_4
end
def f (k : Nat) (a0 : (List api_Slot)) (a1 : Int) (a2 : Int) (a3 : api_Settings) : Option Int := l0 k a0 a1 a2 0 a1 a1 a3
def sig (k : Nat) : Sig := .p [(false, y10), (false, (.i .i64)), (false, (.i .i64)), (true, y5)] [.c false (.i .i64)] fun x => f k x.1 x.2.1 x.2.2.1 x.2.2.2.1
def E (k : Nat) : List (Nat × Sig) := [(17, pages_May.sig k)]
noncomputable def d : FD := ⟨15, Try.f15, 56, 63, [(7, 56, 7)], [], [], [], [.tmp 8], .s .n (.s .n (.s (.s .n (.s (.l 0 (.s .n (.j 3 (.s (.s .n (.j 1 .n (.s .n (.s (.j 2 .n .n) .n)))) .n) .n))) .n)) .n))⟩
abbrev s0 : Sh := [(0, .v y10), (1, .v (.i .i64)), (2, .v (.i .i64)), (7, .at_ 56), (9, .v (.i .i64)), (10, .v (.i .i64)), (11, .v (.i .i64)), (56, .box y5)]
abbrev s1 : Sh := [(0, .v y10), (1, .v (.i .i64)), (2, .v (.i .i64)), (7, .at_ 56), (9, .v (.i .i64)), (10, .v (.i .i64)), (11, .v (.i .i64)), (56, .box y5)]
abbrev s2 : Sh := [(0, .v y10), (1, .v (.i .i64)), (2, .v (.i .i64)), (7, .at_ 56), (9, .v (.i .i64)), (10, .v (.i .i64)), (11, .v (.i .i64)), (56, .box y5)]
abbrev s3 : Sh := [(0, .v y10), (1, .v (.i .i64)), (2, .v (.i .i64)), (7, .at_ 56), (9, .v (.i .i64)), (10, .v (.i .i64)), (11, .v (.i .i64)), (56, .box y5)]
def O (k : Nat) : List (Orc (denR ([.c false (.i .i64)]))) := [⟨s0, fun y => l0 k y.1 y.2.1 y.2.2.1 y.2.2.2.2.1 y.2.2.2.2.2.1 y.2.2.2.2.2.2.1 y.2.2.2.2.2.2.2.1⟩, ⟨s1, fun y => j1 k y.1 y.2.1 y.2.2.1 y.2.2.2.2.1 y.2.2.2.2.2.1 y.2.2.2.2.2.2.1 y.2.2.2.2.2.2.2.1⟩, ⟨s2, fun y => j2 k y.1 y.2.1 y.2.2.1 y.2.2.2.2.1 y.2.2.2.2.2.1 y.2.2.2.2.2.2.1 y.2.2.2.2.2.2.2.1⟩, ⟨s3, fun y => j3 k y.1 y.2.1 y.2.2.1 y.2.2.2.2.1 y.2.2.2.2.2.1 y.2.2.2.2.2.2.1 y.2.2.2.2.2.2.2.1⟩]
theorem e2 (k : Nat) (y : denS s2) : j2 (k + 1) y.1 y.2.1 y.2.2.1 y.2.2.2.2.1 y.2.2.2.2.2.1 y.2.2.2.2.2.2.1 y.2.2.2.2.2.2.2.1 = SS.ev d E O k [1, 1, 0, 1, 0, 0, 1, 0, 0, 1, 1, 1, 0, 1] s2 y := by rw [j2]; kernel_rfl
theorem e1 (k : Nat) (y : denS s1) : j1 (k + 1) y.1 y.2.1 y.2.2.1 y.2.2.2.2.1 y.2.2.2.2.2.1 y.2.2.2.2.2.2.1 y.2.2.2.2.2.2.2.1 = SS.ev d E O k [1, 1, 0, 1, 0, 0, 1, 0, 0, 1, 1] s1 y := by rw [j1]; kernel_rfl
theorem e3 (k : Nat) (y : denS s3) : j3 (k + 1) y.1 y.2.1 y.2.2.1 y.2.2.2.2.1 y.2.2.2.2.2.1 y.2.2.2.2.2.2.1 y.2.2.2.2.2.2.2.1 = SS.ev d E O k [1, 1, 0, 1, 0, 0, 1, 1] s3 y := by rw [j3]; kernel_rfl
theorem e0 (k : Nat) (y : denS s0) : l0 (k + 1) y.1 y.2.1 y.2.2.1 y.2.2.2.2.1 y.2.2.2.2.2.1 y.2.2.2.2.2.2.1 y.2.2.2.2.2.2.2.1 = SS.ev d E O k [1, 1, 0, 1, 0, 0] s0 y := by rw [l0]; kernel_rfl
theorem ok (k : Nat) : EnvOk Try.prog (15, sig k) := fnP SS d E O sig (fun _ => rfl) Try.func15 (by kernel_rfl) rfl (fun k => ⟨pages_May.ok k, trivial⟩) ⟨fun _ => rfl, fun _ => rfl, fun _ => rfl, fun _ => rfl, trivial⟩ (by kernel_rfl) (fun k => pc 2 rfl (e2 k) <| pc 1 rfl (e1 k) <| pc 3 rfl (e3 k) <| pc 0 rfl (e0 k) <| pn) (fun k x => by kernel_rfl) k
end pages_Next
/-! reglet/pages.Paginate -/
namespace pages_Paginate
mutual
def l0 : Nat → (List api_Slot) → Int → (List Int) → Int → api_Settings → Option (List Int × Int)
 | 0, _, _, _, _, _ => none
 | k + 1, list, height, out, from_, set_ => if (decide (from_ < (list.length : Int))) = true then (if (out.length + ([from_] : List Int).length) * 8 ≤ 140737488355328 then ((pages_Next.f k list from_ height set_).bind fun r3 => l0 k list height (out ++ ([from_] : List Int)) r3 set_) else none) else (some (out, 0))
end
def f (k : Nat) (a0 : (List api_Slot)) (a1 : Int) (a2 : api_Settings) : Option (List Int × Int) := (pages_Check.f k a1 a2).bind fun r => if (!decide (r = 0)) = true then (some (([] : List Int), r)) else ((pages_Right.f k a0).bind fun r2 => if (!decide (r2 = 0)) = true then (some (([] : List Int), r2)) else (l0 k a0 a1 ([] : List Int) 0 a2))
def sig (k : Nat) : Sig := .p [(false, y10), (false, (.i .i64)), (true, y5)] [.c false y6, .c false (.i .i64)] fun x => f k x.1 x.2.1 x.2.2.1
def E (k : Nat) : List (Nat × Sig) := [(13, pages_Check.sig k), (14, pages_Right.sig k), (15, pages_Next.sig k)]
noncomputable def d : FD := ⟨8, Try.f8, 37, 44, [(5, 37, 7)], [], [], [], [.tmp 6, .tmp 7], .s .n (.s .n (.s .n (.s .n (.s (.s .n (.s (.l 0 .n) .n)) .n))))⟩
abbrev s0 : Sh := [(0, .v y10), (1, .v (.i .i64)), (5, .at_ 37), (10, .v y6), (11, .v (.i .i64)), (37, .box y5)]
def O (k : Nat) : List (Orc (denR ([.c false y6, .c false (.i .i64)]))) := [⟨s0, fun y => l0 k y.1 y.2.1 y.2.2.2.1 y.2.2.2.2.1 y.2.2.2.2.2.1⟩]
theorem e0 (k : Nat) (y : denS s0) : l0 (k + 1) y.1 y.2.1 y.2.2.2.1 y.2.2.2.2.1 y.2.2.2.2.2.1 = SS.ev d E O k [1, 1, 1, 1, 0, 1, 0, 0] s0 y := by rw [l0]; kernel_rfl
theorem ok (k : Nat) : EnvOk Try.prog (8, sig k) := fnP SS d E O sig (fun _ => rfl) Try.func8 (by kernel_rfl) rfl (fun k => ⟨pages_Check.ok k, pages_Right.ok k, pages_Next.ok k, trivial⟩) ⟨fun _ => rfl, trivial⟩ (by kernel_rfl) (fun k => pc 0 rfl (e0 k) <| pn) (fun k x => by kernel_rfl) k
end pages_Paginate
/-! reglet/regletlaw12.five -/
namespace regletlaw12_five
mutual
def l0 : Nat → Int → (List api_Slot) → Int → Option (List api_Slot)
 | 0, _, _, _ => none
 | k + 1, n, out, i => if (decide (i < n)) = true then (if (out.length + ([(10, i, n, (false))] : List api_Slot).length) * 32 ≤ 140737488355328 then (l0 k n (out ++ ([(10, i, n, (false))] : List api_Slot)) (wrap64 (i + 1))) else none) else (some out)
end
def f (k : Nat) (a0 : Int) : Option (List api_Slot) := l0 k a0 ([] : List api_Slot) 0
def sig (k : Nat) : Sig := .p [(false, (.i .i64))] [.c false y11] fun x => f k x.1
def E (k : Nat) : List (Nat × Sig) := []
noncomputable def d : FD := ⟨9, Try.f9, 17, 17, [], [], [], [], [.tmp 2], .s .n (.s .n (.s (.s .n (.s (.l 0 .n) .n)) .n))⟩
abbrev s0 : Sh := [(0, .v (.i .i64)), (3, .v y11), (4, .v (.i .i64))]
def O (k : Nat) : List (Orc (denR ([.c false y11]))) := [⟨s0, fun y => l0 k y.1 y.2.1 y.2.2.1⟩]
theorem e0 (k : Nat) (y : denS s0) : l0 (k + 1) y.1 y.2.1 y.2.2.1 = SS.ev d E O k [1, 1, 0, 1, 0, 0] s0 y := by rw [l0]; kernel_rfl
theorem ok (k : Nat) : EnvOk Try.prog (9, sig k) := fnP SS d E O sig (fun _ => rfl) Try.func9 (by kernel_rfl) rfl (fun k => trivial) ⟨fun _ => rfl, trivial⟩ (by kernel_rfl) (fun k => pc 0 rfl (e0 k) <| pn) (fun k x => by kernel_rfl) k
end regletlaw12_five
/-! reglet/regletref12.Same -/
namespace regletref12_Same
mutual
def l0 : Nat → (List Int) → (List Int) → Int → Option Bool
 | 0, _, _, _ => none
 | k + 1, a, b, i => if (decide (i < (a.length : Int))) = true then ((at? a i).bind fun e => (at? b i).bind fun e2 => if (!decide (e = e2)) = true then (some false) else (l0 k a b (wrap64 (i + 1)))) else (some true)
end
def f (k : Nat) (a0 : (List Int)) (a1 : (List Int)) : Option Bool := if (!decide ((a0.length : Int) = (a1.length : Int))) = true then (some false) else (l0 k a0 a1 0)
def sig (k : Nat) : Sig := .p [(false, y12), (false, y12)] [.c false .b] fun x => f k x.1 x.2.1
def E (k : Nat) : List (Nat × Sig) := []
noncomputable def d : FD := ⟨10, Try.f10, 26, 26, [], [], [], [], [.tmp 4], .s .n (.s .n (.s (.s .n (.s (.l 0 .n) .n)) .n))⟩
abbrev s0 : Sh := [(0, .v y12), (1, .v y12), (5, .v (.i .i64))]
def O (k : Nat) : List (Orc (denR ([.c false .b]))) := [⟨s0, fun y => l0 k y.1 y.2.1 y.2.2.1⟩]
theorem e0 (k : Nat) (y : denS s0) : l0 (k + 1) y.1 y.2.1 y.2.2.1 = SS.ev d E O k [1, 1, 0, 1, 0, 0] s0 y := by rw [l0]; kernel_rfl
theorem ok (k : Nat) : EnvOk Try.prog (10, sig k) := fnP SS d E O sig (fun _ => rfl) Try.func10 (by kernel_rfl) rfl (fun k => trivial) ⟨fun _ => rfl, trivial⟩ (by kernel_rfl) (fun k => pc 0 rfl (e0 k) <| pn) (fun k x => by kernel_rfl) k
end regletref12_Same
/-! reglet/regletlaw12.awake -/
namespace regletlaw12_awake
def f (k : Nat)  : Option Bool := (regletlaw12_five.f k 5).bind fun r => (pages_Paginate.f k r 30 (0, 0, 0, 0, 0, 2, 2)).bind fun r2 => (regletlaw12_five.f k 5).bind fun r3 => (pages_Paginate.f k r3 30 (0, 0, 0, 0, 0, 2, 3)).bind fun r4 => if (decide (r2.2 = 0)) = true then (if (decide (r4.2 = 0)) = true then ((regletref12_Same.f k r2.1 ([0, 3] : List Int)).bind fun r5 => if r5 = true then ((regletref12_Same.f k r4.1 ([0, 2] : List Int)).bind fun r6 => some r6) else (some false)) else (some false)) else (some false)
def sig (k : Nat) : Sig := .p [] [.c false .b] fun x => f k
def E (k : Nat) : List (Nat × Sig) := [(8, pages_Paginate.sig k), (9, regletlaw12_five.sig k), (10, regletref12_Same.sig k)]
noncomputable def d : FD := ⟨4, Try.f4, 33, 33, [], [], [], [], [.tmp 0], .n⟩
def O (k : Nat) : List (Orc (denR ([.c false .b]))) := []
theorem ok (k : Nat) : EnvOk Try.prog (4, sig k) := fnP SS d E O sig (fun _ => rfl) Try.func4 (by kernel_rfl) rfl (fun k => ⟨pages_Paginate.ok k, regletlaw12_five.ok k, regletref12_Same.ok k, trivial⟩) trivial (by kernel_rfl) (fun _ => pn) (fun k x => by kernel_rfl) k
end regletlaw12_awake
/-! reglet/pages.End -/
namespace pages_End
def f (k : Nat) (a0 : (List Int)) (a1 : Int) (a2 : Int) : Option Int := if (decide (a1 < (wrap64 ((a0.length : Int) - 1)))) = true then ((at? a0 (wrap64 (a1 + 1))).bind fun e => some e) else (some a2)
def sig (k : Nat) : Sig := .p [(false, y12), (false, (.i .i64)), (false, (.i .i64))] [.c false (.i .i64)] fun x => f k x.1 x.2.1 x.2.2.1
def E (k : Nat) : List (Nat × Sig) := []
noncomputable def d : FD := ⟨11, Try.f11, 18, 18, [], [], [], [], [.tmp 6], .n⟩
def O (k : Nat) : List (Orc (denR ([.c false (.i .i64)]))) := []
theorem ok (k : Nat) : EnvOk Try.prog (11, sig k) := fnP SS d E O sig (fun _ => rfl) Try.func11 (by kernel_rfl) rfl (fun k => trivial) trivial (by kernel_rfl) (fun _ => pn) (fun k x => by kernel_rfl) k
end pages_End
/-! reglet/pages.Of -/
namespace pages_Of
mutual
def l0 : Nat → A1 → (List Int) → A2 → (List Int) → Int → Int → Option A0
 | 0, _, _, _, _, _, _ => none
 | k + 1, list, starts, out, t, t2, t3 => if (decide (t3 < t2)) = true then ((at? t t3).bind fun e => l1 k list starts out t3 0 (if e < 0 then 0 else e) t t2 t3 ([] : List (ByteArray × List api_Run × Int × Int × Int × Bool × Int × Bool × Bool))) else (some out)
def l1 : Nat → A1 → (List Int) → A2 → Int → Int → Int → (List Int) → Int → Int → A1 → Option A0
 | 0, _, _, _, _, _, _, _, _, _, _ => none
 | k + 1, list2, starts2, out2, p, y, k_, t4, t5, t6, page => (pages_End.f k starts2 p (list2.length : Int)).bind fun r => if (decide (k_ < (if (list2.length : Int) < r then (list2.length : Int) else r))) = true then ((at? list2 k_).bind fun e2 => if (([] : List api_Run).length + e2.2.1.length) * 16 ≤ 140737488355328 then (if (page.length + ([(e2.1, ([] : List api_Run) ++ e2.2.1, e2.2.2.1, e2.2.2.2.1, e2.2.2.2.2.1, e2.2.2.2.2.2.1, y, e2.2.2.2.2.2.2.2.1, e2.2.2.2.2.2.2.2.2)] : List (ByteArray × List api_Run × Int × Int × Int × Bool × Int × Bool × Bool)).length) * 88 ≤ 140737488355328 then (l1 k list2 starts2 out2 p (wrap64 (y + e2.2.2.2.2.1)) (wrap64 (k_ + 1)) t4 t5 t6 (page ++ ([(e2.1, ([] : List api_Run) ++ e2.2.1, e2.2.2.1, e2.2.2.2.1, e2.2.2.2.2.1, e2.2.2.2.2.2.1, y, e2.2.2.2.2.2.2.2.1, e2.2.2.2.2.2.2.2.2)] : List (ByteArray × List api_Run × Int × Int × Int × Bool × Int × Bool × Bool)))) else none) else none) else (if (out2.length + ([page] : List (List (ByteArray × List api_Run × Int × Int × Int × Bool × Int × Bool × Bool))).length) * 24 ≤ 140737488355328 then (l0 k list2 starts2 (out2 ++ ([page] : List (List (ByteArray × List api_Run × Int × Int × Int × Bool × Int × Bool × Bool)))) t4 t5 (wrap64 (t6 + 1))) else none)
end
def f (k : Nat) (a0 : A1) (a1 : (List Int)) : Option A0 := l0 k a0 a1 ([] : List (List (ByteArray × List api_Run × Int × Int × Int × Bool × Int × Bool × Bool))) a1 (a1.length : Int) 0
def sig (k : Nat) : Sig := .p [(false, y27), (false, y12)] [.c false y23] fun x => f k x.1 x.2.1
def E (k : Nat) : List (Nat × Sig) := [(11, pages_End.sig k)]
noncomputable def d : FD := ⟨5, Try.f5, 60, 70, [(8, 60, 1), (11, 61, 9)], [], [], [], [.tmp 4], .s .n (.s .n (.s (.s .n (.s (.l 0 (.s .n (.s .n (.s (.s (.s .n (.s .n (.s .n (.s (.s .n (.s (.l 1 .n) .n)) .n)))) .n) .n)))) .n)) .n))⟩
abbrev s0 : Sh := [(0, .v y27), (1, .v y12), (5, .v y23), (12, .v y12), (13, .v (.i .i64)), (14, .v (.i .i64))]
abbrev s1 : Sh := [(0, .v y27), (1, .v y12), (5, .v y23), (6, .v (.i .i64)), (8, .at_ 60), (9, .v (.i .i64)), (10, .v (.i .i64)), (12, .v y12), (13, .v (.i .i64)), (14, .v (.i .i64)), (60, .box y22)]
def O (k : Nat) : List (Orc (denR ([.c false y23]))) := [⟨s0, fun y => l0 k y.1 y.2.1 y.2.2.1 y.2.2.2.1 y.2.2.2.2.1 y.2.2.2.2.2.1⟩, ⟨s1, fun y => l1 k y.1 y.2.1 y.2.2.1 y.2.2.2.1 y.2.2.2.2.2.1 y.2.2.2.2.2.2.1 y.2.2.2.2.2.2.2.1 y.2.2.2.2.2.2.2.2.1 y.2.2.2.2.2.2.2.2.2.1 y.2.2.2.2.2.2.2.2.2.2.1⟩]
theorem e1 (k : Nat) (y : denS s1) : l1 (k + 1) y.1 y.2.1 y.2.2.1 y.2.2.2.1 y.2.2.2.2.2.1 y.2.2.2.2.2.2.1 y.2.2.2.2.2.2.2.1 y.2.2.2.2.2.2.2.2.1 y.2.2.2.2.2.2.2.2.2.1 y.2.2.2.2.2.2.2.2.2.2.1 = SS.ev d E O k [1, 1, 0, 1, 0, 0, 1, 1, 0, 0, 1, 1, 1, 0, 1, 0, 0] s1 y := by rw [l1]; kernel_rfl
theorem e0 (k : Nat) (y : denS s0) : l0 (k + 1) y.1 y.2.1 y.2.2.1 y.2.2.2.1 y.2.2.2.2.1 y.2.2.2.2.2.1 = SS.ev d E O k [1, 1, 0, 1, 0, 0] s0 y := by rw [l0]; kernel_rfl
theorem ok (k : Nat) : EnvOk Try.prog (5, sig k) := fnP SS d E O sig (fun _ => rfl) Try.func5 (by kernel_rfl) rfl (fun k => ⟨pages_End.ok k, trivial⟩) ⟨fun _ => rfl, fun _ => rfl, trivial⟩ (by kernel_rfl) (fun k => pc 1 rfl (e1 k) <| pc 0 rfl (e0 k) <| pn) (fun k x => by kernel_rfl) k
end pages_Of
/-! reglet/regletref12.End -/
namespace regletref12_End
def f (k : Nat) (a0 : (List Int)) (a1 : Int) (a2 : Int) : Option Int := if (decide (a1 < (wrap64 ((a0.length : Int) - 1)))) = true then ((at? a0 (wrap64 (a1 + 1))).bind fun e => some e) else (some a2)
def sig (k : Nat) : Sig := .p [(false, y12), (false, (.i .i64)), (false, (.i .i64))] [.c false (.i .i64)] fun x => f k x.1 x.2.1 x.2.2.1
def E (k : Nat) : List (Nat × Sig) := []
noncomputable def d : FD := ⟨6, Try.f6, 18, 18, [], [], [], [], [.tmp 6], .n⟩
def O (k : Nat) : List (Orc (denR ([.c false (.i .i64)]))) := []
theorem ok (k : Nat) : EnvOk Try.prog (6, sig k) := fnP SS d E O sig (fun _ => rfl) Try.func6 (by kernel_rfl) rfl (fun k => trivial) trivial (by kernel_rfl) (fun _ => pn) (fun k x => by kernel_rfl) k
end regletref12_End
/-! reglet/regletref05.Same -/
namespace regletref05_Same
mutual
def l0 : Nat → (List api_Run) → (List api_Run) → Int → Option Bool
 | 0, _, _, _ => none
 | k + 1, a, b, i => if (decide (i < (a.length : Int))) = true then ((at? a i).bind fun e => (at? b i).bind fun e2 => if (!(decide (e.1 = e2.1) && (decide (e.2 = e2.2) && true))) = true then (some false) else (l0 k a b (wrap64 (i + 1)))) else (some true)
end
def f (k : Nat) (a0 : (List api_Run)) (a1 : (List api_Run)) : Option Bool := if (!decide ((a0.length : Int) = (a1.length : Int))) = true then (some false) else (l0 k a0 a1 0)
def sig (k : Nat) : Sig := .p [(false, y24), (false, y24)] [.c false .b] fun x => f k x.1 x.2.1
def E (k : Nat) : List (Nat × Sig) := []
noncomputable def d : FD := ⟨12, Try.f12, 26, 26, [], [], [], [], [.tmp 4], .s .n (.s .n (.s (.s .n (.s (.l 0 .n) .n)) .n))⟩
abbrev s0 : Sh := [(0, .v y24), (1, .v y24), (5, .v (.i .i64))]
def O (k : Nat) : List (Orc (denR ([.c false .b]))) := [⟨s0, fun y => l0 k y.1 y.2.1 y.2.2.1⟩]
theorem e0 (k : Nat) (y : denS s0) : l0 (k + 1) y.1 y.2.1 y.2.2.1 = SS.ev d E O k [1, 1, 0, 1, 0, 0] s0 y := by rw [l0]; kernel_rfl
theorem ok (k : Nat) : EnvOk Try.prog (12, sig k) := fnP SS d E O sig (fun _ => rfl) Try.func12 (by kernel_rfl) rfl (fun k => trivial) ⟨fun _ => rfl, trivial⟩ (by kernel_rfl) (fun k => pc 0 rfl (e0 k) <| pn) (fun k x => by kernel_rfl) k
end regletref05_Same
/-! reglet/regletref10.Same -/
namespace regletref10_Same
def f (k : Nat) (a0 : A3) (a1 : A3) : Option Bool := if (decide (a0.1 = a1.1)) = true then (if (decide (a0.2.2.1 = a1.2.2.1)) = true then (if (decide (a0.2.2.2.1 = a1.2.2.2.1)) = true then (if (decide (a0.2.2.2.2.1 = a1.2.2.2.2.1)) = true then (if (decide (a0.2.2.2.2.2.1 = a1.2.2.2.2.2.1)) = true then (if (decide (a0.2.2.2.2.2.2.1 = a1.2.2.2.2.2.2.1)) = true then (if (decide (a0.2.2.2.2.2.2.2.1 = a1.2.2.2.2.2.2.2.1)) = true then (if (decide (a0.2.2.2.2.2.2.2.2 = a1.2.2.2.2.2.2.2.2)) = true then ((regletref05_Same.f k a0.2.1 a1.2.1).bind fun r => some r) else (some false)) else (some false)) else (some false)) else (some false)) else (some false)) else (some false)) else (some false)) else (some false)
def sig (k : Nat) : Sig := .p [(true, y26), (true, y26)] [.c false .b] fun x => f k x.1 x.2.1
def E (k : Nat) : List (Nat × Sig) := [(12, regletref05_Same.sig k)]
noncomputable def d : FD := ⟨7, Try.f7, 66, 84, [(2, 66, 9), (3, 75, 9)], [], [], [], [.tmp 4], .n⟩
def O (k : Nat) : List (Orc (denR ([.c false .b]))) := []
theorem ok (k : Nat) : EnvOk Try.prog (7, sig k) := fnP SS d E O sig (fun _ => rfl) Try.func7 (by kernel_rfl) rfl (fun k => ⟨regletref05_Same.ok k, trivial⟩) trivial (by kernel_rfl) (fun _ => pn) (fun k x => by kernel_rfl) k
end regletref10_Same
/-! reglet/regletlaw12.PagesOf -/
namespace regletlaw12_PagesOf
mutual
def l0 : Nat → A1 → (List Int) → (List Int) → Int → Int → Option Bool
 | 0, _, _, _, _, _ => none
 | k + 1, t, t2, t3, t4, t5 => if (decide (t5 < (t2.length : Int))) = true then (if (decide (t4 < (t.length : Int))) = true then (j1 k t t2 t3 t4 t5) else (j2 k t t3)) else (j2 k t t3)
def j1 : Nat → A1 → (List Int) → (List Int) → Int → Int → Option Bool
 | 0, _, _, _, _, _ => none
 | k + 1, t6, t7, t8, t9, t10 => (at? t7 t10).bind fun e => if (decide (e < 1)) = true then (some true) else ((at? t7 t10).bind fun e2 => if (decide (100 < e2)) = true then (some true) else (j3 k t6 t7 t8 t9 t10))
def j2 : Nat → A1 → (List Int) → Option Bool
 | 0, _, _ => none
 | k + 1, t11, t12 => l4 k t11 t12 0
def j3 : Nat → A1 → (List Int) → (List Int) → Int → Int → Option Bool
 | 0, _, _, _, _, _ => none
 | k + 1, t13, t14, t15, t16, t17 => if (t15.length + ([t16] : List Int).length) * 8 ≤ 140737488355328 then ((at? t14 t17).bind fun e3 => l0 k t13 t14 (t15 ++ ([t16] : List Int)) (wrap64 (t16 + e3)) (wrap64 (t17 + 1))) else none
def l4 : Nat → A1 → (List Int) → Int → Option Bool
 | 0, _, _, _ => none
 | k + 1, t18, t19, t20 => if (decide (t20 < (t18.length : Int))) = true then ((at? t18 t20).bind fun e4 => if (decide (e4.2.2.2.2.1 < 0)) = true then (some true) else ((at? t18 t20).bind fun e5 => if (decide (1099511627776 < e5.2.2.2.2.1)) = true then (some true) else ((at? t18 t20).bind fun e6 => if (decide (50 < (e6.2.1.length : Int))) = true then (some true) else (j5 k t18 t19 t20)))) else ((pages_Of.f k t18 t19).bind fun r2 => if (!decide ((r2.length : Int) = (t19.length : Int))) = true then (some false) else (l6 k t18 t19 r2 0))
def j5 : Nat → A1 → (List Int) → Int → Option Bool
 | 0, _, _, _ => none
 | k + 1, t21, t22, t23 => l4 k t21 t22 (wrap64 (t23 + 1))
def l6 : Nat → A1 → (List Int) → A2 → Int → Option Bool
 | 0, _, _, _, _ => none
 | k + 1, t24, t25, t26, t27 => if (decide (t27 < (t26.length : Int))) = true then ((regletref12_End.f k t25 t27 (t24.length : Int)).bind fun r3 => if 0 ≤ t27 ∧ t27 < (t26.length : Int) then ((t26[t27.toNat]?).bind fun e7 => if 0 ≤ t27 ∧ t27 < (t25.length : Int) then ((t25[t27.toNat]?).bind fun e8 => if (!decide ((e7.length : Int) = (wrap64 (r3 - e8)))) = true then (some false) else (l7 k t24 t25 t26 t27 0 0)) else none) else none) else (some true)
def l7 : Nat → A1 → (List Int) → A2 → Int → Int → Int → Option Bool
 | 0, _, _, _, _, _, _ => none
 | k + 1, t28, t29, t30, t31, t32, t33 => if 0 ≤ t31 ∧ t31 < (t30.length : Int) then ((t30[t31.toNat]?).bind fun e9 => if (decide (t33 < (e9.length : Int))) = true then (if 0 ≤ t31 ∧ t31 < (t29.length : Int) then ((t29[t31.toNat]?).bind fun e10 => (at? t28 (wrap64 (e10 + t33))).bind fun e11 => if 0 ≤ t31 ∧ t31 < (t30.length : Int) then ((t30[t31.toNat]?).bind fun e12 => if 0 ≤ t33 ∧ t33 < (e12.length : Int) then ((e12[t33.toNat]?).bind fun e13 => (regletref10_Same.f k e13 (e11.1, e11.2.1, e11.2.2.1, e11.2.2.2.1, e11.2.2.2.2.1, e11.2.2.2.2.2.1, t32, e11.2.2.2.2.2.2.2.1, e11.2.2.2.2.2.2.2.2)).bind fun r4 => if (!r4) = true then (some false) else (l8 k t28 t29 t30 t31 (wrap64 (t32 + e11.2.2.2.2.1)) t33 0 (e11.1, e11.2.1, e11.2.2.1, e11.2.2.2.1, e11.2.2.2.2.1, e11.2.2.2.2.2.1, t32, e11.2.2.2.2.2.2.2.1, e11.2.2.2.2.2.2.2.2))) else none) else none) else none) else (l6 k t28 t29 t30 (wrap64 (t31 + 1)))) else none
def l8 : Nat → A1 → (List Int) → A2 → Int → Int → Int → Int → A3 → Option Bool
 | 0, _, _, _, _, _, _, _, _ => none
 | k + 1, t34, t35, t36, t37, t38, t39, t40, t41 => if 0 ≤ t37 ∧ t37 < (t36.length : Int) then ((t36[t37.toNat]?).bind fun e14 => if 0 ≤ t39 ∧ t39 < (e14.length : Int) then ((e14[t39.toNat]?).bind fun e15 => if (decide (t40 < (e15.2.1.length : Int))) = true then ((at? t41.2.1 t40).bind fun e16 => if 0 ≤ t37 ∧ t37 < (t36.length : Int) then ((t36[t37.toNat]?).bind fun e17 => if 0 ≤ t39 ∧ t39 < (e17.length : Int) then ((e17[t39.toNat]?).bind fun e18 => if 0 ≤ t40 ∧ t40 < (e18.2.1.length : Int) then ((t36[t37.toNat]?).bind fun e19 => (e19[t39.toNat]?).bind fun e20 => (e20.2.1[t40.toNat]?).bind fun e21 => (at? t41.2.1 t40).bind fun e22 => if (!(decide (e22.1 = e16.1) && (decide (e22.2 = e16.2) && true))) = true then (some false) else (l8 k t34 t35 (t36.set t37.toNat (e19.set t39.toNat (e20.1, e20.2.1.set t40.toNat ((-3), e21.2), e20.2.2.1, e20.2.2.2.1, e20.2.2.2.2.1, e20.2.2.2.2.2.1, e20.2.2.2.2.2.2.1, e20.2.2.2.2.2.2.2.1, e20.2.2.2.2.2.2.2.2))) t37 t38 t39 (wrap64 (t40 + 1)) t41)) else none) else none) else none) else (l7 k t34 t35 t36 t37 t38 (wrap64 (t39 + 1)))) else none) else none
end
def f (k : Nat) (a0 : A1) (a1 : (List Int)) : Option Bool := (regletlaw12_awake.f k).bind fun r => if (!r) = true then (some false) else (if (decide (100 < (a0.length : Int))) = true then (some true) else (l0 k a0 a1 ([] : List Int) 0 0))
def sig (k : Nat) : Sig := .p [(false, y31), (false, y32)] [.c false .b] fun x => f k x.1 x.2.1
def E (k : Nat) : List (Nat × Sig) := [(4, regletlaw12_awake.sig k), (5, pages_Of.sig k), (6, regletref12_End.sig k), (7, regletref10_Same.sig k)]
noncomputable def d : FD := ⟨3, Try.f3, 191, 202, [(14, 191, 9), (16, 200, 2)], [], [], [], [.tmp 4], .s .n (.s .n (.s .n (.s .n (.s .n (.j 2 (.s .n (.s (.l 0 (.j 1 .n (.s (.s (.j 3 .n .n) .n) .n))) .n)) (.s (.s .n (.s (.l 4 (.s .n (.j 5 .n .n))) .n)) (.s .n (.s .n (.s (.s .n (.s (.l 6 (.s .n (.s (.s (.s .n (.s .n (.s .n (.s .n (.s (.l 7 (.s .n (.s (.s (.s .n (.s .n (.s .n (.s .n (.s .n (.s (.l 8 .n) .n)))))) .n) .n))) .n))))) .n) .n))) .n)) .n)))))))))⟩
abbrev s0 : Sh := [(0, .v y31), (1, .v y32), (5, .v y6), (6, .v (.i .i64)), (7, .v (.i .i64))]
abbrev s1 : Sh := [(0, .v y31), (1, .v y32), (5, .v y6), (6, .v (.i .i64)), (7, .v (.i .i64))]
abbrev s2 : Sh := [(0, .v y31), (5, .v y6)]
abbrev s3 : Sh := [(0, .v y31), (1, .v y32), (5, .v y6), (6, .v (.i .i64)), (7, .v (.i .i64))]
abbrev s4 : Sh := [(0, .v y31), (5, .v y6), (8, .v (.i .i64))]
abbrev s5 : Sh := [(0, .v y31), (5, .v y6), (8, .v (.i .i64))]
abbrev s6 : Sh := [(0, .v y31), (5, .v y6), (9, .v y23), (10, .v (.i .i64))]
abbrev s7 : Sh := [(0, .v y31), (5, .v y6), (9, .v y23), (10, .v (.i .i64)), (12, .v (.i .i64)), (13, .v (.i .i64))]
abbrev s8 : Sh := [(0, .v y31), (5, .v y6), (9, .v y23), (10, .v (.i .i64)), (12, .v (.i .i64)), (13, .v (.i .i64)), (14, .at_ 191), (15, .v (.i .i64)), (191, .box y30)]
def O (k : Nat) : List (Orc (denR ([.c false .b]))) := [⟨s0, fun y => l0 k y.1 y.2.1 y.2.2.1 y.2.2.2.1 y.2.2.2.2.1⟩, ⟨s1, fun y => j1 k y.1 y.2.1 y.2.2.1 y.2.2.2.1 y.2.2.2.2.1⟩, ⟨s2, fun y => j2 k y.1 y.2.1⟩, ⟨s3, fun y => j3 k y.1 y.2.1 y.2.2.1 y.2.2.2.1 y.2.2.2.2.1⟩, ⟨s4, fun y => l4 k y.1 y.2.1 y.2.2.1⟩, ⟨s5, fun y => j5 k y.1 y.2.1 y.2.2.1⟩, ⟨s6, fun y => l6 k y.1 y.2.1 y.2.2.1 y.2.2.2.1⟩, ⟨s7, fun y => l7 k y.1 y.2.1 y.2.2.1 y.2.2.2.1 y.2.2.2.2.1 y.2.2.2.2.2.1⟩, ⟨s8, fun y => l8 k y.1 y.2.1 y.2.2.1 y.2.2.2.1 y.2.2.2.2.1 y.2.2.2.2.2.1 y.2.2.2.2.2.2.2.1 y.2.2.2.2.2.2.2.2.1⟩]
theorem e3 (k : Nat) (y : denS s3) : j3 (k + 1) y.1 y.2.1 y.2.2.1 y.2.2.2.1 y.2.2.2.2.1 = SS.ev d E O k [1, 1, 1, 1, 1, 0, 1, 0, 0, 1, 0, 0, 1] s3 y := by rw [j3]; kernel_rfl
theorem e1 (k : Nat) (y : denS s1) : j1 (k + 1) y.1 y.2.1 y.2.2.1 y.2.2.2.1 y.2.2.2.2.1 = SS.ev d E O k [1, 1, 1, 1, 1, 0, 1, 0, 0, 1] s1 y := by rw [j1]; kernel_rfl
theorem e0 (k : Nat) (y : denS s0) : l0 (k + 1) y.1 y.2.1 y.2.2.1 y.2.2.2.1 y.2.2.2.2.1 = SS.ev d E O k [1, 1, 1, 1, 1, 0, 1, 0, 0] s0 y := by rw [l0]; kernel_rfl
theorem e5 (k : Nat) (y : denS s5) : j5 (k + 1) y.1 y.2.1 y.2.2.1 = SS.ev d E O k [1, 1, 1, 1, 1, 1, 0, 1, 0, 0, 1, 1] s5 y := by rw [j5]; kernel_rfl
theorem e4 (k : Nat) (y : denS s4) : l4 (k + 1) y.1 y.2.1 y.2.2.1 = SS.ev d E O k [1, 1, 1, 1, 1, 1, 0, 1, 0, 0] s4 y := by rw [l4]; kernel_rfl
theorem e8 (k : Nat) (y : denS s8) : l8 (k + 1) y.1 y.2.1 y.2.2.1 y.2.2.2.1 y.2.2.2.2.1 y.2.2.2.2.2.1 y.2.2.2.2.2.2.2.1 y.2.2.2.2.2.2.2.2.1 = SS.ev d E O k [1, 1, 1, 1, 1, 1, 1, 1, 1, 0, 1, 0, 0, 1, 0, 0, 1, 1, 1, 1, 0, 0, 1, 0, 0, 1, 1, 1, 1, 1, 0, 0] s8 y := by rw [l8]; kernel_rfl
theorem e7 (k : Nat) (y : denS s7) : l7 (k + 1) y.1 y.2.1 y.2.2.1 y.2.2.2.1 y.2.2.2.2.1 y.2.2.2.2.2.1 = SS.ev d E O k [1, 1, 1, 1, 1, 1, 1, 1, 1, 0, 1, 0, 0, 1, 0, 0, 1, 1, 1, 1, 0, 0] s7 y := by rw [l7]; kernel_rfl
theorem e6 (k : Nat) (y : denS s6) : l6 (k + 1) y.1 y.2.1 y.2.2.1 y.2.2.2.1 = SS.ev d E O k [1, 1, 1, 1, 1, 1, 1, 1, 1, 0, 1, 0, 0] s6 y := by rw [l6]; kernel_rfl
theorem e2 (k : Nat) (y : denS s2) : j2 (k + 1) y.1 y.2.1 = SS.ev d E O k [1, 1, 1, 1, 1, 1] s2 y := by rw [j2]; kernel_rfl
theorem ok (k : Nat) : EnvOk Try.prog (3, sig k) := fnP SS d E O sig (fun _ => rfl) Try.func3 (by kernel_rfl) rfl (fun k => ⟨regletlaw12_awake.ok k, pages_Of.ok k, regletref12_End.ok k, regletref10_Same.ok k, trivial⟩) ⟨fun _ => rfl, fun _ => rfl, fun _ => rfl, fun _ => rfl, fun _ => rfl, fun _ => rfl, fun _ => rfl, fun _ => rfl, fun _ => rfl, trivial⟩ (by kernel_rfl) (fun k => pc 3 rfl (e3 k) <| pc 1 rfl (e1 k) <| pc 0 rfl (e0 k) <| pc 5 rfl (e5 k) <| pc 4 rfl (e4 k) <| pc 8 rfl (e8 k) <| pc 7 rfl (e7 k) <| pc 6 rfl (e6 k) <| pc 2 rfl (e2 k) <| pn) (fun k x => by kernel_rfl) k
end regletlaw12_PagesOf
end Go.Proofs.Ytkkmmbjaeafhmaa.Vm
