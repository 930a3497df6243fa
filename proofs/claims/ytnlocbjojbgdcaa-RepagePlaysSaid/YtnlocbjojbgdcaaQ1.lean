
import Derived.Test.YtnlocbjojbgdcaaQ0
namespace Go.Proofs.Ytnlocbjojbgdcaa.Vm
open Go
open _root_.Go.RowKit (wrap64)
set_option maxRecDepth 100000
set_option linter.unusedVariables false
namespace repage_Book_Starts
def f (k : Nat) (a0 : A0) : Option (List Int) := if (([] : List Int).length + a0.2.1.length) * 8 ≤ 140737488355328 then (some (([] : List Int) ++ a0.2.1)) else none
def sig (k : Nat) : Sig := .p [(false, y15)] [.c false y0] fun x => f k x.1
def E (k : Nat) : List (Nat × Sig) := []
noncomputable def d : FD := ⟨11, Try.f11, 9, 9, [], [], [], [], [.tmp 2], .n⟩
def O (k : Nat) : List (Orc (denR ([.c false y0]))) := []
theorem ok (k : Nat) : EnvOk Try.prog (11, sig k) := fnP SS d E O sig (fun _ => rfl) Try.func11 (by kernel_rfl) rfl (fun k => trivial) trivial (by kernel_rfl) (fun _ => pn) (fun k x => by kernel_rfl) k
end repage_Book_Starts
namespace repage_Book_edge
def f (k : Nat) (a0 : A0) (a1 : Int) : Option Bool := if (decide (a1 = (a0.1.length : Int))) = true then (some true) else ((at? a0.1 a1).bind fun e => some (decide (e.2.1 = 0)))
def sig (k : Nat) : Sig := .p [(false, y15), (false, (.i .i64))] [.c false .b] fun x => f k x.1 x.2.1
def E (k : Nat) : List (Nat × Sig) := []
noncomputable def d : FD := ⟨37, Try.f37, 23, 23, [], [], [], [], [.tmp 4], .n⟩
def O (k : Nat) : List (Orc (denR ([.c false .b]))) := []
theorem ok (k : Nat) : EnvOk Try.prog (37, sig k) := fnP SS d E O sig (fun _ => rfl) Try.func37 (by kernel_rfl) rfl (fun k => trivial) trivial (by kernel_rfl) (fun _ => pn) (fun k x => by kernel_rfl) k
end repage_Book_edge
namespace repage_Book_whole
mutual
def j0 : Nat → A0 → Int → Int → Option Bool
 | 0, _, _, _ => none
 | k + 1, b, first, gone => (repage_Book_edge.f k b first).bind fun r => if r = true then ((repage_Book_edge.f k b (wrap64 (first + gone))).bind fun r2 => some r2) else (some false)
end
def f (k : Nat) (a0 : A0) (a1 : Int) (a2 : Int) : Option Bool := if (decide (a1 < 0)) = true then (some false) else (if (decide (a2 < 0)) = true then (some false) else (if (decide ((a0.1.length : Int) < a1)) = true then (some false) else (if (decide ((wrap64 ((a0.1.length : Int) - a1)) < a2)) = true then (some false) else (j0 k a0 a1 a2))))
def sig (k : Nat) : Sig := .p [(false, y15), (false, (.i .i64)), (false, (.i .i64))] [.c false .b] fun x => f k x.1 x.2.1 x.2.2.1
def E (k : Nat) : List (Nat × Sig) := [(37, repage_Book_edge.sig k)]
noncomputable def d : FD := ⟨27, Try.f27, 43, 43, [], [], [], [], [.tmp 6], .s .n (.j 0 .n .n)⟩
abbrev s0 : Sh := [(0, .v y15), (1, .v (.i .i64)), (2, .v (.i .i64))]
def O (k : Nat) : List (Orc (denR ([.c false .b]))) := [⟨s0, fun y => j0 k y.1 y.2.1 y.2.2.1⟩]
theorem e0 (k : Nat) (y : denS s0) : j0 (k + 1) y.1 y.2.1 y.2.2.1 = SS.ev d E O k [1, 1] s0 y := by rw [j0]; kernel_rfl
theorem ok (k : Nat) : EnvOk Try.prog (27, sig k) := fnP SS d E O sig (fun _ => rfl) Try.func27 (by kernel_rfl) rfl (fun k => ⟨repage_Book_edge.ok k, trivial⟩) ⟨fun _ => rfl, trivial⟩ (by kernel_rfl) (fun k => pc 0 rfl (e0 k) <| pn) (fun k x => by kernel_rfl) k
end repage_Book_whole
namespace pages_Right
mutual
def l0 : Nat → (List api_Slot) → (List api_Slot) → Int → Int → Option Int
 | 0, _, _, _, _ => none
 | k + 1, t, t2, t3, t4 => if (decide (t4 < t3)) = true then ((at? t2 t4).bind fun e => if (decide (e.1 < 1)) = true then (some 1) else (if (decide (1048576 < e.1)) = true then (some 1) else (if (decide (e.2.1 < 0)) = true then (some 1) else (if (decide (e.2.2.1 ≤ e.2.1)) = true then (some 1) else (j1 k t t4 t2 t3 t4 e))))) else (if (decide (0 < (t.length : Int))) = true then ((at? t (wrap64 ((t.length : Int) - 1))).bind fun e2 => (at? t (wrap64 ((t.length : Int) - 1))).bind fun e3 => if (!decide (e2.2.1 = (wrap64 (e3.2.2.1 - 1)))) = true then (some 1) else (some 0)) else (some 0))
def j1 : Nat → (List api_Slot) → Int → (List api_Slot) → Int → Int → api_Slot → Option Int
 | 0, _, _, _, _, _, _ => none
 | k + 1, t5, t6, t7, t8, t9, t10 => if (decide (t6 = 0)) = true then (if (!decide (t10.2.1 = 0)) = true then (some 1) else (l0 k t5 t7 t8 (wrap64 (t9 + 1)))) else ((at? t5 (wrap64 (t6 - 1))).bind fun e4 => (at? t5 (wrap64 (t6 - 1))).bind fun e5 => if (decide (e4.2.1 = (wrap64 (e5.2.2.1 - 1)))) = true then (if (!decide (t10.2.1 = 0)) = true then (some 1) else (l0 k t5 t7 t8 (wrap64 (t9 + 1)))) else (j2 k t5 t6 t7 t8 t9 t10))
def j2 : Nat → (List api_Slot) → Int → (List api_Slot) → Int → Int → api_Slot → Option Int
 | 0, _, _, _, _, _, _ => none
 | k + 1, t11, t12, t13, t14, t15, t16 => (at? t11 (wrap64 (t12 - 1))).bind fun e6 => if (!decide (t16.2.1 = (wrap64 (e6.2.1 + 1)))) = true then (some 1) else (if (!decide (t16.2.2.1 = e6.2.2.1)) = true then (some 1) else (if (!decide (t16.2.2.2 = e6.2.2.2)) = true then (some 1) else (l0 k t11 t13 t14 (wrap64 (t15 + 1)))))
end
def f (k : Nat) (a0 : (List api_Slot)) : Option Int := l0 k a0 a0 (a0.length : Int) 0
def sig (k : Nat) : Sig := .p [(false, y4)] [.c false (.i .i64)] fun x => f k x.1
def E (k : Nat) : List (Nat × Sig) := []
noncomputable def d : FD := ⟨28, Try.f28, 101, 109, [(4, 101, 4), (5, 105, 4)], [], [], [], [.tmp 2], .s .n (.s (.s .n (.s (.l 0 (.s .n (.s .n (.s (.s (.s .n (.j 1 .n (.j 2 .n .n))) .n) .n)))) .n)) .n)⟩
abbrev s0 : Sh := [(0, .v y4), (7, .v y4), (8, .v (.i .i64)), (9, .v (.i .i64))]
abbrev s1 : Sh := [(0, .v y4), (3, .v (.i .i64)), (4, .at_ 101), (7, .v y4), (8, .v (.i .i64)), (9, .v (.i .i64)), (101, .box y3)]
abbrev s2 : Sh := [(0, .v y4), (3, .v (.i .i64)), (4, .at_ 101), (7, .v y4), (8, .v (.i .i64)), (9, .v (.i .i64)), (101, .box y3)]
def O (k : Nat) : List (Orc (denR ([.c false (.i .i64)]))) := [⟨s0, fun y => l0 k y.1 y.2.1 y.2.2.1 y.2.2.2.1⟩, ⟨s1, fun y => j1 k y.1 y.2.1 y.2.2.2.1 y.2.2.2.2.1 y.2.2.2.2.2.1 y.2.2.2.2.2.2.1⟩, ⟨s2, fun y => j2 k y.1 y.2.1 y.2.2.2.1 y.2.2.2.2.1 y.2.2.2.2.2.1 y.2.2.2.2.2.2.1⟩]
theorem e2 (k : Nat) (y : denS s2) : j2 (k + 1) y.1 y.2.1 y.2.2.2.1 y.2.2.2.2.1 y.2.2.2.2.2.1 y.2.2.2.2.2.2.1 = SS.ev d E O k [1, 0, 1, 0, 0, 1, 1, 0, 0, 1, 1, 1] s2 y := by rw [j2]; kernel_rfl
theorem e1 (k : Nat) (y : denS s1) : j1 (k + 1) y.1 y.2.1 y.2.2.2.1 y.2.2.2.2.1 y.2.2.2.2.2.1 y.2.2.2.2.2.2.1 = SS.ev d E O k [1, 0, 1, 0, 0, 1, 1, 0, 0, 1, 1] s1 y := by rw [j1]; kernel_rfl
theorem e0 (k : Nat) (y : denS s0) : l0 (k + 1) y.1 y.2.1 y.2.2.1 y.2.2.2.1 = SS.ev d E O k [1, 0, 1, 0, 0] s0 y := by rw [l0]; kernel_rfl
theorem ok (k : Nat) : EnvOk Try.prog (28, sig k) := fnP SS d E O sig (fun _ => rfl) Try.func28 (by kernel_rfl) rfl (fun k => trivial) ⟨fun _ => rfl, fun _ => rfl, fun _ => rfl, trivial⟩ (by kernel_rfl) (fun k => pc 2 rfl (e2 k) <| pc 1 rfl (e1 k) <| pc 0 rfl (e0 k) <| pn) (fun k x => by kernel_rfl) k
end pages_Right
namespace pages_Find
mutual
def l0 : Nat → (List Int) → Int → Int → Int → Option Int
 | 0, _, _, _, _ => none
 | k + 1, starts, line, low, high => if (decide (low < high)) = true then ((at? starts (wrap64 ((wrap64 (low + high)).tdiv 2))).bind fun e => if (decide (e ≤ line)) = true then (l0 k starts line (wrap64 ((wrap64 ((wrap64 (low + high)).tdiv 2)) + 1)) high) else (l0 k starts line low (wrap64 ((wrap64 (low + high)).tdiv 2)))) else (some (wrap64 (low - 1)))
end
def f (k : Nat) (a0 : (List Int)) (a1 : Int) : Option Int := l0 k a0 a1 0 (a0.length : Int)
def sig (k : Nat) : Sig := .p [(false, y5), (false, (.i .i64))] [.c false (.i .i64)] fun x => f k x.1 x.2.1
def E (k : Nat) : List (Nat × Sig) := []
noncomputable def d : FD := ⟨38, Try.f38, 28, 28, [], [], [], [], [.tmp 4], .s .n (.s .n (.s (.s (.l 0 .n) .n) .n))⟩
abbrev s0 : Sh := [(0, .v y5), (1, .v (.i .i64)), (5, .v (.i .i64)), (6, .v (.i .i64))]
def O (k : Nat) : List (Orc (denR ([.c false (.i .i64)]))) := [⟨s0, fun y => l0 k y.1 y.2.1 y.2.2.1 y.2.2.2.1⟩]
theorem e0 (k : Nat) (y : denS s0) : l0 (k + 1) y.1 y.2.1 y.2.2.1 y.2.2.2.1 = SS.ev d E O k [1, 1, 0, 0, 0] s0 y := by rw [l0]; kernel_rfl
theorem ok (k : Nat) : EnvOk Try.prog (38, sig k) := fnP SS d E O sig (fun _ => rfl) Try.func38 (by kernel_rfl) rfl (fun k => trivial) ⟨fun _ => rfl, trivial⟩ (by kernel_rfl) (fun k => pc 0 rfl (e0 k) <| pn) (fun k x => by kernel_rfl) k
end pages_Find
namespace repage_Book_restart
def f (k : Nat) (a0 : A0) (a1 : Int) : Option Int := (pages_Find.f k a0.2.1 a1).bind fun r => some (if 0 < (wrap64 (r - 1)) then (wrap64 (r - 1)) else 0)
def sig (k : Nat) : Sig := .p [(false, y15), (false, (.i .i64))] [.c false (.i .i64)] fun x => f k x.1 x.2.1
def E (k : Nat) : List (Nat × Sig) := [(38, pages_Find.sig k)]
noncomputable def d : FD := ⟨29, Try.f29, 13, 13, [], [], [], [], [.tmp 4], .n⟩
def O (k : Nat) : List (Orc (denR ([.c false (.i .i64)]))) := []
theorem ok (k : Nat) : EnvOk Try.prog (29, sig k) := fnP SS d E O sig (fun _ => rfl) Try.func29 (by kernel_rfl) rfl (fun k => ⟨pages_Find.ok k, trivial⟩) trivial (by kernel_rfl) (fun _ => pn) (fun k x => by kernel_rfl) k
end repage_Book_restart
namespace pages_May
def f (k : Nat) (a0 : api_Slot) (a1 : api_Settings) : Option Bool := if (decide (a0.2.1 = (wrap64 (a0.2.2.1 - 1)))) = true then (some (!a0.2.2.2)) else (if (decide (a1.2.2.2.2.2.1 ≤ (wrap64 (a0.2.1 + 1)))) = true then (some (decide (a1.2.2.2.2.2.2 ≤ (wrap64 ((wrap64 (a0.2.2.1 - 1)) - a0.2.1))))) else (some false))
def sig (k : Nat) : Sig := .p [(true, y3), (true, y11)] [.c false .b] fun x => f k x.1 x.2.1
def E (k : Nat) : List (Nat × Sig) := []
noncomputable def d : FD := ⟨40, Try.f40, 31, 42, [(2, 31, 4), (3, 35, 7)], [], [], [], [.tmp 4], .n⟩
def O (k : Nat) : List (Orc (denR ([.c false .b]))) := []
theorem ok (k : Nat) : EnvOk Try.prog (40, sig k) := fnP SS d E O sig (fun _ => rfl) Try.func40 (by kernel_rfl) rfl (fun k => trivial) trivial (by kernel_rfl) (fun _ => pn) (fun k x => by kernel_rfl) k
end pages_May
namespace pages_Next
mutual
def l0 : Nat → (List api_Slot) → Int → Int → Int → Int → Int → api_Settings → Option Int
 | 0, _, _, _, _, _, _, _ => none
 | k + 1, list, from_, height, sum, end_, k_, set_ => if (decide (k_ < (list.length : Int))) = true then ((at? list k_).bind fun e => if (decide (height < (wrap64 (sum + e.1)))) = true then (if (decide (from_ < end_)) = true then (some end_) else (j1 k list from_ height (wrap64 (sum + e.1)) end_ k_ set_)) else (j1 k list from_ height (wrap64 (sum + e.1)) end_ k_ set_)) else (some end_)
def j1 : Nat → (List api_Slot) → Int → Int → Int → Int → Int → api_Settings → Option Int
 | 0, _, _, _, _, _, _, _ => none
 | k + 1, list2, from_2, height2, sum2, end_2, k_2, set_2 => (at? list2 k_2).bind fun e2 => (pages_May.f k e2 set_2).bind fun r => if r = true then (j2 k list2 from_2 height2 sum2 (wrap64 (k_2 + 1)) k_2 set_2) else (if (decide (k_2 = (wrap64 ((list2.length : Int) - 1)))) = true then (j2 k list2 from_2 height2 sum2 (wrap64 (k_2 + 1)) k_2 set_2) else (j3 k list2 from_2 height2 sum2 end_2 k_2 set_2))
def j2 : Nat → (List api_Slot) → Int → Int → Int → Int → Int → api_Settings → Option Int
 | 0, _, _, _, _, _, _, _ => none
 | k + 1, list3, from_3, height3, sum3, end_3, k_3, set_3 => if (decide (height3 < sum3)) = true then (some end_3) else (j3 k list3 from_3 height3 sum3 end_3 k_3 set_3)
def j3 : Nat → (List api_Slot) → Int → Int → Int → Int → Int → api_Settings → Option Int
 | 0, _, _, _, _, _, _, _ => none
 | k + 1, list4, from_4, height4, sum4, end_4, k_4, set_4 => l0 k list4 from_4 height4 sum4 end_4 (wrap64 (k_4 + 1)) set_4
end
def f (k : Nat) (a0 : (List api_Slot)) (a1 : Int) (a2 : Int) (a3 : api_Settings) : Option Int := l0 k a0 a1 a2 0 a1 a1 a3
def sig (k : Nat) : Sig := .p [(false, y4), (false, (.i .i64)), (false, (.i .i64)), (true, y11)] [.c false (.i .i64)] fun x => f k x.1 x.2.1 x.2.2.1 x.2.2.2.1
def E (k : Nat) : List (Nat × Sig) := [(40, pages_May.sig k)]
noncomputable def d : FD := ⟨32, Try.f32, 56, 63, [(7, 56, 7)], [], [], [], [.tmp 8], .s .n (.s .n (.s (.s .n (.s (.l 0 (.s .n (.j 3 (.s (.s .n (.j 1 .n (.s .n (.s (.j 2 .n .n) .n)))) .n) .n))) .n)) .n))⟩
abbrev s0 : Sh := [(0, .v y4), (1, .v (.i .i64)), (2, .v (.i .i64)), (7, .at_ 56), (9, .v (.i .i64)), (10, .v (.i .i64)), (11, .v (.i .i64)), (56, .box y11)]
abbrev s1 : Sh := [(0, .v y4), (1, .v (.i .i64)), (2, .v (.i .i64)), (7, .at_ 56), (9, .v (.i .i64)), (10, .v (.i .i64)), (11, .v (.i .i64)), (56, .box y11)]
abbrev s2 : Sh := [(0, .v y4), (1, .v (.i .i64)), (2, .v (.i .i64)), (7, .at_ 56), (9, .v (.i .i64)), (10, .v (.i .i64)), (11, .v (.i .i64)), (56, .box y11)]
abbrev s3 : Sh := [(0, .v y4), (1, .v (.i .i64)), (2, .v (.i .i64)), (7, .at_ 56), (9, .v (.i .i64)), (10, .v (.i .i64)), (11, .v (.i .i64)), (56, .box y11)]
def O (k : Nat) : List (Orc (denR ([.c false (.i .i64)]))) := [⟨s0, fun y => l0 k y.1 y.2.1 y.2.2.1 y.2.2.2.2.1 y.2.2.2.2.2.1 y.2.2.2.2.2.2.1 y.2.2.2.2.2.2.2.1⟩, ⟨s1, fun y => j1 k y.1 y.2.1 y.2.2.1 y.2.2.2.2.1 y.2.2.2.2.2.1 y.2.2.2.2.2.2.1 y.2.2.2.2.2.2.2.1⟩, ⟨s2, fun y => j2 k y.1 y.2.1 y.2.2.1 y.2.2.2.2.1 y.2.2.2.2.2.1 y.2.2.2.2.2.2.1 y.2.2.2.2.2.2.2.1⟩, ⟨s3, fun y => j3 k y.1 y.2.1 y.2.2.1 y.2.2.2.2.1 y.2.2.2.2.2.1 y.2.2.2.2.2.2.1 y.2.2.2.2.2.2.2.1⟩]
theorem e2 (k : Nat) (y : denS s2) : j2 (k + 1) y.1 y.2.1 y.2.2.1 y.2.2.2.2.1 y.2.2.2.2.2.1 y.2.2.2.2.2.2.1 y.2.2.2.2.2.2.2.1 = SS.ev d E O k [1, 1, 0, 1, 0, 0, 1, 0, 0, 1, 1, 1, 0, 1] s2 y := by rw [j2]; kernel_rfl
theorem e1 (k : Nat) (y : denS s1) : j1 (k + 1) y.1 y.2.1 y.2.2.1 y.2.2.2.2.1 y.2.2.2.2.2.1 y.2.2.2.2.2.2.1 y.2.2.2.2.2.2.2.1 = SS.ev d E O k [1, 1, 0, 1, 0, 0, 1, 0, 0, 1, 1] s1 y := by rw [j1]; kernel_rfl
theorem e3 (k : Nat) (y : denS s3) : j3 (k + 1) y.1 y.2.1 y.2.2.1 y.2.2.2.2.1 y.2.2.2.2.2.1 y.2.2.2.2.2.2.1 y.2.2.2.2.2.2.2.1 = SS.ev d E O k [1, 1, 0, 1, 0, 0, 1, 1] s3 y := by rw [j3]; kernel_rfl
theorem e0 (k : Nat) (y : denS s0) : l0 (k + 1) y.1 y.2.1 y.2.2.1 y.2.2.2.2.1 y.2.2.2.2.2.1 y.2.2.2.2.2.2.1 y.2.2.2.2.2.2.2.1 = SS.ev d E O k [1, 1, 0, 1, 0, 0] s0 y := by rw [l0]; kernel_rfl
theorem ok (k : Nat) : EnvOk Try.prog (32, sig k) := fnP SS d E O sig (fun _ => rfl) Try.func32 (by kernel_rfl) rfl (fun k => ⟨pages_May.ok k, trivial⟩) ⟨fun _ => rfl, fun _ => rfl, fun _ => rfl, fun _ => rfl, trivial⟩ (by kernel_rfl) (fun k => pc 2 rfl (e2 k) <| pc 1 rfl (e1 k) <| pc 3 rfl (e3 k) <| pc 0 rfl (e0 k) <| pn) (fun k x => by kernel_rfl) k
end pages_Next
namespace repage_Book_again
mutual
def j0 : Nat → A0 → (List api_Slot) → Int → Int → (List Int) → Int → Option (List Int × Int)
 | 0, _, _, _, _, _, _ => none
 | k + 1, t, t2, t3, t4, t5, t6 => l1 k t t2 t3 t4 t5 t6 0
def l1 : Nat → A0 → (List api_Slot) → Int → Int → (List Int) → Int → Int → Option (List Int × Int)
 | 0, _, _, _, _, _, _, _ => none
 | k + 1, t7, t8, t9, t10, t11, t12, t13 => if (decide (t12 < (t8.length : Int))) = true then (if (decide (t9 ≤ (wrap64 (t12 - t10)))) = true then ((pages_Find.f k t7.2.1 (wrap64 (t12 - t10))).bind fun r => if (decide (0 ≤ r)) = true then ((at? t7.2.1 r).bind fun e2 => if (decide (e2 = (wrap64 (t12 - t10)))) = true then (if 0 ≤ r ∧ r ≤ (t7.2.1.length : Int) ∧ (t7.2.1.length : Int) ≤ (t7.2.1.length : Int) then (j2 k t10 t11 t13 ((t7.2.1.drop r.toNat).take ((t7.2.1.length : Int).toNat - r.toNat)) (((t7.2.1.drop r.toNat).take ((t7.2.1.length : Int).toNat - r.toNat)).length : Int) 0) else none) else (j3 k t7 t8 t9 t10 t11 t12 t13)) else (j3 k t7 t8 t9 t10 t11 t12 t13)) else (j3 k t7 t8 t9 t10 t11 t12 t13)) else (some (t11, t13))
def j2 : Nat → Int → (List Int) → Int → (List Int) → Int → Int → Option (List Int × Int)
 | 0, _, _, _, _, _, _ => none
 | k + 1, t14, t15, t16, t17, t18, t19 => l4 k t14 t15 t16 t17 t18 t19
def j3 : Nat → A0 → (List api_Slot) → Int → Int → (List Int) → Int → Int → Option (List Int × Int)
 | 0, _, _, _, _, _, _, _ => none
 | k + 1, t20, t21, t22, t23, t24, t25, t26 => if (t24.length + ([t25] : List Int).length) * 8 ≤ 140737488355328 then ((pages_Next.f k t21 t25 t20.2.2.1 t20.2.2.2).bind fun r2 => l1 k t20 t21 t22 t23 (t24 ++ ([t25] : List Int)) r2 (wrap64 (t26 + 1))) else none
def l4 : Nat → Int → (List Int) → Int → (List Int) → Int → Int → Option (List Int × Int)
 | 0, _, _, _, _, _, _ => none
 | k + 1, t27, t28, t29, t30, t31, t32 => if (decide (t32 < t31)) = true then ((at? t30 t32).bind fun e3 => if (t28.length + ([wrap64 (e3 + t27)] : List Int).length) * 8 ≤ 140737488355328 then (l4 k t27 (t28 ++ ([wrap64 (e3 + t27)] : List Int)) t29 t30 t31 (wrap64 (t32 + 1))) else none) else (some (t28, t29))
end
def f (k : Nat) (a0 : A0) (a1 : (List api_Slot)) (a2 : Int) (a3 : Int) (a4 : Int) : Option (List Int × Int) := if 0 ≤ (0 : Int) ∧ (0 : Int) ≤ (if (a0.2.1.length : Int) < a2 then (a0.2.1.length : Int) else a2) ∧ (if (a0.2.1.length : Int) < a2 then (a0.2.1.length : Int) else a2) ≤ (a0.2.1.length : Int) then (if (([] : List Int).length + ((a0.2.1.drop ((0 : Int).toNat)).take ((if (a0.2.1.length : Int) < a2 then (a0.2.1.length : Int) else a2).toNat - (0 : Int).toNat)).length) * 8 ≤ 140737488355328 then (if (decide (a2 < (a0.2.1.length : Int))) = true then ((at? a0.2.1 a2).bind fun e => j0 k a0 a1 a3 a4 (([] : List Int) ++ ((a0.2.1.drop ((0 : Int).toNat)).take ((if (a0.2.1.length : Int) < a2 then (a0.2.1.length : Int) else a2).toNat - (0 : Int).toNat))) e) else (j0 k a0 a1 a3 a4 (([] : List Int) ++ ((a0.2.1.drop ((0 : Int).toNat)).take ((if (a0.2.1.length : Int) < a2 then (a0.2.1.length : Int) else a2).toNat - (0 : Int).toNat))) 0)) else none) else none
def sig (k : Nat) : Sig := .p [(false, y15), (false, y4), (false, (.i .i64)), (false, (.i .i64)), (false, (.i .i64))] [.c false y0, .c false (.i .i64)] fun x => f k x.1 x.2.1 x.2.2.1 x.2.2.2.1 x.2.2.2.2.1
def E (k : Nat) : List (Nat × Sig) := [(32, pages_Next.sig k), (38, pages_Find.sig k)]
noncomputable def d : FD := ⟨30, Try.f30, 115, 115, [], [], [], [], [.tmp 10, .tmp 11], .s .n (.s .n (.s .n (.j 0 .n (.s .n (.s (.s (.l 1 (.s .n (.s (.j 3 (.s .n (.s .n (.s (.s .n (.s .n (.s (.s (.j 2 .n (.s (.l 4 .n) .n)) .n) .n))) .n))) .n) .n))) .n) .n)))))⟩
abbrev s0 : Sh := [(0, .v y15), (1, .v y4), (3, .v (.i .i64)), (4, .v (.i .i64)), (12, .v y0), (13, .v (.i .i64))]
abbrev s1 : Sh := [(0, .v y15), (1, .v y4), (3, .v (.i .i64)), (4, .v (.i .i64)), (12, .v y0), (13, .v (.i .i64)), (14, .v (.i .i64))]
abbrev s2 : Sh := [(4, .v (.i .i64)), (12, .v y0), (14, .v (.i .i64)), (81, .v y5), (82, .v (.i .i64)), (83, .v (.i .i64))]
abbrev s3 : Sh := [(0, .v y15), (1, .v y4), (3, .v (.i .i64)), (4, .v (.i .i64)), (12, .v y0), (13, .v (.i .i64)), (14, .v (.i .i64))]
abbrev s4 : Sh := [(4, .v (.i .i64)), (12, .v y0), (14, .v (.i .i64)), (81, .v y5), (82, .v (.i .i64)), (83, .v (.i .i64))]
def O (k : Nat) : List (Orc (denR ([.c false y0, .c false (.i .i64)]))) := [⟨s0, fun y => j0 k y.1 y.2.1 y.2.2.1 y.2.2.2.1 y.2.2.2.2.1 y.2.2.2.2.2.1⟩, ⟨s1, fun y => l1 k y.1 y.2.1 y.2.2.1 y.2.2.2.1 y.2.2.2.2.1 y.2.2.2.2.2.1 y.2.2.2.2.2.2.1⟩, ⟨s2, fun y => j2 k y.1 y.2.1 y.2.2.1 y.2.2.2.1 y.2.2.2.2.1 y.2.2.2.2.2.1⟩, ⟨s3, fun y => j3 k y.1 y.2.1 y.2.2.1 y.2.2.2.1 y.2.2.2.2.1 y.2.2.2.2.2.1 y.2.2.2.2.2.2.1⟩, ⟨s4, fun y => l4 k y.1 y.2.1 y.2.2.1 y.2.2.2.1 y.2.2.2.2.1 y.2.2.2.2.2.1⟩]
theorem e4 (k : Nat) (y : denS s4) : l4 (k + 1) y.1 y.2.1 y.2.2.1 y.2.2.2.1 y.2.2.2.2.1 y.2.2.2.2.2.1 = SS.ev d E O k [1, 1, 1, 1, 1, 0, 0, 0, 1, 0, 0, 1, 1, 0, 1, 1, 0, 0, 1, 0, 0] s4 y := by rw [l4]; kernel_rfl
theorem e2 (k : Nat) (y : denS s2) : j2 (k + 1) y.1 y.2.1 y.2.2.1 y.2.2.2.1 y.2.2.2.2.1 y.2.2.2.2.2.1 = SS.ev d E O k [1, 1, 1, 1, 1, 0, 0, 0, 1, 0, 0, 1, 1, 0, 1, 1, 0, 0, 1] s2 y := by rw [j2]; kernel_rfl
theorem e3 (k : Nat) (y : denS s3) : j3 (k + 1) y.1 y.2.1 y.2.2.1 y.2.2.2.1 y.2.2.2.2.1 y.2.2.2.2.2.1 y.2.2.2.2.2.2.1 = SS.ev d E O k [1, 1, 1, 1, 1, 0, 0, 0, 1, 0, 1] s3 y := by rw [j3]; kernel_rfl
theorem e1 (k : Nat) (y : denS s1) : l1 (k + 1) y.1 y.2.1 y.2.2.1 y.2.2.2.1 y.2.2.2.2.1 y.2.2.2.2.2.1 y.2.2.2.2.2.2.1 = SS.ev d E O k [1, 1, 1, 1, 1, 0, 0, 0] s1 y := by rw [l1]; kernel_rfl
theorem e0 (k : Nat) (y : denS s0) : j0 (k + 1) y.1 y.2.1 y.2.2.1 y.2.2.2.1 y.2.2.2.2.1 y.2.2.2.2.2.1 = SS.ev d E O k [1, 1, 1, 1] s0 y := by rw [j0]; kernel_rfl
theorem ok (k : Nat) : EnvOk Try.prog (30, sig k) := fnP SS d E O sig (fun _ => rfl) Try.func30 (by kernel_rfl) rfl (fun k => ⟨pages_Next.ok k, pages_Find.ok k, trivial⟩) ⟨fun _ => rfl, fun _ => rfl, fun _ => rfl, fun _ => rfl, fun _ => rfl, trivial⟩ (by kernel_rfl) (fun k => pc 4 rfl (e4 k) <| pc 2 rfl (e2 k) <| pc 3 rfl (e3 k) <| pc 1 rfl (e1 k) <| pc 0 rfl (e0 k) <| pn) (fun k x => by kernel_rfl) k
end repage_Book_again
namespace repage_Book_Replace
def f (k : Nat) (a0 : A0) (a1 : Int) (a2 : Int) (a3 : (List api_Slot)) : Option A1 := (repage_Book_whole.f k a0 a1 a2).bind fun r => if (!r) = true then (some (0, 0, 1, a0)) else ((pages_Right.f k a3).bind fun r2 => if (!decide (r2 = 0)) = true then (some (0, 0, r2, a0)) else (if 0 ≤ (0 : Int) ∧ (0 : Int) ≤ a1 ∧ a1 ≤ (a0.1.length : Int) then (if (0 : Int).toNat + (a1.toNat - (0 : Int).toNat) ≤ a0.1.length then (if (([] : List api_Slot).length + ((a0.1.drop (0 : Int).toNat).take (a1.toNat - (0 : Int).toNat)).length) * 32 ≤ 140737488355328 then (if ((([] : List api_Slot) ++ ((a0.1.drop (0 : Int).toNat).take (a1.toNat - (0 : Int).toNat))).length + a3.length) * 32 ≤ 140737488355328 then (if 0 ≤ (wrap64 (a1 + a2)) ∧ (wrap64 (a1 + a2)) ≤ (a0.1.length : Int) ∧ (a0.1.length : Int) ≤ (a0.1.length : Int) then (if (wrap64 (a1 + a2)).toNat + ((a0.1.length : Int).toNat - (wrap64 (a1 + a2)).toNat) ≤ a0.1.length then (if (((([] : List api_Slot) ++ ((a0.1.drop (0 : Int).toNat).take (a1.toNat - (0 : Int).toNat))) ++ a3).length + ((a0.1.drop (wrap64 (a1 + a2)).toNat).take ((a0.1.length : Int).toNat - (wrap64 (a1 + a2)).toNat)).length) * 32 ≤ 140737488355328 then ((repage_Book_restart.f k a0 a1).bind fun r3 => (repage_Book_again.f k a0 (((([] : List api_Slot) ++ ((a0.1.drop (0 : Int).toNat).take (a1.toNat - (0 : Int).toNat))) ++ a3) ++ ((a0.1.drop (wrap64 (a1 + a2)).toNat).take ((a0.1.length : Int).toNat - (wrap64 (a1 + a2)).toNat))) r3 (wrap64 (a1 + a2)) (wrap64 ((a3.length : Int) - a2))).bind fun r4 => some (r3, r4.2, 0, (((([] : List api_Slot) ++ ((a0.1.drop (0 : Int).toNat).take (a1.toNat - (0 : Int).toNat))) ++ a3) ++ ((a0.1.drop (wrap64 (a1 + a2)).toNat).take ((a0.1.length : Int).toNat - (wrap64 (a1 + a2)).toNat)), r4.1, a0.2.2.1, a0.2.2.2.1, a0.2.2.2.2.1, a0.2.2.2.2.2.1, a0.2.2.2.2.2.2.1, a0.2.2.2.2.2.2.2.1, a0.2.2.2.2.2.2.2.2.1, a0.2.2.2.2.2.2.2.2.2))) else none) else none) else none) else none) else none) else none) else none))
def sig (k : Nat) : Sig := .l y18 [(false, (.i .i64)), (false, (.i .i64)), (false, y4)] [.c false (.i .i64), .c false (.i .i64), .c false (.i .i64)] fun b x => f k b x.1 x.2.1 x.2.2.1
def E (k : Nat) : List (Nat × Sig) := [(27, repage_Book_whole.sig k), (28, pages_Right.sig k), (29, repage_Book_restart.sig k), (30, repage_Book_again.sig k)]
noncomputable def d : FD := ⟨12, Try.f12, 74, 84, [(0, 74, 10)], [0], [], [], [.tmp 8, .tmp 9, .tmp 10], .n⟩
def O (k : Nat) : List (Orc (denR ([.c false (.i .i64), .c false (.i .i64), .c false (.i .i64)] ++ [.c true y18]))) := []
theorem ok (k : Nat) : EnvOk Try.prog (12, sig k) := fnL SS d E O sig (fun _ => rfl) Try.func12 (by kernel_rfl) rfl (fun k => ⟨repage_Book_whole.ok k, pages_Right.ok k, repage_Book_restart.ok k, repage_Book_again.ok k, trivial⟩) trivial (by kernel_rfl) (fun _ => pn) (fun k b x => by kernel_rfl) k
end repage_Book_Replace
namespace measure_Check
mutual
def l0 : Nat → (List Int) → Int → Int → api_Settings → Option Int
 | 0, _, _, _, _ => none
 | k + 1, t, t2, t3, s => if (decide (t3 < t2)) = true then (if 0 ≤ t3 ∧ t3 < (t.length : Int) then ((t[t3.toNat]?).bind fun e => if (decide (e < 0)) = true then (some 80) else (if (decide (10000 < e)) = true then (some 80) else (l0 k t t2 (wrap64 (t3 + 1)) s))) else none) else (l1 k ([s.2.2.1, s.2.2.2.1, s.2.2.2.2.1] : List Int) (([s.2.2.1, s.2.2.2.1, s.2.2.2.2.1] : List Int).length : Int) 0 s)
def l1 : Nat → (List Int) → Int → Int → api_Settings → Option Int
 | 0, _, _, _, _ => none
 | k + 1, t4, t5, t6, s2 => if (decide (t6 < t5)) = true then (if 0 ≤ t6 ∧ t6 < (t4.length : Int) then ((t4[t6.toNat]?).bind fun e2 => if (decide (e2 < 0)) = true then (some 80) else (if (decide (1048576 < e2)) = true then (some 80) else (l1 k t4 t5 (wrap64 (t6 + 1)) s2))) else none) else (l2 k ([s2.2.2.2.2.2.1, s2.2.2.2.2.2.2] : List Int) (([s2.2.2.2.2.2.1, s2.2.2.2.2.2.2] : List Int).length : Int) 0)
def l2 : Nat → (List Int) → Int → Int → Option Int
 | 0, _, _, _ => none
 | k + 1, t7, t8, t9 => if (decide (t9 < t8)) = true then (if 0 ≤ t9 ∧ t9 < (t7.length : Int) then ((t7[t9.toNat]?).bind fun e3 => if (decide (e3 < 1)) = true then (some 80) else (if (decide (100 < e3)) = true then (some 80) else (l2 k t7 t8 (wrap64 (t9 + 1))))) else none) else (some 0)
end
def f (k : Nat) (a0 : api_Settings) : Option Int := l0 k ([a0.1, a0.2.1] : List Int) (([a0.1, a0.2.1] : List Int).length : Int) 0 a0
def sig (k : Nat) : Sig := .p [(true, y11)] [.c false (.i .i64)] fun x => f k x.1
def E (k : Nat) : List (Nat × Sig) := []
noncomputable def d : FD := ⟨39, Try.f39, 62, 69, [(1, 62, 7)], [], [], [], [.tmp 2], .s .n (.s (.s .n (.s (.l 0 .n) .n)) (.s (.s .n (.s (.l 1 .n) .n)) (.s (.s .n (.s (.l 2 .n) .n)) .n)))⟩
abbrev s0 : Sh := [(1, .at_ 62), (13, .v y0), (14, .v (.i .i64)), (15, .v (.i .i64)), (62, .box y11)]
abbrev s1 : Sh := [(1, .at_ 62), (32, .v y0), (33, .v (.i .i64)), (34, .v (.i .i64)), (62, .box y11)]
abbrev s2 : Sh := [(49, .v y0), (50, .v (.i .i64)), (51, .v (.i .i64))]
def O (k : Nat) : List (Orc (denR ([.c false (.i .i64)]))) := [⟨s0, fun y => l0 k y.2.1 y.2.2.1 y.2.2.2.1 y.2.2.2.2.1⟩, ⟨s1, fun y => l1 k y.2.1 y.2.2.1 y.2.2.2.1 y.2.2.2.2.1⟩, ⟨s2, fun y => l2 k y.1 y.2.1 y.2.2.1⟩]
theorem e0 (k : Nat) (y : denS s0) : l0 (k + 1) y.2.1 y.2.2.1 y.2.2.2.1 y.2.2.2.2.1 = SS.ev d E O k [1, 0, 1, 0, 0] s0 y := by rw [l0]; kernel_rfl
theorem e1 (k : Nat) (y : denS s1) : l1 (k + 1) y.2.1 y.2.2.1 y.2.2.2.1 y.2.2.2.2.1 = SS.ev d E O k [1, 1, 0, 1, 0, 0] s1 y := by rw [l1]; kernel_rfl
theorem e2 (k : Nat) (y : denS s2) : l2 (k + 1) y.1 y.2.1 y.2.2.1 = SS.ev d E O k [1, 1, 1, 0, 1, 0, 0] s2 y := by rw [l2]; kernel_rfl
theorem ok (k : Nat) : EnvOk Try.prog (39, sig k) := fnP SS d E O sig (fun _ => rfl) Try.func39 (by kernel_rfl) rfl (fun k => trivial) ⟨fun _ => rfl, fun _ => rfl, fun _ => rfl, trivial⟩ (by kernel_rfl) (fun k => pc 0 rfl (e0 k) <| pc 1 rfl (e1 k) <| pc 2 rfl (e2 k) <| pn) (fun k x => by kernel_rfl) k
end measure_Check
namespace pages_Check
mutual
def j0 : Nat → api_Settings → Option Int
 | 0, _ => none
 | k + 1, set_ => (measure_Check.f k set_).bind fun r => some r
end
def f (k : Nat) (a0 : Int) (a1 : api_Settings) : Option Int := if (decide (a0 < 1)) = true then (some 41) else (if (decide (1073741824 < a0)) = true then (some 41) else (j0 k a1))
def sig (k : Nat) : Sig := .p [(false, (.i .i64)), (true, y11)] [.c false (.i .i64)] fun x => f k x.1 x.2.1
def E (k : Nat) : List (Nat × Sig) := [(39, measure_Check.sig k)]
noncomputable def d : FD := ⟨31, Try.f31, 13, 20, [(3, 13, 7)], [], [], [], [.tmp 4], .s .n (.j 0 .n .n)⟩
abbrev s0 : Sh := [(3, .at_ 13), (13, .box y11)]
def O (k : Nat) : List (Orc (denR ([.c false (.i .i64)]))) := [⟨s0, fun y => j0 k y.2.1⟩]
theorem e0 (k : Nat) (y : denS s0) : j0 (k + 1) y.2.1 = SS.ev d E O k [1, 1] s0 y := by rw [j0]; kernel_rfl
theorem ok (k : Nat) : EnvOk Try.prog (31, sig k) := fnP SS d E O sig (fun _ => rfl) Try.func31 (by kernel_rfl) rfl (fun k => ⟨measure_Check.ok k, trivial⟩) ⟨fun _ => rfl, trivial⟩ (by kernel_rfl) (fun k => pc 0 rfl (e0 k) <| pn) (fun k x => by kernel_rfl) k
end pages_Check
namespace pages_Paginate
mutual
def l0 : Nat → (List api_Slot) → Int → (List Int) → Int → api_Settings → Option (List Int × Int)
 | 0, _, _, _, _, _ => none
 | k + 1, list, height, out, from_, set_ => if (decide (from_ < (list.length : Int))) = true then (if (out.length + ([from_] : List Int).length) * 8 ≤ 140737488355328 then ((pages_Next.f k list from_ height set_).bind fun r3 => l0 k list height (out ++ ([from_] : List Int)) r3 set_) else none) else (some (out, 0))
end
def f (k : Nat) (a0 : (List api_Slot)) (a1 : Int) (a2 : api_Settings) : Option (List Int × Int) := (pages_Check.f k a1 a2).bind fun r => if (!decide (r = 0)) = true then (some (([] : List Int), r)) else ((pages_Right.f k a0).bind fun r2 => if (!decide (r2 = 0)) = true then (some (([] : List Int), r2)) else (l0 k a0 a1 ([] : List Int) 0 a2))
def sig (k : Nat) : Sig := .p [(false, y4), (false, (.i .i64)), (true, y11)] [.c false y0, .c false (.i .i64)] fun x => f k x.1 x.2.1 x.2.2.1
def E (k : Nat) : List (Nat × Sig) := [(28, pages_Right.sig k), (31, pages_Check.sig k), (32, pages_Next.sig k)]
noncomputable def d : FD := ⟨14, Try.f14, 37, 44, [(5, 37, 7)], [], [], [], [.tmp 6, .tmp 7], .s .n (.s .n (.s .n (.s .n (.s (.s .n (.s (.l 0 .n) .n)) .n))))⟩
abbrev s0 : Sh := [(0, .v y4), (1, .v (.i .i64)), (5, .at_ 37), (10, .v y0), (11, .v (.i .i64)), (37, .box y11)]
def O (k : Nat) : List (Orc (denR ([.c false y0, .c false (.i .i64)]))) := [⟨s0, fun y => l0 k y.1 y.2.1 y.2.2.2.1 y.2.2.2.2.1 y.2.2.2.2.2.1⟩]
theorem e0 (k : Nat) (y : denS s0) : l0 (k + 1) y.1 y.2.1 y.2.2.2.1 y.2.2.2.2.1 y.2.2.2.2.2.1 = SS.ev d E O k [1, 1, 1, 1, 0, 1, 0, 0] s0 y := by rw [l0]; kernel_rfl
theorem ok (k : Nat) : EnvOk Try.prog (14, sig k) := fnP SS d E O sig (fun _ => rfl) Try.func14 (by kernel_rfl) rfl (fun k => ⟨pages_Right.ok k, pages_Check.ok k, pages_Next.ok k, trivial⟩) ⟨fun _ => rfl, trivial⟩ (by kernel_rfl) (fun k => pc 0 rfl (e0 k) <| pn) (fun k x => by kernel_rfl) k
end pages_Paginate
namespace repage_New
def f (k : Nat) (a0 : (List api_Slot)) (a1 : Int) (a2 : api_Settings) : Option A2 := (pages_Paginate.f k a0 a1 a2).bind fun r => if (!decide (r.2 = 0)) = true then (some (none, r.2)) else (if (([] : List api_Slot).length + a0.length) * 32 ≤ 140737488355328 then (some (some (([] : List api_Slot) ++ a0, r.1, a1, a2.1, a2.2.1, a2.2.2.1, a2.2.2.2.1, a2.2.2.2.2.1, a2.2.2.2.2.2.1, a2.2.2.2.2.2.2), 0)) else none)
def sig (k : Nat) : Sig := .p [(false, y4), (false, (.i .i64)), (true, y11)] [.o y18, .c false (.i .i64)] fun x => f k x.1 x.2.1 x.2.2.1
def E (k : Nat) : List (Nat × Sig) := [(14, pages_Paginate.sig k)]
noncomputable def d : FD := ⟨13, Try.f13, 28, 45, [(5, 28, 7), (27, 35, 10)], [], [], [], [.tmp 6, .tmp 7], .n⟩
def O (k : Nat) : List (Orc (denR ([.o y18, .c false (.i .i64)]))) := []
theorem ok (k : Nat) : EnvOk Try.prog (13, sig k) := fnP SS d E O sig (fun _ => rfl) Try.func13 (by kernel_rfl) rfl (fun k => ⟨pages_Paginate.ok k, trivial⟩) trivial (by kernel_rfl) (fun _ => pn) (fun k x => by kernel_rfl) k
end repage_New
namespace regletref12_Same
mutual
def l0 : Nat → (List Int) → (List Int) → Int → Option Bool
 | 0, _, _, _ => none
 | k + 1, a, b, i => if (decide (i < (a.length : Int))) = true then ((at? a i).bind fun e => (at? b i).bind fun e2 => if (!decide (e = e2)) = true then (some false) else (l0 k a b (wrap64 (i + 1)))) else (some true)
end
def f (k : Nat) (a0 : (List Int)) (a1 : (List Int)) : Option Bool := if (!decide ((a0.length : Int) = (a1.length : Int))) = true then (some false) else (l0 k a0 a1 0)
def sig (k : Nat) : Sig := .p [(false, y5), (false, y5)] [.c false .b] fun x => f k x.1 x.2.1
def E (k : Nat) : List (Nat × Sig) := []
noncomputable def d : FD := ⟨15, Try.f15, 26, 26, [], [], [], [], [.tmp 4], .s .n (.s .n (.s (.s .n (.s (.l 0 .n) .n)) .n))⟩
abbrev s0 : Sh := [(0, .v y5), (1, .v y5), (5, .v (.i .i64))]
def O (k : Nat) : List (Orc (denR ([.c false .b]))) := [⟨s0, fun y => l0 k y.1 y.2.1 y.2.2.1⟩]
theorem e0 (k : Nat) (y : denS s0) : l0 (k + 1) y.1 y.2.1 y.2.2.1 = SS.ev d E O k [1, 1, 0, 1, 0, 0] s0 y := by rw [l0]; kernel_rfl
theorem ok (k : Nat) : EnvOk Try.prog (15, sig k) := fnP SS d E O sig (fun _ => rfl) Try.func15 (by kernel_rfl) rfl (fun k => trivial) ⟨fun _ => rfl, trivial⟩ (by kernel_rfl) (fun k => pc 0 rfl (e0 k) <| pn) (fun k x => by kernel_rfl) k
end regletref12_Same
namespace regletlaw13_ones
mutual
def l0 : Nat → Int → (List api_Slot) → Int → Option (List api_Slot)
 | 0, _, _, _ => none
 | k + 1, n, out, i => if (decide (i < n)) = true then (if (out.length + ([(10, 0, 1, (false))] : List api_Slot).length) * 32 ≤ 140737488355328 then (l0 k n (out ++ ([(10, 0, 1, (false))] : List api_Slot)) (wrap64 (i + 1))) else none) else (some out)
end
def f (k : Nat) (a0 : Int) : Option (List api_Slot) := l0 k a0 ([] : List api_Slot) 0
def sig (k : Nat) : Sig := .p [(false, (.i .i64))] [.c false y16] fun x => f k x.1
def E (k : Nat) : List (Nat × Sig) := []
noncomputable def d : FD := ⟨23, Try.f23, 15, 15, [], [], [], [], [.tmp 2], .s .n (.s .n (.s (.s .n (.s (.l 0 .n) .n)) .n))⟩
abbrev s0 : Sh := [(0, .v (.i .i64)), (3, .v y16), (4, .v (.i .i64))]
def O (k : Nat) : List (Orc (denR ([.c false y16]))) := [⟨s0, fun y => l0 k y.1 y.2.1 y.2.2.1⟩]
theorem e0 (k : Nat) (y : denS s0) : l0 (k + 1) y.1 y.2.1 y.2.2.1 = SS.ev d E O k [1, 1, 0, 1, 0, 0] s0 y := by rw [l0]; kernel_rfl
theorem ok (k : Nat) : EnvOk Try.prog (23, sig k) := fnP SS d E O sig (fun _ => rfl) Try.func23 (by kernel_rfl) rfl (fun k => trivial) ⟨fun _ => rfl, trivial⟩ (by kernel_rfl) (fun k => pc 0 rfl (e0 k) <| pn) (fun k x => by kernel_rfl) k
end regletlaw13_ones
namespace regletlaw13_awake
mutual
def j0 : Nat → A0 → Option Bool
 | 0, _ => none
 | k + 1, b => (regletlaw13_ones.f k 1).bind fun r3 => (repage_Book_Replace.f k b 3 1 r3).bind fun r4 => if (decide (r4.2.2.1 = 0)) = true then (if (decide (r4.1 = 0)) = true then (if (decide (r4.2.1 = 2)) = true then ((repage_Book_Starts.f k r4.2.2.2).bind fun r5 => (regletref12_Same.f k r5 ([0, 2, 4] : List Int)).bind fun r6 => some r6) else (some false)) else (some false)) else (some false)
end
def f (k : Nat)  : Option Bool := (regletlaw13_ones.f k 6).bind fun r => (repage_New.f k r 20 (0, 0, 0, 0, 0, 1, 1)).bind fun r2 => optK r2.1 (if (!decide (r2.2 = 0)) = true then (some false) else (some false)) fun p => if (!decide (r2.2 = 0)) = true then (some false) else (j0 k p)
def sig (k : Nat) : Sig := .p [] [.c false .b] fun x => f k
def E (k : Nat) : List (Nat × Sig) := [(11, repage_Book_Starts.sig k), (12, repage_Book_Replace.sig k), (13, repage_New.sig k), (15, regletref12_Same.sig k), (23, regletlaw13_ones.sig k)]
noncomputable def d : FD := ⟨8, Try.f8, 40, 50, [(1, 40, 10)], [], [], [], [.tmp 0], .s .n (.s .n (.j 0 (.s (.o 1 .n) .n) .n))⟩
abbrev s0 : Sh := [(1, .at_ 40), (40, .box y18)]
def O (k : Nat) : List (Orc (denR ([.c false .b]))) := [⟨s0, fun y => j0 k y.2.1⟩]
theorem e0 (k : Nat) (y : denS s0) : j0 (k + 1) y.2.1 = SS.ev d E O k [1, 1, 1] s0 y := by rw [j0]; kernel_rfl
theorem ok (k : Nat) : EnvOk Try.prog (8, sig k) := fnP SS d E O sig (fun _ => rfl) Try.func8 (by kernel_rfl) rfl (fun k => ⟨repage_Book_Starts.ok k, repage_Book_Replace.ok k, repage_New.ok k, regletref12_Same.ok k, regletlaw13_ones.ok k, trivial⟩) ⟨fun _ => rfl, trivial⟩ (by kernel_rfl) (fun k => pc 0 rfl (e0 k) <| pn) (fun k x => by kernel_rfl) k
end regletlaw13_awake
namespace regletref12_Right
mutual
def l0 : Nat → (List api_Slot) → Int → Option Bool
 | 0, _, _ => none
 | k + 1, t, t2 => if (decide (t2 < (t.length : Int))) = true then ((at? t t2).bind fun e => if (decide (e.2.2.1 < 1)) = true then (some false) else (if (decide ((wrap64 ((t.length : Int) - t2)) < e.2.2.1)) = true then (some false) else (j1 k t t2 e.2.2.1))) else (some true)
def j1 : Nat → (List api_Slot) → Int → Int → Option Bool
 | 0, _, _, _ => none
 | k + 1, t3, t4, t5 => l2 k t3 t4 t5 0
def l2 : Nat → (List api_Slot) → Int → Int → Int → Option Bool
 | 0, _, _, _, _ => none
 | k + 1, t6, t7, t8, t9 => if (decide (t9 < t8)) = true then ((at? t6 (wrap64 (t7 + t9))).bind fun e2 => if (decide (e2.1 < 1)) = true then (some false) else (if (decide (1048576 < e2.1)) = true then (some false) else (if (!decide (e2.2.1 = t9)) = true then (some false) else (if (!decide (e2.2.2.1 = t8)) = true then (some false) else ((at? t6 t7).bind fun e3 => if (!decide (e2.2.2.2 = e3.2.2.2)) = true then (some false) else (j3 k t6 t7 t8 t9)))))) else (l0 k t6 (wrap64 (t7 + t8)))
def j3 : Nat → (List api_Slot) → Int → Int → Int → Option Bool
 | 0, _, _, _, _ => none
 | k + 1, t10, t11, t12, t13 => l2 k t10 t11 t12 (wrap64 (t13 + 1))
end
def f (k : Nat) (a0 : (List api_Slot)) : Option Bool := l0 k a0 0
def sig (k : Nat) : Sig := .p [(false, y4)] [.c false .b] fun x => f k x.1
def E (k : Nat) : List (Nat × Sig) := []
noncomputable def d : FD := ⟨24, Try.f24, 70, 74, [(6, 70, 4)], [], [], [], [.tmp 2], .s .n (.s (.s .n (.s (.l 0 (.s .n (.s (.s .n (.j 1 .n (.s (.s .n (.s (.l 2 (.s .n (.j 3 .n .n))) .n)) .n))) .n))) .n)) .n)⟩
abbrev s0 : Sh := [(0, .v y4), (3, .v (.i .i64))]
abbrev s1 : Sh := [(0, .v y4), (3, .v (.i .i64)), (4, .v (.i .i64))]
abbrev s2 : Sh := [(0, .v y4), (3, .v (.i .i64)), (4, .v (.i .i64)), (5, .v (.i .i64))]
abbrev s3 : Sh := [(0, .v y4), (3, .v (.i .i64)), (4, .v (.i .i64)), (5, .v (.i .i64))]
def O (k : Nat) : List (Orc (denR ([.c false .b]))) := [⟨s0, fun y => l0 k y.1 y.2.1⟩, ⟨s1, fun y => j1 k y.1 y.2.1 y.2.2.1⟩, ⟨s2, fun y => l2 k y.1 y.2.1 y.2.2.1 y.2.2.2.1⟩, ⟨s3, fun y => j3 k y.1 y.2.1 y.2.2.1 y.2.2.2.1⟩]
theorem e3 (k : Nat) (y : denS s3) : j3 (k + 1) y.1 y.2.1 y.2.2.1 y.2.2.2.1 = SS.ev d E O k [1, 0, 1, 0, 0, 1, 0, 1, 1, 0, 1, 0, 0, 1, 1] s3 y := by rw [j3]; kernel_rfl
theorem e2 (k : Nat) (y : denS s2) : l2 (k + 1) y.1 y.2.1 y.2.2.1 y.2.2.2.1 = SS.ev d E O k [1, 0, 1, 0, 0, 1, 0, 1, 1, 0, 1, 0, 0] s2 y := by rw [l2]; kernel_rfl
theorem e1 (k : Nat) (y : denS s1) : j1 (k + 1) y.1 y.2.1 y.2.2.1 = SS.ev d E O k [1, 0, 1, 0, 0, 1, 0, 1, 1] s1 y := by rw [j1]; kernel_rfl
theorem e0 (k : Nat) (y : denS s0) : l0 (k + 1) y.1 y.2.1 = SS.ev d E O k [1, 0, 1, 0, 0] s0 y := by rw [l0]; kernel_rfl
theorem ok (k : Nat) : EnvOk Try.prog (24, sig k) := fnP SS d E O sig (fun _ => rfl) Try.func24 (by kernel_rfl) rfl (fun k => trivial) ⟨fun _ => rfl, fun _ => rfl, fun _ => rfl, fun _ => rfl, trivial⟩ (by kernel_rfl) (fun k => pc 3 rfl (e3 k) <| pc 2 rfl (e2 k) <| pc 1 rfl (e1 k) <| pc 0 rfl (e0 k) <| pn) (fun k x => by kernel_rfl) k
end regletref12_Right
namespace regletref08_Settings
mutual
def j0 : Nat → api_Settings → Option Bool
 | 0, _ => none
 | k + 1, t => l1 k ([t.2.2.1, t.2.2.2.1, t.2.2.2.2.1] : List Int) 0 t
def l1 : Nat → (List Int) → Int → api_Settings → Option Bool
 | 0, _, _, _ => none
 | k + 1, t2, t3, t4 => if (decide (t3 < (t2.length : Int))) = true then (if 0 ≤ t3 ∧ t3 < (t2.length : Int) then ((t2[t3.toNat]?).bind fun e => if (decide (e < 0)) = true then (some false) else (if 0 ≤ t3 ∧ t3 < (t2.length : Int) then ((t2[t3.toNat]?).bind fun e2 => if (decide (1048576 < e2)) = true then (some false) else (j2 k t2 t3 t4)) else none)) else none) else (if (decide (1 ≤ t4.2.2.2.2.2.1)) = true then (if (decide (t4.2.2.2.2.2.1 ≤ 100)) = true then (if (decide (1 ≤ t4.2.2.2.2.2.2)) = true then (some (decide (t4.2.2.2.2.2.2 ≤ 100))) else (some false)) else (some false)) else (some false))
def j2 : Nat → (List Int) → Int → api_Settings → Option Bool
 | 0, _, _, _ => none
 | k + 1, t5, t6, t7 => l1 k t5 (wrap64 (t6 + 1)) t7
end
def f (k : Nat) (a0 : api_Settings) : Option Bool := if (decide (a0.1 < 0)) = true then (some false) else (if (decide (10000 < a0.1)) = true then (some false) else (if (decide (a0.2.1 < 0)) = true then (some false) else (if (decide (10000 < a0.2.1)) = true then (some false) else (j0 k a0))))
def sig (k : Nat) : Sig := .p [(true, y11)] [.c false .b] fun x => f k x.1
def E (k : Nat) : List (Nat × Sig) := []
noncomputable def d : FD := ⟨36, Try.f36, 66, 73, [(1, 66, 7)], [], [], [], [.tmp 2], .s .n (.j 0 .n (.s .n (.s (.s .n (.s (.l 1 (.s .n (.j 2 .n .n))) .n)) .n)))⟩
abbrev s0 : Sh := [(1, .at_ 66), (66, .box y11)]
abbrev s1 : Sh := [(1, .at_ 66), (3, .v y0), (4, .v (.i .i64)), (66, .box y11)]
abbrev s2 : Sh := [(1, .at_ 66), (3, .v y0), (4, .v (.i .i64)), (66, .box y11)]
def O (k : Nat) : List (Orc (denR ([.c false .b]))) := [⟨s0, fun y => j0 k y.2.1⟩, ⟨s1, fun y => l1 k y.2.1 y.2.2.1 y.2.2.2.1⟩, ⟨s2, fun y => j2 k y.2.1 y.2.2.1 y.2.2.2.1⟩]
theorem e2 (k : Nat) (y : denS s2) : j2 (k + 1) y.2.1 y.2.2.1 y.2.2.2.1 = SS.ev d E O k [1, 1, 1, 0, 1, 0, 0, 1, 1] s2 y := by rw [j2]; kernel_rfl
theorem e1 (k : Nat) (y : denS s1) : l1 (k + 1) y.2.1 y.2.2.1 y.2.2.2.1 = SS.ev d E O k [1, 1, 1, 0, 1, 0, 0] s1 y := by rw [l1]; kernel_rfl
theorem e0 (k : Nat) (y : denS s0) : j0 (k + 1) y.2.1 = SS.ev d E O k [1, 1] s0 y := by rw [j0]; kernel_rfl
theorem ok (k : Nat) : EnvOk Try.prog (36, sig k) := fnP SS d E O sig (fun _ => rfl) Try.func36 (by kernel_rfl) rfl (fun k => trivial) ⟨fun _ => rfl, fun _ => rfl, fun _ => rfl, trivial⟩ (by kernel_rfl) (fun k => pc 2 rfl (e2 k) <| pc 1 rfl (e1 k) <| pc 0 rfl (e0 k) <| pn) (fun k x => by kernel_rfl) k
end regletref08_Settings
namespace regletref12_Check
def f (k : Nat) (a0 : Int) (a1 : api_Settings) : Option Bool := if (decide (1 ≤ a0)) = true then (if (decide (a0 ≤ 1073741824)) = true then ((regletref08_Settings.f k a1).bind fun r => some r) else (some false)) else (some false)
def sig (k : Nat) : Sig := .p [(false, (.i .i64)), (true, y11)] [.c false .b] fun x => f k x.1 x.2.1
def E (k : Nat) : List (Nat × Sig) := [(36, regletref08_Settings.sig k)]
noncomputable def d : FD := ⟨25, Try.f25, 15, 22, [(3, 15, 7)], [], [], [], [.tmp 4], .n⟩
def O (k : Nat) : List (Orc (denR ([.c false .b]))) := []
theorem ok (k : Nat) : EnvOk Try.prog (25, sig k) := fnP SS d E O sig (fun _ => rfl) Try.func25 (by kernel_rfl) rfl (fun k => ⟨regletref08_Settings.ok k, trivial⟩) trivial (by kernel_rfl) (fun _ => pn) (fun k x => by kernel_rfl) k
end regletref12_Check
namespace regletlaw13_begun
mutual
def j0 : Nat → A4 → A4 → A4 → Option A3
 | 0, _, _, _ => none
 | k + 1, s, t, w => (repage_New.f k s.1 s.2.1 s.2.2).bind fun r3 => optK r3.1 (if (!decide (r3.2 = 0)) = true then (some (none, w, true)) else (some (none, w, true))) fun p => if (!decide (r3.2 = 0)) = true then (some (none, w, true)) else (j1 k t w p)
def j1 : Nat → A4 → A4 → A0 → Option A3
 | 0, _, _, _ => none
 | k + 1, t2, w2, b => some (some b, w2, true)
end
def f (k : Nat) (a0 : A4) : Option A3 := if (decide (150 < (a0.1.length : Int))) = true then (some (none, a0, false)) else ((regletref12_Right.f k a0.1).bind fun r => if (!r) = true then (some (none, a0, false)) else ((regletref12_Check.f k a0.2.1 a0.2.2).bind fun r2 => if (!r2) = true then (some (none, a0, false)) else (j0 k a0 (([] : List api_Slot), 0, 0, 0, 0, 0, 0, 0, 0) a0)))
def sig (k : Nat) : Sig := .p [(true, y22)] [.o y18, .c true y22, .c false .b] fun x => f k x.1
def E (k : Nat) : List (Nat × Sig) := [(13, repage_New.sig k), (24, regletref12_Right.sig k), (25, regletref12_Check.sig k)]
noncomputable def d : FD := ⟨9, Try.f9, 53, 90, [(1, 53, 9), (3, 62, 9), (5, 71, 9), (6, 80, 10)], [], [], [], [.tmp 2, .cell 3 32, .tmp 4], .s .n (.s .n (.j 0 .n (.s .n (.j 1 (.s (.o 6 .n) .n) .n))))⟩
abbrev s0 : Sh := [(1, .at_ 53), (3, .at_ 62), (5, .at_ 71), (53, .box y22), (62, .box y20), (71, .box y22)]
abbrev s1 : Sh := [(3, .at_ 62), (5, .at_ 71), (6, .at_ 80), (62, .box y20), (71, .box y22), (80, .box y18)]
def O (k : Nat) : List (Orc (denR ([.o y18, .c true y22, .c false .b]))) := [⟨s0, fun y => j0 k y.2.2.2.1 y.2.2.2.2.1 y.2.2.2.2.2.1⟩, ⟨s1, fun y => j1 k y.2.2.2.1 y.2.2.2.2.1 y.2.2.2.2.2.1⟩]
theorem e1 (k : Nat) (y : denS s1) : j1 (k + 1) y.2.2.2.1 y.2.2.2.2.1 y.2.2.2.2.2.1 = SS.ev d E O k [1, 1, 1, 1, 1] s1 y := by rw [j1]; kernel_rfl
theorem e0 (k : Nat) (y : denS s0) : j0 (k + 1) y.2.2.2.1 y.2.2.2.2.1 y.2.2.2.2.2.1 = SS.ev d E O k [1, 1, 1] s0 y := by rw [j0]; kernel_rfl
theorem ok (k : Nat) : EnvOk Try.prog (9, sig k) := fnP SS d E O sig (fun _ => rfl) Try.func9 (by kernel_rfl) rfl (fun k => ⟨repage_New.ok k, regletref12_Right.ok k, regletref12_Check.ok k, trivial⟩) ⟨fun _ => rfl, fun _ => rfl, trivial⟩ (by kernel_rfl) (fun k => pc 1 rfl (e1 k) <| pc 0 rfl (e0 k) <| pn) (fun k x => by kernel_rfl) k
end regletlaw13_begun
namespace regletref13_edge
def f (k : Nat) (a0 : (List api_Slot)) (a1 : Int) : Option Bool := if (decide (a1 = (a0.length : Int))) = true then (some true) else ((at? a0 a1).bind fun e => some (decide (e.2.1 = 0)))
def sig (k : Nat) : Sig := .p [(false, y4), (false, (.i .i64))] [.c false .b] fun x => f k x.1 x.2.1
def E (k : Nat) : List (Nat × Sig) := []
noncomputable def d : FD := ⟨26, Try.f26, 17, 17, [], [], [], [], [.tmp 4], .n⟩
def O (k : Nat) : List (Orc (denR ([.c false .b]))) := []
theorem ok (k : Nat) : EnvOk Try.prog (26, sig k) := fnP SS d E O sig (fun _ => rfl) Try.func26 (by kernel_rfl) rfl (fun k => trivial) trivial (by kernel_rfl) (fun _ => pn) (fun k x => by kernel_rfl) k
end regletref13_edge
namespace regletref13_May
mutual
def j0 : Nat → Int → Int → (List api_Slot) → A4 → Option Bool
 | 0, _, _, _, _ => none
 | k + 1, first, gone, come, b => (regletref13_edge.f k b.1 first).bind fun r => if r = true then ((regletref13_edge.f k b.1 (wrap64 (first + gone))).bind fun r2 => if r2 = true then ((regletref12_Right.f k come).bind fun r3 => some r3) else (some false)) else (some false)
end
def f (k : Nat) (a0 : A4) (a1 : Int) (a2 : Int) (a3 : (List api_Slot)) : Option Bool := if (decide (a1 < 0)) = true then (some false) else (if (decide (a2 < 0)) = true then (some false) else (if (decide ((a0.1.length : Int) < a1)) = true then (some false) else (if (decide ((wrap64 ((a0.1.length : Int) - a1)) < a2)) = true then (some false) else (j0 k a1 a2 a3 a0))))
def sig (k : Nat) : Sig := .p [(true, y19), (false, (.i .i64)), (false, (.i .i64)), (false, y4)] [.c false .b] fun x => f k x.1 x.2.1 x.2.2.1 x.2.2.2.1
def E (k : Nat) : List (Nat × Sig) := [(24, regletref12_Right.sig k), (26, regletref13_edge.sig k)]
noncomputable def d : FD := ⟨10, Try.f10, 47, 56, [(4, 47, 9)], [], [], [], [.tmp 8], .s .n (.j 0 .n .n)⟩
abbrev s0 : Sh := [(1, .v (.i .i64)), (2, .v (.i .i64)), (3, .v y4), (4, .at_ 47), (47, .box y19)]
def O (k : Nat) : List (Orc (denR ([.c false .b]))) := [⟨s0, fun y => j0 k y.1 y.2.1 y.2.2.1 y.2.2.2.2.1⟩]
theorem e0 (k : Nat) (y : denS s0) : j0 (k + 1) y.1 y.2.1 y.2.2.1 y.2.2.2.2.1 = SS.ev d E O k [1, 1] s0 y := by rw [j0]; kernel_rfl
theorem ok (k : Nat) : EnvOk Try.prog (10, sig k) := fnP SS d E O sig (fun _ => rfl) Try.func10 (by kernel_rfl) rfl (fun k => ⟨regletref12_Right.ok k, regletref13_edge.ok k, trivial⟩) ⟨fun _ => rfl, trivial⟩ (by kernel_rfl) (fun k => pc 0 rfl (e0 k) <| pn) (fun k x => by kernel_rfl) k
end regletref13_May
namespace regletlaw13_RepageKeeps
mutual
def j0 : Nat → A5 → A4 → A0 → Option Bool
 | 0, _, _, _ => none
 | k + 1, t, t2, t3 => if (!decide (t.2.2.2 = 0)) = true then (some true) else (if (decide (60 < (t.2.2.1.length : Int))) = true then (some true) else ((regletref13_May.f k t2 t.1 t.2.1 t.2.2.1).bind fun r3 => if (!r3) = true then (some true) else (j1 k t t3)))
def j1 : Nat → A5 → A0 → Option Bool
 | 0, _, _ => none
 | k + 1, t4, t5 => (repage_Book_Starts.f k t5).bind fun r4 => (repage_Book_Replace.f k t5 t4.1 t4.2.1 t4.2.2.1).bind fun r5 => (repage_Book_Starts.f k r5.2.2.2).bind fun r6 => if (!decide (r5.2.2.1 = 0)) = true then (some false) else (if (decide (r5.1 < 0)) = true then (some false) else (if (decide (r5.2.1 < 0)) = true then (some false) else (if (decide ((r6.length : Int) < (wrap64 (r5.1 + r5.2.1)))) = true then (some false) else (if (decide ((r4.length : Int) < r5.1)) = true then (some false) else (j2 k r4 r5.1 r5.2.1 r6 t4)))))
def j2 : Nat → (List Int) → Int → Int → (List Int) → A5 → Option Bool
 | 0, _, _, _, _, _ => none
 | k + 1, t6, t7, t8, t9, t10 => l3 k t6 t7 t8 t9 0 t10
def l3 : Nat → (List Int) → Int → Int → (List Int) → Int → A5 → Option Bool
 | 0, _, _, _, _, _, _ => none
 | k + 1, t11, t12, t13, t14, t15, t16 => if (decide (t15 < t12)) = true then (if 0 ≤ t15 ∧ t15 < (t14.length : Int) then ((t14[t15.toNat]?).bind fun e => if 0 ≤ t15 ∧ t15 < (t11.length : Int) then ((t11[t15.toNat]?).bind fun e2 => if (!decide (e = e2)) = true then (some false) else (l3 k t11 t12 t13 t14 (wrap64 (t15 + 1)) t16)) else none) else none) else (if (decide ((t11.length : Int) < (wrap64 ((wrap64 ((t14.length : Int) - t12)) - t13)))) = true then (some false) else (l4 k t11 t14 (wrap64 ((wrap64 ((t14.length : Int) - t12)) - t13)) 1 t16))
def l4 : Nat → (List Int) → (List Int) → Int → Int → A5 → Option Bool
 | 0, _, _, _, _, _ => none
 | k + 1, t17, t18, t19, t20, t21 => if (decide (t20 ≤ t19)) = true then (if 0 ≤ (wrap64 ((t18.length : Int) - t20)) ∧ (wrap64 ((t18.length : Int) - t20)) < (t18.length : Int) then ((t18[(wrap64 ((t18.length : Int) - t20)).toNat]?).bind fun e3 => if 0 ≤ (wrap64 ((t17.length : Int) - t20)) ∧ (wrap64 ((t17.length : Int) - t20)) < (t17.length : Int) then ((t17[(wrap64 ((t17.length : Int) - t20)).toNat]?).bind fun e4 => if (decide (e3 < (wrap64 (t21.1 + (t21.2.2.1.length : Int))))) = true then (some false) else (if (!decide ((wrap64 (e3 - (t21.2.2.1.length : Int))) = (wrap64 (e4 - t21.2.1)))) = true then (some false) else (j5 k t17 t18 t19 t20 t21))) else none) else none) else (some true)
def j5 : Nat → (List Int) → (List Int) → Int → Int → A5 → Option Bool
 | 0, _, _, _, _, _ => none
 | k + 1, t22, t23, t24, t25, t26 => l4 k t22 t23 t24 (wrap64 (t25 + 1)) t26
end
def f (k : Nat) (a0 : A4) (a1 : A5) : Option Bool := (regletlaw13_awake.f k).bind fun r => if (!r) = true then (some false) else ((regletlaw13_begun.f k a0).bind fun r2 => optK r2.1 (if (!r2.2.2) = true then (some (!r2.2.2)) else (some (!r2.2.2))) fun p => if (!r2.2.2) = true then (some (!r2.2.2)) else (j0 k a1 r2.2.1 p))
def sig (k : Nat) : Sig := .p [(true, y22), (true, y25)] [.c false .b] fun x => f k x.1 x.2.1
def E (k : Nat) : List (Nat × Sig) := [(8, regletlaw13_awake.sig k), (9, regletlaw13_begun.sig k), (10, regletref13_May.sig k), (11, repage_Book_Starts.sig k), (12, repage_Book_Replace.sig k)]
noncomputable def d : FD := ⟨3, Try.f3, 157, 189, [(2, 157, 9), (3, 166, 4), (6, 170, 9), (5, 179, 10)], [], [], [], [.tmp 4], .s .n (.s .n (.s .n (.j 0 (.s (.o 5 .n) .n) (.j 1 .n (.s .n (.s .n (.s .n (.j 2 .n (.s (.s .n (.s (.l 3 .n) .n)) (.s .n (.s .n (.s (.s .n (.s (.l 4 (.s .n (.j 5 .n .n))) .n)) .n))))))))))))⟩
abbrev s0 : Sh := [(3, .at_ 166), (5, .at_ 179), (6, .at_ 170), (166, .box y25), (170, .box y22), (179, .box y18)]
abbrev s1 : Sh := [(3, .at_ 166), (5, .at_ 179), (166, .box y25), (179, .box y18)]
abbrev s2 : Sh := [(3, .at_ 166), (8, .v y0), (9, .v (.i .i64)), (10, .v (.i .i64)), (12, .v y0), (166, .box y25)]
abbrev s3 : Sh := [(3, .at_ 166), (8, .v y0), (9, .v (.i .i64)), (10, .v (.i .i64)), (12, .v y0), (13, .v (.i .i64)), (166, .box y25)]
abbrev s4 : Sh := [(3, .at_ 166), (8, .v y0), (12, .v y0), (14, .v (.i .i64)), (15, .v (.i .i64)), (166, .box y25)]
abbrev s5 : Sh := [(3, .at_ 166), (8, .v y0), (12, .v y0), (14, .v (.i .i64)), (15, .v (.i .i64)), (166, .box y25)]
def O (k : Nat) : List (Orc (denR ([.c false .b]))) := [⟨s0, fun y => j0 k y.2.2.2.1 y.2.2.2.2.1 y.2.2.2.2.2.1⟩, ⟨s1, fun y => j1 k y.2.2.1 y.2.2.2.1⟩, ⟨s2, fun y => j2 k y.2.1 y.2.2.1 y.2.2.2.1 y.2.2.2.2.1 y.2.2.2.2.2.1⟩, ⟨s3, fun y => l3 k y.2.1 y.2.2.1 y.2.2.2.1 y.2.2.2.2.1 y.2.2.2.2.2.1 y.2.2.2.2.2.2.1⟩, ⟨s4, fun y => l4 k y.2.1 y.2.2.1 y.2.2.2.1 y.2.2.2.2.1 y.2.2.2.2.2.1⟩, ⟨s5, fun y => j5 k y.2.1 y.2.2.1 y.2.2.2.1 y.2.2.2.2.1 y.2.2.2.2.2.1⟩]
theorem e3 (k : Nat) (y : denS s3) : l3 (k + 1) y.2.1 y.2.2.1 y.2.2.2.1 y.2.2.2.2.1 y.2.2.2.2.2.1 y.2.2.2.2.2.2.1 = SS.ev d E O k [1, 1, 1, 1, 1, 1, 1, 1, 1, 0, 1, 0, 0] s3 y := by rw [l3]; kernel_rfl
theorem e5 (k : Nat) (y : denS s5) : j5 (k + 1) y.2.1 y.2.2.1 y.2.2.2.1 y.2.2.2.2.1 y.2.2.2.2.2.1 = SS.ev d E O k [1, 1, 1, 1, 1, 1, 1, 1, 1, 1, 1, 1, 0, 1, 0, 0, 1, 1] s5 y := by rw [j5]; kernel_rfl
theorem e4 (k : Nat) (y : denS s4) : l4 (k + 1) y.2.1 y.2.2.1 y.2.2.2.1 y.2.2.2.2.1 y.2.2.2.2.2.1 = SS.ev d E O k [1, 1, 1, 1, 1, 1, 1, 1, 1, 1, 1, 1, 0, 1, 0, 0] s4 y := by rw [l4]; kernel_rfl
theorem e2 (k : Nat) (y : denS s2) : j2 (k + 1) y.2.1 y.2.2.1 y.2.2.2.1 y.2.2.2.2.1 y.2.2.2.2.2.1 = SS.ev d E O k [1, 1, 1, 1, 1, 1, 1, 1, 1] s2 y := by rw [j2]; kernel_rfl
theorem e1 (k : Nat) (y : denS s1) : j1 (k + 1) y.2.2.1 y.2.2.2.1 = SS.ev d E O k [1, 1, 1, 1, 1] s1 y := by rw [j1]; kernel_rfl
theorem e0 (k : Nat) (y : denS s0) : j0 (k + 1) y.2.2.2.1 y.2.2.2.2.1 y.2.2.2.2.2.1 = SS.ev d E O k [1, 1, 1, 1] s0 y := by rw [j0]; kernel_rfl
theorem ok (k : Nat) : EnvOk Try.prog (3, sig k) := fnP SS d E O sig (fun _ => rfl) Try.func3 (by kernel_rfl) rfl (fun k => ⟨regletlaw13_awake.ok k, regletlaw13_begun.ok k, regletref13_May.ok k, repage_Book_Starts.ok k, repage_Book_Replace.ok k, trivial⟩) ⟨fun _ => rfl, fun _ => rfl, fun _ => rfl, fun _ => rfl, fun _ => rfl, fun _ => rfl, trivial⟩ (by kernel_rfl) (fun k => pc 3 rfl (e3 k) <| pc 5 rfl (e5 k) <| pc 4 rfl (e4 k) <| pc 2 rfl (e2 k) <| pc 1 rfl (e1 k) <| pc 0 rfl (e0 k) <| pn) (fun k x => by kernel_rfl) k
end regletlaw13_RepageKeeps
namespace regletlaw13_RepageFew
mutual
def j0 : Nat → A5 → A4 → A0 → Option Bool
 | 0, _, _, _ => none
 | k + 1, t, t2, t3 => if (!decide (t.2.2.2 = 0)) = true then (some true) else (if (decide (60 < (t.2.2.1.length : Int))) = true then (some true) else ((regletref13_May.f k t2 t.1 t.2.1 t.2.2.1).bind fun r3 => if (!r3) = true then (some true) else (j1 k t t3)))
def j1 : Nat → A5 → A0 → Option Bool
 | 0, _, _ => none
 | k + 1, t4, t5 => (repage_Book_Starts.f k t5).bind fun r4 => (repage_Book_Replace.f k t5 t4.1 t4.2.1 t4.2.2.1).bind fun r5 => (repage_Book_Starts.f k r5.2.2.2).bind fun r6 => if (!decide (r5.2.2.1 = 0)) = true then (some false) else (if (decide ((r6.length : Int) < (wrap64 (r5.1 + r5.2.1)))) = true then (some false) else (j2 k r4 r5.1 r5.2.1 r6 t4))
def j2 : Nat → (List Int) → Int → Int → (List Int) → A5 → Option Bool
 | 0, _, _, _, _, _ => none
 | k + 1, t6, t7, t8, t9, t10 => l3 k t6 t7 t8 t9 t7 t10
def l3 : Nat → (List Int) → Int → Int → (List Int) → Int → A5 → Option Bool
 | 0, _, _, _, _, _, _ => none
 | k + 1, t11, t12, t13, t14, t15, t16 => if (decide (t15 < (wrap64 (t12 + t13)))) = true then (if 0 ≤ t15 ∧ t15 < (t14.length : Int) then ((t14[t15.toNat]?).bind fun e => if (decide (e < (wrap64 (t16.1 + (t16.2.2.1.length : Int))))) = true then (j4 k t11 t12 t13 t14 t15 t16) else (l5 k t11 t12 t13 t14 t15 0 t16)) else none) else (some true)
def j4 : Nat → (List Int) → Int → Int → (List Int) → Int → A5 → Option Bool
 | 0, _, _, _, _, _, _ => none
 | k + 1, t17, t18, t19, t20, t21, t22 => l3 k t17 t18 t19 t20 (wrap64 (t21 + 1)) t22
def l5 : Nat → (List Int) → Int → Int → (List Int) → Int → Int → A5 → Option Bool
 | 0, _, _, _, _, _, _, _ => none
 | k + 1, t23, t24, t25, t26, t27, t28, t29 => if (decide (t28 < (t23.length : Int))) = true then (if 0 ≤ t28 ∧ t28 < (t23.length : Int) then ((t23[t28.toNat]?).bind fun e2 => if 0 ≤ t27 ∧ t27 < (t26.length : Int) then ((t26[t27.toNat]?).bind fun e3 => if (decide ((wrap64 (e2 - t29.2.1)) = (wrap64 (e3 - (t29.2.2.1.length : Int))))) = true then (some false) else (l5 k t23 t24 t25 t26 t27 (wrap64 (t28 + 1)) t29)) else none) else none) else (j4 k t23 t24 t25 t26 t27 t29)
end
def f (k : Nat) (a0 : A4) (a1 : A5) : Option Bool := (regletlaw13_awake.f k).bind fun r => if (!r) = true then (some false) else ((regletlaw13_begun.f k a0).bind fun r2 => optK r2.1 (if (!r2.2.2) = true then (some (!r2.2.2)) else (some (!r2.2.2))) fun p => if (!r2.2.2) = true then (some (!r2.2.2)) else (j0 k a1 r2.2.1 p))
def sig (k : Nat) : Sig := .p [(true, y22), (true, y25)] [.c false .b] fun x => f k x.1 x.2.1
def E (k : Nat) : List (Nat × Sig) := [(8, regletlaw13_awake.sig k), (9, regletlaw13_begun.sig k), (10, regletref13_May.sig k), (11, repage_Book_Starts.sig k), (12, repage_Book_Replace.sig k)]
noncomputable def d : FD := ⟨4, Try.f4, 118, 150, [(2, 118, 9), (3, 127, 4), (6, 131, 9), (5, 140, 10)], [], [], [], [.tmp 4], .s .n (.s .n (.s .n (.j 0 (.s (.o 5 .n) .n) (.j 1 .n (.s .n (.s .n (.s .n (.j 2 .n (.s (.s .n (.s (.l 3 (.s .n (.j 4 (.s (.s .n (.s .n (.s (.l 5 .n) .n))) .n) .n))) .n)) .n)))))))))⟩
abbrev s0 : Sh := [(3, .at_ 127), (5, .at_ 140), (6, .at_ 131), (127, .box y25), (131, .box y22), (140, .box y18)]
abbrev s1 : Sh := [(3, .at_ 127), (5, .at_ 140), (127, .box y25), (140, .box y18)]
abbrev s2 : Sh := [(3, .at_ 127), (8, .v y0), (9, .v (.i .i64)), (10, .v (.i .i64)), (12, .v y0), (127, .box y25)]
abbrev s3 : Sh := [(3, .at_ 127), (8, .v y0), (9, .v (.i .i64)), (10, .v (.i .i64)), (12, .v y0), (13, .v (.i .i64)), (127, .box y25)]
abbrev s4 : Sh := [(3, .at_ 127), (8, .v y0), (9, .v (.i .i64)), (10, .v (.i .i64)), (12, .v y0), (13, .v (.i .i64)), (127, .box y25)]
abbrev s5 : Sh := [(3, .at_ 127), (8, .v y0), (9, .v (.i .i64)), (10, .v (.i .i64)), (12, .v y0), (13, .v (.i .i64)), (14, .v (.i .i64)), (127, .box y25)]
def O (k : Nat) : List (Orc (denR ([.c false .b]))) := [⟨s0, fun y => j0 k y.2.2.2.1 y.2.2.2.2.1 y.2.2.2.2.2.1⟩, ⟨s1, fun y => j1 k y.2.2.1 y.2.2.2.1⟩, ⟨s2, fun y => j2 k y.2.1 y.2.2.1 y.2.2.2.1 y.2.2.2.2.1 y.2.2.2.2.2.1⟩, ⟨s3, fun y => l3 k y.2.1 y.2.2.1 y.2.2.2.1 y.2.2.2.2.1 y.2.2.2.2.2.1 y.2.2.2.2.2.2.1⟩, ⟨s4, fun y => j4 k y.2.1 y.2.2.1 y.2.2.2.1 y.2.2.2.2.1 y.2.2.2.2.2.1 y.2.2.2.2.2.2.1⟩, ⟨s5, fun y => l5 k y.2.1 y.2.2.1 y.2.2.2.1 y.2.2.2.2.1 y.2.2.2.2.2.1 y.2.2.2.2.2.2.1 y.2.2.2.2.2.2.2.1⟩]
theorem e5 (k : Nat) (y : denS s5) : l5 (k + 1) y.2.1 y.2.2.1 y.2.2.2.1 y.2.2.2.2.1 y.2.2.2.2.2.1 y.2.2.2.2.2.2.1 y.2.2.2.2.2.2.2.1 = SS.ev d E O k [1, 1, 1, 1, 1, 1, 1, 1, 1, 0, 1, 0, 0, 1, 0, 0, 1, 1, 0, 0] s5 y := by rw [l5]; kernel_rfl
theorem e4 (k : Nat) (y : denS s4) : j4 (k + 1) y.2.1 y.2.2.1 y.2.2.2.1 y.2.2.2.2.1 y.2.2.2.2.2.1 y.2.2.2.2.2.2.1 = SS.ev d E O k [1, 1, 1, 1, 1, 1, 1, 1, 1, 0, 1, 0, 0, 1, 1] s4 y := by rw [j4]; kernel_rfl
theorem e3 (k : Nat) (y : denS s3) : l3 (k + 1) y.2.1 y.2.2.1 y.2.2.2.1 y.2.2.2.2.1 y.2.2.2.2.2.1 y.2.2.2.2.2.2.1 = SS.ev d E O k [1, 1, 1, 1, 1, 1, 1, 1, 1, 0, 1, 0, 0] s3 y := by rw [l3]; kernel_rfl
theorem e2 (k : Nat) (y : denS s2) : j2 (k + 1) y.2.1 y.2.2.1 y.2.2.2.1 y.2.2.2.2.1 y.2.2.2.2.2.1 = SS.ev d E O k [1, 1, 1, 1, 1, 1, 1, 1, 1] s2 y := by rw [j2]; kernel_rfl
theorem e1 (k : Nat) (y : denS s1) : j1 (k + 1) y.2.2.1 y.2.2.2.1 = SS.ev d E O k [1, 1, 1, 1, 1] s1 y := by rw [j1]; kernel_rfl
theorem e0 (k : Nat) (y : denS s0) : j0 (k + 1) y.2.2.2.1 y.2.2.2.2.1 y.2.2.2.2.2.1 = SS.ev d E O k [1, 1, 1, 1] s0 y := by rw [j0]; kernel_rfl
theorem ok (k : Nat) : EnvOk Try.prog (4, sig k) := fnP SS d E O sig (fun _ => rfl) Try.func4 (by kernel_rfl) rfl (fun k => ⟨regletlaw13_awake.ok k, regletlaw13_begun.ok k, regletref13_May.ok k, repage_Book_Starts.ok k, repage_Book_Replace.ok k, trivial⟩) ⟨fun _ => rfl, fun _ => rfl, fun _ => rfl, fun _ => rfl, fun _ => rfl, fun _ => rfl, trivial⟩ (by kernel_rfl) (fun k => pc 5 rfl (e5 k) <| pc 4 rfl (e4 k) <| pc 3 rfl (e3 k) <| pc 2 rfl (e2 k) <| pc 1 rfl (e1 k) <| pc 0 rfl (e0 k) <| pn) (fun k x => by kernel_rfl) k
end regletlaw13_RepageFew
namespace regletref12_May
def f (k : Nat) (a0 : api_Slot) (a1 : api_Settings) : Option Bool := if (decide ((wrap64 (a0.2.2.1 - (wrap64 (a0.2.1 + 1)))) = 0)) = true then (some (!a0.2.2.2)) else (if (decide (a1.2.2.2.2.2.1 ≤ (wrap64 (a0.2.1 + 1)))) = true then (some (decide (a1.2.2.2.2.2.2 ≤ (wrap64 (a0.2.2.1 - (wrap64 (a0.2.1 + 1))))))) else (some false))
def sig (k : Nat) : Sig := .p [(true, y3), (true, y11)] [.c false .b] fun x => f k x.1 x.2.1
def E (k : Nat) : List (Nat × Sig) := []
noncomputable def d : FD := ⟨44, Try.f44, 29, 40, [(2, 29, 4), (3, 33, 7)], [], [], [], [.tmp 4], .n⟩
def O (k : Nat) : List (Orc (denR ([.c false .b]))) := []
theorem ok (k : Nat) : EnvOk Try.prog (44, sig k) := fnP SS d E O sig (fun _ => rfl) Try.func44 (by kernel_rfl) rfl (fun k => trivial) trivial (by kernel_rfl) (fun _ => pn) (fun k x => by kernel_rfl) k
end regletref12_May
namespace regletref12_Cut
def f (k : Nat) (a0 : (List api_Slot)) (a1 : Int) (a2 : api_Settings) : Option Bool := if (decide (a1 = (a0.length : Int))) = true then (some true) else (if (decide (0 < a1)) = true then (if (decide (a1 < (a0.length : Int))) = true then ((at? a0 (wrap64 (a1 - 1))).bind fun e => (regletref12_May.f k e a2).bind fun r => some r) else (some false)) else (some false))
def sig (k : Nat) : Sig := .p [(false, y4), (false, (.i .i64)), (true, y11)] [.c false .b] fun x => f k x.1 x.2.1 x.2.2.1
def E (k : Nat) : List (Nat × Sig) := [(44, regletref12_May.sig k)]
noncomputable def d : FD := ⟨41, Try.f41, 30, 37, [(5, 30, 7)], [], [], [], [.tmp 6], .n⟩
def O (k : Nat) : List (Orc (denR ([.c false .b]))) := []
theorem ok (k : Nat) : EnvOk Try.prog (41, sig k) := fnP SS d E O sig (fun _ => rfl) Try.func41 (by kernel_rfl) rfl (fun k => ⟨regletref12_May.ok k, trivial⟩) trivial (by kernel_rfl) (fun _ => pn) (fun k x => by kernel_rfl) k
end regletref12_Cut
namespace regletref12_High
mutual
def l0 : Nat → (List api_Slot) → Int → Int → Int → Option Int
 | 0, _, _, _, _ => none
 | k + 1, l, to, n, i => if (decide (i < to)) = true then (if (decide (i < (l.length : Int))) = true then (j1 k l to n i) else (some n)) else (some n)
def j1 : Nat → (List api_Slot) → Int → Int → Int → Option Int
 | 0, _, _, _, _ => none
 | k + 1, l2, to2, n2, i2 => (at? l2 i2).bind fun e => l0 k l2 to2 (wrap64 (n2 + e.1)) (wrap64 (i2 + 1))
end
def f (k : Nat) (a0 : (List api_Slot)) (a1 : Int) (a2 : Int) : Option Int := l0 k a0 a2 0 a1
def sig (k : Nat) : Sig := .p [(false, y4), (false, (.i .i64)), (false, (.i .i64))] [.c false (.i .i64)] fun x => f k x.1 x.2.1 x.2.2.1
def E (k : Nat) : List (Nat × Sig) := []
noncomputable def d : FD := ⟨42, Try.f42, 29, 29, [], [], [], [], [.tmp 6], .s .n (.s .n (.s (.s .n (.s (.l 0 (.j 1 .n .n)) .n)) .n))⟩
abbrev s0 : Sh := [(0, .v y4), (2, .v (.i .i64)), (7, .v (.i .i64)), (8, .v (.i .i64))]
abbrev s1 : Sh := [(0, .v y4), (2, .v (.i .i64)), (7, .v (.i .i64)), (8, .v (.i .i64))]
def O (k : Nat) : List (Orc (denR ([.c false (.i .i64)]))) := [⟨s0, fun y => l0 k y.1 y.2.1 y.2.2.1 y.2.2.2.1⟩, ⟨s1, fun y => j1 k y.1 y.2.1 y.2.2.1 y.2.2.2.1⟩]
theorem e1 (k : Nat) (y : denS s1) : j1 (k + 1) y.1 y.2.1 y.2.2.1 y.2.2.2.1 = SS.ev d E O k [1, 1, 0, 1, 0, 0, 1] s1 y := by rw [j1]; kernel_rfl
theorem e0 (k : Nat) (y : denS s0) : l0 (k + 1) y.1 y.2.1 y.2.2.1 y.2.2.2.1 = SS.ev d E O k [1, 1, 0, 1, 0, 0] s0 y := by rw [l0]; kernel_rfl
theorem ok (k : Nat) : EnvOk Try.prog (42, sig k) := fnP SS d E O sig (fun _ => rfl) Try.func42 (by kernel_rfl) rfl (fun k => trivial) ⟨fun _ => rfl, fun _ => rfl, trivial⟩ (by kernel_rfl) (fun k => pc 1 rfl (e1 k) <| pc 0 rfl (e0 k) <| pn) (fun k x => by kernel_rfl) k
end regletref12_High
namespace regletref12_Next
mutual
def l0 : Nat → (List api_Slot) → Int → Int → Int → Int → api_Settings → Option Int
 | 0, _, _, _, _, _, _ => none
 | k + 1, l, from_, height, best, k_, set_ => if (decide (k_ ≤ (l.length : Int))) = true then ((regletref12_Cut.f k l k_ set_).bind fun r => if (!r) = true then (j1 k l from_ height best k_ set_) else (if (decide (best = from_)) = true then (j1 k l from_ height k_ k_ set_) else ((regletref12_High.f k l from_ k_).bind fun r2 => if (decide (r2 ≤ height)) = true then (j1 k l from_ height k_ k_ set_) else (j1 k l from_ height best k_ set_)))) else (some best)
def j1 : Nat → (List api_Slot) → Int → Int → Int → Int → api_Settings → Option Int
 | 0, _, _, _, _, _, _ => none
 | k + 1, l2, from_2, height2, best2, k_2, set_2 => l0 k l2 from_2 height2 best2 (wrap64 (k_2 + 1)) set_2
end
def f (k : Nat) (a0 : (List api_Slot)) (a1 : Int) (a2 : Int) (a3 : api_Settings) : Option Int := l0 k a0 a1 a2 a1 (wrap64 (a1 + 1)) a3
def sig (k : Nat) : Sig := .p [(false, y4), (false, (.i .i64)), (false, (.i .i64)), (true, y11)] [.c false (.i .i64)] fun x => f k x.1 x.2.1 x.2.2.1 x.2.2.2.1
def E (k : Nat) : List (Nat × Sig) := [(41, regletref12_Cut.sig k), (42, regletref12_High.sig k)]
noncomputable def d : FD := ⟨33, Try.f33, 38, 45, [(7, 38, 7)], [], [], [], [.tmp 8], .s .n (.s .n (.s (.s .n (.s (.l 0 (.s .n (.j 1 .n .n))) .n)) .n))⟩
abbrev s0 : Sh := [(0, .v y4), (1, .v (.i .i64)), (2, .v (.i .i64)), (7, .at_ 38), (9, .v (.i .i64)), (10, .v (.i .i64)), (38, .box y11)]
abbrev s1 : Sh := [(0, .v y4), (1, .v (.i .i64)), (2, .v (.i .i64)), (7, .at_ 38), (9, .v (.i .i64)), (10, .v (.i .i64)), (38, .box y11)]
def O (k : Nat) : List (Orc (denR ([.c false (.i .i64)]))) := [⟨s0, fun y => l0 k y.1 y.2.1 y.2.2.1 y.2.2.2.2.1 y.2.2.2.2.2.1 y.2.2.2.2.2.2.1⟩, ⟨s1, fun y => j1 k y.1 y.2.1 y.2.2.1 y.2.2.2.2.1 y.2.2.2.2.2.1 y.2.2.2.2.2.2.1⟩]
theorem e1 (k : Nat) (y : denS s1) : j1 (k + 1) y.1 y.2.1 y.2.2.1 y.2.2.2.2.1 y.2.2.2.2.2.1 y.2.2.2.2.2.2.1 = SS.ev d E O k [1, 1, 0, 1, 0, 0, 1, 1] s1 y := by rw [j1]; kernel_rfl
theorem e0 (k : Nat) (y : denS s0) : l0 (k + 1) y.1 y.2.1 y.2.2.1 y.2.2.2.2.1 y.2.2.2.2.2.1 y.2.2.2.2.2.2.1 = SS.ev d E O k [1, 1, 0, 1, 0, 0] s0 y := by rw [l0]; kernel_rfl
theorem ok (k : Nat) : EnvOk Try.prog (33, sig k) := fnP SS d E O sig (fun _ => rfl) Try.func33 (by kernel_rfl) rfl (fun k => ⟨regletref12_Cut.ok k, regletref12_High.ok k, trivial⟩) ⟨fun _ => rfl, fun _ => rfl, trivial⟩ (by kernel_rfl) (fun k => pc 1 rfl (e1 k) <| pc 0 rfl (e0 k) <| pn) (fun k x => by kernel_rfl) k
end regletref12_Next
namespace regletref12_Paginate
mutual
def l0 : Nat → (List api_Slot) → Int → (List Int) → Int → api_Settings → Option (List Int)
 | 0, _, _, _, _, _ => none
 | k + 1, l, height, out, from_, set_ => if (decide (from_ < (l.length : Int))) = true then (if (out.length + ([from_] : List Int).length) * 8 ≤ 140737488355328 then ((regletref12_Next.f k l from_ height set_).bind fun r => l0 k l height (out ++ ([from_] : List Int)) r set_) else none) else (some out)
end
def f (k : Nat) (a0 : (List api_Slot)) (a1 : Int) (a2 : api_Settings) : Option (List Int) := l0 k a0 a1 ([] : List Int) 0 a2
def sig (k : Nat) : Sig := .p [(false, y4), (false, (.i .i64)), (true, y11)] [.c false y0] fun x => f k x.1 x.2.1 x.2.2.1
def E (k : Nat) : List (Nat × Sig) := [(33, regletref12_Next.sig k)]
noncomputable def d : FD := ⟨16, Try.f16, 23, 30, [(5, 23, 7)], [], [], [], [.tmp 6], .s .n (.s .n (.s (.s .n (.s (.l 0 .n) .n)) .n))⟩
abbrev s0 : Sh := [(0, .v y4), (1, .v (.i .i64)), (5, .at_ 23), (7, .v y0), (8, .v (.i .i64)), (23, .box y11)]
def O (k : Nat) : List (Orc (denR ([.c false y0]))) := [⟨s0, fun y => l0 k y.1 y.2.1 y.2.2.2.1 y.2.2.2.2.1 y.2.2.2.2.2.1⟩]
theorem e0 (k : Nat) (y : denS s0) : l0 (k + 1) y.1 y.2.1 y.2.2.2.1 y.2.2.2.2.1 y.2.2.2.2.2.1 = SS.ev d E O k [1, 1, 0, 1, 0, 0] s0 y := by rw [l0]; kernel_rfl
theorem ok (k : Nat) : EnvOk Try.prog (16, sig k) := fnP SS d E O sig (fun _ => rfl) Try.func16 (by kernel_rfl) rfl (fun k => ⟨regletref12_Next.ok k, trivial⟩) ⟨fun _ => rfl, trivial⟩ (by kernel_rfl) (fun k => pc 0 rfl (e0 k) <| pn) (fun k x => by kernel_rfl) k
end regletref12_Paginate
namespace regletref13_Same
mutual
def l0 : Nat → (List api_Slot) → (List api_Slot) → Int → Option Bool
 | 0, _, _, _ => none
 | k + 1, a, b, i => if (decide (i < (a.length : Int))) = true then ((at? a i).bind fun e => (at? b i).bind fun e2 => if (!(decide (e.1 = e2.1) && (decide (e.2.1 = e2.2.1) && (decide (e.2.2.1 = e2.2.2.1) && (decide (e.2.2.2 = e2.2.2.2) && true))))) = true then (some false) else (l0 k a b (wrap64 (i + 1)))) else (some true)
end
def f (k : Nat) (a0 : (List api_Slot)) (a1 : (List api_Slot)) : Option Bool := if (!decide ((a0.length : Int) = (a1.length : Int))) = true then (some false) else (l0 k a0 a1 0)
def sig (k : Nat) : Sig := .p [(false, y4), (false, y4)] [.c false .b] fun x => f k x.1 x.2.1
def E (k : Nat) : List (Nat × Sig) := []
noncomputable def d : FD := ⟨17, Try.f17, 26, 26, [], [], [], [], [.tmp 4], .s .n (.s .n (.s (.s .n (.s (.l 0 .n) .n)) .n))⟩
abbrev s0 : Sh := [(0, .v y4), (1, .v y4), (5, .v (.i .i64))]
def O (k : Nat) : List (Orc (denR ([.c false .b]))) := [⟨s0, fun y => l0 k y.1 y.2.1 y.2.2.1⟩]
theorem e0 (k : Nat) (y : denS s0) : l0 (k + 1) y.1 y.2.1 y.2.2.1 = SS.ev d E O k [1, 1, 0, 1, 0, 0] s0 y := by rw [l0]; kernel_rfl
theorem ok (k : Nat) : EnvOk Try.prog (17, sig k) := fnP SS d E O sig (fun _ => rfl) Try.func17 (by kernel_rfl) rfl (fun k => trivial) ⟨fun _ => rfl, trivial⟩ (by kernel_rfl) (fun k => pc 0 rfl (e0 k) <| pn) (fun k x => by kernel_rfl) k
end regletref13_Same
namespace repage_Book_Slots
def f (k : Nat) (a0 : A0) : Option (List api_Slot) := if (([] : List api_Slot).length + a0.1.length) * 32 ≤ 140737488355328 then (some (([] : List api_Slot) ++ a0.1)) else none
def sig (k : Nat) : Sig := .p [(false, y15)] [.c false y16] fun x => f k x.1
def E (k : Nat) : List (Nat × Sig) := []
noncomputable def d : FD := ⟨18, Try.f18, 9, 9, [], [], [], [], [.tmp 2], .n⟩
def O (k : Nat) : List (Orc (denR ([.c false y16]))) := []
theorem ok (k : Nat) : EnvOk Try.prog (18, sig k) := fnP SS d E O sig (fun _ => rfl) Try.func18 (by kernel_rfl) rfl (fun k => trivial) trivial (by kernel_rfl) (fun _ => pn) (fun k x => by kernel_rfl) k
end repage_Book_Slots
namespace regletlaw13_RepageBegins
mutual
def j0 : Nat → A6 → A4 → Option Bool
 | 0, _, _ => none
 | k + 1, b, s => optK b (some true) fun p2 => (repage_Book_Starts.f k p2).bind fun r5 => (regletref12_Paginate.f k s.1 s.2.1 s.2.2).bind fun r6 => (regletref12_Same.f k r5 r6).bind fun r7 => if r7 = true then ((repage_Book_Slots.f k p2).bind fun r8 => (regletref13_Same.f k r8 s.1).bind fun r9 => some r9) else (some false)
end
def f (k : Nat) (a0 : A4) : Option Bool := (regletlaw13_awake.f k).bind fun r => if (!r) = true then (some false) else (if (decide (150 < (a0.1.length : Int))) = true then (some true) else ((repage_New.f k a0.1 a0.2.1 a0.2.2).bind fun r2 => optK r2.1 ((pages_Paginate.f k a0.1 a0.2.1 a0.2.2).bind fun r3 => if (!decide (r2.2 = r3.2)) = true then (some false) else (if (!decide (true = (!decide (r2.2 = 0)))) = true then (some false) else (j0 k none a0))) fun p => (pages_Paginate.f k a0.1 a0.2.1 a0.2.2).bind fun r4 => if (!decide (r2.2 = r4.2)) = true then (some false) else (if (!decide (false = (!decide (r2.2 = 0)))) = true then (some false) else (j0 k (some p) a0))))
def sig (k : Nat) : Sig := .p [(true, y22)] [.c false .b] fun x => f k x.1
def E (k : Nat) : List (Nat × Sig) := [(8, regletlaw13_awake.sig k), (11, repage_Book_Starts.sig k), (13, repage_New.sig k), (14, pages_Paginate.sig k), (15, regletref12_Same.sig k), (16, regletref12_Paginate.sig k), (17, regletref13_Same.sig k), (18, repage_Book_Slots.sig k)]
noncomputable def d : FD := ⟨5, Try.f5, 64, 73, [(1, 64, 9)], [], [], [], [.tmp 2], .s .n (.s .n (.s .n (.s .n (.s .n (.j 0 (.s (.f 3 .n) .n) (.s (.p 3 .n) .n))))))⟩
abbrev s0 : Sh := [(1, .at_ 64), (3, .opt y28), (64, .box y22)]
def O (k : Nat) : List (Orc (denR ([.c false .b]))) := [⟨s0, fun y => j0 k y.2.1 y.2.2.1⟩]
theorem e0 (k : Nat) (y : denS s0) : j0 (k + 1) y.2.1 y.2.2.1 = SS.ev d E O k [1, 1, 1, 1, 1, 1] s0 y := by rw [j0]; kernel_rfl
theorem ok (k : Nat) : EnvOk Try.prog (5, sig k) := fnP SS d E O sig (fun _ => rfl) Try.func5 (by kernel_rfl) rfl (fun k => ⟨regletlaw13_awake.ok k, repage_Book_Starts.ok k, repage_New.ok k, pages_Paginate.ok k, regletref12_Same.ok k, regletref12_Paginate.ok k, regletref13_Same.ok k, repage_Book_Slots.ok k, trivial⟩) ⟨fun _ => rfl, trivial⟩ (by kernel_rfl) (fun k => pc 0 rfl (e0 k) <| pn) (fun k x => by kernel_rfl) k
end regletlaw13_RepageBegins
namespace repage_Book_Copy
def f (k : Nat) (a0 : A0) : Option A7 := (repage_Book_Slots.f k a0).bind fun r => (repage_Book_Starts.f k a0).bind fun r2 => some (some (r, r2, a0.2.2.1, a0.2.2.2.1, a0.2.2.2.2.1, a0.2.2.2.2.2.1, a0.2.2.2.2.2.2.1, a0.2.2.2.2.2.2.2.1, a0.2.2.2.2.2.2.2.2.1, a0.2.2.2.2.2.2.2.2.2))
def sig (k : Nat) : Sig := .p [(false, y15)] [.o y18] fun x => f k x.1
def E (k : Nat) : List (Nat × Sig) := [(11, repage_Book_Starts.sig k), (18, repage_Book_Slots.sig k)]
noncomputable def d : FD := ⟨19, Try.f19, 17, 27, [(16, 17, 10)], [], [], [], [.tmp 2], .n⟩
def O (k : Nat) : List (Orc (denR ([.o y18]))) := []
theorem ok (k : Nat) : EnvOk Try.prog (19, sig k) := fnP SS d E O sig (fun _ => rfl) Try.func19 (by kernel_rfl) rfl (fun k => ⟨repage_Book_Starts.ok k, repage_Book_Slots.ok k, trivial⟩) trivial (by kernel_rfl) (fun _ => pn) (fun k x => by kernel_rfl) k
end repage_Book_Copy
namespace regletlaw13_RepageBack
mutual
def j0 : Nat → A5 → A4 → A0 → Option Bool
 | 0, _, _, _ => none
 | k + 1, t, t2, t3 => if (!decide (t.2.2.2 = 0)) = true then (some true) else (if (decide (60 < (t.2.2.1.length : Int))) = true then (some true) else ((regletref13_May.f k t2 t.1 t.2.1 t.2.2.1).bind fun r3 => if (!r3) = true then (some true) else (j1 k t t2 t3)))
def j1 : Nat → A5 → A4 → A0 → Option Bool
 | 0, _, _, _ => none
 | k + 1, t4, t5, t6 => (repage_Book_Starts.f k t6).bind fun r4 => (repage_Book_Copy.f k t6).bind fun r5 => optK r5 (some false) fun p2 => if 0 ≤ t4.1 ∧ t4.1 ≤ (wrap64 (t4.1 + t4.2.1)) ∧ (wrap64 (t4.1 + t4.2.1)) ≤ (t5.1.length : Int) then (if (([] : List api_Slot).length + ((t5.1.drop t4.1.toNat).take ((wrap64 (t4.1 + t4.2.1)).toNat - t4.1.toNat)).length) * 32 ≤ 140737488355328 then ((repage_Book_Replace.f k t6 t4.1 t4.2.1 t4.2.2.1).bind fun r6 => if (!decide (r6.2.2.1 = 0)) = true then (some false) else ((repage_Book_Starts.f k p2).bind fun r7 => (regletref12_Same.f k r7 r4).bind fun r8 => if (!r8) = true then (some false) else (j2 k r4 (([] : List api_Slot) ++ ((t5.1.drop t4.1.toNat).take ((wrap64 (t4.1 + t4.2.1)).toNat - t4.1.toNat))) t4 t5 r6.2.2.2))) else none) else none
def j2 : Nat → (List Int) → (List api_Slot) → A5 → A4 → A0 → Option Bool
 | 0, _, _, _, _, _ => none
 | k + 1, t7, t8, t9, t10, t11 => (repage_Book_Replace.f k t11 t9.1 (t9.2.2.1.length : Int) t8).bind fun r9 => if (decide (r9.2.2.1 = 0)) = true then ((repage_Book_Starts.f k r9.2.2.2).bind fun r10 => (regletref12_Same.f k r10 t7).bind fun r11 => if r11 = true then ((repage_Book_Slots.f k r9.2.2.2).bind fun r12 => (regletref13_Same.f k r12 t10.1).bind fun r13 => some r13) else (some false)) else (some false)
end
def f (k : Nat) (a0 : A4) (a1 : A5) : Option Bool := (regletlaw13_awake.f k).bind fun r => if (!r) = true then (some false) else ((regletlaw13_begun.f k a0).bind fun r2 => optK r2.1 (if (!r2.2.2) = true then (some (!r2.2.2)) else (some (!r2.2.2))) fun p => if (!r2.2.2) = true then (some (!r2.2.2)) else (j0 k a1 r2.2.1 p))
def sig (k : Nat) : Sig := .p [(true, y22), (true, y25)] [.c false .b] fun x => f k x.1 x.2.1
def E (k : Nat) : List (Nat × Sig) := [(8, regletlaw13_awake.sig k), (9, regletlaw13_begun.sig k), (10, regletref13_May.sig k), (11, repage_Book_Starts.sig k), (12, repage_Book_Replace.sig k), (15, regletref12_Same.sig k), (17, regletref13_Same.sig k), (18, repage_Book_Slots.sig k), (19, repage_Book_Copy.sig k)]
noncomputable def d : FD := ⟨6, Try.f6, 119, 161, [(2, 119, 9), (3, 128, 4), (6, 132, 9), (5, 141, 10), (9, 151, 10)], [], [], [], [.tmp 4], .s .n (.s .n (.s .n (.j 0 (.s (.o 5 .n) .n) (.j 1 .n (.s .n (.s .n (.s (.s (.o 9 .n) .n) (.s .n (.j 2 .n .n)))))))))⟩
abbrev s0 : Sh := [(3, .at_ 128), (5, .at_ 141), (6, .at_ 132), (128, .box y25), (132, .box y22), (141, .box y18)]
abbrev s1 : Sh := [(3, .at_ 128), (5, .at_ 141), (6, .at_ 132), (128, .box y25), (132, .box y22), (141, .box y18)]
abbrev s2 : Sh := [(3, .at_ 128), (5, .at_ 141), (6, .at_ 132), (8, .v y0), (10, .v y16), (128, .box y25), (132, .box y22), (141, .box y18)]
def O (k : Nat) : List (Orc (denR ([.c false .b]))) := [⟨s0, fun y => j0 k y.2.2.2.1 y.2.2.2.2.1 y.2.2.2.2.2.1⟩, ⟨s1, fun y => j1 k y.2.2.2.1 y.2.2.2.2.1 y.2.2.2.2.2.1⟩, ⟨s2, fun y => j2 k y.2.2.2.1 y.2.2.2.2.1 y.2.2.2.2.2.1 y.2.2.2.2.2.2.1 y.2.2.2.2.2.2.2.1⟩]
theorem e2 (k : Nat) (y : denS s2) : j2 (k + 1) y.2.2.2.1 y.2.2.2.2.1 y.2.2.2.2.2.1 y.2.2.2.2.2.2.1 y.2.2.2.2.2.2.2.1 = SS.ev d E O k [1, 1, 1, 1, 1, 1, 1, 1, 1, 1] s2 y := by rw [j2]; kernel_rfl
theorem e1 (k : Nat) (y : denS s1) : j1 (k + 1) y.2.2.2.1 y.2.2.2.2.1 y.2.2.2.2.2.1 = SS.ev d E O k [1, 1, 1, 1, 1] s1 y := by rw [j1]; kernel_rfl
theorem e0 (k : Nat) (y : denS s0) : j0 (k + 1) y.2.2.2.1 y.2.2.2.2.1 y.2.2.2.2.2.1 = SS.ev d E O k [1, 1, 1, 1] s0 y := by rw [j0]; kernel_rfl
theorem ok (k : Nat) : EnvOk Try.prog (6, sig k) := fnP SS d E O sig (fun _ => rfl) Try.func6 (by kernel_rfl) rfl (fun k => ⟨regletlaw13_awake.ok k, regletlaw13_begun.ok k, regletref13_May.ok k, repage_Book_Starts.ok k, repage_Book_Replace.ok k, regletref12_Same.ok k, regletref13_Same.ok k, repage_Book_Slots.ok k, repage_Book_Copy.ok k, trivial⟩) ⟨fun _ => rfl, fun _ => rfl, fun _ => rfl, trivial⟩ (by kernel_rfl) (fun k => pc 2 rfl (e2 k) <| pc 1 rfl (e1 k) <| pc 0 rfl (e0 k) <| pn) (fun k x => by kernel_rfl) k
end regletlaw13_RepageBack
namespace repage_Book_Resize
def f (k : Nat) (a0 : A0) (a1 : Int) : Option A8 := (pages_Check.f k a1 a0.2.2.2).bind fun r => if (!decide (r = 0)) = true then (some (0, r, a0)) else ((pages_Paginate.f k a0.1 a1 a0.2.2.2).bind fun r2 => some ((r2.1.length : Int), 0, (a0.1, r2.1, a1, a0.2.2.2.1, a0.2.2.2.2.1, a0.2.2.2.2.2.1, a0.2.2.2.2.2.2.1, a0.2.2.2.2.2.2.2.1, a0.2.2.2.2.2.2.2.2.1, a0.2.2.2.2.2.2.2.2.2)))
def sig (k : Nat) : Sig := .l y18 [(false, (.i .i64))] [.c false (.i .i64), .c false (.i .i64)] fun b x => f k b x.1
def E (k : Nat) : List (Nat × Sig) := [(14, pages_Paginate.sig k), (31, pages_Check.sig k)]
noncomputable def d : FD := ⟨34, Try.f34, 41, 51, [(0, 41, 10)], [0], [33], [], [.tmp 4, .tmp 5], .n⟩
def O (k : Nat) : List (Orc (denR ([.c false (.i .i64), .c false (.i .i64)] ++ [.c true y18]))) := []
theorem ok (k : Nat) : EnvOk Try.prog (34, sig k) := fnL SS d E O sig (fun _ => rfl) Try.func34 (by kernel_rfl) rfl (fun k => ⟨pages_Paginate.ok k, pages_Check.ok k, trivial⟩) trivial (by kernel_rfl) (fun _ => pn) (fun k b x => by kernel_rfl) k
end repage_Book_Resize
namespace regletref13_in
mutual
def l0 : Nat → (List Int) → Int → Int → Option Bool
 | 0, _, _, _ => none
 | k + 1, l, n, i => if (decide (i < (l.length : Int))) = true then ((at? l i).bind fun e => if (decide (e = n)) = true then (some true) else (l0 k l n (wrap64 (i + 1)))) else (some false)
end
def f (k : Nat) (a0 : (List Int)) (a1 : Int) : Option Bool := l0 k a0 a1 0
def sig (k : Nat) : Sig := .p [(false, y5), (false, (.i .i64))] [.c false .b] fun x => f k x.1 x.2.1
def E (k : Nat) : List (Nat × Sig) := []
noncomputable def d : FD := ⟨43, Try.f43, 18, 18, [], [], [], [], [.tmp 4], .s .n (.s (.s .n (.s (.l 0 .n) .n)) .n)⟩
abbrev s0 : Sh := [(0, .v y5), (1, .v (.i .i64)), (5, .v (.i .i64))]
def O (k : Nat) : List (Orc (denR ([.c false .b]))) := [⟨s0, fun y => l0 k y.1 y.2.1 y.2.2.1⟩]
theorem e0 (k : Nat) (y : denS s0) : l0 (k + 1) y.1 y.2.1 y.2.2.1 = SS.ev d E O k [1, 0, 1, 0, 0] s0 y := by rw [l0]; kernel_rfl
theorem ok (k : Nat) : EnvOk Try.prog (43, sig k) := fnP SS d E O sig (fun _ => rfl) Try.func43 (by kernel_rfl) rfl (fun k => trivial) ⟨fun _ => rfl, trivial⟩ (by kernel_rfl) (fun k => pc 0 rfl (e0 k) <| pn) (fun k x => by kernel_rfl) k
end regletref13_in
namespace regletref13_Replace
mutual
def l0 : Nat → Int → Int → (List api_Slot) → (List api_Slot) → (List Int) → (List Int) → Int → Int → A4 → A4 → Option A9
 | 0, _, _, _, _, _, _, _, _, _, _ => none
 | k + 1, t, t2, t3, t4, t5, t6, t7, t8, t9, t10 => if (decide (t8 < (t5.length : Int))) = true then (if 0 ≤ t8 ∧ t8 < (t5.length : Int) then ((t5[t8.toNat]?).bind fun e => if (decide (e ≤ t)) = true then (if (decide (0 < t8)) = true then (j1 k t t2 t3 t4 t5 t6 (wrap64 (t8 - 1)) t8 t9 t10) else (j1 k t t2 t3 t4 t5 t6 t7 t8 t9 t10)) else (j1 k t t2 t3 t4 t5 t6 t7 t8 t9 t10)) else none) else (l2 k t t2 t3 t4 t5 t6 t7 0 t7 t9 t10)
def j1 : Nat → Int → Int → (List api_Slot) → (List api_Slot) → (List Int) → (List Int) → Int → Int → A4 → A4 → Option A9
 | 0, _, _, _, _, _, _, _, _, _, _ => none
 | k + 1, t11, t12, t13, t14, t15, t16, t17, t18, t19, t20 => l0 k t11 t12 t13 t14 t15 t16 t17 (wrap64 (t18 + 1)) t19 t20
def l2 : Nat → Int → Int → (List api_Slot) → (List api_Slot) → (List Int) → (List Int) → Int → Int → Int → A4 → A4 → Option A9
 | 0, _, _, _, _, _, _, _, _, _, _, _ => none
 | k + 1, t21, t22, t23, t24, t25, t26, t27, t28, t29, t30, t31 => if (decide (t29 < (t26.length : Int))) = true then (if 0 ≤ t29 ∧ t29 < (t26.length : Int) then ((t26[t29.toNat]?).bind fun e2 => if 0 ≤ t29 ∧ t29 < (t26.length : Int) then ((t26[t29.toNat]?).bind fun e3 => if (decide ((wrap64 (t21 + (t23.length : Int))) ≤ e3)) = true then ((regletref13_in.f k t25 (wrap64 ((wrap64 (e2 - (t23.length : Int))) + t22))).bind fun r3 => if r3 = true then (j3 k t24 t27 t28 t30 t31) else (j4 k t21 t22 t23 t24 t25 t26 t27 t28 t29 t30 t31)) else (j4 k t21 t22 t23 t24 t25 t26 t27 t28 t29 t30 t31)) else none) else none) else (j3 k t24 t27 t28 t30 t31)
def j3 : Nat → (List api_Slot) → Int → Int → A4 → A4 → Option A9
 | 0, _, _, _, _, _ => none
 | k + 1, t32, t33, t34, t35, t36 => some ((t32, t35.2.1, t35.2.2.1, t35.2.2.2.1, t35.2.2.2.2.1, t35.2.2.2.2.2.1, t35.2.2.2.2.2.2.1, t35.2.2.2.2.2.2.2.1, t35.2.2.2.2.2.2.2.2), t33, t34)
def j4 : Nat → Int → Int → (List api_Slot) → (List api_Slot) → (List Int) → (List Int) → Int → Int → Int → A4 → A4 → Option A9
 | 0, _, _, _, _, _, _, _, _, _, _, _ => none
 | k + 1, t37, t38, t39, t40, t41, t42, t43, t44, t45, t46, t47 => l2 k t37 t38 t39 t40 t41 t42 t43 (wrap64 (t44 + 1)) (wrap64 (t45 + 1)) t46 t47
end
def f (k : Nat) (a0 : A4) (a1 : Int) (a2 : Int) (a3 : (List api_Slot)) : Option A9 := if 0 ≤ (0 : Int) ∧ (0 : Int) ≤ a1 ∧ a1 ≤ (a0.1.length : Int) then (if (([] : List api_Slot).length + ((a0.1.drop ((0 : Int).toNat)).take (a1.toNat - (0 : Int).toNat)).length) * 32 ≤ 140737488355328 then (if ((([] : List api_Slot) ++ ((a0.1.drop ((0 : Int).toNat)).take (a1.toNat - (0 : Int).toNat))).length + a3.length) * 32 ≤ 140737488355328 then (if 0 ≤ (wrap64 (a1 + a2)) ∧ (wrap64 (a1 + a2)) ≤ (a0.1.length : Int) ∧ (a0.1.length : Int) ≤ (a0.1.length : Int) then (if (((([] : List api_Slot) ++ ((a0.1.drop ((0 : Int).toNat)).take (a1.toNat - (0 : Int).toNat))) ++ a3).length + ((a0.1.drop ((wrap64 (a1 + a2)).toNat)).take ((a0.1.length : Int).toNat - (wrap64 (a1 + a2)).toNat)).length) * 32 ≤ 140737488355328 then ((regletref12_Paginate.f k a0.1 a0.2.1 a0.2.2).bind fun r => (regletref12_Paginate.f k (((([] : List api_Slot) ++ ((a0.1.drop ((0 : Int).toNat)).take (a1.toNat - (0 : Int).toNat))) ++ a3) ++ ((a0.1.drop ((wrap64 (a1 + a2)).toNat)).take ((a0.1.length : Int).toNat - (wrap64 (a1 + a2)).toNat))) a0.2.1 a0.2.2).bind fun r2 => l0 k a1 a2 a3 (((([] : List api_Slot) ++ ((a0.1.drop ((0 : Int).toNat)).take (a1.toNat - (0 : Int).toNat))) ++ a3) ++ ((a0.1.drop ((wrap64 (a1 + a2)).toNat)).take ((a0.1.length : Int).toNat - (wrap64 (a1 + a2)).toNat))) r r2 0 0 a0 (([] : List api_Slot), 0, 0, 0, 0, 0, 0, 0, 0)) else none) else none) else none) else none) else none
def sig (k : Nat) : Sig := .p [(true, y19), (false, (.i .i64)), (false, (.i .i64)), (false, y4)] [.c true y20, .c false (.i .i64), .c false (.i .i64)] fun x => f k x.1 x.2.1 x.2.2.1 x.2.2.2.1
def E (k : Nat) : List (Nat × Sig) := [(16, regletref12_Paginate.sig k), (43, regletref13_in.sig k)]
noncomputable def d : FD := ⟨35, Try.f35, 107, 125, [(4, 107, 9), (8, 116, 9)], [], [], [], [.cell 8 32, .tmp 9, .tmp 10], .s .n (.s .n (.s .n (.s .n (.s .n (.s .n (.s .n (.s (.s .n (.s (.l 0 (.s .n (.j 1 .n .n))) .n)) (.s .n (.j 3 (.s .n (.s (.l 2 (.s .n (.s (.s (.s .n (.j 4 .n .n)) .n) .n))) .n)) .n)))))))))⟩
abbrev s0 : Sh := [(1, .v (.i .i64)), (2, .v (.i .i64)), (3, .v y4), (4, .at_ 107), (8, .at_ 116), (11, .v y16), (12, .v y0), (13, .v y0), (14, .v (.i .i64)), (15, .v (.i .i64)), (107, .box y19), (116, .box y20)]
abbrev s1 : Sh := [(1, .v (.i .i64)), (2, .v (.i .i64)), (3, .v y4), (4, .at_ 107), (8, .at_ 116), (11, .v y16), (12, .v y0), (13, .v y0), (14, .v (.i .i64)), (15, .v (.i .i64)), (107, .box y19), (116, .box y20)]
abbrev s2 : Sh := [(1, .v (.i .i64)), (2, .v (.i .i64)), (3, .v y4), (4, .at_ 107), (8, .at_ 116), (11, .v y16), (12, .v y0), (13, .v y0), (14, .v (.i .i64)), (16, .v (.i .i64)), (17, .v (.i .i64)), (107, .box y19), (116, .box y20)]
abbrev s3 : Sh := [(4, .at_ 107), (8, .at_ 116), (11, .v y16), (14, .v (.i .i64)), (16, .v (.i .i64)), (107, .box y19), (116, .box y20)]
abbrev s4 : Sh := [(1, .v (.i .i64)), (2, .v (.i .i64)), (3, .v y4), (4, .at_ 107), (8, .at_ 116), (11, .v y16), (12, .v y0), (13, .v y0), (14, .v (.i .i64)), (16, .v (.i .i64)), (17, .v (.i .i64)), (107, .box y19), (116, .box y20)]
def O (k : Nat) : List (Orc (denR ([.c true y20, .c false (.i .i64), .c false (.i .i64)]))) := [⟨s0, fun y => l0 k y.1 y.2.1 y.2.2.1 y.2.2.2.2.2.1 y.2.2.2.2.2.2.1 y.2.2.2.2.2.2.2.1 y.2.2.2.2.2.2.2.2.1 y.2.2.2.2.2.2.2.2.2.1 y.2.2.2.2.2.2.2.2.2.2.1 y.2.2.2.2.2.2.2.2.2.2.2.1⟩, ⟨s1, fun y => j1 k y.1 y.2.1 y.2.2.1 y.2.2.2.2.2.1 y.2.2.2.2.2.2.1 y.2.2.2.2.2.2.2.1 y.2.2.2.2.2.2.2.2.1 y.2.2.2.2.2.2.2.2.2.1 y.2.2.2.2.2.2.2.2.2.2.1 y.2.2.2.2.2.2.2.2.2.2.2.1⟩, ⟨s2, fun y => l2 k y.1 y.2.1 y.2.2.1 y.2.2.2.2.2.1 y.2.2.2.2.2.2.1 y.2.2.2.2.2.2.2.1 y.2.2.2.2.2.2.2.2.1 y.2.2.2.2.2.2.2.2.2.1 y.2.2.2.2.2.2.2.2.2.2.1 y.2.2.2.2.2.2.2.2.2.2.2.1 y.2.2.2.2.2.2.2.2.2.2.2.2.1⟩, ⟨s3, fun y => j3 k y.2.2.1 y.2.2.2.1 y.2.2.2.2.1 y.2.2.2.2.2.1 y.2.2.2.2.2.2.1⟩, ⟨s4, fun y => j4 k y.1 y.2.1 y.2.2.1 y.2.2.2.2.2.1 y.2.2.2.2.2.2.1 y.2.2.2.2.2.2.2.1 y.2.2.2.2.2.2.2.2.1 y.2.2.2.2.2.2.2.2.2.1 y.2.2.2.2.2.2.2.2.2.2.1 y.2.2.2.2.2.2.2.2.2.2.2.1 y.2.2.2.2.2.2.2.2.2.2.2.2.1⟩]
theorem e1 (k : Nat) (y : denS s1) : j1 (k + 1) y.1 y.2.1 y.2.2.1 y.2.2.2.2.2.1 y.2.2.2.2.2.2.1 y.2.2.2.2.2.2.2.1 y.2.2.2.2.2.2.2.2.1 y.2.2.2.2.2.2.2.2.2.1 y.2.2.2.2.2.2.2.2.2.2.1 y.2.2.2.2.2.2.2.2.2.2.2.1 = SS.ev d E O k [1, 1, 1, 1, 1, 1, 1, 0, 1, 0, 0, 1, 1] s1 y := by rw [j1]; kernel_rfl
theorem e0 (k : Nat) (y : denS s0) : l0 (k + 1) y.1 y.2.1 y.2.2.1 y.2.2.2.2.2.1 y.2.2.2.2.2.2.1 y.2.2.2.2.2.2.2.1 y.2.2.2.2.2.2.2.2.1 y.2.2.2.2.2.2.2.2.2.1 y.2.2.2.2.2.2.2.2.2.2.1 y.2.2.2.2.2.2.2.2.2.2.2.1 = SS.ev d E O k [1, 1, 1, 1, 1, 1, 1, 0, 1, 0, 0] s0 y := by rw [l0]; kernel_rfl
theorem e4 (k : Nat) (y : denS s4) : j4 (k + 1) y.1 y.2.1 y.2.2.1 y.2.2.2.2.2.1 y.2.2.2.2.2.2.1 y.2.2.2.2.2.2.2.1 y.2.2.2.2.2.2.2.2.1 y.2.2.2.2.2.2.2.2.2.1 y.2.2.2.2.2.2.2.2.2.2.1 y.2.2.2.2.2.2.2.2.2.2.2.1 y.2.2.2.2.2.2.2.2.2.2.2.2.1 = SS.ev d E O k [1, 1, 1, 1, 1, 1, 1, 1, 1, 0, 1, 0, 0, 1, 0, 0, 1, 1] s4 y := by rw [j4]; kernel_rfl
theorem e2 (k : Nat) (y : denS s2) : l2 (k + 1) y.1 y.2.1 y.2.2.1 y.2.2.2.2.2.1 y.2.2.2.2.2.2.1 y.2.2.2.2.2.2.2.1 y.2.2.2.2.2.2.2.2.1 y.2.2.2.2.2.2.2.2.2.1 y.2.2.2.2.2.2.2.2.2.2.1 y.2.2.2.2.2.2.2.2.2.2.2.1 y.2.2.2.2.2.2.2.2.2.2.2.2.1 = SS.ev d E O k [1, 1, 1, 1, 1, 1, 1, 1, 1, 0, 1, 0, 0] s2 y := by rw [l2]; kernel_rfl
theorem e3 (k : Nat) (y : denS s3) : j3 (k + 1) y.2.2.1 y.2.2.2.1 y.2.2.2.2.1 y.2.2.2.2.2.1 y.2.2.2.2.2.2.1 = SS.ev d E O k [1, 1, 1, 1, 1, 1, 1, 1, 1, 1] s3 y := by rw [j3]; kernel_rfl
theorem ok (k : Nat) : EnvOk Try.prog (35, sig k) := fnP SS d E O sig (fun _ => rfl) Try.func35 (by kernel_rfl) rfl (fun k => ⟨regletref12_Paginate.ok k, regletref13_in.ok k, trivial⟩) ⟨fun _ => rfl, fun _ => rfl, fun _ => rfl, fun _ => rfl, fun _ => rfl, trivial⟩ (by kernel_rfl) (fun k => pc 1 rfl (e1 k) <| pc 0 rfl (e0 k) <| pc 4 rfl (e4 k) <| pc 2 rfl (e2 k) <| pc 3 rfl (e3 k) <| pn) (fun k x => by kernel_rfl) k
end regletref13_Replace
namespace regletlaw13_step
def f (k : Nat) (a0 : A0) (a1 : A4) (a2 : A5) : Option A10 := if (!decide (a2.2.2.2 = 0)) = true then ((repage_Book_Resize.f k a0 a2.2.2.2).bind fun r => (regletref12_Check.f k a2.2.2.2 a1.2.2).bind fun r2 => if (!r2) = true then (if (decide (r.2.1 = 41)) = true then (some (a1, decide (r.1 = 0), r.2.2)) else (some (a1, false, r.2.2))) else (if (decide (r.2.1 = 0)) = true then ((regletref12_Paginate.f k a1.1 a2.2.2.2 a1.2.2).bind fun r3 => some ((a1.1, a2.2.2.2, a1.2.2.1, a1.2.2.2.1, a1.2.2.2.2.1, a1.2.2.2.2.2.1, a1.2.2.2.2.2.2.1, a1.2.2.2.2.2.2.2.1, a1.2.2.2.2.2.2.2.2), decide (r.1 = (r3.length : Int)), r.2.2)) else (some ((a1.1, a2.2.2.2, a1.2.2.1, a1.2.2.2.1, a1.2.2.2.2.1, a1.2.2.2.2.2.1, a1.2.2.2.2.2.2.1, a1.2.2.2.2.2.2.2.1, a1.2.2.2.2.2.2.2.2), false, r.2.2)))) else ((repage_Book_Replace.f k a0 a2.1 a2.2.1 a2.2.2.1).bind fun r4 => (regletref13_May.f k a1 a2.1 a2.2.1 a2.2.2.1).bind fun r5 => if (!r5) = true then (if (decide (r4.2.2.1 = 1)) = true then (if (decide (r4.1 = 0)) = true then (some (a1, decide (r4.2.1 = 0), r4.2.2.2)) else (some (a1, false, r4.2.2.2))) else (some (a1, false, r4.2.2.2))) else ((regletref13_Replace.f k a1 a2.1 a2.2.1 a2.2.2.1).bind fun r6 => if (decide (r4.2.2.1 = 0)) = true then (if (decide (r4.1 = r6.2.1)) = true then (some (r6.1, decide (r4.2.1 = r6.2.2), r4.2.2.2)) else (some (r6.1, false, r4.2.2.2))) else (some (r6.1, false, r4.2.2.2))))
def sig (k : Nat) : Sig := .l y18 [(true, y22), (true, y25)] [.c true y22, .c false .b] fun b x => f k b x.1 x.2.1
def E (k : Nat) : List (Nat × Sig) := [(10, regletref13_May.sig k), (12, repage_Book_Replace.sig k), (16, regletref12_Paginate.sig k), (25, regletref12_Check.sig k), (34, repage_Book_Resize.sig k), (35, regletref13_Replace.sig k)]
noncomputable def d : FD := ⟨20, Try.f20, 114, 155, [(0, 114, 10), (4, 124, 9), (5, 133, 4), (6, 137, 9), (13, 146, 9)], [0], [], [], [.cell 6 32, .tmp 7], .n⟩
def O (k : Nat) : List (Orc (denR ([.c true y22, .c false .b] ++ [.c true y18]))) := []
theorem ok (k : Nat) : EnvOk Try.prog (20, sig k) := fnL SS d E O sig (fun _ => rfl) Try.func20 (by kernel_rfl) rfl (fun k => ⟨regletref13_May.ok k, repage_Book_Replace.ok k, regletref12_Paginate.ok k, regletref12_Check.ok k, repage_Book_Resize.ok k, regletref13_Replace.ok k, trivial⟩) trivial (by kernel_rfl) (fun _ => pn) (fun k b x => by kernel_rfl) k
end regletlaw13_step
namespace repage_Book_Lines
def f (k : Nat) (a0 : A0) : Option Int := some (a0.1.length : Int)
def sig (k : Nat) : Sig := .p [(false, y15)] [.c false (.i .i64)] fun x => f k x.1
def E (k : Nat) : List (Nat × Sig) := []
noncomputable def d : FD := ⟨21, Try.f21, 8, 8, [], [], [], [], [.tmp 2], .n⟩
def O (k : Nat) : List (Orc (denR ([.c false (.i .i64)]))) := []
theorem ok (k : Nat) : EnvOk Try.prog (21, sig k) := fnP SS d E O sig (fun _ => rfl) Try.func21 (by kernel_rfl) rfl (fun k => trivial) trivial (by kernel_rfl) (fun _ => pn) (fun k x => by kernel_rfl) k
end repage_Book_Lines
namespace repage_Book_Height
def f (k : Nat) (a0 : A0) : Option Int := some a0.2.2.1
def sig (k : Nat) : Sig := .p [(false, y15)] [.c false (.i .i64)] fun x => f k x.1
def E (k : Nat) : List (Nat × Sig) := []
noncomputable def d : FD := ⟨22, Try.f22, 7, 7, [], [], [], [], [.tmp 2], .n⟩
def O (k : Nat) : List (Orc (denR ([.c false (.i .i64)]))) := []
theorem ok (k : Nat) : EnvOk Try.prog (22, sig k) := fnP SS d E O sig (fun _ => rfl) Try.func22 (by kernel_rfl) rfl (fun k => trivial) trivial (by kernel_rfl) (fun _ => pn) (fun k x => by kernel_rfl) k
end repage_Book_Height
namespace regletlaw13_RepagePlays
mutual
def j0 : Nat → A11 → A4 → A0 → Option Bool
 | 0, _, _, _ => none
 | k + 1, t, t2, t3 => l1 k t 0 t2 t3
def l1 : Nat → A11 → Int → A4 → A0 → Option Bool
 | 0, _, _, _, _ => none
 | k + 1, t4, t5, t6, t7 => if (decide (t5 < (t4.length : Int))) = true then (if (decide (t5 < 20)) = true then (j2 k t4 t5 t6 t7) else (some true)) else (some true)
def j2 : Nat → A11 → Int → A4 → A0 → Option Bool
 | 0, _, _, _, _ => none
 | k + 1, t8, t9, t10, t11 => (at? t8 t9).bind fun e => if (decide (60 < (e.2.2.1.length : Int))) = true then (some true) else (if (decide (400 < (t10.1.length : Int))) = true then (some true) else (j3 k t8 t9 t10 t11))
def j3 : Nat → A11 → Int → A4 → A0 → Option Bool
 | 0, _, _, _, _ => none
 | k + 1, t12, t13, t14, t15 => (at? t12 t13).bind fun e2 => (regletlaw13_step.f k t15 t14 e2).bind fun r3 => if (!r3.2.1) = true then (some false) else ((repage_Book_Starts.f k r3.2.2).bind fun r4 => (regletref12_Paginate.f k r3.1.1 r3.1.2.1 r3.1.2.2).bind fun r5 => (regletref12_Same.f k r4 r5).bind fun r6 => if (!r6) = true then (some false) else ((repage_Book_Slots.f k r3.2.2).bind fun r7 => (regletref13_Same.f k r7 r3.1.1).bind fun r8 => if (!r8) = true then (some false) else ((repage_Book_Lines.f k r3.2.2).bind fun r9 => if (!decide (r9 = (r3.1.1.length : Int))) = true then (some false) else ((repage_Book_Height.f k r3.2.2).bind fun r10 => if (!decide (r10 = r3.1.2.1)) = true then (some false) else (j4 k t12 t13 r3.1 r3.2.2)))))
def j4 : Nat → A11 → Int → A4 → A0 → Option Bool
 | 0, _, _, _, _ => none
 | k + 1, t16, t17, t18, t19 => l1 k t16 (wrap64 (t17 + 1)) t18 t19
end
def f (k : Nat) (a0 : A4) (a1 : A11) : Option Bool := (regletlaw13_awake.f k).bind fun r => if (!r) = true then (some false) else ((regletlaw13_begun.f k a0).bind fun r2 => optK r2.1 (if (!r2.2.2) = true then (some (!r2.2.2)) else (some (!r2.2.2))) fun p => if (!r2.2.2) = true then (some (!r2.2.2)) else (j0 k a1 r2.2.1 p))
def sig (k : Nat) : Sig := .p [(true, y22), (false, y29)] [.c false .b] fun x => f k x.1 x.2.1
def E (k : Nat) : List (Nat × Sig) := [(8, regletlaw13_awake.sig k), (9, regletlaw13_begun.sig k), (11, repage_Book_Starts.sig k), (15, regletref12_Same.sig k), (16, regletref12_Paginate.sig k), (17, regletref13_Same.sig k), (18, repage_Book_Slots.sig k), (20, regletlaw13_step.sig k), (21, repage_Book_Lines.sig k), (22, repage_Book_Height.sig k)]
noncomputable def d : FD := ⟨7, Try.f7, 97, 134, [(2, 97, 9), (6, 106, 9), (5, 115, 10), (9, 125, 9)], [], [], [], [.tmp 4], .s .n (.s .n (.s .n (.j 0 (.s (.o 5 .n) .n) (.s (.s .n (.s (.l 1 (.j 2 .n (.j 4 (.s (.j 3 .n .n) .n) .n))) .n)) .n))))⟩
abbrev s0 : Sh := [(1, .v y29), (5, .at_ 115), (6, .at_ 106), (106, .box y22), (115, .box y18)]
abbrev s1 : Sh := [(1, .v y29), (5, .at_ 115), (6, .at_ 106), (8, .v (.i .i64)), (106, .box y22), (115, .box y18)]
abbrev s2 : Sh := [(1, .v y29), (5, .at_ 115), (6, .at_ 106), (8, .v (.i .i64)), (106, .box y22), (115, .box y18)]
abbrev s3 : Sh := [(1, .v y29), (5, .at_ 115), (6, .at_ 106), (8, .v (.i .i64)), (106, .box y22), (115, .box y18)]
abbrev s4 : Sh := [(1, .v y29), (5, .at_ 115), (6, .at_ 106), (8, .v (.i .i64)), (106, .box y22), (115, .box y18)]
def O (k : Nat) : List (Orc (denR ([.c false .b]))) := [⟨s0, fun y => j0 k y.1 y.2.2.2.1 y.2.2.2.2.1⟩, ⟨s1, fun y => l1 k y.1 y.2.2.2.1 y.2.2.2.2.1 y.2.2.2.2.2.1⟩, ⟨s2, fun y => j2 k y.1 y.2.2.2.1 y.2.2.2.2.1 y.2.2.2.2.2.1⟩, ⟨s3, fun y => j3 k y.1 y.2.2.2.1 y.2.2.2.2.1 y.2.2.2.2.2.1⟩, ⟨s4, fun y => j4 k y.1 y.2.2.2.1 y.2.2.2.2.1 y.2.2.2.2.2.1⟩]
theorem e3 (k : Nat) (y : denS s3) : j3 (k + 1) y.1 y.2.2.2.1 y.2.2.2.2.1 y.2.2.2.2.2.1 = SS.ev d E O k [1, 1, 1, 1, 0, 1, 0, 0, 1, 0, 0, 1] s3 y := by rw [j3]; kernel_rfl
theorem e4 (k : Nat) (y : denS s4) : j4 (k + 1) y.1 y.2.2.2.1 y.2.2.2.2.1 y.2.2.2.2.2.1 = SS.ev d E O k [1, 1, 1, 1, 0, 1, 0, 0, 1, 1] s4 y := by rw [j4]; kernel_rfl
theorem e2 (k : Nat) (y : denS s2) : j2 (k + 1) y.1 y.2.2.2.1 y.2.2.2.2.1 y.2.2.2.2.2.1 = SS.ev d E O k [1, 1, 1, 1, 0, 1, 0, 0, 1] s2 y := by rw [j2]; kernel_rfl
theorem e1 (k : Nat) (y : denS s1) : l1 (k + 1) y.1 y.2.2.2.1 y.2.2.2.2.1 y.2.2.2.2.2.1 = SS.ev d E O k [1, 1, 1, 1, 0, 1, 0, 0] s1 y := by rw [l1]; kernel_rfl
theorem e0 (k : Nat) (y : denS s0) : j0 (k + 1) y.1 y.2.2.2.1 y.2.2.2.2.1 = SS.ev d E O k [1, 1, 1, 1] s0 y := by rw [j0]; kernel_rfl
theorem ok (k : Nat) : EnvOk Try.prog (7, sig k) := fnP SS d E O sig (fun _ => rfl) Try.func7 (by kernel_rfl) rfl (fun k => ⟨regletlaw13_awake.ok k, regletlaw13_begun.ok k, repage_Book_Starts.ok k, regletref12_Same.ok k, regletref12_Paginate.ok k, regletref13_Same.ok k, repage_Book_Slots.ok k, regletlaw13_step.ok k, repage_Book_Lines.ok k, repage_Book_Height.ok k, trivial⟩) ⟨fun _ => rfl, fun _ => rfl, fun _ => rfl, fun _ => rfl, fun _ => rfl, trivial⟩ (by kernel_rfl) (fun k => pc 3 rfl (e3 k) <| pc 4 rfl (e4 k) <| pc 2 rfl (e2 k) <| pc 1 rfl (e1 k) <| pc 0 rfl (e0 k) <| pn) (fun k x => by kernel_rfl) k
end regletlaw13_RepagePlays
end Go.Proofs.Ytnlocbjojbgdcaa.Vm
