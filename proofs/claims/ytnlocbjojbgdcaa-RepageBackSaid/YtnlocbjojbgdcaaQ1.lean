-- PRINTED by vq.py. Not trusted: Lean checks it.
import Derived.Test.YtnlocbjojbgdcaaQ0
namespace Go.Proofs.Ytnlocbjojbgdcaa.Vm
open Go
open _root_.Go.RowKit (wrap64)
set_option maxRecDepth 100000
set_option linter.unusedVariables false
/-! (*reglet/repage.Book).Starts -/
def repage_Book_Starts.f (k : Nat) (a0 : List api_Slot × List Int × Int × Int × Int × Int × Int × Int × Int × Int) : Option (List Int) := if (([] : List Int).length + a0.2.1.length) * 8 ≤ 140737488355328 then (some (([] : List Int) ++ a0.2.1)) else none
def repage_Book_Starts.sig (k : Nat) : Sig := .p [(false, y15)] [.c false y0] fun x => repage_Book_Starts.f k x.1
def repage_Book_Starts.E (k : Nat) : List (Nat × Sig) := []
def repage_Book_Starts.G (P : Program) : GI := ⟨P, TT, 9, 9, [], [], [], [], []⟩
def repage_Book_Starts.H : H := .n
def repage_Book_Starts.O (k : Nat) : List (Orc (denR [.c false y0])) := []
theorem repage_Book_Starts.go : goesTo Try.prog 11 := ⟨_, Try.func11, by kernel_rfl, rfl⟩
theorem repage_Book_Starts.ok (k : Nat) : SigOk Try.prog 11 (repage_Book_Starts.sig k) :=
  fn_p (G := repage_Book_Starts.G Try.prog) (c := cd Try.f11) (rs := [.tmp 2]) (args := [(false, y15)]) (l := [.c false y0]) (fn := Try.f11) ⟨Try.func11, by kernel_rfl, by kernel_rfl, by kernel_rfl, le_of rfl, le_of rfl, TT_ok⟩ rfl repage_Book_Starts.E (fun k p hp => nomatch hp)
    (fun k i => (repage_Book_Starts.O k)[i]?) repage_Book_Starts.H (fun k x => repage_Book_Starts.f k x.1)
    (fun id o y h => by cases id <;> cases h)
    (fun k p hp => by rw [show pts (cd Try.f11) repage_Book_Starts.H = [] by kernel_rfl] at hp; nomatch hp)
    (fun k x => by kernel_rfl) k
/-! (*reglet/repage.Book).edge -/
def repage_Book_edge.f (k : Nat) (a0 : List api_Slot × List Int × Int × Int × Int × Int × Int × Int × Int × Int) (a1 : Int) : Option Bool := if (decide (a1 = (a0.1.length : Int))) = true then (some true) else ((at? a0.1 a1).bind fun e => some (decide (e.2.1 = 0)))
def repage_Book_edge.sig (k : Nat) : Sig := .p [(false, y15), (false, (.i .i64))] [.c false .b] fun x => repage_Book_edge.f k x.1 x.2.1
def repage_Book_edge.E (k : Nat) : List (Nat × Sig) := []
def repage_Book_edge.G (P : Program) : GI := ⟨P, TT, 23, 23, [], [], [], [], []⟩
def repage_Book_edge.H : H := .n
def repage_Book_edge.O (k : Nat) : List (Orc (denR [.c false .b])) := []
theorem repage_Book_edge.go : goesTo Try.prog 37 := ⟨_, Try.func37, by kernel_rfl, rfl⟩
theorem repage_Book_edge.ok (k : Nat) : SigOk Try.prog 37 (repage_Book_edge.sig k) :=
  fn_p (G := repage_Book_edge.G Try.prog) (c := cd Try.f37) (rs := [.tmp 4]) (args := [(false, y15), (false, (.i .i64))]) (l := [.c false .b]) (fn := Try.f37) ⟨Try.func37, by kernel_rfl, by kernel_rfl, by kernel_rfl, le_of rfl, le_of rfl, TT_ok⟩ rfl repage_Book_edge.E (fun k p hp => nomatch hp)
    (fun k i => (repage_Book_edge.O k)[i]?) repage_Book_edge.H (fun k x => repage_Book_edge.f k x.1 x.2.1)
    (fun id o y h => by cases id <;> cases h)
    (fun k p hp => by rw [show pts (cd Try.f37) repage_Book_edge.H = [] by kernel_rfl] at hp; nomatch hp)
    (fun k x => by kernel_rfl) k
/-! (*reglet/repage.Book).whole -/
mutual
def repage_Book_whole.j0 : Nat → (List api_Slot × List Int × Int × Int × Int × Int × Int × Int × Int × Int) → Int → Int → Option Bool
  | 0, _, _, _ => none
  | k + 1, b, first, gone => (repage_Book_edge.f k b first).bind fun r => if r = true then ((repage_Book_edge.f k b (wrap64 (first + gone))).bind fun r2 => some r2) else (some false)
end
def repage_Book_whole.f (k : Nat) (a0 : List api_Slot × List Int × Int × Int × Int × Int × Int × Int × Int × Int) (a1 : Int) (a2 : Int) : Option Bool := if (decide (a1 < 0)) = true then (some false) else (if (decide (a2 < 0)) = true then (some false) else (if (decide ((a0.1.length : Int) < a1)) = true then (some false) else (if (decide ((wrap64 ((a0.1.length : Int) - a1)) < a2)) = true then (some false) else (repage_Book_whole.j0 k a0 a1 a2))))
def repage_Book_whole.sig (k : Nat) : Sig := .p [(false, y15), (false, (.i .i64)), (false, (.i .i64))] [.c false .b] fun x => repage_Book_whole.f k x.1 x.2.1 x.2.2.1
def repage_Book_whole.E (k : Nat) : List (Nat × Sig) := [(37, repage_Book_edge.sig k)]
def repage_Book_whole.G (P : Program) : GI := ⟨P, TT, 43, 43, [], [], [], [], []⟩
def repage_Book_whole.H : H := .s .n (.j 0 .n .n)
abbrev repage_Book_whole.j0_s : Sh := [(0, .v y15), (1, .v (.i .i64)), (2, .v (.i .i64))]
def repage_Book_whole.O (k : Nat) : List (Orc (denR [.c false .b])) := [⟨repage_Book_whole.j0_s, fun y => repage_Book_whole.j0 k y.1 y.2.1 y.2.2.1⟩]
theorem repage_Book_whole.j0_e (k : Nat) (y : denS repage_Book_whole.j0_s) : repage_Book_whole.j0 (k + 1) y.1 y.2.1 y.2.2.1 = evP ((repage_Book_whole.G Try.prog).at (repage_Book_whole.E k)) (fun i => (repage_Book_whole.O k)[i]?) [1, 1] (cd Try.f27) repage_Book_whole.H (kFin ((repage_Book_whole.G Try.prog).at (repage_Book_whole.E k)) [.tmp 6] [.c false .b]) (unS repage_Book_whole.j0_s y) := by rw [repage_Book_whole.j0]; kernel_rfl
theorem repage_Book_whole.go : goesTo Try.prog 27 := ⟨_, Try.func27, by kernel_rfl, rfl⟩
theorem repage_Book_whole.ok (k : Nat) : SigOk Try.prog 27 (repage_Book_whole.sig k) :=
  fn_p (G := repage_Book_whole.G Try.prog) (c := cd Try.f27) (rs := [.tmp 6]) (args := [(false, y15), (false, (.i .i64)), (false, (.i .i64))]) (l := [.c false .b]) (fn := Try.f27) ⟨Try.func27, by kernel_rfl, by kernel_rfl, by kernel_rfl, le_of rfl, le_of rfl, TT_ok⟩ rfl repage_Book_whole.E (fun k p hp => by
    simp only [repage_Book_whole.E, List.mem_cons, List.not_mem_nil, or_false] at hp
    rcases hp with rfl
    · exact ⟨repage_Book_edge.ok k, repage_Book_edge.go⟩)
    (fun k i => (repage_Book_whole.O k)[i]?) repage_Book_whole.H (fun k x => repage_Book_whole.f k x.1 x.2.1 x.2.2.1)
    (fun id o y h => by
    have h' := List.mem_of_getElem? h
    simp only [repage_Book_whole.O, List.mem_cons, List.not_mem_nil, or_false] at h'
    rcases h' with rfl <;> rfl)
    (fun k p hp => by
    rw [show pts (cd Try.f27) repage_Book_whole.H = [(0, [1, 1])] by kernel_rfl] at hp
    simp only [List.mem_cons, List.not_mem_nil, or_false] at hp
    rcases hp with rfl
    · exact ptOk_of rfl (repage_Book_whole.j0_e k))
    (fun k x => by kernel_rfl) k
/-! reglet/pages.Right -/
mutual
def pages_Right.l0 : Nat → (List api_Slot) → (List api_Slot) → Int → Int → Option Int
  | 0, _, _, _, _ => none
  | k + 1, t, t2, t3, t4 => if (decide (t4 < t3)) = true then ((at? t2 t4).bind fun e => if (decide (e.1 < 1)) = true then (some 1) else (if (decide (1048576 < e.1)) = true then (some 1) else (if (decide (e.2.1 < 0)) = true then (some 1) else (if (decide (e.2.2.1 ≤ e.2.1)) = true then (some 1) else (pages_Right.j1 k t t4 t2 t3 t4 e))))) else (if (decide (0 < (t.length : Int))) = true then ((at? t (wrap64 ((t.length : Int) - 1))).bind fun e2 => (at? t (wrap64 ((t.length : Int) - 1))).bind fun e3 => if (!decide (e2.2.1 = (wrap64 (e3.2.2.1 - 1)))) = true then (some 1) else (some 0)) else (some 0))
def pages_Right.j1 : Nat → (List api_Slot) → Int → (List api_Slot) → Int → Int → api_Slot → Option Int
  | 0, _, _, _, _, _, _ => none
  | k + 1, t5, t6, t7, t8, t9, t10 => if (decide (t6 = 0)) = true then (if (!decide (t10.2.1 = 0)) = true then (some 1) else (pages_Right.l0 k t5 t7 t8 (wrap64 (t9 + 1)))) else ((at? t5 (wrap64 (t6 - 1))).bind fun e4 => (at? t5 (wrap64 (t6 - 1))).bind fun e5 => if (decide (e4.2.1 = (wrap64 (e5.2.2.1 - 1)))) = true then (if (!decide (t10.2.1 = 0)) = true then (some 1) else (pages_Right.l0 k t5 t7 t8 (wrap64 (t9 + 1)))) else (pages_Right.j2 k t5 t6 t7 t8 t9 t10))
def pages_Right.j2 : Nat → (List api_Slot) → Int → (List api_Slot) → Int → Int → api_Slot → Option Int
  | 0, _, _, _, _, _, _ => none
  | k + 1, t11, t12, t13, t14, t15, t16 => (at? t11 (wrap64 (t12 - 1))).bind fun e6 => if (!decide (t16.2.1 = (wrap64 (e6.2.1 + 1)))) = true then (some 1) else (if (!decide (t16.2.2.1 = e6.2.2.1)) = true then (some 1) else (if (!decide (t16.2.2.2 = e6.2.2.2)) = true then (some 1) else (pages_Right.l0 k t11 t13 t14 (wrap64 (t15 + 1)))))
end
def pages_Right.f (k : Nat) (a0 : List api_Slot) : Option Int := pages_Right.l0 k a0 a0 (a0.length : Int) 0
def pages_Right.sig (k : Nat) : Sig := .p [(false, y4)] [.c false (.i .i64)] fun x => pages_Right.f k x.1
def pages_Right.E (k : Nat) : List (Nat × Sig) := []
def pages_Right.G (P : Program) : GI := ⟨P, TT, 101, 109, [(4, 101, 4), (5, 105, 4)], [], [], [], []⟩
def pages_Right.H : H := .s .n (.s (.s .n (.s (.l 0 (.s .n (.s .n (.s (.s (.s .n (.j 1 .n (.j 2 .n .n))) .n) .n)))) .n)) .n)
abbrev pages_Right.l0_s : Sh := [(0, .v y4), (7, .v y4), (8, .v (.i .i64)), (9, .v (.i .i64))]
abbrev pages_Right.j1_s : Sh := [(0, .v y4), (3, .v (.i .i64)), (4, .at_ 101), (7, .v y4), (8, .v (.i .i64)), (9, .v (.i .i64)), (101, .box y3)]
abbrev pages_Right.j2_s : Sh := [(0, .v y4), (3, .v (.i .i64)), (4, .at_ 101), (7, .v y4), (8, .v (.i .i64)), (9, .v (.i .i64)), (101, .box y3)]
def pages_Right.O (k : Nat) : List (Orc (denR [.c false (.i .i64)])) := [⟨pages_Right.l0_s, fun y => pages_Right.l0 k y.1 y.2.1 y.2.2.1 y.2.2.2.1⟩, ⟨pages_Right.j1_s, fun y => pages_Right.j1 k y.1 y.2.1 y.2.2.2.1 y.2.2.2.2.1 y.2.2.2.2.2.1 y.2.2.2.2.2.2.1⟩, ⟨pages_Right.j2_s, fun y => pages_Right.j2 k y.1 y.2.1 y.2.2.2.1 y.2.2.2.2.1 y.2.2.2.2.2.1 y.2.2.2.2.2.2.1⟩]
theorem pages_Right.j2_e (k : Nat) (y : denS pages_Right.j2_s) : pages_Right.j2 (k + 1) y.1 y.2.1 y.2.2.2.1 y.2.2.2.2.1 y.2.2.2.2.2.1 y.2.2.2.2.2.2.1 = evP ((pages_Right.G Try.prog).at (pages_Right.E k)) (fun i => (pages_Right.O k)[i]?) [1, 0, 1, 0, 0, 1, 1, 0, 0, 1, 1, 1] (cd Try.f28) pages_Right.H (kFin ((pages_Right.G Try.prog).at (pages_Right.E k)) [.tmp 2] [.c false (.i .i64)]) (unS pages_Right.j2_s y) := by rw [pages_Right.j2]; kernel_rfl
theorem pages_Right.j1_e (k : Nat) (y : denS pages_Right.j1_s) : pages_Right.j1 (k + 1) y.1 y.2.1 y.2.2.2.1 y.2.2.2.2.1 y.2.2.2.2.2.1 y.2.2.2.2.2.2.1 = evP ((pages_Right.G Try.prog).at (pages_Right.E k)) (fun i => (pages_Right.O k)[i]?) [1, 0, 1, 0, 0, 1, 1, 0, 0, 1, 1] (cd Try.f28) pages_Right.H (kFin ((pages_Right.G Try.prog).at (pages_Right.E k)) [.tmp 2] [.c false (.i .i64)]) (unS pages_Right.j1_s y) := by rw [pages_Right.j1]; kernel_rfl
theorem pages_Right.l0_e (k : Nat) (y : denS pages_Right.l0_s) : pages_Right.l0 (k + 1) y.1 y.2.1 y.2.2.1 y.2.2.2.1 = evP ((pages_Right.G Try.prog).at (pages_Right.E k)) (fun i => (pages_Right.O k)[i]?) [1, 0, 1, 0, 0] (cd Try.f28) pages_Right.H (kFin ((pages_Right.G Try.prog).at (pages_Right.E k)) [.tmp 2] [.c false (.i .i64)]) (unS pages_Right.l0_s y) := by rw [pages_Right.l0]; kernel_rfl
theorem pages_Right.go : goesTo Try.prog 28 := ⟨_, Try.func28, by kernel_rfl, rfl⟩
theorem pages_Right.ok (k : Nat) : SigOk Try.prog 28 (pages_Right.sig k) :=
  fn_p (G := pages_Right.G Try.prog) (c := cd Try.f28) (rs := [.tmp 2]) (args := [(false, y4)]) (l := [.c false (.i .i64)]) (fn := Try.f28) ⟨Try.func28, by kernel_rfl, by kernel_rfl, by kernel_rfl, le_of rfl, le_of rfl, TT_ok⟩ rfl pages_Right.E (fun k p hp => nomatch hp)
    (fun k i => (pages_Right.O k)[i]?) pages_Right.H (fun k x => pages_Right.f k x.1)
    (fun id o y h => by
    have h' := List.mem_of_getElem? h
    simp only [pages_Right.O, List.mem_cons, List.not_mem_nil, or_false] at h'
    rcases h' with rfl | rfl | rfl <;> rfl)
    (fun k p hp => by
    rw [show pts (cd Try.f28) pages_Right.H = [(2, [1, 0, 1, 0, 0, 1, 1, 0, 0, 1, 1, 1]), (1, [1, 0, 1, 0, 0, 1, 1, 0, 0, 1, 1]), (0, [1, 0, 1, 0, 0])] by kernel_rfl] at hp
    simp only [List.mem_cons, List.not_mem_nil, or_false] at hp
    rcases hp with rfl | rfl | rfl
    · exact ptOk_of rfl (pages_Right.j2_e k)
    · exact ptOk_of rfl (pages_Right.j1_e k)
    · exact ptOk_of rfl (pages_Right.l0_e k))
    (fun k x => by kernel_rfl) k
/-! reglet/pages.Find -/
mutual
def pages_Find.l0 : Nat → (List Int) → Int → Int → Int → Option Int
  | 0, _, _, _, _ => none
  | k + 1, starts, line, low, high => if (decide (low < high)) = true then ((at? starts (wrap64 ((wrap64 (low + high)).tdiv 2))).bind fun e => if (decide (e ≤ line)) = true then (pages_Find.l0 k starts line (wrap64 ((wrap64 ((wrap64 (low + high)).tdiv 2)) + 1)) high) else (pages_Find.l0 k starts line low (wrap64 ((wrap64 (low + high)).tdiv 2)))) else (some (wrap64 (low - 1)))
end
def pages_Find.f (k : Nat) (a0 : List Int) (a1 : Int) : Option Int := pages_Find.l0 k a0 a1 0 (a0.length : Int)
def pages_Find.sig (k : Nat) : Sig := .p [(false, y5), (false, (.i .i64))] [.c false (.i .i64)] fun x => pages_Find.f k x.1 x.2.1
def pages_Find.E (k : Nat) : List (Nat × Sig) := []
def pages_Find.G (P : Program) : GI := ⟨P, TT, 28, 28, [], [], [], [], []⟩
def pages_Find.H : H := .s .n (.s .n (.s (.s (.l 0 .n) .n) .n))
abbrev pages_Find.l0_s : Sh := [(0, .v y5), (1, .v (.i .i64)), (5, .v (.i .i64)), (6, .v (.i .i64))]
def pages_Find.O (k : Nat) : List (Orc (denR [.c false (.i .i64)])) := [⟨pages_Find.l0_s, fun y => pages_Find.l0 k y.1 y.2.1 y.2.2.1 y.2.2.2.1⟩]
theorem pages_Find.l0_e (k : Nat) (y : denS pages_Find.l0_s) : pages_Find.l0 (k + 1) y.1 y.2.1 y.2.2.1 y.2.2.2.1 = evP ((pages_Find.G Try.prog).at (pages_Find.E k)) (fun i => (pages_Find.O k)[i]?) [1, 1, 0, 0, 0] (cd Try.f38) pages_Find.H (kFin ((pages_Find.G Try.prog).at (pages_Find.E k)) [.tmp 4] [.c false (.i .i64)]) (unS pages_Find.l0_s y) := by rw [pages_Find.l0]; kernel_rfl
theorem pages_Find.go : goesTo Try.prog 38 := ⟨_, Try.func38, by kernel_rfl, rfl⟩
theorem pages_Find.ok (k : Nat) : SigOk Try.prog 38 (pages_Find.sig k) :=
  fn_p (G := pages_Find.G Try.prog) (c := cd Try.f38) (rs := [.tmp 4]) (args := [(false, y5), (false, (.i .i64))]) (l := [.c false (.i .i64)]) (fn := Try.f38) ⟨Try.func38, by kernel_rfl, by kernel_rfl, by kernel_rfl, le_of rfl, le_of rfl, TT_ok⟩ rfl pages_Find.E (fun k p hp => nomatch hp)
    (fun k i => (pages_Find.O k)[i]?) pages_Find.H (fun k x => pages_Find.f k x.1 x.2.1)
    (fun id o y h => by
    have h' := List.mem_of_getElem? h
    simp only [pages_Find.O, List.mem_cons, List.not_mem_nil, or_false] at h'
    rcases h' with rfl <;> rfl)
    (fun k p hp => by
    rw [show pts (cd Try.f38) pages_Find.H = [(0, [1, 1, 0, 0, 0])] by kernel_rfl] at hp
    simp only [List.mem_cons, List.not_mem_nil, or_false] at hp
    rcases hp with rfl
    · exact ptOk_of rfl (pages_Find.l0_e k))
    (fun k x => by kernel_rfl) k
/-! (*reglet/repage.Book).restart -/
def repage_Book_restart.f (k : Nat) (a0 : List api_Slot × List Int × Int × Int × Int × Int × Int × Int × Int × Int) (a1 : Int) : Option Int := (pages_Find.f k a0.2.1 a1).bind fun r => some (if 0 < (wrap64 (r - 1)) then (wrap64 (r - 1)) else 0)
def repage_Book_restart.sig (k : Nat) : Sig := .p [(false, y15), (false, (.i .i64))] [.c false (.i .i64)] fun x => repage_Book_restart.f k x.1 x.2.1
def repage_Book_restart.E (k : Nat) : List (Nat × Sig) := [(38, pages_Find.sig k)]
def repage_Book_restart.G (P : Program) : GI := ⟨P, TT, 13, 13, [], [], [], [], []⟩
def repage_Book_restart.H : H := .n
def repage_Book_restart.O (k : Nat) : List (Orc (denR [.c false (.i .i64)])) := []
theorem repage_Book_restart.go : goesTo Try.prog 29 := ⟨_, Try.func29, by kernel_rfl, rfl⟩
theorem repage_Book_restart.ok (k : Nat) : SigOk Try.prog 29 (repage_Book_restart.sig k) :=
  fn_p (G := repage_Book_restart.G Try.prog) (c := cd Try.f29) (rs := [.tmp 4]) (args := [(false, y15), (false, (.i .i64))]) (l := [.c false (.i .i64)]) (fn := Try.f29) ⟨Try.func29, by kernel_rfl, by kernel_rfl, by kernel_rfl, le_of rfl, le_of rfl, TT_ok⟩ rfl repage_Book_restart.E (fun k p hp => by
    simp only [repage_Book_restart.E, List.mem_cons, List.not_mem_nil, or_false] at hp
    rcases hp with rfl
    · exact ⟨pages_Find.ok k, pages_Find.go⟩)
    (fun k i => (repage_Book_restart.O k)[i]?) repage_Book_restart.H (fun k x => repage_Book_restart.f k x.1 x.2.1)
    (fun id o y h => by cases id <;> cases h)
    (fun k p hp => by rw [show pts (cd Try.f29) repage_Book_restart.H = [] by kernel_rfl] at hp; nomatch hp)
    (fun k x => by kernel_rfl) k
/-! reglet/pages.May -/
def pages_May.f (k : Nat) (a0 : api_Slot) (a1 : api_Settings) : Option Bool := if (decide (a0.2.1 = (wrap64 (a0.2.2.1 - 1)))) = true then (some (!a0.2.2.2)) else (if (decide (a1.2.2.2.2.2.1 ≤ (wrap64 (a0.2.1 + 1)))) = true then (some (decide (a1.2.2.2.2.2.2 ≤ (wrap64 ((wrap64 (a0.2.2.1 - 1)) - a0.2.1))))) else (some false))
def pages_May.sig (k : Nat) : Sig := .p [(true, y3), (true, y11)] [.c false .b] fun x => pages_May.f k x.1 x.2.1
def pages_May.E (k : Nat) : List (Nat × Sig) := []
def pages_May.G (P : Program) : GI := ⟨P, TT, 31, 42, [(2, 31, 4), (3, 35, 7)], [], [], [], []⟩
def pages_May.H : H := .n
def pages_May.O (k : Nat) : List (Orc (denR [.c false .b])) := []
theorem pages_May.go : goesTo Try.prog 40 := ⟨_, Try.func40, by kernel_rfl, rfl⟩
theorem pages_May.ok (k : Nat) : SigOk Try.prog 40 (pages_May.sig k) :=
  fn_p (G := pages_May.G Try.prog) (c := cd Try.f40) (rs := [.tmp 4]) (args := [(true, y3), (true, y11)]) (l := [.c false .b]) (fn := Try.f40) ⟨Try.func40, by kernel_rfl, by kernel_rfl, by kernel_rfl, le_of rfl, le_of rfl, TT_ok⟩ rfl pages_May.E (fun k p hp => nomatch hp)
    (fun k i => (pages_May.O k)[i]?) pages_May.H (fun k x => pages_May.f k x.1 x.2.1)
    (fun id o y h => by cases id <;> cases h)
    (fun k p hp => by rw [show pts (cd Try.f40) pages_May.H = [] by kernel_rfl] at hp; nomatch hp)
    (fun k x => by kernel_rfl) k
/-! reglet/pages.Next -/
mutual
def pages_Next.l0 : Nat → (List api_Slot) → Int → Int → Int → Int → Int → api_Settings → Option Int
  | 0, _, _, _, _, _, _, _ => none
  | k + 1, list, from_, height, sum, end_, k_, set_ => if (decide (k_ < (list.length : Int))) = true then ((at? list k_).bind fun e => if (decide (height < (wrap64 (sum + e.1)))) = true then (if (decide (from_ < end_)) = true then (some end_) else (pages_Next.j1 k list from_ height (wrap64 (sum + e.1)) end_ k_ set_)) else (pages_Next.j1 k list from_ height (wrap64 (sum + e.1)) end_ k_ set_)) else (some end_)
def pages_Next.j1 : Nat → (List api_Slot) → Int → Int → Int → Int → Int → api_Settings → Option Int
  | 0, _, _, _, _, _, _, _ => none
  | k + 1, list2, from_2, height2, sum2, end_2, k_2, set_2 => (at? list2 k_2).bind fun e2 => (pages_May.f k e2 set_2).bind fun r => if r = true then (pages_Next.j2 k list2 from_2 height2 sum2 (wrap64 (k_2 + 1)) k_2 set_2) else (if (decide (k_2 = (wrap64 ((list2.length : Int) - 1)))) = true then (pages_Next.j2 k list2 from_2 height2 sum2 (wrap64 (k_2 + 1)) k_2 set_2) else (pages_Next.j3 k list2 from_2 height2 sum2 end_2 k_2 set_2))
def pages_Next.j2 : Nat → (List api_Slot) → Int → Int → Int → Int → Int → api_Settings → Option Int
  | 0, _, _, _, _, _, _, _ => none
  | k + 1, list3, from_3, height3, sum3, end_3, k_3, set_3 => if (decide (height3 < sum3)) = true then (some end_3) else (pages_Next.j3 k list3 from_3 height3 sum3 end_3 k_3 set_3)
def pages_Next.j3 : Nat → (List api_Slot) → Int → Int → Int → Int → Int → api_Settings → Option Int
  | 0, _, _, _, _, _, _, _ => none
  | k + 1, list4, from_4, height4, sum4, end_4, k_4, set_4 => pages_Next.l0 k list4 from_4 height4 sum4 end_4 (wrap64 (k_4 + 1)) set_4
end
def pages_Next.f (k : Nat) (a0 : List api_Slot) (a1 : Int) (a2 : Int) (a3 : api_Settings) : Option Int := pages_Next.l0 k a0 a1 a2 0 a1 a1 a3
def pages_Next.sig (k : Nat) : Sig := .p [(false, y4), (false, (.i .i64)), (false, (.i .i64)), (true, y11)] [.c false (.i .i64)] fun x => pages_Next.f k x.1 x.2.1 x.2.2.1 x.2.2.2.1
def pages_Next.E (k : Nat) : List (Nat × Sig) := [(40, pages_May.sig k)]
def pages_Next.G (P : Program) : GI := ⟨P, TT, 56, 63, [(7, 56, 7)], [], [], [], []⟩
def pages_Next.H : H := .s .n (.s .n (.s (.s .n (.s (.l 0 (.s .n (.j 3 (.s (.s .n (.j 1 .n (.s .n (.s (.j 2 .n .n) .n)))) .n) .n))) .n)) .n))
abbrev pages_Next.l0_s : Sh := [(0, .v y4), (1, .v (.i .i64)), (2, .v (.i .i64)), (7, .at_ 56), (9, .v (.i .i64)), (10, .v (.i .i64)), (11, .v (.i .i64)), (56, .box y11)]
abbrev pages_Next.j1_s : Sh := [(0, .v y4), (1, .v (.i .i64)), (2, .v (.i .i64)), (7, .at_ 56), (9, .v (.i .i64)), (10, .v (.i .i64)), (11, .v (.i .i64)), (56, .box y11)]
abbrev pages_Next.j2_s : Sh := [(0, .v y4), (1, .v (.i .i64)), (2, .v (.i .i64)), (7, .at_ 56), (9, .v (.i .i64)), (10, .v (.i .i64)), (11, .v (.i .i64)), (56, .box y11)]
abbrev pages_Next.j3_s : Sh := [(0, .v y4), (1, .v (.i .i64)), (2, .v (.i .i64)), (7, .at_ 56), (9, .v (.i .i64)), (10, .v (.i .i64)), (11, .v (.i .i64)), (56, .box y11)]
def pages_Next.O (k : Nat) : List (Orc (denR [.c false (.i .i64)])) := [⟨pages_Next.l0_s, fun y => pages_Next.l0 k y.1 y.2.1 y.2.2.1 y.2.2.2.2.1 y.2.2.2.2.2.1 y.2.2.2.2.2.2.1 y.2.2.2.2.2.2.2.1⟩, ⟨pages_Next.j1_s, fun y => pages_Next.j1 k y.1 y.2.1 y.2.2.1 y.2.2.2.2.1 y.2.2.2.2.2.1 y.2.2.2.2.2.2.1 y.2.2.2.2.2.2.2.1⟩, ⟨pages_Next.j2_s, fun y => pages_Next.j2 k y.1 y.2.1 y.2.2.1 y.2.2.2.2.1 y.2.2.2.2.2.1 y.2.2.2.2.2.2.1 y.2.2.2.2.2.2.2.1⟩, ⟨pages_Next.j3_s, fun y => pages_Next.j3 k y.1 y.2.1 y.2.2.1 y.2.2.2.2.1 y.2.2.2.2.2.1 y.2.2.2.2.2.2.1 y.2.2.2.2.2.2.2.1⟩]
theorem pages_Next.j2_e (k : Nat) (y : denS pages_Next.j2_s) : pages_Next.j2 (k + 1) y.1 y.2.1 y.2.2.1 y.2.2.2.2.1 y.2.2.2.2.2.1 y.2.2.2.2.2.2.1 y.2.2.2.2.2.2.2.1 = evP ((pages_Next.G Try.prog).at (pages_Next.E k)) (fun i => (pages_Next.O k)[i]?) [1, 1, 0, 1, 0, 0, 1, 0, 0, 1, 1, 1, 0, 1] (cd Try.f32) pages_Next.H (kFin ((pages_Next.G Try.prog).at (pages_Next.E k)) [.tmp 8] [.c false (.i .i64)]) (unS pages_Next.j2_s y) := by rw [pages_Next.j2]; kernel_rfl
theorem pages_Next.j1_e (k : Nat) (y : denS pages_Next.j1_s) : pages_Next.j1 (k + 1) y.1 y.2.1 y.2.2.1 y.2.2.2.2.1 y.2.2.2.2.2.1 y.2.2.2.2.2.2.1 y.2.2.2.2.2.2.2.1 = evP ((pages_Next.G Try.prog).at (pages_Next.E k)) (fun i => (pages_Next.O k)[i]?) [1, 1, 0, 1, 0, 0, 1, 0, 0, 1, 1] (cd Try.f32) pages_Next.H (kFin ((pages_Next.G Try.prog).at (pages_Next.E k)) [.tmp 8] [.c false (.i .i64)]) (unS pages_Next.j1_s y) := by rw [pages_Next.j1]; kernel_rfl
theorem pages_Next.j3_e (k : Nat) (y : denS pages_Next.j3_s) : pages_Next.j3 (k + 1) y.1 y.2.1 y.2.2.1 y.2.2.2.2.1 y.2.2.2.2.2.1 y.2.2.2.2.2.2.1 y.2.2.2.2.2.2.2.1 = evP ((pages_Next.G Try.prog).at (pages_Next.E k)) (fun i => (pages_Next.O k)[i]?) [1, 1, 0, 1, 0, 0, 1, 1] (cd Try.f32) pages_Next.H (kFin ((pages_Next.G Try.prog).at (pages_Next.E k)) [.tmp 8] [.c false (.i .i64)]) (unS pages_Next.j3_s y) := by rw [pages_Next.j3]; kernel_rfl
theorem pages_Next.l0_e (k : Nat) (y : denS pages_Next.l0_s) : pages_Next.l0 (k + 1) y.1 y.2.1 y.2.2.1 y.2.2.2.2.1 y.2.2.2.2.2.1 y.2.2.2.2.2.2.1 y.2.2.2.2.2.2.2.1 = evP ((pages_Next.G Try.prog).at (pages_Next.E k)) (fun i => (pages_Next.O k)[i]?) [1, 1, 0, 1, 0, 0] (cd Try.f32) pages_Next.H (kFin ((pages_Next.G Try.prog).at (pages_Next.E k)) [.tmp 8] [.c false (.i .i64)]) (unS pages_Next.l0_s y) := by rw [pages_Next.l0]; kernel_rfl
theorem pages_Next.go : goesTo Try.prog 32 := ⟨_, Try.func32, by kernel_rfl, rfl⟩
theorem pages_Next.ok (k : Nat) : SigOk Try.prog 32 (pages_Next.sig k) :=
  fn_p (G := pages_Next.G Try.prog) (c := cd Try.f32) (rs := [.tmp 8]) (args := [(false, y4), (false, (.i .i64)), (false, (.i .i64)), (true, y11)]) (l := [.c false (.i .i64)]) (fn := Try.f32) ⟨Try.func32, by kernel_rfl, by kernel_rfl, by kernel_rfl, le_of rfl, le_of rfl, TT_ok⟩ rfl pages_Next.E (fun k p hp => by
    simp only [pages_Next.E, List.mem_cons, List.not_mem_nil, or_false] at hp
    rcases hp with rfl
    · exact ⟨pages_May.ok k, pages_May.go⟩)
    (fun k i => (pages_Next.O k)[i]?) pages_Next.H (fun k x => pages_Next.f k x.1 x.2.1 x.2.2.1 x.2.2.2.1)
    (fun id o y h => by
    have h' := List.mem_of_getElem? h
    simp only [pages_Next.O, List.mem_cons, List.not_mem_nil, or_false] at h'
    rcases h' with rfl | rfl | rfl | rfl <;> rfl)
    (fun k p hp => by
    rw [show pts (cd Try.f32) pages_Next.H = [(2, [1, 1, 0, 1, 0, 0, 1, 0, 0, 1, 1, 1, 0, 1]), (1, [1, 1, 0, 1, 0, 0, 1, 0, 0, 1, 1]), (3, [1, 1, 0, 1, 0, 0, 1, 1]), (0, [1, 1, 0, 1, 0, 0])] by kernel_rfl] at hp
    simp only [List.mem_cons, List.not_mem_nil, or_false] at hp
    rcases hp with rfl | rfl | rfl | rfl
    · exact ptOk_of rfl (pages_Next.j2_e k)
    · exact ptOk_of rfl (pages_Next.j1_e k)
    · exact ptOk_of rfl (pages_Next.j3_e k)
    · exact ptOk_of rfl (pages_Next.l0_e k))
    (fun k x => by kernel_rfl) k
/-! (*reglet/repage.Book).again -/
mutual
def repage_Book_again.j0 : Nat → (List api_Slot × List Int × Int × Int × Int × Int × Int × Int × Int × Int) → (List api_Slot) → Int → Int → (List Int) → Int → Option (List Int × Int)
  | 0, _, _, _, _, _, _ => none
  | k + 1, t, t2, t3, t4, t5, t6 => repage_Book_again.l1 k t t2 t3 t4 t5 t6 0
def repage_Book_again.l1 : Nat → (List api_Slot × List Int × Int × Int × Int × Int × Int × Int × Int × Int) → (List api_Slot) → Int → Int → (List Int) → Int → Int → Option (List Int × Int)
  | 0, _, _, _, _, _, _, _ => none
  | k + 1, t7, t8, t9, t10, t11, t12, t13 => if (decide (t12 < (t8.length : Int))) = true then (if (decide (t9 ≤ (wrap64 (t12 - t10)))) = true then ((pages_Find.f k t7.2.1 (wrap64 (t12 - t10))).bind fun r => if (decide (0 ≤ r)) = true then ((at? t7.2.1 r).bind fun e2 => if (decide (e2 = (wrap64 (t12 - t10)))) = true then (if 0 ≤ r ∧ r ≤ (t7.2.1.length : Int) ∧ (t7.2.1.length : Int) ≤ (t7.2.1.length : Int) then (repage_Book_again.j2 k t10 t11 t13 ((t7.2.1.drop r.toNat).take ((t7.2.1.length : Int).toNat - r.toNat)) (((t7.2.1.drop r.toNat).take ((t7.2.1.length : Int).toNat - r.toNat)).length : Int) 0) else none) else (repage_Book_again.j3 k t7 t8 t9 t10 t11 t12 t13)) else (repage_Book_again.j3 k t7 t8 t9 t10 t11 t12 t13)) else (repage_Book_again.j3 k t7 t8 t9 t10 t11 t12 t13)) else (some (t11, t13))
def repage_Book_again.j2 : Nat → Int → (List Int) → Int → (List Int) → Int → Int → Option (List Int × Int)
  | 0, _, _, _, _, _, _ => none
  | k + 1, t14, t15, t16, t17, t18, t19 => repage_Book_again.l4 k t14 t15 t16 t17 t18 t19
def repage_Book_again.j3 : Nat → (List api_Slot × List Int × Int × Int × Int × Int × Int × Int × Int × Int) → (List api_Slot) → Int → Int → (List Int) → Int → Int → Option (List Int × Int)
  | 0, _, _, _, _, _, _, _ => none
  | k + 1, t20, t21, t22, t23, t24, t25, t26 => if (t24.length + ([t25] : List Int).length) * 8 ≤ 140737488355328 then ((pages_Next.f k t21 t25 t20.2.2.1 t20.2.2.2).bind fun r2 => repage_Book_again.l1 k t20 t21 t22 t23 (t24 ++ ([t25] : List Int)) r2 (wrap64 (t26 + 1))) else none
def repage_Book_again.l4 : Nat → Int → (List Int) → Int → (List Int) → Int → Int → Option (List Int × Int)
  | 0, _, _, _, _, _, _ => none
  | k + 1, t27, t28, t29, t30, t31, t32 => if (decide (t32 < t31)) = true then ((at? t30 t32).bind fun e3 => if (t28.length + ([wrap64 (e3 + t27)] : List Int).length) * 8 ≤ 140737488355328 then (repage_Book_again.l4 k t27 (t28 ++ ([wrap64 (e3 + t27)] : List Int)) t29 t30 t31 (wrap64 (t32 + 1))) else none) else (some (t28, t29))
end
def repage_Book_again.f (k : Nat) (a0 : List api_Slot × List Int × Int × Int × Int × Int × Int × Int × Int × Int) (a1 : List api_Slot) (a2 : Int) (a3 : Int) (a4 : Int) : Option (List Int × Int) := if 0 ≤ (0 : Int) ∧ (0 : Int) ≤ (if (a0.2.1.length : Int) < a2 then (a0.2.1.length : Int) else a2) ∧ (if (a0.2.1.length : Int) < a2 then (a0.2.1.length : Int) else a2) ≤ (a0.2.1.length : Int) then (if (([] : List Int).length + ((a0.2.1.drop ((0 : Int).toNat)).take ((if (a0.2.1.length : Int) < a2 then (a0.2.1.length : Int) else a2).toNat - (0 : Int).toNat)).length) * 8 ≤ 140737488355328 then (if (decide (a2 < (a0.2.1.length : Int))) = true then ((at? a0.2.1 a2).bind fun e => repage_Book_again.j0 k a0 a1 a3 a4 (([] : List Int) ++ ((a0.2.1.drop ((0 : Int).toNat)).take ((if (a0.2.1.length : Int) < a2 then (a0.2.1.length : Int) else a2).toNat - (0 : Int).toNat))) e) else (repage_Book_again.j0 k a0 a1 a3 a4 (([] : List Int) ++ ((a0.2.1.drop ((0 : Int).toNat)).take ((if (a0.2.1.length : Int) < a2 then (a0.2.1.length : Int) else a2).toNat - (0 : Int).toNat))) 0)) else none) else none
def repage_Book_again.sig (k : Nat) : Sig := .p [(false, y15), (false, y4), (false, (.i .i64)), (false, (.i .i64)), (false, (.i .i64))] [.c false y0, .c false (.i .i64)] fun x => repage_Book_again.f k x.1 x.2.1 x.2.2.1 x.2.2.2.1 x.2.2.2.2.1
def repage_Book_again.E (k : Nat) : List (Nat × Sig) := [(32, pages_Next.sig k), (38, pages_Find.sig k)]
def repage_Book_again.G (P : Program) : GI := ⟨P, TT, 115, 115, [], [], [], [], []⟩
def repage_Book_again.H : H := .s .n (.s .n (.s .n (.j 0 .n (.s .n (.s (.s (.l 1 (.s .n (.s (.j 3 (.s .n (.s .n (.s (.s .n (.s .n (.s (.s (.j 2 .n (.s (.l 4 .n) .n)) .n) .n))) .n))) .n) .n))) .n) .n)))))
abbrev repage_Book_again.j0_s : Sh := [(0, .v y15), (1, .v y4), (3, .v (.i .i64)), (4, .v (.i .i64)), (12, .v y0), (13, .v (.i .i64))]
abbrev repage_Book_again.l1_s : Sh := [(0, .v y15), (1, .v y4), (3, .v (.i .i64)), (4, .v (.i .i64)), (12, .v y0), (13, .v (.i .i64)), (14, .v (.i .i64))]
abbrev repage_Book_again.j2_s : Sh := [(4, .v (.i .i64)), (12, .v y0), (14, .v (.i .i64)), (81, .v y5), (82, .v (.i .i64)), (83, .v (.i .i64))]
abbrev repage_Book_again.j3_s : Sh := [(0, .v y15), (1, .v y4), (3, .v (.i .i64)), (4, .v (.i .i64)), (12, .v y0), (13, .v (.i .i64)), (14, .v (.i .i64))]
abbrev repage_Book_again.l4_s : Sh := [(4, .v (.i .i64)), (12, .v y0), (14, .v (.i .i64)), (81, .v y5), (82, .v (.i .i64)), (83, .v (.i .i64))]
def repage_Book_again.O (k : Nat) : List (Orc (denR [.c false y0, .c false (.i .i64)])) := [⟨repage_Book_again.j0_s, fun y => repage_Book_again.j0 k y.1 y.2.1 y.2.2.1 y.2.2.2.1 y.2.2.2.2.1 y.2.2.2.2.2.1⟩, ⟨repage_Book_again.l1_s, fun y => repage_Book_again.l1 k y.1 y.2.1 y.2.2.1 y.2.2.2.1 y.2.2.2.2.1 y.2.2.2.2.2.1 y.2.2.2.2.2.2.1⟩, ⟨repage_Book_again.j2_s, fun y => repage_Book_again.j2 k y.1 y.2.1 y.2.2.1 y.2.2.2.1 y.2.2.2.2.1 y.2.2.2.2.2.1⟩, ⟨repage_Book_again.j3_s, fun y => repage_Book_again.j3 k y.1 y.2.1 y.2.2.1 y.2.2.2.1 y.2.2.2.2.1 y.2.2.2.2.2.1 y.2.2.2.2.2.2.1⟩, ⟨repage_Book_again.l4_s, fun y => repage_Book_again.l4 k y.1 y.2.1 y.2.2.1 y.2.2.2.1 y.2.2.2.2.1 y.2.2.2.2.2.1⟩]
theorem repage_Book_again.l4_e (k : Nat) (y : denS repage_Book_again.l4_s) : repage_Book_again.l4 (k + 1) y.1 y.2.1 y.2.2.1 y.2.2.2.1 y.2.2.2.2.1 y.2.2.2.2.2.1 = evP ((repage_Book_again.G Try.prog).at (repage_Book_again.E k)) (fun i => (repage_Book_again.O k)[i]?) [1, 1, 1, 1, 1, 0, 0, 0, 1, 0, 0, 1, 1, 0, 1, 1, 0, 0, 1, 0, 0] (cd Try.f30) repage_Book_again.H (kFin ((repage_Book_again.G Try.prog).at (repage_Book_again.E k)) [.tmp 10, .tmp 11] [.c false y0, .c false (.i .i64)]) (unS repage_Book_again.l4_s y) := by rw [repage_Book_again.l4]; kernel_rfl
theorem repage_Book_again.j2_e (k : Nat) (y : denS repage_Book_again.j2_s) : repage_Book_again.j2 (k + 1) y.1 y.2.1 y.2.2.1 y.2.2.2.1 y.2.2.2.2.1 y.2.2.2.2.2.1 = evP ((repage_Book_again.G Try.prog).at (repage_Book_again.E k)) (fun i => (repage_Book_again.O k)[i]?) [1, 1, 1, 1, 1, 0, 0, 0, 1, 0, 0, 1, 1, 0, 1, 1, 0, 0, 1] (cd Try.f30) repage_Book_again.H (kFin ((repage_Book_again.G Try.prog).at (repage_Book_again.E k)) [.tmp 10, .tmp 11] [.c false y0, .c false (.i .i64)]) (unS repage_Book_again.j2_s y) := by rw [repage_Book_again.j2]; kernel_rfl
theorem repage_Book_again.j3_e (k : Nat) (y : denS repage_Book_again.j3_s) : repage_Book_again.j3 (k + 1) y.1 y.2.1 y.2.2.1 y.2.2.2.1 y.2.2.2.2.1 y.2.2.2.2.2.1 y.2.2.2.2.2.2.1 = evP ((repage_Book_again.G Try.prog).at (repage_Book_again.E k)) (fun i => (repage_Book_again.O k)[i]?) [1, 1, 1, 1, 1, 0, 0, 0, 1, 0, 1] (cd Try.f30) repage_Book_again.H (kFin ((repage_Book_again.G Try.prog).at (repage_Book_again.E k)) [.tmp 10, .tmp 11] [.c false y0, .c false (.i .i64)]) (unS repage_Book_again.j3_s y) := by rw [repage_Book_again.j3]; kernel_rfl
theorem repage_Book_again.l1_e (k : Nat) (y : denS repage_Book_again.l1_s) : repage_Book_again.l1 (k + 1) y.1 y.2.1 y.2.2.1 y.2.2.2.1 y.2.2.2.2.1 y.2.2.2.2.2.1 y.2.2.2.2.2.2.1 = evP ((repage_Book_again.G Try.prog).at (repage_Book_again.E k)) (fun i => (repage_Book_again.O k)[i]?) [1, 1, 1, 1, 1, 0, 0, 0] (cd Try.f30) repage_Book_again.H (kFin ((repage_Book_again.G Try.prog).at (repage_Book_again.E k)) [.tmp 10, .tmp 11] [.c false y0, .c false (.i .i64)]) (unS repage_Book_again.l1_s y) := by rw [repage_Book_again.l1]; kernel_rfl
theorem repage_Book_again.j0_e (k : Nat) (y : denS repage_Book_again.j0_s) : repage_Book_again.j0 (k + 1) y.1 y.2.1 y.2.2.1 y.2.2.2.1 y.2.2.2.2.1 y.2.2.2.2.2.1 = evP ((repage_Book_again.G Try.prog).at (repage_Book_again.E k)) (fun i => (repage_Book_again.O k)[i]?) [1, 1, 1, 1] (cd Try.f30) repage_Book_again.H (kFin ((repage_Book_again.G Try.prog).at (repage_Book_again.E k)) [.tmp 10, .tmp 11] [.c false y0, .c false (.i .i64)]) (unS repage_Book_again.j0_s y) := by rw [repage_Book_again.j0]; kernel_rfl
theorem repage_Book_again.go : goesTo Try.prog 30 := ⟨_, Try.func30, by kernel_rfl, rfl⟩
theorem repage_Book_again.ok (k : Nat) : SigOk Try.prog 30 (repage_Book_again.sig k) :=
  fn_p (G := repage_Book_again.G Try.prog) (c := cd Try.f30) (rs := [.tmp 10, .tmp 11]) (args := [(false, y15), (false, y4), (false, (.i .i64)), (false, (.i .i64)), (false, (.i .i64))]) (l := [.c false y0, .c false (.i .i64)]) (fn := Try.f30) ⟨Try.func30, by kernel_rfl, by kernel_rfl, by kernel_rfl, le_of rfl, le_of rfl, TT_ok⟩ rfl repage_Book_again.E (fun k p hp => by
    simp only [repage_Book_again.E, List.mem_cons, List.not_mem_nil, or_false] at hp
    rcases hp with rfl | rfl
    · exact ⟨pages_Next.ok k, pages_Next.go⟩
    · exact ⟨pages_Find.ok k, pages_Find.go⟩)
    (fun k i => (repage_Book_again.O k)[i]?) repage_Book_again.H (fun k x => repage_Book_again.f k x.1 x.2.1 x.2.2.1 x.2.2.2.1 x.2.2.2.2.1)
    (fun id o y h => by
    have h' := List.mem_of_getElem? h
    simp only [repage_Book_again.O, List.mem_cons, List.not_mem_nil, or_false] at h'
    rcases h' with rfl | rfl | rfl | rfl | rfl <;> rfl)
    (fun k p hp => by
    rw [show pts (cd Try.f30) repage_Book_again.H = [(4, [1, 1, 1, 1, 1, 0, 0, 0, 1, 0, 0, 1, 1, 0, 1, 1, 0, 0, 1, 0, 0]), (2, [1, 1, 1, 1, 1, 0, 0, 0, 1, 0, 0, 1, 1, 0, 1, 1, 0, 0, 1]), (3, [1, 1, 1, 1, 1, 0, 0, 0, 1, 0, 1]), (1, [1, 1, 1, 1, 1, 0, 0, 0]), (0, [1, 1, 1, 1])] by kernel_rfl] at hp
    simp only [List.mem_cons, List.not_mem_nil, or_false] at hp
    rcases hp with rfl | rfl | rfl | rfl | rfl
    · exact ptOk_of rfl (repage_Book_again.l4_e k)
    · exact ptOk_of rfl (repage_Book_again.j2_e k)
    · exact ptOk_of rfl (repage_Book_again.j3_e k)
    · exact ptOk_of rfl (repage_Book_again.l1_e k)
    · exact ptOk_of rfl (repage_Book_again.j0_e k))
    (fun k x => by kernel_rfl) k
/-! (*reglet/repage.Book).Replace -/
def repage_Book_Replace.f (k : Nat) (a0 : List api_Slot × List Int × Int × Int × Int × Int × Int × Int × Int × Int) (a1 : Int) (a2 : Int) (a3 : List api_Slot) : Option (Int × Int × Int × (List api_Slot × List Int × Int × Int × Int × Int × Int × Int × Int × Int)) := (repage_Book_whole.f k a0 a1 a2).bind fun r => if (!r) = true then (some (0, 0, 1, a0)) else ((pages_Right.f k a3).bind fun r2 => if (!decide (r2 = 0)) = true then (some (0, 0, r2, a0)) else (if 0 ≤ (0 : Int) ∧ (0 : Int) ≤ a1 ∧ a1 ≤ (a0.1.length : Int) then (if (0 : Int).toNat + (a1.toNat - (0 : Int).toNat) ≤ a0.1.length then (if (([] : List api_Slot).length + ((a0.1.drop (0 : Int).toNat).take (a1.toNat - (0 : Int).toNat)).length) * 32 ≤ 140737488355328 then (if ((([] : List api_Slot) ++ ((a0.1.drop (0 : Int).toNat).take (a1.toNat - (0 : Int).toNat))).length + a3.length) * 32 ≤ 140737488355328 then (if 0 ≤ (wrap64 (a1 + a2)) ∧ (wrap64 (a1 + a2)) ≤ (a0.1.length : Int) ∧ (a0.1.length : Int) ≤ (a0.1.length : Int) then (if (wrap64 (a1 + a2)).toNat + ((a0.1.length : Int).toNat - (wrap64 (a1 + a2)).toNat) ≤ a0.1.length then (if (((([] : List api_Slot) ++ ((a0.1.drop (0 : Int).toNat).take (a1.toNat - (0 : Int).toNat))) ++ a3).length + ((a0.1.drop (wrap64 (a1 + a2)).toNat).take ((a0.1.length : Int).toNat - (wrap64 (a1 + a2)).toNat)).length) * 32 ≤ 140737488355328 then ((repage_Book_restart.f k a0 a1).bind fun r3 => (repage_Book_again.f k a0 (((([] : List api_Slot) ++ ((a0.1.drop (0 : Int).toNat).take (a1.toNat - (0 : Int).toNat))) ++ a3) ++ ((a0.1.drop (wrap64 (a1 + a2)).toNat).take ((a0.1.length : Int).toNat - (wrap64 (a1 + a2)).toNat))) r3 (wrap64 (a1 + a2)) (wrap64 ((a3.length : Int) - a2))).bind fun r4 => some (r3, r4.2, 0, (((([] : List api_Slot) ++ ((a0.1.drop (0 : Int).toNat).take (a1.toNat - (0 : Int).toNat))) ++ a3) ++ ((a0.1.drop (wrap64 (a1 + a2)).toNat).take ((a0.1.length : Int).toNat - (wrap64 (a1 + a2)).toNat)), r4.1, a0.2.2.1, a0.2.2.2.1, a0.2.2.2.2.1, a0.2.2.2.2.2.1, a0.2.2.2.2.2.2.1, a0.2.2.2.2.2.2.2.1, a0.2.2.2.2.2.2.2.2.1, a0.2.2.2.2.2.2.2.2.2))) else none) else none) else none) else none) else none) else none) else none))
def repage_Book_Replace.sig (k : Nat) : Sig := .l y18 [(false, (.i .i64)), (false, (.i .i64)), (false, y4)] [.c false (.i .i64), .c false (.i .i64), .c false (.i .i64)] fun b x => repage_Book_Replace.f k b x.1 x.2.1 x.2.2.1
def repage_Book_Replace.E (k : Nat) : List (Nat × Sig) := [(27, repage_Book_whole.sig k), (28, pages_Right.sig k), (29, repage_Book_restart.sig k), (30, repage_Book_again.sig k)]
def repage_Book_Replace.G (P : Program) : GI := ⟨P, TT, 74, 84, [(0, 74, 10)], [0], [], [], []⟩
def repage_Book_Replace.H : H := .n
def repage_Book_Replace.O (k : Nat) : List (Orc (denR ([.c false (.i .i64), .c false (.i .i64), .c false (.i .i64)] ++ [.c true y18]))) := []
theorem repage_Book_Replace.go : goesTo Try.prog 12 := ⟨_, Try.func12, by kernel_rfl, rfl⟩
theorem repage_Book_Replace.ok (k : Nat) : SigOk Try.prog 12 (repage_Book_Replace.sig k) :=
  fn_l (G := repage_Book_Replace.G Try.prog) (c := cd Try.f12) (rs := [.tmp 8, .tmp 9, .tmp 10]) (args := [(false, (.i .i64)), (false, (.i .i64)), (false, y4)]) (l := [.c false (.i .i64), .c false (.i .i64), .c false (.i .i64)]) (fn := Try.f12) ⟨Try.func12, by kernel_rfl, by kernel_rfl, by kernel_rfl, le_of rfl, le_of rfl, TT_ok⟩ rfl repage_Book_Replace.E (fun k p hp => by
    simp only [repage_Book_Replace.E, List.mem_cons, List.not_mem_nil, or_false] at hp
    rcases hp with rfl | rfl | rfl | rfl
    · exact ⟨repage_Book_whole.ok k, repage_Book_whole.go⟩
    · exact ⟨pages_Right.ok k, pages_Right.go⟩
    · exact ⟨repage_Book_restart.ok k, repage_Book_restart.go⟩
    · exact ⟨repage_Book_again.ok k, repage_Book_again.go⟩)
    (fun k i => (repage_Book_Replace.O k)[i]?) repage_Book_Replace.H (fun k b x => repage_Book_Replace.f k b x.1 x.2.1 x.2.2.1)
    (fun id o y h => by cases id <;> cases h)
    (fun k p hp => by rw [show pts (cd Try.f12) repage_Book_Replace.H = [] by kernel_rfl] at hp; nomatch hp)
    (fun k b x => by kernel_rfl) k
/-! reglet/measure.Check -/
mutual
def measure_Check.l0 : Nat → (List Int) → Int → Int → api_Settings → Option Int
  | 0, _, _, _, _ => none
  | k + 1, t, t2, t3, s => if (decide (t3 < t2)) = true then (if 0 ≤ t3 ∧ t3 < (t.length : Int) then ((t[t3.toNat]?).bind fun e => if (decide (e < 0)) = true then (some 80) else (if (decide (10000 < e)) = true then (some 80) else (measure_Check.l0 k t t2 (wrap64 (t3 + 1)) s))) else none) else (measure_Check.l1 k ([s.2.2.1, s.2.2.2.1, s.2.2.2.2.1] : List Int) (([s.2.2.1, s.2.2.2.1, s.2.2.2.2.1] : List Int).length : Int) 0 s)
def measure_Check.l1 : Nat → (List Int) → Int → Int → api_Settings → Option Int
  | 0, _, _, _, _ => none
  | k + 1, t4, t5, t6, s2 => if (decide (t6 < t5)) = true then (if 0 ≤ t6 ∧ t6 < (t4.length : Int) then ((t4[t6.toNat]?).bind fun e2 => if (decide (e2 < 0)) = true then (some 80) else (if (decide (1048576 < e2)) = true then (some 80) else (measure_Check.l1 k t4 t5 (wrap64 (t6 + 1)) s2))) else none) else (measure_Check.l2 k ([s2.2.2.2.2.2.1, s2.2.2.2.2.2.2] : List Int) (([s2.2.2.2.2.2.1, s2.2.2.2.2.2.2] : List Int).length : Int) 0)
def measure_Check.l2 : Nat → (List Int) → Int → Int → Option Int
  | 0, _, _, _ => none
  | k + 1, t7, t8, t9 => if (decide (t9 < t8)) = true then (if 0 ≤ t9 ∧ t9 < (t7.length : Int) then ((t7[t9.toNat]?).bind fun e3 => if (decide (e3 < 1)) = true then (some 80) else (if (decide (100 < e3)) = true then (some 80) else (measure_Check.l2 k t7 t8 (wrap64 (t9 + 1))))) else none) else (some 0)
end
def measure_Check.f (k : Nat) (a0 : api_Settings) : Option Int := measure_Check.l0 k ([a0.1, a0.2.1] : List Int) (([a0.1, a0.2.1] : List Int).length : Int) 0 a0
def measure_Check.sig (k : Nat) : Sig := .p [(true, y11)] [.c false (.i .i64)] fun x => measure_Check.f k x.1
def measure_Check.E (k : Nat) : List (Nat × Sig) := []
def measure_Check.G (P : Program) : GI := ⟨P, TT, 62, 69, [(1, 62, 7)], [], [], [], []⟩
def measure_Check.H : H := .s .n (.s (.s .n (.s (.l 0 .n) .n)) (.s (.s .n (.s (.l 1 .n) .n)) (.s (.s .n (.s (.l 2 .n) .n)) .n)))
abbrev measure_Check.l0_s : Sh := [(1, .at_ 62), (13, .v y0), (14, .v (.i .i64)), (15, .v (.i .i64)), (62, .box y11)]
abbrev measure_Check.l1_s : Sh := [(1, .at_ 62), (32, .v y0), (33, .v (.i .i64)), (34, .v (.i .i64)), (62, .box y11)]
abbrev measure_Check.l2_s : Sh := [(49, .v y0), (50, .v (.i .i64)), (51, .v (.i .i64))]
def measure_Check.O (k : Nat) : List (Orc (denR [.c false (.i .i64)])) := [⟨measure_Check.l0_s, fun y => measure_Check.l0 k y.2.1 y.2.2.1 y.2.2.2.1 y.2.2.2.2.1⟩, ⟨measure_Check.l1_s, fun y => measure_Check.l1 k y.2.1 y.2.2.1 y.2.2.2.1 y.2.2.2.2.1⟩, ⟨measure_Check.l2_s, fun y => measure_Check.l2 k y.1 y.2.1 y.2.2.1⟩]
theorem measure_Check.l0_e (k : Nat) (y : denS measure_Check.l0_s) : measure_Check.l0 (k + 1) y.2.1 y.2.2.1 y.2.2.2.1 y.2.2.2.2.1 = evP ((measure_Check.G Try.prog).at (measure_Check.E k)) (fun i => (measure_Check.O k)[i]?) [1, 0, 1, 0, 0] (cd Try.f39) measure_Check.H (kFin ((measure_Check.G Try.prog).at (measure_Check.E k)) [.tmp 2] [.c false (.i .i64)]) (unS measure_Check.l0_s y) := by rw [measure_Check.l0]; kernel_rfl
theorem measure_Check.l1_e (k : Nat) (y : denS measure_Check.l1_s) : measure_Check.l1 (k + 1) y.2.1 y.2.2.1 y.2.2.2.1 y.2.2.2.2.1 = evP ((measure_Check.G Try.prog).at (measure_Check.E k)) (fun i => (measure_Check.O k)[i]?) [1, 1, 0, 1, 0, 0] (cd Try.f39) measure_Check.H (kFin ((measure_Check.G Try.prog).at (measure_Check.E k)) [.tmp 2] [.c false (.i .i64)]) (unS measure_Check.l1_s y) := by rw [measure_Check.l1]; kernel_rfl
theorem measure_Check.l2_e (k : Nat) (y : denS measure_Check.l2_s) : measure_Check.l2 (k + 1) y.1 y.2.1 y.2.2.1 = evP ((measure_Check.G Try.prog).at (measure_Check.E k)) (fun i => (measure_Check.O k)[i]?) [1, 1, 1, 0, 1, 0, 0] (cd Try.f39) measure_Check.H (kFin ((measure_Check.G Try.prog).at (measure_Check.E k)) [.tmp 2] [.c false (.i .i64)]) (unS measure_Check.l2_s y) := by rw [measure_Check.l2]; kernel_rfl
theorem measure_Check.go : goesTo Try.prog 39 := ⟨_, Try.func39, by kernel_rfl, rfl⟩
theorem measure_Check.ok (k : Nat) : SigOk Try.prog 39 (measure_Check.sig k) :=
  fn_p (G := measure_Check.G Try.prog) (c := cd Try.f39) (rs := [.tmp 2]) (args := [(true, y11)]) (l := [.c false (.i .i64)]) (fn := Try.f39) ⟨Try.func39, by kernel_rfl, by kernel_rfl, by kernel_rfl, le_of rfl, le_of rfl, TT_ok⟩ rfl measure_Check.E (fun k p hp => nomatch hp)
    (fun k i => (measure_Check.O k)[i]?) measure_Check.H (fun k x => measure_Check.f k x.1)
    (fun id o y h => by
    have h' := List.mem_of_getElem? h
    simp only [measure_Check.O, List.mem_cons, List.not_mem_nil, or_false] at h'
    rcases h' with rfl | rfl | rfl <;> rfl)
    (fun k p hp => by
    rw [show pts (cd Try.f39) measure_Check.H = [(0, [1, 0, 1, 0, 0]), (1, [1, 1, 0, 1, 0, 0]), (2, [1, 1, 1, 0, 1, 0, 0])] by kernel_rfl] at hp
    simp only [List.mem_cons, List.not_mem_nil, or_false] at hp
    rcases hp with rfl | rfl | rfl
    · exact ptOk_of rfl (measure_Check.l0_e k)
    · exact ptOk_of rfl (measure_Check.l1_e k)
    · exact ptOk_of rfl (measure_Check.l2_e k))
    (fun k x => by kernel_rfl) k
/-! reglet/pages.Check -/
mutual
def pages_Check.j0 : Nat → api_Settings → Option Int
  | 0, _ => none
  | k + 1, set_ => (measure_Check.f k set_).bind fun r => some r
end
def pages_Check.f (k : Nat) (a0 : Int) (a1 : api_Settings) : Option Int := if (decide (a0 < 1)) = true then (some 41) else (if (decide (1073741824 < a0)) = true then (some 41) else (pages_Check.j0 k a1))
def pages_Check.sig (k : Nat) : Sig := .p [(false, (.i .i64)), (true, y11)] [.c false (.i .i64)] fun x => pages_Check.f k x.1 x.2.1
def pages_Check.E (k : Nat) : List (Nat × Sig) := [(39, measure_Check.sig k)]
def pages_Check.G (P : Program) : GI := ⟨P, TT, 13, 20, [(3, 13, 7)], [], [], [], []⟩
def pages_Check.H : H := .s .n (.j 0 .n .n)
abbrev pages_Check.j0_s : Sh := [(3, .at_ 13), (13, .box y11)]
def pages_Check.O (k : Nat) : List (Orc (denR [.c false (.i .i64)])) := [⟨pages_Check.j0_s, fun y => pages_Check.j0 k y.2.1⟩]
theorem pages_Check.j0_e (k : Nat) (y : denS pages_Check.j0_s) : pages_Check.j0 (k + 1) y.2.1 = evP ((pages_Check.G Try.prog).at (pages_Check.E k)) (fun i => (pages_Check.O k)[i]?) [1, 1] (cd Try.f31) pages_Check.H (kFin ((pages_Check.G Try.prog).at (pages_Check.E k)) [.tmp 4] [.c false (.i .i64)]) (unS pages_Check.j0_s y) := by rw [pages_Check.j0]; kernel_rfl
theorem pages_Check.go : goesTo Try.prog 31 := ⟨_, Try.func31, by kernel_rfl, rfl⟩
theorem pages_Check.ok (k : Nat) : SigOk Try.prog 31 (pages_Check.sig k) :=
  fn_p (G := pages_Check.G Try.prog) (c := cd Try.f31) (rs := [.tmp 4]) (args := [(false, (.i .i64)), (true, y11)]) (l := [.c false (.i .i64)]) (fn := Try.f31) ⟨Try.func31, by kernel_rfl, by kernel_rfl, by kernel_rfl, le_of rfl, le_of rfl, TT_ok⟩ rfl pages_Check.E (fun k p hp => by
    simp only [pages_Check.E, List.mem_cons, List.not_mem_nil, or_false] at hp
    rcases hp with rfl
    · exact ⟨measure_Check.ok k, measure_Check.go⟩)
    (fun k i => (pages_Check.O k)[i]?) pages_Check.H (fun k x => pages_Check.f k x.1 x.2.1)
    (fun id o y h => by
    have h' := List.mem_of_getElem? h
    simp only [pages_Check.O, List.mem_cons, List.not_mem_nil, or_false] at h'
    rcases h' with rfl <;> rfl)
    (fun k p hp => by
    rw [show pts (cd Try.f31) pages_Check.H = [(0, [1, 1])] by kernel_rfl] at hp
    simp only [List.mem_cons, List.not_mem_nil, or_false] at hp
    rcases hp with rfl
    · exact ptOk_of rfl (pages_Check.j0_e k))
    (fun k x => by kernel_rfl) k
/-! reglet/pages.Paginate -/
mutual
def pages_Paginate.l0 : Nat → (List api_Slot) → Int → (List Int) → Int → api_Settings → Option (List Int × Int)
  | 0, _, _, _, _, _ => none
  | k + 1, list, height, out, from_, set_ => if (decide (from_ < (list.length : Int))) = true then (if (out.length + ([from_] : List Int).length) * 8 ≤ 140737488355328 then ((pages_Next.f k list from_ height set_).bind fun r3 => pages_Paginate.l0 k list height (out ++ ([from_] : List Int)) r3 set_) else none) else (some (out, 0))
end
def pages_Paginate.f (k : Nat) (a0 : List api_Slot) (a1 : Int) (a2 : api_Settings) : Option (List Int × Int) := (pages_Check.f k a1 a2).bind fun r => if (!decide (r = 0)) = true then (some (([] : List Int), r)) else ((pages_Right.f k a0).bind fun r2 => if (!decide (r2 = 0)) = true then (some (([] : List Int), r2)) else (pages_Paginate.l0 k a0 a1 ([] : List Int) 0 a2))
def pages_Paginate.sig (k : Nat) : Sig := .p [(false, y4), (false, (.i .i64)), (true, y11)] [.c false y0, .c false (.i .i64)] fun x => pages_Paginate.f k x.1 x.2.1 x.2.2.1
def pages_Paginate.E (k : Nat) : List (Nat × Sig) := [(28, pages_Right.sig k), (31, pages_Check.sig k), (32, pages_Next.sig k)]
def pages_Paginate.G (P : Program) : GI := ⟨P, TT, 37, 44, [(5, 37, 7)], [], [], [], []⟩
def pages_Paginate.H : H := .s .n (.s .n (.s .n (.s .n (.s (.s .n (.s (.l 0 .n) .n)) .n))))
abbrev pages_Paginate.l0_s : Sh := [(0, .v y4), (1, .v (.i .i64)), (5, .at_ 37), (10, .v y0), (11, .v (.i .i64)), (37, .box y11)]
def pages_Paginate.O (k : Nat) : List (Orc (denR [.c false y0, .c false (.i .i64)])) := [⟨pages_Paginate.l0_s, fun y => pages_Paginate.l0 k y.1 y.2.1 y.2.2.2.1 y.2.2.2.2.1 y.2.2.2.2.2.1⟩]
theorem pages_Paginate.l0_e (k : Nat) (y : denS pages_Paginate.l0_s) : pages_Paginate.l0 (k + 1) y.1 y.2.1 y.2.2.2.1 y.2.2.2.2.1 y.2.2.2.2.2.1 = evP ((pages_Paginate.G Try.prog).at (pages_Paginate.E k)) (fun i => (pages_Paginate.O k)[i]?) [1, 1, 1, 1, 0, 1, 0, 0] (cd Try.f14) pages_Paginate.H (kFin ((pages_Paginate.G Try.prog).at (pages_Paginate.E k)) [.tmp 6, .tmp 7] [.c false y0, .c false (.i .i64)]) (unS pages_Paginate.l0_s y) := by rw [pages_Paginate.l0]; kernel_rfl
theorem pages_Paginate.go : goesTo Try.prog 14 := ⟨_, Try.func14, by kernel_rfl, rfl⟩
theorem pages_Paginate.ok (k : Nat) : SigOk Try.prog 14 (pages_Paginate.sig k) :=
  fn_p (G := pages_Paginate.G Try.prog) (c := cd Try.f14) (rs := [.tmp 6, .tmp 7]) (args := [(false, y4), (false, (.i .i64)), (true, y11)]) (l := [.c false y0, .c false (.i .i64)]) (fn := Try.f14) ⟨Try.func14, by kernel_rfl, by kernel_rfl, by kernel_rfl, le_of rfl, le_of rfl, TT_ok⟩ rfl pages_Paginate.E (fun k p hp => by
    simp only [pages_Paginate.E, List.mem_cons, List.not_mem_nil, or_false] at hp
    rcases hp with rfl | rfl | rfl
    · exact ⟨pages_Right.ok k, pages_Right.go⟩
    · exact ⟨pages_Check.ok k, pages_Check.go⟩
    · exact ⟨pages_Next.ok k, pages_Next.go⟩)
    (fun k i => (pages_Paginate.O k)[i]?) pages_Paginate.H (fun k x => pages_Paginate.f k x.1 x.2.1 x.2.2.1)
    (fun id o y h => by
    have h' := List.mem_of_getElem? h
    simp only [pages_Paginate.O, List.mem_cons, List.not_mem_nil, or_false] at h'
    rcases h' with rfl <;> rfl)
    (fun k p hp => by
    rw [show pts (cd Try.f14) pages_Paginate.H = [(0, [1, 1, 1, 1, 0, 1, 0, 0])] by kernel_rfl] at hp
    simp only [List.mem_cons, List.not_mem_nil, or_false] at hp
    rcases hp with rfl
    · exact ptOk_of rfl (pages_Paginate.l0_e k))
    (fun k x => by kernel_rfl) k
/-! reglet/repage.New -/
def repage_New.f (k : Nat) (a0 : List api_Slot) (a1 : Int) (a2 : api_Settings) : Option ((Option (List api_Slot × List Int × Int × Int × Int × Int × Int × Int × Int × Int)) × Int) := (pages_Paginate.f k a0 a1 a2).bind fun r => if (!decide (r.2 = 0)) = true then (some (none, r.2)) else (if (([] : List api_Slot).length + a0.length) * 32 ≤ 140737488355328 then (some (some (([] : List api_Slot) ++ a0, r.1, a1, a2.1, a2.2.1, a2.2.2.1, a2.2.2.2.1, a2.2.2.2.2.1, a2.2.2.2.2.2.1, a2.2.2.2.2.2.2), 0)) else none)
def repage_New.sig (k : Nat) : Sig := .p [(false, y4), (false, (.i .i64)), (true, y11)] [.o y18, .c false (.i .i64)] fun x => repage_New.f k x.1 x.2.1 x.2.2.1
def repage_New.E (k : Nat) : List (Nat × Sig) := [(14, pages_Paginate.sig k)]
def repage_New.G (P : Program) : GI := ⟨P, TT, 28, 45, [(5, 28, 7), (27, 35, 10)], [], [], [], []⟩
def repage_New.H : H := .n
def repage_New.O (k : Nat) : List (Orc (denR [.o y18, .c false (.i .i64)])) := []
theorem repage_New.go : goesTo Try.prog 13 := ⟨_, Try.func13, by kernel_rfl, rfl⟩
theorem repage_New.ok (k : Nat) : SigOk Try.prog 13 (repage_New.sig k) :=
  fn_p (G := repage_New.G Try.prog) (c := cd Try.f13) (rs := [.tmp 6, .tmp 7]) (args := [(false, y4), (false, (.i .i64)), (true, y11)]) (l := [.o y18, .c false (.i .i64)]) (fn := Try.f13) ⟨Try.func13, by kernel_rfl, by kernel_rfl, by kernel_rfl, le_of rfl, le_of rfl, TT_ok⟩ rfl repage_New.E (fun k p hp => by
    simp only [repage_New.E, List.mem_cons, List.not_mem_nil, or_false] at hp
    rcases hp with rfl
    · exact ⟨pages_Paginate.ok k, pages_Paginate.go⟩)
    (fun k i => (repage_New.O k)[i]?) repage_New.H (fun k x => repage_New.f k x.1 x.2.1 x.2.2.1)
    (fun id o y h => by cases id <;> cases h)
    (fun k p hp => by rw [show pts (cd Try.f13) repage_New.H = [] by kernel_rfl] at hp; nomatch hp)
    (fun k x => by kernel_rfl) k
/-! reglet/regletref12.Same -/
mutual
def regletref12_Same.l0 : Nat → (List Int) → (List Int) → Int → Option Bool
  | 0, _, _, _ => none
  | k + 1, a, b, i => if (decide (i < (a.length : Int))) = true then ((at? a i).bind fun e => (at? b i).bind fun e2 => if (!decide (e = e2)) = true then (some false) else (regletref12_Same.l0 k a b (wrap64 (i + 1)))) else (some true)
end
def regletref12_Same.f (k : Nat) (a0 : List Int) (a1 : List Int) : Option Bool := if (!decide ((a0.length : Int) = (a1.length : Int))) = true then (some false) else (regletref12_Same.l0 k a0 a1 0)
def regletref12_Same.sig (k : Nat) : Sig := .p [(false, y5), (false, y5)] [.c false .b] fun x => regletref12_Same.f k x.1 x.2.1
def regletref12_Same.E (k : Nat) : List (Nat × Sig) := []
def regletref12_Same.G (P : Program) : GI := ⟨P, TT, 26, 26, [], [], [], [], []⟩
def regletref12_Same.H : H := .s .n (.s .n (.s (.s .n (.s (.l 0 .n) .n)) .n))
abbrev regletref12_Same.l0_s : Sh := [(0, .v y5), (1, .v y5), (5, .v (.i .i64))]
def regletref12_Same.O (k : Nat) : List (Orc (denR [.c false .b])) := [⟨regletref12_Same.l0_s, fun y => regletref12_Same.l0 k y.1 y.2.1 y.2.2.1⟩]
theorem regletref12_Same.l0_e (k : Nat) (y : denS regletref12_Same.l0_s) : regletref12_Same.l0 (k + 1) y.1 y.2.1 y.2.2.1 = evP ((regletref12_Same.G Try.prog).at (regletref12_Same.E k)) (fun i => (regletref12_Same.O k)[i]?) [1, 1, 0, 1, 0, 0] (cd Try.f15) regletref12_Same.H (kFin ((regletref12_Same.G Try.prog).at (regletref12_Same.E k)) [.tmp 4] [.c false .b]) (unS regletref12_Same.l0_s y) := by rw [regletref12_Same.l0]; kernel_rfl
theorem regletref12_Same.go : goesTo Try.prog 15 := ⟨_, Try.func15, by kernel_rfl, rfl⟩
theorem regletref12_Same.ok (k : Nat) : SigOk Try.prog 15 (regletref12_Same.sig k) :=
  fn_p (G := regletref12_Same.G Try.prog) (c := cd Try.f15) (rs := [.tmp 4]) (args := [(false, y5), (false, y5)]) (l := [.c false .b]) (fn := Try.f15) ⟨Try.func15, by kernel_rfl, by kernel_rfl, by kernel_rfl, le_of rfl, le_of rfl, TT_ok⟩ rfl regletref12_Same.E (fun k p hp => nomatch hp)
    (fun k i => (regletref12_Same.O k)[i]?) regletref12_Same.H (fun k x => regletref12_Same.f k x.1 x.2.1)
    (fun id o y h => by
    have h' := List.mem_of_getElem? h
    simp only [regletref12_Same.O, List.mem_cons, List.not_mem_nil, or_false] at h'
    rcases h' with rfl <;> rfl)
    (fun k p hp => by
    rw [show pts (cd Try.f15) regletref12_Same.H = [(0, [1, 1, 0, 1, 0, 0])] by kernel_rfl] at hp
    simp only [List.mem_cons, List.not_mem_nil, or_false] at hp
    rcases hp with rfl
    · exact ptOk_of rfl (regletref12_Same.l0_e k))
    (fun k x => by kernel_rfl) k
/-! reglet/regletlaw13.ones -/
mutual
def regletlaw13_ones.l0 : Nat → Int → (List api_Slot) → Int → Option (List api_Slot)
  | 0, _, _, _ => none
  | k + 1, n, out, i => if (decide (i < n)) = true then (if (out.length + ([(10, 0, 1, false)] : List api_Slot).length) * 32 ≤ 140737488355328 then (regletlaw13_ones.l0 k n (out ++ ([(10, 0, 1, false)] : List api_Slot)) (wrap64 (i + 1))) else none) else (some out)
end
def regletlaw13_ones.f (k : Nat) (a0 : Int) : Option (List api_Slot) := regletlaw13_ones.l0 k a0 ([] : List api_Slot) 0
def regletlaw13_ones.sig (k : Nat) : Sig := .p [(false, (.i .i64))] [.c false y16] fun x => regletlaw13_ones.f k x.1
def regletlaw13_ones.E (k : Nat) : List (Nat × Sig) := []
def regletlaw13_ones.G (P : Program) : GI := ⟨P, TT, 15, 15, [], [], [], [], []⟩
def regletlaw13_ones.H : H := .s .n (.s .n (.s (.s .n (.s (.l 0 .n) .n)) .n))
abbrev regletlaw13_ones.l0_s : Sh := [(0, .v (.i .i64)), (3, .v y16), (4, .v (.i .i64))]
def regletlaw13_ones.O (k : Nat) : List (Orc (denR [.c false y16])) := [⟨regletlaw13_ones.l0_s, fun y => regletlaw13_ones.l0 k y.1 y.2.1 y.2.2.1⟩]
theorem regletlaw13_ones.l0_e (k : Nat) (y : denS regletlaw13_ones.l0_s) : regletlaw13_ones.l0 (k + 1) y.1 y.2.1 y.2.2.1 = evP ((regletlaw13_ones.G Try.prog).at (regletlaw13_ones.E k)) (fun i => (regletlaw13_ones.O k)[i]?) [1, 1, 0, 1, 0, 0] (cd Try.f23) regletlaw13_ones.H (kFin ((regletlaw13_ones.G Try.prog).at (regletlaw13_ones.E k)) [.tmp 2] [.c false y16]) (unS regletlaw13_ones.l0_s y) := by rw [regletlaw13_ones.l0]; kernel_rfl
theorem regletlaw13_ones.go : goesTo Try.prog 23 := ⟨_, Try.func23, by kernel_rfl, rfl⟩
theorem regletlaw13_ones.ok (k : Nat) : SigOk Try.prog 23 (regletlaw13_ones.sig k) :=
  fn_p (G := regletlaw13_ones.G Try.prog) (c := cd Try.f23) (rs := [.tmp 2]) (args := [(false, (.i .i64))]) (l := [.c false y16]) (fn := Try.f23) ⟨Try.func23, by kernel_rfl, by kernel_rfl, by kernel_rfl, le_of rfl, le_of rfl, TT_ok⟩ rfl regletlaw13_ones.E (fun k p hp => nomatch hp)
    (fun k i => (regletlaw13_ones.O k)[i]?) regletlaw13_ones.H (fun k x => regletlaw13_ones.f k x.1)
    (fun id o y h => by
    have h' := List.mem_of_getElem? h
    simp only [regletlaw13_ones.O, List.mem_cons, List.not_mem_nil, or_false] at h'
    rcases h' with rfl <;> rfl)
    (fun k p hp => by
    rw [show pts (cd Try.f23) regletlaw13_ones.H = [(0, [1, 1, 0, 1, 0, 0])] by kernel_rfl] at hp
    simp only [List.mem_cons, List.not_mem_nil, or_false] at hp
    rcases hp with rfl
    · exact ptOk_of rfl (regletlaw13_ones.l0_e k))
    (fun k x => by kernel_rfl) k
/-! reglet/regletlaw13.awake -/
mutual
def regletlaw13_awake.j0 : Nat → (List api_Slot × List Int × Int × Int × Int × Int × Int × Int × Int × Int) → Option Bool
  | 0, _ => none
  | k + 1, b => (regletlaw13_ones.f k 1).bind fun r3 => (repage_Book_Replace.f k b 3 1 r3).bind fun r4 => if (decide (r4.2.2.1 = 0)) = true then (if (decide (r4.1 = 0)) = true then (if (decide (r4.2.1 = 2)) = true then ((repage_Book_Starts.f k r4.2.2.2).bind fun r5 => (regletref12_Same.f k r5 ([0, 2, 4] : List Int)).bind fun r6 => some r6) else (some false)) else (some false)) else (some false)
end
def regletlaw13_awake.f (k : Nat)  : Option Bool := (regletlaw13_ones.f k 6).bind fun r => (repage_New.f k r 20 (0, 0, 0, 0, 0, 1, 1)).bind fun r2 => optK r2.1 (if (!decide (r2.2 = 0)) = true then (some false) else (some false)) fun p => if (!decide (r2.2 = 0)) = true then (some false) else (regletlaw13_awake.j0 k p)
def regletlaw13_awake.sig (k : Nat) : Sig := .p [] [.c false .b] fun x => regletlaw13_awake.f k
def regletlaw13_awake.E (k : Nat) : List (Nat × Sig) := [(11, repage_Book_Starts.sig k), (12, repage_Book_Replace.sig k), (13, repage_New.sig k), (15, regletref12_Same.sig k), (23, regletlaw13_ones.sig k)]
def regletlaw13_awake.G (P : Program) : GI := ⟨P, TT, 40, 50, [(1, 40, 10)], [], [], [], []⟩
def regletlaw13_awake.H : H := .s .n (.s .n (.j 0 (.s (.o 1 .n) .n) .n))
abbrev regletlaw13_awake.j0_s : Sh := [(1, .at_ 40), (40, .box y18)]
def regletlaw13_awake.O (k : Nat) : List (Orc (denR [.c false .b])) := [⟨regletlaw13_awake.j0_s, fun y => regletlaw13_awake.j0 k y.2.1⟩]
theorem regletlaw13_awake.j0_e (k : Nat) (y : denS regletlaw13_awake.j0_s) : regletlaw13_awake.j0 (k + 1) y.2.1 = evP ((regletlaw13_awake.G Try.prog).at (regletlaw13_awake.E k)) (fun i => (regletlaw13_awake.O k)[i]?) [1, 1, 1] (cd Try.f8) regletlaw13_awake.H (kFin ((regletlaw13_awake.G Try.prog).at (regletlaw13_awake.E k)) [.tmp 0] [.c false .b]) (unS regletlaw13_awake.j0_s y) := by rw [regletlaw13_awake.j0]; kernel_rfl
theorem regletlaw13_awake.go : goesTo Try.prog 8 := ⟨_, Try.func8, by kernel_rfl, rfl⟩
theorem regletlaw13_awake.ok (k : Nat) : SigOk Try.prog 8 (regletlaw13_awake.sig k) :=
  fn_p (G := regletlaw13_awake.G Try.prog) (c := cd Try.f8) (rs := [.tmp 0]) (args := []) (l := [.c false .b]) (fn := Try.f8) ⟨Try.func8, by kernel_rfl, by kernel_rfl, by kernel_rfl, le_of rfl, le_of rfl, TT_ok⟩ rfl regletlaw13_awake.E (fun k p hp => by
    simp only [regletlaw13_awake.E, List.mem_cons, List.not_mem_nil, or_false] at hp
    rcases hp with rfl | rfl | rfl | rfl | rfl
    · exact ⟨repage_Book_Starts.ok k, repage_Book_Starts.go⟩
    · exact ⟨repage_Book_Replace.ok k, repage_Book_Replace.go⟩
    · exact ⟨repage_New.ok k, repage_New.go⟩
    · exact ⟨regletref12_Same.ok k, regletref12_Same.go⟩
    · exact ⟨regletlaw13_ones.ok k, regletlaw13_ones.go⟩)
    (fun k i => (regletlaw13_awake.O k)[i]?) regletlaw13_awake.H (fun k x => regletlaw13_awake.f k)
    (fun id o y h => by
    have h' := List.mem_of_getElem? h
    simp only [regletlaw13_awake.O, List.mem_cons, List.not_mem_nil, or_false] at h'
    rcases h' with rfl <;> rfl)
    (fun k p hp => by
    rw [show pts (cd Try.f8) regletlaw13_awake.H = [(0, [1, 1, 1])] by kernel_rfl] at hp
    simp only [List.mem_cons, List.not_mem_nil, or_false] at hp
    rcases hp with rfl
    · exact ptOk_of rfl (regletlaw13_awake.j0_e k))
    (fun k x => by kernel_rfl) k
/-! reglet/regletref12.Right -/
mutual
def regletref12_Right.l0 : Nat → (List api_Slot) → Int → Option Bool
  | 0, _, _ => none
  | k + 1, t, t2 => if (decide (t2 < (t.length : Int))) = true then ((at? t t2).bind fun e => if (decide (e.2.2.1 < 1)) = true then (some false) else (if (decide ((wrap64 ((t.length : Int) - t2)) < e.2.2.1)) = true then (some false) else (regletref12_Right.j1 k t t2 e.2.2.1))) else (some true)
def regletref12_Right.j1 : Nat → (List api_Slot) → Int → Int → Option Bool
  | 0, _, _, _ => none
  | k + 1, t3, t4, t5 => regletref12_Right.l2 k t3 t4 t5 0
def regletref12_Right.l2 : Nat → (List api_Slot) → Int → Int → Int → Option Bool
  | 0, _, _, _, _ => none
  | k + 1, t6, t7, t8, t9 => if (decide (t9 < t8)) = true then ((at? t6 (wrap64 (t7 + t9))).bind fun e2 => if (decide (e2.1 < 1)) = true then (some false) else (if (decide (1048576 < e2.1)) = true then (some false) else (if (!decide (e2.2.1 = t9)) = true then (some false) else (if (!decide (e2.2.2.1 = t8)) = true then (some false) else ((at? t6 t7).bind fun e3 => if (!decide (e2.2.2.2 = e3.2.2.2)) = true then (some false) else (regletref12_Right.j3 k t6 t7 t8 t9)))))) else (regletref12_Right.l0 k t6 (wrap64 (t7 + t8)))
def regletref12_Right.j3 : Nat → (List api_Slot) → Int → Int → Int → Option Bool
  | 0, _, _, _, _ => none
  | k + 1, t10, t11, t12, t13 => regletref12_Right.l2 k t10 t11 t12 (wrap64 (t13 + 1))
end
def regletref12_Right.f (k : Nat) (a0 : List api_Slot) : Option Bool := regletref12_Right.l0 k a0 0
def regletref12_Right.sig (k : Nat) : Sig := .p [(false, y4)] [.c false .b] fun x => regletref12_Right.f k x.1
def regletref12_Right.E (k : Nat) : List (Nat × Sig) := []
def regletref12_Right.G (P : Program) : GI := ⟨P, TT, 70, 74, [(6, 70, 4)], [], [], [], []⟩
def regletref12_Right.H : H := .s .n (.s (.s .n (.s (.l 0 (.s .n (.s (.s .n (.j 1 .n (.s (.s .n (.s (.l 2 (.s .n (.j 3 .n .n))) .n)) .n))) .n))) .n)) .n)
abbrev regletref12_Right.l0_s : Sh := [(0, .v y4), (3, .v (.i .i64))]
abbrev regletref12_Right.j1_s : Sh := [(0, .v y4), (3, .v (.i .i64)), (4, .v (.i .i64))]
abbrev regletref12_Right.l2_s : Sh := [(0, .v y4), (3, .v (.i .i64)), (4, .v (.i .i64)), (5, .v (.i .i64))]
abbrev regletref12_Right.j3_s : Sh := [(0, .v y4), (3, .v (.i .i64)), (4, .v (.i .i64)), (5, .v (.i .i64))]
def regletref12_Right.O (k : Nat) : List (Orc (denR [.c false .b])) := [⟨regletref12_Right.l0_s, fun y => regletref12_Right.l0 k y.1 y.2.1⟩, ⟨regletref12_Right.j1_s, fun y => regletref12_Right.j1 k y.1 y.2.1 y.2.2.1⟩, ⟨regletref12_Right.l2_s, fun y => regletref12_Right.l2 k y.1 y.2.1 y.2.2.1 y.2.2.2.1⟩, ⟨regletref12_Right.j3_s, fun y => regletref12_Right.j3 k y.1 y.2.1 y.2.2.1 y.2.2.2.1⟩]
theorem regletref12_Right.j3_e (k : Nat) (y : denS regletref12_Right.j3_s) : regletref12_Right.j3 (k + 1) y.1 y.2.1 y.2.2.1 y.2.2.2.1 = evP ((regletref12_Right.G Try.prog).at (regletref12_Right.E k)) (fun i => (regletref12_Right.O k)[i]?) [1, 0, 1, 0, 0, 1, 0, 1, 1, 0, 1, 0, 0, 1, 1] (cd Try.f24) regletref12_Right.H (kFin ((regletref12_Right.G Try.prog).at (regletref12_Right.E k)) [.tmp 2] [.c false .b]) (unS regletref12_Right.j3_s y) := by rw [regletref12_Right.j3]; kernel_rfl
theorem regletref12_Right.l2_e (k : Nat) (y : denS regletref12_Right.l2_s) : regletref12_Right.l2 (k + 1) y.1 y.2.1 y.2.2.1 y.2.2.2.1 = evP ((regletref12_Right.G Try.prog).at (regletref12_Right.E k)) (fun i => (regletref12_Right.O k)[i]?) [1, 0, 1, 0, 0, 1, 0, 1, 1, 0, 1, 0, 0] (cd Try.f24) regletref12_Right.H (kFin ((regletref12_Right.G Try.prog).at (regletref12_Right.E k)) [.tmp 2] [.c false .b]) (unS regletref12_Right.l2_s y) := by rw [regletref12_Right.l2]; kernel_rfl
theorem regletref12_Right.j1_e (k : Nat) (y : denS regletref12_Right.j1_s) : regletref12_Right.j1 (k + 1) y.1 y.2.1 y.2.2.1 = evP ((regletref12_Right.G Try.prog).at (regletref12_Right.E k)) (fun i => (regletref12_Right.O k)[i]?) [1, 0, 1, 0, 0, 1, 0, 1, 1] (cd Try.f24) regletref12_Right.H (kFin ((regletref12_Right.G Try.prog).at (regletref12_Right.E k)) [.tmp 2] [.c false .b]) (unS regletref12_Right.j1_s y) := by rw [regletref12_Right.j1]; kernel_rfl
theorem regletref12_Right.l0_e (k : Nat) (y : denS regletref12_Right.l0_s) : regletref12_Right.l0 (k + 1) y.1 y.2.1 = evP ((regletref12_Right.G Try.prog).at (regletref12_Right.E k)) (fun i => (regletref12_Right.O k)[i]?) [1, 0, 1, 0, 0] (cd Try.f24) regletref12_Right.H (kFin ((regletref12_Right.G Try.prog).at (regletref12_Right.E k)) [.tmp 2] [.c false .b]) (unS regletref12_Right.l0_s y) := by rw [regletref12_Right.l0]; kernel_rfl
theorem regletref12_Right.go : goesTo Try.prog 24 := ⟨_, Try.func24, by kernel_rfl, rfl⟩
theorem regletref12_Right.ok (k : Nat) : SigOk Try.prog 24 (regletref12_Right.sig k) :=
  fn_p (G := regletref12_Right.G Try.prog) (c := cd Try.f24) (rs := [.tmp 2]) (args := [(false, y4)]) (l := [.c false .b]) (fn := Try.f24) ⟨Try.func24, by kernel_rfl, by kernel_rfl, by kernel_rfl, le_of rfl, le_of rfl, TT_ok⟩ rfl regletref12_Right.E (fun k p hp => nomatch hp)
    (fun k i => (regletref12_Right.O k)[i]?) regletref12_Right.H (fun k x => regletref12_Right.f k x.1)
    (fun id o y h => by
    have h' := List.mem_of_getElem? h
    simp only [regletref12_Right.O, List.mem_cons, List.not_mem_nil, or_false] at h'
    rcases h' with rfl | rfl | rfl | rfl <;> rfl)
    (fun k p hp => by
    rw [show pts (cd Try.f24) regletref12_Right.H = [(3, [1, 0, 1, 0, 0, 1, 0, 1, 1, 0, 1, 0, 0, 1, 1]), (2, [1, 0, 1, 0, 0, 1, 0, 1, 1, 0, 1, 0, 0]), (1, [1, 0, 1, 0, 0, 1, 0, 1, 1]), (0, [1, 0, 1, 0, 0])] by kernel_rfl] at hp
    simp only [List.mem_cons, List.not_mem_nil, or_false] at hp
    rcases hp with rfl | rfl | rfl | rfl
    · exact ptOk_of rfl (regletref12_Right.j3_e k)
    · exact ptOk_of rfl (regletref12_Right.l2_e k)
    · exact ptOk_of rfl (regletref12_Right.j1_e k)
    · exact ptOk_of rfl (regletref12_Right.l0_e k))
    (fun k x => by kernel_rfl) k
/-! reglet/regletref08.Settings -/
mutual
def regletref08_Settings.j0 : Nat → api_Settings → Option Bool
  | 0, _ => none
  | k + 1, t => regletref08_Settings.l1 k ([t.2.2.1, t.2.2.2.1, t.2.2.2.2.1] : List Int) 0 t
def regletref08_Settings.l1 : Nat → (List Int) → Int → api_Settings → Option Bool
  | 0, _, _, _ => none
  | k + 1, t2, t3, t4 => if (decide (t3 < (t2.length : Int))) = true then (if 0 ≤ t3 ∧ t3 < (t2.length : Int) then ((t2[t3.toNat]?).bind fun e => if (decide (e < 0)) = true then (some false) else (if 0 ≤ t3 ∧ t3 < (t2.length : Int) then ((t2[t3.toNat]?).bind fun e2 => if (decide (1048576 < e2)) = true then (some false) else (regletref08_Settings.j2 k t2 t3 t4)) else none)) else none) else (if (decide (1 ≤ t4.2.2.2.2.2.1)) = true then (if (decide (t4.2.2.2.2.2.1 ≤ 100)) = true then (if (decide (1 ≤ t4.2.2.2.2.2.2)) = true then (some (decide (t4.2.2.2.2.2.2 ≤ 100))) else (some false)) else (some false)) else (some false))
def regletref08_Settings.j2 : Nat → (List Int) → Int → api_Settings → Option Bool
  | 0, _, _, _ => none
  | k + 1, t5, t6, t7 => regletref08_Settings.l1 k t5 (wrap64 (t6 + 1)) t7
end
def regletref08_Settings.f (k : Nat) (a0 : api_Settings) : Option Bool := if (decide (a0.1 < 0)) = true then (some false) else (if (decide (10000 < a0.1)) = true then (some false) else (if (decide (a0.2.1 < 0)) = true then (some false) else (if (decide (10000 < a0.2.1)) = true then (some false) else (regletref08_Settings.j0 k a0))))
def regletref08_Settings.sig (k : Nat) : Sig := .p [(true, y11)] [.c false .b] fun x => regletref08_Settings.f k x.1
def regletref08_Settings.E (k : Nat) : List (Nat × Sig) := []
def regletref08_Settings.G (P : Program) : GI := ⟨P, TT, 66, 73, [(1, 66, 7)], [], [], [], []⟩
def regletref08_Settings.H : H := .s .n (.j 0 .n (.s .n (.s (.s .n (.s (.l 1 (.s .n (.j 2 .n .n))) .n)) .n)))
abbrev regletref08_Settings.j0_s : Sh := [(1, .at_ 66), (66, .box y11)]
abbrev regletref08_Settings.l1_s : Sh := [(1, .at_ 66), (3, .v y0), (4, .v (.i .i64)), (66, .box y11)]
abbrev regletref08_Settings.j2_s : Sh := [(1, .at_ 66), (3, .v y0), (4, .v (.i .i64)), (66, .box y11)]
def regletref08_Settings.O (k : Nat) : List (Orc (denR [.c false .b])) := [⟨regletref08_Settings.j0_s, fun y => regletref08_Settings.j0 k y.2.1⟩, ⟨regletref08_Settings.l1_s, fun y => regletref08_Settings.l1 k y.2.1 y.2.2.1 y.2.2.2.1⟩, ⟨regletref08_Settings.j2_s, fun y => regletref08_Settings.j2 k y.2.1 y.2.2.1 y.2.2.2.1⟩]
theorem regletref08_Settings.j2_e (k : Nat) (y : denS regletref08_Settings.j2_s) : regletref08_Settings.j2 (k + 1) y.2.1 y.2.2.1 y.2.2.2.1 = evP ((regletref08_Settings.G Try.prog).at (regletref08_Settings.E k)) (fun i => (regletref08_Settings.O k)[i]?) [1, 1, 1, 0, 1, 0, 0, 1, 1] (cd Try.f36) regletref08_Settings.H (kFin ((regletref08_Settings.G Try.prog).at (regletref08_Settings.E k)) [.tmp 2] [.c false .b]) (unS regletref08_Settings.j2_s y) := by rw [regletref08_Settings.j2]; kernel_rfl
theorem regletref08_Settings.l1_e (k : Nat) (y : denS regletref08_Settings.l1_s) : regletref08_Settings.l1 (k + 1) y.2.1 y.2.2.1 y.2.2.2.1 = evP ((regletref08_Settings.G Try.prog).at (regletref08_Settings.E k)) (fun i => (regletref08_Settings.O k)[i]?) [1, 1, 1, 0, 1, 0, 0] (cd Try.f36) regletref08_Settings.H (kFin ((regletref08_Settings.G Try.prog).at (regletref08_Settings.E k)) [.tmp 2] [.c false .b]) (unS regletref08_Settings.l1_s y) := by rw [regletref08_Settings.l1]; kernel_rfl
theorem regletref08_Settings.j0_e (k : Nat) (y : denS regletref08_Settings.j0_s) : regletref08_Settings.j0 (k + 1) y.2.1 = evP ((regletref08_Settings.G Try.prog).at (regletref08_Settings.E k)) (fun i => (regletref08_Settings.O k)[i]?) [1, 1] (cd Try.f36) regletref08_Settings.H (kFin ((regletref08_Settings.G Try.prog).at (regletref08_Settings.E k)) [.tmp 2] [.c false .b]) (unS regletref08_Settings.j0_s y) := by rw [regletref08_Settings.j0]; kernel_rfl
theorem regletref08_Settings.go : goesTo Try.prog 36 := ⟨_, Try.func36, by kernel_rfl, rfl⟩
theorem regletref08_Settings.ok (k : Nat) : SigOk Try.prog 36 (regletref08_Settings.sig k) :=
  fn_p (G := regletref08_Settings.G Try.prog) (c := cd Try.f36) (rs := [.tmp 2]) (args := [(true, y11)]) (l := [.c false .b]) (fn := Try.f36) ⟨Try.func36, by kernel_rfl, by kernel_rfl, by kernel_rfl, le_of rfl, le_of rfl, TT_ok⟩ rfl regletref08_Settings.E (fun k p hp => nomatch hp)
    (fun k i => (regletref08_Settings.O k)[i]?) regletref08_Settings.H (fun k x => regletref08_Settings.f k x.1)
    (fun id o y h => by
    have h' := List.mem_of_getElem? h
    simp only [regletref08_Settings.O, List.mem_cons, List.not_mem_nil, or_false] at h'
    rcases h' with rfl | rfl | rfl <;> rfl)
    (fun k p hp => by
    rw [show pts (cd Try.f36) regletref08_Settings.H = [(2, [1, 1, 1, 0, 1, 0, 0, 1, 1]), (1, [1, 1, 1, 0, 1, 0, 0]), (0, [1, 1])] by kernel_rfl] at hp
    simp only [List.mem_cons, List.not_mem_nil, or_false] at hp
    rcases hp with rfl | rfl | rfl
    · exact ptOk_of rfl (regletref08_Settings.j2_e k)
    · exact ptOk_of rfl (regletref08_Settings.l1_e k)
    · exact ptOk_of rfl (regletref08_Settings.j0_e k))
    (fun k x => by kernel_rfl) k
/-! reglet/regletref12.Check -/
def regletref12_Check.f (k : Nat) (a0 : Int) (a1 : api_Settings) : Option Bool := if (decide (1 ≤ a0)) = true then (if (decide (a0 ≤ 1073741824)) = true then ((regletref08_Settings.f k a1).bind fun r => some r) else (some false)) else (some false)
def regletref12_Check.sig (k : Nat) : Sig := .p [(false, (.i .i64)), (true, y11)] [.c false .b] fun x => regletref12_Check.f k x.1 x.2.1
def regletref12_Check.E (k : Nat) : List (Nat × Sig) := [(36, regletref08_Settings.sig k)]
def regletref12_Check.G (P : Program) : GI := ⟨P, TT, 15, 22, [(3, 15, 7)], [], [], [], []⟩
def regletref12_Check.H : H := .n
def regletref12_Check.O (k : Nat) : List (Orc (denR [.c false .b])) := []
theorem regletref12_Check.go : goesTo Try.prog 25 := ⟨_, Try.func25, by kernel_rfl, rfl⟩
theorem regletref12_Check.ok (k : Nat) : SigOk Try.prog 25 (regletref12_Check.sig k) :=
  fn_p (G := regletref12_Check.G Try.prog) (c := cd Try.f25) (rs := [.tmp 4]) (args := [(false, (.i .i64)), (true, y11)]) (l := [.c false .b]) (fn := Try.f25) ⟨Try.func25, by kernel_rfl, by kernel_rfl, by kernel_rfl, le_of rfl, le_of rfl, TT_ok⟩ rfl regletref12_Check.E (fun k p hp => by
    simp only [regletref12_Check.E, List.mem_cons, List.not_mem_nil, or_false] at hp
    rcases hp with rfl
    · exact ⟨regletref08_Settings.ok k, regletref08_Settings.go⟩)
    (fun k i => (regletref12_Check.O k)[i]?) regletref12_Check.H (fun k x => regletref12_Check.f k x.1 x.2.1)
    (fun id o y h => by cases id <;> cases h)
    (fun k p hp => by rw [show pts (cd Try.f25) regletref12_Check.H = [] by kernel_rfl] at hp; nomatch hp)
    (fun k x => by kernel_rfl) k
/-! reglet/regletlaw13.begun -/
mutual
def regletlaw13_begun.j0 : Nat → (List api_Slot × Int × Int × Int × Int × Int × Int × Int × Int) → (List api_Slot × Int × Int × Int × Int × Int × Int × Int × Int) → (List api_Slot × Int × Int × Int × Int × Int × Int × Int × Int) → Option ((Option (List api_Slot × List Int × Int × Int × Int × Int × Int × Int × Int × Int)) × (List api_Slot × Int × Int × Int × Int × Int × Int × Int × Int) × Bool)
  | 0, _, _, _ => none
  | k + 1, s, t, w => (repage_New.f k s.1 s.2.1 s.2.2).bind fun r3 => optK r3.1 (if (!decide (r3.2 = 0)) = true then (some (none, w, true)) else (some (none, w, true))) fun p => if (!decide (r3.2 = 0)) = true then (some (none, w, true)) else (regletlaw13_begun.j1 k t w p)
def regletlaw13_begun.j1 : Nat → (List api_Slot × Int × Int × Int × Int × Int × Int × Int × Int) → (List api_Slot × Int × Int × Int × Int × Int × Int × Int × Int) → (List api_Slot × List Int × Int × Int × Int × Int × Int × Int × Int × Int) → Option ((Option (List api_Slot × List Int × Int × Int × Int × Int × Int × Int × Int × Int)) × (List api_Slot × Int × Int × Int × Int × Int × Int × Int × Int) × Bool)
  | 0, _, _, _ => none
  | k + 1, t2, w2, b => some (some b, w2, true)
end
def regletlaw13_begun.f (k : Nat) (a0 : List api_Slot × Int × Int × Int × Int × Int × Int × Int × Int) : Option ((Option (List api_Slot × List Int × Int × Int × Int × Int × Int × Int × Int × Int)) × (List api_Slot × Int × Int × Int × Int × Int × Int × Int × Int) × Bool) := if (decide (150 < (a0.1.length : Int))) = true then (some (none, a0, false)) else ((regletref12_Right.f k a0.1).bind fun r => if (!r) = true then (some (none, a0, false)) else ((regletref12_Check.f k a0.2.1 a0.2.2).bind fun r2 => if (!r2) = true then (some (none, a0, false)) else (regletlaw13_begun.j0 k a0 (([] : List api_Slot), 0, 0, 0, 0, 0, 0, 0, 0) a0)))
def regletlaw13_begun.sig (k : Nat) : Sig := .p [(true, y19)] [.o y18, .c true y19, .c false .b] fun x => regletlaw13_begun.f k x.1
def regletlaw13_begun.E (k : Nat) : List (Nat × Sig) := [(13, repage_New.sig k), (24, regletref12_Right.sig k), (25, regletref12_Check.sig k)]
def regletlaw13_begun.G (P : Program) : GI := ⟨P, TT, 53, 90, [(1, 53, 9), (3, 62, 9), (5, 71, 9), (6, 80, 10)], [], [], [], []⟩
def regletlaw13_begun.H : H := .s .n (.s .n (.j 0 .n (.s .n (.j 1 (.s (.o 6 .n) .n) .n))))
abbrev regletlaw13_begun.j0_s : Sh := [(1, .at_ 53), (3, .at_ 62), (5, .at_ 71), (53, .box y19), (62, .box y20), (71, .box y19)]
abbrev regletlaw13_begun.j1_s : Sh := [(3, .at_ 62), (5, .at_ 71), (6, .at_ 80), (62, .box y20), (71, .box y19), (80, .box y18)]
def regletlaw13_begun.O (k : Nat) : List (Orc (denR [.o y18, .c true y19, .c false .b])) := [⟨regletlaw13_begun.j0_s, fun y => regletlaw13_begun.j0 k y.2.2.2.1 y.2.2.2.2.1 y.2.2.2.2.2.1⟩, ⟨regletlaw13_begun.j1_s, fun y => regletlaw13_begun.j1 k y.2.2.2.1 y.2.2.2.2.1 y.2.2.2.2.2.1⟩]
theorem regletlaw13_begun.j1_e (k : Nat) (y : denS regletlaw13_begun.j1_s) : regletlaw13_begun.j1 (k + 1) y.2.2.2.1 y.2.2.2.2.1 y.2.2.2.2.2.1 = evP ((regletlaw13_begun.G Try.prog).at (regletlaw13_begun.E k)) (fun i => (regletlaw13_begun.O k)[i]?) [1, 1, 1, 1, 1] (cd Try.f9) regletlaw13_begun.H (kFin ((regletlaw13_begun.G Try.prog).at (regletlaw13_begun.E k)) [.tmp 2, .cell 3 32, .tmp 4] [.o y18, .c true y19, .c false .b]) (unS regletlaw13_begun.j1_s y) := by rw [regletlaw13_begun.j1]; kernel_rfl
theorem regletlaw13_begun.j0_e (k : Nat) (y : denS regletlaw13_begun.j0_s) : regletlaw13_begun.j0 (k + 1) y.2.2.2.1 y.2.2.2.2.1 y.2.2.2.2.2.1 = evP ((regletlaw13_begun.G Try.prog).at (regletlaw13_begun.E k)) (fun i => (regletlaw13_begun.O k)[i]?) [1, 1, 1] (cd Try.f9) regletlaw13_begun.H (kFin ((regletlaw13_begun.G Try.prog).at (regletlaw13_begun.E k)) [.tmp 2, .cell 3 32, .tmp 4] [.o y18, .c true y19, .c false .b]) (unS regletlaw13_begun.j0_s y) := by rw [regletlaw13_begun.j0]; kernel_rfl
theorem regletlaw13_begun.go : goesTo Try.prog 9 := ⟨_, Try.func9, by kernel_rfl, rfl⟩
theorem regletlaw13_begun.ok (k : Nat) : SigOk Try.prog 9 (regletlaw13_begun.sig k) :=
  fn_p (G := regletlaw13_begun.G Try.prog) (c := cd Try.f9) (rs := [.tmp 2, .cell 3 32, .tmp 4]) (args := [(true, y19)]) (l := [.o y18, .c true y19, .c false .b]) (fn := Try.f9) ⟨Try.func9, by kernel_rfl, by kernel_rfl, by kernel_rfl, le_of rfl, le_of rfl, TT_ok⟩ rfl regletlaw13_begun.E (fun k p hp => by
    simp only [regletlaw13_begun.E, List.mem_cons, List.not_mem_nil, or_false] at hp
    rcases hp with rfl | rfl | rfl
    · exact ⟨repage_New.ok k, repage_New.go⟩
    · exact ⟨regletref12_Right.ok k, regletref12_Right.go⟩
    · exact ⟨regletref12_Check.ok k, regletref12_Check.go⟩)
    (fun k i => (regletlaw13_begun.O k)[i]?) regletlaw13_begun.H (fun k x => regletlaw13_begun.f k x.1)
    (fun id o y h => by
    have h' := List.mem_of_getElem? h
    simp only [regletlaw13_begun.O, List.mem_cons, List.not_mem_nil, or_false] at h'
    rcases h' with rfl | rfl <;> rfl)
    (fun k p hp => by
    rw [show pts (cd Try.f9) regletlaw13_begun.H = [(1, [1, 1, 1, 1, 1]), (0, [1, 1, 1])] by kernel_rfl] at hp
    simp only [List.mem_cons, List.not_mem_nil, or_false] at hp
    rcases hp with rfl | rfl
    · exact ptOk_of rfl (regletlaw13_begun.j1_e k)
    · exact ptOk_of rfl (regletlaw13_begun.j0_e k))
    (fun k x => by kernel_rfl) k
/-! reglet/regletref13.edge -/
def regletref13_edge.f (k : Nat) (a0 : List api_Slot) (a1 : Int) : Option Bool := if (decide (a1 = (a0.length : Int))) = true then (some true) else ((at? a0 a1).bind fun e => some (decide (e.2.1 = 0)))
def regletref13_edge.sig (k : Nat) : Sig := .p [(false, y4), (false, (.i .i64))] [.c false .b] fun x => regletref13_edge.f k x.1 x.2.1
def regletref13_edge.E (k : Nat) : List (Nat × Sig) := []
def regletref13_edge.G (P : Program) : GI := ⟨P, TT, 17, 17, [], [], [], [], []⟩
def regletref13_edge.H : H := .n
def regletref13_edge.O (k : Nat) : List (Orc (denR [.c false .b])) := []
theorem regletref13_edge.go : goesTo Try.prog 26 := ⟨_, Try.func26, by kernel_rfl, rfl⟩
theorem regletref13_edge.ok (k : Nat) : SigOk Try.prog 26 (regletref13_edge.sig k) :=
  fn_p (G := regletref13_edge.G Try.prog) (c := cd Try.f26) (rs := [.tmp 4]) (args := [(false, y4), (false, (.i .i64))]) (l := [.c false .b]) (fn := Try.f26) ⟨Try.func26, by kernel_rfl, by kernel_rfl, by kernel_rfl, le_of rfl, le_of rfl, TT_ok⟩ rfl regletref13_edge.E (fun k p hp => nomatch hp)
    (fun k i => (regletref13_edge.O k)[i]?) regletref13_edge.H (fun k x => regletref13_edge.f k x.1 x.2.1)
    (fun id o y h => by cases id <;> cases h)
    (fun k p hp => by rw [show pts (cd Try.f26) regletref13_edge.H = [] by kernel_rfl] at hp; nomatch hp)
    (fun k x => by kernel_rfl) k
/-! reglet/regletref13.May -/
mutual
def regletref13_May.j0 : Nat → Int → Int → (List api_Slot) → (List api_Slot × Int × Int × Int × Int × Int × Int × Int × Int) → Option Bool
  | 0, _, _, _, _ => none
  | k + 1, first, gone, come, b => (regletref13_edge.f k b.1 first).bind fun r => if r = true then ((regletref13_edge.f k b.1 (wrap64 (first + gone))).bind fun r2 => if r2 = true then ((regletref12_Right.f k come).bind fun r3 => some r3) else (some false)) else (some false)
end
def regletref13_May.f (k : Nat) (a0 : List api_Slot × Int × Int × Int × Int × Int × Int × Int × Int) (a1 : Int) (a2 : Int) (a3 : List api_Slot) : Option Bool := if (decide (a1 < 0)) = true then (some false) else (if (decide (a2 < 0)) = true then (some false) else (if (decide ((a0.1.length : Int) < a1)) = true then (some false) else (if (decide ((wrap64 ((a0.1.length : Int) - a1)) < a2)) = true then (some false) else (regletref13_May.j0 k a1 a2 a3 a0))))
def regletref13_May.sig (k : Nat) : Sig := .p [(true, y19), (false, (.i .i64)), (false, (.i .i64)), (false, y4)] [.c false .b] fun x => regletref13_May.f k x.1 x.2.1 x.2.2.1 x.2.2.2.1
def regletref13_May.E (k : Nat) : List (Nat × Sig) := [(24, regletref12_Right.sig k), (26, regletref13_edge.sig k)]
def regletref13_May.G (P : Program) : GI := ⟨P, TT, 47, 56, [(4, 47, 9)], [], [], [], []⟩
def regletref13_May.H : H := .s .n (.j 0 .n .n)
abbrev regletref13_May.j0_s : Sh := [(1, .v (.i .i64)), (2, .v (.i .i64)), (3, .v y4), (4, .at_ 47), (47, .box y19)]
def regletref13_May.O (k : Nat) : List (Orc (denR [.c false .b])) := [⟨regletref13_May.j0_s, fun y => regletref13_May.j0 k y.1 y.2.1 y.2.2.1 y.2.2.2.2.1⟩]
theorem regletref13_May.j0_e (k : Nat) (y : denS regletref13_May.j0_s) : regletref13_May.j0 (k + 1) y.1 y.2.1 y.2.2.1 y.2.2.2.2.1 = evP ((regletref13_May.G Try.prog).at (regletref13_May.E k)) (fun i => (regletref13_May.O k)[i]?) [1, 1] (cd Try.f10) regletref13_May.H (kFin ((regletref13_May.G Try.prog).at (regletref13_May.E k)) [.tmp 8] [.c false .b]) (unS regletref13_May.j0_s y) := by rw [regletref13_May.j0]; kernel_rfl
theorem regletref13_May.go : goesTo Try.prog 10 := ⟨_, Try.func10, by kernel_rfl, rfl⟩
theorem regletref13_May.ok (k : Nat) : SigOk Try.prog 10 (regletref13_May.sig k) :=
  fn_p (G := regletref13_May.G Try.prog) (c := cd Try.f10) (rs := [.tmp 8]) (args := [(true, y19), (false, (.i .i64)), (false, (.i .i64)), (false, y4)]) (l := [.c false .b]) (fn := Try.f10) ⟨Try.func10, by kernel_rfl, by kernel_rfl, by kernel_rfl, le_of rfl, le_of rfl, TT_ok⟩ rfl regletref13_May.E (fun k p hp => by
    simp only [regletref13_May.E, List.mem_cons, List.not_mem_nil, or_false] at hp
    rcases hp with rfl | rfl
    · exact ⟨regletref12_Right.ok k, regletref12_Right.go⟩
    · exact ⟨regletref13_edge.ok k, regletref13_edge.go⟩)
    (fun k i => (regletref13_May.O k)[i]?) regletref13_May.H (fun k x => regletref13_May.f k x.1 x.2.1 x.2.2.1 x.2.2.2.1)
    (fun id o y h => by
    have h' := List.mem_of_getElem? h
    simp only [regletref13_May.O, List.mem_cons, List.not_mem_nil, or_false] at h'
    rcases h' with rfl <;> rfl)
    (fun k p hp => by
    rw [show pts (cd Try.f10) regletref13_May.H = [(0, [1, 1])] by kernel_rfl] at hp
    simp only [List.mem_cons, List.not_mem_nil, or_false] at hp
    rcases hp with rfl
    · exact ptOk_of rfl (regletref13_May.j0_e k))
    (fun k x => by kernel_rfl) k
/-! reglet/regletlaw13.RepageKeeps -/
mutual
def regletlaw13_RepageKeeps.j0 : Nat → (Int × Int × List api_Slot × Int) → (List api_Slot × Int × Int × Int × Int × Int × Int × Int × Int) → (List api_Slot × List Int × Int × Int × Int × Int × Int × Int × Int × Int) → Option Bool
  | 0, _, _, _ => none
  | k + 1, t, t2, t3 => if (!decide (t.2.2.2 = 0)) = true then (some true) else (if (decide (60 < (t.2.2.1.length : Int))) = true then (some true) else ((regletref13_May.f k t2 t.1 t.2.1 t.2.2.1).bind fun r3 => if (!r3) = true then (some true) else (regletlaw13_RepageKeeps.j1 k t t3)))
def regletlaw13_RepageKeeps.j1 : Nat → (Int × Int × List api_Slot × Int) → (List api_Slot × List Int × Int × Int × Int × Int × Int × Int × Int × Int) → Option Bool
  | 0, _, _ => none
  | k + 1, t4, t5 => (repage_Book_Starts.f k t5).bind fun r4 => (repage_Book_Replace.f k t5 t4.1 t4.2.1 t4.2.2.1).bind fun r5 => (repage_Book_Starts.f k r5.2.2.2).bind fun r6 => if (!decide (r5.2.2.1 = 0)) = true then (some false) else (if (decide (r5.1 < 0)) = true then (some false) else (if (decide (r5.2.1 < 0)) = true then (some false) else (if (decide ((r6.length : Int) < (wrap64 (r5.1 + r5.2.1)))) = true then (some false) else (if (decide ((r4.length : Int) < r5.1)) = true then (some false) else (regletlaw13_RepageKeeps.j2 k r4 r5.1 r5.2.1 r6 t4)))))
def regletlaw13_RepageKeeps.j2 : Nat → (List Int) → Int → Int → (List Int) → (Int × Int × List api_Slot × Int) → Option Bool
  | 0, _, _, _, _, _ => none
  | k + 1, t6, t7, t8, t9, t10 => regletlaw13_RepageKeeps.l3 k t6 t7 t8 t9 0 t10
def regletlaw13_RepageKeeps.l3 : Nat → (List Int) → Int → Int → (List Int) → Int → (Int × Int × List api_Slot × Int) → Option Bool
  | 0, _, _, _, _, _, _ => none
  | k + 1, t11, t12, t13, t14, t15, t16 => if (decide (t15 < t12)) = true then (if 0 ≤ t15 ∧ t15 < (t14.length : Int) then ((t14[t15.toNat]?).bind fun e => if 0 ≤ t15 ∧ t15 < (t11.length : Int) then ((t11[t15.toNat]?).bind fun e2 => if (!decide (e = e2)) = true then (some false) else (regletlaw13_RepageKeeps.l3 k t11 t12 t13 t14 (wrap64 (t15 + 1)) t16)) else none) else none) else (if (decide ((t11.length : Int) < (wrap64 ((wrap64 ((t14.length : Int) - t12)) - t13)))) = true then (some false) else (regletlaw13_RepageKeeps.l4 k t11 t14 (wrap64 ((wrap64 ((t14.length : Int) - t12)) - t13)) 1 t16))
def regletlaw13_RepageKeeps.l4 : Nat → (List Int) → (List Int) → Int → Int → (Int × Int × List api_Slot × Int) → Option Bool
  | 0, _, _, _, _, _ => none
  | k + 1, t17, t18, t19, t20, t21 => if (decide (t20 ≤ t19)) = true then (if 0 ≤ (wrap64 ((t18.length : Int) - t20)) ∧ (wrap64 ((t18.length : Int) - t20)) < (t18.length : Int) then ((t18[(wrap64 ((t18.length : Int) - t20)).toNat]?).bind fun e3 => if 0 ≤ (wrap64 ((t17.length : Int) - t20)) ∧ (wrap64 ((t17.length : Int) - t20)) < (t17.length : Int) then ((t17[(wrap64 ((t17.length : Int) - t20)).toNat]?).bind fun e4 => if (decide (e3 < (wrap64 (t21.1 + (t21.2.2.1.length : Int))))) = true then (some false) else (if (!decide ((wrap64 (e3 - (t21.2.2.1.length : Int))) = (wrap64 (e4 - t21.2.1)))) = true then (some false) else (regletlaw13_RepageKeeps.j5 k t17 t18 t19 t20 t21))) else none) else none) else (some true)
def regletlaw13_RepageKeeps.j5 : Nat → (List Int) → (List Int) → Int → Int → (Int × Int × List api_Slot × Int) → Option Bool
  | 0, _, _, _, _, _ => none
  | k + 1, t22, t23, t24, t25, t26 => regletlaw13_RepageKeeps.l4 k t22 t23 t24 (wrap64 (t25 + 1)) t26
end
def regletlaw13_RepageKeeps.f (k : Nat) (a0 : List api_Slot × Int × Int × Int × Int × Int × Int × Int × Int) (a1 : Int × Int × List api_Slot × Int) : Option Bool := (regletlaw13_awake.f k).bind fun r => if (!r) = true then (some false) else ((regletlaw13_begun.f k a0).bind fun r2 => optK r2.1 (if (!r2.2.2) = true then (some (!r2.2.2)) else (some (!r2.2.2))) fun p => if (!r2.2.2) = true then (some (!r2.2.2)) else (regletlaw13_RepageKeeps.j0 k a1 r2.2.1 p))
def regletlaw13_RepageKeeps.sig (k : Nat) : Sig := .p [(true, y22), (true, y25)] [.c false .b] fun x => regletlaw13_RepageKeeps.f k x.1 x.2.1
def regletlaw13_RepageKeeps.E (k : Nat) : List (Nat × Sig) := [(8, regletlaw13_awake.sig k), (9, regletlaw13_begun.sig k), (10, regletref13_May.sig k), (11, repage_Book_Starts.sig k), (12, repage_Book_Replace.sig k)]
def regletlaw13_RepageKeeps.G (P : Program) : GI := ⟨P, TT, 157, 189, [(2, 157, 9), (3, 166, 4), (6, 170, 9), (5, 179, 10)], [], [], [], []⟩
def regletlaw13_RepageKeeps.H : H := .s .n (.s .n (.s .n (.j 0 (.s (.o 5 .n) .n) (.j 1 .n (.s .n (.s .n (.s .n (.j 2 .n (.s (.s .n (.s (.l 3 .n) .n)) (.s .n (.s .n (.s (.s .n (.s (.l 4 (.s .n (.j 5 .n .n))) .n)) .n))))))))))))
abbrev regletlaw13_RepageKeeps.j0_s : Sh := [(3, .at_ 166), (5, .at_ 179), (6, .at_ 170), (166, .box y25), (170, .box y19), (179, .box y18)]
abbrev regletlaw13_RepageKeeps.j1_s : Sh := [(3, .at_ 166), (5, .at_ 179), (166, .box y25), (179, .box y18)]
abbrev regletlaw13_RepageKeeps.j2_s : Sh := [(3, .at_ 166), (8, .v y0), (9, .v (.i .i64)), (10, .v (.i .i64)), (12, .v y0), (166, .box y25)]
abbrev regletlaw13_RepageKeeps.l3_s : Sh := [(3, .at_ 166), (8, .v y0), (9, .v (.i .i64)), (10, .v (.i .i64)), (12, .v y0), (13, .v (.i .i64)), (166, .box y25)]
abbrev regletlaw13_RepageKeeps.l4_s : Sh := [(3, .at_ 166), (8, .v y0), (12, .v y0), (14, .v (.i .i64)), (15, .v (.i .i64)), (166, .box y25)]
abbrev regletlaw13_RepageKeeps.j5_s : Sh := [(3, .at_ 166), (8, .v y0), (12, .v y0), (14, .v (.i .i64)), (15, .v (.i .i64)), (166, .box y25)]
def regletlaw13_RepageKeeps.O (k : Nat) : List (Orc (denR [.c false .b])) := [⟨regletlaw13_RepageKeeps.j0_s, fun y => regletlaw13_RepageKeeps.j0 k y.2.2.2.1 y.2.2.2.2.1 y.2.2.2.2.2.1⟩, ⟨regletlaw13_RepageKeeps.j1_s, fun y => regletlaw13_RepageKeeps.j1 k y.2.2.1 y.2.2.2.1⟩, ⟨regletlaw13_RepageKeeps.j2_s, fun y => regletlaw13_RepageKeeps.j2 k y.2.1 y.2.2.1 y.2.2.2.1 y.2.2.2.2.1 y.2.2.2.2.2.1⟩, ⟨regletlaw13_RepageKeeps.l3_s, fun y => regletlaw13_RepageKeeps.l3 k y.2.1 y.2.2.1 y.2.2.2.1 y.2.2.2.2.1 y.2.2.2.2.2.1 y.2.2.2.2.2.2.1⟩, ⟨regletlaw13_RepageKeeps.l4_s, fun y => regletlaw13_RepageKeeps.l4 k y.2.1 y.2.2.1 y.2.2.2.1 y.2.2.2.2.1 y.2.2.2.2.2.1⟩, ⟨regletlaw13_RepageKeeps.j5_s, fun y => regletlaw13_RepageKeeps.j5 k y.2.1 y.2.2.1 y.2.2.2.1 y.2.2.2.2.1 y.2.2.2.2.2.1⟩]
theorem regletlaw13_RepageKeeps.l3_e (k : Nat) (y : denS regletlaw13_RepageKeeps.l3_s) : regletlaw13_RepageKeeps.l3 (k + 1) y.2.1 y.2.2.1 y.2.2.2.1 y.2.2.2.2.1 y.2.2.2.2.2.1 y.2.2.2.2.2.2.1 = evP ((regletlaw13_RepageKeeps.G Try.prog).at (regletlaw13_RepageKeeps.E k)) (fun i => (regletlaw13_RepageKeeps.O k)[i]?) [1, 1, 1, 1, 1, 1, 1, 1, 1, 0, 1, 0, 0] (cd Try.f3) regletlaw13_RepageKeeps.H (kFin ((regletlaw13_RepageKeeps.G Try.prog).at (regletlaw13_RepageKeeps.E k)) [.tmp 4] [.c false .b]) (unS regletlaw13_RepageKeeps.l3_s y) := by rw [regletlaw13_RepageKeeps.l3]; kernel_rfl
theorem regletlaw13_RepageKeeps.j5_e (k : Nat) (y : denS regletlaw13_RepageKeeps.j5_s) : regletlaw13_RepageKeeps.j5 (k + 1) y.2.1 y.2.2.1 y.2.2.2.1 y.2.2.2.2.1 y.2.2.2.2.2.1 = evP ((regletlaw13_RepageKeeps.G Try.prog).at (regletlaw13_RepageKeeps.E k)) (fun i => (regletlaw13_RepageKeeps.O k)[i]?) [1, 1, 1, 1, 1, 1, 1, 1, 1, 1, 1, 1, 0, 1, 0, 0, 1, 1] (cd Try.f3) regletlaw13_RepageKeeps.H (kFin ((regletlaw13_RepageKeeps.G Try.prog).at (regletlaw13_RepageKeeps.E k)) [.tmp 4] [.c false .b]) (unS regletlaw13_RepageKeeps.j5_s y) := by rw [regletlaw13_RepageKeeps.j5]; kernel_rfl
theorem regletlaw13_RepageKeeps.l4_e (k : Nat) (y : denS regletlaw13_RepageKeeps.l4_s) : regletlaw13_RepageKeeps.l4 (k + 1) y.2.1 y.2.2.1 y.2.2.2.1 y.2.2.2.2.1 y.2.2.2.2.2.1 = evP ((regletlaw13_RepageKeeps.G Try.prog).at (regletlaw13_RepageKeeps.E k)) (fun i => (regletlaw13_RepageKeeps.O k)[i]?) [1, 1, 1, 1, 1, 1, 1, 1, 1, 1, 1, 1, 0, 1, 0, 0] (cd Try.f3) regletlaw13_RepageKeeps.H (kFin ((regletlaw13_RepageKeeps.G Try.prog).at (regletlaw13_RepageKeeps.E k)) [.tmp 4] [.c false .b]) (unS regletlaw13_RepageKeeps.l4_s y) := by rw [regletlaw13_RepageKeeps.l4]; kernel_rfl
theorem regletlaw13_RepageKeeps.j2_e (k : Nat) (y : denS regletlaw13_RepageKeeps.j2_s) : regletlaw13_RepageKeeps.j2 (k + 1) y.2.1 y.2.2.1 y.2.2.2.1 y.2.2.2.2.1 y.2.2.2.2.2.1 = evP ((regletlaw13_RepageKeeps.G Try.prog).at (regletlaw13_RepageKeeps.E k)) (fun i => (regletlaw13_RepageKeeps.O k)[i]?) [1, 1, 1, 1, 1, 1, 1, 1, 1] (cd Try.f3) regletlaw13_RepageKeeps.H (kFin ((regletlaw13_RepageKeeps.G Try.prog).at (regletlaw13_RepageKeeps.E k)) [.tmp 4] [.c false .b]) (unS regletlaw13_RepageKeeps.j2_s y) := by rw [regletlaw13_RepageKeeps.j2]; kernel_rfl
theorem regletlaw13_RepageKeeps.j1_e (k : Nat) (y : denS regletlaw13_RepageKeeps.j1_s) : regletlaw13_RepageKeeps.j1 (k + 1) y.2.2.1 y.2.2.2.1 = evP ((regletlaw13_RepageKeeps.G Try.prog).at (regletlaw13_RepageKeeps.E k)) (fun i => (regletlaw13_RepageKeeps.O k)[i]?) [1, 1, 1, 1, 1] (cd Try.f3) regletlaw13_RepageKeeps.H (kFin ((regletlaw13_RepageKeeps.G Try.prog).at (regletlaw13_RepageKeeps.E k)) [.tmp 4] [.c false .b]) (unS regletlaw13_RepageKeeps.j1_s y) := by rw [regletlaw13_RepageKeeps.j1]; kernel_rfl
theorem regletlaw13_RepageKeeps.j0_e (k : Nat) (y : denS regletlaw13_RepageKeeps.j0_s) : regletlaw13_RepageKeeps.j0 (k + 1) y.2.2.2.1 y.2.2.2.2.1 y.2.2.2.2.2.1 = evP ((regletlaw13_RepageKeeps.G Try.prog).at (regletlaw13_RepageKeeps.E k)) (fun i => (regletlaw13_RepageKeeps.O k)[i]?) [1, 1, 1, 1] (cd Try.f3) regletlaw13_RepageKeeps.H (kFin ((regletlaw13_RepageKeeps.G Try.prog).at (regletlaw13_RepageKeeps.E k)) [.tmp 4] [.c false .b]) (unS regletlaw13_RepageKeeps.j0_s y) := by rw [regletlaw13_RepageKeeps.j0]; kernel_rfl
theorem regletlaw13_RepageKeeps.go : goesTo Try.prog 3 := ⟨_, Try.func3, by kernel_rfl, rfl⟩
theorem regletlaw13_RepageKeeps.ok (k : Nat) : SigOk Try.prog 3 (regletlaw13_RepageKeeps.sig k) :=
  fn_p (G := regletlaw13_RepageKeeps.G Try.prog) (c := cd Try.f3) (rs := [.tmp 4]) (args := [(true, y22), (true, y25)]) (l := [.c false .b]) (fn := Try.f3) ⟨Try.func3, by kernel_rfl, by kernel_rfl, by kernel_rfl, le_of rfl, le_of rfl, TT_ok⟩ rfl regletlaw13_RepageKeeps.E (fun k p hp => by
    simp only [regletlaw13_RepageKeeps.E, List.mem_cons, List.not_mem_nil, or_false] at hp
    rcases hp with rfl | rfl | rfl | rfl | rfl
    · exact ⟨regletlaw13_awake.ok k, regletlaw13_awake.go⟩
    · exact ⟨regletlaw13_begun.ok k, regletlaw13_begun.go⟩
    · exact ⟨regletref13_May.ok k, regletref13_May.go⟩
    · exact ⟨repage_Book_Starts.ok k, repage_Book_Starts.go⟩
    · exact ⟨repage_Book_Replace.ok k, repage_Book_Replace.go⟩)
    (fun k i => (regletlaw13_RepageKeeps.O k)[i]?) regletlaw13_RepageKeeps.H (fun k x => regletlaw13_RepageKeeps.f k x.1 x.2.1)
    (fun id o y h => by
    have h' := List.mem_of_getElem? h
    simp only [regletlaw13_RepageKeeps.O, List.mem_cons, List.not_mem_nil, or_false] at h'
    rcases h' with rfl | rfl | rfl | rfl | rfl | rfl <;> rfl)
    (fun k p hp => by
    rw [show pts (cd Try.f3) regletlaw13_RepageKeeps.H = [(3, [1, 1, 1, 1, 1, 1, 1, 1, 1, 0, 1, 0, 0]), (5, [1, 1, 1, 1, 1, 1, 1, 1, 1, 1, 1, 1, 0, 1, 0, 0, 1, 1]), (4, [1, 1, 1, 1, 1, 1, 1, 1, 1, 1, 1, 1, 0, 1, 0, 0]), (2, [1, 1, 1, 1, 1, 1, 1, 1, 1]), (1, [1, 1, 1, 1, 1]), (0, [1, 1, 1, 1])] by kernel_rfl] at hp
    simp only [List.mem_cons, List.not_mem_nil, or_false] at hp
    rcases hp with rfl | rfl | rfl | rfl | rfl | rfl
    · exact ptOk_of rfl (regletlaw13_RepageKeeps.l3_e k)
    · exact ptOk_of rfl (regletlaw13_RepageKeeps.j5_e k)
    · exact ptOk_of rfl (regletlaw13_RepageKeeps.l4_e k)
    · exact ptOk_of rfl (regletlaw13_RepageKeeps.j2_e k)
    · exact ptOk_of rfl (regletlaw13_RepageKeeps.j1_e k)
    · exact ptOk_of rfl (regletlaw13_RepageKeeps.j0_e k))
    (fun k x => by kernel_rfl) k
/-! reglet/regletlaw13.RepageFew -/
mutual
def regletlaw13_RepageFew.j0 : Nat → (Int × Int × List api_Slot × Int) → (List api_Slot × Int × Int × Int × Int × Int × Int × Int × Int) → (List api_Slot × List Int × Int × Int × Int × Int × Int × Int × Int × Int) → Option Bool
  | 0, _, _, _ => none
  | k + 1, t, t2, t3 => if (!decide (t.2.2.2 = 0)) = true then (some true) else (if (decide (60 < (t.2.2.1.length : Int))) = true then (some true) else ((regletref13_May.f k t2 t.1 t.2.1 t.2.2.1).bind fun r3 => if (!r3) = true then (some true) else (regletlaw13_RepageFew.j1 k t t3)))
def regletlaw13_RepageFew.j1 : Nat → (Int × Int × List api_Slot × Int) → (List api_Slot × List Int × Int × Int × Int × Int × Int × Int × Int × Int) → Option Bool
  | 0, _, _ => none
  | k + 1, t4, t5 => (repage_Book_Starts.f k t5).bind fun r4 => (repage_Book_Replace.f k t5 t4.1 t4.2.1 t4.2.2.1).bind fun r5 => (repage_Book_Starts.f k r5.2.2.2).bind fun r6 => if (!decide (r5.2.2.1 = 0)) = true then (some false) else (if (decide ((r6.length : Int) < (wrap64 (r5.1 + r5.2.1)))) = true then (some false) else (regletlaw13_RepageFew.j2 k r4 r5.1 r5.2.1 r6 t4))
def regletlaw13_RepageFew.j2 : Nat → (List Int) → Int → Int → (List Int) → (Int × Int × List api_Slot × Int) → Option Bool
  | 0, _, _, _, _, _ => none
  | k + 1, t6, t7, t8, t9, t10 => regletlaw13_RepageFew.l3 k t6 t7 t8 t9 t7 t10
def regletlaw13_RepageFew.l3 : Nat → (List Int) → Int → Int → (List Int) → Int → (Int × Int × List api_Slot × Int) → Option Bool
  | 0, _, _, _, _, _, _ => none
  | k + 1, t11, t12, t13, t14, t15, t16 => if (decide (t15 < (wrap64 (t12 + t13)))) = true then (if 0 ≤ t15 ∧ t15 < (t14.length : Int) then ((t14[t15.toNat]?).bind fun e => if (decide (e < (wrap64 (t16.1 + (t16.2.2.1.length : Int))))) = true then (regletlaw13_RepageFew.j4 k t11 t12 t13 t14 t15 t16) else (regletlaw13_RepageFew.l5 k t11 t12 t13 t14 t15 0 t16)) else none) else (some true)
def regletlaw13_RepageFew.j4 : Nat → (List Int) → Int → Int → (List Int) → Int → (Int × Int × List api_Slot × Int) → Option Bool
  | 0, _, _, _, _, _, _ => none
  | k + 1, t17, t18, t19, t20, t21, t22 => regletlaw13_RepageFew.l3 k t17 t18 t19 t20 (wrap64 (t21 + 1)) t22
def regletlaw13_RepageFew.l5 : Nat → (List Int) → Int → Int → (List Int) → Int → Int → (Int × Int × List api_Slot × Int) → Option Bool
  | 0, _, _, _, _, _, _, _ => none
  | k + 1, t23, t24, t25, t26, t27, t28, t29 => if (decide (t28 < (t23.length : Int))) = true then (if 0 ≤ t28 ∧ t28 < (t23.length : Int) then ((t23[t28.toNat]?).bind fun e2 => if 0 ≤ t27 ∧ t27 < (t26.length : Int) then ((t26[t27.toNat]?).bind fun e3 => if (decide ((wrap64 (e2 - t29.2.1)) = (wrap64 (e3 - (t29.2.2.1.length : Int))))) = true then (some false) else (regletlaw13_RepageFew.l5 k t23 t24 t25 t26 t27 (wrap64 (t28 + 1)) t29)) else none) else none) else (regletlaw13_RepageFew.j4 k t23 t24 t25 t26 t27 t29)
end
def regletlaw13_RepageFew.f (k : Nat) (a0 : List api_Slot × Int × Int × Int × Int × Int × Int × Int × Int) (a1 : Int × Int × List api_Slot × Int) : Option Bool := (regletlaw13_awake.f k).bind fun r => if (!r) = true then (some false) else ((regletlaw13_begun.f k a0).bind fun r2 => optK r2.1 (if (!r2.2.2) = true then (some (!r2.2.2)) else (some (!r2.2.2))) fun p => if (!r2.2.2) = true then (some (!r2.2.2)) else (regletlaw13_RepageFew.j0 k a1 r2.2.1 p))
def regletlaw13_RepageFew.sig (k : Nat) : Sig := .p [(true, y22), (true, y25)] [.c false .b] fun x => regletlaw13_RepageFew.f k x.1 x.2.1
def regletlaw13_RepageFew.E (k : Nat) : List (Nat × Sig) := [(8, regletlaw13_awake.sig k), (9, regletlaw13_begun.sig k), (10, regletref13_May.sig k), (11, repage_Book_Starts.sig k), (12, repage_Book_Replace.sig k)]
def regletlaw13_RepageFew.G (P : Program) : GI := ⟨P, TT, 118, 150, [(2, 118, 9), (3, 127, 4), (6, 131, 9), (5, 140, 10)], [], [], [], []⟩
def regletlaw13_RepageFew.H : H := .s .n (.s .n (.s .n (.j 0 (.s (.o 5 .n) .n) (.j 1 .n (.s .n (.s .n (.s .n (.j 2 .n (.s (.s .n (.s (.l 3 (.s .n (.j 4 (.s (.s .n (.s .n (.s (.l 5 .n) .n))) .n) .n))) .n)) .n)))))))))
abbrev regletlaw13_RepageFew.j0_s : Sh := [(3, .at_ 127), (5, .at_ 140), (6, .at_ 131), (127, .box y25), (131, .box y19), (140, .box y18)]
abbrev regletlaw13_RepageFew.j1_s : Sh := [(3, .at_ 127), (5, .at_ 140), (127, .box y25), (140, .box y18)]
abbrev regletlaw13_RepageFew.j2_s : Sh := [(3, .at_ 127), (8, .v y0), (9, .v (.i .i64)), (10, .v (.i .i64)), (12, .v y0), (127, .box y25)]
abbrev regletlaw13_RepageFew.l3_s : Sh := [(3, .at_ 127), (8, .v y0), (9, .v (.i .i64)), (10, .v (.i .i64)), (12, .v y0), (13, .v (.i .i64)), (127, .box y25)]
abbrev regletlaw13_RepageFew.j4_s : Sh := [(3, .at_ 127), (8, .v y0), (9, .v (.i .i64)), (10, .v (.i .i64)), (12, .v y0), (13, .v (.i .i64)), (127, .box y25)]
abbrev regletlaw13_RepageFew.l5_s : Sh := [(3, .at_ 127), (8, .v y0), (9, .v (.i .i64)), (10, .v (.i .i64)), (12, .v y0), (13, .v (.i .i64)), (14, .v (.i .i64)), (127, .box y25)]
def regletlaw13_RepageFew.O (k : Nat) : List (Orc (denR [.c false .b])) := [⟨regletlaw13_RepageFew.j0_s, fun y => regletlaw13_RepageFew.j0 k y.2.2.2.1 y.2.2.2.2.1 y.2.2.2.2.2.1⟩, ⟨regletlaw13_RepageFew.j1_s, fun y => regletlaw13_RepageFew.j1 k y.2.2.1 y.2.2.2.1⟩, ⟨regletlaw13_RepageFew.j2_s, fun y => regletlaw13_RepageFew.j2 k y.2.1 y.2.2.1 y.2.2.2.1 y.2.2.2.2.1 y.2.2.2.2.2.1⟩, ⟨regletlaw13_RepageFew.l3_s, fun y => regletlaw13_RepageFew.l3 k y.2.1 y.2.2.1 y.2.2.2.1 y.2.2.2.2.1 y.2.2.2.2.2.1 y.2.2.2.2.2.2.1⟩, ⟨regletlaw13_RepageFew.j4_s, fun y => regletlaw13_RepageFew.j4 k y.2.1 y.2.2.1 y.2.2.2.1 y.2.2.2.2.1 y.2.2.2.2.2.1 y.2.2.2.2.2.2.1⟩, ⟨regletlaw13_RepageFew.l5_s, fun y => regletlaw13_RepageFew.l5 k y.2.1 y.2.2.1 y.2.2.2.1 y.2.2.2.2.1 y.2.2.2.2.2.1 y.2.2.2.2.2.2.1 y.2.2.2.2.2.2.2.1⟩]
theorem regletlaw13_RepageFew.l5_e (k : Nat) (y : denS regletlaw13_RepageFew.l5_s) : regletlaw13_RepageFew.l5 (k + 1) y.2.1 y.2.2.1 y.2.2.2.1 y.2.2.2.2.1 y.2.2.2.2.2.1 y.2.2.2.2.2.2.1 y.2.2.2.2.2.2.2.1 = evP ((regletlaw13_RepageFew.G Try.prog).at (regletlaw13_RepageFew.E k)) (fun i => (regletlaw13_RepageFew.O k)[i]?) [1, 1, 1, 1, 1, 1, 1, 1, 1, 0, 1, 0, 0, 1, 0, 0, 1, 1, 0, 0] (cd Try.f4) regletlaw13_RepageFew.H (kFin ((regletlaw13_RepageFew.G Try.prog).at (regletlaw13_RepageFew.E k)) [.tmp 4] [.c false .b]) (unS regletlaw13_RepageFew.l5_s y) := by rw [regletlaw13_RepageFew.l5]; kernel_rfl
theorem regletlaw13_RepageFew.j4_e (k : Nat) (y : denS regletlaw13_RepageFew.j4_s) : regletlaw13_RepageFew.j4 (k + 1) y.2.1 y.2.2.1 y.2.2.2.1 y.2.2.2.2.1 y.2.2.2.2.2.1 y.2.2.2.2.2.2.1 = evP ((regletlaw13_RepageFew.G Try.prog).at (regletlaw13_RepageFew.E k)) (fun i => (regletlaw13_RepageFew.O k)[i]?) [1, 1, 1, 1, 1, 1, 1, 1, 1, 0, 1, 0, 0, 1, 1] (cd Try.f4) regletlaw13_RepageFew.H (kFin ((regletlaw13_RepageFew.G Try.prog).at (regletlaw13_RepageFew.E k)) [.tmp 4] [.c false .b]) (unS regletlaw13_RepageFew.j4_s y) := by rw [regletlaw13_RepageFew.j4]; kernel_rfl
theorem regletlaw13_RepageFew.l3_e (k : Nat) (y : denS regletlaw13_RepageFew.l3_s) : regletlaw13_RepageFew.l3 (k + 1) y.2.1 y.2.2.1 y.2.2.2.1 y.2.2.2.2.1 y.2.2.2.2.2.1 y.2.2.2.2.2.2.1 = evP ((regletlaw13_RepageFew.G Try.prog).at (regletlaw13_RepageFew.E k)) (fun i => (regletlaw13_RepageFew.O k)[i]?) [1, 1, 1, 1, 1, 1, 1, 1, 1, 0, 1, 0, 0] (cd Try.f4) regletlaw13_RepageFew.H (kFin ((regletlaw13_RepageFew.G Try.prog).at (regletlaw13_RepageFew.E k)) [.tmp 4] [.c false .b]) (unS regletlaw13_RepageFew.l3_s y) := by rw [regletlaw13_RepageFew.l3]; kernel_rfl
theorem regletlaw13_RepageFew.j2_e (k : Nat) (y : denS regletlaw13_RepageFew.j2_s) : regletlaw13_RepageFew.j2 (k + 1) y.2.1 y.2.2.1 y.2.2.2.1 y.2.2.2.2.1 y.2.2.2.2.2.1 = evP ((regletlaw13_RepageFew.G Try.prog).at (regletlaw13_RepageFew.E k)) (fun i => (regletlaw13_RepageFew.O k)[i]?) [1, 1, 1, 1, 1, 1, 1, 1, 1] (cd Try.f4) regletlaw13_RepageFew.H (kFin ((regletlaw13_RepageFew.G Try.prog).at (regletlaw13_RepageFew.E k)) [.tmp 4] [.c false .b]) (unS regletlaw13_RepageFew.j2_s y) := by rw [regletlaw13_RepageFew.j2]; kernel_rfl
theorem regletlaw13_RepageFew.j1_e (k : Nat) (y : denS regletlaw13_RepageFew.j1_s) : regletlaw13_RepageFew.j1 (k + 1) y.2.2.1 y.2.2.2.1 = evP ((regletlaw13_RepageFew.G Try.prog).at (regletlaw13_RepageFew.E k)) (fun i => (regletlaw13_RepageFew.O k)[i]?) [1, 1, 1, 1, 1] (cd Try.f4) regletlaw13_RepageFew.H (kFin ((regletlaw13_RepageFew.G Try.prog).at (regletlaw13_RepageFew.E k)) [.tmp 4] [.c false .b]) (unS regletlaw13_RepageFew.j1_s y) := by rw [regletlaw13_RepageFew.j1]; kernel_rfl
theorem regletlaw13_RepageFew.j0_e (k : Nat) (y : denS regletlaw13_RepageFew.j0_s) : regletlaw13_RepageFew.j0 (k + 1) y.2.2.2.1 y.2.2.2.2.1 y.2.2.2.2.2.1 = evP ((regletlaw13_RepageFew.G Try.prog).at (regletlaw13_RepageFew.E k)) (fun i => (regletlaw13_RepageFew.O k)[i]?) [1, 1, 1, 1] (cd Try.f4) regletlaw13_RepageFew.H (kFin ((regletlaw13_RepageFew.G Try.prog).at (regletlaw13_RepageFew.E k)) [.tmp 4] [.c false .b]) (unS regletlaw13_RepageFew.j0_s y) := by rw [regletlaw13_RepageFew.j0]; kernel_rfl
theorem regletlaw13_RepageFew.go : goesTo Try.prog 4 := ⟨_, Try.func4, by kernel_rfl, rfl⟩
theorem regletlaw13_RepageFew.ok (k : Nat) : SigOk Try.prog 4 (regletlaw13_RepageFew.sig k) :=
  fn_p (G := regletlaw13_RepageFew.G Try.prog) (c := cd Try.f4) (rs := [.tmp 4]) (args := [(true, y22), (true, y25)]) (l := [.c false .b]) (fn := Try.f4) ⟨Try.func4, by kernel_rfl, by kernel_rfl, by kernel_rfl, le_of rfl, le_of rfl, TT_ok⟩ rfl regletlaw13_RepageFew.E (fun k p hp => by
    simp only [regletlaw13_RepageFew.E, List.mem_cons, List.not_mem_nil, or_false] at hp
    rcases hp with rfl | rfl | rfl | rfl | rfl
    · exact ⟨regletlaw13_awake.ok k, regletlaw13_awake.go⟩
    · exact ⟨regletlaw13_begun.ok k, regletlaw13_begun.go⟩
    · exact ⟨regletref13_May.ok k, regletref13_May.go⟩
    · exact ⟨repage_Book_Starts.ok k, repage_Book_Starts.go⟩
    · exact ⟨repage_Book_Replace.ok k, repage_Book_Replace.go⟩)
    (fun k i => (regletlaw13_RepageFew.O k)[i]?) regletlaw13_RepageFew.H (fun k x => regletlaw13_RepageFew.f k x.1 x.2.1)
    (fun id o y h => by
    have h' := List.mem_of_getElem? h
    simp only [regletlaw13_RepageFew.O, List.mem_cons, List.not_mem_nil, or_false] at h'
    rcases h' with rfl | rfl | rfl | rfl | rfl | rfl <;> rfl)
    (fun k p hp => by
    rw [show pts (cd Try.f4) regletlaw13_RepageFew.H = [(5, [1, 1, 1, 1, 1, 1, 1, 1, 1, 0, 1, 0, 0, 1, 0, 0, 1, 1, 0, 0]), (4, [1, 1, 1, 1, 1, 1, 1, 1, 1, 0, 1, 0, 0, 1, 1]), (3, [1, 1, 1, 1, 1, 1, 1, 1, 1, 0, 1, 0, 0]), (2, [1, 1, 1, 1, 1, 1, 1, 1, 1]), (1, [1, 1, 1, 1, 1]), (0, [1, 1, 1, 1])] by kernel_rfl] at hp
    simp only [List.mem_cons, List.not_mem_nil, or_false] at hp
    rcases hp with rfl | rfl | rfl | rfl | rfl | rfl
    · exact ptOk_of rfl (regletlaw13_RepageFew.l5_e k)
    · exact ptOk_of rfl (regletlaw13_RepageFew.j4_e k)
    · exact ptOk_of rfl (regletlaw13_RepageFew.l3_e k)
    · exact ptOk_of rfl (regletlaw13_RepageFew.j2_e k)
    · exact ptOk_of rfl (regletlaw13_RepageFew.j1_e k)
    · exact ptOk_of rfl (regletlaw13_RepageFew.j0_e k))
    (fun k x => by kernel_rfl) k
/-! reglet/regletref12.May -/
def regletref12_May.f (k : Nat) (a0 : api_Slot) (a1 : api_Settings) : Option Bool := if (decide ((wrap64 (a0.2.2.1 - (wrap64 (a0.2.1 + 1)))) = 0)) = true then (some (!a0.2.2.2)) else (if (decide (a1.2.2.2.2.2.1 ≤ (wrap64 (a0.2.1 + 1)))) = true then (some (decide (a1.2.2.2.2.2.2 ≤ (wrap64 (a0.2.2.1 - (wrap64 (a0.2.1 + 1))))))) else (some false))
def regletref12_May.sig (k : Nat) : Sig := .p [(true, y3), (true, y11)] [.c false .b] fun x => regletref12_May.f k x.1 x.2.1
def regletref12_May.E (k : Nat) : List (Nat × Sig) := []
def regletref12_May.G (P : Program) : GI := ⟨P, TT, 29, 40, [(2, 29, 4), (3, 33, 7)], [], [], [], []⟩
def regletref12_May.H : H := .n
def regletref12_May.O (k : Nat) : List (Orc (denR [.c false .b])) := []
theorem regletref12_May.go : goesTo Try.prog 44 := ⟨_, Try.func44, by kernel_rfl, rfl⟩
theorem regletref12_May.ok (k : Nat) : SigOk Try.prog 44 (regletref12_May.sig k) :=
  fn_p (G := regletref12_May.G Try.prog) (c := cd Try.f44) (rs := [.tmp 4]) (args := [(true, y3), (true, y11)]) (l := [.c false .b]) (fn := Try.f44) ⟨Try.func44, by kernel_rfl, by kernel_rfl, by kernel_rfl, le_of rfl, le_of rfl, TT_ok⟩ rfl regletref12_May.E (fun k p hp => nomatch hp)
    (fun k i => (regletref12_May.O k)[i]?) regletref12_May.H (fun k x => regletref12_May.f k x.1 x.2.1)
    (fun id o y h => by cases id <;> cases h)
    (fun k p hp => by rw [show pts (cd Try.f44) regletref12_May.H = [] by kernel_rfl] at hp; nomatch hp)
    (fun k x => by kernel_rfl) k
/-! reglet/regletref12.Cut -/
def regletref12_Cut.f (k : Nat) (a0 : List api_Slot) (a1 : Int) (a2 : api_Settings) : Option Bool := if (decide (a1 = (a0.length : Int))) = true then (some true) else (if (decide (0 < a1)) = true then (if (decide (a1 < (a0.length : Int))) = true then ((at? a0 (wrap64 (a1 - 1))).bind fun e => (regletref12_May.f k e a2).bind fun r => some r) else (some false)) else (some false))
def regletref12_Cut.sig (k : Nat) : Sig := .p [(false, y4), (false, (.i .i64)), (true, y11)] [.c false .b] fun x => regletref12_Cut.f k x.1 x.2.1 x.2.2.1
def regletref12_Cut.E (k : Nat) : List (Nat × Sig) := [(44, regletref12_May.sig k)]
def regletref12_Cut.G (P : Program) : GI := ⟨P, TT, 30, 37, [(5, 30, 7)], [], [], [], []⟩
def regletref12_Cut.H : H := .n
def regletref12_Cut.O (k : Nat) : List (Orc (denR [.c false .b])) := []
theorem regletref12_Cut.go : goesTo Try.prog 41 := ⟨_, Try.func41, by kernel_rfl, rfl⟩
theorem regletref12_Cut.ok (k : Nat) : SigOk Try.prog 41 (regletref12_Cut.sig k) :=
  fn_p (G := regletref12_Cut.G Try.prog) (c := cd Try.f41) (rs := [.tmp 6]) (args := [(false, y4), (false, (.i .i64)), (true, y11)]) (l := [.c false .b]) (fn := Try.f41) ⟨Try.func41, by kernel_rfl, by kernel_rfl, by kernel_rfl, le_of rfl, le_of rfl, TT_ok⟩ rfl regletref12_Cut.E (fun k p hp => by
    simp only [regletref12_Cut.E, List.mem_cons, List.not_mem_nil, or_false] at hp
    rcases hp with rfl
    · exact ⟨regletref12_May.ok k, regletref12_May.go⟩)
    (fun k i => (regletref12_Cut.O k)[i]?) regletref12_Cut.H (fun k x => regletref12_Cut.f k x.1 x.2.1 x.2.2.1)
    (fun id o y h => by cases id <;> cases h)
    (fun k p hp => by rw [show pts (cd Try.f41) regletref12_Cut.H = [] by kernel_rfl] at hp; nomatch hp)
    (fun k x => by kernel_rfl) k
/-! reglet/regletref12.High -/
mutual
def regletref12_High.l0 : Nat → (List api_Slot) → Int → Int → Int → Option Int
  | 0, _, _, _, _ => none
  | k + 1, l, to, n, i => if (decide (i < to)) = true then (if (decide (i < (l.length : Int))) = true then (regletref12_High.j1 k l to n i) else (some n)) else (some n)
def regletref12_High.j1 : Nat → (List api_Slot) → Int → Int → Int → Option Int
  | 0, _, _, _, _ => none
  | k + 1, l2, to2, n2, i2 => (at? l2 i2).bind fun e => regletref12_High.l0 k l2 to2 (wrap64 (n2 + e.1)) (wrap64 (i2 + 1))
end
def regletref12_High.f (k : Nat) (a0 : List api_Slot) (a1 : Int) (a2 : Int) : Option Int := regletref12_High.l0 k a0 a2 0 a1
def regletref12_High.sig (k : Nat) : Sig := .p [(false, y4), (false, (.i .i64)), (false, (.i .i64))] [.c false (.i .i64)] fun x => regletref12_High.f k x.1 x.2.1 x.2.2.1
def regletref12_High.E (k : Nat) : List (Nat × Sig) := []
def regletref12_High.G (P : Program) : GI := ⟨P, TT, 29, 29, [], [], [], [], []⟩
def regletref12_High.H : H := .s .n (.s .n (.s (.s .n (.s (.l 0 (.j 1 .n .n)) .n)) .n))
abbrev regletref12_High.l0_s : Sh := [(0, .v y4), (2, .v (.i .i64)), (7, .v (.i .i64)), (8, .v (.i .i64))]
abbrev regletref12_High.j1_s : Sh := [(0, .v y4), (2, .v (.i .i64)), (7, .v (.i .i64)), (8, .v (.i .i64))]
def regletref12_High.O (k : Nat) : List (Orc (denR [.c false (.i .i64)])) := [⟨regletref12_High.l0_s, fun y => regletref12_High.l0 k y.1 y.2.1 y.2.2.1 y.2.2.2.1⟩, ⟨regletref12_High.j1_s, fun y => regletref12_High.j1 k y.1 y.2.1 y.2.2.1 y.2.2.2.1⟩]
theorem regletref12_High.j1_e (k : Nat) (y : denS regletref12_High.j1_s) : regletref12_High.j1 (k + 1) y.1 y.2.1 y.2.2.1 y.2.2.2.1 = evP ((regletref12_High.G Try.prog).at (regletref12_High.E k)) (fun i => (regletref12_High.O k)[i]?) [1, 1, 0, 1, 0, 0, 1] (cd Try.f42) regletref12_High.H (kFin ((regletref12_High.G Try.prog).at (regletref12_High.E k)) [.tmp 6] [.c false (.i .i64)]) (unS regletref12_High.j1_s y) := by rw [regletref12_High.j1]; kernel_rfl
theorem regletref12_High.l0_e (k : Nat) (y : denS regletref12_High.l0_s) : regletref12_High.l0 (k + 1) y.1 y.2.1 y.2.2.1 y.2.2.2.1 = evP ((regletref12_High.G Try.prog).at (regletref12_High.E k)) (fun i => (regletref12_High.O k)[i]?) [1, 1, 0, 1, 0, 0] (cd Try.f42) regletref12_High.H (kFin ((regletref12_High.G Try.prog).at (regletref12_High.E k)) [.tmp 6] [.c false (.i .i64)]) (unS regletref12_High.l0_s y) := by rw [regletref12_High.l0]; kernel_rfl
theorem regletref12_High.go : goesTo Try.prog 42 := ⟨_, Try.func42, by kernel_rfl, rfl⟩
theorem regletref12_High.ok (k : Nat) : SigOk Try.prog 42 (regletref12_High.sig k) :=
  fn_p (G := regletref12_High.G Try.prog) (c := cd Try.f42) (rs := [.tmp 6]) (args := [(false, y4), (false, (.i .i64)), (false, (.i .i64))]) (l := [.c false (.i .i64)]) (fn := Try.f42) ⟨Try.func42, by kernel_rfl, by kernel_rfl, by kernel_rfl, le_of rfl, le_of rfl, TT_ok⟩ rfl regletref12_High.E (fun k p hp => nomatch hp)
    (fun k i => (regletref12_High.O k)[i]?) regletref12_High.H (fun k x => regletref12_High.f k x.1 x.2.1 x.2.2.1)
    (fun id o y h => by
    have h' := List.mem_of_getElem? h
    simp only [regletref12_High.O, List.mem_cons, List.not_mem_nil, or_false] at h'
    rcases h' with rfl | rfl <;> rfl)
    (fun k p hp => by
    rw [show pts (cd Try.f42) regletref12_High.H = [(1, [1, 1, 0, 1, 0, 0, 1]), (0, [1, 1, 0, 1, 0, 0])] by kernel_rfl] at hp
    simp only [List.mem_cons, List.not_mem_nil, or_false] at hp
    rcases hp with rfl | rfl
    · exact ptOk_of rfl (regletref12_High.j1_e k)
    · exact ptOk_of rfl (regletref12_High.l0_e k))
    (fun k x => by kernel_rfl) k
/-! reglet/regletref12.Next -/
mutual
def regletref12_Next.l0 : Nat → (List api_Slot) → Int → Int → Int → Int → api_Settings → Option Int
  | 0, _, _, _, _, _, _ => none
  | k + 1, l, from_, height, best, k_, set_ => if (decide (k_ ≤ (l.length : Int))) = true then ((regletref12_Cut.f k l k_ set_).bind fun r => if (!r) = true then (regletref12_Next.j1 k l from_ height best k_ set_) else (if (decide (best = from_)) = true then (regletref12_Next.j1 k l from_ height k_ k_ set_) else ((regletref12_High.f k l from_ k_).bind fun r2 => if (decide (r2 ≤ height)) = true then (regletref12_Next.j1 k l from_ height k_ k_ set_) else (regletref12_Next.j1 k l from_ height best k_ set_)))) else (some best)
def regletref12_Next.j1 : Nat → (List api_Slot) → Int → Int → Int → Int → api_Settings → Option Int
  | 0, _, _, _, _, _, _ => none
  | k + 1, l2, from_2, height2, best2, k_2, set_2 => regletref12_Next.l0 k l2 from_2 height2 best2 (wrap64 (k_2 + 1)) set_2
end
def regletref12_Next.f (k : Nat) (a0 : List api_Slot) (a1 : Int) (a2 : Int) (a3 : api_Settings) : Option Int := regletref12_Next.l0 k a0 a1 a2 a1 (wrap64 (a1 + 1)) a3
def regletref12_Next.sig (k : Nat) : Sig := .p [(false, y4), (false, (.i .i64)), (false, (.i .i64)), (true, y11)] [.c false (.i .i64)] fun x => regletref12_Next.f k x.1 x.2.1 x.2.2.1 x.2.2.2.1
def regletref12_Next.E (k : Nat) : List (Nat × Sig) := [(41, regletref12_Cut.sig k), (42, regletref12_High.sig k)]
def regletref12_Next.G (P : Program) : GI := ⟨P, TT, 38, 45, [(7, 38, 7)], [], [], [], []⟩
def regletref12_Next.H : H := .s .n (.s .n (.s (.s .n (.s (.l 0 (.s .n (.j 1 .n .n))) .n)) .n))
abbrev regletref12_Next.l0_s : Sh := [(0, .v y4), (1, .v (.i .i64)), (2, .v (.i .i64)), (7, .at_ 38), (9, .v (.i .i64)), (10, .v (.i .i64)), (38, .box y11)]
abbrev regletref12_Next.j1_s : Sh := [(0, .v y4), (1, .v (.i .i64)), (2, .v (.i .i64)), (7, .at_ 38), (9, .v (.i .i64)), (10, .v (.i .i64)), (38, .box y11)]
def regletref12_Next.O (k : Nat) : List (Orc (denR [.c false (.i .i64)])) := [⟨regletref12_Next.l0_s, fun y => regletref12_Next.l0 k y.1 y.2.1 y.2.2.1 y.2.2.2.2.1 y.2.2.2.2.2.1 y.2.2.2.2.2.2.1⟩, ⟨regletref12_Next.j1_s, fun y => regletref12_Next.j1 k y.1 y.2.1 y.2.2.1 y.2.2.2.2.1 y.2.2.2.2.2.1 y.2.2.2.2.2.2.1⟩]
theorem regletref12_Next.j1_e (k : Nat) (y : denS regletref12_Next.j1_s) : regletref12_Next.j1 (k + 1) y.1 y.2.1 y.2.2.1 y.2.2.2.2.1 y.2.2.2.2.2.1 y.2.2.2.2.2.2.1 = evP ((regletref12_Next.G Try.prog).at (regletref12_Next.E k)) (fun i => (regletref12_Next.O k)[i]?) [1, 1, 0, 1, 0, 0, 1, 1] (cd Try.f33) regletref12_Next.H (kFin ((regletref12_Next.G Try.prog).at (regletref12_Next.E k)) [.tmp 8] [.c false (.i .i64)]) (unS regletref12_Next.j1_s y) := by rw [regletref12_Next.j1]; kernel_rfl
theorem regletref12_Next.l0_e (k : Nat) (y : denS regletref12_Next.l0_s) : regletref12_Next.l0 (k + 1) y.1 y.2.1 y.2.2.1 y.2.2.2.2.1 y.2.2.2.2.2.1 y.2.2.2.2.2.2.1 = evP ((regletref12_Next.G Try.prog).at (regletref12_Next.E k)) (fun i => (regletref12_Next.O k)[i]?) [1, 1, 0, 1, 0, 0] (cd Try.f33) regletref12_Next.H (kFin ((regletref12_Next.G Try.prog).at (regletref12_Next.E k)) [.tmp 8] [.c false (.i .i64)]) (unS regletref12_Next.l0_s y) := by rw [regletref12_Next.l0]; kernel_rfl
theorem regletref12_Next.go : goesTo Try.prog 33 := ⟨_, Try.func33, by kernel_rfl, rfl⟩
theorem regletref12_Next.ok (k : Nat) : SigOk Try.prog 33 (regletref12_Next.sig k) :=
  fn_p (G := regletref12_Next.G Try.prog) (c := cd Try.f33) (rs := [.tmp 8]) (args := [(false, y4), (false, (.i .i64)), (false, (.i .i64)), (true, y11)]) (l := [.c false (.i .i64)]) (fn := Try.f33) ⟨Try.func33, by kernel_rfl, by kernel_rfl, by kernel_rfl, le_of rfl, le_of rfl, TT_ok⟩ rfl regletref12_Next.E (fun k p hp => by
    simp only [regletref12_Next.E, List.mem_cons, List.not_mem_nil, or_false] at hp
    rcases hp with rfl | rfl
    · exact ⟨regletref12_Cut.ok k, regletref12_Cut.go⟩
    · exact ⟨regletref12_High.ok k, regletref12_High.go⟩)
    (fun k i => (regletref12_Next.O k)[i]?) regletref12_Next.H (fun k x => regletref12_Next.f k x.1 x.2.1 x.2.2.1 x.2.2.2.1)
    (fun id o y h => by
    have h' := List.mem_of_getElem? h
    simp only [regletref12_Next.O, List.mem_cons, List.not_mem_nil, or_false] at h'
    rcases h' with rfl | rfl <;> rfl)
    (fun k p hp => by
    rw [show pts (cd Try.f33) regletref12_Next.H = [(1, [1, 1, 0, 1, 0, 0, 1, 1]), (0, [1, 1, 0, 1, 0, 0])] by kernel_rfl] at hp
    simp only [List.mem_cons, List.not_mem_nil, or_false] at hp
    rcases hp with rfl | rfl
    · exact ptOk_of rfl (regletref12_Next.j1_e k)
    · exact ptOk_of rfl (regletref12_Next.l0_e k))
    (fun k x => by kernel_rfl) k
/-! reglet/regletref12.Paginate -/
mutual
def regletref12_Paginate.l0 : Nat → (List api_Slot) → Int → (List Int) → Int → api_Settings → Option (List Int)
  | 0, _, _, _, _, _ => none
  | k + 1, l, height, out, from_, set_ => if (decide (from_ < (l.length : Int))) = true then (if (out.length + ([from_] : List Int).length) * 8 ≤ 140737488355328 then ((regletref12_Next.f k l from_ height set_).bind fun r => regletref12_Paginate.l0 k l height (out ++ ([from_] : List Int)) r set_) else none) else (some out)
end
def regletref12_Paginate.f (k : Nat) (a0 : List api_Slot) (a1 : Int) (a2 : api_Settings) : Option (List Int) := regletref12_Paginate.l0 k a0 a1 ([] : List Int) 0 a2
def regletref12_Paginate.sig (k : Nat) : Sig := .p [(false, y4), (false, (.i .i64)), (true, y11)] [.c false y0] fun x => regletref12_Paginate.f k x.1 x.2.1 x.2.2.1
def regletref12_Paginate.E (k : Nat) : List (Nat × Sig) := [(33, regletref12_Next.sig k)]
def regletref12_Paginate.G (P : Program) : GI := ⟨P, TT, 23, 30, [(5, 23, 7)], [], [], [], []⟩
def regletref12_Paginate.H : H := .s .n (.s .n (.s (.s .n (.s (.l 0 .n) .n)) .n))
abbrev regletref12_Paginate.l0_s : Sh := [(0, .v y4), (1, .v (.i .i64)), (5, .at_ 23), (7, .v y0), (8, .v (.i .i64)), (23, .box y11)]
def regletref12_Paginate.O (k : Nat) : List (Orc (denR [.c false y0])) := [⟨regletref12_Paginate.l0_s, fun y => regletref12_Paginate.l0 k y.1 y.2.1 y.2.2.2.1 y.2.2.2.2.1 y.2.2.2.2.2.1⟩]
theorem regletref12_Paginate.l0_e (k : Nat) (y : denS regletref12_Paginate.l0_s) : regletref12_Paginate.l0 (k + 1) y.1 y.2.1 y.2.2.2.1 y.2.2.2.2.1 y.2.2.2.2.2.1 = evP ((regletref12_Paginate.G Try.prog).at (regletref12_Paginate.E k)) (fun i => (regletref12_Paginate.O k)[i]?) [1, 1, 0, 1, 0, 0] (cd Try.f16) regletref12_Paginate.H (kFin ((regletref12_Paginate.G Try.prog).at (regletref12_Paginate.E k)) [.tmp 6] [.c false y0]) (unS regletref12_Paginate.l0_s y) := by rw [regletref12_Paginate.l0]; kernel_rfl
theorem regletref12_Paginate.go : goesTo Try.prog 16 := ⟨_, Try.func16, by kernel_rfl, rfl⟩
theorem regletref12_Paginate.ok (k : Nat) : SigOk Try.prog 16 (regletref12_Paginate.sig k) :=
  fn_p (G := regletref12_Paginate.G Try.prog) (c := cd Try.f16) (rs := [.tmp 6]) (args := [(false, y4), (false, (.i .i64)), (true, y11)]) (l := [.c false y0]) (fn := Try.f16) ⟨Try.func16, by kernel_rfl, by kernel_rfl, by kernel_rfl, le_of rfl, le_of rfl, TT_ok⟩ rfl regletref12_Paginate.E (fun k p hp => by
    simp only [regletref12_Paginate.E, List.mem_cons, List.not_mem_nil, or_false] at hp
    rcases hp with rfl
    · exact ⟨regletref12_Next.ok k, regletref12_Next.go⟩)
    (fun k i => (regletref12_Paginate.O k)[i]?) regletref12_Paginate.H (fun k x => regletref12_Paginate.f k x.1 x.2.1 x.2.2.1)
    (fun id o y h => by
    have h' := List.mem_of_getElem? h
    simp only [regletref12_Paginate.O, List.mem_cons, List.not_mem_nil, or_false] at h'
    rcases h' with rfl <;> rfl)
    (fun k p hp => by
    rw [show pts (cd Try.f16) regletref12_Paginate.H = [(0, [1, 1, 0, 1, 0, 0])] by kernel_rfl] at hp
    simp only [List.mem_cons, List.not_mem_nil, or_false] at hp
    rcases hp with rfl
    · exact ptOk_of rfl (regletref12_Paginate.l0_e k))
    (fun k x => by kernel_rfl) k
/-! reglet/regletref13.Same -/
mutual
def regletref13_Same.l0 : Nat → (List api_Slot) → (List api_Slot) → Int → Option Bool
  | 0, _, _, _ => none
  | k + 1, a, b, i => if (decide (i < (a.length : Int))) = true then ((at? a i).bind fun e => (at? b i).bind fun e2 => if (!(decide (e.1 = e2.1) && (decide (e.2.1 = e2.2.1) && (decide (e.2.2.1 = e2.2.2.1) && (decide (e.2.2.2 = e2.2.2.2) && true))))) = true then (some false) else (regletref13_Same.l0 k a b (wrap64 (i + 1)))) else (some true)
end
def regletref13_Same.f (k : Nat) (a0 : List api_Slot) (a1 : List api_Slot) : Option Bool := if (!decide ((a0.length : Int) = (a1.length : Int))) = true then (some false) else (regletref13_Same.l0 k a0 a1 0)
def regletref13_Same.sig (k : Nat) : Sig := .p [(false, y4), (false, y4)] [.c false .b] fun x => regletref13_Same.f k x.1 x.2.1
def regletref13_Same.E (k : Nat) : List (Nat × Sig) := []
def regletref13_Same.G (P : Program) : GI := ⟨P, TT, 26, 26, [], [], [], [], []⟩
def regletref13_Same.H : H := .s .n (.s .n (.s (.s .n (.s (.l 0 .n) .n)) .n))
abbrev regletref13_Same.l0_s : Sh := [(0, .v y4), (1, .v y4), (5, .v (.i .i64))]
def regletref13_Same.O (k : Nat) : List (Orc (denR [.c false .b])) := [⟨regletref13_Same.l0_s, fun y => regletref13_Same.l0 k y.1 y.2.1 y.2.2.1⟩]
theorem regletref13_Same.l0_e (k : Nat) (y : denS regletref13_Same.l0_s) : regletref13_Same.l0 (k + 1) y.1 y.2.1 y.2.2.1 = evP ((regletref13_Same.G Try.prog).at (regletref13_Same.E k)) (fun i => (regletref13_Same.O k)[i]?) [1, 1, 0, 1, 0, 0] (cd Try.f17) regletref13_Same.H (kFin ((regletref13_Same.G Try.prog).at (regletref13_Same.E k)) [.tmp 4] [.c false .b]) (unS regletref13_Same.l0_s y) := by rw [regletref13_Same.l0]; kernel_rfl
theorem regletref13_Same.go : goesTo Try.prog 17 := ⟨_, Try.func17, by kernel_rfl, rfl⟩
theorem regletref13_Same.ok (k : Nat) : SigOk Try.prog 17 (regletref13_Same.sig k) :=
  fn_p (G := regletref13_Same.G Try.prog) (c := cd Try.f17) (rs := [.tmp 4]) (args := [(false, y4), (false, y4)]) (l := [.c false .b]) (fn := Try.f17) ⟨Try.func17, by kernel_rfl, by kernel_rfl, by kernel_rfl, le_of rfl, le_of rfl, TT_ok⟩ rfl regletref13_Same.E (fun k p hp => nomatch hp)
    (fun k i => (regletref13_Same.O k)[i]?) regletref13_Same.H (fun k x => regletref13_Same.f k x.1 x.2.1)
    (fun id o y h => by
    have h' := List.mem_of_getElem? h
    simp only [regletref13_Same.O, List.mem_cons, List.not_mem_nil, or_false] at h'
    rcases h' with rfl <;> rfl)
    (fun k p hp => by
    rw [show pts (cd Try.f17) regletref13_Same.H = [(0, [1, 1, 0, 1, 0, 0])] by kernel_rfl] at hp
    simp only [List.mem_cons, List.not_mem_nil, or_false] at hp
    rcases hp with rfl
    · exact ptOk_of rfl (regletref13_Same.l0_e k))
    (fun k x => by kernel_rfl) k
/-! (*reglet/repage.Book).Slots -/
def repage_Book_Slots.f (k : Nat) (a0 : List api_Slot × List Int × Int × Int × Int × Int × Int × Int × Int × Int) : Option (List api_Slot) := if (([] : List api_Slot).length + a0.1.length) * 32 ≤ 140737488355328 then (some (([] : List api_Slot) ++ a0.1)) else none
def repage_Book_Slots.sig (k : Nat) : Sig := .p [(false, y15)] [.c false y16] fun x => repage_Book_Slots.f k x.1
def repage_Book_Slots.E (k : Nat) : List (Nat × Sig) := []
def repage_Book_Slots.G (P : Program) : GI := ⟨P, TT, 9, 9, [], [], [], [], []⟩
def repage_Book_Slots.H : H := .n
def repage_Book_Slots.O (k : Nat) : List (Orc (denR [.c false y16])) := []
theorem repage_Book_Slots.go : goesTo Try.prog 18 := ⟨_, Try.func18, by kernel_rfl, rfl⟩
theorem repage_Book_Slots.ok (k : Nat) : SigOk Try.prog 18 (repage_Book_Slots.sig k) :=
  fn_p (G := repage_Book_Slots.G Try.prog) (c := cd Try.f18) (rs := [.tmp 2]) (args := [(false, y15)]) (l := [.c false y16]) (fn := Try.f18) ⟨Try.func18, by kernel_rfl, by kernel_rfl, by kernel_rfl, le_of rfl, le_of rfl, TT_ok⟩ rfl repage_Book_Slots.E (fun k p hp => nomatch hp)
    (fun k i => (repage_Book_Slots.O k)[i]?) repage_Book_Slots.H (fun k x => repage_Book_Slots.f k x.1)
    (fun id o y h => by cases id <;> cases h)
    (fun k p hp => by rw [show pts (cd Try.f18) repage_Book_Slots.H = [] by kernel_rfl] at hp; nomatch hp)
    (fun k x => by kernel_rfl) k
/-! reglet/regletlaw13.RepageBegins -/
mutual
def regletlaw13_RepageBegins.j0 : Nat → (Option (List api_Slot × List Int × Int × Int × Int × Int × Int × Int × Int × Int)) → (List api_Slot × Int × Int × Int × Int × Int × Int × Int × Int) → Option Bool
  | 0, _, _ => none
  | k + 1, b, s => optK b (some true) fun p2 => (repage_Book_Starts.f k p2).bind fun r5 => (regletref12_Paginate.f k s.1 s.2.1 s.2.2).bind fun r6 => (regletref12_Same.f k r5 r6).bind fun r7 => if r7 = true then ((repage_Book_Slots.f k p2).bind fun r8 => (regletref13_Same.f k r8 s.1).bind fun r9 => some r9) else (some false)
end
def regletlaw13_RepageBegins.f (k : Nat) (a0 : List api_Slot × Int × Int × Int × Int × Int × Int × Int × Int) : Option Bool := (regletlaw13_awake.f k).bind fun r => if (!r) = true then (some false) else (if (decide (150 < (a0.1.length : Int))) = true then (some true) else ((repage_New.f k a0.1 a0.2.1 a0.2.2).bind fun r2 => optK r2.1 ((pages_Paginate.f k a0.1 a0.2.1 a0.2.2).bind fun r3 => if (!decide (r2.2 = r3.2)) = true then (some false) else (if (!decide (true = (!decide (r2.2 = 0)))) = true then (some false) else (regletlaw13_RepageBegins.j0 k none a0))) fun p => (pages_Paginate.f k a0.1 a0.2.1 a0.2.2).bind fun r4 => if (!decide (r2.2 = r4.2)) = true then (some false) else (if (!decide (false = (!decide (r2.2 = 0)))) = true then (some false) else (regletlaw13_RepageBegins.j0 k (some p) a0))))
def regletlaw13_RepageBegins.sig (k : Nat) : Sig := .p [(true, y22)] [.c false .b] fun x => regletlaw13_RepageBegins.f k x.1
def regletlaw13_RepageBegins.E (k : Nat) : List (Nat × Sig) := [(8, regletlaw13_awake.sig k), (11, repage_Book_Starts.sig k), (13, repage_New.sig k), (14, pages_Paginate.sig k), (15, regletref12_Same.sig k), (16, regletref12_Paginate.sig k), (17, regletref13_Same.sig k), (18, repage_Book_Slots.sig k)]
def regletlaw13_RepageBegins.G (P : Program) : GI := ⟨P, TT, 64, 73, [(1, 64, 9)], [], [], [], []⟩
def regletlaw13_RepageBegins.H : H := .s .n (.s .n (.s .n (.s .n (.s .n (.j 0 (.s (.f 3 .n) .n) (.s (.p 3 .n) .n))))))
abbrev regletlaw13_RepageBegins.j0_s : Sh := [(1, .at_ 64), (3, .opt y28), (64, .box y22)]
def regletlaw13_RepageBegins.O (k : Nat) : List (Orc (denR [.c false .b])) := [⟨regletlaw13_RepageBegins.j0_s, fun y => regletlaw13_RepageBegins.j0 k y.2.1 y.2.2.1⟩]
theorem regletlaw13_RepageBegins.j0_e (k : Nat) (y : denS regletlaw13_RepageBegins.j0_s) : regletlaw13_RepageBegins.j0 (k + 1) y.2.1 y.2.2.1 = evP ((regletlaw13_RepageBegins.G Try.prog).at (regletlaw13_RepageBegins.E k)) (fun i => (regletlaw13_RepageBegins.O k)[i]?) [1, 1, 1, 1, 1, 1] (cd Try.f5) regletlaw13_RepageBegins.H (kFin ((regletlaw13_RepageBegins.G Try.prog).at (regletlaw13_RepageBegins.E k)) [.tmp 2] [.c false .b]) (unS regletlaw13_RepageBegins.j0_s y) := by rw [regletlaw13_RepageBegins.j0]; kernel_rfl
theorem regletlaw13_RepageBegins.go : goesTo Try.prog 5 := ⟨_, Try.func5, by kernel_rfl, rfl⟩
theorem regletlaw13_RepageBegins.ok (k : Nat) : SigOk Try.prog 5 (regletlaw13_RepageBegins.sig k) :=
  fn_p (G := regletlaw13_RepageBegins.G Try.prog) (c := cd Try.f5) (rs := [.tmp 2]) (args := [(true, y22)]) (l := [.c false .b]) (fn := Try.f5) ⟨Try.func5, by kernel_rfl, by kernel_rfl, by kernel_rfl, le_of rfl, le_of rfl, TT_ok⟩ rfl regletlaw13_RepageBegins.E (fun k p hp => by
    simp only [regletlaw13_RepageBegins.E, List.mem_cons, List.not_mem_nil, or_false] at hp
    rcases hp with rfl | rfl | rfl | rfl | rfl | rfl | rfl | rfl
    · exact ⟨regletlaw13_awake.ok k, regletlaw13_awake.go⟩
    · exact ⟨repage_Book_Starts.ok k, repage_Book_Starts.go⟩
    · exact ⟨repage_New.ok k, repage_New.go⟩
    · exact ⟨pages_Paginate.ok k, pages_Paginate.go⟩
    · exact ⟨regletref12_Same.ok k, regletref12_Same.go⟩
    · exact ⟨regletref12_Paginate.ok k, regletref12_Paginate.go⟩
    · exact ⟨regletref13_Same.ok k, regletref13_Same.go⟩
    · exact ⟨repage_Book_Slots.ok k, repage_Book_Slots.go⟩)
    (fun k i => (regletlaw13_RepageBegins.O k)[i]?) regletlaw13_RepageBegins.H (fun k x => regletlaw13_RepageBegins.f k x.1)
    (fun id o y h => by
    have h' := List.mem_of_getElem? h
    simp only [regletlaw13_RepageBegins.O, List.mem_cons, List.not_mem_nil, or_false] at h'
    rcases h' with rfl <;> rfl)
    (fun k p hp => by
    rw [show pts (cd Try.f5) regletlaw13_RepageBegins.H = [(0, [1, 1, 1, 1, 1, 1])] by kernel_rfl] at hp
    simp only [List.mem_cons, List.not_mem_nil, or_false] at hp
    rcases hp with rfl
    · exact ptOk_of rfl (regletlaw13_RepageBegins.j0_e k))
    (fun k x => by kernel_rfl) k
/-! (*reglet/repage.Book).Copy -/
def repage_Book_Copy.f (k : Nat) (a0 : List api_Slot × List Int × Int × Int × Int × Int × Int × Int × Int × Int) : Option ((Option (List api_Slot × List Int × Int × Int × Int × Int × Int × Int × Int × Int))) := (repage_Book_Slots.f k a0).bind fun r => (repage_Book_Starts.f k a0).bind fun r2 => some (some (r, r2, a0.2.2.1, a0.2.2.2.1, a0.2.2.2.2.1, a0.2.2.2.2.2.1, a0.2.2.2.2.2.2.1, a0.2.2.2.2.2.2.2.1, a0.2.2.2.2.2.2.2.2.1, a0.2.2.2.2.2.2.2.2.2))
def repage_Book_Copy.sig (k : Nat) : Sig := .p [(false, y15)] [.o y18] fun x => repage_Book_Copy.f k x.1
def repage_Book_Copy.E (k : Nat) : List (Nat × Sig) := [(11, repage_Book_Starts.sig k), (18, repage_Book_Slots.sig k)]
def repage_Book_Copy.G (P : Program) : GI := ⟨P, TT, 17, 27, [(16, 17, 10)], [], [], [], []⟩
def repage_Book_Copy.H : H := .n
def repage_Book_Copy.O (k : Nat) : List (Orc (denR [.o y18])) := []
theorem repage_Book_Copy.go : goesTo Try.prog 19 := ⟨_, Try.func19, by kernel_rfl, rfl⟩
theorem repage_Book_Copy.ok (k : Nat) : SigOk Try.prog 19 (repage_Book_Copy.sig k) :=
  fn_p (G := repage_Book_Copy.G Try.prog) (c := cd Try.f19) (rs := [.tmp 2]) (args := [(false, y15)]) (l := [.o y18]) (fn := Try.f19) ⟨Try.func19, by kernel_rfl, by kernel_rfl, by kernel_rfl, le_of rfl, le_of rfl, TT_ok⟩ rfl repage_Book_Copy.E (fun k p hp => by
    simp only [repage_Book_Copy.E, List.mem_cons, List.not_mem_nil, or_false] at hp
    rcases hp with rfl | rfl
    · exact ⟨repage_Book_Starts.ok k, repage_Book_Starts.go⟩
    · exact ⟨repage_Book_Slots.ok k, repage_Book_Slots.go⟩)
    (fun k i => (repage_Book_Copy.O k)[i]?) repage_Book_Copy.H (fun k x => repage_Book_Copy.f k x.1)
    (fun id o y h => by cases id <;> cases h)
    (fun k p hp => by rw [show pts (cd Try.f19) repage_Book_Copy.H = [] by kernel_rfl] at hp; nomatch hp)
    (fun k x => by kernel_rfl) k
/-! reglet/regletlaw13.RepageBack -/
mutual
def regletlaw13_RepageBack.j0 : Nat → (Int × Int × List api_Slot × Int) → (List api_Slot × Int × Int × Int × Int × Int × Int × Int × Int) → (List api_Slot × List Int × Int × Int × Int × Int × Int × Int × Int × Int) → Option Bool
  | 0, _, _, _ => none
  | k + 1, t, t2, t3 => if (!decide (t.2.2.2 = 0)) = true then (some true) else (if (decide (60 < (t.2.2.1.length : Int))) = true then (some true) else ((regletref13_May.f k t2 t.1 t.2.1 t.2.2.1).bind fun r3 => if (!r3) = true then (some true) else (regletlaw13_RepageBack.j1 k t t2 t3)))
def regletlaw13_RepageBack.j1 : Nat → (Int × Int × List api_Slot × Int) → (List api_Slot × Int × Int × Int × Int × Int × Int × Int × Int) → (List api_Slot × List Int × Int × Int × Int × Int × Int × Int × Int × Int) → Option Bool
  | 0, _, _, _ => none
  | k + 1, t4, t5, t6 => (repage_Book_Starts.f k t6).bind fun r4 => (repage_Book_Copy.f k t6).bind fun r5 => optK r5 (some false) fun p2 => if 0 ≤ t4.1 ∧ t4.1 ≤ (wrap64 (t4.1 + t4.2.1)) ∧ (wrap64 (t4.1 + t4.2.1)) ≤ (t5.1.length : Int) then (if (([] : List api_Slot).length + ((t5.1.drop t4.1.toNat).take ((wrap64 (t4.1 + t4.2.1)).toNat - t4.1.toNat)).length) * 32 ≤ 140737488355328 then ((repage_Book_Replace.f k t6 t4.1 t4.2.1 t4.2.2.1).bind fun r6 => if (!decide (r6.2.2.1 = 0)) = true then (some false) else ((repage_Book_Starts.f k p2).bind fun r7 => (regletref12_Same.f k r7 r4).bind fun r8 => if (!r8) = true then (some false) else (regletlaw13_RepageBack.j2 k r4 (([] : List api_Slot) ++ ((t5.1.drop t4.1.toNat).take ((wrap64 (t4.1 + t4.2.1)).toNat - t4.1.toNat))) t4 t5 r6.2.2.2))) else none) else none
def regletlaw13_RepageBack.j2 : Nat → (List Int) → (List api_Slot) → (Int × Int × List api_Slot × Int) → (List api_Slot × Int × Int × Int × Int × Int × Int × Int × Int) → (List api_Slot × List Int × Int × Int × Int × Int × Int × Int × Int × Int) → Option Bool
  | 0, _, _, _, _, _ => none
  | k + 1, t7, t8, t9, t10, t11 => (repage_Book_Replace.f k t11 t9.1 (t9.2.2.1.length : Int) t8).bind fun r9 => if (decide (r9.2.2.1 = 0)) = true then ((repage_Book_Starts.f k r9.2.2.2).bind fun r10 => (regletref12_Same.f k r10 t7).bind fun r11 => if r11 = true then ((repage_Book_Slots.f k r9.2.2.2).bind fun r12 => (regletref13_Same.f k r12 t10.1).bind fun r13 => some r13) else (some false)) else (some false)
end
def regletlaw13_RepageBack.f (k : Nat) (a0 : List api_Slot × Int × Int × Int × Int × Int × Int × Int × Int) (a1 : Int × Int × List api_Slot × Int) : Option Bool := (regletlaw13_awake.f k).bind fun r => if (!r) = true then (some false) else ((regletlaw13_begun.f k a0).bind fun r2 => optK r2.1 (if (!r2.2.2) = true then (some (!r2.2.2)) else (some (!r2.2.2))) fun p => if (!r2.2.2) = true then (some (!r2.2.2)) else (regletlaw13_RepageBack.j0 k a1 r2.2.1 p))
def regletlaw13_RepageBack.sig (k : Nat) : Sig := .p [(true, y22), (true, y25)] [.c false .b] fun x => regletlaw13_RepageBack.f k x.1 x.2.1
def regletlaw13_RepageBack.E (k : Nat) : List (Nat × Sig) := [(8, regletlaw13_awake.sig k), (9, regletlaw13_begun.sig k), (10, regletref13_May.sig k), (11, repage_Book_Starts.sig k), (12, repage_Book_Replace.sig k), (15, regletref12_Same.sig k), (17, regletref13_Same.sig k), (18, repage_Book_Slots.sig k), (19, repage_Book_Copy.sig k)]
def regletlaw13_RepageBack.G (P : Program) : GI := ⟨P, TT, 119, 161, [(2, 119, 9), (3, 128, 4), (6, 132, 9), (5, 141, 10), (9, 151, 10)], [], [], [], []⟩
def regletlaw13_RepageBack.H : H := .s .n (.s .n (.s .n (.j 0 (.s (.o 5 .n) .n) (.j 1 .n (.s .n (.s .n (.s (.s (.o 9 .n) .n) (.s .n (.j 2 .n .n)))))))))
abbrev regletlaw13_RepageBack.j0_s : Sh := [(3, .at_ 128), (5, .at_ 141), (6, .at_ 132), (128, .box y25), (132, .box y19), (141, .box y18)]
abbrev regletlaw13_RepageBack.j1_s : Sh := [(3, .at_ 128), (5, .at_ 141), (6, .at_ 132), (128, .box y25), (132, .box y19), (141, .box y18)]
abbrev regletlaw13_RepageBack.j2_s : Sh := [(3, .at_ 128), (5, .at_ 141), (6, .at_ 132), (8, .v y0), (10, .v y16), (128, .box y25), (132, .box y19), (141, .box y18)]
def regletlaw13_RepageBack.O (k : Nat) : List (Orc (denR [.c false .b])) := [⟨regletlaw13_RepageBack.j0_s, fun y => regletlaw13_RepageBack.j0 k y.2.2.2.1 y.2.2.2.2.1 y.2.2.2.2.2.1⟩, ⟨regletlaw13_RepageBack.j1_s, fun y => regletlaw13_RepageBack.j1 k y.2.2.2.1 y.2.2.2.2.1 y.2.2.2.2.2.1⟩, ⟨regletlaw13_RepageBack.j2_s, fun y => regletlaw13_RepageBack.j2 k y.2.2.2.1 y.2.2.2.2.1 y.2.2.2.2.2.1 y.2.2.2.2.2.2.1 y.2.2.2.2.2.2.2.1⟩]
theorem regletlaw13_RepageBack.j2_e (k : Nat) (y : denS regletlaw13_RepageBack.j2_s) : regletlaw13_RepageBack.j2 (k + 1) y.2.2.2.1 y.2.2.2.2.1 y.2.2.2.2.2.1 y.2.2.2.2.2.2.1 y.2.2.2.2.2.2.2.1 = evP ((regletlaw13_RepageBack.G Try.prog).at (regletlaw13_RepageBack.E k)) (fun i => (regletlaw13_RepageBack.O k)[i]?) [1, 1, 1, 1, 1, 1, 1, 1, 1, 1] (cd Try.f6) regletlaw13_RepageBack.H (kFin ((regletlaw13_RepageBack.G Try.prog).at (regletlaw13_RepageBack.E k)) [.tmp 4] [.c false .b]) (unS regletlaw13_RepageBack.j2_s y) := by rw [regletlaw13_RepageBack.j2]; kernel_rfl
theorem regletlaw13_RepageBack.j1_e (k : Nat) (y : denS regletlaw13_RepageBack.j1_s) : regletlaw13_RepageBack.j1 (k + 1) y.2.2.2.1 y.2.2.2.2.1 y.2.2.2.2.2.1 = evP ((regletlaw13_RepageBack.G Try.prog).at (regletlaw13_RepageBack.E k)) (fun i => (regletlaw13_RepageBack.O k)[i]?) [1, 1, 1, 1, 1] (cd Try.f6) regletlaw13_RepageBack.H (kFin ((regletlaw13_RepageBack.G Try.prog).at (regletlaw13_RepageBack.E k)) [.tmp 4] [.c false .b]) (unS regletlaw13_RepageBack.j1_s y) := by rw [regletlaw13_RepageBack.j1]; kernel_rfl
theorem regletlaw13_RepageBack.j0_e (k : Nat) (y : denS regletlaw13_RepageBack.j0_s) : regletlaw13_RepageBack.j0 (k + 1) y.2.2.2.1 y.2.2.2.2.1 y.2.2.2.2.2.1 = evP ((regletlaw13_RepageBack.G Try.prog).at (regletlaw13_RepageBack.E k)) (fun i => (regletlaw13_RepageBack.O k)[i]?) [1, 1, 1, 1] (cd Try.f6) regletlaw13_RepageBack.H (kFin ((regletlaw13_RepageBack.G Try.prog).at (regletlaw13_RepageBack.E k)) [.tmp 4] [.c false .b]) (unS regletlaw13_RepageBack.j0_s y) := by rw [regletlaw13_RepageBack.j0]; kernel_rfl
theorem regletlaw13_RepageBack.go : goesTo Try.prog 6 := ⟨_, Try.func6, by kernel_rfl, rfl⟩
theorem regletlaw13_RepageBack.ok (k : Nat) : SigOk Try.prog 6 (regletlaw13_RepageBack.sig k) :=
  fn_p (G := regletlaw13_RepageBack.G Try.prog) (c := cd Try.f6) (rs := [.tmp 4]) (args := [(true, y22), (true, y25)]) (l := [.c false .b]) (fn := Try.f6) ⟨Try.func6, by kernel_rfl, by kernel_rfl, by kernel_rfl, le_of rfl, le_of rfl, TT_ok⟩ rfl regletlaw13_RepageBack.E (fun k p hp => by
    simp only [regletlaw13_RepageBack.E, List.mem_cons, List.not_mem_nil, or_false] at hp
    rcases hp with rfl | rfl | rfl | rfl | rfl | rfl | rfl | rfl | rfl
    · exact ⟨regletlaw13_awake.ok k, regletlaw13_awake.go⟩
    · exact ⟨regletlaw13_begun.ok k, regletlaw13_begun.go⟩
    · exact ⟨regletref13_May.ok k, regletref13_May.go⟩
    · exact ⟨repage_Book_Starts.ok k, repage_Book_Starts.go⟩
    · exact ⟨repage_Book_Replace.ok k, repage_Book_Replace.go⟩
    · exact ⟨regletref12_Same.ok k, regletref12_Same.go⟩
    · exact ⟨regletref13_Same.ok k, regletref13_Same.go⟩
    · exact ⟨repage_Book_Slots.ok k, repage_Book_Slots.go⟩
    · exact ⟨repage_Book_Copy.ok k, repage_Book_Copy.go⟩)
    (fun k i => (regletlaw13_RepageBack.O k)[i]?) regletlaw13_RepageBack.H (fun k x => regletlaw13_RepageBack.f k x.1 x.2.1)
    (fun id o y h => by
    have h' := List.mem_of_getElem? h
    simp only [regletlaw13_RepageBack.O, List.mem_cons, List.not_mem_nil, or_false] at h'
    rcases h' with rfl | rfl | rfl <;> rfl)
    (fun k p hp => by
    rw [show pts (cd Try.f6) regletlaw13_RepageBack.H = [(2, [1, 1, 1, 1, 1, 1, 1, 1, 1, 1]), (1, [1, 1, 1, 1, 1]), (0, [1, 1, 1, 1])] by kernel_rfl] at hp
    simp only [List.mem_cons, List.not_mem_nil, or_false] at hp
    rcases hp with rfl | rfl | rfl
    · exact ptOk_of rfl (regletlaw13_RepageBack.j2_e k)
    · exact ptOk_of rfl (regletlaw13_RepageBack.j1_e k)
    · exact ptOk_of rfl (regletlaw13_RepageBack.j0_e k))
    (fun k x => by kernel_rfl) k
end Go.Proofs.Ytnlocbjojbgdcaa.Vm
