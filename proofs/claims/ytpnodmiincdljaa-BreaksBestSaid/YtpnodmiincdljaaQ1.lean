-- PRINTED by vq.py. Not trusted: Lean checks it.
import Derived.Test.YtpnodmiincdljaaQa
namespace Go.Proofs.Ytpnodmiincdljaa.Vm
open Go
open _root_.Go.RowKit (wrap64)
set_option maxRecDepth 100000
set_option linter.unusedVariables false
/-! reglet/regletref09.all -/
mutual
def regletref09_all.l0 : Nat → (List api_Item) → (List Int) → Int → Bool → (List Int) → Int → Int → api_Settings → api_Breaking → api_Breaking → Option api_Breaking
  | 0, _, _, _, _, _, _, _, _, _, _ => none
  | k + 1, t, t2, t3, t4, t5, t6, t7, t8, t9, t10 => if (decide (t7 < (t5.length : Int))) = true then ((regletref09_Does.f k t t5 t6 t7 t3 t8 t4).bind fun r2 => if r2 = true then (if (([] : List Int).length + t2.length) * 8 ≤ 140737488355328 then (if 0 ≤ t7 ∧ t7 < (t5.length : Int) then ((t5[t7.toNat]?).bind fun e => if ((([] : List Int) ++ t2).length + ([e] : List Int).length) * 8 ≤ 140737488355328 then (if (decide (t7 = (wrap64 ((t5.length : Int) - 1)))) = true then ((regletref09_Price.f k t ((([] : List Int) ++ t2) ++ ([e] : List Int)) t3 t8 t4).bind fun r3 => if r3.2 = true then (if (!t9.2.2) = true then (regletref09_all.j1 k t t2 t3 t4 t5 t6 t7 t8 ((([] : List Int) ++ t2) ++ ([e] : List Int), r3.1, (true)) t10) else (if (decide (r3.1 < t9.2.1)) = true then (regletref09_all.j1 k t t2 t3 t4 t5 t6 t7 t8 ((([] : List Int) ++ t2) ++ ([e] : List Int), r3.1, (true)) t10) else (regletref09_all.j1 k t t2 t3 t4 t5 t6 t7 t8 t9 t10))) else (regletref09_all.j1 k t t2 t3 t4 t5 t6 t7 t8 t9 t10)) else ((regletref09_all.f k t ((([] : List Int) ++ t2) ++ ([e] : List Int)) (wrap64 (t7 + 1)) t3 t8 t4 t9).bind fun r4 => regletref09_all.j1 k t t2 t3 t4 t5 t6 t7 t8 r4 t10)) else none) else none) else none) else (regletref09_all.j1 k t t2 t3 t4 t5 t6 t7 t8 t9 t10)) else (some t9)
def regletref09_all.j1 : Nat → (List api_Item) → (List Int) → Int → Bool → (List Int) → Int → Int → api_Settings → api_Breaking → api_Breaking → Option api_Breaking
  | 0, _, _, _, _, _, _, _, _, _, _ => none
  | k + 1, t11, t12, t13, t14, t15, t16, t17, t18, t19, t20 => if 0 ≤ t17 ∧ t17 < (t15.length : Int) then ((t15[t17.toNat]?).bind fun e2 => (at? t11 e2).bind fun e3 => (regletref07_Forced.f k e3).bind fun r5 => if r5 = true then (some t19) else (regletref09_all.l0 k t11 t12 t13 t14 t15 t16 (wrap64 (t17 + 1)) t18 t19 t20)) else none
def regletref09_all.f : Nat → (List api_Item) → (List Int) → Int → Int → api_Settings → Bool → api_Breaking → Option api_Breaking
  | 0, _, _, _, _, _, _, _ => none
  | k + 1, a0, a1, a2, a3, a4, a5, a6 => (regletref08_Legal.f k a0).bind fun r => regletref09_all.l0 k a0 a1 a3 a5 r (wrap64 (a2 - 1)) a2 a4 a6 (([] : List Int), 0, (false))
end
def regletref09_all.sig (k : Nat) : Sig := .p [(false, y32), (false, y33), (false, (.i .i64)), (false, (.i .i64)), (true, y22), (false, .b), (true, y76)] [.c true y76] fun x => regletref09_all.f k x.1 x.2.1 x.2.2.1 x.2.2.2.1 x.2.2.2.2.1 x.2.2.2.2.2.1 x.2.2.2.2.2.2.1
def regletref09_all.E (k : Nat) : List (Nat × Sig) := [(18, regletref08_Legal.sig k), (19, regletref09_Price.sig k), (21, regletref07_Forced.sig k), (32, regletref09_all.sig k), (39, regletref09_Does.sig k)]
def regletref09_all.G (P : Program) : GI := ⟨P, TT, 97, 110, [(11, 97, 7), (13, 104, 3), (14, 107, 3)], [], [], [], [], AD⟩
def regletref09_all.H : H := .s .n (.s .n (.s .n (.s (.s .n (.s (.l 0 (.s .n (.s (.s (.j 1 (.s .n (.s (.s .n (.s .n (.s .n (.f 18 .n)))) .n)) .n) .n) .n))) .n)) .n)))
abbrev regletref09_all.l0_s : Sh := [(0, .v y32), (1, .v y33), (3, .v (.i .i64)), (5, .v .b), (11, .at_ 97), (13, .at_ 104), (14, .at_ 107), (15, .v y9), (16, .v (.i .i64)), (17, .v (.i .i64)), (97, .box y22), (104, .box y76), (107, .box y74)]
abbrev regletref09_all.j1_s : Sh := [(0, .v y32), (1, .v y33), (3, .v (.i .i64)), (5, .v .b), (11, .at_ 97), (13, .at_ 104), (14, .at_ 107), (15, .v y9), (16, .v (.i .i64)), (17, .v (.i .i64)), (97, .box y22), (104, .box y76), (107, .box y74)]
def regletref09_all.O (k : Nat) : List (Orc (denR [.c true y76])) := [⟨regletref09_all.l0_s, fun y => regletref09_all.l0 k y.1 y.2.1 y.2.2.1 y.2.2.2.1 y.2.2.2.2.2.2.2.1 y.2.2.2.2.2.2.2.2.1 y.2.2.2.2.2.2.2.2.2.1 y.2.2.2.2.2.2.2.2.2.2.1 y.2.2.2.2.2.2.2.2.2.2.2.1 y.2.2.2.2.2.2.2.2.2.2.2.2.1⟩, ⟨regletref09_all.j1_s, fun y => regletref09_all.j1 k y.1 y.2.1 y.2.2.1 y.2.2.2.1 y.2.2.2.2.2.2.2.1 y.2.2.2.2.2.2.2.2.1 y.2.2.2.2.2.2.2.2.2.1 y.2.2.2.2.2.2.2.2.2.2.1 y.2.2.2.2.2.2.2.2.2.2.2.1 y.2.2.2.2.2.2.2.2.2.2.2.2.1⟩]
theorem regletref09_all.j1_e (k : Nat) (y : denS regletref09_all.j1_s) : regletref09_all.j1 (k + 1) y.1 y.2.1 y.2.2.1 y.2.2.2.1 y.2.2.2.2.2.2.2.1 y.2.2.2.2.2.2.2.2.1 y.2.2.2.2.2.2.2.2.2.1 y.2.2.2.2.2.2.2.2.2.2.1 y.2.2.2.2.2.2.2.2.2.2.2.1 y.2.2.2.2.2.2.2.2.2.2.2.2.1 = evP ((regletref09_all.G Try.prog).at (regletref09_all.E k)) (fun i => (regletref09_all.O k)[i]?) [1, 1, 1, 0, 1, 0, 0, 1, 0, 0, 1] (cd Try.f32) regletref09_all.H (kFin ((regletref09_all.G Try.prog).at (regletref09_all.E k)) [.cell 14 65] [.c true y76]) (unS regletref09_all.j1_s y) := by rw [regletref09_all.j1]; kernel_rfl
theorem regletref09_all.l0_e (k : Nat) (y : denS regletref09_all.l0_s) : regletref09_all.l0 (k + 1) y.1 y.2.1 y.2.2.1 y.2.2.2.1 y.2.2.2.2.2.2.2.1 y.2.2.2.2.2.2.2.2.1 y.2.2.2.2.2.2.2.2.2.1 y.2.2.2.2.2.2.2.2.2.2.1 y.2.2.2.2.2.2.2.2.2.2.2.1 y.2.2.2.2.2.2.2.2.2.2.2.2.1 = evP ((regletref09_all.G Try.prog).at (regletref09_all.E k)) (fun i => (regletref09_all.O k)[i]?) [1, 1, 1, 0, 1, 0, 0] (cd Try.f32) regletref09_all.H (kFin ((regletref09_all.G Try.prog).at (regletref09_all.E k)) [.cell 14 65] [.c true y76]) (unS regletref09_all.l0_s y) := by rw [regletref09_all.l0]; kernel_rfl
theorem regletref09_all.go : goesTo Try.prog 32 := ⟨_, Try.func32, by kernel_rfl, rfl⟩
theorem regletref09_all.ok (k : Nat) : SigOk Try.prog 32 (regletref09_all.sig k) :=
  fn_r (G := regletref09_all.G Try.prog) (c := cd Try.f32) (rs := [.cell 14 65]) (args := [(false, y32), (false, y33), (false, (.i .i64)), (false, (.i .i64)), (true, y22), (false, .b), (true, y76)]) (l := [.c true y76]) (fn := Try.f32) ⟨Try.func32, by kernel_rfl, by kernel_rfl, by kernel_rfl, le_of rfl, le_of rfl, TT_ok, AD_ok⟩ rfl regletref09_all.E
    (fun k i => (regletref09_all.O k)[i]?) regletref09_all.H (fun k x => regletref09_all.f k x.1 x.2.1 x.2.2.1 x.2.2.2.1 x.2.2.2.2.1 x.2.2.2.2.2.1 x.2.2.2.2.2.2.1) (fun k hself p hp => by
    simp only [regletref09_all.E, List.mem_cons, List.not_mem_nil, or_false] at hp
    rcases hp with rfl | rfl | rfl | rfl | rfl
    · exact ⟨regletref08_Legal.ok k, regletref08_Legal.go⟩
    · exact ⟨regletref09_Price.ok k, regletref09_Price.go⟩
    · exact ⟨regletref07_Forced.ok k, regletref07_Forced.go⟩
    · exact ⟨hself, regletref09_all.go⟩
    · exact ⟨regletref09_Does.ok k, regletref09_Does.go⟩)
    (fun id o y h => by
    have h' := List.mem_of_getElem? h
    simp only [regletref09_all.O, List.mem_cons, List.not_mem_nil, or_false] at h'
    rcases h' with rfl | rfl <;> rfl)
    (fun k p hp => by
    rw [show pts (cd Try.f32) regletref09_all.H = [(1, [1, 1, 1, 0, 1, 0, 0, 1, 0, 0, 1]), (0, [1, 1, 1, 0, 1, 0, 0])] by kernel_rfl] at hp
    simp only [List.mem_cons, List.not_mem_nil, or_false] at hp
    rcases hp with rfl | rfl
    · exact ptOk_of rfl (regletref09_all.j1_e k)
    · exact ptOk_of rfl (regletref09_all.l0_e k))
    (fun x => by rw [regletref09_all.f]) (fun k x => by rw [regletref09_all.f]; kernel_rfl) k
/-! reglet/regletref09.Break -/
mutual
def regletref09_Break.j0 : Nat → Bool → api_Breaking → api_Breaking → Option api_Breaking
  | 0, _, _, _ => none
  | k + 1, emergency, t, best => some (best.1, best.2.1, emergency)
end
def regletref09_Break.f (k : Nat) (a0 : List api_Item) (a1 : Int) (a2 : api_Settings) : Option api_Breaking := (regletref09_all.f k a0 ([] : List Int) 0 a1 a2 false (([] : List Int), 0, (false))).bind fun r => if (!r.2.2) = true then ((regletref09_all.f k a0 ([] : List Int) 0 a1 a2 true (([] : List Int), 0, (false))).bind fun r2 => regletref09_Break.j0 k (!r.2.2) (([] : List Int), 0, (false)) r2) else (regletref09_Break.j0 k (!r.2.2) (([] : List Int), 0, (false)) r)
def regletref09_Break.sig (k : Nat) : Sig := .p [(false, y32), (false, (.i .i64)), (true, y22)] [.c true y76] fun x => regletref09_Break.f k x.1 x.2.1 x.2.2.1
def regletref09_Break.E (k : Nat) : List (Nat × Sig) := [(32, regletref09_all.sig k)]
def regletref09_Break.G (P : Program) : GI := ⟨P, TT, 29, 42, [(5, 29, 7), (6, 36, 3), (7, 39, 3)], [], [], [], [], AD⟩
def regletref09_Break.H : H := .s .n (.s (.q 4 12 .n) (.s .n (.j 0 (.s .n (.s (.q 4 21 .n) .n)) .n)))
abbrev regletref09_Break.j0_s : Sh := [(6, .at_ 36), (7, .at_ 39), (8, .v .b), (36, .box y74), (39, .box y76)]
def regletref09_Break.O (k : Nat) : List (Orc (denR [.c true y76])) := [⟨regletref09_Break.j0_s, fun y => regletref09_Break.j0 k y.2.2.1 y.2.2.2.1 y.2.2.2.2.1⟩]
theorem regletref09_Break.j0_e (k : Nat) (y : denS regletref09_Break.j0_s) : regletref09_Break.j0 (k + 1) y.2.2.1 y.2.2.2.1 y.2.2.2.2.1 = evP ((regletref09_Break.G Try.prog).at (regletref09_Break.E k)) (fun i => (regletref09_Break.O k)[i]?) [1, 1, 1, 1] (cd Try.f16) regletref09_Break.H (kFin ((regletref09_Break.G Try.prog).at (regletref09_Break.E k)) [.cell 6 31] [.c true y76]) (unS regletref09_Break.j0_s y) := by rw [regletref09_Break.j0]; kernel_rfl
theorem regletref09_Break.go : goesTo Try.prog 16 := ⟨_, Try.func16, by kernel_rfl, rfl⟩
theorem regletref09_Break.ok (k : Nat) : SigOk Try.prog 16 (regletref09_Break.sig k) :=
  fn_p (G := regletref09_Break.G Try.prog) (c := cd Try.f16) (rs := [.cell 6 31]) (args := [(false, y32), (false, (.i .i64)), (true, y22)]) (l := [.c true y76]) (fn := Try.f16) ⟨Try.func16, by kernel_rfl, by kernel_rfl, by kernel_rfl, le_of rfl, le_of rfl, TT_ok, AD_ok⟩ rfl regletref09_Break.E (fun k p hp => by
    simp only [regletref09_Break.E, List.mem_cons, List.not_mem_nil, or_false] at hp
    rcases hp with rfl
    · exact ⟨regletref09_all.ok k, regletref09_all.go⟩)
    (fun k i => (regletref09_Break.O k)[i]?) regletref09_Break.H (fun k x => regletref09_Break.f k x.1 x.2.1 x.2.2.1)
    (fun id o y h => by
    have h' := List.mem_of_getElem? h
    simp only [regletref09_Break.O, List.mem_cons, List.not_mem_nil, or_false] at h'
    rcases h' with rfl <;> rfl)
    (fun k p hp => by
    rw [show pts (cd Try.f16) regletref09_Break.H = [(0, [1, 1, 1, 1])] by kernel_rfl] at hp
    simp only [List.mem_cons, List.not_mem_nil, or_false] at hp
    rcases hp with rfl
    · exact ptOk_of rfl (regletref09_Break.j0_e k))
    (fun k x => by kernel_rfl) k
/-! reglet/regletlaw09.BreaksBest -/
mutual
def regletlaw09_BreaksBest.j0 : Nat → (List api_Item) → Int → measure_Para → api_Settings → Option Bool
  | 0, _, _, _, _ => none
  | k + 1, l, width, p2, s => (breaks_Break.f k p2 width s).bind fun r4 => if (decide (r4.2 = 0)) = true then ((regletref09_Break.f k l width s).bind fun r5 => (regletref09_Same.f k r4.1 r5).bind fun r6 => some r6) else (some false)
end
def regletlaw09_BreaksBest.f (k : Nat) (a0 : List api_Item) (a1 : Int) (a2 : api_Settings) : Option Bool := (regletlaw09_awake.f k).bind fun r => if (!r) = true then (some false) else ((regletlaw09_para.f k a0 10).bind fun r2 => optK r2 (some true) fun p => (regletref09_Right.f k a1 a2).bind fun r3 => if (!r3) = true then (some true) else (regletlaw09_BreaksBest.j0 k a0 a1 p a2))
def regletlaw09_BreaksBest.sig (k : Nat) : Sig := .p [(false, y32), (false, (.i .i64)), (true, y22)] [.c false .b] fun x => regletlaw09_BreaksBest.f k x.1 x.2.1 x.2.2.1
def regletlaw09_BreaksBest.E (k : Nat) : List (Nat × Sig) := [(11, regletlaw09_awake.sig k), (12, regletlaw09_para.sig k), (13, regletref09_Right.sig k), (14, breaks_Break.sig k), (15, regletref09_Same.sig k), (16, regletref09_Break.sig k)]
def regletlaw09_BreaksBest.G (P : Program) : GI := ⟨P, TT, 39, 49, [(5, 39, 7), (8, 46, 3)], [], [], [], [], AD⟩
def regletlaw09_BreaksBest.H : H := .s .n (.s .n (.s .n (.j 0 (.s (.f 7 .n) .n) .n)))
abbrev regletlaw09_BreaksBest.j0_s : Sh := [(0, .v y32), (1, .v (.i .i64)), (5, .at_ 39), (7, .v y41), (39, .box y22)]
def regletlaw09_BreaksBest.O (k : Nat) : List (Orc (denR [.c false .b])) := [⟨regletlaw09_BreaksBest.j0_s, fun y => regletlaw09_BreaksBest.j0 k y.1 y.2.1 y.2.2.2.1 y.2.2.2.2.1⟩]
theorem regletlaw09_BreaksBest.j0_e (k : Nat) (y : denS regletlaw09_BreaksBest.j0_s) : regletlaw09_BreaksBest.j0 (k + 1) y.1 y.2.1 y.2.2.2.1 y.2.2.2.2.1 = evP ((regletlaw09_BreaksBest.G Try.prog).at (regletlaw09_BreaksBest.E k)) (fun i => (regletlaw09_BreaksBest.O k)[i]?) [1, 1, 1, 1] (cd Try.f3) regletlaw09_BreaksBest.H (kFin ((regletlaw09_BreaksBest.G Try.prog).at (regletlaw09_BreaksBest.E k)) [.tmp 6] [.c false .b]) (unS regletlaw09_BreaksBest.j0_s y) := by rw [regletlaw09_BreaksBest.j0]; kernel_rfl
theorem regletlaw09_BreaksBest.go : goesTo Try.prog 3 := ⟨_, Try.func3, by kernel_rfl, rfl⟩
theorem regletlaw09_BreaksBest.ok (k : Nat) : SigOk Try.prog 3 (regletlaw09_BreaksBest.sig k) :=
  fn_p (G := regletlaw09_BreaksBest.G Try.prog) (c := cd Try.f3) (rs := [.tmp 6]) (args := [(false, y32), (false, (.i .i64)), (true, y22)]) (l := [.c false .b]) (fn := Try.f3) ⟨Try.func3, by kernel_rfl, by kernel_rfl, by kernel_rfl, le_of rfl, le_of rfl, TT_ok, AD_ok⟩ rfl regletlaw09_BreaksBest.E (fun k p hp => by
    simp only [regletlaw09_BreaksBest.E, List.mem_cons, List.not_mem_nil, or_false] at hp
    rcases hp with rfl | rfl | rfl | rfl | rfl | rfl
    · exact ⟨regletlaw09_awake.ok k, regletlaw09_awake.go⟩
    · exact ⟨regletlaw09_para.ok k, regletlaw09_para.go⟩
    · exact ⟨regletref09_Right.ok k, regletref09_Right.go⟩
    · exact ⟨breaks_Break.ok k, breaks_Break.go⟩
    · exact ⟨regletref09_Same.ok k, regletref09_Same.go⟩
    · exact ⟨regletref09_Break.ok k, regletref09_Break.go⟩)
    (fun k i => (regletlaw09_BreaksBest.O k)[i]?) regletlaw09_BreaksBest.H (fun k x => regletlaw09_BreaksBest.f k x.1 x.2.1 x.2.2.1)
    (fun id o y h => by
    have h' := List.mem_of_getElem? h
    simp only [regletlaw09_BreaksBest.O, List.mem_cons, List.not_mem_nil, or_false] at h'
    rcases h' with rfl <;> rfl)
    (fun k p hp => by
    rw [show pts (cd Try.f3) regletlaw09_BreaksBest.H = [(0, [1, 1, 1, 1])] by kernel_rfl] at hp
    simp only [List.mem_cons, List.not_mem_nil, or_false] at hp
    rcases hp with rfl
    · exact ptOk_of rfl (regletlaw09_BreaksBest.j0_e k))
    (fun k x => by kernel_rfl) k
end Go.Proofs.Ytpnodmiincdljaa.Vm
