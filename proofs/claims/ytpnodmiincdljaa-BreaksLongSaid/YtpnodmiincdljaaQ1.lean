-- PRINTED by vq.py. Not trusted: Lean checks it.
import Derived.Test.YtpnodmiincdljaaQa
namespace Go.Proofs.Ytpnodmiincdljaa.Vm
open Go
open _root_.Go.RowKit (wrap64)
set_option maxRecDepth 100000
set_option linter.unusedVariables false
/-! reglet/regletref09.all -/
mutual
def regletref09_all.l0 : Nat → (List api_Item) → (List Int) → Int → Bool → (List Int) → Int → Int → api_Settings → api_Breaking → api_Breaking → Option api_Breaking
  | 0, _, _, _, _, _, _, _, _, _, _ => none
  | k + 1, t, t2, t3, t4, t5, t6, t7, t8, t9, t10 => if (decide (t7 < (t5.length : Int))) = true then ((regletref09_Does.f k t t5 t6 t7 t3 t8 t4).bind fun r2 => if r2 = true then (if (([] : List Int).length + t2.length) * 8 ≤ 140737488355328 then (if 0 ≤ t7 ∧ t7 < (t5.length : Int) then ((t5[t7.toNat]?).bind fun e => if ((([] : List Int) ++ t2).length + ([e] : List Int).length) * 8 ≤ 140737488355328 then (if (decide (t7 = (wrap64 ((t5.length : Int) - 1)))) = true then ((regletref09_Price.f k t ((([] : List Int) ++ t2) ++ ([e] : List Int)) t3 t8 t4).bind fun r3 => if r3.2 = true then (if (!t9.2.2) = true then (regletref09_all.j1 k t t2 t3 t4 t5 t6 t7 t8 ((([] : List Int) ++ t2) ++ ([e] : List Int), r3.1, (true)) t10) else (if (decide (r3.1 < t9.2.1)) = true then (regletref09_all.j1 k t t2 t3 t4 t5 t6 t7 t8 ((([] : List Int) ++ t2) ++ ([e] : List Int), r3.1, (true)) t10) else (regletref09_all.j1 k t t2 t3 t4 t5 t6 t7 t8 t9 t10))) else (regletref09_all.j1 k t t2 t3 t4 t5 t6 t7 t8 t9 t10)) else ((regletref09_all.f k t ((([] : List Int) ++ t2) ++ ([e] : List Int)) (wrap64 (t7 + 1)) t3 t8 t4 t9).bind fun r4 => regletref09_all.j1 k t t2 t3 t4 t5 t6 t7 t8 r4 t10)) else none) else none) else none) else (regletref09_all.j1 k t t2 t3 t4 t5 t6 t7 t8 t9 t10)) else (some t9)
def regletref09_all.j1 : Nat → (List api_Item) → (List Int) → Int → Bool → (List Int) → Int → Int → api_Settings → api_Breaking → api_Breaking → Option api_Breaking
  | 0, _, _, _, _, _, _, _, _, _, _ => none
  | k + 1, t11, t12, t13, t14, t15, t16, t17, t18, t19, t20 => if 0 ≤ t17 ∧ t17 < (t15.length : Int) then ((t15[t17.toNat]?).bind fun e2 => (at? t11 e2).bind fun e3 => (regletref07_Forced.f k e3).bind fun r5 => if r5 = true then (some t19) else (regletref09_all.l0 k t11 t12 t13 t14 t15 t16 (wrap64 (t17 + 1)) t18 t19 t20)) else none
def regletref09_all.f : Nat → (List api_Item) → (List Int) → Int → Int → api_Settings → Bool → api_Breaking → Option api_Breaking
  | 0, _, _, _, _, _, _, _ => none
  | k + 1, a0, a1, a2, a3, a4, a5, a6 => (regletref08_Legal.f k a0).bind fun r => regletref09_all.l0 k a0 a1 a3 a5 r (wrap64 (a2 - 1)) a2 a4 a6 (([] : List Int), 0, (false))
end
def regletref09_all.sig (k : Nat) : Sig := .p [(false, y32), (false, y33), (false, (.i .i64)), (false, (.i .i64)), (true, y22), (false, .b), (true, y76)] [.c true y76] fun x => regletref09_all.f k x.1 x.2.1 x.2.2.1 x.2.2.2.1 x.2.2.2.2.1 x.2.2.2.2.2.1 x.2.2.2.2.2.2.1
def regletref09_all.E (k : Nat) : List (Nat × Sig) := [(18, regletref08_Legal.sig k), (19, regletref09_Price.sig k), (21, regletref07_Forced.sig k), (32, regletref09_all.sig k), (39, regletref09_Does.sig k)]
def regletref09_all.G (P : Program) : GI := ⟨P, TT, 97, 110, [(11, 97, 7), (13, 104, 3), (14, 107, 3)], [], [], [], [], AD⟩
def regletref09_all.H : H := .s .n (.s .n (.s .n (.s (.s .n (.s (.l 0 (.s .n (.s (.s (.j 1 (.s .n (.s (.s .n (.s .n (.s .n (.f 18 .n)))) .n)) .n) .n) .n))) .n)) .n)))
abbrev regletref09_all.l0_s : Sh := [(0, .v y32), (1, .v y33), (3, .v (.i .i64)), (5, .v .b), (11, .at_ 97), (13, .at_ 104), (14, .at_ 107), (15, .v y9), (16, .v (.i .i64)), (17, .v (.i .i64)), (97, .box y22), (104, .box y76), (107, .box y74)]
abbrev regletref09_all.j1_s : Sh := [(0, .v y32), (1, .v y33), (3, .v (.i .i64)), (5, .v .b), (11, .at_ 97), (13, .at_ 104), (14, .at_ 107), (15, .v y9), (16, .v (.i .i64)), (17, .v (.i .i64)), (97, .box y22), (104, .box y76), (107, .box y74)]
def regletref09_all.O (k : Nat) : List (Orc (denR [.c true y76])) := [⟨regletref09_all.l0_s, fun y => regletref09_all.l0 k y.1 y.2.1 y.2.2.1 y.2.2.2.1 y.2.2.2.2.2.2.2.1 y.2.2.2.2.2.2.2.2.1 y.2.2.2.2.2.2.2.2.2.1 y.2.2.2.2.2.2.2.2.2.2.1 y.2.2.2.2.2.2.2.2.2.2.2.1 y.2.2.2.2.2.2.2.2.2.2.2.2.1⟩, ⟨regletref09_all.j1_s, fun y => regletref09_all.j1 k y.1 y.2.1 y.2.2.1 y.2.2.2.1 y.2.2.2.2.2.2.2.1 y.2.2.2.2.2.2.2.2.1 y.2.2.2.2.2.2.2.2.2.1 y.2.2.2.2.2.2.2.2.2.2.1 y.2.2.2.2.2.2.2.2.2.2.2.1 y.2.2.2.2.2.2.2.2.2.2.2.2.1⟩]
theorem regletref09_all.j1_e (k : Nat) (y : denS regletref09_all.j1_s) : regletref09_all.j1 (k + 1) y.1 y.2.1 y.2.2.1 y.2.2.2.1 y.2.2.2.2.2.2.2.1 y.2.2.2.2.2.2.2.2.1 y.2.2.2.2.2.2.2.2.2.1 y.2.2.2.2.2.2.2.2.2.2.1 y.2.2.2.2.2.2.2.2.2.2.2.1 y.2.2.2.2.2.2.2.2.2.2.2.2.1 = evP ((regletref09_all.G Try.prog).at (regletref09_all.E k)) (fun i => (regletref09_all.O k)[i]?) [1, 1, 1, 0, 1, 0, 0, 1, 0, 0, 1] (cd Try.f32) regletref09_all.H (kFin ((regletref09_all.G Try.prog).at (regletref09_all.E k)) [.cell 14 65] [.c true y76]) (unS regletref09_all.j1_s y) := by rw [regletref09_all.j1]; kernel_rfl
theorem regletref09_all.l0_e (k : Nat) (y : denS regletref09_all.l0_s) : regletref09_all.l0 (k + 1) y.1 y.2.1 y.2.2.1 y.2.2.2.1 y.2.2.2.2.2.2.2.1 y.2.2.2.2.2.2.2.2.1 y.2.2.2.2.2.2.2.2.2.1 y.2.2.2.2.2.2.2.2.2.2.1 y.2.2.2.2.2.2.2.2.2.2.2.1 y.2.2.2.2.2.2.2.2.2.2.2.2.1 = evP ((regletref09_all.G Try.prog).at (regletref09_all.E k)) (fun i => (regletref09_all.O k)[i]?) [1, 1, 1, 0, 1, 0, 0] (cd Try.f32) regletref09_all.H (kFin ((regletref09_all.G Try.prog).at (regletref09_all.E k)) [.cell 14 65] [.c true y76]) (unS regletref09_all.l0_s y) := by rw [regletref09_all.l0]; kernel_rfl
theorem regletref09_all.go : goesTo Try.prog 32 := ⟨_, Try.func32, by kernel_rfl, rfl⟩
theorem regletref09_all.ok (k : Nat) : SigOk Try.prog 32 (regletref09_all.sig k) :=
  fn_r (G := regletref09_all.G Try.prog) (c := cd Try.f32) (rs := [.cell 14 65]) (args := [(false, y32), (false, y33), (false, (.i .i64)), (false, (.i .i64)), (true, y22), (false, .b), (true, y76)]) (l := [.c true y76]) (fn := Try.f32) ⟨Try.func32, by kernel_rfl, by kernel_rfl, by kernel_rfl, le_of rfl, le_of rfl, TT_ok, AD_ok⟩ rfl regletref09_all.E
    (fun k i => (regletref09_all.O k)[i]?) regletref09_all.H (fun k x => regletref09_all.f k x.1 x.2.1 x.2.2.1 x.2.2.2.1 x.2.2.2.2.1 x.2.2.2.2.2.1 x.2.2.2.2.2.2.1) (fun k hself p hp => by
    simp only [regletref09_all.E, List.mem_cons, List.not_mem_nil, or_false] at hp
    rcases hp with rfl | rfl | rfl | rfl | rfl
    · exact ⟨regletref08_Legal.ok k, regletref08_Legal.go⟩
    · exact ⟨regletref09_Price.ok k, regletref09_Price.go⟩
    · exact ⟨regletref07_Forced.ok k, regletref07_Forced.go⟩
    · exact ⟨hself, regletref09_all.go⟩
    · exact ⟨regletref09_Does.ok k, regletref09_Does.go⟩)
    (fun id o y h => by
    have h' := List.mem_of_getElem? h
    simp only [regletref09_all.O, List.mem_cons, List.not_mem_nil, or_false] at h'
    rcases h' with rfl | rfl <;> rfl)
    (fun k p hp => by
    rw [show pts (cd Try.f32) regletref09_all.H = [(1, [1, 1, 1, 0, 1, 0, 0, 1, 0, 0, 1]), (0, [1, 1, 1, 0, 1, 0, 0])] by kernel_rfl] at hp
    simp only [List.mem_cons, List.not_mem_nil, or_false] at hp
    rcases hp with rfl | rfl
    · exact ptOk_of rfl (regletref09_all.j1_e k)
    · exact ptOk_of rfl (regletref09_all.l0_e k))
    (fun x => by rw [regletref09_all.f]) (fun k x => by rw [regletref09_all.f]; kernel_rfl) k
/-! reglet/regletref09.Break -/
mutual
def regletref09_Break.j0 : Nat → Bool → api_Breaking → api_Breaking → Option api_Breaking
  | 0, _, _, _ => none
  | k + 1, emergency, t, best => some (best.1, best.2.1, emergency)
end
def regletref09_Break.f (k : Nat) (a0 : List api_Item) (a1 : Int) (a2 : api_Settings) : Option api_Breaking := (regletref09_all.f k a0 ([] : List Int) 0 a1 a2 false (([] : List Int), 0, (false))).bind fun r => if (!r.2.2) = true then ((regletref09_all.f k a0 ([] : List Int) 0 a1 a2 true (([] : List Int), 0, (false))).bind fun r2 => regletref09_Break.j0 k (!r.2.2) (([] : List Int), 0, (false)) r2) else (regletref09_Break.j0 k (!r.2.2) (([] : List Int), 0, (false)) r)
def regletref09_Break.sig (k : Nat) : Sig := .p [(false, y32), (false, (.i .i64)), (true, y22)] [.c true y76] fun x => regletref09_Break.f k x.1 x.2.1 x.2.2.1
def regletref09_Break.E (k : Nat) : List (Nat × Sig) := [(32, regletref09_all.sig k)]
def regletref09_Break.G (P : Program) : GI := ⟨P, TT, 29, 42, [(5, 29, 7), (6, 36, 3), (7, 39, 3)], [], [], [], [], AD⟩
def regletref09_Break.H : H := .s .n (.s (.q 4 12 .n) (.s .n (.j 0 (.s .n (.s (.q 4 21 .n) .n)) .n)))
abbrev regletref09_Break.j0_s : Sh := [(6, .at_ 36), (7, .at_ 39), (8, .v .b), (36, .box y74), (39, .box y76)]
def regletref09_Break.O (k : Nat) : List (Orc (denR [.c true y76])) := [⟨regletref09_Break.j0_s, fun y => regletref09_Break.j0 k y.2.2.1 y.2.2.2.1 y.2.2.2.2.1⟩]
theorem regletref09_Break.j0_e (k : Nat) (y : denS regletref09_Break.j0_s) : regletref09_Break.j0 (k + 1) y.2.2.1 y.2.2.2.1 y.2.2.2.2.1 = evP ((regletref09_Break.G Try.prog).at (regletref09_Break.E k)) (fun i => (regletref09_Break.O k)[i]?) [1, 1, 1, 1] (cd Try.f16) regletref09_Break.H (kFin ((regletref09_Break.G Try.prog).at (regletref09_Break.E k)) [.cell 6 31] [.c true y76]) (unS regletref09_Break.j0_s y) := by rw [regletref09_Break.j0]; kernel_rfl
theorem regletref09_Break.go : goesTo Try.prog 16 := ⟨_, Try.func16, by kernel_rfl, rfl⟩
theorem regletref09_Break.ok (k : Nat) : SigOk Try.prog 16 (regletref09_Break.sig k) :=
  fn_p (G := regletref09_Break.G Try.prog) (c := cd Try.f16) (rs := [.cell 6 31]) (args := [(false, y32), (false, (.i .i64)), (true, y22)]) (l := [.c true y76]) (fn := Try.f16) ⟨Try.func16, by kernel_rfl, by kernel_rfl, by kernel_rfl, le_of rfl, le_of rfl, TT_ok, AD_ok⟩ rfl regletref09_Break.E (fun k p hp => by
    simp only [regletref09_Break.E, List.mem_cons, List.not_mem_nil, or_false] at hp
    rcases hp with rfl
    · exact ⟨regletref09_all.ok k, regletref09_all.go⟩)
    (fun k i => (regletref09_Break.O k)[i]?) regletref09_Break.H (fun k x => regletref09_Break.f k x.1 x.2.1 x.2.2.1)
    (fun id o y h => by
    have h' := List.mem_of_getElem? h
    simp only [regletref09_Break.O, List.mem_cons, List.not_mem_nil, or_false] at h'
    rcases h' with rfl <;> rfl)
    (fun k p hp => by
    rw [show pts (cd Try.f16) regletref09_Break.H = [(0, [1, 1, 1, 1])] by kernel_rfl] at hp
    simp only [List.mem_cons, List.not_mem_nil, or_false] at hp
    rcases hp with rfl
    · exact ptOk_of rfl (regletref09_Break.j0_e k))
    (fun k x => by kernel_rfl) k
/-! reglet/regletref09.line -/
mutual
def regletref09_line.j0 : Nat → (List api_Item) → (List Int) → Int → Int → Int → Int → Bool → api_Settings → Option (Int × Int)
  | 0, _, _, _, _, _, _, _, _ => none
  | k + 1, t, t2, t3, t4, t5, t6, t7, t8 => (at? t2 t3).bind fun e3 => (regletref08_Fit.f k t t6 e3 t5).bind fun r2 => (at? t2 t3).bind fun e4 => (at? t e4).bind fun e5 => (regletref08_Cost.f k t8 r2 e5 t4 t7 (decide (t3 = (wrap64 ((t2.length : Int) - 1))))).bind fun r3 => some (r3, r2.2.2.2.1)
end
def regletref09_line.f (k : Nat) (a0 : List api_Item) (a1 : List Int) (a2 : Int) (a3 : Int) (a4 : Int) (a5 : Int) (a6 : api_Settings) (a7 : Bool) : Option (Int × Int) := (regletref09_Does.f k a0 a1 a2 a3 a5 a6 a7).bind fun r => if (!r) = true then (some ((-1), 0)) else (if (decide (0 ≤ a2)) = true then ((at? a1 a2).bind fun e => (at? a0 e).bind fun e2 => regletref09_line.j0 k a0 a1 a3 a4 a5 e e2.2.2.2.2.2.2.1 a6) else (regletref09_line.j0 k a0 a1 a3 (-1) a5 (-1) false a6))
def regletref09_line.sig (k : Nat) : Sig := .p [(false, y8), (false, y23), (false, (.i .i64)), (false, (.i .i64)), (false, (.i .i64)), (false, (.i .i64)), (true, y22), (false, .b)] [.c false (.i .i64), .c false (.i .i64)] fun x => regletref09_line.f k x.1 x.2.1 x.2.2.1 x.2.2.2.1 x.2.2.2.2.1 x.2.2.2.2.2.1 x.2.2.2.2.2.2.1 x.2.2.2.2.2.2.2.1
def regletref09_line.E (k : Nat) : List (Nat × Sig) := [(39, regletref09_Does.sig k), (40, regletref08_Fit.sig k), (41, regletref08_Cost.sig k)]
def regletref09_line.G (P : Program) : GI := ⟨P, TT, 68, 80, [(14, 68, 7), (20, 75, 5)], [], [], [], [], AD⟩
def regletref09_line.H : H := .s .n (.s .n (.s .n (.j 0 .n .n)))
abbrev regletref09_line.j0_s : Sh := [(0, .v y8), (1, .v y23), (3, .v (.i .i64)), (4, .v (.i .i64)), (5, .v (.i .i64)), (14, .at_ 68), (18, .v (.i .i64)), (19, .v .b), (68, .box y22)]
def regletref09_line.O (k : Nat) : List (Orc (denR [.c false (.i .i64), .c false (.i .i64)])) := [⟨regletref09_line.j0_s, fun y => regletref09_line.j0 k y.1 y.2.1 y.2.2.1 y.2.2.2.1 y.2.2.2.2.1 y.2.2.2.2.2.2.1 y.2.2.2.2.2.2.2.1 y.2.2.2.2.2.2.2.2.1⟩]
theorem regletref09_line.j0_e (k : Nat) (y : denS regletref09_line.j0_s) : regletref09_line.j0 (k + 1) y.1 y.2.1 y.2.2.1 y.2.2.2.1 y.2.2.2.2.1 y.2.2.2.2.2.2.1 y.2.2.2.2.2.2.2.1 y.2.2.2.2.2.2.2.2.1 = evP ((regletref09_line.G Try.prog).at (regletref09_line.E k)) (fun i => (regletref09_line.O k)[i]?) [1, 1, 1, 1] (cd Try.f35) regletref09_line.H (kFin ((regletref09_line.G Try.prog).at (regletref09_line.E k)) [.tmp 16, .tmp 17] [.c false (.i .i64), .c false (.i .i64)]) (unS regletref09_line.j0_s y) := by rw [regletref09_line.j0]; kernel_rfl
theorem regletref09_line.go : goesTo Try.prog 35 := ⟨_, Try.func35, by kernel_rfl, rfl⟩
theorem regletref09_line.ok (k : Nat) : SigOk Try.prog 35 (regletref09_line.sig k) :=
  fn_p (G := regletref09_line.G Try.prog) (c := cd Try.f35) (rs := [.tmp 16, .tmp 17]) (args := [(false, y8), (false, y23), (false, (.i .i64)), (false, (.i .i64)), (false, (.i .i64)), (false, (.i .i64)), (true, y22), (false, .b)]) (l := [.c false (.i .i64), .c false (.i .i64)]) (fn := Try.f35) ⟨Try.func35, by kernel_rfl, by kernel_rfl, by kernel_rfl, le_of rfl, le_of rfl, TT_ok, AD_ok⟩ rfl regletref09_line.E (fun k p hp => by
    simp only [regletref09_line.E, List.mem_cons, List.not_mem_nil, or_false] at hp
    rcases hp with rfl | rfl | rfl
    · exact ⟨regletref09_Does.ok k, regletref09_Does.go⟩
    · exact ⟨regletref08_Fit.ok k, regletref08_Fit.go⟩
    · exact ⟨regletref08_Cost.ok k, regletref08_Cost.go⟩)
    (fun k i => (regletref09_line.O k)[i]?) regletref09_line.H (fun k x => regletref09_line.f k x.1 x.2.1 x.2.2.1 x.2.2.2.1 x.2.2.2.2.1 x.2.2.2.2.2.1 x.2.2.2.2.2.2.1 x.2.2.2.2.2.2.2.1)
    (fun id o y h => by
    have h' := List.mem_of_getElem? h
    simp only [regletref09_line.O, List.mem_cons, List.not_mem_nil, or_false] at h'
    rcases h' with rfl <;> rfl)
    (fun k p hp => by
    rw [show pts (cd Try.f35) regletref09_line.H = [(0, [1, 1, 1, 1])] by kernel_rfl] at hp
    simp only [List.mem_cons, List.not_mem_nil, or_false] at hp
    rcases hp with rfl
    · exact ptOk_of rfl (regletref09_line.j0_e k))
    (fun k x => by kernel_rfl) k
/-! reglet/regletref09.rest -/
def regletref09_rest.f (k : Nat) (a0 : List regletref08_Sum) (a1 : List Int) (a2 : Int) (a3 : Int) : Option Int := if (decide (a2 = (wrap64 ((a1.length : Int) - 1)))) = true then (some 0) else ((at? a0 a2).bind fun e => (at? ([e.1, e.2.1, e.2.2.1, e.2.2.2] : List Int) a3).bind fun e2 => some e2)
def regletref09_rest.sig (k : Nat) : Sig := .p [(false, y61), (false, y23), (false, (.i .i64)), (false, (.i .i64))] [.c false (.i .i64)] fun x => regletref09_rest.f k x.1 x.2.1 x.2.2.1 x.2.2.2.1
def regletref09_rest.E (k : Nat) : List (Nat × Sig) := []
def regletref09_rest.G (P : Program) : GI := ⟨P, TT, 20, 20, [], [], [], [], [], AD⟩
def regletref09_rest.H : H := .n
def regletref09_rest.O (k : Nat) : List (Orc (denR [.c false (.i .i64)])) := []
theorem regletref09_rest.go : goesTo Try.prog 36 := ⟨_, Try.func36, by kernel_rfl, rfl⟩
theorem regletref09_rest.ok (k : Nat) : SigOk Try.prog 36 (regletref09_rest.sig k) :=
  fn_p (G := regletref09_rest.G Try.prog) (c := cd Try.f36) (rs := [.tmp 8]) (args := [(false, y61), (false, y23), (false, (.i .i64)), (false, (.i .i64))]) (l := [.c false (.i .i64)]) (fn := Try.f36) ⟨Try.func36, by kernel_rfl, by kernel_rfl, by kernel_rfl, le_of rfl, le_of rfl, TT_ok, AD_ok⟩ rfl regletref09_rest.E (fun k p hp => nomatch hp)
    (fun k i => (regletref09_rest.O k)[i]?) regletref09_rest.H (fun k x => regletref09_rest.f k x.1 x.2.1 x.2.2.1 x.2.2.2.1)
    (fun id o y h => by cases id <;> cases h)
    (fun k p hp => by rw [show pts (cd Try.f36) regletref09_rest.H = [] by kernel_rfl] at hp; nomatch hp)
    (fun k x => by kernel_rfl) k
/-! reglet/regletref09.least -/
mutual
def regletref09_least.l0 : Nat → (List regletref08_Sum) → (List api_Item) → (List Int) → Int → Int → Int → Bool → Int → Int → api_Settings → Option Int
  | 0, _, _, _, _, _, _, _, _, _, _ => none
  | k + 1, t, t2, t3, t4, t5, t6, t7, t8, t9, t10 => if (decide (t9 < (t3.length : Int))) = true then ((regletref09_line.f k t2 t3 t4 t9 t5 t6 t10 t7).bind fun r => if (decide (0 ≤ r.1)) = true then ((regletref09_rest.f k t t3 t9 r.2).bind fun r2 => if (decide (0 ≤ r2)) = true then (if (decide (t8 < 0)) = true then ((regletref08_Total.f k r.1 r2).bind fun r3 => regletref09_least.j1 k t t2 t3 t4 t5 t6 t7 r3 t9 t10) else ((regletref08_Total.f k r.1 r2).bind fun r4 => if (decide (r4 < t8)) = true then ((regletref08_Total.f k r.1 r2).bind fun r5 => regletref09_least.j1 k t t2 t3 t4 t5 t6 t7 r5 t9 t10) else (regletref09_least.j1 k t t2 t3 t4 t5 t6 t7 t8 t9 t10))) else (regletref09_least.j1 k t t2 t3 t4 t5 t6 t7 t8 t9 t10)) else (regletref09_least.j1 k t t2 t3 t4 t5 t6 t7 t8 t9 t10)) else (some t8)
def regletref09_least.j1 : Nat → (List regletref08_Sum) → (List api_Item) → (List Int) → Int → Int → Int → Bool → Int → Int → api_Settings → Option Int
  | 0, _, _, _, _, _, _, _, _, _, _ => none
  | k + 1, t11, t12, t13, t14, t15, t16, t17, t18, t19, t20 => (at? t13 t19).bind fun e => (at? t12 e).bind fun e2 => (regletref07_Forced.f k e2).bind fun r6 => if r6 = true then (some t18) else (regletref09_least.l0 k t11 t12 t13 t14 t15 t16 t17 t18 (wrap64 (t19 + 1)) t20)
end
def regletref09_least.f (k : Nat) (a0 : List regletref08_Sum) (a1 : List api_Item) (a2 : List Int) (a3 : Int) (a4 : Int) (a5 : Int) (a6 : api_Settings) (a7 : Bool) : Option Int := regletref09_least.l0 k a0 a1 a2 a3 a4 a5 a7 (-1) (wrap64 (a3 + 1)) a6
def regletref09_least.sig (k : Nat) : Sig := .p [(false, y61), (false, y8), (false, y23), (false, (.i .i64)), (false, (.i .i64)), (false, (.i .i64)), (true, y22), (false, .b)] [.c false (.i .i64)] fun x => regletref09_least.f k x.1 x.2.1 x.2.2.1 x.2.2.2.1 x.2.2.2.2.1 x.2.2.2.2.2.1 x.2.2.2.2.2.2.1 x.2.2.2.2.2.2.2.1
def regletref09_least.E (k : Nat) : List (Nat × Sig) := [(21, regletref07_Forced.sig k), (35, regletref09_line.sig k), (36, regletref09_rest.sig k), (37, regletref08_Total.sig k)]
def regletref09_least.G (P : Program) : GI := ⟨P, TT, 75, 82, [(14, 75, 7)], [], [], [], [], AD⟩
def regletref09_least.H : H := .s .n (.s .n (.s (.s .n (.s (.l 0 (.s .n (.s (.s (.s .n (.j 1 .n .n)) .n) .n))) .n)) .n))
abbrev regletref09_least.l0_s : Sh := [(0, .v y61), (1, .v y8), (2, .v y23), (3, .v (.i .i64)), (4, .v (.i .i64)), (5, .v (.i .i64)), (7, .v .b), (14, .at_ 75), (17, .v (.i .i64)), (18, .v (.i .i64)), (75, .box y22)]
abbrev regletref09_least.j1_s : Sh := [(0, .v y61), (1, .v y8), (2, .v y23), (3, .v (.i .i64)), (4, .v (.i .i64)), (5, .v (.i .i64)), (7, .v .b), (14, .at_ 75), (17, .v (.i .i64)), (18, .v (.i .i64)), (75, .box y22)]
def regletref09_least.O (k : Nat) : List (Orc (denR [.c false (.i .i64)])) := [⟨regletref09_least.l0_s, fun y => regletref09_least.l0 k y.1 y.2.1 y.2.2.1 y.2.2.2.1 y.2.2.2.2.1 y.2.2.2.2.2.1 y.2.2.2.2.2.2.1 y.2.2.2.2.2.2.2.2.1 y.2.2.2.2.2.2.2.2.2.1 y.2.2.2.2.2.2.2.2.2.2.1⟩, ⟨regletref09_least.j1_s, fun y => regletref09_least.j1 k y.1 y.2.1 y.2.2.1 y.2.2.2.1 y.2.2.2.2.1 y.2.2.2.2.2.1 y.2.2.2.2.2.2.1 y.2.2.2.2.2.2.2.2.1 y.2.2.2.2.2.2.2.2.2.1 y.2.2.2.2.2.2.2.2.2.2.1⟩]
theorem regletref09_least.j1_e (k : Nat) (y : denS regletref09_least.j1_s) : regletref09_least.j1 (k + 1) y.1 y.2.1 y.2.2.1 y.2.2.2.1 y.2.2.2.2.1 y.2.2.2.2.2.1 y.2.2.2.2.2.2.1 y.2.2.2.2.2.2.2.2.1 y.2.2.2.2.2.2.2.2.2.1 y.2.2.2.2.2.2.2.2.2.2.1 = evP ((regletref09_least.G Try.prog).at (regletref09_least.E k)) (fun i => (regletref09_least.O k)[i]?) [1, 1, 0, 1, 0, 0, 1, 0, 0, 1, 1] (cd Try.f34) regletref09_least.H (kFin ((regletref09_least.G Try.prog).at (regletref09_least.E k)) [.tmp 16] [.c false (.i .i64)]) (unS regletref09_least.j1_s y) := by rw [regletref09_least.j1]; kernel_rfl
theorem regletref09_least.l0_e (k : Nat) (y : denS regletref09_least.l0_s) : regletref09_least.l0 (k + 1) y.1 y.2.1 y.2.2.1 y.2.2.2.1 y.2.2.2.2.1 y.2.2.2.2.2.1 y.2.2.2.2.2.2.1 y.2.2.2.2.2.2.2.2.1 y.2.2.2.2.2.2.2.2.2.1 y.2.2.2.2.2.2.2.2.2.2.1 = evP ((regletref09_least.G Try.prog).at (regletref09_least.E k)) (fun i => (regletref09_least.O k)[i]?) [1, 1, 0, 1, 0, 0] (cd Try.f34) regletref09_least.H (kFin ((regletref09_least.G Try.prog).at (regletref09_least.E k)) [.tmp 16] [.c false (.i .i64)]) (unS regletref09_least.l0_s y) := by rw [regletref09_least.l0]; kernel_rfl
theorem regletref09_least.go : goesTo Try.prog 34 := ⟨_, Try.func34, by kernel_rfl, rfl⟩
theorem regletref09_least.ok (k : Nat) : SigOk Try.prog 34 (regletref09_least.sig k) :=
  fn_p (G := regletref09_least.G Try.prog) (c := cd Try.f34) (rs := [.tmp 16]) (args := [(false, y61), (false, y8), (false, y23), (false, (.i .i64)), (false, (.i .i64)), (false, (.i .i64)), (true, y22), (false, .b)]) (l := [.c false (.i .i64)]) (fn := Try.f34) ⟨Try.func34, by kernel_rfl, by kernel_rfl, by kernel_rfl, le_of rfl, le_of rfl, TT_ok, AD_ok⟩ rfl regletref09_least.E (fun k p hp => by
    simp only [regletref09_least.E, List.mem_cons, List.not_mem_nil, or_false] at hp
    rcases hp with rfl | rfl | rfl | rfl
    · exact ⟨regletref07_Forced.ok k, regletref07_Forced.go⟩
    · exact ⟨regletref09_line.ok k, regletref09_line.go⟩
    · exact ⟨regletref09_rest.ok k, regletref09_rest.go⟩
    · exact ⟨regletref08_Total.ok k, regletref08_Total.go⟩)
    (fun k i => (regletref09_least.O k)[i]?) regletref09_least.H (fun k x => regletref09_least.f k x.1 x.2.1 x.2.2.1 x.2.2.2.1 x.2.2.2.2.1 x.2.2.2.2.2.1 x.2.2.2.2.2.2.1 x.2.2.2.2.2.2.2.1)
    (fun id o y h => by
    have h' := List.mem_of_getElem? h
    simp only [regletref09_least.O, List.mem_cons, List.not_mem_nil, or_false] at h'
    rcases h' with rfl | rfl <;> rfl)
    (fun k p hp => by
    rw [show pts (cd Try.f34) regletref09_least.H = [(1, [1, 1, 0, 1, 0, 0, 1, 0, 0, 1, 1]), (0, [1, 1, 0, 1, 0, 0])] by kernel_rfl] at hp
    simp only [List.mem_cons, List.not_mem_nil, or_false] at hp
    rcases hp with rfl | rfl
    · exact ptOk_of rfl (regletref09_least.j1_e k)
    · exact ptOk_of rfl (regletref09_least.l0_e k))
    (fun k x => by kernel_rfl) k
/-! reglet/regletref09.fill -/
mutual
def regletref09_fill.l0 : Nat → (List api_Item) → (List Int) → Int → Bool → (List regletref08_Sum) → Int → api_Settings → Option (List regletref08_Sum)
  | 0, _, _, _, _, _, _, _ => none
  | k + 1, l, ends, width, emergency, t, i, s => if (decide (0 ≤ i)) = true then (regletref09_fill.l1 k l ends width emergency t i 0 s) else (some t)
def regletref09_fill.l1 : Nat → (List api_Item) → (List Int) → Int → Bool → (List regletref08_Sum) → Int → Int → api_Settings → Option (List regletref08_Sum)
  | 0, _, _, _, _, _, _, _, _ => none
  | k + 1, l2, ends2, width2, emergency2, t2, i2, class_, s2 => if (decide (class_ < 4)) = true then ((regletref09_least.f k t2 l2 ends2 i2 class_ width2 s2 emergency2).bind fun r => if 0 ≤ i2 ∧ i2 < (t2.length : Int) then (if 0 ≤ class_ ∧ class_ < (4 : Int) then ((t2[i2.toNat]?).bind fun e => if class_.toNat < 4 then (regletref09_fill.l1 k l2 ends2 width2 emergency2 (t2.set i2.toNat ((if class_.toNat = 0 then r else e.1), (if class_.toNat = 1 then r else e.2.1), (if class_.toNat = 2 then r else e.2.2.1), (if class_.toNat = 3 then r else e.2.2.2))) i2 (wrap64 (class_ + 1)) s2) else none) else none) else none) else (regletref09_fill.l0 k l2 ends2 width2 emergency2 t2 (wrap64 (i2 - 1)) s2)
end
def regletref09_fill.f (k : Nat) (a0 : List api_Item) (a1 : List Int) (a2 : Int) (a3 : api_Settings) (a4 : Bool) : Option (List regletref08_Sum) := if (a1.length : Int) = (a1.length : Int) ∧ 0 ≤ (a1.length : Int) ∧ (32 : Int) * (a1.length : Int) ≤ 281474976710656 then (regletref09_fill.l0 k a0 a1 a2 a4 (List.replicate ((a1.length : Int).toNat) (0, 0, 0, 0) : List regletref08_Sum) (wrap64 ((a1.length : Int) - 2)) a3) else none
def regletref09_fill.sig (k : Nat) : Sig := .p [(false, y8), (false, y23), (false, (.i .i64)), (true, y22), (false, .b)] [.c false y42] fun x => regletref09_fill.f k x.1 x.2.1 x.2.2.1 x.2.2.2.1 x.2.2.2.2.1
def regletref09_fill.E (k : Nat) : List (Nat × Sig) := [(34, regletref09_least.sig k)]
def regletref09_fill.G (P : Program) : GI := ⟨P, TT, 43, 50, [(8, 43, 7)], [], [], [], [], AD⟩
def regletref09_fill.H : H := .s .n (.s .n (.s (.s .n (.s (.l 0 (.s .n (.s (.s (.s .n (.s (.l 1 .n) .n)) .n) .n))) .n)) .n))
abbrev regletref09_fill.l0_s : Sh := [(0, .v y8), (1, .v y23), (2, .v (.i .i64)), (4, .v .b), (8, .at_ 43), (11, .v y42), (12, .v (.i .i64)), (43, .box y22)]
abbrev regletref09_fill.l1_s : Sh := [(0, .v y8), (1, .v y23), (2, .v (.i .i64)), (4, .v .b), (8, .at_ 43), (11, .v y42), (12, .v (.i .i64)), (13, .v (.i .i64)), (43, .box y22)]
def regletref09_fill.O (k : Nat) : List (Orc (denR [.c false y42])) := [⟨regletref09_fill.l0_s, fun y => regletref09_fill.l0 k y.1 y.2.1 y.2.2.1 y.2.2.2.1 y.2.2.2.2.2.1 y.2.2.2.2.2.2.1 y.2.2.2.2.2.2.2.1⟩, ⟨regletref09_fill.l1_s, fun y => regletref09_fill.l1 k y.1 y.2.1 y.2.2.1 y.2.2.2.1 y.2.2.2.2.2.1 y.2.2.2.2.2.2.1 y.2.2.2.2.2.2.2.1 y.2.2.2.2.2.2.2.2.1⟩]
theorem regletref09_fill.l1_e (k : Nat) (y : denS regletref09_fill.l1_s) : regletref09_fill.l1 (k + 1) y.1 y.2.1 y.2.2.1 y.2.2.2.1 y.2.2.2.2.2.1 y.2.2.2.2.2.2.1 y.2.2.2.2.2.2.2.1 y.2.2.2.2.2.2.2.2.1 = evP ((regletref09_fill.G Try.prog).at (regletref09_fill.E k)) (fun i => (regletref09_fill.O k)[i]?) [1, 1, 0, 1, 0, 0, 1, 0, 0, 1, 0, 0] (cd Try.f33) regletref09_fill.H (kFin ((regletref09_fill.G Try.prog).at (regletref09_fill.E k)) [.tmp 10] [.c false y42]) (unS regletref09_fill.l1_s y) := by rw [regletref09_fill.l1]; kernel_rfl
theorem regletref09_fill.l0_e (k : Nat) (y : denS regletref09_fill.l0_s) : regletref09_fill.l0 (k + 1) y.1 y.2.1 y.2.2.1 y.2.2.2.1 y.2.2.2.2.2.1 y.2.2.2.2.2.2.1 y.2.2.2.2.2.2.2.1 = evP ((regletref09_fill.G Try.prog).at (regletref09_fill.E k)) (fun i => (regletref09_fill.O k)[i]?) [1, 1, 0, 1, 0, 0] (cd Try.f33) regletref09_fill.H (kFin ((regletref09_fill.G Try.prog).at (regletref09_fill.E k)) [.tmp 10] [.c false y42]) (unS regletref09_fill.l0_s y) := by rw [regletref09_fill.l0]; kernel_rfl
theorem regletref09_fill.go : goesTo Try.prog 33 := ⟨_, Try.func33, by kernel_rfl, rfl⟩
theorem regletref09_fill.ok (k : Nat) : SigOk Try.prog 33 (regletref09_fill.sig k) :=
  fn_p (G := regletref09_fill.G Try.prog) (c := cd Try.f33) (rs := [.tmp 10]) (args := [(false, y8), (false, y23), (false, (.i .i64)), (true, y22), (false, .b)]) (l := [.c false y42]) (fn := Try.f33) ⟨Try.func33, by kernel_rfl, by kernel_rfl, by kernel_rfl, le_of rfl, le_of rfl, TT_ok, AD_ok⟩ rfl regletref09_fill.E (fun k p hp => by
    simp only [regletref09_fill.E, List.mem_cons, List.not_mem_nil, or_false] at hp
    rcases hp with rfl
    · exact ⟨regletref09_least.ok k, regletref09_least.go⟩)
    (fun k i => (regletref09_fill.O k)[i]?) regletref09_fill.H (fun k x => regletref09_fill.f k x.1 x.2.1 x.2.2.1 x.2.2.2.1 x.2.2.2.2.1)
    (fun id o y h => by
    have h' := List.mem_of_getElem? h
    simp only [regletref09_fill.O, List.mem_cons, List.not_mem_nil, or_false] at h'
    rcases h' with rfl | rfl <;> rfl)
    (fun k p hp => by
    rw [show pts (cd Try.f33) regletref09_fill.H = [(1, [1, 1, 0, 1, 0, 0, 1, 0, 0, 1, 0, 0]), (0, [1, 1, 0, 1, 0, 0])] by kernel_rfl] at hp
    simp only [List.mem_cons, List.not_mem_nil, or_false] at hp
    rcases hp with rfl | rfl
    · exact ptOk_of rfl (regletref09_fill.l1_e k)
    · exact ptOk_of rfl (regletref09_fill.l0_e k))
    (fun k x => by kernel_rfl) k
/-! reglet/regletref09.Fast -/
mutual
def regletref09_Fast.j0 : Nat → (List api_Item) → Int → (List Int) → Bool → (List regletref08_Sum) → Int → api_Settings → api_Breaking → Option api_Breaking
  | 0, _, _, _, _, _, _, _, _ => none
  | k + 1, t, t2, t3, t4, t5, t6, t7, t8 => regletref09_Fast.l1 k t t2 t3 t4 t5 t6 0 0 (-1) t7 t8 (([] : List Int), t6, t4)
def regletref09_Fast.l1 : Nat → (List api_Item) → Int → (List Int) → Bool → (List regletref08_Sum) → Int → Int → Int → Int → api_Settings → api_Breaking → api_Breaking → Option api_Breaking
  | 0, _, _, _, _, _, _, _, _, _, _, _, _ => none
  | k + 1, t9, t10, t11, t12, t13, t14, t15, t16, t17, t18, t19, t20 => if (decide (t17 < (wrap64 ((t11.length : Int) - 1)))) = true then (regletref09_Fast.l2 k t9 t10 t11 t12 t13 t14 t15 t16 t17 t17 (wrap64 (t17 + 1)) t18 t19 t20) else (some t20)
def regletref09_Fast.l2 : Nat → (List api_Item) → Int → (List Int) → Bool → (List regletref08_Sum) → Int → Int → Int → Int → Int → Int → api_Settings → api_Breaking → api_Breaking → Option api_Breaking
  | 0, _, _, _, _, _, _, _, _, _, _, _, _, _, _ => none
  | k + 1, t21, t22, t23, t24, t25, t26, t27, t28, t29, t30, t31, t32, t33, t34 => if (decide (t31 < (t23.length : Int))) = true then ((regletref09_line.f k t21 t23 t29 t31 t28 t22 t32 t24).bind fun r6 => if (decide (r6.1 < 0)) = true then (regletref09_Fast.j3 k t21 t22 t23 t24 t25 t26 t27 t28 t29 t30 t31 t32 t33 t34) else ((regletref09_rest.f k t25 t23 t31 r6.2).bind fun r7 => if (decide (0 ≤ r7)) = true then ((regletref08_Total.f k t27 r6.1).bind fun r8 => (regletref08_Total.f k r8 r7).bind fun r9 => if (decide (r9 = t26)) = true then (if 0 ≤ t31 ∧ t31 < (t23.length : Int) then ((t23[t31.toNat]?).bind fun e => if (t34.1.length + ([e] : List Int).length) * 8 ≤ 140737488355328 then (regletref09_Fast.j4 k t21 t22 t23 t24 t25 t26 t27 t30 t31 r6.1 r6.2 t32 t33 (t34.1 ++ ([e] : List Int), t34.2.1, t34.2.2)) else none) else none) else (regletref09_Fast.j3 k t21 t22 t23 t24 t25 t26 t27 t28 t29 t30 t31 t32 t33 t34)) else (regletref09_Fast.j3 k t21 t22 t23 t24 t25 t26 t27 t28 t29 t30 t31 t32 t33 t34))) else (regletref09_Fast.j5 k t21 t22 t23 t24 t25 t26 t27 t28 t29 t30 t32 t33 t34)
def regletref09_Fast.j3 : Nat → (List api_Item) → Int → (List Int) → Bool → (List regletref08_Sum) → Int → Int → Int → Int → Int → Int → api_Settings → api_Breaking → api_Breaking → Option api_Breaking
  | 0, _, _, _, _, _, _, _, _, _, _, _, _, _, _ => none
  | k + 1, t35, t36, t37, t38, t39, t40, t41, t42, t43, t44, t45, t46, t47, t48 => regletref09_Fast.l2 k t35 t36 t37 t38 t39 t40 t41 t42 t43 t44 (wrap64 (t45 + 1)) t46 t47 t48
def regletref09_Fast.j4 : Nat → (List api_Item) → Int → (List Int) → Bool → (List regletref08_Sum) → Int → Int → Int → Int → Int → Int → api_Settings → api_Breaking → api_Breaking → Option api_Breaking
  | 0, _, _, _, _, _, _, _, _, _, _, _, _, _, _ => none
  | k + 1, t49, t50, t51, t52, t53, t54, t55, t56, t57, t58, t59, t60, t61, t62 => (regletref08_Total.f k t55 t58).bind fun r10 => regletref09_Fast.j5 k t49 t50 t51 t52 t53 t54 r10 t59 t57 t56 t60 t61 t62
def regletref09_Fast.j5 : Nat → (List api_Item) → Int → (List Int) → Bool → (List regletref08_Sum) → Int → Int → Int → Int → Int → api_Settings → api_Breaking → api_Breaking → Option api_Breaking
  | 0, _, _, _, _, _, _, _, _, _, _, _, _, _ => none
  | k + 1, t63, t64, t65, t66, t67, t68, t69, t70, t71, t72, t73, t74, t75 => if (decide (t71 = t72)) = true then (some t75) else (regletref09_Fast.l1 k t63 t64 t65 t66 t67 t68 t69 t70 t71 t73 t74 t75)
end
def regletref09_Fast.f (k : Nat) (a0 : List api_Item) (a1 : Int) (a2 : api_Settings) : Option api_Breaking := (regletref08_Legal.f k a0).bind fun r => (regletref09_fill.f k a0 r a1 a2 false).bind fun r2 => (regletref09_least.f k r2 a0 r (-1) 0 a1 a2 false).bind fun r3 => if (decide (r3 < 0)) = true then ((regletref09_fill.f k a0 r a1 a2 true).bind fun r4 => (regletref09_least.f k r4 a0 r (-1) 0 a1 a2 true).bind fun r5 => regletref09_Fast.j0 k a0 a1 r true r4 r5 a2 (([] : List Int), 0, (false))) else (regletref09_Fast.j0 k a0 a1 r false r2 r3 a2 (([] : List Int), 0, (false)))
def regletref09_Fast.sig (k : Nat) : Sig := .p [(false, y8), (false, (.i .i64)), (true, y22)] [.c true y74] fun x => regletref09_Fast.f k x.1 x.2.1 x.2.2.1
def regletref09_Fast.E (k : Nat) : List (Nat × Sig) := [(18, regletref08_Legal.sig k), (33, regletref09_fill.sig k), (34, regletref09_least.sig k), (35, regletref09_line.sig k), (36, regletref09_rest.sig k), (37, regletref08_Total.sig k)]
def regletref09_Fast.G (P : Program) : GI := ⟨P, TT, 112, 125, [(5, 112, 7), (6, 119, 3), (11, 122, 3)], [], [], [], [], AD⟩
def regletref09_Fast.H : H := .s .n (.s .n (.s .n (.s .n (.s .n (.j 0 .n (.s .n (.s .n (.s (.s .n (.s (.l 1 (.s .n (.s (.s .n (.j 5 (.s .n (.s (.l 2 (.s .n (.j 3 (.s (.s .n (.s .n (.s .n (.s .n (.s (.j 4 .n .n) .n))))) .n) .n))) .n)) .n)) .n))) .n)) .n))))))))
abbrev regletref09_Fast.j0_s : Sh := [(0, .v y8), (1, .v (.i .i64)), (5, .at_ 112), (6, .at_ 119), (7, .v y9), (8, .v .b), (9, .v y42), (10, .v (.i .i64)), (112, .box y22), (119, .box y74)]
abbrev regletref09_Fast.l1_s : Sh := [(0, .v y8), (1, .v (.i .i64)), (5, .at_ 112), (6, .at_ 119), (7, .v y9), (8, .v .b), (9, .v y42), (10, .v (.i .i64)), (11, .at_ 122), (12, .v (.i .i64)), (13, .v (.i .i64)), (14, .v (.i .i64)), (112, .box y22), (119, .box y74), (122, .box y74)]
abbrev regletref09_Fast.l2_s : Sh := [(0, .v y8), (1, .v (.i .i64)), (5, .at_ 112), (6, .at_ 119), (7, .v y9), (8, .v .b), (9, .v y42), (10, .v (.i .i64)), (11, .at_ 122), (12, .v (.i .i64)), (13, .v (.i .i64)), (14, .v (.i .i64)), (15, .v (.i .i64)), (16, .v (.i .i64)), (112, .box y22), (119, .box y74), (122, .box y74)]
abbrev regletref09_Fast.j3_s : Sh := [(0, .v y8), (1, .v (.i .i64)), (5, .at_ 112), (6, .at_ 119), (7, .v y9), (8, .v .b), (9, .v y42), (10, .v (.i .i64)), (11, .at_ 122), (12, .v (.i .i64)), (13, .v (.i .i64)), (14, .v (.i .i64)), (15, .v (.i .i64)), (16, .v (.i .i64)), (112, .box y22), (119, .box y74), (122, .box y74)]
abbrev regletref09_Fast.j4_s : Sh := [(0, .v y8), (1, .v (.i .i64)), (5, .at_ 112), (6, .at_ 119), (7, .v y9), (8, .v .b), (9, .v y42), (10, .v (.i .i64)), (11, .at_ 122), (12, .v (.i .i64)), (15, .v (.i .i64)), (16, .v (.i .i64)), (17, .v (.i .i64)), (18, .v (.i .i64)), (112, .box y22), (119, .box y74), (122, .box y74)]
abbrev regletref09_Fast.j5_s : Sh := [(0, .v y8), (1, .v (.i .i64)), (5, .at_ 112), (6, .at_ 119), (7, .v y9), (8, .v .b), (9, .v y42), (10, .v (.i .i64)), (11, .at_ 122), (12, .v (.i .i64)), (13, .v (.i .i64)), (14, .v (.i .i64)), (15, .v (.i .i64)), (112, .box y22), (119, .box y74), (122, .box y74)]
def regletref09_Fast.O (k : Nat) : List (Orc (denR [.c true y74])) := [⟨regletref09_Fast.j0_s, fun y => regletref09_Fast.j0 k y.1 y.2.1 y.2.2.2.2.1 y.2.2.2.2.2.1 y.2.2.2.2.2.2.1 y.2.2.2.2.2.2.2.1 y.2.2.2.2.2.2.2.2.1 y.2.2.2.2.2.2.2.2.2.1⟩, ⟨regletref09_Fast.l1_s, fun y => regletref09_Fast.l1 k y.1 y.2.1 y.2.2.2.2.1 y.2.2.2.2.2.1 y.2.2.2.2.2.2.1 y.2.2.2.2.2.2.2.1 y.2.2.2.2.2.2.2.2.2.1 y.2.2.2.2.2.2.2.2.2.2.1 y.2.2.2.2.2.2.2.2.2.2.2.1 y.2.2.2.2.2.2.2.2.2.2.2.2.1 y.2.2.2.2.2.2.2.2.2.2.2.2.2.1 y.2.2.2.2.2.2.2.2.2.2.2.2.2.2.1⟩, ⟨regletref09_Fast.l2_s, fun y => regletref09_Fast.l2 k y.1 y.2.1 y.2.2.2.2.1 y.2.2.2.2.2.1 y.2.2.2.2.2.2.1 y.2.2.2.2.2.2.2.1 y.2.2.2.2.2.2.2.2.2.1 y.2.2.2.2.2.2.2.2.2.2.1 y.2.2.2.2.2.2.2.2.2.2.2.1 y.2.2.2.2.2.2.2.2.2.2.2.2.1 y.2.2.2.2.2.2.2.2.2.2.2.2.2.1 y.2.2.2.2.2.2.2.2.2.2.2.2.2.2.1 y.2.2.2.2.2.2.2.2.2.2.2.2.2.2.2.1 y.2.2.2.2.2.2.2.2.2.2.2.2.2.2.2.2.1⟩, ⟨regletref09_Fast.j3_s, fun y => regletref09_Fast.j3 k y.1 y.2.1 y.2.2.2.2.1 y.2.2.2.2.2.1 y.2.2.2.2.2.2.1 y.2.2.2.2.2.2.2.1 y.2.2.2.2.2.2.2.2.2.1 y.2.2.2.2.2.2.2.2.2.2.1 y.2.2.2.2.2.2.2.2.2.2.2.1 y.2.2.2.2.2.2.2.2.2.2.2.2.1 y.2.2.2.2.2.2.2.2.2.2.2.2.2.1 y.2.2.2.2.2.2.2.2.2.2.2.2.2.2.1 y.2.2.2.2.2.2.2.2.2.2.2.2.2.2.2.1 y.2.2.2.2.2.2.2.2.2.2.2.2.2.2.2.2.1⟩, ⟨regletref09_Fast.j4_s, fun y => regletref09_Fast.j4 k y.1 y.2.1 y.2.2.2.2.1 y.2.2.2.2.2.1 y.2.2.2.2.2.2.1 y.2.2.2.2.2.2.2.1 y.2.2.2.2.2.2.2.2.2.1 y.2.2.2.2.2.2.2.2.2.2.1 y.2.2.2.2.2.2.2.2.2.2.2.1 y.2.2.2.2.2.2.2.2.2.2.2.2.1 y.2.2.2.2.2.2.2.2.2.2.2.2.2.1 y.2.2.2.2.2.2.2.2.2.2.2.2.2.2.1 y.2.2.2.2.2.2.2.2.2.2.2.2.2.2.2.1 y.2.2.2.2.2.2.2.2.2.2.2.2.2.2.2.2.1⟩, ⟨regletref09_Fast.j5_s, fun y => regletref09_Fast.j5 k y.1 y.2.1 y.2.2.2.2.1 y.2.2.2.2.2.1 y.2.2.2.2.2.2.1 y.2.2.2.2.2.2.2.1 y.2.2.2.2.2.2.2.2.2.1 y.2.2.2.2.2.2.2.2.2.2.1 y.2.2.2.2.2.2.2.2.2.2.2.1 y.2.2.2.2.2.2.2.2.2.2.2.2.1 y.2.2.2.2.2.2.2.2.2.2.2.2.2.1 y.2.2.2.2.2.2.2.2.2.2.2.2.2.2.1 y.2.2.2.2.2.2.2.2.2.2.2.2.2.2.2.1⟩]
theorem regletref09_Fast.j4_e (k : Nat) (y : denS regletref09_Fast.j4_s) : regletref09_Fast.j4 (k + 1) y.1 y.2.1 y.2.2.2.2.1 y.2.2.2.2.2.1 y.2.2.2.2.2.2.1 y.2.2.2.2.2.2.2.1 y.2.2.2.2.2.2.2.2.2.1 y.2.2.2.2.2.2.2.2.2.2.1 y.2.2.2.2.2.2.2.2.2.2.2.1 y.2.2.2.2.2.2.2.2.2.2.2.2.1 y.2.2.2.2.2.2.2.2.2.2.2.2.2.1 y.2.2.2.2.2.2.2.2.2.2.2.2.2.2.1 y.2.2.2.2.2.2.2.2.2.2.2.2.2.2.2.1 y.2.2.2.2.2.2.2.2.2.2.2.2.2.2.2.2.1 = evP ((regletref09_Fast.G Try.prog).at (regletref09_Fast.E k)) (fun i => (regletref09_Fast.O k)[i]?) [1, 1, 1, 1, 1, 1, 1, 1, 0, 1, 0, 0, 1, 0, 1, 0, 1, 0, 0, 1, 0, 0, 1, 1, 1, 1, 0, 1] (cd Try.f17) regletref09_Fast.H (kFin ((regletref09_Fast.G Try.prog).at (regletref09_Fast.E k)) [.cell 6 31] [.c true y74]) (unS regletref09_Fast.j4_s y) := by rw [regletref09_Fast.j4]; kernel_rfl
theorem regletref09_Fast.j3_e (k : Nat) (y : denS regletref09_Fast.j3_s) : regletref09_Fast.j3 (k + 1) y.1 y.2.1 y.2.2.2.2.1 y.2.2.2.2.2.1 y.2.2.2.2.2.2.1 y.2.2.2.2.2.2.2.1 y.2.2.2.2.2.2.2.2.2.1 y.2.2.2.2.2.2.2.2.2.2.1 y.2.2.2.2.2.2.2.2.2.2.2.1 y.2.2.2.2.2.2.2.2.2.2.2.2.1 y.2.2.2.2.2.2.2.2.2.2.2.2.2.1 y.2.2.2.2.2.2.2.2.2.2.2.2.2.2.1 y.2.2.2.2.2.2.2.2.2.2.2.2.2.2.2.1 y.2.2.2.2.2.2.2.2.2.2.2.2.2.2.2.2.1 = evP ((regletref09_Fast.G Try.prog).at (regletref09_Fast.E k)) (fun i => (regletref09_Fast.O k)[i]?) [1, 1, 1, 1, 1, 1, 1, 1, 0, 1, 0, 0, 1, 0, 1, 0, 1, 0, 0, 1, 1] (cd Try.f17) regletref09_Fast.H (kFin ((regletref09_Fast.G Try.prog).at (regletref09_Fast.E k)) [.cell 6 31] [.c true y74]) (unS regletref09_Fast.j3_s y) := by rw [regletref09_Fast.j3]; kernel_rfl
theorem regletref09_Fast.l2_e (k : Nat) (y : denS regletref09_Fast.l2_s) : regletref09_Fast.l2 (k + 1) y.1 y.2.1 y.2.2.2.2.1 y.2.2.2.2.2.1 y.2.2.2.2.2.2.1 y.2.2.2.2.2.2.2.1 y.2.2.2.2.2.2.2.2.2.1 y.2.2.2.2.2.2.2.2.2.2.1 y.2.2.2.2.2.2.2.2.2.2.2.1 y.2.2.2.2.2.2.2.2.2.2.2.2.1 y.2.2.2.2.2.2.2.2.2.2.2.2.2.1 y.2.2.2.2.2.2.2.2.2.2.2.2.2.2.1 y.2.2.2.2.2.2.2.2.2.2.2.2.2.2.2.1 y.2.2.2.2.2.2.2.2.2.2.2.2.2.2.2.2.1 = evP ((regletref09_Fast.G Try.prog).at (regletref09_Fast.E k)) (fun i => (regletref09_Fast.O k)[i]?) [1, 1, 1, 1, 1, 1, 1, 1, 0, 1, 0, 0, 1, 0, 1, 0, 1, 0, 0] (cd Try.f17) regletref09_Fast.H (kFin ((regletref09_Fast.G Try.prog).at (regletref09_Fast.E k)) [.cell 6 31] [.c true y74]) (unS regletref09_Fast.l2_s y) := by rw [regletref09_Fast.l2]; kernel_rfl
theorem regletref09_Fast.j5_e (k : Nat) (y : denS regletref09_Fast.j5_s) : regletref09_Fast.j5 (k + 1) y.1 y.2.1 y.2.2.2.2.1 y.2.2.2.2.2.1 y.2.2.2.2.2.2.1 y.2.2.2.2.2.2.2.1 y.2.2.2.2.2.2.2.2.2.1 y.2.2.2.2.2.2.2.2.2.2.1 y.2.2.2.2.2.2.2.2.2.2.2.1 y.2.2.2.2.2.2.2.2.2.2.2.2.1 y.2.2.2.2.2.2.2.2.2.2.2.2.2.1 y.2.2.2.2.2.2.2.2.2.2.2.2.2.2.1 y.2.2.2.2.2.2.2.2.2.2.2.2.2.2.2.1 = evP ((regletref09_Fast.G Try.prog).at (regletref09_Fast.E k)) (fun i => (regletref09_Fast.O k)[i]?) [1, 1, 1, 1, 1, 1, 1, 1, 0, 1, 0, 0, 1, 0, 1, 1] (cd Try.f17) regletref09_Fast.H (kFin ((regletref09_Fast.G Try.prog).at (regletref09_Fast.E k)) [.cell 6 31] [.c true y74]) (unS regletref09_Fast.j5_s y) := by rw [regletref09_Fast.j5]; kernel_rfl
theorem regletref09_Fast.l1_e (k : Nat) (y : denS regletref09_Fast.l1_s) : regletref09_Fast.l1 (k + 1) y.1 y.2.1 y.2.2.2.2.1 y.2.2.2.2.2.1 y.2.2.2.2.2.2.1 y.2.2.2.2.2.2.2.1 y.2.2.2.2.2.2.2.2.2.1 y.2.2.2.2.2.2.2.2.2.2.1 y.2.2.2.2.2.2.2.2.2.2.2.1 y.2.2.2.2.2.2.2.2.2.2.2.2.1 y.2.2.2.2.2.2.2.2.2.2.2.2.2.1 y.2.2.2.2.2.2.2.2.2.2.2.2.2.2.1 = evP ((regletref09_Fast.G Try.prog).at (regletref09_Fast.E k)) (fun i => (regletref09_Fast.O k)[i]?) [1, 1, 1, 1, 1, 1, 1, 1, 0, 1, 0, 0] (cd Try.f17) regletref09_Fast.H (kFin ((regletref09_Fast.G Try.prog).at (regletref09_Fast.E k)) [.cell 6 31] [.c true y74]) (unS regletref09_Fast.l1_s y) := by rw [regletref09_Fast.l1]; kernel_rfl
theorem regletref09_Fast.j0_e (k : Nat) (y : denS regletref09_Fast.j0_s) : regletref09_Fast.j0 (k + 1) y.1 y.2.1 y.2.2.2.2.1 y.2.2.2.2.2.1 y.2.2.2.2.2.2.1 y.2.2.2.2.2.2.2.1 y.2.2.2.2.2.2.2.2.1 y.2.2.2.2.2.2.2.2.2.1 = evP ((regletref09_Fast.G Try.prog).at (regletref09_Fast.E k)) (fun i => (regletref09_Fast.O k)[i]?) [1, 1, 1, 1, 1, 1] (cd Try.f17) regletref09_Fast.H (kFin ((regletref09_Fast.G Try.prog).at (regletref09_Fast.E k)) [.cell 6 31] [.c true y74]) (unS regletref09_Fast.j0_s y) := by rw [regletref09_Fast.j0]; kernel_rfl
theorem regletref09_Fast.go : goesTo Try.prog 17 := ⟨_, Try.func17, by kernel_rfl, rfl⟩
theorem regletref09_Fast.ok (k : Nat) : SigOk Try.prog 17 (regletref09_Fast.sig k) :=
  fn_p (G := regletref09_Fast.G Try.prog) (c := cd Try.f17) (rs := [.cell 6 31]) (args := [(false, y8), (false, (.i .i64)), (true, y22)]) (l := [.c true y74]) (fn := Try.f17) ⟨Try.func17, by kernel_rfl, by kernel_rfl, by kernel_rfl, le_of rfl, le_of rfl, TT_ok, AD_ok⟩ rfl regletref09_Fast.E (fun k p hp => by
    simp only [regletref09_Fast.E, List.mem_cons, List.not_mem_nil, or_false] at hp
    rcases hp with rfl | rfl | rfl | rfl | rfl | rfl
    · exact ⟨regletref08_Legal.ok k, regletref08_Legal.go⟩
    · exact ⟨regletref09_fill.ok k, regletref09_fill.go⟩
    · exact ⟨regletref09_least.ok k, regletref09_least.go⟩
    · exact ⟨regletref09_line.ok k, regletref09_line.go⟩
    · exact ⟨regletref09_rest.ok k, regletref09_rest.go⟩
    · exact ⟨regletref08_Total.ok k, regletref08_Total.go⟩)
    (fun k i => (regletref09_Fast.O k)[i]?) regletref09_Fast.H (fun k x => regletref09_Fast.f k x.1 x.2.1 x.2.2.1)
    (fun id o y h => by
    have h' := List.mem_of_getElem? h
    simp only [regletref09_Fast.O, List.mem_cons, List.not_mem_nil, or_false] at h'
    rcases h' with rfl | rfl | rfl | rfl | rfl | rfl <;> rfl)
    (fun k p hp => by
    rw [show pts (cd Try.f17) regletref09_Fast.H = [(4, [1, 1, 1, 1, 1, 1, 1, 1, 0, 1, 0, 0, 1, 0, 1, 0, 1, 0, 0, 1, 0, 0, 1, 1, 1, 1, 0, 1]), (3, [1, 1, 1, 1, 1, 1, 1, 1, 0, 1, 0, 0, 1, 0, 1, 0, 1, 0, 0, 1, 1]), (2, [1, 1, 1, 1, 1, 1, 1, 1, 0, 1, 0, 0, 1, 0, 1, 0, 1, 0, 0]), (5, [1, 1, 1, 1, 1, 1, 1, 1, 0, 1, 0, 0, 1, 0, 1, 1]), (1, [1, 1, 1, 1, 1, 1, 1, 1, 0, 1, 0, 0]), (0, [1, 1, 1, 1, 1, 1])] by kernel_rfl] at hp
    simp only [List.mem_cons, List.not_mem_nil, or_false] at hp
    rcases hp with rfl | rfl | rfl | rfl | rfl | rfl
    · exact ptOk_of rfl (regletref09_Fast.j4_e k)
    · exact ptOk_of rfl (regletref09_Fast.j3_e k)
    · exact ptOk_of rfl (regletref09_Fast.l2_e k)
    · exact ptOk_of rfl (regletref09_Fast.j5_e k)
    · exact ptOk_of rfl (regletref09_Fast.l1_e k)
    · exact ptOk_of rfl (regletref09_Fast.j0_e k))
    (fun k x => by kernel_rfl) k
/-! reglet/regletlaw09.BreaksLong -/
mutual
def regletlaw09_BreaksLong.j0 : Nat → (List api_Item) → Int → measure_Para → api_Settings → Option Bool
  | 0, _, _, _, _ => none
  | k + 1, l, width, p2, s => (breaks_Break.f k p2 width s).bind fun r4 => (regletref09_Fast.f k l width s).bind fun r5 => (regletref08_Legal.f k l).bind fun r6 => if (decide ((r6.length : Int) ≤ 8)) = true then ((regletref09_Break.f k l width s).bind fun r7 => (regletref09_Same.f k r5 r7).bind fun r8 => if (!r8) = true then (some false) else (regletlaw09_BreaksLong.j1 k r4.2 r4.1 r5)) else (regletlaw09_BreaksLong.j1 k r4.2 r4.1 r5)
def regletlaw09_BreaksLong.j1 : Nat → Int → api_Breaking → api_Breaking → Option Bool
  | 0, _, _, _ => none
  | k + 1, e, b, want => if (decide (e = 0)) = true then ((regletref09_Same.f k b want).bind fun r9 => some r9) else (some false)
end
def regletlaw09_BreaksLong.f (k : Nat) (a0 : List api_Item) (a1 : Int) (a2 : api_Settings) : Option Bool := (regletlaw09_awake.f k).bind fun r => if (!r) = true then (some false) else ((regletlaw09_para.f k a0 40).bind fun r2 => optK r2 (some true) fun p => (regletref09_Right.f k a1 a2).bind fun r3 => if (!r3) = true then (some true) else (regletlaw09_BreaksLong.j0 k a0 a1 p a2))
def regletlaw09_BreaksLong.sig (k : Nat) : Sig := .p [(false, y32), (false, (.i .i64)), (true, y22)] [.c false .b] fun x => regletlaw09_BreaksLong.f k x.1 x.2.1 x.2.2.1
def regletlaw09_BreaksLong.E (k : Nat) : List (Nat × Sig) := [(11, regletlaw09_awake.sig k), (12, regletlaw09_para.sig k), (13, regletref09_Right.sig k), (14, breaks_Break.sig k), (15, regletref09_Same.sig k), (16, regletref09_Break.sig k), (17, regletref09_Fast.sig k), (18, regletref08_Legal.sig k)]
def regletlaw09_BreaksLong.G (P : Program) : GI := ⟨P, TT, 54, 67, [(5, 54, 7), (8, 61, 3), (10, 64, 3)], [], [], [], [], AD⟩
def regletlaw09_BreaksLong.H : H := .s .n (.s .n (.s .n (.j 0 (.s (.f 7 .n) .n) (.s .n (.s .n (.j 1 (.s (.f 64 .n) .n) .n))))))
abbrev regletlaw09_BreaksLong.j0_s : Sh := [(0, .v y32), (1, .v (.i .i64)), (5, .at_ 54), (7, .v y41), (54, .box y22)]
abbrev regletlaw09_BreaksLong.j1_s : Sh := [(8, .at_ 61), (9, .v (.i .i64)), (10, .at_ 64), (61, .box y74), (64, .box y76)]
def regletlaw09_BreaksLong.O (k : Nat) : List (Orc (denR [.c false .b])) := [⟨regletlaw09_BreaksLong.j0_s, fun y => regletlaw09_BreaksLong.j0 k y.1 y.2.1 y.2.2.2.1 y.2.2.2.2.1⟩, ⟨regletlaw09_BreaksLong.j1_s, fun y => regletlaw09_BreaksLong.j1 k y.2.1 y.2.2.2.1 y.2.2.2.2.1⟩]
theorem regletlaw09_BreaksLong.j1_e (k : Nat) (y : denS regletlaw09_BreaksLong.j1_s) : regletlaw09_BreaksLong.j1 (k + 1) y.2.1 y.2.2.2.1 y.2.2.2.2.1 = evP ((regletlaw09_BreaksLong.G Try.prog).at (regletlaw09_BreaksLong.E k)) (fun i => (regletlaw09_BreaksLong.O k)[i]?) [1, 1, 1, 1, 1, 1, 1] (cd Try.f4) regletlaw09_BreaksLong.H (kFin ((regletlaw09_BreaksLong.G Try.prog).at (regletlaw09_BreaksLong.E k)) [.tmp 6] [.c false .b]) (unS regletlaw09_BreaksLong.j1_s y) := by rw [regletlaw09_BreaksLong.j1]; kernel_rfl
theorem regletlaw09_BreaksLong.j0_e (k : Nat) (y : denS regletlaw09_BreaksLong.j0_s) : regletlaw09_BreaksLong.j0 (k + 1) y.1 y.2.1 y.2.2.2.1 y.2.2.2.2.1 = evP ((regletlaw09_BreaksLong.G Try.prog).at (regletlaw09_BreaksLong.E k)) (fun i => (regletlaw09_BreaksLong.O k)[i]?) [1, 1, 1, 1] (cd Try.f4) regletlaw09_BreaksLong.H (kFin ((regletlaw09_BreaksLong.G Try.prog).at (regletlaw09_BreaksLong.E k)) [.tmp 6] [.c false .b]) (unS regletlaw09_BreaksLong.j0_s y) := by rw [regletlaw09_BreaksLong.j0]; kernel_rfl
theorem regletlaw09_BreaksLong.go : goesTo Try.prog 4 := ⟨_, Try.func4, by kernel_rfl, rfl⟩
theorem regletlaw09_BreaksLong.ok (k : Nat) : SigOk Try.prog 4 (regletlaw09_BreaksLong.sig k) :=
  fn_p (G := regletlaw09_BreaksLong.G Try.prog) (c := cd Try.f4) (rs := [.tmp 6]) (args := [(false, y32), (false, (.i .i64)), (true, y22)]) (l := [.c false .b]) (fn := Try.f4) ⟨Try.func4, by kernel_rfl, by kernel_rfl, by kernel_rfl, le_of rfl, le_of rfl, TT_ok, AD_ok⟩ rfl regletlaw09_BreaksLong.E (fun k p hp => by
    simp only [regletlaw09_BreaksLong.E, List.mem_cons, List.not_mem_nil, or_false] at hp
    rcases hp with rfl | rfl | rfl | rfl | rfl | rfl | rfl | rfl
    · exact ⟨regletlaw09_awake.ok k, regletlaw09_awake.go⟩
    · exact ⟨regletlaw09_para.ok k, regletlaw09_para.go⟩
    · exact ⟨regletref09_Right.ok k, regletref09_Right.go⟩
    · exact ⟨breaks_Break.ok k, breaks_Break.go⟩
    · exact ⟨regletref09_Same.ok k, regletref09_Same.go⟩
    · exact ⟨regletref09_Break.ok k, regletref09_Break.go⟩
    · exact ⟨regletref09_Fast.ok k, regletref09_Fast.go⟩
    · exact ⟨regletref08_Legal.ok k, regletref08_Legal.go⟩)
    (fun k i => (regletlaw09_BreaksLong.O k)[i]?) regletlaw09_BreaksLong.H (fun k x => regletlaw09_BreaksLong.f k x.1 x.2.1 x.2.2.1)
    (fun id o y h => by
    have h' := List.mem_of_getElem? h
    simp only [regletlaw09_BreaksLong.O, List.mem_cons, List.not_mem_nil, or_false] at h'
    rcases h' with rfl | rfl <;> rfl)
    (fun k p hp => by
    rw [show pts (cd Try.f4) regletlaw09_BreaksLong.H = [(1, [1, 1, 1, 1, 1, 1, 1]), (0, [1, 1, 1, 1])] by kernel_rfl] at hp
    simp only [List.mem_cons, List.not_mem_nil, or_false] at hp
    rcases hp with rfl | rfl
    · exact ptOk_of rfl (regletlaw09_BreaksLong.j1_e k)
    · exact ptOk_of rfl (regletlaw09_BreaksLong.j0_e k))
    (fun k x => by kernel_rfl) k
end Go.Proofs.Ytpnodmiincdljaa.Vm
