-- PRINTED by vq.py. Not trusted: Lean checks it.
import Derived.Test.YtpnodmiincdljaaQ0
namespace Go.Proofs.Ytpnodmiincdljaa.Vm
open Go
open _root_.Go.RowKit (wrap64)
set_option maxRecDepth 100000
set_option linter.unusedVariables false
/-! reglet/regletref07.Legal -/
mutual
def regletref07_Legal.j0 : Nat → (List api_Item) → Int → Option Bool
  | 0, _, _ => none
  | k + 1, list, k_ => (at? list k_).bind fun e => if (decide (e.1 = 3)) = true then ((at? list k_).bind fun e2 => some (decide (e2.2.2.2.2.2.1 < 10000))) else ((at? list k_).bind fun e3 => if (decide (e3.1 = 2)) = true then ((at? list k_).bind fun e4 => if (!e4.2.2.2.2.1) = true then (if (decide (0 < k_)) = true then ((at? list (wrap64 (k_ - 1))).bind fun e5 => some (decide (e5.1 = 1))) else (some false)) else (some false)) else (some false))
end
def regletref07_Legal.f (k : Nat) (a0 : List api_Item) (a1 : Int) : Option Bool := if (decide (a1 < 0)) = true then (some false) else (if (decide ((a0.length : Int) ≤ a1)) = true then (some false) else (regletref07_Legal.j0 k a0 a1))
def regletref07_Legal.sig (k : Nat) : Sig := .p [(false, y8), (false, (.i .i64))] [.c false .b] fun x => regletref07_Legal.f k x.1 x.2.1
def regletref07_Legal.E (k : Nat) : List (Nat × Sig) := []
def regletref07_Legal.G (P : Program) : GI := ⟨P, TT, 52, 52, [], [], [], [], [], AD⟩
def regletref07_Legal.H : H := .s .n (.j 0 .n .n)
abbrev regletref07_Legal.j0_s : Sh := [(0, .v y8), (1, .v (.i .i64))]
def regletref07_Legal.O (k : Nat) : List (Orc (denR [.c false .b])) := [⟨regletref07_Legal.j0_s, fun y => regletref07_Legal.j0 k y.1 y.2.1⟩]
theorem regletref07_Legal.j0_e (k : Nat) (y : denS regletref07_Legal.j0_s) : regletref07_Legal.j0 (k + 1) y.1 y.2.1 = evP ((regletref07_Legal.G Try.prog).at (regletref07_Legal.E k)) (fun i => (regletref07_Legal.O k)[i]?) [1, 1] (cd Try.f22) regletref07_Legal.H (kFin ((regletref07_Legal.G Try.prog).at (regletref07_Legal.E k)) [.tmp 4] [.c false .b]) (unS regletref07_Legal.j0_s y) := by rw [regletref07_Legal.j0]; kernel_rfl
theorem regletref07_Legal.go : goesTo Try.prog 22 := ⟨_, Try.func22, by kernel_rfl, rfl⟩
theorem regletref07_Legal.ok (k : Nat) : SigOk Try.prog 22 (regletref07_Legal.sig k) :=
  fn_p (G := regletref07_Legal.G Try.prog) (c := cd Try.f22) (rs := [.tmp 4]) (args := [(false, y8), (false, (.i .i64))]) (l := [.c false .b]) (fn := Try.f22) ⟨Try.func22, by kernel_rfl, by kernel_rfl, by kernel_rfl, le_of rfl, le_of rfl, TT_ok, AD_ok⟩ rfl regletref07_Legal.E (fun k p hp => nomatch hp)
    (fun k i => (regletref07_Legal.O k)[i]?) regletref07_Legal.H (fun k x => regletref07_Legal.f k x.1 x.2.1)
    (fun id o y h => by
    have h' := List.mem_of_getElem? h
    simp only [regletref07_Legal.O, List.mem_cons, List.not_mem_nil, or_false] at h'
    rcases h' with rfl <;> rfl)
    (fun k p hp => by
    rw [show pts (cd Try.f22) regletref07_Legal.H = [(0, [1, 1])] by kernel_rfl] at hp
    simp only [List.mem_cons, List.not_mem_nil, or_false] at hp
    rcases hp with rfl
    · exact ptOk_of rfl (regletref07_Legal.j0_e k))
    (fun k x => by kernel_rfl) k
/-! reglet/regletref08.Legal -/
mutual
def regletref08_Legal.l0 : Nat → (List api_Item) → (List Int) → Int → Option (List Int)
  | 0, _, _, _ => none
  | k + 1, l, out, k_ => if (decide (k_ < (l.length : Int))) = true then ((regletref07_Legal.f k l k_).bind fun r => if r = true then (if (out.length + ([k_] : List Int).length) * 8 ≤ 140737488355328 then (regletref08_Legal.j1 k l (out ++ ([k_] : List Int)) k_) else none) else (regletref08_Legal.j1 k l out k_)) else (some out)
def regletref08_Legal.j1 : Nat → (List api_Item) → (List Int) → Int → Option (List Int)
  | 0, _, _, _ => none
  | k + 1, l2, out2, k_2 => regletref08_Legal.l0 k l2 out2 (wrap64 (k_2 + 1))
end
def regletref08_Legal.f (k : Nat) (a0 : List api_Item) : Option (List Int) := regletref08_Legal.l0 k a0 ([] : List Int) 0
def regletref08_Legal.sig (k : Nat) : Sig := .p [(false, y8)] [.c false y9] fun x => regletref08_Legal.f k x.1
def regletref08_Legal.E (k : Nat) : List (Nat × Sig) := [(22, regletref07_Legal.sig k)]
def regletref08_Legal.G (P : Program) : GI := ⟨P, TT, 19, 19, [], [], [], [], [], AD⟩
def regletref08_Legal.H : H := .s .n (.s .n (.s (.s .n (.s (.l 0 (.s .n (.j 1 .n .n))) .n)) .n))
abbrev regletref08_Legal.l0_s : Sh := [(0, .v y8), (3, .v y9), (4, .v (.i .i64))]
abbrev regletref08_Legal.j1_s : Sh := [(0, .v y8), (3, .v y9), (4, .v (.i .i64))]
def regletref08_Legal.O (k : Nat) : List (Orc (denR [.c false y9])) := [⟨regletref08_Legal.l0_s, fun y => regletref08_Legal.l0 k y.1 y.2.1 y.2.2.1⟩, ⟨regletref08_Legal.j1_s, fun y => regletref08_Legal.j1 k y.1 y.2.1 y.2.2.1⟩]
theorem regletref08_Legal.j1_e (k : Nat) (y : denS regletref08_Legal.j1_s) : regletref08_Legal.j1 (k + 1) y.1 y.2.1 y.2.2.1 = evP ((regletref08_Legal.G Try.prog).at (regletref08_Legal.E k)) (fun i => (regletref08_Legal.O k)[i]?) [1, 1, 0, 1, 0, 0, 1, 1] (cd Try.f18) regletref08_Legal.H (kFin ((regletref08_Legal.G Try.prog).at (regletref08_Legal.E k)) [.tmp 2] [.c false y9]) (unS regletref08_Legal.j1_s y) := by rw [regletref08_Legal.j1]; kernel_rfl
theorem regletref08_Legal.l0_e (k : Nat) (y : denS regletref08_Legal.l0_s) : regletref08_Legal.l0 (k + 1) y.1 y.2.1 y.2.2.1 = evP ((regletref08_Legal.G Try.prog).at (regletref08_Legal.E k)) (fun i => (regletref08_Legal.O k)[i]?) [1, 1, 0, 1, 0, 0] (cd Try.f18) regletref08_Legal.H (kFin ((regletref08_Legal.G Try.prog).at (regletref08_Legal.E k)) [.tmp 2] [.c false y9]) (unS regletref08_Legal.l0_s y) := by rw [regletref08_Legal.l0]; kernel_rfl
theorem regletref08_Legal.go : goesTo Try.prog 18 := ⟨_, Try.func18, by kernel_rfl, rfl⟩
theorem regletref08_Legal.ok (k : Nat) : SigOk Try.prog 18 (regletref08_Legal.sig k) :=
  fn_p (G := regletref08_Legal.G Try.prog) (c := cd Try.f18) (rs := [.tmp 2]) (args := [(false, y8)]) (l := [.c false y9]) (fn := Try.f18) ⟨Try.func18, by kernel_rfl, by kernel_rfl, by kernel_rfl, le_of rfl, le_of rfl, TT_ok, AD_ok⟩ rfl regletref08_Legal.E (fun k p hp => by
    simp only [regletref08_Legal.E, List.mem_cons, List.not_mem_nil, or_false] at hp
    rcases hp with rfl
    · exact ⟨regletref07_Legal.ok k, regletref07_Legal.go⟩)
    (fun k i => (regletref08_Legal.O k)[i]?) regletref08_Legal.H (fun k x => regletref08_Legal.f k x.1)
    (fun id o y h => by
    have h' := List.mem_of_getElem? h
    simp only [regletref08_Legal.O, List.mem_cons, List.not_mem_nil, or_false] at h'
    rcases h' with rfl | rfl <;> rfl)
    (fun k p hp => by
    rw [show pts (cd Try.f18) regletref08_Legal.H = [(1, [1, 1, 0, 1, 0, 0, 1, 1]), (0, [1, 1, 0, 1, 0, 0])] by kernel_rfl] at hp
    simp only [List.mem_cons, List.not_mem_nil, or_false] at hp
    rcases hp with rfl | rfl
    · exact ptOk_of rfl (regletref08_Legal.j1_e k)
    · exact ptOk_of rfl (regletref08_Legal.l0_e k))
    (fun k x => by kernel_rfl) k
/-! reglet/regletref07.Forced -/
def regletref07_Forced.f (k : Nat) (a0 : api_Item) : Option Bool := if (decide (a0.1 = 3)) = true then (some (decide (a0.2.2.2.2.2.1 ≤ (-10000)))) else (some false)
def regletref07_Forced.sig (k : Nat) : Sig := .p [(true, y7)] [.c false .b] fun x => regletref07_Forced.f k x.1
def regletref07_Forced.E (k : Nat) : List (Nat × Sig) := []
def regletref07_Forced.G (P : Program) : GI := ⟨P, TT, 11, 20, [(1, 11, 9)], [], [], [], [], AD⟩
def regletref07_Forced.H : H := .n
def regletref07_Forced.O (k : Nat) : List (Orc (denR [.c false .b])) := []
theorem regletref07_Forced.go : goesTo Try.prog 21 := ⟨_, Try.func21, by kernel_rfl, rfl⟩
theorem regletref07_Forced.ok (k : Nat) : SigOk Try.prog 21 (regletref07_Forced.sig k) :=
  fn_p (G := regletref07_Forced.G Try.prog) (c := cd Try.f21) (rs := [.tmp 2]) (args := [(true, y7)]) (l := [.c false .b]) (fn := Try.f21) ⟨Try.func21, by kernel_rfl, by kernel_rfl, by kernel_rfl, le_of rfl, le_of rfl, TT_ok, AD_ok⟩ rfl regletref07_Forced.E (fun k p hp => nomatch hp)
    (fun k i => (regletref07_Forced.O k)[i]?) regletref07_Forced.H (fun k x => regletref07_Forced.f k x.1)
    (fun id o y h => by cases id <;> cases h)
    (fun k p hp => by rw [show pts (cd Try.f21) regletref07_Forced.H = [] by kernel_rfl] at hp; nomatch hp)
    (fun k x => by kernel_rfl) k
/-! reglet/regletref07.one -/
mutual
def regletref07_one.l0 : Nat → (List Int) → Int → api_Item → Option Bool
  | 0, _, _, _ => none
  | k + 1, t, t2, t3 => if (decide (t2 < (t.length : Int))) = true then (if 0 ≤ t2 ∧ t2 < (t.length : Int) then ((t[t2.toNat]?).bind fun e => if (decide (e < 0)) = true then (some false) else (if 0 ≤ t2 ∧ t2 < (t.length : Int) then ((t[t2.toNat]?).bind fun e2 => if (decide (68719476736 < e2)) = true then (some false) else (regletref07_one.j1 k t t2 t3)) else none)) else none) else (if (decide (t3.2.1 < t3.2.2.2.1)) = true then (some false) else (if (decide (t3.1 = 1)) = true then (some (decide (t3.1 = 1) && (decide (t3.2.1 = t3.2.1) && (decide (t3.2.2.1 = 0) && (decide (t3.2.2.2.1 = 0) && (decide (t3.2.2.2.2.1 = (false)) && (decide (t3.2.2.2.2.2.1 = 0) && (decide (t3.2.2.2.2.2.2.1 = (false)) && (decide (t3.2.2.2.2.2.2.2.1 = t3.2.2.2.2.2.2.2.1) && (decide (t3.2.2.2.2.2.2.2.2 = t3.2.2.2.2.2.2.2.2) && true)))))))))) else (if (decide (t3.1 = 2)) = true then (if t3.2.2.2.2.1 = true then (some (decide (t3.1 = 2) && (decide (t3.2.1 = 0) && (decide (t3.2.2.1 = 0) && (decide (t3.2.2.2.1 = 0) && (decide (t3.2.2.2.2.1 = (true)) && (decide (t3.2.2.2.2.2.1 = 0) && (decide (t3.2.2.2.2.2.2.1 = (false)) && (decide (t3.2.2.2.2.2.2.2.1 = t3.2.2.2.2.2.2.2.1) && (decide (t3.2.2.2.2.2.2.2.2 = t3.2.2.2.2.2.2.2.2) && true)))))))))) else (if (decide (t3.2.2.2.2.2.1 = 0)) = true then (some (!t3.2.2.2.2.2.2.1)) else (some false))) else (if (decide (t3.1 = 3)) = true then (if (decide (t3.2.2.1 = 0)) = true then (if (decide (t3.2.2.2.1 = 0)) = true then (if (!t3.2.2.2.2.1) = true then (if (decide ((-10000) ≤ t3.2.2.2.2.2.1)) = true then (some (decide (t3.2.2.2.2.2.1 ≤ 10000))) else (some false)) else (some false)) else (some false)) else (some false)) else (some false)))))
def regletref07_one.j1 : Nat → (List Int) → Int → api_Item → Option Bool
  | 0, _, _, _ => none
  | k + 1, t4, t5, t6 => regletref07_one.l0 k t4 (wrap64 (t5 + 1)) t6
end
def regletref07_one.f (k : Nat) (a0 : api_Item) : Option Bool := regletref07_one.l0 k ([a0.2.1, a0.2.2.1, a0.2.2.2.1] : List Int) 0 a0
def regletref07_one.sig (k : Nat) : Sig := .p [(true, y7)] [.c false .b] fun x => regletref07_one.f k x.1
def regletref07_one.E (k : Nat) : List (Nat × Sig) := []
def regletref07_one.G (P : Program) : GI := ⟨P, TT, 92, 101, [(1, 92, 9)], [], [], [], [], AD⟩
def regletref07_one.H : H := .s .n (.s .n (.s (.s .n (.s (.l 0 (.s .n (.j 1 .n .n))) .n)) .n))
abbrev regletref07_one.l0_s : Sh := [(1, .at_ 92), (3, .v y9), (4, .v (.i .i64)), (92, .box y7)]
abbrev regletref07_one.j1_s : Sh := [(1, .at_ 92), (3, .v y9), (4, .v (.i .i64)), (92, .box y7)]
def regletref07_one.O (k : Nat) : List (Orc (denR [.c false .b])) := [⟨regletref07_one.l0_s, fun y => regletref07_one.l0 k y.2.1 y.2.2.1 y.2.2.2.1⟩, ⟨regletref07_one.j1_s, fun y => regletref07_one.j1 k y.2.1 y.2.2.1 y.2.2.2.1⟩]
theorem regletref07_one.j1_e (k : Nat) (y : denS regletref07_one.j1_s) : regletref07_one.j1 (k + 1) y.2.1 y.2.2.1 y.2.2.2.1 = evP ((regletref07_one.G Try.prog).at (regletref07_one.E k)) (fun i => (regletref07_one.O k)[i]?) [1, 1, 0, 1, 0, 0, 1, 1] (cd Try.f45) regletref07_one.H (kFin ((regletref07_one.G Try.prog).at (regletref07_one.E k)) [.tmp 2] [.c false .b]) (unS regletref07_one.j1_s y) := by rw [regletref07_one.j1]; kernel_rfl
theorem regletref07_one.l0_e (k : Nat) (y : denS regletref07_one.l0_s) : regletref07_one.l0 (k + 1) y.2.1 y.2.2.1 y.2.2.2.1 = evP ((regletref07_one.G Try.prog).at (regletref07_one.E k)) (fun i => (regletref07_one.O k)[i]?) [1, 1, 0, 1, 0, 0] (cd Try.f45) regletref07_one.H (kFin ((regletref07_one.G Try.prog).at (regletref07_one.E k)) [.tmp 2] [.c false .b]) (unS regletref07_one.l0_s y) := by rw [regletref07_one.l0]; kernel_rfl
theorem regletref07_one.go : goesTo Try.prog 45 := ⟨_, Try.func45, by kernel_rfl, rfl⟩
theorem regletref07_one.ok (k : Nat) : SigOk Try.prog 45 (regletref07_one.sig k) :=
  fn_p (G := regletref07_one.G Try.prog) (c := cd Try.f45) (rs := [.tmp 2]) (args := [(true, y7)]) (l := [.c false .b]) (fn := Try.f45) ⟨Try.func45, by kernel_rfl, by kernel_rfl, by kernel_rfl, le_of rfl, le_of rfl, TT_ok, AD_ok⟩ rfl regletref07_one.E (fun k p hp => nomatch hp)
    (fun k i => (regletref07_one.O k)[i]?) regletref07_one.H (fun k x => regletref07_one.f k x.1)
    (fun id o y h => by
    have h' := List.mem_of_getElem? h
    simp only [regletref07_one.O, List.mem_cons, List.not_mem_nil, or_false] at h'
    rcases h' with rfl | rfl <;> rfl)
    (fun k p hp => by
    rw [show pts (cd Try.f45) regletref07_one.H = [(1, [1, 1, 0, 1, 0, 0, 1, 1]), (0, [1, 1, 0, 1, 0, 0])] by kernel_rfl] at hp
    simp only [List.mem_cons, List.not_mem_nil, or_false] at hp
    rcases hp with rfl | rfl
    · exact ptOk_of rfl (regletref07_one.j1_e k)
    · exact ptOk_of rfl (regletref07_one.l0_e k))
    (fun k x => by kernel_rfl) k
/-! reglet/regletref07.Right -/
mutual
def regletref07_Right.j0 : Nat → (List api_Item) → Option Bool
  | 0, _ => none
  | k + 1, t => regletref07_Right.l1 k t 0
def regletref07_Right.l1 : Nat → (List api_Item) → Int → Option Bool
  | 0, _, _ => none
  | k + 1, t2, t3 => if (decide (t3 < (t2.length : Int))) = true then (if (decide (0 < t3)) = true then ((at? t2 t3).bind fun e3 => (at? t2 (wrap64 (t3 - 1))).bind fun e4 => if (!decide (e3.2.2.2.2.2.2.2.1 = e4.2.2.2.2.2.2.2.2)) = true then (some false) else ((at? t2 t3).bind fun e5 => (at? t2 t3).bind fun e6 => if (decide (e5.2.2.2.2.2.2.2.2 < e6.2.2.2.2.2.2.2.1)) = true then (some false) else ((at? t2 t3).bind fun e7 => if (decide (65536 < e7.2.2.2.2.2.2.2.2)) = true then (some false) else ((at? t2 t3).bind fun e8 => (regletref07_one.f k e8).bind fun r2 => if (!r2) = true then (some false) else (regletref07_Right.j2 k t2 t3))))) else ((at? t2 t3).bind fun e9 => (at? t2 t3).bind fun e10 => if (decide (e9.2.2.2.2.2.2.2.2 < e10.2.2.2.2.2.2.2.1)) = true then (some false) else ((at? t2 t3).bind fun e11 => if (decide (65536 < e11.2.2.2.2.2.2.2.2)) = true then (some false) else ((at? t2 t3).bind fun e12 => (regletref07_one.f k e12).bind fun r3 => if (!r3) = true then (some false) else (regletref07_Right.j2 k t2 t3))))) else (some true)
def regletref07_Right.j2 : Nat → (List api_Item) → Int → Option Bool
  | 0, _, _ => none
  | k + 1, t4, t5 => regletref07_Right.l1 k t4 (wrap64 (t5 + 1))
end
def regletref07_Right.f (k : Nat) (a0 : List api_Item) : Option Bool := if (decide ((a0.length : Int) = 0)) = true then (some false) else (if (decide (262144 < (a0.length : Int))) = true then (some false) else ((at? a0 (wrap64 ((a0.length : Int) - 1))).bind fun e => (regletref07_Forced.f k e).bind fun r => if (!r) = true then (some false) else ((at? a0 0).bind fun e2 => if (!decide (e2.2.2.2.2.2.2.2.1 = 0)) = true then (some false) else (regletref07_Right.j0 k a0))))
def regletref07_Right.sig (k : Nat) : Sig := .p [(false, y8)] [.c false .b] fun x => regletref07_Right.f k x.1
def regletref07_Right.E (k : Nat) : List (Nat × Sig) := [(21, regletref07_Forced.sig k), (45, regletref07_one.sig k)]
def regletref07_Right.G (P : Program) : GI := ⟨P, TT, 80, 80, [], [], [], [], [], AD⟩
def regletref07_Right.H : H := .s .n (.j 0 .n (.s (.s .n (.s (.l 1 (.s .n (.j 2 .n .n))) .n)) .n))
abbrev regletref07_Right.j0_s : Sh := [(0, .v y8)]
abbrev regletref07_Right.l1_s : Sh := [(0, .v y8), (3, .v (.i .i64))]
abbrev regletref07_Right.j2_s : Sh := [(0, .v y8), (3, .v (.i .i64))]
def regletref07_Right.O (k : Nat) : List (Orc (denR [.c false .b])) := [⟨regletref07_Right.j0_s, fun y => regletref07_Right.j0 k y.1⟩, ⟨regletref07_Right.l1_s, fun y => regletref07_Right.l1 k y.1 y.2.1⟩, ⟨regletref07_Right.j2_s, fun y => regletref07_Right.j2 k y.1 y.2.1⟩]
theorem regletref07_Right.j2_e (k : Nat) (y : denS regletref07_Right.j2_s) : regletref07_Right.j2 (k + 1) y.1 y.2.1 = evP ((regletref07_Right.G Try.prog).at (regletref07_Right.E k)) (fun i => (regletref07_Right.O k)[i]?) [1, 1, 0, 1, 0, 0, 1, 1] (cd Try.f27) regletref07_Right.H (kFin ((regletref07_Right.G Try.prog).at (regletref07_Right.E k)) [.tmp 2] [.c false .b]) (unS regletref07_Right.j2_s y) := by rw [regletref07_Right.j2]; kernel_rfl
theorem regletref07_Right.l1_e (k : Nat) (y : denS regletref07_Right.l1_s) : regletref07_Right.l1 (k + 1) y.1 y.2.1 = evP ((regletref07_Right.G Try.prog).at (regletref07_Right.E k)) (fun i => (regletref07_Right.O k)[i]?) [1, 1, 0, 1, 0, 0] (cd Try.f27) regletref07_Right.H (kFin ((regletref07_Right.G Try.prog).at (regletref07_Right.E k)) [.tmp 2] [.c false .b]) (unS regletref07_Right.l1_s y) := by rw [regletref07_Right.l1]; kernel_rfl
theorem regletref07_Right.j0_e (k : Nat) (y : denS regletref07_Right.j0_s) : regletref07_Right.j0 (k + 1) y.1 = evP ((regletref07_Right.G Try.prog).at (regletref07_Right.E k)) (fun i => (regletref07_Right.O k)[i]?) [1, 1] (cd Try.f27) regletref07_Right.H (kFin ((regletref07_Right.G Try.prog).at (regletref07_Right.E k)) [.tmp 2] [.c false .b]) (unS regletref07_Right.j0_s y) := by rw [regletref07_Right.j0]; kernel_rfl
theorem regletref07_Right.go : goesTo Try.prog 27 := ⟨_, Try.func27, by kernel_rfl, rfl⟩
theorem regletref07_Right.ok (k : Nat) : SigOk Try.prog 27 (regletref07_Right.sig k) :=
  fn_p (G := regletref07_Right.G Try.prog) (c := cd Try.f27) (rs := [.tmp 2]) (args := [(false, y8)]) (l := [.c false .b]) (fn := Try.f27) ⟨Try.func27, by kernel_rfl, by kernel_rfl, by kernel_rfl, le_of rfl, le_of rfl, TT_ok, AD_ok⟩ rfl regletref07_Right.E (fun k p hp => by
    simp only [regletref07_Right.E, List.mem_cons, List.not_mem_nil, or_false] at hp
    rcases hp with rfl | rfl
    · exact ⟨regletref07_Forced.ok k, regletref07_Forced.go⟩
    · exact ⟨regletref07_one.ok k, regletref07_one.go⟩)
    (fun k i => (regletref07_Right.O k)[i]?) regletref07_Right.H (fun k x => regletref07_Right.f k x.1)
    (fun id o y h => by
    have h' := List.mem_of_getElem? h
    simp only [regletref07_Right.O, List.mem_cons, List.not_mem_nil, or_false] at h'
    rcases h' with rfl | rfl | rfl <;> rfl)
    (fun k p hp => by
    rw [show pts (cd Try.f27) regletref07_Right.H = [(2, [1, 1, 0, 1, 0, 0, 1, 1]), (1, [1, 1, 0, 1, 0, 0]), (0, [1, 1])] by kernel_rfl] at hp
    simp only [List.mem_cons, List.not_mem_nil, or_false] at hp
    rcases hp with rfl | rfl | rfl
    · exact ptOk_of rfl (regletref07_Right.j2_e k)
    · exact ptOk_of rfl (regletref07_Right.l1_e k)
    · exact ptOk_of rfl (regletref07_Right.j0_e k))
    (fun k x => by kernel_rfl) k
/-! reglet/items.Forced -/
def items_Forced.f (k : Nat) (a0 : api_Item) : Option Bool := if (decide (a0.1 = 3)) = true then (some (decide (a0.2.2.2.2.2.1 ≤ (-10000)))) else (some false)
def items_Forced.sig (k : Nat) : Sig := .p [(true, y7)] [.c false .b] fun x => items_Forced.f k x.1
def items_Forced.E (k : Nat) : List (Nat × Sig) := []
def items_Forced.G (P : Program) : GI := ⟨P, TT, 11, 20, [(1, 11, 9)], [], [], [], [], AD⟩
def items_Forced.H : H := .n
def items_Forced.O (k : Nat) : List (Orc (denR [.c false .b])) := []
theorem items_Forced.go : goesTo Try.prog 48 := ⟨_, Try.func48, by kernel_rfl, rfl⟩
theorem items_Forced.ok (k : Nat) : SigOk Try.prog 48 (items_Forced.sig k) :=
  fn_p (G := items_Forced.G Try.prog) (c := cd Try.f48) (rs := [.tmp 2]) (args := [(true, y7)]) (l := [.c false .b]) (fn := Try.f48) ⟨Try.func48, by kernel_rfl, by kernel_rfl, by kernel_rfl, le_of rfl, le_of rfl, TT_ok, AD_ok⟩ rfl items_Forced.E (fun k p hp => nomatch hp)
    (fun k i => (items_Forced.O k)[i]?) items_Forced.H (fun k x => items_Forced.f k x.1)
    (fun id o y h => by cases id <;> cases h)
    (fun k p hp => by rw [show pts (cd Try.f48) items_Forced.H = [] by kernel_rfl] at hp; nomatch hp)
    (fun k x => by kernel_rfl) k
/-! reglet/items.measure -/
def items_measure.f (k : Nat) (a0 : Int) : Option Bool := if (decide (0 ≤ a0)) = true then (some (decide (a0 ≤ 68719476736))) else (some false)
def items_measure.sig (k : Nat) : Sig := .p [(false, (.i .i64))] [.c false .b] fun x => items_measure.f k x.1
def items_measure.E (k : Nat) : List (Nat × Sig) := []
def items_measure.G (P : Program) : GI := ⟨P, TT, 9, 9, [], [], [], [], [], AD⟩
def items_measure.H : H := .n
def items_measure.O (k : Nat) : List (Orc (denR [.c false .b])) := []
theorem items_measure.go : goesTo Try.prog 73 := ⟨_, Try.func73, by kernel_rfl, rfl⟩
theorem items_measure.ok (k : Nat) : SigOk Try.prog 73 (items_measure.sig k) :=
  fn_p (G := items_measure.G Try.prog) (c := cd Try.f73) (rs := [.tmp 2]) (args := [(false, (.i .i64))]) (l := [.c false .b]) (fn := Try.f73) ⟨Try.func73, by kernel_rfl, by kernel_rfl, by kernel_rfl, le_of rfl, le_of rfl, TT_ok, AD_ok⟩ rfl items_measure.E (fun k p hp => nomatch hp)
    (fun k i => (items_measure.O k)[i]?) items_measure.H (fun k x => items_measure.f k x.1)
    (fun id o y h => by cases id <;> cases h)
    (fun k p hp => by rw [show pts (cd Try.f73) items_measure.H = [] by kernel_rfl] at hp; nomatch hp)
    (fun k x => by kernel_rfl) k
/-! reglet/items.fits -/
mutual
def items_fits.j0 : Nat → api_Item → Option Bool
  | 0, _ => none
  | k + 1, t => if (decide (t.1 = 1)) = true then (if (decide (t.2.2.1 = 0)) = true then (if (decide (t.2.2.2.1 = 0)) = true then (if (decide (t.2.2.2.2.2.1 = 0)) = true then (if (!t.2.2.2.2.1) = true then (some (!t.2.2.2.2.2.2.1)) else (some false)) else (some false)) else (some false)) else (some false)) else (if (decide (t.1 = 2)) = true then (if (decide (t.2.2.2.2.2.1 = 0)) = true then (if (!t.2.2.2.2.2.2.1) = true then (if (!t.2.2.2.2.1) = true then (some true) else (if (decide (t.2.1 = 0)) = true then (some (decide (t.2.2.1 = 0))) else (some false))) else (some false)) else (some false)) else (if (decide (t.1 = 3)) = true then (if (decide (t.2.2.1 = 0)) = true then (if (decide (t.2.2.2.1 = 0)) = true then (if (!t.2.2.2.2.1) = true then (if (decide ((-10000) ≤ t.2.2.2.2.2.1)) = true then (some (decide (t.2.2.2.2.2.1 ≤ 10000))) else (some false)) else (some false)) else (some false)) else (some false)) else (some false)))
end
def items_fits.f (k : Nat) (a0 : api_Item) : Option Bool := (items_measure.f k a0.2.1).bind fun r => if (!r) = true then (some false) else ((items_measure.f k a0.2.2.1).bind fun r2 => if (!r2) = true then (some false) else ((items_measure.f k a0.2.2.2.1).bind fun r3 => if (!r3) = true then (some false) else (if (decide (a0.2.1 < a0.2.2.2.1)) = true then (some false) else (items_fits.j0 k a0))))
def items_fits.sig (k : Nat) : Sig := .p [(true, y7)] [.c false .b] fun x => items_fits.f k x.1
def items_fits.E (k : Nat) : List (Nat × Sig) := [(73, items_measure.sig k)]
def items_fits.G (P : Program) : GI := ⟨P, TT, 103, 112, [(1, 103, 9)], [], [], [], [], AD⟩
def items_fits.H : H := .s .n (.j 0 .n .n)
abbrev items_fits.j0_s : Sh := [(1, .at_ 103), (103, .box y7)]
def items_fits.O (k : Nat) : List (Orc (denR [.c false .b])) := [⟨items_fits.j0_s, fun y => items_fits.j0 k y.2.1⟩]
theorem items_fits.j0_e (k : Nat) (y : denS items_fits.j0_s) : items_fits.j0 (k + 1) y.2.1 = evP ((items_fits.G Try.prog).at (items_fits.E k)) (fun i => (items_fits.O k)[i]?) [1, 1] (cd Try.f60) items_fits.H (kFin ((items_fits.G Try.prog).at (items_fits.E k)) [.tmp 2] [.c false .b]) (unS items_fits.j0_s y) := by rw [items_fits.j0]; kernel_rfl
theorem items_fits.go : goesTo Try.prog 60 := ⟨_, Try.func60, by kernel_rfl, rfl⟩
theorem items_fits.ok (k : Nat) : SigOk Try.prog 60 (items_fits.sig k) :=
  fn_p (G := items_fits.G Try.prog) (c := cd Try.f60) (rs := [.tmp 2]) (args := [(true, y7)]) (l := [.c false .b]) (fn := Try.f60) ⟨Try.func60, by kernel_rfl, by kernel_rfl, by kernel_rfl, le_of rfl, le_of rfl, TT_ok, AD_ok⟩ rfl items_fits.E (fun k p hp => by
    simp only [items_fits.E, List.mem_cons, List.not_mem_nil, or_false] at hp
    rcases hp with rfl
    · exact ⟨items_measure.ok k, items_measure.go⟩)
    (fun k i => (items_fits.O k)[i]?) items_fits.H (fun k x => items_fits.f k x.1)
    (fun id o y h => by
    have h' := List.mem_of_getElem? h
    simp only [items_fits.O, List.mem_cons, List.not_mem_nil, or_false] at h'
    rcases h' with rfl <;> rfl)
    (fun k p hp => by
    rw [show pts (cd Try.f60) items_fits.H = [(0, [1, 1])] by kernel_rfl] at hp
    simp only [List.mem_cons, List.not_mem_nil, or_false] at hp
    rcases hp with rfl
    · exact ptOk_of rfl (items_fits.j0_e k))
    (fun k x => by kernel_rfl) k
/-! reglet/items.Right -/
mutual
def items_Right.j0 : Nat → (List api_Item) → Option Int
  | 0, _ => none
  | k + 1, list => items_Right.l1 k 0 list (list.length : Int) 0
def items_Right.l1 : Nat → Int → (List api_Item) → Int → Int → Option Int
  | 0, _, _, _, _ => none
  | k + 1, at_, t, t2, t3 => if (decide (t3 < t2)) = true then ((at? t t3).bind fun e2 => if (!decide (e2.2.2.2.2.2.2.2.1 = at_)) = true then (some 70) else (if (decide (e2.2.2.2.2.2.2.2.2 < e2.2.2.2.2.2.2.2.1)) = true then (some 70) else (if (decide (65536 < e2.2.2.2.2.2.2.2.2)) = true then (some 70) else ((items_fits.f k e2).bind fun r2 => if (!r2) = true then (some 70) else (items_Right.j2 k t t2 t3 e2))))) else (some 0)
def items_Right.j2 : Nat → (List api_Item) → Int → Int → api_Item → Option Int
  | 0, _, _, _, _ => none
  | k + 1, t4, t5, t6, x => items_Right.l1 k x.2.2.2.2.2.2.2.2 t4 t5 (wrap64 (t6 + 1))
end
def items_Right.f (k : Nat) (a0 : List api_Item) : Option Int := if (decide ((a0.length : Int) = 0)) = true then (some 70) else (if (decide (262144 < (a0.length : Int))) = true then (some 70) else ((at? a0 (wrap64 ((a0.length : Int) - 1))).bind fun e => (items_Forced.f k e).bind fun r => if (!r) = true then (some 70) else (items_Right.j0 k a0)))
def items_Right.sig (k : Nat) : Sig := .p [(false, y8)] [.c false (.i .i64)] fun x => items_Right.f k x.1
def items_Right.E (k : Nat) : List (Nat × Sig) := [(48, items_Forced.sig k), (60, items_fits.sig k)]
def items_Right.G (P : Program) : GI := ⟨P, TT, 54, 63, [(5, 54, 9)], [], [], [], [], AD⟩
def items_Right.H : H := .s .n (.j 0 .n (.s .n (.s (.s .n (.s (.l 1 (.s .n (.s .n (.s (.s (.s .n (.j 2 .n .n)) .n) .n)))) .n)) .n)))
abbrev items_Right.j0_s : Sh := [(0, .v y8)]
abbrev items_Right.l1_s : Sh := [(3, .v (.i .i64)), (24, .v y8), (25, .v (.i .i64)), (26, .v (.i .i64))]
abbrev items_Right.j2_s : Sh := [(5, .at_ 54), (24, .v y8), (25, .v (.i .i64)), (26, .v (.i .i64)), (54, .box y7)]
def items_Right.O (k : Nat) : List (Orc (denR [.c false (.i .i64)])) := [⟨items_Right.j0_s, fun y => items_Right.j0 k y.1⟩, ⟨items_Right.l1_s, fun y => items_Right.l1 k y.1 y.2.1 y.2.2.1 y.2.2.2.1⟩, ⟨items_Right.j2_s, fun y => items_Right.j2 k y.2.1 y.2.2.1 y.2.2.2.1 y.2.2.2.2.1⟩]
theorem items_Right.j2_e (k : Nat) (y : denS items_Right.j2_s) : items_Right.j2 (k + 1) y.2.1 y.2.2.1 y.2.2.2.1 y.2.2.2.2.1 = evP ((items_Right.G Try.prog).at (items_Right.E k)) (fun i => (items_Right.O k)[i]?) [1, 1, 1, 0, 1, 0, 0, 1, 1, 0, 0, 1, 1] (cd Try.f46) items_Right.H (kFin ((items_Right.G Try.prog).at (items_Right.E k)) [.tmp 2] [.c false (.i .i64)]) (unS items_Right.j2_s y) := by rw [items_Right.j2]; kernel_rfl
theorem items_Right.l1_e (k : Nat) (y : denS items_Right.l1_s) : items_Right.l1 (k + 1) y.1 y.2.1 y.2.2.1 y.2.2.2.1 = evP ((items_Right.G Try.prog).at (items_Right.E k)) (fun i => (items_Right.O k)[i]?) [1, 1, 1, 0, 1, 0, 0] (cd Try.f46) items_Right.H (kFin ((items_Right.G Try.prog).at (items_Right.E k)) [.tmp 2] [.c false (.i .i64)]) (unS items_Right.l1_s y) := by rw [items_Right.l1]; kernel_rfl
theorem items_Right.j0_e (k : Nat) (y : denS items_Right.j0_s) : items_Right.j0 (k + 1) y.1 = evP ((items_Right.G Try.prog).at (items_Right.E k)) (fun i => (items_Right.O k)[i]?) [1, 1] (cd Try.f46) items_Right.H (kFin ((items_Right.G Try.prog).at (items_Right.E k)) [.tmp 2] [.c false (.i .i64)]) (unS items_Right.j0_s y) := by rw [items_Right.j0]; kernel_rfl
theorem items_Right.go : goesTo Try.prog 46 := ⟨_, Try.func46, by kernel_rfl, rfl⟩
theorem items_Right.ok (k : Nat) : SigOk Try.prog 46 (items_Right.sig k) :=
  fn_p (G := items_Right.G Try.prog) (c := cd Try.f46) (rs := [.tmp 2]) (args := [(false, y8)]) (l := [.c false (.i .i64)]) (fn := Try.f46) ⟨Try.func46, by kernel_rfl, by kernel_rfl, by kernel_rfl, le_of rfl, le_of rfl, TT_ok, AD_ok⟩ rfl items_Right.E (fun k p hp => by
    simp only [items_Right.E, List.mem_cons, List.not_mem_nil, or_false] at hp
    rcases hp with rfl | rfl
    · exact ⟨items_Forced.ok k, items_Forced.go⟩
    · exact ⟨items_fits.ok k, items_fits.go⟩)
    (fun k i => (items_Right.O k)[i]?) items_Right.H (fun k x => items_Right.f k x.1)
    (fun id o y h => by
    have h' := List.mem_of_getElem? h
    simp only [items_Right.O, List.mem_cons, List.not_mem_nil, or_false] at h'
    rcases h' with rfl | rfl | rfl <;> rfl)
    (fun k p hp => by
    rw [show pts (cd Try.f46) items_Right.H = [(2, [1, 1, 1, 0, 1, 0, 0, 1, 1, 0, 0, 1, 1]), (1, [1, 1, 1, 0, 1, 0, 0]), (0, [1, 1])] by kernel_rfl] at hp
    simp only [List.mem_cons, List.not_mem_nil, or_false] at hp
    rcases hp with rfl | rfl | rfl
    · exact ptOk_of rfl (items_Right.j2_e k)
    · exact ptOk_of rfl (items_Right.l1_e k)
    · exact ptOk_of rfl (items_Right.j0_e k))
    (fun k x => by kernel_rfl) k
/-! reglet/items.Legal -/
mutual
def items_Legal.j0 : Nat → (List api_Item) → Int → Option Bool
  | 0, _, _ => none
  | k + 1, list, k_ => (at? list k_).bind fun e => if (decide (e.1 = 3)) = true then (some (decide (e.2.2.2.2.2.1 < 10000))) else (if (decide (e.1 = 2)) = true then (if (!e.2.2.2.2.1) = true then (if (decide (0 < k_)) = true then ((at? list (wrap64 (k_ - 1))).bind fun e2 => some (decide (e2.1 = 1))) else (some false)) else (some false)) else (some false))
end
def items_Legal.f (k : Nat) (a0 : List api_Item) (a1 : Int) : Option Bool := if (decide (a1 < 0)) = true then (some false) else (if (decide ((a0.length : Int) ≤ a1)) = true then (some false) else (items_Legal.j0 k a0 a1))
def items_Legal.sig (k : Nat) : Sig := .p [(false, y8), (false, (.i .i64))] [.c false .b] fun x => items_Legal.f k x.1 x.2.1
def items_Legal.E (k : Nat) : List (Nat × Sig) := []
def items_Legal.G (P : Program) : GI := ⟨P, TT, 43, 52, [(5, 43, 9)], [], [], [], [], AD⟩
def items_Legal.H : H := .s .n (.j 0 .n .n)
abbrev items_Legal.j0_s : Sh := [(0, .v y8), (1, .v (.i .i64))]
def items_Legal.O (k : Nat) : List (Orc (denR [.c false .b])) := [⟨items_Legal.j0_s, fun y => items_Legal.j0 k y.1 y.2.1⟩]
theorem items_Legal.j0_e (k : Nat) (y : denS items_Legal.j0_s) : items_Legal.j0 (k + 1) y.1 y.2.1 = evP ((items_Legal.G Try.prog).at (items_Legal.E k)) (fun i => (items_Legal.O k)[i]?) [1, 1] (cd Try.f47) items_Legal.H (kFin ((items_Legal.G Try.prog).at (items_Legal.E k)) [.tmp 4] [.c false .b]) (unS items_Legal.j0_s y) := by rw [items_Legal.j0]; kernel_rfl
theorem items_Legal.go : goesTo Try.prog 47 := ⟨_, Try.func47, by kernel_rfl, rfl⟩
theorem items_Legal.ok (k : Nat) : SigOk Try.prog 47 (items_Legal.sig k) :=
  fn_p (G := items_Legal.G Try.prog) (c := cd Try.f47) (rs := [.tmp 4]) (args := [(false, y8), (false, (.i .i64))]) (l := [.c false .b]) (fn := Try.f47) ⟨Try.func47, by kernel_rfl, by kernel_rfl, by kernel_rfl, le_of rfl, le_of rfl, TT_ok, AD_ok⟩ rfl items_Legal.E (fun k p hp => nomatch hp)
    (fun k i => (items_Legal.O k)[i]?) items_Legal.H (fun k x => items_Legal.f k x.1 x.2.1)
    (fun id o y h => by
    have h' := List.mem_of_getElem? h
    simp only [items_Legal.O, List.mem_cons, List.not_mem_nil, or_false] at h'
    rcases h' with rfl <;> rfl)
    (fun k p hp => by
    rw [show pts (cd Try.f47) items_Legal.H = [(0, [1, 1])] by kernel_rfl] at hp
    simp only [List.mem_cons, List.not_mem_nil, or_false] at hp
    rcases hp with rfl
    · exact ptOk_of rfl (items_Legal.j0_e k))
    (fun k x => by kernel_rfl) k
/-! reglet/measure.New -/
mutual
def measure_New.l0 : Nat → (List api_Item) → Int → Int → Int → Int → (List api_Item) → Int → Int → measure_Para → Option (Option measure_Para × Int)
  | 0, _, _, _, _, _, _, _, _, _ => none
  | k + 1, t, t2, t3, t4, t5, t6, t7, t8, t9 => if (decide (t8 < t7)) = true then ((at? t6 t8).bind fun e => if (t9.2.1.length + ([t2] : List Int).length) * 8 ≤ 140737488355328 then (if (t9.2.2.1.length + ([t3] : List Int).length) * 8 ≤ 140737488355328 then (if (t9.2.2.2.1.length + ([t4] : List Int).length) * 8 ≤ 140737488355328 then (if (t9.2.2.2.2.1.length + ([t5] : List Int).length) * 8 ≤ 140737488355328 then (if (decide (e.1 = 3)) = true then (measure_New.j1 k t t2 t3 t4 t5 t8 t6 t7 t8 (t9.1, t9.2.1 ++ ([t2] : List Int), t9.2.2.1 ++ ([t3] : List Int), t9.2.2.2.1 ++ ([t4] : List Int), t9.2.2.2.2.1 ++ ([t5] : List Int), t9.2.2.2.2.2.1, (if t9.2.2.2.2.2.2.1 < e.2.1 then e.2.1 else t9.2.2.2.2.2.2.1), t9.2.2.2.2.2.2.2) e) else (measure_New.j1 k t (wrap64 (t2 + e.2.1)) (wrap64 (t3 + e.2.2.1)) (wrap64 (t4 + e.2.2.2.1)) t5 t8 t6 t7 t8 (t9.1, t9.2.1 ++ ([t2] : List Int), t9.2.2.1 ++ ([t3] : List Int), t9.2.2.2.1 ++ ([t4] : List Int), t9.2.2.2.2.1 ++ ([t5] : List Int), t9.2.2.2.2.2.1, t9.2.2.2.2.2.2.1, t9.2.2.2.2.2.2.2) e)) else none) else none) else none) else none) else (if (t9.2.1.length + ([t2] : List Int).length) * 8 ≤ 140737488355328 then (if (t9.2.2.1.length + ([t3] : List Int).length) * 8 ≤ 140737488355328 then (if (t9.2.2.2.1.length + ([t4] : List Int).length) * 8 ≤ 140737488355328 then (if (t9.2.2.2.2.1.length + ([t5] : List Int).length) * 8 ≤ 140737488355328 then (if (wrap64 ((t.length : Int) + 1)) = (wrap64 ((t.length : Int) + 1)) ∧ 0 ≤ (wrap64 ((t.length : Int) + 1)) ∧ (8 : Int) * (wrap64 ((t.length : Int) + 1)) ≤ 281474976710656 then (if 0 ≤ (t.length : Int) ∧ (t.length : Int) < ((List.replicate ((wrap64 ((t.length : Int) + 1)).toNat) 0 : List Int).length : Int) then (((List.replicate ((wrap64 ((t.length : Int) + 1)).toNat) 0 : List Int)[(t.length : Int).toNat]?).bind fun e2 => measure_New.l2 k t (wrap64 ((t.length : Int) - 1)) (t9.1, t9.2.1 ++ ([t2] : List Int), t9.2.2.1 ++ ([t3] : List Int), t9.2.2.2.1 ++ ([t4] : List Int), t9.2.2.2.2.1 ++ ([t5] : List Int), (List.replicate ((wrap64 ((t.length : Int) + 1)).toNat) 0 : List Int).set ((t.length : Int).toNat) (t.length : Int), t9.2.2.2.2.2.2.1, t9.2.2.2.2.2.2.2)) else none) else none) else none) else none) else none) else none)
def measure_New.j1 : Nat → (List api_Item) → Int → Int → Int → Int → Int → (List api_Item) → Int → Int → measure_Para → api_Item → Option (Option measure_Para × Int)
  | 0, _, _, _, _, _, _, _, _, _, _, _ => none
  | k + 1, t10, t11, t12, t13, t14, t15, t16, t17, t18, t19, t20 => if t20.2.2.2.2.1 = true then (measure_New.j3 k t10 t11 t12 t13 (wrap64 (t14 + 1)) t15 t16 t17 t18 t19) else (measure_New.j3 k t10 t11 t12 t13 t14 t15 t16 t17 t18 t19)
def measure_New.l2 : Nat → (List api_Item) → Int → measure_Para → Option (Option measure_Para × Int)
  | 0, _, _, _ => none
  | k + 1, t21, t22, t23 => if (decide (0 ≤ t22)) = true then (if 0 ≤ t22 ∧ t22 < (t23.2.2.2.2.2.1.length : Int) then ((t23.2.2.2.2.2.1[t22.toNat]?).bind fun e3 => (at? t21 t22).bind fun e4 => if (!decide (e4.1 = 1)) = true then ((items_Forced.f k e4).bind fun r2 => if (!r2) = true then (if (!e4.2.2.2.2.1) = true then (if 0 ≤ (wrap64 (t22 + 1)) ∧ (wrap64 (t22 + 1)) < ((t23.2.2.2.2.2.1.set t22.toNat t22).length : Int) then (((t23.2.2.2.2.2.1.set t22.toNat t22)[(wrap64 (t22 + 1)).toNat]?).bind fun e5 => if 0 ≤ t22 ∧ t22 < ((t23.2.2.2.2.2.1.set t22.toNat t22).length : Int) then (((t23.2.2.2.2.2.1.set t22.toNat t22)[t22.toNat]?).bind fun e6 => measure_New.j4 k t21 t22 (t23.1, t23.2.1, t23.2.2.1, t23.2.2.2.1, t23.2.2.2.2.1, (t23.2.2.2.2.2.1.set t22.toNat t22).set t22.toNat e5, t23.2.2.2.2.2.2.1, t23.2.2.2.2.2.2.2)) else none) else none) else (measure_New.j4 k t21 t22 (t23.1, t23.2.1, t23.2.2.1, t23.2.2.2.1, t23.2.2.2.2.1, t23.2.2.2.2.2.1.set t22.toNat t22, t23.2.2.2.2.2.2.1, t23.2.2.2.2.2.2.2))) else (measure_New.j4 k t21 t22 (t23.1, t23.2.1, t23.2.2.1, t23.2.2.2.1, t23.2.2.2.2.1, t23.2.2.2.2.2.1.set t22.toNat t22, t23.2.2.2.2.2.2.1, t23.2.2.2.2.2.2.2))) else (measure_New.j4 k t21 t22 (t23.1, t23.2.1, t23.2.2.1, t23.2.2.2.1, t23.2.2.2.2.1, t23.2.2.2.2.2.1.set t22.toNat t22, t23.2.2.2.2.2.2.1, t23.2.2.2.2.2.2.2))) else none) else (some (some t23, 0))
def measure_New.j3 : Nat → (List api_Item) → Int → Int → Int → Int → Int → (List api_Item) → Int → Int → measure_Para → Option (Option measure_Para × Int)
  | 0, _, _, _, _, _, _, _, _, _, _ => none
  | k + 1, t24, t25, t26, t27, t28, t29, t30, t31, t32, t33 => (items_Legal.f k t24 t29).bind fun r3 => if r3 = true then (if (t33.2.2.2.2.2.2.2.length + ([t29] : List Int).length) * 8 ≤ 140737488355328 then (measure_New.l0 k t24 t25 t26 t27 t28 t30 t31 (wrap64 (t32 + 1)) (t33.1, t33.2.1, t33.2.2.1, t33.2.2.2.1, t33.2.2.2.2.1, t33.2.2.2.2.2.1, t33.2.2.2.2.2.2.1, t33.2.2.2.2.2.2.2 ++ ([t29] : List Int))) else none) else (measure_New.l0 k t24 t25 t26 t27 t28 t30 t31 (wrap64 (t32 + 1)) t33)
def measure_New.j4 : Nat → (List api_Item) → Int → measure_Para → Option (Option measure_Para × Int)
  | 0, _, _, _ => none
  | k + 1, t34, t35, t36 => measure_New.l2 k t34 (wrap64 (t35 - 1)) t36
end
def measure_New.f (k : Nat) (a0 : List api_Item) : Option (Option measure_Para × Int) := (items_Right.f k a0).bind fun r => if (!decide (r = 0)) = true then (some (none, r)) else (if (([] : List api_Item).length + a0.length) * 72 ≤ 140737488355328 then (measure_New.l0 k a0 0 0 0 0 a0 (a0.length : Int) 0 (([] : List api_Item) ++ a0, ([] : List Int), ([] : List Int), ([] : List Int), ([] : List Int), ([] : List Int), 0, ([] : List Int))) else none)
def measure_New.sig (k : Nat) : Sig := .p [(false, y8)] [.o y17, .c false (.i .i64)] fun x => measure_New.f k x.1
def measure_New.E (k : Nat) : List (Nat × Sig) := [(46, items_Right.sig k), (47, items_Legal.sig k), (48, items_Forced.sig k)]
def measure_New.G (P : Program) : GI := ⟨P, TT, 216, 242, [(23, 216, 8), (11, 224, 9), (13, 233, 9)], [], [], [], [], AD⟩
def measure_New.H : H := .s .n (.s .n (.s .n (.s .n (.s (.s .n (.s (.l 0 (.s .n (.s .n (.s (.s (.s .n (.s .n (.j 1 .n (.j 3 .n .n)))) .n) .n)))) .n)) (.s .n (.s .n (.s .n (.s (.s .n (.s (.l 2 (.s .n (.j 4 .n .n))) .n)) .n))))))))
abbrev measure_New.l0_s : Sh := [(0, .v y8), (5, .at_ 216), (6, .v (.i .i64)), (7, .v (.i .i64)), (8, .v (.i .i64)), (9, .v (.i .i64)), (24, .v y8), (25, .v (.i .i64)), (26, .v (.i .i64)), (216, .box y17)]
abbrev measure_New.j1_s : Sh := [(0, .v y8), (5, .at_ 216), (6, .v (.i .i64)), (7, .v (.i .i64)), (8, .v (.i .i64)), (9, .v (.i .i64)), (10, .v (.i .i64)), (11, .at_ 224), (24, .v y8), (25, .v (.i .i64)), (26, .v (.i .i64)), (216, .box y17), (224, .box y7)]
abbrev measure_New.l2_s : Sh := [(0, .v y8), (5, .at_ 216), (12, .v (.i .i64)), (216, .box y17)]
abbrev measure_New.j3_s : Sh := [(0, .v y8), (5, .at_ 216), (6, .v (.i .i64)), (7, .v (.i .i64)), (8, .v (.i .i64)), (9, .v (.i .i64)), (10, .v (.i .i64)), (24, .v y8), (25, .v (.i .i64)), (26, .v (.i .i64)), (216, .box y17)]
abbrev measure_New.j4_s : Sh := [(0, .v y8), (5, .at_ 216), (12, .v (.i .i64)), (216, .box y17)]
def measure_New.O (k : Nat) : List (Orc (denR [.o y17, .c false (.i .i64)])) := [⟨measure_New.l0_s, fun y => measure_New.l0 k y.1 y.2.2.1 y.2.2.2.1 y.2.2.2.2.1 y.2.2.2.2.2.1 y.2.2.2.2.2.2.1 y.2.2.2.2.2.2.2.1 y.2.2.2.2.2.2.2.2.1 y.2.2.2.2.2.2.2.2.2.1⟩, ⟨measure_New.j1_s, fun y => measure_New.j1 k y.1 y.2.2.1 y.2.2.2.1 y.2.2.2.2.1 y.2.2.2.2.2.1 y.2.2.2.2.2.2.1 y.2.2.2.2.2.2.2.2.1 y.2.2.2.2.2.2.2.2.2.1 y.2.2.2.2.2.2.2.2.2.2.1 y.2.2.2.2.2.2.2.2.2.2.2.1 y.2.2.2.2.2.2.2.2.2.2.2.2.1⟩, ⟨measure_New.l2_s, fun y => measure_New.l2 k y.1 y.2.2.1 y.2.2.2.1⟩, ⟨measure_New.j3_s, fun y => measure_New.j3 k y.1 y.2.2.1 y.2.2.2.1 y.2.2.2.2.1 y.2.2.2.2.2.1 y.2.2.2.2.2.2.1 y.2.2.2.2.2.2.2.1 y.2.2.2.2.2.2.2.2.1 y.2.2.2.2.2.2.2.2.2.1 y.2.2.2.2.2.2.2.2.2.2.1⟩, ⟨measure_New.j4_s, fun y => measure_New.j4 k y.1 y.2.2.1 y.2.2.2.1⟩]
theorem measure_New.j3_e (k : Nat) (y : denS measure_New.j3_s) : measure_New.j3 (k + 1) y.1 y.2.2.1 y.2.2.2.1 y.2.2.2.2.1 y.2.2.2.2.2.1 y.2.2.2.2.2.2.1 y.2.2.2.2.2.2.2.1 y.2.2.2.2.2.2.2.2.1 y.2.2.2.2.2.2.2.2.2.1 y.2.2.2.2.2.2.2.2.2.2.1 = evP ((measure_New.G Try.prog).at (measure_New.E k)) (fun i => (measure_New.O k)[i]?) [1, 1, 1, 1, 0, 1, 0, 0, 1, 1, 0, 0, 1, 1, 1, 1] (cd Try.f28) measure_New.H (kFin ((measure_New.G Try.prog).at (measure_New.E k)) [.tmp 2, .tmp 3] [.o y17, .c false (.i .i64)]) (unS measure_New.j3_s y) := by rw [measure_New.j3]; kernel_rfl
theorem measure_New.j1_e (k : Nat) (y : denS measure_New.j1_s) : measure_New.j1 (k + 1) y.1 y.2.2.1 y.2.2.2.1 y.2.2.2.2.1 y.2.2.2.2.2.1 y.2.2.2.2.2.2.1 y.2.2.2.2.2.2.2.2.1 y.2.2.2.2.2.2.2.2.2.1 y.2.2.2.2.2.2.2.2.2.2.1 y.2.2.2.2.2.2.2.2.2.2.2.1 y.2.2.2.2.2.2.2.2.2.2.2.2.1 = evP ((measure_New.G Try.prog).at (measure_New.E k)) (fun i => (measure_New.O k)[i]?) [1, 1, 1, 1, 0, 1, 0, 0, 1, 1, 0, 0, 1, 1, 1] (cd Try.f28) measure_New.H (kFin ((measure_New.G Try.prog).at (measure_New.E k)) [.tmp 2, .tmp 3] [.o y17, .c false (.i .i64)]) (unS measure_New.j1_s y) := by rw [measure_New.j1]; kernel_rfl
theorem measure_New.l0_e (k : Nat) (y : denS measure_New.l0_s) : measure_New.l0 (k + 1) y.1 y.2.2.1 y.2.2.2.1 y.2.2.2.2.1 y.2.2.2.2.2.1 y.2.2.2.2.2.2.1 y.2.2.2.2.2.2.2.1 y.2.2.2.2.2.2.2.2.1 y.2.2.2.2.2.2.2.2.2.1 = evP ((measure_New.G Try.prog).at (measure_New.E k)) (fun i => (measure_New.O k)[i]?) [1, 1, 1, 1, 0, 1, 0, 0] (cd Try.f28) measure_New.H (kFin ((measure_New.G Try.prog).at (measure_New.E k)) [.tmp 2, .tmp 3] [.o y17, .c false (.i .i64)]) (unS measure_New.l0_s y) := by rw [measure_New.l0]; kernel_rfl
theorem measure_New.j4_e (k : Nat) (y : denS measure_New.j4_s) : measure_New.j4 (k + 1) y.1 y.2.2.1 y.2.2.2.1 = evP ((measure_New.G Try.prog).at (measure_New.E k)) (fun i => (measure_New.O k)[i]?) [1, 1, 1, 1, 1, 1, 1, 1, 0, 1, 0, 0, 1, 1] (cd Try.f28) measure_New.H (kFin ((measure_New.G Try.prog).at (measure_New.E k)) [.tmp 2, .tmp 3] [.o y17, .c false (.i .i64)]) (unS measure_New.j4_s y) := by rw [measure_New.j4]; kernel_rfl
theorem measure_New.l2_e (k : Nat) (y : denS measure_New.l2_s) : measure_New.l2 (k + 1) y.1 y.2.2.1 y.2.2.2.1 = evP ((measure_New.G Try.prog).at (measure_New.E k)) (fun i => (measure_New.O k)[i]?) [1, 1, 1, 1, 1, 1, 1, 1, 0, 1, 0, 0] (cd Try.f28) measure_New.H (kFin ((measure_New.G Try.prog).at (measure_New.E k)) [.tmp 2, .tmp 3] [.o y17, .c false (.i .i64)]) (unS measure_New.l2_s y) := by rw [measure_New.l2]; kernel_rfl
theorem measure_New.go : goesTo Try.prog 28 := ⟨_, Try.func28, by kernel_rfl, rfl⟩
theorem measure_New.ok (k : Nat) : SigOk Try.prog 28 (measure_New.sig k) :=
  fn_p (G := measure_New.G Try.prog) (c := cd Try.f28) (rs := [.tmp 2, .tmp 3]) (args := [(false, y8)]) (l := [.o y17, .c false (.i .i64)]) (fn := Try.f28) ⟨Try.func28, by kernel_rfl, by kernel_rfl, by kernel_rfl, le_of rfl, le_of rfl, TT_ok, AD_ok⟩ rfl measure_New.E (fun k p hp => by
    simp only [measure_New.E, List.mem_cons, List.not_mem_nil, or_false] at hp
    rcases hp with rfl | rfl | rfl
    · exact ⟨items_Right.ok k, items_Right.go⟩
    · exact ⟨items_Legal.ok k, items_Legal.go⟩
    · exact ⟨items_Forced.ok k, items_Forced.go⟩)
    (fun k i => (measure_New.O k)[i]?) measure_New.H (fun k x => measure_New.f k x.1)
    (fun id o y h => by
    have h' := List.mem_of_getElem? h
    simp only [measure_New.O, List.mem_cons, List.not_mem_nil, or_false] at h'
    rcases h' with rfl | rfl | rfl | rfl | rfl <;> rfl)
    (fun k p hp => by
    rw [show pts (cd Try.f28) measure_New.H = [(3, [1, 1, 1, 1, 0, 1, 0, 0, 1, 1, 0, 0, 1, 1, 1, 1]), (1, [1, 1, 1, 1, 0, 1, 0, 0, 1, 1, 0, 0, 1, 1, 1]), (0, [1, 1, 1, 1, 0, 1, 0, 0]), (4, [1, 1, 1, 1, 1, 1, 1, 1, 0, 1, 0, 0, 1, 1]), (2, [1, 1, 1, 1, 1, 1, 1, 1, 0, 1, 0, 0])] by kernel_rfl] at hp
    simp only [List.mem_cons, List.not_mem_nil, or_false] at hp
    rcases hp with rfl | rfl | rfl | rfl | rfl
    · exact ptOk_of rfl (measure_New.j3_e k)
    · exact ptOk_of rfl (measure_New.j1_e k)
    · exact ptOk_of rfl (measure_New.l0_e k)
    · exact ptOk_of rfl (measure_New.j4_e k)
    · exact ptOk_of rfl (measure_New.l2_e k))
    (fun k x => by kernel_rfl) k
/-! reglet/regletlaw09.para -/
mutual
def regletlaw09_para.j0 : Nat → (List api_Item) → Option (Option measure_Para)
  | 0, _ => none
  | k + 1, l => (measure_New.f k l).bind fun r3 => optK r3.1 (if (!decide (r3.2 = 0)) = true then (some none) else (some none)) fun p => if (!decide (r3.2 = 0)) = true then (some none) else (some (some p))
end
def regletlaw09_para.f (k : Nat) (a0 : List api_Item) (a1 : Int) : Option (Option measure_Para) := if (decide (400 < (a0.length : Int))) = true then (some none) else ((regletref07_Right.f k a0).bind fun r => if (!r) = true then (some none) else ((regletref08_Legal.f k a0).bind fun r2 => if (decide (a1 < (r2.length : Int))) = true then (some none) else (regletlaw09_para.j0 k a0)))
def regletlaw09_para.sig (k : Nat) : Sig := .p [(false, y8), (false, (.i .i64))] [.o y17] fun x => regletlaw09_para.f k x.1 x.2.1
def regletlaw09_para.E (k : Nat) : List (Nat × Sig) := [(18, regletref08_Legal.sig k), (27, regletref07_Right.sig k), (28, measure_New.sig k)]
def regletlaw09_para.G (P : Program) : GI := ⟨P, TT, 30, 30, [], [], [], [], [], AD⟩
def regletlaw09_para.H : H := .s .n (.j 0 .n .n)
abbrev regletlaw09_para.j0_s : Sh := [(0, .v y8)]
def regletlaw09_para.O (k : Nat) : List (Orc (denR [.o y17])) := [⟨regletlaw09_para.j0_s, fun y => regletlaw09_para.j0 k y.1⟩]
theorem regletlaw09_para.j0_e (k : Nat) (y : denS regletlaw09_para.j0_s) : regletlaw09_para.j0 (k + 1) y.1 = evP ((regletlaw09_para.G Try.prog).at (regletlaw09_para.E k)) (fun i => (regletlaw09_para.O k)[i]?) [1, 1] (cd Try.f12) regletlaw09_para.H (kFin ((regletlaw09_para.G Try.prog).at (regletlaw09_para.E k)) [.tmp 4] [.o y17]) (unS regletlaw09_para.j0_s y) := by rw [regletlaw09_para.j0]; kernel_rfl
theorem regletlaw09_para.go : goesTo Try.prog 12 := ⟨_, Try.func12, by kernel_rfl, rfl⟩
theorem regletlaw09_para.ok (k : Nat) : SigOk Try.prog 12 (regletlaw09_para.sig k) :=
  fn_p (G := regletlaw09_para.G Try.prog) (c := cd Try.f12) (rs := [.tmp 4]) (args := [(false, y8), (false, (.i .i64))]) (l := [.o y17]) (fn := Try.f12) ⟨Try.func12, by kernel_rfl, by kernel_rfl, by kernel_rfl, le_of rfl, le_of rfl, TT_ok, AD_ok⟩ rfl regletlaw09_para.E (fun k p hp => by
    simp only [regletlaw09_para.E, List.mem_cons, List.not_mem_nil, or_false] at hp
    rcases hp with rfl | rfl | rfl
    · exact ⟨regletref08_Legal.ok k, regletref08_Legal.go⟩
    · exact ⟨regletref07_Right.ok k, regletref07_Right.go⟩
    · exact ⟨measure_New.ok k, measure_New.go⟩)
    (fun k i => (regletlaw09_para.O k)[i]?) regletlaw09_para.H (fun k x => regletlaw09_para.f k x.1 x.2.1)
    (fun id o y h => by
    have h' := List.mem_of_getElem? h
    simp only [regletlaw09_para.O, List.mem_cons, List.not_mem_nil, or_false] at h'
    rcases h' with rfl <;> rfl)
    (fun k p hp => by
    rw [show pts (cd Try.f12) regletlaw09_para.H = [(0, [1, 1])] by kernel_rfl] at hp
    simp only [List.mem_cons, List.not_mem_nil, or_false] at hp
    rcases hp with rfl
    · exact ptOk_of rfl (regletlaw09_para.j0_e k))
    (fun k x => by kernel_rfl) k
/-! reglet/measure.Check -/
mutual
def measure_Check.l0 : Nat → (List Int) → Int → Int → api_Settings → Option Int
  | 0, _, _, _, _ => none
  | k + 1, t, t2, t3, s => if (decide (t3 < t2)) = true then (if 0 ≤ t3 ∧ t3 < (t.length : Int) then ((t[t3.toNat]?).bind fun e => if (decide (e < 0)) = true then (some 80) else (if (decide (10000 < e)) = true then (some 80) else (measure_Check.l0 k t t2 (wrap64 (t3 + 1)) s))) else none) else (measure_Check.l1 k ([s.2.2.1, s.2.2.2.1, s.2.2.2.2.1] : List Int) (([s.2.2.1, s.2.2.2.1, s.2.2.2.2.1] : List Int).length : Int) 0 s)
def measure_Check.l1 : Nat → (List Int) → Int → Int → api_Settings → Option Int
  | 0, _, _, _, _ => none
  | k + 1, t4, t5, t6, s2 => if (decide (t6 < t5)) = true then (if 0 ≤ t6 ∧ t6 < (t4.length : Int) then ((t4[t6.toNat]?).bind fun e2 => if (decide (e2 < 0)) = true then (some 80) else (if (decide (1048576 < e2)) = true then (some 80) else (measure_Check.l1 k t4 t5 (wrap64 (t6 + 1)) s2))) else none) else (measure_Check.l2 k ([s2.2.2.2.2.2.1, s2.2.2.2.2.2.2] : List Int) (([s2.2.2.2.2.2.1, s2.2.2.2.2.2.2] : List Int).length : Int) 0)
def measure_Check.l2 : Nat → (List Int) → Int → Int → Option Int
  | 0, _, _, _ => none
  | k + 1, t7, t8, t9 => if (decide (t9 < t8)) = true then (if 0 ≤ t9 ∧ t9 < (t7.length : Int) then ((t7[t9.toNat]?).bind fun e3 => if (decide (e3 < 1)) = true then (some 80) else (if (decide (100 < e3)) = true then (some 80) else (measure_Check.l2 k t7 t8 (wrap64 (t9 + 1))))) else none) else (some 0)
end
def measure_Check.f (k : Nat) (a0 : api_Settings) : Option Int := measure_Check.l0 k ([a0.1, a0.2.1] : List Int) (([a0.1, a0.2.1] : List Int).length : Int) 0 a0
def measure_Check.sig (k : Nat) : Sig := .p [(true, y22)] [.c false (.i .i64)] fun x => measure_Check.f k x.1
def measure_Check.E (k : Nat) : List (Nat × Sig) := []
def measure_Check.G (P : Program) : GI := ⟨P, TT, 62, 69, [(1, 62, 7)], [], [], [], [], AD⟩
def measure_Check.H : H := .s .n (.s (.s .n (.s (.l 0 .n) .n)) (.s (.s .n (.s (.l 1 .n) .n)) (.s (.s .n (.s (.l 2 .n) .n)) .n)))
abbrev measure_Check.l0_s : Sh := [(1, .at_ 62), (13, .v y9), (14, .v (.i .i64)), (15, .v (.i .i64)), (62, .box y22)]
abbrev measure_Check.l1_s : Sh := [(1, .at_ 62), (32, .v y9), (33, .v (.i .i64)), (34, .v (.i .i64)), (62, .box y22)]
abbrev measure_Check.l2_s : Sh := [(49, .v y9), (50, .v (.i .i64)), (51, .v (.i .i64))]
def measure_Check.O (k : Nat) : List (Orc (denR [.c false (.i .i64)])) := [⟨measure_Check.l0_s, fun y => measure_Check.l0 k y.2.1 y.2.2.1 y.2.2.2.1 y.2.2.2.2.1⟩, ⟨measure_Check.l1_s, fun y => measure_Check.l1 k y.2.1 y.2.2.1 y.2.2.2.1 y.2.2.2.2.1⟩, ⟨measure_Check.l2_s, fun y => measure_Check.l2 k y.1 y.2.1 y.2.2.1⟩]
theorem measure_Check.l0_e (k : Nat) (y : denS measure_Check.l0_s) : measure_Check.l0 (k + 1) y.2.1 y.2.2.1 y.2.2.2.1 y.2.2.2.2.1 = evP ((measure_Check.G Try.prog).at (measure_Check.E k)) (fun i => (measure_Check.O k)[i]?) [1, 0, 1, 0, 0] (cd Try.f44) measure_Check.H (kFin ((measure_Check.G Try.prog).at (measure_Check.E k)) [.tmp 2] [.c false (.i .i64)]) (unS measure_Check.l0_s y) := by rw [measure_Check.l0]; kernel_rfl
theorem measure_Check.l1_e (k : Nat) (y : denS measure_Check.l1_s) : measure_Check.l1 (k + 1) y.2.1 y.2.2.1 y.2.2.2.1 y.2.2.2.2.1 = evP ((measure_Check.G Try.prog).at (measure_Check.E k)) (fun i => (measure_Check.O k)[i]?) [1, 1, 0, 1, 0, 0] (cd Try.f44) measure_Check.H (kFin ((measure_Check.G Try.prog).at (measure_Check.E k)) [.tmp 2] [.c false (.i .i64)]) (unS measure_Check.l1_s y) := by rw [measure_Check.l1]; kernel_rfl
theorem measure_Check.l2_e (k : Nat) (y : denS measure_Check.l2_s) : measure_Check.l2 (k + 1) y.1 y.2.1 y.2.2.1 = evP ((measure_Check.G Try.prog).at (measure_Check.E k)) (fun i => (measure_Check.O k)[i]?) [1, 1, 1, 0, 1, 0, 0] (cd Try.f44) measure_Check.H (kFin ((measure_Check.G Try.prog).at (measure_Check.E k)) [.tmp 2] [.c false (.i .i64)]) (unS measure_Check.l2_s y) := by rw [measure_Check.l2]; kernel_rfl
theorem measure_Check.go : goesTo Try.prog 44 := ⟨_, Try.func44, by kernel_rfl, rfl⟩
theorem measure_Check.ok (k : Nat) : SigOk Try.prog 44 (measure_Check.sig k) :=
  fn_p (G := measure_Check.G Try.prog) (c := cd Try.f44) (rs := [.tmp 2]) (args := [(true, y22)]) (l := [.c false (.i .i64)]) (fn := Try.f44) ⟨Try.func44, by kernel_rfl, by kernel_rfl, by kernel_rfl, le_of rfl, le_of rfl, TT_ok, AD_ok⟩ rfl measure_Check.E (fun k p hp => nomatch hp)
    (fun k i => (measure_Check.O k)[i]?) measure_Check.H (fun k x => measure_Check.f k x.1)
    (fun id o y h => by
    have h' := List.mem_of_getElem? h
    simp only [measure_Check.O, List.mem_cons, List.not_mem_nil, or_false] at h'
    rcases h' with rfl | rfl | rfl <;> rfl)
    (fun k p hp => by
    rw [show pts (cd Try.f44) measure_Check.H = [(0, [1, 0, 1, 0, 0]), (1, [1, 1, 0, 1, 0, 0]), (2, [1, 1, 1, 0, 1, 0, 0])] by kernel_rfl] at hp
    simp only [List.mem_cons, List.not_mem_nil, or_false] at hp
    rcases hp with rfl | rfl | rfl
    · exact ptOk_of rfl (measure_Check.l0_e k)
    · exact ptOk_of rfl (measure_Check.l1_e k)
    · exact ptOk_of rfl (measure_Check.l2_e k))
    (fun k x => by kernel_rfl) k
/-! reglet/breaks.Check -/
mutual
def breaks_Check.j0 : Nat → api_Settings → Option Int
  | 0, _ => none
  | k + 1, set_ => (measure_Check.f k set_).bind fun r => some r
end
def breaks_Check.f (k : Nat) (a0 : Int) (a1 : api_Settings) : Option Int := if (decide (a0 < 1)) = true then (some 41) else (if (decide (1073741824 < a0)) = true then (some 41) else (breaks_Check.j0 k a1))
def breaks_Check.sig (k : Nat) : Sig := .p [(false, (.i .i64)), (true, y22)] [.c false (.i .i64)] fun x => breaks_Check.f k x.1 x.2.1
def breaks_Check.E (k : Nat) : List (Nat × Sig) := [(44, measure_Check.sig k)]
def breaks_Check.G (P : Program) : GI := ⟨P, TT, 13, 20, [(3, 13, 7)], [], [], [], [], AD⟩
def breaks_Check.H : H := .s .n (.j 0 .n .n)
abbrev breaks_Check.j0_s : Sh := [(3, .at_ 13), (13, .box y22)]
def breaks_Check.O (k : Nat) : List (Orc (denR [.c false (.i .i64)])) := [⟨breaks_Check.j0_s, fun y => breaks_Check.j0 k y.2.1⟩]
theorem breaks_Check.j0_e (k : Nat) (y : denS breaks_Check.j0_s) : breaks_Check.j0 (k + 1) y.2.1 = evP ((breaks_Check.G Try.prog).at (breaks_Check.E k)) (fun i => (breaks_Check.O k)[i]?) [1, 1] (cd Try.f24) breaks_Check.H (kFin ((breaks_Check.G Try.prog).at (breaks_Check.E k)) [.tmp 4] [.c false (.i .i64)]) (unS breaks_Check.j0_s y) := by rw [breaks_Check.j0]; kernel_rfl
theorem breaks_Check.go : goesTo Try.prog 24 := ⟨_, Try.func24, by kernel_rfl, rfl⟩
theorem breaks_Check.ok (k : Nat) : SigOk Try.prog 24 (breaks_Check.sig k) :=
  fn_p (G := breaks_Check.G Try.prog) (c := cd Try.f24) (rs := [.tmp 4]) (args := [(false, (.i .i64)), (true, y22)]) (l := [.c false (.i .i64)]) (fn := Try.f24) ⟨Try.func24, by kernel_rfl, by kernel_rfl, by kernel_rfl, le_of rfl, le_of rfl, TT_ok, AD_ok⟩ rfl breaks_Check.E (fun k p hp => by
    simp only [breaks_Check.E, List.mem_cons, List.not_mem_nil, or_false] at hp
    rcases hp with rfl
    · exact ⟨measure_Check.ok k, measure_Check.go⟩)
    (fun k i => (breaks_Check.O k)[i]?) breaks_Check.H (fun k x => breaks_Check.f k x.1 x.2.1)
    (fun id o y h => by
    have h' := List.mem_of_getElem? h
    simp only [breaks_Check.O, List.mem_cons, List.not_mem_nil, or_false] at h'
    rcases h' with rfl <;> rfl)
    (fun k p hp => by
    rw [show pts (cd Try.f24) breaks_Check.H = [(0, [1, 1])] by kernel_rfl] at hp
    simp only [List.mem_cons, List.not_mem_nil, or_false] at hp
    rcases hp with rfl
    · exact ptOk_of rfl (breaks_Check.j0_e k))
    (fun k x => by kernel_rfl) k
/-! (*reglet/measure.Para).Ends -/
def measure_Para_Ends.f (k : Nat) (a0 : measure_Para) : Option Int := some (a0.2.2.2.2.2.2.2.length : Int)
def measure_Para_Ends.sig (k : Nat) : Sig := .p [(false, y31)] [.c false (.i .i64)] fun x => measure_Para_Ends.f k x.1
def measure_Para_Ends.E (k : Nat) : List (Nat × Sig) := []
def measure_Para_Ends.G (P : Program) : GI := ⟨P, TT, 8, 8, [], [], [], [], [], AD⟩
def measure_Para_Ends.H : H := .n
def measure_Para_Ends.O (k : Nat) : List (Orc (denR [.c false (.i .i64)])) := []
theorem measure_Para_Ends.go : goesTo Try.prog 49 := ⟨_, Try.func49, by kernel_rfl, rfl⟩
theorem measure_Para_Ends.ok (k : Nat) : SigOk Try.prog 49 (measure_Para_Ends.sig k) :=
  fn_p (G := measure_Para_Ends.G Try.prog) (c := cd Try.f49) (rs := [.tmp 2]) (args := [(false, y31)]) (l := [.c false (.i .i64)]) (fn := Try.f49) ⟨Try.func49, by kernel_rfl, by kernel_rfl, by kernel_rfl, le_of rfl, le_of rfl, TT_ok, AD_ok⟩ rfl measure_Para_Ends.E (fun k p hp => nomatch hp)
    (fun k i => (measure_Para_Ends.O k)[i]?) measure_Para_Ends.H (fun k x => measure_Para_Ends.f k x.1)
    (fun id o y h => by cases id <;> cases h)
    (fun k p hp => by rw [show pts (cd Try.f49) measure_Para_Ends.H = [] by kernel_rfl] at hp; nomatch hp)
    (fun k x => by kernel_rfl) k
/-! (*reglet/measure.Para).Item -/
mutual
def measure_Para_Item.j0 : Nat → measure_Para → Int → api_Item → Option api_Item
  | 0, _, _, _ => none
  | k + 1, p, k_, t => (at? p.1 k_).bind fun e => some e
end
def measure_Para_Item.f (k : Nat) (a0 : measure_Para) (a1 : Int) : Option api_Item := if (decide (a1 < 0)) = true then (some (0, 0, 0, 0, (false), 0, (false), 0, 0)) else (if (decide ((a0.1.length : Int) ≤ a1)) = true then (some (0, 0, 0, 0, (false), 0, (false), 0, 0)) else (measure_Para_Item.j0 k a0 a1 (0, 0, 0, 0, (false), 0, (false), 0, 0)))
def measure_Para_Item.sig (k : Nat) : Sig := .p [(false, y31), (false, (.i .i64))] [.c true y7] fun x => measure_Para_Item.f k x.1 x.2.1
def measure_Para_Item.E (k : Nat) : List (Nat × Sig) := []
def measure_Para_Item.G (P : Program) : GI := ⟨P, TT, 24, 33, [(4, 24, 9)], [], [], [], [], AD⟩
def measure_Para_Item.H : H := .s .n (.j 0 .n .n)
abbrev measure_Para_Item.j0_s : Sh := [(0, .v y31), (1, .v (.i .i64)), (4, .at_ 24), (24, .box y7)]
def measure_Para_Item.O (k : Nat) : List (Orc (denR [.c true y7])) := [⟨measure_Para_Item.j0_s, fun y => measure_Para_Item.j0 k y.1 y.2.1 y.2.2.2.1⟩]
theorem measure_Para_Item.j0_e (k : Nat) (y : denS measure_Para_Item.j0_s) : measure_Para_Item.j0 (k + 1) y.1 y.2.1 y.2.2.2.1 = evP ((measure_Para_Item.G Try.prog).at (measure_Para_Item.E k)) (fun i => (measure_Para_Item.O k)[i]?) [1, 1] (cd Try.f50) measure_Para_Item.H (kFin ((measure_Para_Item.G Try.prog).at (measure_Para_Item.E k)) [.cell 4 47] [.c true y7]) (unS measure_Para_Item.j0_s y) := by rw [measure_Para_Item.j0]; kernel_rfl
theorem measure_Para_Item.go : goesTo Try.prog 50 := ⟨_, Try.func50, by kernel_rfl, rfl⟩
theorem measure_Para_Item.ok (k : Nat) : SigOk Try.prog 50 (measure_Para_Item.sig k) :=
  fn_p (G := measure_Para_Item.G Try.prog) (c := cd Try.f50) (rs := [.cell 4 47]) (args := [(false, y31), (false, (.i .i64))]) (l := [.c true y7]) (fn := Try.f50) ⟨Try.func50, by kernel_rfl, by kernel_rfl, by kernel_rfl, le_of rfl, le_of rfl, TT_ok, AD_ok⟩ rfl measure_Para_Item.E (fun k p hp => nomatch hp)
    (fun k i => (measure_Para_Item.O k)[i]?) measure_Para_Item.H (fun k x => measure_Para_Item.f k x.1 x.2.1)
    (fun id o y h => by
    have h' := List.mem_of_getElem? h
    simp only [measure_Para_Item.O, List.mem_cons, List.not_mem_nil, or_false] at h'
    rcases h' with rfl <;> rfl)
    (fun k p hp => by
    rw [show pts (cd Try.f50) measure_Para_Item.H = [(0, [1, 1])] by kernel_rfl] at hp
    simp only [List.mem_cons, List.not_mem_nil, or_false] at hp
    rcases hp with rfl
    · exact ptOk_of rfl (measure_Para_Item.j0_e k))
    (fun k x => by kernel_rfl) k
/-! (*reglet/measure.Para).End -/
mutual
def measure_Para_End.j0 : Nat → measure_Para → Int → Option Int
  | 0, _, _ => none
  | k + 1, p, n => (at? p.2.2.2.2.2.2.2 n).bind fun e => some e
end
def measure_Para_End.f (k : Nat) (a0 : measure_Para) (a1 : Int) : Option Int := if (decide (a1 < 0)) = true then (some (-1)) else (if (decide ((a0.2.2.2.2.2.2.2.length : Int) ≤ a1)) = true then (some (-1)) else (measure_Para_End.j0 k a0 a1))
def measure_Para_End.sig (k : Nat) : Sig := .p [(false, y31), (false, (.i .i64))] [.c false (.i .i64)] fun x => measure_Para_End.f k x.1 x.2.1
def measure_Para_End.E (k : Nat) : List (Nat × Sig) := []
def measure_Para_End.G (P : Program) : GI := ⟨P, TT, 23, 23, [], [], [], [], [], AD⟩
def measure_Para_End.H : H := .s .n (.j 0 .n .n)
abbrev measure_Para_End.j0_s : Sh := [(0, .v y31), (1, .v (.i .i64))]
def measure_Para_End.O (k : Nat) : List (Orc (denR [.c false (.i .i64)])) := [⟨measure_Para_End.j0_s, fun y => measure_Para_End.j0 k y.1 y.2.1⟩]
theorem measure_Para_End.j0_e (k : Nat) (y : denS measure_Para_End.j0_s) : measure_Para_End.j0 (k + 1) y.1 y.2.1 = evP ((measure_Para_End.G Try.prog).at (measure_Para_End.E k)) (fun i => (measure_Para_End.O k)[i]?) [1, 1] (cd Try.f51) measure_Para_End.H (kFin ((measure_Para_End.G Try.prog).at (measure_Para_End.E k)) [.tmp 4] [.c false (.i .i64)]) (unS measure_Para_End.j0_s y) := by rw [measure_Para_End.j0]; kernel_rfl
theorem measure_Para_End.go : goesTo Try.prog 51 := ⟨_, Try.func51, by kernel_rfl, rfl⟩
theorem measure_Para_End.ok (k : Nat) : SigOk Try.prog 51 (measure_Para_End.sig k) :=
  fn_p (G := measure_Para_End.G Try.prog) (c := cd Try.f51) (rs := [.tmp 4]) (args := [(false, y31), (false, (.i .i64))]) (l := [.c false (.i .i64)]) (fn := Try.f51) ⟨Try.func51, by kernel_rfl, by kernel_rfl, by kernel_rfl, le_of rfl, le_of rfl, TT_ok, AD_ok⟩ rfl measure_Para_End.E (fun k p hp => nomatch hp)
    (fun k i => (measure_Para_End.O k)[i]?) measure_Para_End.H (fun k x => measure_Para_End.f k x.1 x.2.1)
    (fun id o y h => by
    have h' := List.mem_of_getElem? h
    simp only [measure_Para_End.O, List.mem_cons, List.not_mem_nil, or_false] at h'
    rcases h' with rfl <;> rfl)
    (fun k p hp => by
    rw [show pts (cd Try.f51) measure_Para_End.H = [(0, [1, 1])] by kernel_rfl] at hp
    simp only [List.mem_cons, List.not_mem_nil, or_false] at hp
    rcases hp with rfl
    · exact ptOk_of rfl (measure_Para_End.j0_e k))
    (fun k x => by kernel_rfl) k
/-! (*reglet/breaks.search).forced -/
mutual
def breaks_search_forced.l0 : Nat → Int → Int → (measure_Para × Int × Int × Int × Int × Int × Int × Int × Int × Bool × List regletref08_Sum × List Int) → Option ((measure_Para × Int × Int × Int × Int × Int × Int × Int × Int × Bool × List regletref08_Sum × List Int))
  | 0, _, _, _ => none
  | k + 1, last, k_, s => if (decide (0 ≤ k_)) = true then (if 0 ≤ (wrap64 (k_ + 1)) ∧ (wrap64 (k_ + 1)) < (s.2.2.2.2.2.2.2.2.2.2.2.length : Int) then ((s.2.2.2.2.2.2.2.2.2.2.2[(wrap64 (k_ + 1)).toNat]?).bind fun e2 => (measure_Para_End.f k s.1 k_).bind fun r2 => (measure_Para_Item.f k s.1 r2).bind fun r3 => (items_Forced.f k r3).bind fun r4 => if r4 = true then (breaks_search_forced.j1 k k_ k_ (s.1, s.2.1, s.2.2.1, s.2.2.2.1, s.2.2.2.2.1, s.2.2.2.2.2.1, s.2.2.2.2.2.2.1, s.2.2.2.2.2.2.2.1, s.2.2.2.2.2.2.2.2.1, s.2.2.2.2.2.2.2.2.2.1, s.2.2.2.2.2.2.2.2.2.2.1, s.2.2.2.2.2.2.2.2.2.2.2.set ((wrap64 (k_ + 1)).toNat) last)) else (breaks_search_forced.j1 k last k_ (s.1, s.2.1, s.2.2.1, s.2.2.2.1, s.2.2.2.2.1, s.2.2.2.2.2.1, s.2.2.2.2.2.2.1, s.2.2.2.2.2.2.2.1, s.2.2.2.2.2.2.2.2.1, s.2.2.2.2.2.2.2.2.2.1, s.2.2.2.2.2.2.2.2.2.2.1, s.2.2.2.2.2.2.2.2.2.2.2.set ((wrap64 (k_ + 1)).toNat) last))) else none) else (if 0 ≤ (0 : Int) ∧ (0 : Int) < (s.2.2.2.2.2.2.2.2.2.2.2.length : Int) then ((s.2.2.2.2.2.2.2.2.2.2.2[(0 : Int).toNat]?).bind fun e3 => some (s.1, s.2.1, s.2.2.1, s.2.2.2.1, s.2.2.2.2.1, s.2.2.2.2.2.1, s.2.2.2.2.2.2.1, s.2.2.2.2.2.2.2.1, s.2.2.2.2.2.2.2.2.1, s.2.2.2.2.2.2.2.2.2.1, s.2.2.2.2.2.2.2.2.2.2.1, s.2.2.2.2.2.2.2.2.2.2.2.set ((0 : Int).toNat) last)) else none)
def breaks_search_forced.j1 : Nat → Int → Int → (measure_Para × Int × Int × Int × Int × Int × Int × Int × Int × Bool × List regletref08_Sum × List Int) → Option ((measure_Para × Int × Int × Int × Int × Int × Int × Int × Int × Bool × List regletref08_Sum × List Int))
  | 0, _, _, _ => none
  | k + 1, last2, k_2, s2 => breaks_search_forced.l0 k last2 (wrap64 (k_2 - 1)) s2
end
def breaks_search_forced.f (k : Nat) (a0 : measure_Para × Int × Int × Int × Int × Int × Int × Int × Int × Bool × List regletref08_Sum × List Int) : Option ((measure_Para × Int × Int × Int × Int × Int × Int × Int × Int × Bool × List regletref08_Sum × List Int)) := (measure_Para_Ends.f k a0.1).bind fun r => if (wrap64 (r + 1)) = (wrap64 (r + 1)) ∧ 0 ≤ (wrap64 (r + 1)) ∧ (8 : Int) * (wrap64 (r + 1)) ≤ 281474976710656 then (if 0 ≤ r ∧ r < ((List.replicate ((wrap64 (r + 1)).toNat) 0 : List Int).length : Int) then (((List.replicate ((wrap64 (r + 1)).toNat) 0 : List Int)[r.toNat]?).bind fun e => breaks_search_forced.l0 k (wrap64 (r - 1)) (wrap64 (r - 1)) (a0.1, a0.2.1, a0.2.2.1, a0.2.2.2.1, a0.2.2.2.2.1, a0.2.2.2.2.2.1, a0.2.2.2.2.2.2.1, a0.2.2.2.2.2.2.2.1, a0.2.2.2.2.2.2.2.2.1, a0.2.2.2.2.2.2.2.2.2.1, a0.2.2.2.2.2.2.2.2.2.2.1, (List.replicate ((wrap64 (r + 1)).toNat) 0 : List Int).set r.toNat (wrap64 (r - 1)))) else none) else none
def breaks_search_forced.sig (k : Nat) : Sig := .l y53 [] [] fun b x => breaks_search_forced.f k b
def breaks_search_forced.E (k : Nat) : List (Nat × Sig) := [(48, items_Forced.sig k), (49, measure_Para_Ends.sig k), (50, measure_Para_Item.sig k), (51, measure_Para_End.sig k)]
def breaks_search_forced.G (P : Program) : GI := ⟨P, TT, 59, 71, [(0, 59, 12)], [0], [], [], [], AD⟩
def breaks_search_forced.H : H := .s .n (.s .n (.s .n (.s .n (.s (.s .n (.s (.l 0 (.s .n (.j 1 .n .n))) .n)) .n))))
abbrev breaks_search_forced.l0_s : Sh := [(0, .at_ 59), (3, .v (.i .i64)), (4, .v (.i .i64)), (59, .box y53)]
abbrev breaks_search_forced.j1_s : Sh := [(0, .at_ 59), (3, .v (.i .i64)), (4, .v (.i .i64)), (59, .box y53)]
def breaks_search_forced.O (k : Nat) : List (Orc (denR ([] ++ [.c true y53]))) := [⟨breaks_search_forced.l0_s, fun y => breaks_search_forced.l0 k y.2.1 y.2.2.1 y.2.2.2.1⟩, ⟨breaks_search_forced.j1_s, fun y => breaks_search_forced.j1 k y.2.1 y.2.2.1 y.2.2.2.1⟩]
theorem breaks_search_forced.j1_e (k : Nat) (y : denS breaks_search_forced.j1_s) : breaks_search_forced.j1 (k + 1) y.2.1 y.2.2.1 y.2.2.2.1 = evP ((breaks_search_forced.G Try.prog).at (breaks_search_forced.E k)) (fun i => (breaks_search_forced.O k)[i]?) [1, 1, 1, 1, 0, 1, 0, 0, 1, 1] (cd Try.f29) breaks_search_forced.H (kFinL ((breaks_search_forced.G Try.prog).at (breaks_search_forced.E k)) y53 [] []) (unS breaks_search_forced.j1_s y) := by rw [breaks_search_forced.j1]; kernel_rfl
theorem breaks_search_forced.l0_e (k : Nat) (y : denS breaks_search_forced.l0_s) : breaks_search_forced.l0 (k + 1) y.2.1 y.2.2.1 y.2.2.2.1 = evP ((breaks_search_forced.G Try.prog).at (breaks_search_forced.E k)) (fun i => (breaks_search_forced.O k)[i]?) [1, 1, 1, 1, 0, 1, 0, 0] (cd Try.f29) breaks_search_forced.H (kFinL ((breaks_search_forced.G Try.prog).at (breaks_search_forced.E k)) y53 [] []) (unS breaks_search_forced.l0_s y) := by rw [breaks_search_forced.l0]; kernel_rfl
theorem breaks_search_forced.go : goesTo Try.prog 29 := ⟨_, Try.func29, by kernel_rfl, rfl⟩
theorem breaks_search_forced.ok (k : Nat) : SigOk Try.prog 29 (breaks_search_forced.sig k) :=
  fn_l (G := breaks_search_forced.G Try.prog) (c := cd Try.f29) (rs := []) (args := []) (l := []) (fn := Try.f29) ⟨Try.func29, by kernel_rfl, by kernel_rfl, by kernel_rfl, le_of rfl, le_of rfl, TT_ok, AD_ok⟩ rfl breaks_search_forced.E (fun k p hp => by
    simp only [breaks_search_forced.E, List.mem_cons, List.not_mem_nil, or_false] at hp
    rcases hp with rfl | rfl | rfl | rfl
    · exact ⟨items_Forced.ok k, items_Forced.go⟩
    · exact ⟨measure_Para_Ends.ok k, measure_Para_Ends.go⟩
    · exact ⟨measure_Para_Item.ok k, measure_Para_Item.go⟩
    · exact ⟨measure_Para_End.ok k, measure_Para_End.go⟩)
    (fun k i => (breaks_search_forced.O k)[i]?) breaks_search_forced.H (fun k b x => breaks_search_forced.f k b)
    (fun id o y h => by
    have h' := List.mem_of_getElem? h
    simp only [breaks_search_forced.O, List.mem_cons, List.not_mem_nil, or_false] at h'
    rcases h' with rfl | rfl <;> rfl)
    (fun k p hp => by
    rw [show pts (cd Try.f29) breaks_search_forced.H = [(1, [1, 1, 1, 1, 0, 1, 0, 0, 1, 1]), (0, [1, 1, 1, 1, 0, 1, 0, 0])] by kernel_rfl] at hp
    simp only [List.mem_cons, List.not_mem_nil, or_false] at hp
    rcases hp with rfl | rfl
    · exact ptOk_of rfl (breaks_search_forced.j1_e k)
    · exact ptOk_of rfl (breaks_search_forced.l0_e k))
    (fun k b x => by kernel_rfl) k
/-! (*reglet/measure.Para).Start -/
def measure_Para_Start.f (k : Nat) (a0 : measure_Para) (a1 : Int) : Option Int := if (decide (a1 < 0)) = true then (some 0) else (if (decide ((wrap64 ((a0.1.length : Int) - 1)) ≤ a1)) = true then (some (a0.1.length : Int)) else ((at? a0.2.2.2.2.2.1 (wrap64 (a1 + 1))).bind fun e => some e))
def measure_Para_Start.sig (k : Nat) : Sig := .p [(false, y31), (false, (.i .i64))] [.c false (.i .i64)] fun x => measure_Para_Start.f k x.1 x.2.1
def measure_Para_Start.E (k : Nat) : List (Nat × Sig) := []
def measure_Para_Start.G (P : Program) : GI := ⟨P, TT, 30, 30, [], [], [], [], [], AD⟩
def measure_Para_Start.H : H := .n
def measure_Para_Start.O (k : Nat) : List (Orc (denR [.c false (.i .i64)])) := []
theorem measure_Para_Start.go : goesTo Try.prog 86 := ⟨_, Try.func86, by kernel_rfl, rfl⟩
theorem measure_Para_Start.ok (k : Nat) : SigOk Try.prog 86 (measure_Para_Start.sig k) :=
  fn_p (G := measure_Para_Start.G Try.prog) (c := cd Try.f86) (rs := [.tmp 4]) (args := [(false, y31), (false, (.i .i64))]) (l := [.c false (.i .i64)]) (fn := Try.f86) ⟨Try.func86, by kernel_rfl, by kernel_rfl, by kernel_rfl, le_of rfl, le_of rfl, TT_ok, AD_ok⟩ rfl measure_Para_Start.E (fun k p hp => nomatch hp)
    (fun k i => (measure_Para_Start.O k)[i]?) measure_Para_Start.H (fun k x => measure_Para_Start.f k x.1 x.2.1)
    (fun id o y h => by cases id <;> cases h)
    (fun k p hp => by rw [show pts (cd Try.f86) measure_Para_Start.H = [] by kernel_rfl] at hp; nomatch hp)
    (fun k x => by kernel_rfl) k
/-! (*reglet/measure.Para).Line -/
mutual
def measure_Para_Line.j0 : Nat → measure_Para → Int → Int → regletref08_Sum → Option regletref08_Sum
  | 0, _, _, _, _ => none
  | k + 1, t, t2, t3, t4 => (measure_Para_Start.f k t t2).bind fun r => (at? t.2.1 t3).bind fun e => (at? t.2.1 (if t3 < r then t3 else r)).bind fun e2 => (at? t.2.2.1 t3).bind fun e3 => (at? t.2.2.1 (if t3 < r then t3 else r)).bind fun e4 => (at? t.2.2.2.1 t3).bind fun e5 => (at? t.2.2.2.1 (if t3 < r then t3 else r)).bind fun e6 => (at? t.2.2.2.2.1 t3).bind fun e7 => (at? t.2.2.2.2.1 (if t3 < r then t3 else r)).bind fun e8 => (at? t.1 t3).bind fun e9 => if (decide (e9.1 = 3)) = true then ((at? t.1 t3).bind fun e10 => some (wrap64 ((wrap64 (e - e2)) + e10.2.1), wrap64 (e3 - e4), wrap64 (e5 - e6), wrap64 (e7 - e8))) else (some (wrap64 (e - e2), wrap64 (e3 - e4), wrap64 (e5 - e6), wrap64 (e7 - e8)))
end
def measure_Para_Line.f (k : Nat) (a0 : measure_Para) (a1 : Int) (a2 : Int) : Option regletref08_Sum := if (decide (a2 < 0)) = true then (some (0, 0, 0, 0)) else (if (decide ((a0.1.length : Int) ≤ a2)) = true then (some (0, 0, 0, 0)) else (measure_Para_Line.j0 k a0 a1 a2 (0, 0, 0, 0)))
def measure_Para_Line.sig (k : Nat) : Sig := .p [(false, y31), (false, (.i .i64)), (false, (.i .i64))] [.c true y19] fun x => measure_Para_Line.f k x.1 x.2.1 x.2.2.1
def measure_Para_Line.E (k : Nat) : List (Nat × Sig) := [(86, measure_Para_Start.sig k)]
def measure_Para_Line.G (P : Program) : GI := ⟨P, TT, 109, 117, [(6, 109, 4), (8, 113, 4)], [], [], [], [], AD⟩
def measure_Para_Line.H : H := .s .n (.j 0 .n .n)
abbrev measure_Para_Line.j0_s : Sh := [(0, .v y31), (1, .v (.i .i64)), (2, .v (.i .i64)), (6, .at_ 109), (109, .box y19)]
def measure_Para_Line.O (k : Nat) : List (Orc (denR [.c true y19])) := [⟨measure_Para_Line.j0_s, fun y => measure_Para_Line.j0 k y.1 y.2.1 y.2.2.1 y.2.2.2.2.1⟩]
theorem measure_Para_Line.j0_e (k : Nat) (y : denS measure_Para_Line.j0_s) : measure_Para_Line.j0 (k + 1) y.1 y.2.1 y.2.2.1 y.2.2.2.2.1 = evP ((measure_Para_Line.G Try.prog).at (measure_Para_Line.E k)) (fun i => (measure_Para_Line.O k)[i]?) [1, 1] (cd Try.f74) measure_Para_Line.H (kFin ((measure_Para_Line.G Try.prog).at (measure_Para_Line.E k)) [.cell 6 108] [.c true y19]) (unS measure_Para_Line.j0_s y) := by rw [measure_Para_Line.j0]; kernel_rfl
theorem measure_Para_Line.go : goesTo Try.prog 74 := ⟨_, Try.func74, by kernel_rfl, rfl⟩
theorem measure_Para_Line.ok (k : Nat) : SigOk Try.prog 74 (measure_Para_Line.sig k) :=
  fn_p (G := measure_Para_Line.G Try.prog) (c := cd Try.f74) (rs := [.cell 6 108]) (args := [(false, y31), (false, (.i .i64)), (false, (.i .i64))]) (l := [.c true y19]) (fn := Try.f74) ⟨Try.func74, by kernel_rfl, by kernel_rfl, by kernel_rfl, le_of rfl, le_of rfl, TT_ok, AD_ok⟩ rfl measure_Para_Line.E (fun k p hp => by
    simp only [measure_Para_Line.E, List.mem_cons, List.not_mem_nil, or_false] at hp
    rcases hp with rfl
    · exact ⟨measure_Para_Start.ok k, measure_Para_Start.go⟩)
    (fun k i => (measure_Para_Line.O k)[i]?) measure_Para_Line.H (fun k x => measure_Para_Line.f k x.1 x.2.1 x.2.2.1)
    (fun id o y h => by
    have h' := List.mem_of_getElem? h
    simp only [measure_Para_Line.O, List.mem_cons, List.not_mem_nil, or_false] at h'
    rcases h' with rfl <;> rfl)
    (fun k p hp => by
    rw [show pts (cd Try.f74) measure_Para_Line.H = [(0, [1, 1])] by kernel_rfl] at hp
    simp only [List.mem_cons, List.not_mem_nil, or_false] at hp
    rcases hp with rfl
    · exact ptOk_of rfl (measure_Para_Line.j0_e k))
    (fun k x => by kernel_rfl) k
/-! reglet/scaled.Clamp -/
def scaled_Clamp.f (k : Nat) (a0 : Int) : Option Int := some (if (-1152921504606846976) < (if a0 < 1152921504606846976 then a0 else 1152921504606846976) then (if a0 < 1152921504606846976 then a0 else 1152921504606846976) else (-1152921504606846976))
def scaled_Clamp.sig (k : Nat) : Sig := .p [(false, (.i .i64))] [.c false (.i .i64)] fun x => scaled_Clamp.f k x.1
def scaled_Clamp.E (k : Nat) : List (Nat × Sig) := []
def scaled_Clamp.G (P : Program) : GI := ⟨P, TT, 6, 6, [], [], [], [], [], AD⟩
def scaled_Clamp.H : H := .n
def scaled_Clamp.O (k : Nat) : List (Orc (denR [.c false (.i .i64)])) := []
theorem scaled_Clamp.go : goesTo Try.prog 76 := ⟨_, Try.func76, by kernel_rfl, rfl⟩
theorem scaled_Clamp.ok (k : Nat) : SigOk Try.prog 76 (scaled_Clamp.sig k) :=
  fn_p (G := scaled_Clamp.G Try.prog) (c := cd Try.f76) (rs := [.tmp 2]) (args := [(false, (.i .i64))]) (l := [.c false (.i .i64)]) (fn := Try.f76) ⟨Try.func76, by kernel_rfl, by kernel_rfl, by kernel_rfl, le_of rfl, le_of rfl, TT_ok, AD_ok⟩ rfl scaled_Clamp.E (fun k p hp => nomatch hp)
    (fun k i => (scaled_Clamp.O k)[i]?) scaled_Clamp.H (fun k x => scaled_Clamp.f k x.1)
    (fun id o y h => by cases id <;> cases h)
    (fun k p hp => by rw [show pts (cd Try.f76) scaled_Clamp.H = [] by kernel_rfl] at hp; nomatch hp)
    (fun k x => by kernel_rfl) k
/-! math/bits.Mul64 -/
def bits_Mul64.f (k : Nat) (a0 : Int) (a1 : Int) : Option (Int × Int) := some (IntKind.u64.wrap ((IntKind.u64.wrap ((IntKind.u64.wrap ((shrI .u64 a0 (32 : Int)) * (shrI .u64 a1 (32 : Int)))) + (shrI .u64 (IntKind.u64.wrap ((IntKind.u64.wrap ((shrI .u64 a0 (32 : Int)) * (andI .u64 a1 (4294967295 : Int)))) + (shrI .u64 (IntKind.u64.wrap ((andI .u64 a0 (4294967295 : Int)) * (andI .u64 a1 (4294967295 : Int)))) (32 : Int)))) (32 : Int)))) + (shrI .u64 (IntKind.u64.wrap ((andI .u64 (IntKind.u64.wrap ((IntKind.u64.wrap ((shrI .u64 a0 (32 : Int)) * (andI .u64 a1 (4294967295 : Int)))) + (shrI .u64 (IntKind.u64.wrap ((andI .u64 a0 (4294967295 : Int)) * (andI .u64 a1 (4294967295 : Int)))) (32 : Int)))) (4294967295 : Int)) + (IntKind.u64.wrap ((andI .u64 a0 (4294967295 : Int)) * (shrI .u64 a1 (32 : Int)))))) (32 : Int))), IntKind.u64.wrap (a0 * a1))
def bits_Mul64.sig (k : Nat) : Sig := .p [(false, (.i .u64)), (false, (.i .u64))] [.c false (.i .u64), .c false (.i .u64)] fun x => bits_Mul64.f k x.1 x.2.1
def bits_Mul64.E (k : Nat) : List (Nat × Sig) := []
def bits_Mul64.G (P : Program) : GI := ⟨P, TT, 51, 51, [], [], [], [], [], AD⟩
def bits_Mul64.H : H := .n
def bits_Mul64.O (k : Nat) : List (Orc (denR [.c false (.i .u64), .c false (.i .u64)])) := []
theorem bits_Mul64.go : goesTo Try.prog 96 := ⟨_, Try.func96, by kernel_rfl, rfl⟩
theorem bits_Mul64.ok (k : Nat) : SigOk Try.prog 96 (bits_Mul64.sig k) :=
  fn_p (G := bits_Mul64.G Try.prog) (c := cd Try.f96) (rs := [.tmp 4, .tmp 5]) (args := [(false, (.i .u64)), (false, (.i .u64))]) (l := [.c false (.i .u64), .c false (.i .u64)]) (fn := Try.f96) ⟨Try.func96, by kernel_rfl, by kernel_rfl, by kernel_rfl, le_of rfl, le_of rfl, TT_ok, AD_ok⟩ rfl bits_Mul64.E (fun k p hp => nomatch hp)
    (fun k i => (bits_Mul64.O k)[i]?) bits_Mul64.H (fun k x => bits_Mul64.f k x.1 x.2.1)
    (fun id o y h => by cases id <;> cases h)
    (fun k p hp => by rw [show pts (cd Try.f96) bits_Mul64.H = [] by kernel_rfl] at hp; nomatch hp)
    (fun k x => by kernel_rfl) k
/-! reglet/scaled.product -/
def scaled_product.f (k : Nat) (a0 : Int) (a1 : Int) : Option regletref08_Sum := (bits_Mul64.f k a0 a1).bind fun r => some (r.2, r.1, 0, 0)
def scaled_product.sig (k : Nat) : Sig := .p [(false, (.i .u64)), (false, (.i .u64))] [.c true y56] fun x => scaled_product.f k x.1 x.2.1
def scaled_product.E (k : Nat) : List (Nat × Sig) := [(96, bits_Mul64.sig k)]
def scaled_product.G (P : Program) : GI := ⟨P, TT, 16, 20, [(4, 16, 4)], [], [], [], [], AD⟩
def scaled_product.H : H := .n
def scaled_product.O (k : Nat) : List (Orc (denR [.c true y56])) := []
theorem scaled_product.go : goesTo Try.prog 92 := ⟨_, Try.func92, by kernel_rfl, rfl⟩
theorem scaled_product.ok (k : Nat) : SigOk Try.prog 92 (scaled_product.sig k) :=
  fn_p (G := scaled_product.G Try.prog) (c := cd Try.f92) (rs := [.cell 4 122]) (args := [(false, (.i .u64)), (false, (.i .u64))]) (l := [.c true y56]) (fn := Try.f92) ⟨Try.func92, by kernel_rfl, by kernel_rfl, by kernel_rfl, le_of rfl, le_of rfl, TT_ok, AD_ok⟩ rfl scaled_product.E (fun k p hp => by
    simp only [scaled_product.E, List.mem_cons, List.not_mem_nil, or_false] at hp
    rcases hp with rfl
    · exact ⟨bits_Mul64.ok k, bits_Mul64.go⟩)
    (fun k i => (scaled_product.O k)[i]?) scaled_product.H (fun k x => scaled_product.f k x.1 x.2.1)
    (fun id o y h => by cases id <;> cases h)
    (fun k p hp => by rw [show pts (cd Try.f92) scaled_product.H = [] by kernel_rfl] at hp; nomatch hp)
    (fun k x => by kernel_rfl) k
/-! (reglet/scaled.wide).times -/
mutual
def scaled_wide_times.l0 : Nat → Int → Int → regletref08_Sum → Int → regletref08_Sum → regletref08_Sum → Option regletref08_Sum
  | 0, _, _, _, _, _, _ => none
  | k + 1, by_, carry, t, t2, t3, out => if (decide (t2 < 4)) = true then ((at? ([t.1, t.2.1, t.2.2.1, t.2.2.2] : List Int) t2).bind fun e => (bits_Mul64.f k e by_).bind fun r => if 0 ≤ r.2 ∧ 0 ≤ carry ∧ 0 ≤ (0 : Int) ∧ (0 : Int) ≤ 1 then (if 0 ≤ t2 ∧ t2 < (4 : Int) then (if t2.toNat < 4 then (scaled_wide_times.l0 k by_ (IntKind.u64.wrap (r.1 + ((r.2 + carry + (0 : Int)) / 18446744073709551616))) t (wrap64 (t2 + 1)) t3 ((if t2.toNat = 0 then ((r.2 + carry + (0 : Int)) % 18446744073709551616) else out.1), (if t2.toNat = 1 then ((r.2 + carry + (0 : Int)) % 18446744073709551616) else out.2.1), (if t2.toNat = 2 then ((r.2 + carry + (0 : Int)) % 18446744073709551616) else out.2.2.1), (if t2.toNat = 3 then ((r.2 + carry + (0 : Int)) % 18446744073709551616) else out.2.2.2))) else none) else none) else none) else (some out)
end
def scaled_wide_times.f (k : Nat) (a0 : regletref08_Sum) (a1 : Int) : Option regletref08_Sum := scaled_wide_times.l0 k a1 0 a0 0 (0, 0, 0, 0) (0, 0, 0, 0)
def scaled_wide_times.sig (k : Nat) : Sig := .p [(true, y56), (false, (.i .u64))] [.c true y56] fun x => scaled_wide_times.f k x.1 x.2.1
def scaled_wide_times.E (k : Nat) : List (Nat × Sig) := [(96, bits_Mul64.sig k)]
def scaled_wide_times.G (P : Program) : GI := ⟨P, TT, 38, 50, [(2, 38, 4), (4, 42, 4), (5, 46, 4)], [], [], [], [], AD⟩
def scaled_wide_times.H : H := .s .n (.s .n (.s .n (.s (.s .n (.s (.l 0 .n) .n)) .n)))
abbrev scaled_wide_times.l0_s : Sh := [(1, .v (.i .u64)), (4, .at_ 42), (5, .at_ 46), (6, .v (.i .u64)), (13, .agg y56), (14, .v (.i .i64)), (42, .box y56), (46, .box y56)]
def scaled_wide_times.O (k : Nat) : List (Orc (denR [.c true y56])) := [⟨scaled_wide_times.l0_s, fun y => scaled_wide_times.l0 k y.1 y.2.2.2.1 y.2.2.2.2.1 y.2.2.2.2.2.1 y.2.2.2.2.2.2.1 y.2.2.2.2.2.2.2.1⟩]
theorem scaled_wide_times.l0_e (k : Nat) (y : denS scaled_wide_times.l0_s) : scaled_wide_times.l0 (k + 1) y.1 y.2.2.2.1 y.2.2.2.2.1 y.2.2.2.2.2.1 y.2.2.2.2.2.2.1 y.2.2.2.2.2.2.2.1 = evP ((scaled_wide_times.G Try.prog).at (scaled_wide_times.E k)) (fun i => (scaled_wide_times.O k)[i]?) [1, 1, 1, 0, 1, 0, 0] (cd Try.f93) scaled_wide_times.H (kFin ((scaled_wide_times.G Try.prog).at (scaled_wide_times.E k)) [.cell 4 122] [.c true y56]) (unS scaled_wide_times.l0_s y) := by rw [scaled_wide_times.l0]; kernel_rfl
theorem scaled_wide_times.go : goesTo Try.prog 93 := ⟨_, Try.func93, by kernel_rfl, rfl⟩
theorem scaled_wide_times.ok (k : Nat) : SigOk Try.prog 93 (scaled_wide_times.sig k) :=
  fn_p (G := scaled_wide_times.G Try.prog) (c := cd Try.f93) (rs := [.cell 4 122]) (args := [(true, y56), (false, (.i .u64))]) (l := [.c true y56]) (fn := Try.f93) ⟨Try.func93, by kernel_rfl, by kernel_rfl, by kernel_rfl, le_of rfl, le_of rfl, TT_ok, AD_ok⟩ rfl scaled_wide_times.E (fun k p hp => by
    simp only [scaled_wide_times.E, List.mem_cons, List.not_mem_nil, or_false] at hp
    rcases hp with rfl
    · exact ⟨bits_Mul64.ok k, bits_Mul64.go⟩)
    (fun k i => (scaled_wide_times.O k)[i]?) scaled_wide_times.H (fun k x => scaled_wide_times.f k x.1 x.2.1)
    (fun id o y h => by
    have h' := List.mem_of_getElem? h
    simp only [scaled_wide_times.O, List.mem_cons, List.not_mem_nil, or_false] at h'
    rcases h' with rfl <;> rfl)
    (fun k p hp => by
    rw [show pts (cd Try.f93) scaled_wide_times.H = [(0, [1, 1, 1, 0, 1, 0, 0])] by kernel_rfl] at hp
    simp only [List.mem_cons, List.not_mem_nil, or_false] at hp
    rcases hp with rfl
    · exact ptOk_of rfl (scaled_wide_times.l0_e k))
    (fun k x => by kernel_rfl) k
/-! reglet/scaled.smaller -/
mutual
def scaled_smaller.l0 : Nat → Int → regletref08_Sum → regletref08_Sum → Option Bool
  | 0, _, _, _ => none
  | k + 1, i, a, b => if (decide (0 ≤ i)) = true then (if 0 ≤ i ∧ i < (4 : Int) then ((([a.1, a.2.1, a.2.2.1, a.2.2.2] : List Int)[i.toNat]?).bind fun e => if 0 ≤ i ∧ i < (4 : Int) then ((([b.1, b.2.1, b.2.2.1, b.2.2.2] : List Int)[i.toNat]?).bind fun e2 => if (!decide (e = e2)) = true then (if 0 ≤ i ∧ i < (4 : Int) then ((([a.1, a.2.1, a.2.2.1, a.2.2.2] : List Int)[i.toNat]?).bind fun e3 => if 0 ≤ i ∧ i < (4 : Int) then ((([b.1, b.2.1, b.2.2.1, b.2.2.2] : List Int)[i.toNat]?).bind fun e4 => some (decide (e3 < e4))) else none) else none) else (scaled_smaller.l0 k (wrap64 (i - 1)) a b)) else none) else none) else (some false)
end
def scaled_smaller.f (k : Nat) (a0 : regletref08_Sum) (a1 : regletref08_Sum) : Option Bool := scaled_smaller.l0 k 3 a0 a1
def scaled_smaller.sig (k : Nat) : Sig := .p [(true, y56), (true, y56)] [.c false .b] fun x => scaled_smaller.f k x.1 x.2.1
def scaled_smaller.E (k : Nat) : List (Nat × Sig) := []
def scaled_smaller.G (P : Program) : GI := ⟨P, TT, 24, 32, [(2, 24, 4), (3, 28, 4)], [], [], [], [], AD⟩
def scaled_smaller.H : H := .s .n (.s (.s .n (.s (.l 0 .n) .n)) .n)
abbrev scaled_smaller.l0_s : Sh := [(2, .at_ 24), (3, .at_ 28), (5, .v (.i .i64)), (24, .box y56), (28, .box y56)]
def scaled_smaller.O (k : Nat) : List (Orc (denR [.c false .b])) := [⟨scaled_smaller.l0_s, fun y => scaled_smaller.l0 k y.2.2.1 y.2.2.2.1 y.2.2.2.2.1⟩]
theorem scaled_smaller.l0_e (k : Nat) (y : denS scaled_smaller.l0_s) : scaled_smaller.l0 (k + 1) y.2.2.1 y.2.2.2.1 y.2.2.2.2.1 = evP ((scaled_smaller.G Try.prog).at (scaled_smaller.E k)) (fun i => (scaled_smaller.O k)[i]?) [1, 0, 1, 0, 0] (cd Try.f94) scaled_smaller.H (kFin ((scaled_smaller.G Try.prog).at (scaled_smaller.E k)) [.tmp 4] [.c false .b]) (unS scaled_smaller.l0_s y) := by rw [scaled_smaller.l0]; kernel_rfl
theorem scaled_smaller.go : goesTo Try.prog 94 := ⟨_, Try.func94, by kernel_rfl, rfl⟩
theorem scaled_smaller.ok (k : Nat) : SigOk Try.prog 94 (scaled_smaller.sig k) :=
  fn_p (G := scaled_smaller.G Try.prog) (c := cd Try.f94) (rs := [.tmp 4]) (args := [(true, y56), (true, y56)]) (l := [.c false .b]) (fn := Try.f94) ⟨Try.func94, by kernel_rfl, by kernel_rfl, by kernel_rfl, le_of rfl, le_of rfl, TT_ok, AD_ok⟩ rfl scaled_smaller.E (fun k p hp => nomatch hp)
    (fun k i => (scaled_smaller.O k)[i]?) scaled_smaller.H (fun k x => scaled_smaller.f k x.1 x.2.1)
    (fun id o y h => by
    have h' := List.mem_of_getElem? h
    simp only [scaled_smaller.O, List.mem_cons, List.not_mem_nil, or_false] at h'
    rcases h' with rfl <;> rfl)
    (fun k p hp => by
    rw [show pts (cd Try.f94) scaled_smaller.H = [(0, [1, 0, 1, 0, 0])] by kernel_rfl] at hp
    simp only [List.mem_cons, List.not_mem_nil, or_false] at hp
    rcases hp with rfl
    · exact ptOk_of rfl (scaled_smaller.l0_e k))
    (fun k x => by kernel_rfl) k
/-! reglet/scaled.Bad -/
mutual
def scaled_Bad.j0 : Nat → Int → Int → Option Int
  | 0, _, _ => none
  | k + 1, t, s => (scaled_product.f k (IntKind.u64.wrap (t)) (IntKind.u64.wrap (t))).bind fun r3 => (scaled_wide_times.f k r3 (IntKind.u64.wrap (t))).bind fun r4 => (scaled_wide_times.f k r4 100).bind fun r5 => (scaled_product.f k (IntKind.u64.wrap (s)) (IntKind.u64.wrap (s))).bind fun r6 => (scaled_wide_times.f k r6 (IntKind.u64.wrap (s))).bind fun r7 => scaled_Bad.l1 k 0 10000 r5 r7
def scaled_Bad.l1 : Nat → Int → Int → regletref08_Sum → regletref08_Sum → Option Int
  | 0, _, _, _, _ => none
  | k + 1, low, high, left, cube => if (decide (low < high)) = true then ((scaled_wide_times.f k cube (IntKind.u64.wrap (wrap64 ((wrap64 ((wrap64 (low + high)) + 1)).tdiv 2)))).bind fun r8 => (scaled_smaller.f k left r8).bind fun r9 => if r9 = true then (scaled_Bad.l1 k low (wrap64 ((wrap64 ((wrap64 ((wrap64 (low + high)) + 1)).tdiv 2)) - 1)) left cube) else (scaled_Bad.l1 k (wrap64 ((wrap64 ((wrap64 (low + high)) + 1)).tdiv 2)) high left cube)) else (some low)
end
def scaled_Bad.f (k : Nat) (a0 : Int) (a1 : Int) : Option Int := (scaled_Clamp.f k a0).bind fun r => (scaled_Clamp.f k a1).bind fun r2 => if (decide (r ≤ 0)) = true then (some 0) else (if (decide (r2 ≤ 0)) = true then (some 10000) else (if r2 ≠ 0 then (if (decide (5 ≤ (wrap64 (r.tdiv r2)))) = true then (some 10000) else (scaled_Bad.j0 k r r2)) else none))
def scaled_Bad.sig (k : Nat) : Sig := .p [(false, (.i .i64)), (false, (.i .i64))] [.c false (.i .i64)] fun x => scaled_Bad.f k x.1 x.2.1
def scaled_Bad.E (k : Nat) : List (Nat × Sig) := [(76, scaled_Clamp.sig k), (92, scaled_product.sig k), (93, scaled_wide_times.sig k), (94, scaled_smaller.sig k)]
def scaled_Bad.G (P : Program) : GI := ⟨P, TT, 59, 67, [(5, 59, 4), (6, 63, 4)], [], [], [], [], AD⟩
def scaled_Bad.H : H := .s .n (.s .n (.s .n (.j 0 .n (.s .n (.s .n (.s .n (.s (.s (.l 1 .n) .n) .n)))))))
abbrev scaled_Bad.j0_s : Sh := [(0, .v (.i .i64)), (1, .v (.i .i64))]
abbrev scaled_Bad.l1_s : Sh := [(5, .at_ 59), (6, .at_ 63), (7, .v (.i .i64)), (8, .v (.i .i64)), (59, .box y56), (63, .box y56)]
def scaled_Bad.O (k : Nat) : List (Orc (denR [.c false (.i .i64)])) := [⟨scaled_Bad.j0_s, fun y => scaled_Bad.j0 k y.1 y.2.1⟩, ⟨scaled_Bad.l1_s, fun y => scaled_Bad.l1 k y.2.2.1 y.2.2.2.1 y.2.2.2.2.1 y.2.2.2.2.2.1⟩]
theorem scaled_Bad.l1_e (k : Nat) (y : denS scaled_Bad.l1_s) : scaled_Bad.l1 (k + 1) y.2.2.1 y.2.2.2.1 y.2.2.2.2.1 y.2.2.2.2.2.1 = evP ((scaled_Bad.G Try.prog).at (scaled_Bad.E k)) (fun i => (scaled_Bad.O k)[i]?) [1, 1, 1, 1, 1, 1, 1, 0, 0, 0] (cd Try.f87) scaled_Bad.H (kFin ((scaled_Bad.G Try.prog).at (scaled_Bad.E k)) [.tmp 4] [.c false (.i .i64)]) (unS scaled_Bad.l1_s y) := by rw [scaled_Bad.l1]; kernel_rfl
theorem scaled_Bad.j0_e (k : Nat) (y : denS scaled_Bad.j0_s) : scaled_Bad.j0 (k + 1) y.1 y.2.1 = evP ((scaled_Bad.G Try.prog).at (scaled_Bad.E k)) (fun i => (scaled_Bad.O k)[i]?) [1, 1, 1, 1] (cd Try.f87) scaled_Bad.H (kFin ((scaled_Bad.G Try.prog).at (scaled_Bad.E k)) [.tmp 4] [.c false (.i .i64)]) (unS scaled_Bad.j0_s y) := by rw [scaled_Bad.j0]; kernel_rfl
theorem scaled_Bad.go : goesTo Try.prog 87 := ⟨_, Try.func87, by kernel_rfl, rfl⟩
theorem scaled_Bad.ok (k : Nat) : SigOk Try.prog 87 (scaled_Bad.sig k) :=
  fn_p (G := scaled_Bad.G Try.prog) (c := cd Try.f87) (rs := [.tmp 4]) (args := [(false, (.i .i64)), (false, (.i .i64))]) (l := [.c false (.i .i64)]) (fn := Try.f87) ⟨Try.func87, by kernel_rfl, by kernel_rfl, by kernel_rfl, le_of rfl, le_of rfl, TT_ok, AD_ok⟩ rfl scaled_Bad.E (fun k p hp => by
    simp only [scaled_Bad.E, List.mem_cons, List.not_mem_nil, or_false] at hp
    rcases hp with rfl | rfl | rfl | rfl
    · exact ⟨scaled_Clamp.ok k, scaled_Clamp.go⟩
    · exact ⟨scaled_product.ok k, scaled_product.go⟩
    · exact ⟨scaled_wide_times.ok k, scaled_wide_times.go⟩
    · exact ⟨scaled_smaller.ok k, scaled_smaller.go⟩)
    (fun k i => (scaled_Bad.O k)[i]?) scaled_Bad.H (fun k x => scaled_Bad.f k x.1 x.2.1)
    (fun id o y h => by
    have h' := List.mem_of_getElem? h
    simp only [scaled_Bad.O, List.mem_cons, List.not_mem_nil, or_false] at h'
    rcases h' with rfl | rfl <;> rfl)
    (fun k p hp => by
    rw [show pts (cd Try.f87) scaled_Bad.H = [(1, [1, 1, 1, 1, 1, 1, 1, 0, 0, 0]), (0, [1, 1, 1, 1])] by kernel_rfl] at hp
    simp only [List.mem_cons, List.not_mem_nil, or_false] at hp
    rcases hp with rfl | rfl
    · exact ptOk_of rfl (scaled_Bad.l1_e k)
    · exact ptOk_of rfl (scaled_Bad.j0_e k))
    (fun k x => by kernel_rfl) k
/-! reglet/scaled.size -/
def scaled_size.f (k : Nat) (a0 : Int) : Option Int := (scaled_Clamp.f k a0).bind fun r => if (decide (r < 0)) = true then (some (IntKind.u64.wrap (wrap64 (-r)))) else (some (IntKind.u64.wrap (r)))
def scaled_size.sig (k : Nat) : Sig := .p [(false, (.i .i64))] [.c false (.i .u64)] fun x => scaled_size.f k x.1
def scaled_size.E (k : Nat) : List (Nat × Sig) := [(76, scaled_Clamp.sig k)]
def scaled_size.G (P : Program) : GI := ⟨P, TT, 12, 12, [], [], [], [], [], AD⟩
def scaled_size.H : H := .n
def scaled_size.O (k : Nat) : List (Orc (denR [.c false (.i .u64)])) := []
theorem scaled_size.go : goesTo Try.prog 97 := ⟨_, Try.func97, by kernel_rfl, rfl⟩
theorem scaled_size.ok (k : Nat) : SigOk Try.prog 97 (scaled_size.sig k) :=
  fn_p (G := scaled_size.G Try.prog) (c := cd Try.f97) (rs := [.tmp 2]) (args := [(false, (.i .i64))]) (l := [.c false (.i .u64)]) (fn := Try.f97) ⟨Try.func97, by kernel_rfl, by kernel_rfl, by kernel_rfl, le_of rfl, le_of rfl, TT_ok, AD_ok⟩ rfl scaled_size.E (fun k p hp => by
    simp only [scaled_size.E, List.mem_cons, List.not_mem_nil, or_false] at hp
    rcases hp with rfl
    · exact ⟨scaled_Clamp.ok k, scaled_Clamp.go⟩)
    (fun k i => (scaled_size.O k)[i]?) scaled_size.H (fun k x => scaled_size.f k x.1)
    (fun id o y h => by cases id <;> cases h)
    (fun k p hp => by rw [show pts (cd Try.f97) scaled_size.H = [] by kernel_rfl] at hp; nomatch hp)
    (fun k x => by kernel_rfl) k
/-! reglet/scaled.Gcd -/
mutual
def scaled_Gcd.l0 : Nat → Int → Int → Option Int
  | 0, _, _ => none
  | k + 1, x, y => if (decide (0 < y)) = true then (if y ≠ 0 then (scaled_Gcd.l0 k y (x.tmod y)) else none) else (some (wrap64 (x)))
end
def scaled_Gcd.f (k : Nat) (a0 : Int) (a1 : Int) : Option Int := (scaled_size.f k a0).bind fun r => (scaled_size.f k a1).bind fun r2 => scaled_Gcd.l0 k r r2
def scaled_Gcd.sig (k : Nat) : Sig := .p [(false, (.i .i64)), (false, (.i .i64))] [.c false (.i .i64)] fun x => scaled_Gcd.f k x.1 x.2.1
def scaled_Gcd.E (k : Nat) : List (Nat × Sig) := [(97, scaled_size.sig k)]
def scaled_Gcd.G (P : Program) : GI := ⟨P, TT, 19, 19, [], [], [], [], [], AD⟩
def scaled_Gcd.H : H := .s .n (.s .n (.s (.s (.l 0 .n) .n) .n))
abbrev scaled_Gcd.l0_s : Sh := [(5, .v (.i .u64)), (6, .v (.i .u64))]
def scaled_Gcd.O (k : Nat) : List (Orc (denR [.c false (.i .i64)])) := [⟨scaled_Gcd.l0_s, fun y => scaled_Gcd.l0 k y.1 y.2.1⟩]
theorem scaled_Gcd.l0_e (k : Nat) (y : denS scaled_Gcd.l0_s) : scaled_Gcd.l0 (k + 1) y.1 y.2.1 = evP ((scaled_Gcd.G Try.prog).at (scaled_Gcd.E k)) (fun i => (scaled_Gcd.O k)[i]?) [1, 1, 0, 0, 0] (cd Try.f95) scaled_Gcd.H (kFin ((scaled_Gcd.G Try.prog).at (scaled_Gcd.E k)) [.tmp 4] [.c false (.i .i64)]) (unS scaled_Gcd.l0_s y) := by rw [scaled_Gcd.l0]; kernel_rfl
theorem scaled_Gcd.go : goesTo Try.prog 95 := ⟨_, Try.func95, by kernel_rfl, rfl⟩
theorem scaled_Gcd.ok (k : Nat) : SigOk Try.prog 95 (scaled_Gcd.sig k) :=
  fn_p (G := scaled_Gcd.G Try.prog) (c := cd Try.f95) (rs := [.tmp 4]) (args := [(false, (.i .i64)), (false, (.i .i64))]) (l := [.c false (.i .i64)]) (fn := Try.f95) ⟨Try.func95, by kernel_rfl, by kernel_rfl, by kernel_rfl, le_of rfl, le_of rfl, TT_ok, AD_ok⟩ rfl scaled_Gcd.E (fun k p hp => by
    simp only [scaled_Gcd.E, List.mem_cons, List.not_mem_nil, or_false] at hp
    rcases hp with rfl
    · exact ⟨scaled_size.ok k, scaled_size.go⟩)
    (fun k i => (scaled_Gcd.O k)[i]?) scaled_Gcd.H (fun k x => scaled_Gcd.f k x.1 x.2.1)
    (fun id o y h => by
    have h' := List.mem_of_getElem? h
    simp only [scaled_Gcd.O, List.mem_cons, List.not_mem_nil, or_false] at h'
    rcases h' with rfl <;> rfl)
    (fun k p hp => by
    rw [show pts (cd Try.f95) scaled_Gcd.H = [(0, [1, 1, 0, 0, 0])] by kernel_rfl] at hp
    simp only [List.mem_cons, List.not_mem_nil, or_false] at hp
    rcases hp with rfl
    · exact ptOk_of rfl (scaled_Gcd.l0_e k))
    (fun k x => by kernel_rfl) k
/-! reglet/scaled.Lowest -/
mutual
def scaled_Lowest.j0 : Nat → Int → Int → Option (Int × Int)
  | 0, _, _ => none
  | k + 1, a, b => (scaled_Gcd.f k a b).bind fun r3 => if r3 ≠ 0 then (if r3 ≠ 0 then (some (wrap64 (a.tdiv r3), wrap64 (b.tdiv r3))) else none) else none
end
def scaled_Lowest.f (k : Nat) (a0 : Int) (a1 : Int) : Option (Int × Int) := (scaled_Clamp.f k a0).bind fun r => (scaled_Clamp.f k a1).bind fun r2 => if (decide (r2 = 0)) = true then (some (0, 1)) else (if (decide (r2 < 0)) = true then (scaled_Lowest.j0 k (wrap64 (-r)) (wrap64 (-r2))) else (scaled_Lowest.j0 k r r2))
def scaled_Lowest.sig (k : Nat) : Sig := .p [(false, (.i .i64)), (false, (.i .i64))] [.c false (.i .i64), .c false (.i .i64)] fun x => scaled_Lowest.f k x.1 x.2.1
def scaled_Lowest.E (k : Nat) : List (Nat × Sig) := [(76, scaled_Clamp.sig k), (95, scaled_Gcd.sig k)]
def scaled_Lowest.G (P : Program) : GI := ⟨P, TT, 28, 28, [], [], [], [], [], AD⟩
def scaled_Lowest.H : H := .s .n (.s .n (.s .n (.j 0 .n .n)))
abbrev scaled_Lowest.j0_s : Sh := [(0, .v (.i .i64)), (1, .v (.i .i64))]
def scaled_Lowest.O (k : Nat) : List (Orc (denR [.c false (.i .i64), .c false (.i .i64)])) := [⟨scaled_Lowest.j0_s, fun y => scaled_Lowest.j0 k y.1 y.2.1⟩]
theorem scaled_Lowest.j0_e (k : Nat) (y : denS scaled_Lowest.j0_s) : scaled_Lowest.j0 (k + 1) y.1 y.2.1 = evP ((scaled_Lowest.G Try.prog).at (scaled_Lowest.E k)) (fun i => (scaled_Lowest.O k)[i]?) [1, 1, 1, 1] (cd Try.f88) scaled_Lowest.H (kFin ((scaled_Lowest.G Try.prog).at (scaled_Lowest.E k)) [.tmp 4, .tmp 5] [.c false (.i .i64), .c false (.i .i64)]) (unS scaled_Lowest.j0_s y) := by rw [scaled_Lowest.j0]; kernel_rfl
theorem scaled_Lowest.go : goesTo Try.prog 88 := ⟨_, Try.func88, by kernel_rfl, rfl⟩
theorem scaled_Lowest.ok (k : Nat) : SigOk Try.prog 88 (scaled_Lowest.sig k) :=
  fn_p (G := scaled_Lowest.G Try.prog) (c := cd Try.f88) (rs := [.tmp 4, .tmp 5]) (args := [(false, (.i .i64)), (false, (.i .i64))]) (l := [.c false (.i .i64), .c false (.i .i64)]) (fn := Try.f88) ⟨Try.func88, by kernel_rfl, by kernel_rfl, by kernel_rfl, le_of rfl, le_of rfl, TT_ok, AD_ok⟩ rfl scaled_Lowest.E (fun k p hp => by
    simp only [scaled_Lowest.E, List.mem_cons, List.not_mem_nil, or_false] at hp
    rcases hp with rfl | rfl
    · exact ⟨scaled_Clamp.ok k, scaled_Clamp.go⟩
    · exact ⟨scaled_Gcd.ok k, scaled_Gcd.go⟩)
    (fun k i => (scaled_Lowest.O k)[i]?) scaled_Lowest.H (fun k x => scaled_Lowest.f k x.1 x.2.1)
    (fun id o y h => by
    have h' := List.mem_of_getElem? h
    simp only [scaled_Lowest.O, List.mem_cons, List.not_mem_nil, or_false] at h'
    rcases h' with rfl <;> rfl)
    (fun k p hp => by
    rw [show pts (cd Try.f88) scaled_Lowest.H = [(0, [1, 1, 1, 1])] by kernel_rfl] at hp
    simp only [List.mem_cons, List.not_mem_nil, or_false] at hp
    rcases hp with rfl
    · exact ptOk_of rfl (scaled_Lowest.j0_e k))
    (fun k x => by kernel_rfl) k
/-! reglet/measure.Set -/
mutual
def measure_Set.j0 : Nat → Int → regletref08_Sum → api_Fit → api_Fit → Option api_Fit
  | 0, _, _, _, _ => none
  | k + 1, t, t2, t3, t4 => (scaled_Lowest.f k t t2.2.1).bind fun r5 => if (decide (12 < t4.2.2.1)) = true then (measure_Set.j3 k t3 (r5.1, r5.2, t4.2.2.1, 2, t4.2.2.2.2)) else (measure_Set.j3 k t3 (r5.1, r5.2, t4.2.2.1, t4.2.2.2.1, t4.2.2.2.2))
def measure_Set.j1 : Nat → regletref08_Sum → api_Fit → api_Fit → Option api_Fit
  | 0, _, _, _ => none
  | k + 1, t5, t6, t7 => if (decide (0 < t5.2.2.1)) = true then (some ((-1), t7.2.1, t7.2.2.1, t7.2.2.2.1, t7.2.2.2.2)) else (some t7)
def measure_Set.j2 : Nat → Int → regletref08_Sum → api_Fit → Option api_Fit
  | 0, _, _, _ => none
  | k + 1, t8, t9, t10 => (scaled_Bad.f k (wrap64 (-t8)) t9.2.2.1).bind fun r6 => (scaled_Lowest.f k t8 t9.2.2.1).bind fun r7 => if (decide (12 < r6)) = true then (some (r7.1, r7.2, r6, 0, (false))) else (some (r7.1, r7.2, r6, 1, (false)))
def measure_Set.j3 : Nat → api_Fit → api_Fit → Option api_Fit
  | 0, _, _ => none
  | k + 1, t11, t12 => if (decide (99 < t12.2.2.1)) = true then (some (t12.1, t12.2.1, t12.2.2.1, 3, t12.2.2.2.2)) else (some t12)
end
def measure_Set.f (k : Nat) (a0 : regletref08_Sum) (a1 : Int) : Option api_Fit := if (decide ((wrap64 (a1 - a0.1)) = 0)) = true then (some (0, 1, 0, 1, (false))) else (if (decide (0 < (wrap64 (a1 - a0.1)))) = true then (if (decide (0 < a0.2.2.2)) = true then (some (0, 1, 0, 1, (false))) else (if (decide (0 < (wrap64 (a1 - a0.1)))) = true then (if (decide (a0.2.1 = 0)) = true then (some (0, 1, 10000, 3, (false))) else (if (decide (0 < (wrap64 (a1 - a0.1)))) = true then ((scaled_Bad.f k (wrap64 (a1 - a0.1)) a0.2.1).bind fun r => measure_Set.j0 k (wrap64 (a1 - a0.1)) a0 (0, 0, 0, 0, (false)) (0, 0, r, 1, (false))) else (if (decide (a0.2.2.1 < (wrap64 (-(wrap64 (a1 - a0.1)))))) = true then (measure_Set.j1 k a0 (0, 0, 0, 0, (false)) (0, 1, 10000, 0, (true))) else (measure_Set.j2 k (wrap64 (a1 - a0.1)) a0 (0, 0, 0, 0, (false)))))) else (if (decide (0 < (wrap64 (a1 - a0.1)))) = true then ((scaled_Bad.f k (wrap64 (a1 - a0.1)) a0.2.1).bind fun r2 => measure_Set.j0 k (wrap64 (a1 - a0.1)) a0 (0, 0, 0, 0, (false)) (0, 0, r2, 1, (false))) else (if (decide (a0.2.2.1 < (wrap64 (-(wrap64 (a1 - a0.1)))))) = true then (measure_Set.j1 k a0 (0, 0, 0, 0, (false)) (0, 1, 10000, 0, (true))) else (measure_Set.j2 k (wrap64 (a1 - a0.1)) a0 (0, 0, 0, 0, (false))))))) else (if (decide (0 < (wrap64 (a1 - a0.1)))) = true then (if (decide (a0.2.1 = 0)) = true then (some (0, 1, 10000, 3, (false))) else (if (decide (0 < (wrap64 (a1 - a0.1)))) = true then ((scaled_Bad.f k (wrap64 (a1 - a0.1)) a0.2.1).bind fun r3 => measure_Set.j0 k (wrap64 (a1 - a0.1)) a0 (0, 0, 0, 0, (false)) (0, 0, r3, 1, (false))) else (if (decide (a0.2.2.1 < (wrap64 (-(wrap64 (a1 - a0.1)))))) = true then (measure_Set.j1 k a0 (0, 0, 0, 0, (false)) (0, 1, 10000, 0, (true))) else (measure_Set.j2 k (wrap64 (a1 - a0.1)) a0 (0, 0, 0, 0, (false)))))) else (if (decide (0 < (wrap64 (a1 - a0.1)))) = true then ((scaled_Bad.f k (wrap64 (a1 - a0.1)) a0.2.1).bind fun r4 => measure_Set.j0 k (wrap64 (a1 - a0.1)) a0 (0, 0, 0, 0, (false)) (0, 0, r4, 1, (false))) else (if (decide (a0.2.2.1 < (wrap64 (-(wrap64 (a1 - a0.1)))))) = true then (measure_Set.j1 k a0 (0, 0, 0, 0, (false)) (0, 1, 10000, 0, (true))) else (measure_Set.j2 k (wrap64 (a1 - a0.1)) a0 (0, 0, 0, 0, (false)))))))
def measure_Set.sig (k : Nat) : Sig := .p [(true, y19), (false, (.i .i64))] [.c true y60] fun x => measure_Set.f k x.1 x.2.1
def measure_Set.E (k : Nat) : List (Nat × Sig) := [(87, scaled_Bad.sig k), (88, scaled_Lowest.sig k)]
def measure_Set.G (P : Program) : GI := ⟨P, TT, 93, 117, [(2, 93, 4), (4, 97, 5), (6, 102, 5), (7, 107, 5), (8, 112, 5)], [], [], [], [], AD⟩
def measure_Set.H : H := .s .n (.s .n (.j 2 (.s (.s .n (.s .n (.s .n (.s .n (.s .n (.s (.j 0 .n (.s .n (.j 3 .n .n))) (.s .n (.s (.j 1 .n .n) .n)))))))) .n) .n))
abbrev measure_Set.j0_s : Sh := [(2, .at_ 93), (4, .at_ 97), (5, .v (.i .i64)), (6, .at_ 102), (93, .box y19), (97, .box y60), (102, .box y60)]
abbrev measure_Set.j1_s : Sh := [(2, .at_ 93), (4, .at_ 97), (7, .at_ 107), (93, .box y19), (97, .box y60), (107, .box y60)]
abbrev measure_Set.j2_s : Sh := [(2, .at_ 93), (4, .at_ 97), (5, .v (.i .i64)), (93, .box y19), (97, .box y60)]
abbrev measure_Set.j3_s : Sh := [(4, .at_ 97), (6, .at_ 102), (97, .box y60), (102, .box y60)]
def measure_Set.O (k : Nat) : List (Orc (denR [.c true y60])) := [⟨measure_Set.j0_s, fun y => measure_Set.j0 k y.2.2.1 y.2.2.2.2.1 y.2.2.2.2.2.1 y.2.2.2.2.2.2.1⟩, ⟨measure_Set.j1_s, fun y => measure_Set.j1 k y.2.2.2.1 y.2.2.2.2.1 y.2.2.2.2.2.1⟩, ⟨measure_Set.j2_s, fun y => measure_Set.j2 k y.2.2.1 y.2.2.2.1 y.2.2.2.2.1⟩, ⟨measure_Set.j3_s, fun y => measure_Set.j3 k y.2.2.1 y.2.2.2.1⟩]
theorem measure_Set.j3_e (k : Nat) (y : denS measure_Set.j3_s) : measure_Set.j3 (k + 1) y.2.2.1 y.2.2.2.1 = evP ((measure_Set.G Try.prog).at (measure_Set.E k)) (fun i => (measure_Set.O k)[i]?) [1, 1, 0, 0, 1, 1, 1, 1, 1, 0, 1, 1, 1] (cd Try.f75) measure_Set.H (kFin ((measure_Set.G Try.prog).at (measure_Set.E k)) [.cell 4 77] [.c true y60]) (unS measure_Set.j3_s y) := by rw [measure_Set.j3]; kernel_rfl
theorem measure_Set.j0_e (k : Nat) (y : denS measure_Set.j0_s) : measure_Set.j0 (k + 1) y.2.2.1 y.2.2.2.2.1 y.2.2.2.2.2.1 y.2.2.2.2.2.2.1 = evP ((measure_Set.G Try.prog).at (measure_Set.E k)) (fun i => (measure_Set.O k)[i]?) [1, 1, 0, 0, 1, 1, 1, 1, 1, 0, 1] (cd Try.f75) measure_Set.H (kFin ((measure_Set.G Try.prog).at (measure_Set.E k)) [.cell 4 77] [.c true y60]) (unS measure_Set.j0_s y) := by rw [measure_Set.j0]; kernel_rfl
theorem measure_Set.j1_e (k : Nat) (y : denS measure_Set.j1_s) : measure_Set.j1 (k + 1) y.2.2.2.1 y.2.2.2.2.1 y.2.2.2.2.2.1 = evP ((measure_Set.G Try.prog).at (measure_Set.E k)) (fun i => (measure_Set.O k)[i]?) [1, 1, 0, 0, 1, 1, 1, 1, 1, 1, 1, 0, 1] (cd Try.f75) measure_Set.H (kFin ((measure_Set.G Try.prog).at (measure_Set.E k)) [.cell 4 77] [.c true y60]) (unS measure_Set.j1_s y) := by rw [measure_Set.j1]; kernel_rfl
theorem measure_Set.j2_e (k : Nat) (y : denS measure_Set.j2_s) : measure_Set.j2 (k + 1) y.2.2.1 y.2.2.2.1 y.2.2.2.2.1 = evP ((measure_Set.G Try.prog).at (measure_Set.E k)) (fun i => (measure_Set.O k)[i]?) [1, 1, 1] (cd Try.f75) measure_Set.H (kFin ((measure_Set.G Try.prog).at (measure_Set.E k)) [.cell 4 77] [.c true y60]) (unS measure_Set.j2_s y) := by rw [measure_Set.j2]; kernel_rfl
theorem measure_Set.go : goesTo Try.prog 75 := ⟨_, Try.func75, by kernel_rfl, rfl⟩
theorem measure_Set.ok (k : Nat) : SigOk Try.prog 75 (measure_Set.sig k) :=
  fn_p (G := measure_Set.G Try.prog) (c := cd Try.f75) (rs := [.cell 4 77]) (args := [(true, y19), (false, (.i .i64))]) (l := [.c true y60]) (fn := Try.f75) ⟨Try.func75, by kernel_rfl, by kernel_rfl, by kernel_rfl, le_of rfl, le_of rfl, TT_ok, AD_ok⟩ rfl measure_Set.E (fun k p hp => by
    simp only [measure_Set.E, List.mem_cons, List.not_mem_nil, or_false] at hp
    rcases hp with rfl | rfl
    · exact ⟨scaled_Bad.ok k, scaled_Bad.go⟩
    · exact ⟨scaled_Lowest.ok k, scaled_Lowest.go⟩)
    (fun k i => (measure_Set.O k)[i]?) measure_Set.H (fun k x => measure_Set.f k x.1 x.2.1)
    (fun id o y h => by
    have h' := List.mem_of_getElem? h
    simp only [measure_Set.O, List.mem_cons, List.not_mem_nil, or_false] at h'
    rcases h' with rfl | rfl | rfl | rfl <;> rfl)
    (fun k p hp => by
    rw [show pts (cd Try.f75) measure_Set.H = [(3, [1, 1, 0, 0, 1, 1, 1, 1, 1, 0, 1, 1, 1]), (0, [1, 1, 0, 0, 1, 1, 1, 1, 1, 0, 1]), (1, [1, 1, 0, 0, 1, 1, 1, 1, 1, 1, 1, 0, 1]), (2, [1, 1, 1])] by kernel_rfl] at hp
    simp only [List.mem_cons, List.not_mem_nil, or_false] at hp
    rcases hp with rfl | rfl | rfl | rfl
    · exact ptOk_of rfl (measure_Set.j3_e k)
    · exact ptOk_of rfl (measure_Set.j0_e k)
    · exact ptOk_of rfl (measure_Set.j1_e k)
    · exact ptOk_of rfl (measure_Set.j2_e k))
    (fun k x => by kernel_rfl) k
/-! (*reglet/measure.Para).Fit -/
def measure_Para_Fit.f (k : Nat) (a0 : measure_Para) (a1 : Int) (a2 : Int) (a3 : Int) : Option api_Fit := (measure_Para_Line.f k a0 a1 a2).bind fun r => (measure_Set.f k r a3).bind fun r2 => some r2
def measure_Para_Fit.sig (k : Nat) : Sig := .p [(false, y31), (false, (.i .i64)), (false, (.i .i64)), (false, (.i .i64))] [.c true y60] fun x => measure_Para_Fit.f k x.1 x.2.1 x.2.2.1 x.2.2.2.1
def measure_Para_Fit.E (k : Nat) : List (Nat × Sig) := [(74, measure_Para_Line.sig k), (75, measure_Set.sig k)]
def measure_Para_Fit.G (P : Program) : GI := ⟨P, TT, 15, 20, [(8, 15, 5)], [], [], [], [], AD⟩
def measure_Para_Fit.H : H := .n
def measure_Para_Fit.O (k : Nat) : List (Orc (denR [.c true y60])) := []
theorem measure_Para_Fit.go : goesTo Try.prog 63 := ⟨_, Try.func63, by kernel_rfl, rfl⟩
theorem measure_Para_Fit.ok (k : Nat) : SigOk Try.prog 63 (measure_Para_Fit.sig k) :=
  fn_p (G := measure_Para_Fit.G Try.prog) (c := cd Try.f63) (rs := [.cell 8 77]) (args := [(false, y31), (false, (.i .i64)), (false, (.i .i64)), (false, (.i .i64))]) (l := [.c true y60]) (fn := Try.f63) ⟨Try.func63, by kernel_rfl, by kernel_rfl, by kernel_rfl, le_of rfl, le_of rfl, TT_ok, AD_ok⟩ rfl measure_Para_Fit.E (fun k p hp => by
    simp only [measure_Para_Fit.E, List.mem_cons, List.not_mem_nil, or_false] at hp
    rcases hp with rfl | rfl
    · exact ⟨measure_Para_Line.ok k, measure_Para_Line.go⟩
    · exact ⟨measure_Set.ok k, measure_Set.go⟩)
    (fun k i => (measure_Para_Fit.O k)[i]?) measure_Para_Fit.H (fun k x => measure_Para_Fit.f k x.1 x.2.1 x.2.2.1 x.2.2.2.1)
    (fun id o y h => by cases id <;> cases h)
    (fun k p hp => by rw [show pts (cd Try.f63) measure_Para_Fit.H = [] by kernel_rfl] at hp; nomatch hp)
    (fun k x => by kernel_rfl) k
/-! (*reglet/breaks.search).may -/
def breaks_search_may.f (k : Nat) (a0 : measure_Para × Int × Int × Int × Int × Int × Int × Int × Int × Bool × List regletref08_Sum × List Int) (a1 : api_Fit) (a2 : Bool) : Option Bool := if (!a0.2.2.2.2.2.2.2.2.2.1) = true then (if (!a1.2.2.2.2) = true then (some (decide (a1.2.2.1 ≤ a0.2.2.1))) else (some false)) else (if a1.2.2.2.2 = true then (some a2) else (some true))
def breaks_search_may.sig (k : Nat) : Sig := .p [(false, y73), (true, y60), (false, .b)] [.c false .b] fun x => breaks_search_may.f k x.1 x.2.1 x.2.2.1
def breaks_search_may.E (k : Nat) : List (Nat × Sig) := []
def breaks_search_may.G (P : Program) : GI := ⟨P, TT, 30, 35, [(4, 30, 5)], [], [], [], [], AD⟩
def breaks_search_may.H : H := .n
def breaks_search_may.O (k : Nat) : List (Orc (denR [.c false .b])) := []
theorem breaks_search_may.go : goesTo Try.prog 64 := ⟨_, Try.func64, by kernel_rfl, rfl⟩
theorem breaks_search_may.ok (k : Nat) : SigOk Try.prog 64 (breaks_search_may.sig k) :=
  fn_p (G := breaks_search_may.G Try.prog) (c := cd Try.f64) (rs := [.tmp 6]) (args := [(false, y73), (true, y60), (false, .b)]) (l := [.c false .b]) (fn := Try.f64) ⟨Try.func64, by kernel_rfl, by kernel_rfl, by kernel_rfl, le_of rfl, le_of rfl, TT_ok, AD_ok⟩ rfl breaks_search_may.E (fun k p hp => nomatch hp)
    (fun k i => (breaks_search_may.O k)[i]?) breaks_search_may.H (fun k x => breaks_search_may.f k x.1 x.2.1 x.2.2.1)
    (fun id o y h => by cases id <;> cases h)
    (fun k p hp => by rw [show pts (cd Try.f64) breaks_search_may.H = [] by kernel_rfl] at hp; nomatch hp)
    (fun k x => by kernel_rfl) k
/-! (*reglet/breaks.search).line -/
def breaks_search_line.f (k : Nat) (a0 : measure_Para × Int × Int × Int × Int × Int × Int × Int × Int × Bool × List regletref08_Sum × List Int) (a1 : Int) (a2 : Int) : Option (api_Fit × Bool) := (measure_Para_End.f k a0.1 a1).bind fun r => (measure_Para_End.f k a0.1 a2).bind fun r2 => (measure_Para_Fit.f k a0.1 r r2 a0.2.1).bind fun r3 => (breaks_search_may.f k a0 r3 (decide (a2 = (wrap64 (a1 + 1))))).bind fun r4 => some (r3, r4)
def breaks_search_line.sig (k : Nat) : Sig := .p [(false, y73), (false, (.i .i64)), (false, (.i .i64))] [.c true y60, .c false .b] fun x => breaks_search_line.f k x.1 x.2.1 x.2.2.1
def breaks_search_line.E (k : Nat) : List (Nat × Sig) := [(51, measure_Para_End.sig k), (63, measure_Para_Fit.sig k), (64, breaks_search_may.sig k)]
def breaks_search_line.G (P : Program) : GI := ⟨P, TT, 38, 48, [(6, 38, 5), (8, 43, 5)], [], [], [], [], AD⟩
def breaks_search_line.H : H := .n
def breaks_search_line.O (k : Nat) : List (Orc (denR [.c true y60, .c false .b])) := []
theorem breaks_search_line.go : goesTo Try.prog 53 := ⟨_, Try.func53, by kernel_rfl, rfl⟩
theorem breaks_search_line.ok (k : Nat) : SigOk Try.prog 53 (breaks_search_line.sig k) :=
  fn_p (G := breaks_search_line.G Try.prog) (c := cd Try.f53) (rs := [.cell 6 77, .tmp 7]) (args := [(false, y73), (false, (.i .i64)), (false, (.i .i64))]) (l := [.c true y60, .c false .b]) (fn := Try.f53) ⟨Try.func53, by kernel_rfl, by kernel_rfl, by kernel_rfl, le_of rfl, le_of rfl, TT_ok, AD_ok⟩ rfl breaks_search_line.E (fun k p hp => by
    simp only [breaks_search_line.E, List.mem_cons, List.not_mem_nil, or_false] at hp
    rcases hp with rfl | rfl | rfl
    · exact ⟨measure_Para_End.ok k, measure_Para_End.go⟩
    · exact ⟨measure_Para_Fit.ok k, measure_Para_Fit.go⟩
    · exact ⟨breaks_search_may.ok k, breaks_search_may.go⟩)
    (fun k i => (breaks_search_line.O k)[i]?) breaks_search_line.H (fun k x => breaks_search_line.f k x.1 x.2.1 x.2.2.1)
    (fun id o y h => by cases id <;> cases h)
    (fun k p hp => by rw [show pts (cd Try.f53) breaks_search_line.H = [] by kernel_rfl] at hp; nomatch hp)
    (fun k x => by kernel_rfl) k
/-! reglet/scaled.Add -/
def scaled_Add.f (k : Nat) (a0 : Int) (a1 : Int) : Option Int := (scaled_Clamp.f k a0).bind fun r => (scaled_Clamp.f k a1).bind fun r2 => (scaled_Clamp.f k (wrap64 (r + r2))).bind fun r3 => some r3
def scaled_Add.sig (k : Nat) : Sig := .p [(false, (.i .i64)), (false, (.i .i64))] [.c false (.i .i64)] fun x => scaled_Add.f k x.1 x.2.1
def scaled_Add.E (k : Nat) : List (Nat × Sig) := [(76, scaled_Clamp.sig k)]
def scaled_Add.G (P : Program) : GI := ⟨P, TT, 11, 11, [], [], [], [], [], AD⟩
def scaled_Add.H : H := .n
def scaled_Add.O (k : Nat) : List (Orc (denR [.c false (.i .i64)])) := []
theorem scaled_Add.go : goesTo Try.prog 65 := ⟨_, Try.func65, by kernel_rfl, rfl⟩
theorem scaled_Add.ok (k : Nat) : SigOk Try.prog 65 (scaled_Add.sig k) :=
  fn_p (G := scaled_Add.G Try.prog) (c := cd Try.f65) (rs := [.tmp 4]) (args := [(false, (.i .i64)), (false, (.i .i64))]) (l := [.c false (.i .i64)]) (fn := Try.f65) ⟨Try.func65, by kernel_rfl, by kernel_rfl, by kernel_rfl, le_of rfl, le_of rfl, TT_ok, AD_ok⟩ rfl scaled_Add.E (fun k p hp => by
    simp only [scaled_Add.E, List.mem_cons, List.not_mem_nil, or_false] at hp
    rcases hp with rfl
    · exact ⟨scaled_Clamp.ok k, scaled_Clamp.go⟩)
    (fun k i => (scaled_Add.O k)[i]?) scaled_Add.H (fun k x => scaled_Add.f k x.1 x.2.1)
    (fun id o y h => by cases id <;> cases h)
    (fun k p hp => by rw [show pts (cd Try.f65) scaled_Add.H = [] by kernel_rfl] at hp; nomatch hp)
    (fun k x => by kernel_rfl) k
/-! reglet/measure.Total -/
def measure_Total.f (k : Nat) (a0 : Int) (a1 : Int) : Option Int := (scaled_Add.f k a0 a1).bind fun r => some (if 1125899906842624 < r then 1125899906842624 else r)
def measure_Total.sig (k : Nat) : Sig := .p [(false, (.i .i64)), (false, (.i .i64))] [.c false (.i .i64)] fun x => measure_Total.f k x.1 x.2.1
def measure_Total.E (k : Nat) : List (Nat × Sig) := [(65, scaled_Add.sig k)]
def measure_Total.G (P : Program) : GI := ⟨P, TT, 9, 9, [], [], [], [], [], AD⟩
def measure_Total.H : H := .n
def measure_Total.O (k : Nat) : List (Orc (denR [.c false (.i .i64)])) := []
theorem measure_Total.go : goesTo Try.prog 54 := ⟨_, Try.func54, by kernel_rfl, rfl⟩
theorem measure_Total.ok (k : Nat) : SigOk Try.prog 54 (measure_Total.sig k) :=
  fn_p (G := measure_Total.G Try.prog) (c := cd Try.f54) (rs := [.tmp 4]) (args := [(false, (.i .i64)), (false, (.i .i64))]) (l := [.c false (.i .i64)]) (fn := Try.f54) ⟨Try.func54, by kernel_rfl, by kernel_rfl, by kernel_rfl, le_of rfl, le_of rfl, TT_ok, AD_ok⟩ rfl measure_Total.E (fun k p hp => by
    simp only [measure_Total.E, List.mem_cons, List.not_mem_nil, or_false] at hp
    rcases hp with rfl
    · exact ⟨scaled_Add.ok k, scaled_Add.go⟩)
    (fun k i => (measure_Total.O k)[i]?) measure_Total.H (fun k x => measure_Total.f k x.1 x.2.1)
    (fun id o y h => by cases id <;> cases h)
    (fun k p hp => by rw [show pts (cd Try.f54) measure_Total.H = [] by kernel_rfl] at hp; nomatch hp)
    (fun k x => by kernel_rfl) k
/-! reglet/scaled.signed -/
mutual
def scaled_signed.j0 : Nat → Bool → Int → Option Int
  | 0, _, _ => none
  | k + 1, neg, n => if neg = true then (some (wrap64 (-n))) else (some n)
end
def scaled_signed.f (k : Nat) (a0 : Bool) (a1 : Int) (a2 : Int) : Option Int := if (decide (a1 = 0)) = true then (if (decide (a2 < 1152921504606846976)) = true then (scaled_signed.j0 k a0 (wrap64 (a2))) else (scaled_signed.j0 k a0 1152921504606846976)) else (scaled_signed.j0 k a0 1152921504606846976)
def scaled_signed.sig (k : Nat) : Sig := .p [(false, .b), (false, (.i .u64)), (false, (.i .u64))] [.c false (.i .i64)] fun x => scaled_signed.f k x.1 x.2.1 x.2.2.1
def scaled_signed.E (k : Nat) : List (Nat × Sig) := []
def scaled_signed.G (P : Program) : GI := ⟨P, TT, 20, 20, [], [], [], [], [], AD⟩
def scaled_signed.H : H := .s .n (.s .n (.j 0 .n .n))
abbrev scaled_signed.j0_s : Sh := [(0, .v .b), (7, .v (.i .i64))]
def scaled_signed.O (k : Nat) : List (Orc (denR [.c false (.i .i64)])) := [⟨scaled_signed.j0_s, fun y => scaled_signed.j0 k y.1 y.2.1⟩]
theorem scaled_signed.j0_e (k : Nat) (y : denS scaled_signed.j0_s) : scaled_signed.j0 (k + 1) y.1 y.2.1 = evP ((scaled_signed.G Try.prog).at (scaled_signed.E k)) (fun i => (scaled_signed.O k)[i]?) [1, 1, 1] (cd Try.f98) scaled_signed.H (kFin ((scaled_signed.G Try.prog).at (scaled_signed.E k)) [.tmp 6] [.c false (.i .i64)]) (unS scaled_signed.j0_s y) := by rw [scaled_signed.j0]; kernel_rfl
theorem scaled_signed.go : goesTo Try.prog 98 := ⟨_, Try.func98, by kernel_rfl, rfl⟩
theorem scaled_signed.ok (k : Nat) : SigOk Try.prog 98 (scaled_signed.sig k) :=
  fn_p (G := scaled_signed.G Try.prog) (c := cd Try.f98) (rs := [.tmp 6]) (args := [(false, .b), (false, (.i .u64)), (false, (.i .u64))]) (l := [.c false (.i .i64)]) (fn := Try.f98) ⟨Try.func98, by kernel_rfl, by kernel_rfl, by kernel_rfl, le_of rfl, le_of rfl, TT_ok, AD_ok⟩ rfl scaled_signed.E (fun k p hp => nomatch hp)
    (fun k i => (scaled_signed.O k)[i]?) scaled_signed.H (fun k x => scaled_signed.f k x.1 x.2.1 x.2.2.1)
    (fun id o y h => by
    have h' := List.mem_of_getElem? h
    simp only [scaled_signed.O, List.mem_cons, List.not_mem_nil, or_false] at h'
    rcases h' with rfl <;> rfl)
    (fun k p hp => by
    rw [show pts (cd Try.f98) scaled_signed.H = [(0, [1, 1, 1])] by kernel_rfl] at hp
    simp only [List.mem_cons, List.not_mem_nil, or_false] at hp
    rcases hp with rfl
    · exact ptOk_of rfl (scaled_signed.j0_e k))
    (fun k x => by kernel_rfl) k
/-! reglet/scaled.Mul -/
def scaled_Mul.f (k : Nat) (a0 : Int) (a1 : Int) : Option Int := (scaled_size.f k a0).bind fun r => (scaled_size.f k a1).bind fun r2 => (bits_Mul64.f k r r2).bind fun r3 => (scaled_signed.f k (!decide ((decide (a0 < 0)) = (decide (a1 < 0)))) r3.1 r3.2).bind fun r4 => some r4
def scaled_Mul.sig (k : Nat) : Sig := .p [(false, (.i .i64)), (false, (.i .i64))] [.c false (.i .i64)] fun x => scaled_Mul.f k x.1 x.2.1
def scaled_Mul.E (k : Nat) : List (Nat × Sig) := [(96, bits_Mul64.sig k), (97, scaled_size.sig k), (98, scaled_signed.sig k)]
def scaled_Mul.G (P : Program) : GI := ⟨P, TT, 23, 23, [], [], [], [], [], AD⟩
def scaled_Mul.H : H := .n
def scaled_Mul.O (k : Nat) : List (Orc (denR [.c false (.i .i64)])) := []
theorem scaled_Mul.go : goesTo Try.prog 89 := ⟨_, Try.func89, by kernel_rfl, rfl⟩
theorem scaled_Mul.ok (k : Nat) : SigOk Try.prog 89 (scaled_Mul.sig k) :=
  fn_p (G := scaled_Mul.G Try.prog) (c := cd Try.f89) (rs := [.tmp 4]) (args := [(false, (.i .i64)), (false, (.i .i64))]) (l := [.c false (.i .i64)]) (fn := Try.f89) ⟨Try.func89, by kernel_rfl, by kernel_rfl, by kernel_rfl, le_of rfl, le_of rfl, TT_ok, AD_ok⟩ rfl scaled_Mul.E (fun k p hp => by
    simp only [scaled_Mul.E, List.mem_cons, List.not_mem_nil, or_false] at hp
    rcases hp with rfl | rfl | rfl
    · exact ⟨bits_Mul64.ok k, bits_Mul64.go⟩
    · exact ⟨scaled_size.ok k, scaled_size.go⟩
    · exact ⟨scaled_signed.ok k, scaled_signed.go⟩)
    (fun k i => (scaled_Mul.O k)[i]?) scaled_Mul.H (fun k x => scaled_Mul.f k x.1 x.2.1)
    (fun id o y h => by cases id <;> cases h)
    (fun k p hp => by rw [show pts (cd Try.f89) scaled_Mul.H = [] by kernel_rfl] at hp; nomatch hp)
    (fun k x => by kernel_rfl) k
/-! reglet/scaled.Neg -/
def scaled_Neg.f (k : Nat) (a0 : Int) : Option Int := (scaled_Clamp.f k a0).bind fun r => some (wrap64 (-r))
def scaled_Neg.sig (k : Nat) : Sig := .p [(false, (.i .i64))] [.c false (.i .i64)] fun x => scaled_Neg.f k x.1
def scaled_Neg.E (k : Nat) : List (Nat × Sig) := [(76, scaled_Clamp.sig k)]
def scaled_Neg.G (P : Program) : GI := ⟨P, TT, 6, 6, [], [], [], [], [], AD⟩
def scaled_Neg.H : H := .n
def scaled_Neg.O (k : Nat) : List (Orc (denR [.c false (.i .i64)])) := []
theorem scaled_Neg.go : goesTo Try.prog 99 := ⟨_, Try.func99, by kernel_rfl, rfl⟩
theorem scaled_Neg.ok (k : Nat) : SigOk Try.prog 99 (scaled_Neg.sig k) :=
  fn_p (G := scaled_Neg.G Try.prog) (c := cd Try.f99) (rs := [.tmp 2]) (args := [(false, (.i .i64))]) (l := [.c false (.i .i64)]) (fn := Try.f99) ⟨Try.func99, by kernel_rfl, by kernel_rfl, by kernel_rfl, le_of rfl, le_of rfl, TT_ok, AD_ok⟩ rfl scaled_Neg.E (fun k p hp => by
    simp only [scaled_Neg.E, List.mem_cons, List.not_mem_nil, or_false] at hp
    rcases hp with rfl
    · exact ⟨scaled_Clamp.ok k, scaled_Clamp.go⟩)
    (fun k i => (scaled_Neg.O k)[i]?) scaled_Neg.H (fun k x => scaled_Neg.f k x.1)
    (fun id o y h => by cases id <;> cases h)
    (fun k p hp => by rw [show pts (cd Try.f99) scaled_Neg.H = [] by kernel_rfl] at hp; nomatch hp)
    (fun k x => by kernel_rfl) k
/-! reglet/scaled.Sub -/
def scaled_Sub.f (k : Nat) (a0 : Int) (a1 : Int) : Option Int := (scaled_Neg.f k a1).bind fun r => (scaled_Add.f k a0 r).bind fun r2 => some r2
def scaled_Sub.sig (k : Nat) : Sig := .p [(false, (.i .i64)), (false, (.i .i64))] [.c false (.i .i64)] fun x => scaled_Sub.f k x.1 x.2.1
def scaled_Sub.E (k : Nat) : List (Nat × Sig) := [(65, scaled_Add.sig k), (99, scaled_Neg.sig k)]
def scaled_Sub.G (P : Program) : GI := ⟨P, TT, 9, 9, [], [], [], [], [], AD⟩
def scaled_Sub.H : H := .n
def scaled_Sub.O (k : Nat) : List (Orc (denR [.c false (.i .i64)])) := []
theorem scaled_Sub.go : goesTo Try.prog 90 := ⟨_, Try.func90, by kernel_rfl, rfl⟩
theorem scaled_Sub.ok (k : Nat) : SigOk Try.prog 90 (scaled_Sub.sig k) :=
  fn_p (G := scaled_Sub.G Try.prog) (c := cd Try.f90) (rs := [.tmp 4]) (args := [(false, (.i .i64)), (false, (.i .i64))]) (l := [.c false (.i .i64)]) (fn := Try.f90) ⟨Try.func90, by kernel_rfl, by kernel_rfl, by kernel_rfl, le_of rfl, le_of rfl, TT_ok, AD_ok⟩ rfl scaled_Sub.E (fun k p hp => by
    simp only [scaled_Sub.E, List.mem_cons, List.not_mem_nil, or_false] at hp
    rcases hp with rfl | rfl
    · exact ⟨scaled_Add.ok k, scaled_Add.go⟩
    · exact ⟨scaled_Neg.ok k, scaled_Neg.go⟩)
    (fun k i => (scaled_Sub.O k)[i]?) scaled_Sub.H (fun k x => scaled_Sub.f k x.1 x.2.1)
    (fun id o y h => by cases id <;> cases h)
    (fun k p hp => by rw [show pts (cd Try.f90) scaled_Sub.H = [] by kernel_rfl] at hp; nomatch hp)
    (fun k x => by kernel_rfl) k
/-! reglet/scaled.Demerits -/
mutual
def scaled_Demerits.j0 : Nat → Int → Option Int
  | 0, _ => none
  | k + 1, d => some (if 0 < d then d else 0)
end
def scaled_Demerits.f (k : Nat) (a0 : Int) (a1 : Int) (a2 : Int) : Option Int := (scaled_Add.f k a0 a1).bind fun r => (scaled_Mul.f k r r).bind fun r2 => if (decide (0 ≤ a2)) = true then ((scaled_Mul.f k a2 a2).bind fun r3 => (scaled_Add.f k r2 r3).bind fun r4 => scaled_Demerits.j0 k r4) else (if (decide ((-10000) < a2)) = true then ((scaled_Mul.f k a2 a2).bind fun r5 => (scaled_Sub.f k r2 r5).bind fun r6 => scaled_Demerits.j0 k r6) else (scaled_Demerits.j0 k r2))
def scaled_Demerits.sig (k : Nat) : Sig := .p [(false, (.i .i64)), (false, (.i .i64)), (false, (.i .i64))] [.c false (.i .i64)] fun x => scaled_Demerits.f k x.1 x.2.1 x.2.2.1
def scaled_Demerits.E (k : Nat) : List (Nat × Sig) := [(65, scaled_Add.sig k), (89, scaled_Mul.sig k), (90, scaled_Sub.sig k)]
def scaled_Demerits.G (P : Program) : GI := ⟨P, TT, 33, 33, [], [], [], [], [], AD⟩
def scaled_Demerits.H : H := .s .n (.s .n (.s .n (.j 0 .n .n)))
abbrev scaled_Demerits.j0_s : Sh := [(8, .v (.i .i64))]
def scaled_Demerits.O (k : Nat) : List (Orc (denR [.c false (.i .i64)])) := [⟨scaled_Demerits.j0_s, fun y => scaled_Demerits.j0 k y.1⟩]
theorem scaled_Demerits.j0_e (k : Nat) (y : denS scaled_Demerits.j0_s) : scaled_Demerits.j0 (k + 1) y.1 = evP ((scaled_Demerits.G Try.prog).at (scaled_Demerits.E k)) (fun i => (scaled_Demerits.O k)[i]?) [1, 1, 1, 1] (cd Try.f77) scaled_Demerits.H (kFin ((scaled_Demerits.G Try.prog).at (scaled_Demerits.E k)) [.tmp 6] [.c false (.i .i64)]) (unS scaled_Demerits.j0_s y) := by rw [scaled_Demerits.j0]; kernel_rfl
theorem scaled_Demerits.go : goesTo Try.prog 77 := ⟨_, Try.func77, by kernel_rfl, rfl⟩
theorem scaled_Demerits.ok (k : Nat) : SigOk Try.prog 77 (scaled_Demerits.sig k) :=
  fn_p (G := scaled_Demerits.G Try.prog) (c := cd Try.f77) (rs := [.tmp 6]) (args := [(false, (.i .i64)), (false, (.i .i64)), (false, (.i .i64))]) (l := [.c false (.i .i64)]) (fn := Try.f77) ⟨Try.func77, by kernel_rfl, by kernel_rfl, by kernel_rfl, le_of rfl, le_of rfl, TT_ok, AD_ok⟩ rfl scaled_Demerits.E (fun k p hp => by
    simp only [scaled_Demerits.E, List.mem_cons, List.not_mem_nil, or_false] at hp
    rcases hp with rfl | rfl | rfl
    · exact ⟨scaled_Add.ok k, scaled_Add.go⟩
    · exact ⟨scaled_Mul.ok k, scaled_Mul.go⟩
    · exact ⟨scaled_Sub.ok k, scaled_Sub.go⟩)
    (fun k i => (scaled_Demerits.O k)[i]?) scaled_Demerits.H (fun k x => scaled_Demerits.f k x.1 x.2.1 x.2.2.1)
    (fun id o y h => by
    have h' := List.mem_of_getElem? h
    simp only [scaled_Demerits.O, List.mem_cons, List.not_mem_nil, or_false] at h'
    rcases h' with rfl <;> rfl)
    (fun k p hp => by
    rw [show pts (cd Try.f77) scaled_Demerits.H = [(0, [1, 1, 1, 1])] by kernel_rfl] at hp
    simp only [List.mem_cons, List.not_mem_nil, or_false] at hp
    rcases hp with rfl
    · exact ptOk_of rfl (scaled_Demerits.j0_e k))
    (fun k x => by kernel_rfl) k
/-! reglet/measure.apart -/
def measure_apart.f (k : Nat) (a0 : Int) (a1 : Int) : Option Bool := if (decide (1 < (wrap64 (a0 - a1)))) = true then (some true) else (some (decide (1 < (wrap64 (a1 - a0)))))
def measure_apart.sig (k : Nat) : Sig := .p [(false, (.i .i64)), (false, (.i .i64))] [.c false .b] fun x => measure_apart.f k x.1 x.2.1
def measure_apart.E (k : Nat) : List (Nat × Sig) := []
def measure_apart.G (P : Program) : GI := ⟨P, TT, 15, 15, [], [], [], [], [], AD⟩
def measure_apart.H : H := .n
def measure_apart.O (k : Nat) : List (Orc (denR [.c false .b])) := []
theorem measure_apart.go : goesTo Try.prog 78 := ⟨_, Try.func78, by kernel_rfl, rfl⟩
theorem measure_apart.ok (k : Nat) : SigOk Try.prog 78 (measure_apart.sig k) :=
  fn_p (G := measure_apart.G Try.prog) (c := cd Try.f78) (rs := [.tmp 4]) (args := [(false, (.i .i64)), (false, (.i .i64))]) (l := [.c false .b]) (fn := Try.f78) ⟨Try.func78, by kernel_rfl, by kernel_rfl, by kernel_rfl, le_of rfl, le_of rfl, TT_ok, AD_ok⟩ rfl measure_apart.E (fun k p hp => nomatch hp)
    (fun k i => (measure_apart.O k)[i]?) measure_apart.H (fun k x => measure_apart.f k x.1 x.2.1)
    (fun id o y h => by cases id <;> cases h)
    (fun k p hp => by rw [show pts (cd Try.f78) measure_apart.H = [] by kernel_rfl] at hp; nomatch hp)
    (fun k x => by kernel_rfl) k
/-! reglet/measure.Cost -/
mutual
def measure_Cost.j0 : Nat → Bool → Int → api_Settings → api_Item → measure_Ahead → Option Int
  | 0, _, _, _, _, _ => none
  | k + 1, last, d, s, end_, ahead => if ahead.2 = true then (if end_.2.2.2.2.2.2.1 = true then ((scaled_Add.f k d s.2.2.2.1).bind fun r4 => measure_Cost.j1 k last r4 s ahead) else (measure_Cost.j1 k last d s ahead)) else (measure_Cost.j1 k last d s ahead)
def measure_Cost.j1 : Nat → Bool → Int → api_Settings → measure_Ahead → Option Int
  | 0, _, _, _, _ => none
  | k + 1, last2, d2, s2, ahead2 => if ahead2.2 = true then (if last2 = true then ((scaled_Add.f k d2 s2.2.2.2.2.1).bind fun r5 => measure_Cost.j2 k r5) else (measure_Cost.j2 k d2)) else (measure_Cost.j2 k d2)
def measure_Cost.j2 : Nat → Int → Option Int
  | 0, _ => none
  | k + 1, d3 => some (if 1125899906842624 < d3 then 1125899906842624 else d3)
end
def measure_Cost.f (k : Nat) (a0 : api_Settings) (a1 : api_Fit) (a2 : api_Item) (a3 : measure_Ahead) (a4 : Bool) : Option Int := if a1.2.2.2.2 = true then (some 1125899906842624) else ((scaled_Demerits.f k a0.2.1 a1.2.2.1 a2.2.2.2.2.2.1).bind fun r => if (decide (0 ≤ a3.1)) = true then ((measure_apart.f k a1.2.2.2.1 a3.1).bind fun r2 => if r2 = true then ((scaled_Add.f k r a0.2.2.1).bind fun r3 => measure_Cost.j0 k a4 r3 a0 a2 a3) else (measure_Cost.j0 k a4 r a0 a2 a3)) else (measure_Cost.j0 k a4 r a0 a2 a3))
def measure_Cost.sig (k : Nat) : Sig := .p [(true, y22), (true, y60), (true, y7), (true, y57), (false, .b)] [.c false (.i .i64)] fun x => measure_Cost.f k x.1 x.2.1 x.2.2.1 x.2.2.2.1 x.2.2.2.2.1
def measure_Cost.E (k : Nat) : List (Nat × Sig) := [(65, scaled_Add.sig k), (77, scaled_Demerits.sig k), (78, measure_apart.sig k)]
def measure_Cost.G (P : Program) : GI := ⟨P, TT, 56, 79, [(5, 56, 7), (6, 63, 5), (7, 68, 9), (8, 77, 2)], [], [], [], [], AD⟩
def measure_Cost.H : H := .s .n (.s .n (.s .n (.j 0 .n (.j 1 .n (.j 2 .n .n)))))
abbrev measure_Cost.j0_s : Sh := [(4, .v .b), (5, .at_ 56), (7, .at_ 68), (8, .at_ 77), (11, .v (.i .i64)), (56, .box y22), (68, .box y7), (77, .box y57)]
abbrev measure_Cost.j1_s : Sh := [(4, .v .b), (5, .at_ 56), (8, .at_ 77), (11, .v (.i .i64)), (56, .box y22), (77, .box y57)]
abbrev measure_Cost.j2_s : Sh := [(11, .v (.i .i64))]
def measure_Cost.O (k : Nat) : List (Orc (denR [.c false (.i .i64)])) := [⟨measure_Cost.j0_s, fun y => measure_Cost.j0 k y.1 y.2.2.2.2.1 y.2.2.2.2.2.1 y.2.2.2.2.2.2.1 y.2.2.2.2.2.2.2.1⟩, ⟨measure_Cost.j1_s, fun y => measure_Cost.j1 k y.1 y.2.2.2.1 y.2.2.2.2.1 y.2.2.2.2.2.1⟩, ⟨measure_Cost.j2_s, fun y => measure_Cost.j2 k y.1⟩]
theorem measure_Cost.j2_e (k : Nat) (y : denS measure_Cost.j2_s) : measure_Cost.j2 (k + 1) y.1 = evP ((measure_Cost.G Try.prog).at (measure_Cost.E k)) (fun i => (measure_Cost.O k)[i]?) [1, 1, 1, 1, 1, 1] (cd Try.f66) measure_Cost.H (kFin ((measure_Cost.G Try.prog).at (measure_Cost.E k)) [.tmp 10] [.c false (.i .i64)]) (unS measure_Cost.j2_s y) := by rw [measure_Cost.j2]; kernel_rfl
theorem measure_Cost.j1_e (k : Nat) (y : denS measure_Cost.j1_s) : measure_Cost.j1 (k + 1) y.1 y.2.2.2.1 y.2.2.2.2.1 y.2.2.2.2.2.1 = evP ((measure_Cost.G Try.prog).at (measure_Cost.E k)) (fun i => (measure_Cost.O k)[i]?) [1, 1, 1, 1, 1] (cd Try.f66) measure_Cost.H (kFin ((measure_Cost.G Try.prog).at (measure_Cost.E k)) [.tmp 10] [.c false (.i .i64)]) (unS measure_Cost.j1_s y) := by rw [measure_Cost.j1]; kernel_rfl
theorem measure_Cost.j0_e (k : Nat) (y : denS measure_Cost.j0_s) : measure_Cost.j0 (k + 1) y.1 y.2.2.2.2.1 y.2.2.2.2.2.1 y.2.2.2.2.2.2.1 y.2.2.2.2.2.2.2.1 = evP ((measure_Cost.G Try.prog).at (measure_Cost.E k)) (fun i => (measure_Cost.O k)[i]?) [1, 1, 1, 1] (cd Try.f66) measure_Cost.H (kFin ((measure_Cost.G Try.prog).at (measure_Cost.E k)) [.tmp 10] [.c false (.i .i64)]) (unS measure_Cost.j0_s y) := by rw [measure_Cost.j0]; kernel_rfl
theorem measure_Cost.go : goesTo Try.prog 66 := ⟨_, Try.func66, by kernel_rfl, rfl⟩
theorem measure_Cost.ok (k : Nat) : SigOk Try.prog 66 (measure_Cost.sig k) :=
  fn_p (G := measure_Cost.G Try.prog) (c := cd Try.f66) (rs := [.tmp 10]) (args := [(true, y22), (true, y60), (true, y7), (true, y57), (false, .b)]) (l := [.c false (.i .i64)]) (fn := Try.f66) ⟨Try.func66, by kernel_rfl, by kernel_rfl, by kernel_rfl, le_of rfl, le_of rfl, TT_ok, AD_ok⟩ rfl measure_Cost.E (fun k p hp => by
    simp only [measure_Cost.E, List.mem_cons, List.not_mem_nil, or_false] at hp
    rcases hp with rfl | rfl | rfl
    · exact ⟨scaled_Add.ok k, scaled_Add.go⟩
    · exact ⟨scaled_Demerits.ok k, scaled_Demerits.go⟩
    · exact ⟨measure_apart.ok k, measure_apart.go⟩)
    (fun k i => (measure_Cost.O k)[i]?) measure_Cost.H (fun k x => measure_Cost.f k x.1 x.2.1 x.2.2.1 x.2.2.2.1 x.2.2.2.2.1)
    (fun id o y h => by
    have h' := List.mem_of_getElem? h
    simp only [measure_Cost.O, List.mem_cons, List.not_mem_nil, or_false] at h'
    rcases h' with rfl | rfl | rfl <;> rfl)
    (fun k p hp => by
    rw [show pts (cd Try.f66) measure_Cost.H = [(2, [1, 1, 1, 1, 1, 1]), (1, [1, 1, 1, 1, 1]), (0, [1, 1, 1, 1])] by kernel_rfl] at hp
    simp only [List.mem_cons, List.not_mem_nil, or_false] at hp
    rcases hp with rfl | rfl | rfl
    · exact ptOk_of rfl (measure_Cost.j2_e k)
    · exact ptOk_of rfl (measure_Cost.j1_e k)
    · exact ptOk_of rfl (measure_Cost.j0_e k))
    (fun k x => by kernel_rfl) k
/-! (*reglet/breaks.search).cost -/
mutual
def breaks_search_cost.j0 : Nat → (measure_Para × Int × Int × Int × Int × Int × Int × Int × Int × Bool × List regletref08_Sum × List Int) → Int → api_Fit → measure_Ahead → Option Int
  | 0, _, _, _, _ => none
  | k + 1, s, j, f, ahead => (measure_Para_End.f k s.1 j).bind fun r3 => (measure_Para_Item.f k s.1 r3).bind fun r4 => (measure_Para_Ends.f k s.1).bind fun r5 => (measure_Cost.f k (s.2.2.1, s.2.2.2.1, s.2.2.2.2.1, s.2.2.2.2.2.1, s.2.2.2.2.2.2.1, s.2.2.2.2.2.2.2.1, s.2.2.2.2.2.2.2.2.1) f r4 ahead (decide (j = (wrap64 (r5 - 1))))).bind fun r6 => some r6
end
def breaks_search_cost.f (k : Nat) (a0 : measure_Para × Int × Int × Int × Int × Int × Int × Int × Int × Bool × List regletref08_Sum × List Int) (a1 : Int) (a2 : Int) (a3 : api_Fit) (a4 : Int) : Option Int := if (decide (0 ≤ a1)) = true then ((measure_Para_End.f k a0.1 a1).bind fun r => (measure_Para_Item.f k a0.1 r).bind fun r2 => breaks_search_cost.j0 k a0 a2 a3 (a4, r2.2.2.2.2.2.2.1)) else (breaks_search_cost.j0 k a0 a2 a3 ((-1), (false)))
def breaks_search_cost.sig (k : Nat) : Sig := .p [(false, y73), (false, (.i .i64)), (false, (.i .i64)), (true, y60), (false, (.i .i64))] [.c false (.i .i64)] fun x => breaks_search_cost.f k x.1 x.2.1 x.2.2.1 x.2.2.2.1 x.2.2.2.2.1
def breaks_search_cost.E (k : Nat) : List (Nat × Sig) := [(49, measure_Para_Ends.sig k), (50, measure_Para_Item.sig k), (51, measure_Para_End.sig k), (66, measure_Cost.sig k)]
def breaks_search_cost.G (P : Program) : GI := ⟨P, TT, 56, 63, [(8, 56, 5), (11, 61, 2)], [], [], [], [], AD⟩
def breaks_search_cost.H : H := .s .n (.s .n (.j 0 .n .n))
abbrev breaks_search_cost.j0_s : Sh := [(0, .v y73), (2, .v (.i .i64)), (8, .at_ 56), (11, .at_ 61), (56, .box y60), (61, .box y57)]
def breaks_search_cost.O (k : Nat) : List (Orc (denR [.c false (.i .i64)])) := [⟨breaks_search_cost.j0_s, fun y => breaks_search_cost.j0 k y.1 y.2.1 y.2.2.2.2.1 y.2.2.2.2.2.1⟩]
theorem breaks_search_cost.j0_e (k : Nat) (y : denS breaks_search_cost.j0_s) : breaks_search_cost.j0 (k + 1) y.1 y.2.1 y.2.2.2.2.1 y.2.2.2.2.2.1 = evP ((breaks_search_cost.G Try.prog).at (breaks_search_cost.E k)) (fun i => (breaks_search_cost.O k)[i]?) [1, 1, 1] (cd Try.f55) breaks_search_cost.H (kFin ((breaks_search_cost.G Try.prog).at (breaks_search_cost.E k)) [.tmp 10] [.c false (.i .i64)]) (unS breaks_search_cost.j0_s y) := by rw [breaks_search_cost.j0]; kernel_rfl
theorem breaks_search_cost.go : goesTo Try.prog 55 := ⟨_, Try.func55, by kernel_rfl, rfl⟩
theorem breaks_search_cost.ok (k : Nat) : SigOk Try.prog 55 (breaks_search_cost.sig k) :=
  fn_p (G := breaks_search_cost.G Try.prog) (c := cd Try.f55) (rs := [.tmp 10]) (args := [(false, y73), (false, (.i .i64)), (false, (.i .i64)), (true, y60), (false, (.i .i64))]) (l := [.c false (.i .i64)]) (fn := Try.f55) ⟨Try.func55, by kernel_rfl, by kernel_rfl, by kernel_rfl, le_of rfl, le_of rfl, TT_ok, AD_ok⟩ rfl breaks_search_cost.E (fun k p hp => by
    simp only [breaks_search_cost.E, List.mem_cons, List.not_mem_nil, or_false] at hp
    rcases hp with rfl | rfl | rfl | rfl
    · exact ⟨measure_Para_Ends.ok k, measure_Para_Ends.go⟩
    · exact ⟨measure_Para_Item.ok k, measure_Para_Item.go⟩
    · exact ⟨measure_Para_End.ok k, measure_Para_End.go⟩
    · exact ⟨measure_Cost.ok k, measure_Cost.go⟩)
    (fun k i => (breaks_search_cost.O k)[i]?) breaks_search_cost.H (fun k x => breaks_search_cost.f k x.1 x.2.1 x.2.2.1 x.2.2.2.1 x.2.2.2.2.1)
    (fun id o y h => by
    have h' := List.mem_of_getElem? h
    simp only [breaks_search_cost.O, List.mem_cons, List.not_mem_nil, or_false] at h'
    rcases h' with rfl <;> rfl)
    (fun k p hp => by
    rw [show pts (cd Try.f55) breaks_search_cost.H = [(0, [1, 1, 1])] by kernel_rfl] at hp
    simp only [List.mem_cons, List.not_mem_nil, or_false] at hp
    rcases hp with rfl
    · exact ptOk_of rfl (breaks_search_cost.j0_e k))
    (fun k x => by kernel_rfl) k
/-! (*reglet/measure.Para).Bounds -/
mutual
def measure_Para_Bounds.j0 : Nat → measure_Para → regletref08_Sum → Option (Int × Int × Bool)
  | 0, _, _ => none
  | k + 1, p, s => some (wrap64 (s.1 - s.2.2.1), wrap64 ((wrap64 (s.1 + (wrap64 (5 * s.2.1)))) + p.2.2.2.2.2.2.1), decide (0 < s.2.2.2))
end
def measure_Para_Bounds.f (k : Nat) (a0 : measure_Para) (a1 : Int) (a2 : Int) : Option (Int × Int × Bool) := (measure_Para_Line.f k a0 a1 a2).bind fun r => (measure_Para_Item.f k a0 a2).bind fun r2 => if (decide (r2.1 = 3)) = true then (measure_Para_Bounds.j0 k a0 (wrap64 (r.1 - r2.2.1), r.2.1, r.2.2.1, r.2.2.2)) else (measure_Para_Bounds.j0 k a0 r)
def measure_Para_Bounds.sig (k : Nat) : Sig := .p [(false, y31), (false, (.i .i64)), (false, (.i .i64))] [.c false (.i .i64), .c false (.i .i64), .c false .b] fun x => measure_Para_Bounds.f k x.1 x.2.1 x.2.2.1
def measure_Para_Bounds.E (k : Nat) : List (Nat × Sig) := [(50, measure_Para_Item.sig k), (74, measure_Para_Line.sig k)]
def measure_Para_Bounds.G (P : Program) : GI := ⟨P, TT, 46, 59, [(9, 46, 4), (10, 50, 9)], [], [], [], [], AD⟩
def measure_Para_Bounds.H : H := .s .n (.s .n (.j 0 .n .n))
abbrev measure_Para_Bounds.j0_s : Sh := [(0, .v y31), (9, .at_ 46), (46, .box y19)]
def measure_Para_Bounds.O (k : Nat) : List (Orc (denR [.c false (.i .i64), .c false (.i .i64), .c false .b])) := [⟨measure_Para_Bounds.j0_s, fun y => measure_Para_Bounds.j0 k y.1 y.2.2.1⟩]
theorem measure_Para_Bounds.j0_e (k : Nat) (y : denS measure_Para_Bounds.j0_s) : measure_Para_Bounds.j0 (k + 1) y.1 y.2.2.1 = evP ((measure_Para_Bounds.G Try.prog).at (measure_Para_Bounds.E k)) (fun i => (measure_Para_Bounds.O k)[i]?) [1, 1, 1] (cd Try.f62) measure_Para_Bounds.H (kFin ((measure_Para_Bounds.G Try.prog).at (measure_Para_Bounds.E k)) [.tmp 6, .tmp 7, .tmp 8] [.c false (.i .i64), .c false (.i .i64), .c false .b]) (unS measure_Para_Bounds.j0_s y) := by rw [measure_Para_Bounds.j0]; kernel_rfl
theorem measure_Para_Bounds.go : goesTo Try.prog 62 := ⟨_, Try.func62, by kernel_rfl, rfl⟩
theorem measure_Para_Bounds.ok (k : Nat) : SigOk Try.prog 62 (measure_Para_Bounds.sig k) :=
  fn_p (G := measure_Para_Bounds.G Try.prog) (c := cd Try.f62) (rs := [.tmp 6, .tmp 7, .tmp 8]) (args := [(false, y31), (false, (.i .i64)), (false, (.i .i64))]) (l := [.c false (.i .i64), .c false (.i .i64), .c false .b]) (fn := Try.f62) ⟨Try.func62, by kernel_rfl, by kernel_rfl, by kernel_rfl, le_of rfl, le_of rfl, TT_ok, AD_ok⟩ rfl measure_Para_Bounds.E (fun k p hp => by
    simp only [measure_Para_Bounds.E, List.mem_cons, List.not_mem_nil, or_false] at hp
    rcases hp with rfl | rfl
    · exact ⟨measure_Para_Item.ok k, measure_Para_Item.go⟩
    · exact ⟨measure_Para_Line.ok k, measure_Para_Line.go⟩)
    (fun k i => (measure_Para_Bounds.O k)[i]?) measure_Para_Bounds.H (fun k x => measure_Para_Bounds.f k x.1 x.2.1 x.2.2.1)
    (fun id o y h => by
    have h' := List.mem_of_getElem? h
    simp only [measure_Para_Bounds.O, List.mem_cons, List.not_mem_nil, or_false] at h'
    rcases h' with rfl <;> rfl)
    (fun k p hp => by
    rw [show pts (cd Try.f62) measure_Para_Bounds.H = [(0, [1, 1, 1])] by kernel_rfl] at hp
    simp only [List.mem_cons, List.not_mem_nil, or_false] at hp
    rcases hp with rfl
    · exact ptOk_of rfl (measure_Para_Bounds.j0_e k))
    (fun k x => by kernel_rfl) k
/-! (*reglet/breaks.search).first -/
mutual
def breaks_search_first.j0 : Nat → (measure_Para × Int × Int × Int × Int × Int × Int × Int × Int × Bool × List regletref08_Sum × List Int) → Int → Int → Option Int
  | 0, _, _, _ => none
  | k + 1, t, t2, t3 => (measure_Para_End.f k t.1 t2).bind fun r => breaks_search_first.l1 k t (wrap64 (t2 + 1)) t3 r
def breaks_search_first.l1 : Nat → (measure_Para × Int × Int × Int × Int × Int × Int × Int × Int × Bool × List regletref08_Sum × List Int) → Int → Int → Int → Option Int
  | 0, _, _, _, _ => none
  | k + 1, t4, t5, t6, t7 => if (decide (t5 < t6)) = true then ((measure_Para_End.f k t4.1 (wrap64 ((wrap64 (t5 + t6)).tdiv 2))).bind fun r2 => (measure_Para_Bounds.f k t4.1 t7 r2).bind fun r3 => if (decide (r3.2.1 < t4.2.1)) = true then (if (!r3.2.2) = true then (breaks_search_first.l1 k t4 (wrap64 ((wrap64 ((wrap64 (t5 + t6)).tdiv 2)) + 1)) t6 t7) else (breaks_search_first.l1 k t4 t5 (wrap64 ((wrap64 (t5 + t6)).tdiv 2)) t7)) else (breaks_search_first.l1 k t4 t5 (wrap64 ((wrap64 (t5 + t6)).tdiv 2)) t7)) else (some t5)
end
def breaks_search_first.f (k : Nat) (a0 : measure_Para × Int × Int × Int × Int × Int × Int × Int × Int × Bool × List regletref08_Sum × List Int) (a1 : Int) (a2 : Int) : Option Int := if a0.2.2.2.2.2.2.2.2.2.1 = true then (some (wrap64 (a1 + 1))) else (if (decide (10000 ≤ a0.2.2.1)) = true then (some (wrap64 (a1 + 1))) else (breaks_search_first.j0 k a0 a1 a2))
def breaks_search_first.sig (k : Nat) : Sig := .p [(false, y73), (false, (.i .i64)), (false, (.i .i64))] [.c false (.i .i64)] fun x => breaks_search_first.f k x.1 x.2.1 x.2.2.1
def breaks_search_first.E (k : Nat) : List (Nat × Sig) := [(51, measure_Para_End.sig k), (62, measure_Para_Bounds.sig k)]
def breaks_search_first.G (P : Program) : GI := ⟨P, TT, 74, 74, [], [], [], [], [], AD⟩
def breaks_search_first.H : H := .s .n (.j 0 .n (.s .n (.s .n (.s (.s (.l 1 .n) .n) .n))))
abbrev breaks_search_first.j0_s : Sh := [(0, .v y73), (1, .v (.i .i64)), (2, .v (.i .i64))]
abbrev breaks_search_first.l1_s : Sh := [(0, .v y73), (7, .v (.i .i64)), (8, .v (.i .i64)), (9, .v (.i .i64))]
def breaks_search_first.O (k : Nat) : List (Orc (denR [.c false (.i .i64)])) := [⟨breaks_search_first.j0_s, fun y => breaks_search_first.j0 k y.1 y.2.1 y.2.2.1⟩, ⟨breaks_search_first.l1_s, fun y => breaks_search_first.l1 k y.1 y.2.1 y.2.2.1 y.2.2.2.1⟩]
theorem breaks_search_first.l1_e (k : Nat) (y : denS breaks_search_first.l1_s) : breaks_search_first.l1 (k + 1) y.1 y.2.1 y.2.2.1 y.2.2.2.1 = evP ((breaks_search_first.G Try.prog).at (breaks_search_first.E k)) (fun i => (breaks_search_first.O k)[i]?) [1, 1, 1, 1, 0, 0, 0] (cd Try.f61) breaks_search_first.H (kFin ((breaks_search_first.G Try.prog).at (breaks_search_first.E k)) [.tmp 6] [.c false (.i .i64)]) (unS breaks_search_first.l1_s y) := by rw [breaks_search_first.l1]; kernel_rfl
theorem breaks_search_first.j0_e (k : Nat) (y : denS breaks_search_first.j0_s) : breaks_search_first.j0 (k + 1) y.1 y.2.1 y.2.2.1 = evP ((breaks_search_first.G Try.prog).at (breaks_search_first.E k)) (fun i => (breaks_search_first.O k)[i]?) [1, 1] (cd Try.f61) breaks_search_first.H (kFin ((breaks_search_first.G Try.prog).at (breaks_search_first.E k)) [.tmp 6] [.c false (.i .i64)]) (unS breaks_search_first.j0_s y) := by rw [breaks_search_first.j0]; kernel_rfl
theorem breaks_search_first.go : goesTo Try.prog 61 := ⟨_, Try.func61, by kernel_rfl, rfl⟩
theorem breaks_search_first.ok (k : Nat) : SigOk Try.prog 61 (breaks_search_first.sig k) :=
  fn_p (G := breaks_search_first.G Try.prog) (c := cd Try.f61) (rs := [.tmp 6]) (args := [(false, y73), (false, (.i .i64)), (false, (.i .i64))]) (l := [.c false (.i .i64)]) (fn := Try.f61) ⟨Try.func61, by kernel_rfl, by kernel_rfl, by kernel_rfl, le_of rfl, le_of rfl, TT_ok, AD_ok⟩ rfl breaks_search_first.E (fun k p hp => by
    simp only [breaks_search_first.E, List.mem_cons, List.not_mem_nil, or_false] at hp
    rcases hp with rfl | rfl
    · exact ⟨measure_Para_End.ok k, measure_Para_End.go⟩
    · exact ⟨measure_Para_Bounds.ok k, measure_Para_Bounds.go⟩)
    (fun k i => (breaks_search_first.O k)[i]?) breaks_search_first.H (fun k x => breaks_search_first.f k x.1 x.2.1 x.2.2.1)
    (fun id o y h => by
    have h' := List.mem_of_getElem? h
    simp only [breaks_search_first.O, List.mem_cons, List.not_mem_nil, or_false] at h'
    rcases h' with rfl | rfl <;> rfl)
    (fun k p hp => by
    rw [show pts (cd Try.f61) breaks_search_first.H = [(1, [1, 1, 1, 1, 0, 0, 0]), (0, [1, 1])] by kernel_rfl] at hp
    simp only [List.mem_cons, List.not_mem_nil, or_false] at hp
    rcases hp with rfl | rfl
    · exact ptOk_of rfl (breaks_search_first.l1_e k)
    · exact ptOk_of rfl (breaks_search_first.j0_e k))
    (fun k x => by kernel_rfl) k
/-! (*reglet/breaks.search).best -/
mutual
def breaks_search_best.l0 : Nat → (measure_Para × Int × Int × Int × Int × Int × Int × Int × Int × Bool × List regletref08_Sum × List Int) → Int → Int → Int → regletref08_Sum → regletref08_Sum → Option regletref08_Sum
  | 0, _, _, _, _, _, _ => none
  | k + 1, t, t2, t3, t4, t5, t6 => if (decide (t4 ≤ t3)) = true then ((breaks_search_line.f k t t2 t4).bind fun r2 => (measure_Para_End.f k t.1 t2).bind fun r3 => (measure_Para_End.f k t.1 t4).bind fun r4 => (measure_Para_Bounds.f k t.1 r3 r4).bind fun r5 => if (decide (t.2.1 < r5.1)) = true then (if (decide ((wrap64 (t2 + 1)) < t4)) = true then (some t6) else (breaks_search_best.j1 k t t2 t3 t4 r2.2 t5 t6 r2.1)) else (breaks_search_best.j1 k t t2 t3 t4 r2.2 t5 t6 r2.1)) else (some t6)
def breaks_search_best.j1 : Nat → (measure_Para × Int × Int × Int × Int × Int × Int × Int × Int × Bool × List regletref08_Sum × List Int) → Int → Int → Int → Bool → regletref08_Sum → regletref08_Sum → api_Fit → Option regletref08_Sum
  | 0, _, _, _, _, _, _, _, _ => none
  | k + 1, t7, t8, t9, t10, t11, t12, t13, t14 => if (!t11) = true then (breaks_search_best.j2 k t7 t8 t9 t10 t12 t13) else ((measure_Para_Ends.f k t7.1).bind fun r6 => if (decide (t10 < (wrap64 (r6 - 1)))) = true then ((at? t7.2.2.2.2.2.2.2.2.2.2.1 t10).bind fun e2 => (at? ([e2.1, e2.2.1, e2.2.2.1, e2.2.2.2] : List Int) t14.2.2.2.1).bind fun e3 => breaks_search_best.j3 k t7 t8 t9 t10 e3 t12 t13 t14) else (breaks_search_best.j3 k t7 t8 t9 t10 0 t12 t13 t14))
def breaks_search_best.j2 : Nat → (measure_Para × Int × Int × Int × Int × Int × Int × Int × Int × Bool × List regletref08_Sum × List Int) → Int → Int → Int → regletref08_Sum → regletref08_Sum → Option regletref08_Sum
  | 0, _, _, _, _, _, _ => none
  | k + 1, t15, t16, t17, t18, t19, t20 => breaks_search_best.l0 k t15 t16 t17 (wrap64 (t18 + 1)) t19 t20
def breaks_search_best.j3 : Nat → (measure_Para × Int × Int × Int × Int × Int × Int × Int × Int × Bool × List regletref08_Sum × List Int) → Int → Int → Int → Int → regletref08_Sum → regletref08_Sum → api_Fit → Option regletref08_Sum
  | 0, _, _, _, _, _, _, _, _ => none
  | k + 1, t21, t22, t23, t24, t25, t26, t27, t28 => if (decide (t25 = 1125899906842625)) = true then (breaks_search_best.j2 k t21 t22 t23 t24 t26 t27) else (breaks_search_best.l4 k t21 t22 t23 t24 t25 0 t26 t27 t28)
def breaks_search_best.l4 : Nat → (measure_Para × Int × Int × Int × Int × Int × Int × Int × Int × Bool × List regletref08_Sum × List Int) → Int → Int → Int → Int → Int → regletref08_Sum → regletref08_Sum → api_Fit → Option regletref08_Sum
  | 0, _, _, _, _, _, _, _, _, _ => none
  | k + 1, t29, t30, t31, t32, t33, t34, t35, t36, t37 => if (decide (t34 < 4)) = true then (if 0 ≤ t34 ∧ t34 < (4 : Int) then ((([t36.1, t36.2.1, t36.2.2.1, t36.2.2.2] : List Int)[t34.toNat]?).bind fun e4 => (breaks_search_cost.f k t29 t30 t32 t37 t34).bind fun r7 => (measure_Total.f k r7 t33).bind fun r8 => if 0 ≤ t34 ∧ t34 < (4 : Int) then (if t34.toNat < 4 then (breaks_search_best.l4 k t29 t30 t31 t32 t33 (wrap64 (t34 + 1)) t35 ((if t34.toNat = 0 then (if r8 < e4 then r8 else e4) else t36.1), (if t34.toNat = 1 then (if r8 < e4 then r8 else e4) else t36.2.1), (if t34.toNat = 2 then (if r8 < e4 then r8 else e4) else t36.2.2.1), (if t34.toNat = 3 then (if r8 < e4 then r8 else e4) else t36.2.2.2)) t37) else none) else none) else none) else (breaks_search_best.j2 k t29 t30 t31 t32 t35 t36)
end
def breaks_search_best.f (k : Nat) (a0 : measure_Para × Int × Int × Int × Int × Int × Int × Int × Int × Bool × List regletref08_Sum × List Int) (a1 : Int) : Option regletref08_Sum := (at? a0.2.2.2.2.2.2.2.2.2.2.2 (wrap64 (a1 + 1))).bind fun e => (breaks_search_first.f k a0 a1 e).bind fun r => breaks_search_best.l0 k a0 a1 e r (0, 0, 0, 0) (1125899906842625, 1125899906842625, 1125899906842625, 1125899906842625)
def breaks_search_best.sig (k : Nat) : Sig := .p [(false, y73), (false, (.i .i64))] [.c true y19] fun x => breaks_search_best.f k x.1 x.2.1
def breaks_search_best.E (k : Nat) : List (Nat × Sig) := [(49, measure_Para_Ends.sig k), (51, measure_Para_End.sig k), (53, breaks_search_line.sig k), (54, measure_Total.sig k), (55, breaks_search_cost.sig k), (61, breaks_search_first.sig k), (62, measure_Para_Bounds.sig k)]
def breaks_search_best.G (P : Program) : GI := ⟨P, TT, 114, 127, [(4, 114, 4), (5, 118, 4), (8, 122, 5)], [], [], [], [], AD⟩
def breaks_search_best.H : H := .s .n (.s (.s .n (.s .n (.s .n (.s (.s .n (.s (.l 0 (.s .n (.j 2 (.s (.s .n (.j 1 .n (.s .n (.s .n (.j 3 .n (.s .n (.s .n (.s (.l 4 .n) .n)))))))) .n) .n))) .n)) .n)))) .n)
abbrev breaks_search_best.l0_s : Sh := [(0, .v y73), (1, .v (.i .i64)), (4, .at_ 114), (5, .at_ 118), (6, .v (.i .i64)), (7, .v (.i .i64)), (114, .box y19), (118, .box y19)]
abbrev breaks_search_best.j1_s : Sh := [(0, .v y73), (1, .v (.i .i64)), (4, .at_ 114), (5, .at_ 118), (6, .v (.i .i64)), (7, .v (.i .i64)), (8, .at_ 122), (9, .v .b), (114, .box y19), (118, .box y19), (122, .box y60)]
abbrev breaks_search_best.j2_s : Sh := [(0, .v y73), (1, .v (.i .i64)), (4, .at_ 114), (5, .at_ 118), (6, .v (.i .i64)), (7, .v (.i .i64)), (114, .box y19), (118, .box y19)]
abbrev breaks_search_best.j3_s : Sh := [(0, .v y73), (1, .v (.i .i64)), (4, .at_ 114), (5, .at_ 118), (6, .v (.i .i64)), (7, .v (.i .i64)), (8, .at_ 122), (13, .v (.i .i64)), (114, .box y19), (118, .box y19), (122, .box y60)]
abbrev breaks_search_best.l4_s : Sh := [(0, .v y73), (1, .v (.i .i64)), (4, .at_ 114), (5, .at_ 118), (6, .v (.i .i64)), (7, .v (.i .i64)), (8, .at_ 122), (13, .v (.i .i64)), (95, .v (.i .i64)), (114, .box y19), (118, .box y19), (122, .box y60)]
def breaks_search_best.O (k : Nat) : List (Orc (denR [.c true y19])) := [⟨breaks_search_best.l0_s, fun y => breaks_search_best.l0 k y.1 y.2.1 y.2.2.2.2.1 y.2.2.2.2.2.1 y.2.2.2.2.2.2.1 y.2.2.2.2.2.2.2.1⟩, ⟨breaks_search_best.j1_s, fun y => breaks_search_best.j1 k y.1 y.2.1 y.2.2.2.2.1 y.2.2.2.2.2.1 y.2.2.2.2.2.2.2.1 y.2.2.2.2.2.2.2.2.1 y.2.2.2.2.2.2.2.2.2.1 y.2.2.2.2.2.2.2.2.2.2.1⟩, ⟨breaks_search_best.j2_s, fun y => breaks_search_best.j2 k y.1 y.2.1 y.2.2.2.2.1 y.2.2.2.2.2.1 y.2.2.2.2.2.2.1 y.2.2.2.2.2.2.2.1⟩, ⟨breaks_search_best.j3_s, fun y => breaks_search_best.j3 k y.1 y.2.1 y.2.2.2.2.1 y.2.2.2.2.2.1 y.2.2.2.2.2.2.2.1 y.2.2.2.2.2.2.2.2.1 y.2.2.2.2.2.2.2.2.2.1 y.2.2.2.2.2.2.2.2.2.2.1⟩, ⟨breaks_search_best.l4_s, fun y => breaks_search_best.l4 k y.1 y.2.1 y.2.2.2.2.1 y.2.2.2.2.2.1 y.2.2.2.2.2.2.2.1 y.2.2.2.2.2.2.2.2.1 y.2.2.2.2.2.2.2.2.2.1 y.2.2.2.2.2.2.2.2.2.2.1 y.2.2.2.2.2.2.2.2.2.2.2.1⟩]
theorem breaks_search_best.l4_e (k : Nat) (y : denS breaks_search_best.l4_s) : breaks_search_best.l4 (k + 1) y.1 y.2.1 y.2.2.2.2.1 y.2.2.2.2.2.1 y.2.2.2.2.2.2.2.1 y.2.2.2.2.2.2.2.2.1 y.2.2.2.2.2.2.2.2.2.1 y.2.2.2.2.2.2.2.2.2.2.1 y.2.2.2.2.2.2.2.2.2.2.2.1 = evP ((breaks_search_best.G Try.prog).at (breaks_search_best.E k)) (fun i => (breaks_search_best.O k)[i]?) [1, 0, 1, 1, 1, 0, 1, 0, 0, 1, 0, 0, 1, 1, 1, 1, 1, 1, 1, 0, 0] (cd Try.f52) breaks_search_best.H (kFin ((breaks_search_best.G Try.prog).at (breaks_search_best.E k)) [.cell 4 86] [.c true y19]) (unS breaks_search_best.l4_s y) := by rw [breaks_search_best.l4]; kernel_rfl
theorem breaks_search_best.j3_e (k : Nat) (y : denS breaks_search_best.j3_s) : breaks_search_best.j3 (k + 1) y.1 y.2.1 y.2.2.2.2.1 y.2.2.2.2.2.1 y.2.2.2.2.2.2.2.1 y.2.2.2.2.2.2.2.2.1 y.2.2.2.2.2.2.2.2.2.1 y.2.2.2.2.2.2.2.2.2.2.1 = evP ((breaks_search_best.G Try.prog).at (breaks_search_best.E k)) (fun i => (breaks_search_best.O k)[i]?) [1, 0, 1, 1, 1, 0, 1, 0, 0, 1, 0, 0, 1, 1, 1, 1, 1] (cd Try.f52) breaks_search_best.H (kFin ((breaks_search_best.G Try.prog).at (breaks_search_best.E k)) [.cell 4 86] [.c true y19]) (unS breaks_search_best.j3_s y) := by rw [breaks_search_best.j3]; kernel_rfl
theorem breaks_search_best.j1_e (k : Nat) (y : denS breaks_search_best.j1_s) : breaks_search_best.j1 (k + 1) y.1 y.2.1 y.2.2.2.2.1 y.2.2.2.2.2.1 y.2.2.2.2.2.2.2.1 y.2.2.2.2.2.2.2.2.1 y.2.2.2.2.2.2.2.2.2.1 y.2.2.2.2.2.2.2.2.2.2.1 = evP ((breaks_search_best.G Try.prog).at (breaks_search_best.E k)) (fun i => (breaks_search_best.O k)[i]?) [1, 0, 1, 1, 1, 0, 1, 0, 0, 1, 0, 0, 1, 1] (cd Try.f52) breaks_search_best.H (kFin ((breaks_search_best.G Try.prog).at (breaks_search_best.E k)) [.cell 4 86] [.c true y19]) (unS breaks_search_best.j1_s y) := by rw [breaks_search_best.j1]; kernel_rfl
theorem breaks_search_best.j2_e (k : Nat) (y : denS breaks_search_best.j2_s) : breaks_search_best.j2 (k + 1) y.1 y.2.1 y.2.2.2.2.1 y.2.2.2.2.2.1 y.2.2.2.2.2.2.1 y.2.2.2.2.2.2.2.1 = evP ((breaks_search_best.G Try.prog).at (breaks_search_best.E k)) (fun i => (breaks_search_best.O k)[i]?) [1, 0, 1, 1, 1, 0, 1, 0, 0, 1, 1] (cd Try.f52) breaks_search_best.H (kFin ((breaks_search_best.G Try.prog).at (breaks_search_best.E k)) [.cell 4 86] [.c true y19]) (unS breaks_search_best.j2_s y) := by rw [breaks_search_best.j2]; kernel_rfl
theorem breaks_search_best.l0_e (k : Nat) (y : denS breaks_search_best.l0_s) : breaks_search_best.l0 (k + 1) y.1 y.2.1 y.2.2.2.2.1 y.2.2.2.2.2.1 y.2.2.2.2.2.2.1 y.2.2.2.2.2.2.2.1 = evP ((breaks_search_best.G Try.prog).at (breaks_search_best.E k)) (fun i => (breaks_search_best.O k)[i]?) [1, 0, 1, 1, 1, 0, 1, 0, 0] (cd Try.f52) breaks_search_best.H (kFin ((breaks_search_best.G Try.prog).at (breaks_search_best.E k)) [.cell 4 86] [.c true y19]) (unS breaks_search_best.l0_s y) := by rw [breaks_search_best.l0]; kernel_rfl
theorem breaks_search_best.go : goesTo Try.prog 52 := ⟨_, Try.func52, by kernel_rfl, rfl⟩
theorem breaks_search_best.ok (k : Nat) : SigOk Try.prog 52 (breaks_search_best.sig k) :=
  fn_p (G := breaks_search_best.G Try.prog) (c := cd Try.f52) (rs := [.cell 4 86]) (args := [(false, y73), (false, (.i .i64))]) (l := [.c true y19]) (fn := Try.f52) ⟨Try.func52, by kernel_rfl, by kernel_rfl, by kernel_rfl, le_of rfl, le_of rfl, TT_ok, AD_ok⟩ rfl breaks_search_best.E (fun k p hp => by
    simp only [breaks_search_best.E, List.mem_cons, List.not_mem_nil, or_false] at hp
    rcases hp with rfl | rfl | rfl | rfl | rfl | rfl | rfl
    · exact ⟨measure_Para_Ends.ok k, measure_Para_Ends.go⟩
    · exact ⟨measure_Para_End.ok k, measure_Para_End.go⟩
    · exact ⟨breaks_search_line.ok k, breaks_search_line.go⟩
    · exact ⟨measure_Total.ok k, measure_Total.go⟩
    · exact ⟨breaks_search_cost.ok k, breaks_search_cost.go⟩
    · exact ⟨breaks_search_first.ok k, breaks_search_first.go⟩
    · exact ⟨measure_Para_Bounds.ok k, measure_Para_Bounds.go⟩)
    (fun k i => (breaks_search_best.O k)[i]?) breaks_search_best.H (fun k x => breaks_search_best.f k x.1 x.2.1)
    (fun id o y h => by
    have h' := List.mem_of_getElem? h
    simp only [breaks_search_best.O, List.mem_cons, List.not_mem_nil, or_false] at h'
    rcases h' with rfl | rfl | rfl | rfl | rfl <;> rfl)
    (fun k p hp => by
    rw [show pts (cd Try.f52) breaks_search_best.H = [(4, [1, 0, 1, 1, 1, 0, 1, 0, 0, 1, 0, 0, 1, 1, 1, 1, 1, 1, 1, 0, 0]), (3, [1, 0, 1, 1, 1, 0, 1, 0, 0, 1, 0, 0, 1, 1, 1, 1, 1]), (1, [1, 0, 1, 1, 1, 0, 1, 0, 0, 1, 0, 0, 1, 1]), (2, [1, 0, 1, 1, 1, 0, 1, 0, 0, 1, 1]), (0, [1, 0, 1, 1, 1, 0, 1, 0, 0])] by kernel_rfl] at hp
    simp only [List.mem_cons, List.not_mem_nil, or_false] at hp
    rcases hp with rfl | rfl | rfl | rfl | rfl
    · exact ptOk_of rfl (breaks_search_best.l4_e k)
    · exact ptOk_of rfl (breaks_search_best.j3_e k)
    · exact ptOk_of rfl (breaks_search_best.j1_e k)
    · exact ptOk_of rfl (breaks_search_best.j2_e k)
    · exact ptOk_of rfl (breaks_search_best.l0_e k))
    (fun k x => by kernel_rfl) k
/-! (*reglet/breaks.search).weigh -/
mutual
def breaks_search_weigh.l0 : Nat → Int → (measure_Para × Int × Int × Int × Int × Int × Int × Int × Int × Bool × List regletref08_Sum × List Int) → Option (Int × (measure_Para × Int × Int × Int × Int × Int × Int × Int × Int × Bool × List regletref08_Sum × List Int))
  | 0, _, _ => none
  | k + 1, k_, s => if (decide (0 ≤ k_)) = true then ((breaks_search_best.f k s k_).bind fun r2 => if 0 ≤ k_ ∧ k_ < (s.2.2.2.2.2.2.2.2.2.2.1.length : Int) then ((s.2.2.2.2.2.2.2.2.2.2.1[k_.toNat]?).bind fun e => breaks_search_weigh.l0 k (wrap64 (k_ - 1)) (s.1, s.2.1, s.2.2.1, s.2.2.2.1, s.2.2.2.2.1, s.2.2.2.2.2.1, s.2.2.2.2.2.2.1, s.2.2.2.2.2.2.2.1, s.2.2.2.2.2.2.2.2.1, s.2.2.2.2.2.2.2.2.2.1, s.2.2.2.2.2.2.2.2.2.2.1.set k_.toNat r2, s.2.2.2.2.2.2.2.2.2.2.2)) else none) else ((breaks_search_best.f k s (-1)).bind fun r3 => some (r3.1, s))
end
def breaks_search_weigh.f (k : Nat) (a0 : measure_Para × Int × Int × Int × Int × Int × Int × Int × Int × Bool × List regletref08_Sum × List Int) : Option (Int × (measure_Para × Int × Int × Int × Int × Int × Int × Int × Int × Bool × List regletref08_Sum × List Int)) := (measure_Para_Ends.f k a0.1).bind fun r => if r = r ∧ 0 ≤ r ∧ (32 : Int) * r ≤ 281474976710656 then (breaks_search_weigh.l0 k (wrap64 (r - 2)) (a0.1, a0.2.1, a0.2.2.1, a0.2.2.2.1, a0.2.2.2.2.1, a0.2.2.2.2.2.1, a0.2.2.2.2.2.2.1, a0.2.2.2.2.2.2.2.1, a0.2.2.2.2.2.2.2.2.1, a0.2.2.2.2.2.2.2.2.2.1, (List.replicate r.toNat (0, 0, 0, 0) : List regletref08_Sum), a0.2.2.2.2.2.2.2.2.2.2.2)) else none
def breaks_search_weigh.sig (k : Nat) : Sig := .l y53 [] [.c false (.i .i64)] fun b x => breaks_search_weigh.f k b
def breaks_search_weigh.E (k : Nat) : List (Nat × Sig) := [(49, measure_Para_Ends.sig k), (52, breaks_search_best.sig k)]
def breaks_search_weigh.G (P : Program) : GI := ⟨P, TT, 33, 45, [(0, 33, 12)], [0], [], [], [], AD⟩
def breaks_search_weigh.H : H := .s .n (.s .n (.s .n (.s (.s .n (.s (.l 0 .n) .n)) .n)))
abbrev breaks_search_weigh.l0_s : Sh := [(0, .at_ 33), (4, .v (.i .i64)), (33, .box y53)]
def breaks_search_weigh.O (k : Nat) : List (Orc (denR ([.c false (.i .i64)] ++ [.c true y53]))) := [⟨breaks_search_weigh.l0_s, fun y => breaks_search_weigh.l0 k y.2.1 y.2.2.1⟩]
theorem breaks_search_weigh.l0_e (k : Nat) (y : denS breaks_search_weigh.l0_s) : breaks_search_weigh.l0 (k + 1) y.2.1 y.2.2.1 = evP ((breaks_search_weigh.G Try.prog).at (breaks_search_weigh.E k)) (fun i => (breaks_search_weigh.O k)[i]?) [1, 1, 1, 0, 1, 0, 0] (cd Try.f30) breaks_search_weigh.H (kFinL ((breaks_search_weigh.G Try.prog).at (breaks_search_weigh.E k)) y53 [.tmp 2] [.c false (.i .i64)]) (unS breaks_search_weigh.l0_s y) := by rw [breaks_search_weigh.l0]; kernel_rfl
theorem breaks_search_weigh.go : goesTo Try.prog 30 := ⟨_, Try.func30, by kernel_rfl, rfl⟩
theorem breaks_search_weigh.ok (k : Nat) : SigOk Try.prog 30 (breaks_search_weigh.sig k) :=
  fn_l (G := breaks_search_weigh.G Try.prog) (c := cd Try.f30) (rs := [.tmp 2]) (args := []) (l := [.c false (.i .i64)]) (fn := Try.f30) ⟨Try.func30, by kernel_rfl, by kernel_rfl, by kernel_rfl, le_of rfl, le_of rfl, TT_ok, AD_ok⟩ rfl breaks_search_weigh.E (fun k p hp => by
    simp only [breaks_search_weigh.E, List.mem_cons, List.not_mem_nil, or_false] at hp
    rcases hp with rfl | rfl
    · exact ⟨measure_Para_Ends.ok k, measure_Para_Ends.go⟩
    · exact ⟨breaks_search_best.ok k, breaks_search_best.go⟩)
    (fun k i => (breaks_search_weigh.O k)[i]?) breaks_search_weigh.H (fun k b x => breaks_search_weigh.f k b)
    (fun id o y h => by
    have h' := List.mem_of_getElem? h
    simp only [breaks_search_weigh.O, List.mem_cons, List.not_mem_nil, or_false] at h'
    rcases h' with rfl <;> rfl)
    (fun k p hp => by
    rw [show pts (cd Try.f30) breaks_search_weigh.H = [(0, [1, 1, 1, 0, 1, 0, 0])] by kernel_rfl] at hp
    simp only [List.mem_cons, List.not_mem_nil, or_false] at hp
    rcases hp with rfl
    · exact ptOk_of rfl (breaks_search_weigh.l0_e k))
    (fun k b x => by kernel_rfl) k
/-! (*reglet/breaks.search).choose -/
mutual
def breaks_search_choose.j0 : Nat → (measure_Para × Int × Int × Int × Int × Int × Int × Int × Int × Bool × List regletref08_Sum × List Int) → Int → (List Int) → Int → Int → Int → Int → Option (List Int)
  | 0, _, _, _, _, _, _, _ => none
  | k + 1, t, t2, t3, t4, t5, t6, t7 => if (decide (t4 = (wrap64 (t7 - 1)))) = true then (some t3) else ((at? t.2.2.2.2.2.2.2.2.2.2.2 (wrap64 (t4 + 1))).bind fun e => breaks_search_choose.l1 k t t2 t3 t4 t5 t6 t7 e (wrap64 (t4 + 1)))
def breaks_search_choose.l1 : Nat → (measure_Para × Int × Int × Int × Int × Int × Int × Int × Int × Bool × List regletref08_Sum × List Int) → Int → (List Int) → Int → Int → Int → Int → Int → Int → Option (List Int)
  | 0, _, _, _, _, _, _, _, _, _ => none
  | k + 1, t8, t9, t10, t11, t12, t13, t14, t15, t16 => if (decide (t16 ≤ t15)) = true then ((breaks_search_line.f k t8 t11 t16).bind fun r2 => if (!r2.2) = true then (breaks_search_choose.j2 k t8 t9 t10 t11 t12 t13 t14 t15 t16) else (if (decide (t16 < (wrap64 (t14 - 1)))) = true then ((at? t8.2.2.2.2.2.2.2.2.2.2.1 t16).bind fun e2 => (at? ([e2.1, e2.2.1, e2.2.2.1, e2.2.2.2] : List Int) r2.1.2.2.2.1).bind fun e3 => breaks_search_choose.j3 k t8 t9 t10 t11 t12 t13 t14 t15 t16 e3 r2.1) else (breaks_search_choose.j3 k t8 t9 t10 t11 t12 t13 t14 t15 t16 0 r2.1))) else (some t10)
def breaks_search_choose.j2 : Nat → (measure_Para × Int × Int × Int × Int × Int × Int × Int × Int × Bool × List regletref08_Sum × List Int) → Int → (List Int) → Int → Int → Int → Int → Int → Int → Option (List Int)
  | 0, _, _, _, _, _, _, _, _, _ => none
  | k + 1, t17, t18, t19, t20, t21, t22, t23, t24, t25 => breaks_search_choose.l1 k t17 t18 t19 t20 t21 t22 t23 t24 (wrap64 (t25 + 1))
def breaks_search_choose.j3 : Nat → (measure_Para × Int × Int × Int × Int × Int × Int × Int × Int × Bool × List regletref08_Sum × List Int) → Int → (List Int) → Int → Int → Int → Int → Int → Int → Int → api_Fit → Option (List Int)
  | 0, _, _, _, _, _, _, _, _, _, _, _ => none
  | k + 1, t26, t27, t28, t29, t30, t31, t32, t33, t34, t35, t36 => (breaks_search_cost.f k t26 t29 t34 t36 t30).bind fun r3 => (measure_Total.f k t31 r3).bind fun r4 => if (decide (t35 = 1125899906842625)) = true then (breaks_search_choose.j2 k t26 t27 t28 t29 t30 t31 t32 t33 t34) else ((measure_Total.f k r4 t35).bind fun r5 => if (!decide (r5 = t27)) = true then (breaks_search_choose.j2 k t26 t27 t28 t29 t30 t31 t32 t33 t34) else (breaks_search_choose.j4 k t26 t27 t28 t32 t34 r4 t36))
def breaks_search_choose.j4 : Nat → (measure_Para × Int × Int × Int × Int × Int × Int × Int × Int × Bool × List regletref08_Sum × List Int) → Int → (List Int) → Int → Int → Int → api_Fit → Option (List Int)
  | 0, _, _, _, _, _, _, _ => none
  | k + 1, t37, t38, t39, t40, t41, t42, t43 => (measure_Para_End.f k t37.1 t41).bind fun r6 => if (t39.length + ([r6] : List Int).length) * 8 ≤ 140737488355328 then (breaks_search_choose.j0 k t37 t38 (t39 ++ ([r6] : List Int)) t41 t43.2.2.2.1 t42 t40) else none
end
def breaks_search_choose.f (k : Nat) (a0 : measure_Para × Int × Int × Int × Int × Int × Int × Int × Int × Bool × List regletref08_Sum × List Int) (a1 : Int) : Option (List Int) := (measure_Para_Ends.f k a0.1).bind fun r => breaks_search_choose.j0 k a0 a1 ([] : List Int) (-1) 0 0 r
def breaks_search_choose.sig (k : Nat) : Sig := .p [(false, y73), (false, (.i .i64))] [.c false y9] fun x => breaks_search_choose.f k x.1 x.2.1
def breaks_search_choose.E (k : Nat) : List (Nat × Sig) := [(49, measure_Para_Ends.sig k), (51, measure_Para_End.sig k), (53, breaks_search_line.sig k), (54, measure_Total.sig k), (55, breaks_search_cost.sig k)]
def breaks_search_choose.G (P : Program) : GI := ⟨P, TT, 95, 100, [(12, 95, 5)], [], [], [], [], AD⟩
def breaks_search_choose.H : H := .s .n (.g 0 0 (.s .n (.s .n (.s .n (.j 0 .n (.s .n (.s .n (.s (.s .n (.s (.l 1 (.s .n (.j 2 (.s (.s .n (.s .n (.s .n (.j 3 .n (.s .n (.j 4 .n .n)))))) .n) .n))) .n)) .n))))))))
abbrev breaks_search_choose.j0_s : Sh := [(0, .v y73), (1, .v (.i .i64)), (5, .v y9), (6, .v (.i .i64)), (7, .v (.i .i64)), (8, .v (.i .i64)), (9, .v (.i .i64))]
abbrev breaks_search_choose.l1_s : Sh := [(0, .v y73), (1, .v (.i .i64)), (5, .v y9), (6, .v (.i .i64)), (7, .v (.i .i64)), (8, .v (.i .i64)), (9, .v (.i .i64)), (10, .v (.i .i64)), (11, .v (.i .i64))]
abbrev breaks_search_choose.j2_s : Sh := [(0, .v y73), (1, .v (.i .i64)), (5, .v y9), (6, .v (.i .i64)), (7, .v (.i .i64)), (8, .v (.i .i64)), (9, .v (.i .i64)), (10, .v (.i .i64)), (11, .v (.i .i64))]
abbrev breaks_search_choose.j3_s : Sh := [(0, .v y73), (1, .v (.i .i64)), (5, .v y9), (6, .v (.i .i64)), (7, .v (.i .i64)), (8, .v (.i .i64)), (9, .v (.i .i64)), (10, .v (.i .i64)), (11, .v (.i .i64)), (12, .at_ 95), (14, .v (.i .i64)), (95, .box y60)]
abbrev breaks_search_choose.j4_s : Sh := [(0, .v y73), (1, .v (.i .i64)), (5, .v y9), (9, .v (.i .i64)), (11, .v (.i .i64)), (12, .at_ 95), (15, .v (.i .i64)), (95, .box y60)]
def breaks_search_choose.O (k : Nat) : List (Orc (denR [.c false y9])) := [⟨breaks_search_choose.j0_s, fun y => breaks_search_choose.j0 k y.1 y.2.1 y.2.2.1 y.2.2.2.1 y.2.2.2.2.1 y.2.2.2.2.2.1 y.2.2.2.2.2.2.1⟩, ⟨breaks_search_choose.l1_s, fun y => breaks_search_choose.l1 k y.1 y.2.1 y.2.2.1 y.2.2.2.1 y.2.2.2.2.1 y.2.2.2.2.2.1 y.2.2.2.2.2.2.1 y.2.2.2.2.2.2.2.1 y.2.2.2.2.2.2.2.2.1⟩, ⟨breaks_search_choose.j2_s, fun y => breaks_search_choose.j2 k y.1 y.2.1 y.2.2.1 y.2.2.2.1 y.2.2.2.2.1 y.2.2.2.2.2.1 y.2.2.2.2.2.2.1 y.2.2.2.2.2.2.2.1 y.2.2.2.2.2.2.2.2.1⟩, ⟨breaks_search_choose.j3_s, fun y => breaks_search_choose.j3 k y.1 y.2.1 y.2.2.1 y.2.2.2.1 y.2.2.2.2.1 y.2.2.2.2.2.1 y.2.2.2.2.2.2.1 y.2.2.2.2.2.2.2.1 y.2.2.2.2.2.2.2.2.1 y.2.2.2.2.2.2.2.2.2.2.1 y.2.2.2.2.2.2.2.2.2.2.2.1⟩, ⟨breaks_search_choose.j4_s, fun y => breaks_search_choose.j4 k y.1 y.2.1 y.2.2.1 y.2.2.2.1 y.2.2.2.2.1 y.2.2.2.2.2.2.1 y.2.2.2.2.2.2.2.1⟩]
theorem breaks_search_choose.j4_e (k : Nat) (y : denS breaks_search_choose.j4_s) : breaks_search_choose.j4 (k + 1) y.1 y.2.1 y.2.2.1 y.2.2.2.1 y.2.2.2.2.1 y.2.2.2.2.2.2.1 y.2.2.2.2.2.2.2.1 = evP ((breaks_search_choose.G Try.prog).at (breaks_search_choose.E k)) (fun i => (breaks_search_choose.O k)[i]?) [1, 0, 1, 1, 1, 1, 1, 1, 0, 1, 0, 0, 1, 0, 0, 1, 1, 1, 1, 1, 1] (cd Try.f31) breaks_search_choose.H (kFin ((breaks_search_choose.G Try.prog).at (breaks_search_choose.E k)) [.tmp 4] [.c false y9]) (unS breaks_search_choose.j4_s y) := by rw [breaks_search_choose.j4]; kernel_rfl
theorem breaks_search_choose.j3_e (k : Nat) (y : denS breaks_search_choose.j3_s) : breaks_search_choose.j3 (k + 1) y.1 y.2.1 y.2.2.1 y.2.2.2.1 y.2.2.2.2.1 y.2.2.2.2.2.1 y.2.2.2.2.2.2.1 y.2.2.2.2.2.2.2.1 y.2.2.2.2.2.2.2.2.1 y.2.2.2.2.2.2.2.2.2.2.1 y.2.2.2.2.2.2.2.2.2.2.2.1 = evP ((breaks_search_choose.G Try.prog).at (breaks_search_choose.E k)) (fun i => (breaks_search_choose.O k)[i]?) [1, 0, 1, 1, 1, 1, 1, 1, 0, 1, 0, 0, 1, 0, 0, 1, 1, 1, 1] (cd Try.f31) breaks_search_choose.H (kFin ((breaks_search_choose.G Try.prog).at (breaks_search_choose.E k)) [.tmp 4] [.c false y9]) (unS breaks_search_choose.j3_s y) := by rw [breaks_search_choose.j3]; kernel_rfl
theorem breaks_search_choose.j2_e (k : Nat) (y : denS breaks_search_choose.j2_s) : breaks_search_choose.j2 (k + 1) y.1 y.2.1 y.2.2.1 y.2.2.2.1 y.2.2.2.2.1 y.2.2.2.2.2.1 y.2.2.2.2.2.2.1 y.2.2.2.2.2.2.2.1 y.2.2.2.2.2.2.2.2.1 = evP ((breaks_search_choose.G Try.prog).at (breaks_search_choose.E k)) (fun i => (breaks_search_choose.O k)[i]?) [1, 0, 1, 1, 1, 1, 1, 1, 0, 1, 0, 0, 1, 1] (cd Try.f31) breaks_search_choose.H (kFin ((breaks_search_choose.G Try.prog).at (breaks_search_choose.E k)) [.tmp 4] [.c false y9]) (unS breaks_search_choose.j2_s y) := by rw [breaks_search_choose.j2]; kernel_rfl
theorem breaks_search_choose.l1_e (k : Nat) (y : denS breaks_search_choose.l1_s) : breaks_search_choose.l1 (k + 1) y.1 y.2.1 y.2.2.1 y.2.2.2.1 y.2.2.2.2.1 y.2.2.2.2.2.1 y.2.2.2.2.2.2.1 y.2.2.2.2.2.2.2.1 y.2.2.2.2.2.2.2.2.1 = evP ((breaks_search_choose.G Try.prog).at (breaks_search_choose.E k)) (fun i => (breaks_search_choose.O k)[i]?) [1, 0, 1, 1, 1, 1, 1, 1, 0, 1, 0, 0] (cd Try.f31) breaks_search_choose.H (kFin ((breaks_search_choose.G Try.prog).at (breaks_search_choose.E k)) [.tmp 4] [.c false y9]) (unS breaks_search_choose.l1_s y) := by rw [breaks_search_choose.l1]; kernel_rfl
theorem breaks_search_choose.j0_e (k : Nat) (y : denS breaks_search_choose.j0_s) : breaks_search_choose.j0 (k + 1) y.1 y.2.1 y.2.2.1 y.2.2.2.1 y.2.2.2.2.1 y.2.2.2.2.2.1 y.2.2.2.2.2.2.1 = evP ((breaks_search_choose.G Try.prog).at (breaks_search_choose.E k)) (fun i => (breaks_search_choose.O k)[i]?) [1, 0, 1, 1, 1, 1] (cd Try.f31) breaks_search_choose.H (kFin ((breaks_search_choose.G Try.prog).at (breaks_search_choose.E k)) [.tmp 4] [.c false y9]) (unS breaks_search_choose.j0_s y) := by rw [breaks_search_choose.j0]; kernel_rfl
theorem breaks_search_choose.go : goesTo Try.prog 31 := ⟨_, Try.func31, by kernel_rfl, rfl⟩
theorem breaks_search_choose.ok (k : Nat) : SigOk Try.prog 31 (breaks_search_choose.sig k) :=
  fn_p (G := breaks_search_choose.G Try.prog) (c := cd Try.f31) (rs := [.tmp 4]) (args := [(false, y73), (false, (.i .i64))]) (l := [.c false y9]) (fn := Try.f31) ⟨Try.func31, by kernel_rfl, by kernel_rfl, by kernel_rfl, le_of rfl, le_of rfl, TT_ok, AD_ok⟩ rfl breaks_search_choose.E (fun k p hp => by
    simp only [breaks_search_choose.E, List.mem_cons, List.not_mem_nil, or_false] at hp
    rcases hp with rfl | rfl | rfl | rfl | rfl
    · exact ⟨measure_Para_Ends.ok k, measure_Para_Ends.go⟩
    · exact ⟨measure_Para_End.ok k, measure_Para_End.go⟩
    · exact ⟨breaks_search_line.ok k, breaks_search_line.go⟩
    · exact ⟨measure_Total.ok k, measure_Total.go⟩
    · exact ⟨breaks_search_cost.ok k, breaks_search_cost.go⟩)
    (fun k i => (breaks_search_choose.O k)[i]?) breaks_search_choose.H (fun k x => breaks_search_choose.f k x.1 x.2.1)
    (fun id o y h => by
    have h' := List.mem_of_getElem? h
    simp only [breaks_search_choose.O, List.mem_cons, List.not_mem_nil, or_false] at h'
    rcases h' with rfl | rfl | rfl | rfl | rfl <;> rfl)
    (fun k p hp => by
    rw [show pts (cd Try.f31) breaks_search_choose.H = [(4, [1, 0, 1, 1, 1, 1, 1, 1, 0, 1, 0, 0, 1, 0, 0, 1, 1, 1, 1, 1, 1]), (3, [1, 0, 1, 1, 1, 1, 1, 1, 0, 1, 0, 0, 1, 0, 0, 1, 1, 1, 1]), (2, [1, 0, 1, 1, 1, 1, 1, 1, 0, 1, 0, 0, 1, 1]), (1, [1, 0, 1, 1, 1, 1, 1, 1, 0, 1, 0, 0]), (0, [1, 0, 1, 1, 1, 1])] by kernel_rfl] at hp
    simp only [List.mem_cons, List.not_mem_nil, or_false] at hp
    rcases hp with rfl | rfl | rfl | rfl | rfl
    · exact ptOk_of rfl (breaks_search_choose.j4_e k)
    · exact ptOk_of rfl (breaks_search_choose.j3_e k)
    · exact ptOk_of rfl (breaks_search_choose.j2_e k)
    · exact ptOk_of rfl (breaks_search_choose.l1_e k)
    · exact ptOk_of rfl (breaks_search_choose.j0_e k))
    (fun k x => by kernel_rfl) k
/-! reglet/breaks.Break -/
mutual
def breaks_Break.j0 : Nat → Int → api_Breaking → (measure_Para × Int × Int × Int × Int × Int × Int × Int × Int × Bool × List regletref08_Sum × List Int) → Option (api_Breaking × Int)
  | 0, _, _, _ => none
  | k + 1, total, t, s => (breaks_search_choose.f k s total).bind fun r5 => some ((r5, total, s.2.2.2.2.2.2.2.2.2.1), 0)
end
def breaks_Break.f (k : Nat) (a0 : measure_Para) (a1 : Int) (a2 : api_Settings) : Option (api_Breaking × Int) := (breaks_Check.f k a1 a2).bind fun r => if (!decide (r = 0)) = true then (some ((([] : List Int), 0, (false)), r)) else ((breaks_search_forced.f k (a0, a1, a2.1, a2.2.1, a2.2.2.1, a2.2.2.2.1, a2.2.2.2.2.1, a2.2.2.2.2.2.1, a2.2.2.2.2.2.2, (false), ([] : List regletref08_Sum), ([] : List Int))).bind fun r2 => (breaks_search_weigh.f k r2).bind fun r3 => if (decide (r3.1 = 1125899906842625)) = true then ((breaks_search_weigh.f k (r3.2.1, r3.2.2.1, r3.2.2.2.1, r3.2.2.2.2.1, r3.2.2.2.2.2.1, r3.2.2.2.2.2.2.1, r3.2.2.2.2.2.2.2.1, r3.2.2.2.2.2.2.2.2.1, r3.2.2.2.2.2.2.2.2.2.1, (true), r3.2.2.2.2.2.2.2.2.2.2.2.1, r3.2.2.2.2.2.2.2.2.2.2.2.2)).bind fun r4 => breaks_Break.j0 k r4.1 (([] : List Int), 0, (false)) r4.2) else (breaks_Break.j0 k r3.1 (([] : List Int), 0, (false)) r3.2))
def breaks_Break.sig (k : Nat) : Sig := .p [(false, y41), (false, (.i .i64)), (true, y22)] [.c true y74, .c false (.i .i64)] fun x => breaks_Break.f k x.1 x.2.1 x.2.2.1
def breaks_Break.E (k : Nat) : List (Nat × Sig) := [(24, breaks_Check.sig k), (29, breaks_search_forced.sig k), (30, breaks_search_weigh.sig k), (31, breaks_search_choose.sig k)]
def breaks_Break.G (P : Program) : GI := ⟨P, TT, 46, 71, [(5, 46, 7), (6, 53, 3), (23, 56, 12), (11, 68, 3)], [], [], [], [], AD⟩
def breaks_Break.H : H := .s .n (.s .n (.s .n (.s .n (.s .n (.j 0 .n .n)))))
abbrev breaks_Break.j0_s : Sh := [(6, .at_ 53), (9, .at_ 56), (10, .v (.i .i64)), (53, .box y74), (56, .box y53)]
def breaks_Break.O (k : Nat) : List (Orc (denR [.c true y74, .c false (.i .i64)])) := [⟨breaks_Break.j0_s, fun y => breaks_Break.j0 k y.2.2.1 y.2.2.2.1 y.2.2.2.2.1⟩]
theorem breaks_Break.j0_e (k : Nat) (y : denS breaks_Break.j0_s) : breaks_Break.j0 (k + 1) y.2.2.1 y.2.2.2.1 y.2.2.2.2.1 = evP ((breaks_Break.G Try.prog).at (breaks_Break.E k)) (fun i => (breaks_Break.O k)[i]?) [1, 1, 1, 1, 1, 1] (cd Try.f14) breaks_Break.H (kFin ((breaks_Break.G Try.prog).at (breaks_Break.E k)) [.cell 6 31, .tmp 7] [.c true y74, .c false (.i .i64)]) (unS breaks_Break.j0_s y) := by rw [breaks_Break.j0]; kernel_rfl
theorem breaks_Break.go : goesTo Try.prog 14 := ⟨_, Try.func14, by kernel_rfl, rfl⟩
theorem breaks_Break.ok (k : Nat) : SigOk Try.prog 14 (breaks_Break.sig k) :=
  fn_p (G := breaks_Break.G Try.prog) (c := cd Try.f14) (rs := [.cell 6 31, .tmp 7]) (args := [(false, y41), (false, (.i .i64)), (true, y22)]) (l := [.c true y74, .c false (.i .i64)]) (fn := Try.f14) ⟨Try.func14, by kernel_rfl, by kernel_rfl, by kernel_rfl, le_of rfl, le_of rfl, TT_ok, AD_ok⟩ rfl breaks_Break.E (fun k p hp => by
    simp only [breaks_Break.E, List.mem_cons, List.not_mem_nil, or_false] at hp
    rcases hp with rfl | rfl | rfl | rfl
    · exact ⟨breaks_Check.ok k, breaks_Check.go⟩
    · exact ⟨breaks_search_forced.ok k, breaks_search_forced.go⟩
    · exact ⟨breaks_search_weigh.ok k, breaks_search_weigh.go⟩
    · exact ⟨breaks_search_choose.ok k, breaks_search_choose.go⟩)
    (fun k i => (breaks_Break.O k)[i]?) breaks_Break.H (fun k x => breaks_Break.f k x.1 x.2.1 x.2.2.1)
    (fun id o y h => by
    have h' := List.mem_of_getElem? h
    simp only [breaks_Break.O, List.mem_cons, List.not_mem_nil, or_false] at h'
    rcases h' with rfl <;> rfl)
    (fun k p hp => by
    rw [show pts (cd Try.f14) breaks_Break.H = [(0, [1, 1, 1, 1, 1, 1])] by kernel_rfl] at hp
    simp only [List.mem_cons, List.not_mem_nil, or_false] at hp
    rcases hp with rfl
    · exact ptOk_of rfl (breaks_Break.j0_e k))
    (fun k x => by kernel_rfl) k
/-! reglet/regletlaw09.box -/
def regletlaw09_box.f (k : Nat) (a0 : Int) : Option api_Item := some (1, 30, 0, 0, (false), 0, (false), a0, wrap64 (a0 + 1))
def regletlaw09_box.sig (k : Nat) : Sig := .p [(false, (.i .i64))] [.c true y7] fun x => regletlaw09_box.f k x.1
def regletlaw09_box.E (k : Nat) : List (Nat × Sig) := []
def regletlaw09_box.G (P : Program) : GI := ⟨P, TT, 7, 16, [(2, 7, 9)], [], [], [], [], AD⟩
def regletlaw09_box.H : H := .n
def regletlaw09_box.O (k : Nat) : List (Orc (denR [.c true y7])) := []
theorem regletlaw09_box.go : goesTo Try.prog 42 := ⟨_, Try.func42, by kernel_rfl, rfl⟩
theorem regletlaw09_box.ok (k : Nat) : SigOk Try.prog 42 (regletlaw09_box.sig k) :=
  fn_p (G := regletlaw09_box.G Try.prog) (c := cd Try.f42) (rs := [.cell 2 47]) (args := [(false, (.i .i64))]) (l := [.c true y7]) (fn := Try.f42) ⟨Try.func42, by kernel_rfl, by kernel_rfl, by kernel_rfl, le_of rfl, le_of rfl, TT_ok, AD_ok⟩ rfl regletlaw09_box.E (fun k p hp => nomatch hp)
    (fun k i => (regletlaw09_box.O k)[i]?) regletlaw09_box.H (fun k x => regletlaw09_box.f k x.1)
    (fun id o y h => by cases id <;> cases h)
    (fun k p hp => by rw [show pts (cd Try.f42) regletlaw09_box.H = [] by kernel_rfl] at hp; nomatch hp)
    (fun k x => by kernel_rfl) k
/-! reglet/regletlaw09.glue -/
def regletlaw09_glue.f (k : Nat) (a0 : Int) : Option api_Item := some (2, 10, 5, 3, (false), 0, (false), a0, wrap64 (a0 + 1))
def regletlaw09_glue.sig (k : Nat) : Sig := .p [(false, (.i .i64))] [.c true y7] fun x => regletlaw09_glue.f k x.1
def regletlaw09_glue.E (k : Nat) : List (Nat × Sig) := []
def regletlaw09_glue.G (P : Program) : GI := ⟨P, TT, 7, 16, [(2, 7, 9)], [], [], [], [], AD⟩
def regletlaw09_glue.H : H := .n
def regletlaw09_glue.O (k : Nat) : List (Orc (denR [.c true y7])) := []
theorem regletlaw09_glue.go : goesTo Try.prog 43 := ⟨_, Try.func43, by kernel_rfl, rfl⟩
theorem regletlaw09_glue.ok (k : Nat) : SigOk Try.prog 43 (regletlaw09_glue.sig k) :=
  fn_p (G := regletlaw09_glue.G Try.prog) (c := cd Try.f43) (rs := [.cell 2 47]) (args := [(false, (.i .i64))]) (l := [.c true y7]) (fn := Try.f43) ⟨Try.func43, by kernel_rfl, by kernel_rfl, by kernel_rfl, le_of rfl, le_of rfl, TT_ok, AD_ok⟩ rfl regletlaw09_glue.E (fun k p hp => nomatch hp)
    (fun k i => (regletlaw09_glue.O k)[i]?) regletlaw09_glue.H (fun k x => regletlaw09_glue.f k x.1)
    (fun id o y h => by cases id <;> cases h)
    (fun k p hp => by rw [show pts (cd Try.f43) regletlaw09_glue.H = [] by kernel_rfl] at hp; nomatch hp)
    (fun k x => by kernel_rfl) k
/-! reglet/regletlaw09.words -/
def regletlaw09_words.f (k : Nat)  : Option (List api_Item) := (regletlaw09_box.f k 0).bind fun r => (regletlaw09_glue.f k 1).bind fun r2 => (regletlaw09_box.f k 2).bind fun r3 => (regletlaw09_glue.f k 3).bind fun r4 => (regletlaw09_box.f k 4).bind fun r5 => some ([r, r2, r3, r4, r5, (2, 0, 0, 0, (true), 0, (false), 5, 5), (3, 0, 0, 0, (false), (-10000), (false), 5, 5)] : List api_Item)
def regletlaw09_words.sig (k : Nat) : Sig := .p [] [.c false y10] fun x => regletlaw09_words.f k
def regletlaw09_words.E (k : Nat) : List (Nat × Sig) := [(42, regletlaw09_box.sig k), (43, regletlaw09_glue.sig k)]
def regletlaw09_words.G (P : Program) : GI := ⟨P, TT, 9, 9, [], [], [], [], [], AD⟩
def regletlaw09_words.H : H := .n
def regletlaw09_words.O (k : Nat) : List (Orc (denR [.c false y10])) := []
theorem regletlaw09_words.go : goesTo Try.prog 23 := ⟨_, Try.func23, by kernel_rfl, rfl⟩
theorem regletlaw09_words.ok (k : Nat) : SigOk Try.prog 23 (regletlaw09_words.sig k) :=
  fn_p (G := regletlaw09_words.G Try.prog) (c := cd Try.f23) (rs := [.tmp 0]) (args := []) (l := [.c false y10]) (fn := Try.f23) ⟨Try.func23, by kernel_rfl, by kernel_rfl, by kernel_rfl, le_of rfl, le_of rfl, TT_ok, AD_ok⟩ rfl regletlaw09_words.E (fun k p hp => by
    simp only [regletlaw09_words.E, List.mem_cons, List.not_mem_nil, or_false] at hp
    rcases hp with rfl | rfl
    · exact ⟨regletlaw09_box.ok k, regletlaw09_box.go⟩
    · exact ⟨regletlaw09_glue.ok k, regletlaw09_glue.go⟩)
    (fun k i => (regletlaw09_words.O k)[i]?) regletlaw09_words.H (fun k x => regletlaw09_words.f k)
    (fun id o y h => by cases id <;> cases h)
    (fun k p hp => by rw [show pts (cd Try.f23) regletlaw09_words.H = [] by kernel_rfl] at hp; nomatch hp)
    (fun k x => by kernel_rfl) k
/-! reglet/measure.Usual -/
def measure_Usual.f (k : Nat)  : Option api_Settings := some (200, 10, 10000, 10000, 5000, 2, 2)
def measure_Usual.sig (k : Nat) : Sig := .p [] [.c true y22] fun x => measure_Usual.f k
def measure_Usual.E (k : Nat) : List (Nat × Sig) := []
def measure_Usual.G (P : Program) : GI := ⟨P, TT, 2, 9, [(0, 2, 7)], [], [], [], [], AD⟩
def measure_Usual.H : H := .n
def measure_Usual.O (k : Nat) : List (Orc (denR [.c true y22])) := []
theorem measure_Usual.go : goesTo Try.prog 26 := ⟨_, Try.func26, by kernel_rfl, rfl⟩
theorem measure_Usual.ok (k : Nat) : SigOk Try.prog 26 (measure_Usual.sig k) :=
  fn_p (G := measure_Usual.G Try.prog) (c := cd Try.f26) (rs := [.cell 0 24]) (args := []) (l := [.c true y22]) (fn := Try.f26) ⟨Try.func26, by kernel_rfl, by kernel_rfl, by kernel_rfl, le_of rfl, le_of rfl, TT_ok, AD_ok⟩ rfl measure_Usual.E (fun k p hp => nomatch hp)
    (fun k i => (measure_Usual.O k)[i]?) measure_Usual.H (fun k x => measure_Usual.f k)
    (fun id o y h => by cases id <;> cases h)
    (fun k p hp => by rw [show pts (cd Try.f26) measure_Usual.H = [] by kernel_rfl] at hp; nomatch hp)
    (fun k x => by kernel_rfl) k
/-! reglet/regletlaw09.awake -/
def regletlaw09_awake.f (k : Nat)  : Option Bool := (regletlaw09_words.f k).bind fun r => (regletlaw09_para.f k r 9).bind fun r2 => optK r2 (some false) fun p => (measure_Usual.f k).bind fun r3 => (breaks_Break.f k p 70 r3).bind fun r4 => if (decide (r4.2 = 0)) = true then (if (decide ((r4.1.1.length : Int) = 2)) = true then (if 0 ≤ (0 : Int) ∧ (0 : Int) < (r4.1.1.length : Int) then ((r4.1.1[(0 : Int).toNat]?).bind fun e => if (decide (e = 3)) = true then (if 0 ≤ (1 : Int) ∧ (1 : Int) < (r4.1.1.length : Int) then ((r4.1.1[(1 : Int).toNat]?).bind fun e2 => if (decide (e2 = 6)) = true then (if (!r4.1.2.2) = true then (some (decide (r4.1.2.1 = 200))) else (some false)) else (some false)) else none) else (some false)) else none) else (some false)) else (some false)
def regletlaw09_awake.sig (k : Nat) : Sig := .p [] [.c false .b] fun x => regletlaw09_awake.f k
def regletlaw09_awake.E (k : Nat) : List (Nat × Sig) := [(12, regletlaw09_para.sig k), (14, breaks_Break.sig k), (23, regletlaw09_words.sig k), (26, measure_Usual.sig k)]
def regletlaw09_awake.G (P : Program) : GI := ⟨P, TT, 46, 49, [(2, 46, 3)], [], [], [], [], AD⟩
def regletlaw09_awake.H : H := .s .n (.s .n (.s (.s (.f 1 .n) .n) .n))
def regletlaw09_awake.O (k : Nat) : List (Orc (denR [.c false .b])) := []
theorem regletlaw09_awake.go : goesTo Try.prog 11 := ⟨_, Try.func11, by kernel_rfl, rfl⟩
theorem regletlaw09_awake.ok (k : Nat) : SigOk Try.prog 11 (regletlaw09_awake.sig k) :=
  fn_p (G := regletlaw09_awake.G Try.prog) (c := cd Try.f11) (rs := [.tmp 0]) (args := []) (l := [.c false .b]) (fn := Try.f11) ⟨Try.func11, by kernel_rfl, by kernel_rfl, by kernel_rfl, le_of rfl, le_of rfl, TT_ok, AD_ok⟩ rfl regletlaw09_awake.E (fun k p hp => by
    simp only [regletlaw09_awake.E, List.mem_cons, List.not_mem_nil, or_false] at hp
    rcases hp with rfl | rfl | rfl | rfl
    · exact ⟨regletlaw09_para.ok k, regletlaw09_para.go⟩
    · exact ⟨breaks_Break.ok k, breaks_Break.go⟩
    · exact ⟨regletlaw09_words.ok k, regletlaw09_words.go⟩
    · exact ⟨measure_Usual.ok k, measure_Usual.go⟩)
    (fun k i => (regletlaw09_awake.O k)[i]?) regletlaw09_awake.H (fun k x => regletlaw09_awake.f k)
    (fun id o y h => by cases id <;> cases h)
    (fun k p hp => by rw [show pts (cd Try.f11) regletlaw09_awake.H = [] by kernel_rfl] at hp; nomatch hp)
    (fun k x => by kernel_rfl) k
/-! reglet/regletref08.Settings -/
mutual
def regletref08_Settings.j0 : Nat → api_Settings → Option Bool
  | 0, _ => none
  | k + 1, t => regletref08_Settings.l1 k ([t.2.2.1, t.2.2.2.1, t.2.2.2.2.1] : List Int) 0 t
def regletref08_Settings.l1 : Nat → (List Int) → Int → api_Settings → Option Bool
  | 0, _, _, _ => none
  | k + 1, t2, t3, t4 => if (decide (t3 < (t2.length : Int))) = true then (if 0 ≤ t3 ∧ t3 < (t2.length : Int) then ((t2[t3.toNat]?).bind fun e => if (decide (e < 0)) = true then (some false) else (if 0 ≤ t3 ∧ t3 < (t2.length : Int) then ((t2[t3.toNat]?).bind fun e2 => if (decide (1048576 < e2)) = true then (some false) else (regletref08_Settings.j2 k t2 t3 t4)) else none)) else none) else (if (decide (1 ≤ t4.2.2.2.2.2.1)) = true then (if (decide (t4.2.2.2.2.2.1 ≤ 100)) = true then (if (decide (1 ≤ t4.2.2.2.2.2.2)) = true then (some (decide (t4.2.2.2.2.2.2 ≤ 100))) else (some false)) else (some false)) else (some false))
def regletref08_Settings.j2 : Nat → (List Int) → Int → api_Settings → Option Bool
  | 0, _, _, _ => none
  | k + 1, t5, t6, t7 => regletref08_Settings.l1 k t5 (wrap64 (t6 + 1)) t7
end
def regletref08_Settings.f (k : Nat) (a0 : api_Settings) : Option Bool := if (decide (a0.1 < 0)) = true then (some false) else (if (decide (10000 < a0.1)) = true then (some false) else (if (decide (a0.2.1 < 0)) = true then (some false) else (if (decide (10000 < a0.2.1)) = true then (some false) else (regletref08_Settings.j0 k a0))))
def regletref08_Settings.sig (k : Nat) : Sig := .p [(true, y22)] [.c false .b] fun x => regletref08_Settings.f k x.1
def regletref08_Settings.E (k : Nat) : List (Nat × Sig) := []
def regletref08_Settings.G (P : Program) : GI := ⟨P, TT, 66, 73, [(1, 66, 7)], [], [], [], [], AD⟩
def regletref08_Settings.H : H := .s .n (.j 0 .n (.s .n (.s (.s .n (.s (.l 1 (.s .n (.j 2 .n .n))) .n)) .n)))
abbrev regletref08_Settings.j0_s : Sh := [(1, .at_ 66), (66, .box y22)]
abbrev regletref08_Settings.l1_s : Sh := [(1, .at_ 66), (3, .v y9), (4, .v (.i .i64)), (66, .box y22)]
abbrev regletref08_Settings.j2_s : Sh := [(1, .at_ 66), (3, .v y9), (4, .v (.i .i64)), (66, .box y22)]
def regletref08_Settings.O (k : Nat) : List (Orc (denR [.c false .b])) := [⟨regletref08_Settings.j0_s, fun y => regletref08_Settings.j0 k y.2.1⟩, ⟨regletref08_Settings.l1_s, fun y => regletref08_Settings.l1 k y.2.1 y.2.2.1 y.2.2.2.1⟩, ⟨regletref08_Settings.j2_s, fun y => regletref08_Settings.j2 k y.2.1 y.2.2.1 y.2.2.2.1⟩]
theorem regletref08_Settings.j2_e (k : Nat) (y : denS regletref08_Settings.j2_s) : regletref08_Settings.j2 (k + 1) y.2.1 y.2.2.1 y.2.2.2.1 = evP ((regletref08_Settings.G Try.prog).at (regletref08_Settings.E k)) (fun i => (regletref08_Settings.O k)[i]?) [1, 1, 1, 0, 1, 0, 0, 1, 1] (cd Try.f25) regletref08_Settings.H (kFin ((regletref08_Settings.G Try.prog).at (regletref08_Settings.E k)) [.tmp 2] [.c false .b]) (unS regletref08_Settings.j2_s y) := by rw [regletref08_Settings.j2]; kernel_rfl
theorem regletref08_Settings.l1_e (k : Nat) (y : denS regletref08_Settings.l1_s) : regletref08_Settings.l1 (k + 1) y.2.1 y.2.2.1 y.2.2.2.1 = evP ((regletref08_Settings.G Try.prog).at (regletref08_Settings.E k)) (fun i => (regletref08_Settings.O k)[i]?) [1, 1, 1, 0, 1, 0, 0] (cd Try.f25) regletref08_Settings.H (kFin ((regletref08_Settings.G Try.prog).at (regletref08_Settings.E k)) [.tmp 2] [.c false .b]) (unS regletref08_Settings.l1_s y) := by rw [regletref08_Settings.l1]; kernel_rfl
theorem regletref08_Settings.j0_e (k : Nat) (y : denS regletref08_Settings.j0_s) : regletref08_Settings.j0 (k + 1) y.2.1 = evP ((regletref08_Settings.G Try.prog).at (regletref08_Settings.E k)) (fun i => (regletref08_Settings.O k)[i]?) [1, 1] (cd Try.f25) regletref08_Settings.H (kFin ((regletref08_Settings.G Try.prog).at (regletref08_Settings.E k)) [.tmp 2] [.c false .b]) (unS regletref08_Settings.j0_s y) := by rw [regletref08_Settings.j0]; kernel_rfl
theorem regletref08_Settings.go : goesTo Try.prog 25 := ⟨_, Try.func25, by kernel_rfl, rfl⟩
theorem regletref08_Settings.ok (k : Nat) : SigOk Try.prog 25 (regletref08_Settings.sig k) :=
  fn_p (G := regletref08_Settings.G Try.prog) (c := cd Try.f25) (rs := [.tmp 2]) (args := [(true, y22)]) (l := [.c false .b]) (fn := Try.f25) ⟨Try.func25, by kernel_rfl, by kernel_rfl, by kernel_rfl, le_of rfl, le_of rfl, TT_ok, AD_ok⟩ rfl regletref08_Settings.E (fun k p hp => nomatch hp)
    (fun k i => (regletref08_Settings.O k)[i]?) regletref08_Settings.H (fun k x => regletref08_Settings.f k x.1)
    (fun id o y h => by
    have h' := List.mem_of_getElem? h
    simp only [regletref08_Settings.O, List.mem_cons, List.not_mem_nil, or_false] at h'
    rcases h' with rfl | rfl | rfl <;> rfl)
    (fun k p hp => by
    rw [show pts (cd Try.f25) regletref08_Settings.H = [(2, [1, 1, 1, 0, 1, 0, 0, 1, 1]), (1, [1, 1, 1, 0, 1, 0, 0]), (0, [1, 1])] by kernel_rfl] at hp
    simp only [List.mem_cons, List.not_mem_nil, or_false] at hp
    rcases hp with rfl | rfl | rfl
    · exact ptOk_of rfl (regletref08_Settings.j2_e k)
    · exact ptOk_of rfl (regletref08_Settings.l1_e k)
    · exact ptOk_of rfl (regletref08_Settings.j0_e k))
    (fun k x => by kernel_rfl) k
/-! reglet/regletref09.Right -/
def regletref09_Right.f (k : Nat) (a0 : Int) (a1 : api_Settings) : Option Bool := if (decide (1 ≤ a0)) = true then (if (decide (a0 ≤ 1073741824)) = true then ((regletref08_Settings.f k a1).bind fun r => some r) else (some false)) else (some false)
def regletref09_Right.sig (k : Nat) : Sig := .p [(false, (.i .i64)), (true, y22)] [.c false .b] fun x => regletref09_Right.f k x.1 x.2.1
def regletref09_Right.E (k : Nat) : List (Nat × Sig) := [(25, regletref08_Settings.sig k)]
def regletref09_Right.G (P : Program) : GI := ⟨P, TT, 15, 22, [(3, 15, 7)], [], [], [], [], AD⟩
def regletref09_Right.H : H := .n
def regletref09_Right.O (k : Nat) : List (Orc (denR [.c false .b])) := []
theorem regletref09_Right.go : goesTo Try.prog 13 := ⟨_, Try.func13, by kernel_rfl, rfl⟩
theorem regletref09_Right.ok (k : Nat) : SigOk Try.prog 13 (regletref09_Right.sig k) :=
  fn_p (G := regletref09_Right.G Try.prog) (c := cd Try.f13) (rs := [.tmp 4]) (args := [(false, (.i .i64)), (true, y22)]) (l := [.c false .b]) (fn := Try.f13) ⟨Try.func13, by kernel_rfl, by kernel_rfl, by kernel_rfl, le_of rfl, le_of rfl, TT_ok, AD_ok⟩ rfl regletref09_Right.E (fun k p hp => by
    simp only [regletref09_Right.E, List.mem_cons, List.not_mem_nil, or_false] at hp
    rcases hp with rfl
    · exact ⟨regletref08_Settings.ok k, regletref08_Settings.go⟩)
    (fun k i => (regletref09_Right.O k)[i]?) regletref09_Right.H (fun k x => regletref09_Right.f k x.1 x.2.1)
    (fun id o y h => by cases id <;> cases h)
    (fun k p hp => by rw [show pts (cd Try.f13) regletref09_Right.H = [] by kernel_rfl] at hp; nomatch hp)
    (fun k x => by kernel_rfl) k
/-! reglet/regletref09.Same -/
mutual
def regletref09_Same.j0 : Nat → api_Breaking → api_Breaking → Option Bool
  | 0, _, _ => none
  | k + 1, a, b => regletref09_Same.l1 k 0 a b
def regletref09_Same.l1 : Nat → Int → api_Breaking → api_Breaking → Option Bool
  | 0, _, _, _ => none
  | k + 1, i, a2, b2 => if (decide (i < (a2.1.length : Int))) = true then ((at? a2.1 i).bind fun e => (at? b2.1 i).bind fun e2 => if (!decide (e = e2)) = true then (some false) else (regletref09_Same.l1 k (wrap64 (i + 1)) a2 b2)) else (some true)
end
def regletref09_Same.f (k : Nat) (a0 : api_Breaking) (a1 : api_Breaking) : Option Bool := if (!decide (a0.2.1 = a1.2.1)) = true then (some false) else (if (!decide (a0.2.2 = a1.2.2)) = true then (some false) else (if (!decide ((a0.1.length : Int) = (a1.1.length : Int))) = true then (some false) else (regletref09_Same.j0 k a0 a1)))
def regletref09_Same.sig (k : Nat) : Sig := .p [(true, y75), (true, y75)] [.c false .b] fun x => regletref09_Same.f k x.1 x.2.1
def regletref09_Same.E (k : Nat) : List (Nat × Sig) := []
def regletref09_Same.G (P : Program) : GI := ⟨P, TT, 45, 51, [(2, 45, 3), (3, 48, 3)], [], [], [], [], AD⟩
def regletref09_Same.H : H := .s .n (.j 0 .n (.s (.s .n (.s (.l 1 .n) .n)) .n))
abbrev regletref09_Same.j0_s : Sh := [(2, .at_ 45), (3, .at_ 48), (45, .box y75), (48, .box y75)]
abbrev regletref09_Same.l1_s : Sh := [(2, .at_ 45), (3, .at_ 48), (5, .v (.i .i64)), (45, .box y75), (48, .box y75)]
def regletref09_Same.O (k : Nat) : List (Orc (denR [.c false .b])) := [⟨regletref09_Same.j0_s, fun y => regletref09_Same.j0 k y.2.2.1 y.2.2.2.1⟩, ⟨regletref09_Same.l1_s, fun y => regletref09_Same.l1 k y.2.2.1 y.2.2.2.1 y.2.2.2.2.1⟩]
theorem regletref09_Same.l1_e (k : Nat) (y : denS regletref09_Same.l1_s) : regletref09_Same.l1 (k + 1) y.2.2.1 y.2.2.2.1 y.2.2.2.2.1 = evP ((regletref09_Same.G Try.prog).at (regletref09_Same.E k)) (fun i => (regletref09_Same.O k)[i]?) [1, 1, 0, 1, 0, 0] (cd Try.f15) regletref09_Same.H (kFin ((regletref09_Same.G Try.prog).at (regletref09_Same.E k)) [.tmp 4] [.c false .b]) (unS regletref09_Same.l1_s y) := by rw [regletref09_Same.l1]; kernel_rfl
theorem regletref09_Same.j0_e (k : Nat) (y : denS regletref09_Same.j0_s) : regletref09_Same.j0 (k + 1) y.2.2.1 y.2.2.2.1 = evP ((regletref09_Same.G Try.prog).at (regletref09_Same.E k)) (fun i => (regletref09_Same.O k)[i]?) [1, 1] (cd Try.f15) regletref09_Same.H (kFin ((regletref09_Same.G Try.prog).at (regletref09_Same.E k)) [.tmp 4] [.c false .b]) (unS regletref09_Same.j0_s y) := by rw [regletref09_Same.j0]; kernel_rfl
theorem regletref09_Same.go : goesTo Try.prog 15 := ⟨_, Try.func15, by kernel_rfl, rfl⟩
theorem regletref09_Same.ok (k : Nat) : SigOk Try.prog 15 (regletref09_Same.sig k) :=
  fn_p (G := regletref09_Same.G Try.prog) (c := cd Try.f15) (rs := [.tmp 4]) (args := [(true, y75), (true, y75)]) (l := [.c false .b]) (fn := Try.f15) ⟨Try.func15, by kernel_rfl, by kernel_rfl, by kernel_rfl, le_of rfl, le_of rfl, TT_ok, AD_ok⟩ rfl regletref09_Same.E (fun k p hp => nomatch hp)
    (fun k i => (regletref09_Same.O k)[i]?) regletref09_Same.H (fun k x => regletref09_Same.f k x.1 x.2.1)
    (fun id o y h => by
    have h' := List.mem_of_getElem? h
    simp only [regletref09_Same.O, List.mem_cons, List.not_mem_nil, or_false] at h'
    rcases h' with rfl | rfl <;> rfl)
    (fun k p hp => by
    rw [show pts (cd Try.f15) regletref09_Same.H = [(1, [1, 1, 0, 1, 0, 0]), (0, [1, 1])] by kernel_rfl] at hp
    simp only [List.mem_cons, List.not_mem_nil, or_false] at hp
    rcases hp with rfl | rfl
    · exact ptOk_of rfl (regletref09_Same.l1_e k)
    · exact ptOk_of rfl (regletref09_Same.j0_e k))
    (fun k x => by kernel_rfl) k
/-! reglet/regletref01.Clamp -/
def regletref01_Clamp.f (k : Nat) (a0 : Int) : Option Int := if (decide (1152921504606846976 < a0)) = true then (some 1152921504606846976) else (if (decide (a0 < (-1152921504606846976))) = true then (some (-1152921504606846976)) else (some a0))
def regletref01_Clamp.sig (k : Nat) : Sig := .p [(false, (.i .i64))] [.c false (.i .i64)] fun x => regletref01_Clamp.f k x.1
def regletref01_Clamp.E (k : Nat) : List (Nat × Sig) := []
def regletref01_Clamp.G (P : Program) : GI := ⟨P, TT, 8, 8, [], [], [], [], [], AD⟩
def regletref01_Clamp.H : H := .n
def regletref01_Clamp.O (k : Nat) : List (Orc (denR [.c false (.i .i64)])) := []
theorem regletref01_Clamp.go : goesTo Try.prog 67 := ⟨_, Try.func67, by kernel_rfl, rfl⟩
theorem regletref01_Clamp.ok (k : Nat) : SigOk Try.prog 67 (regletref01_Clamp.sig k) :=
  fn_p (G := regletref01_Clamp.G Try.prog) (c := cd Try.f67) (rs := [.tmp 2]) (args := [(false, (.i .i64))]) (l := [.c false (.i .i64)]) (fn := Try.f67) ⟨Try.func67, by kernel_rfl, by kernel_rfl, by kernel_rfl, le_of rfl, le_of rfl, TT_ok, AD_ok⟩ rfl regletref01_Clamp.E (fun k p hp => nomatch hp)
    (fun k i => (regletref01_Clamp.O k)[i]?) regletref01_Clamp.H (fun k x => regletref01_Clamp.f k x.1)
    (fun id o y h => by cases id <;> cases h)
    (fun k p hp => by rw [show pts (cd Try.f67) regletref01_Clamp.H = [] by kernel_rfl] at hp; nomatch hp)
    (fun k x => by kernel_rfl) k
/-! reglet/regletref01.Add -/
def regletref01_Add.f (k : Nat) (a0 : Int) (a1 : Int) : Option Int := (regletref01_Clamp.f k a0).bind fun r => (regletref01_Clamp.f k a1).bind fun r2 => (regletref01_Clamp.f k (wrap64 (r + r2))).bind fun r3 => some r3
def regletref01_Add.sig (k : Nat) : Sig := .p [(false, (.i .i64)), (false, (.i .i64))] [.c false (.i .i64)] fun x => regletref01_Add.f k x.1 x.2.1
def regletref01_Add.E (k : Nat) : List (Nat × Sig) := [(67, regletref01_Clamp.sig k)]
def regletref01_Add.G (P : Program) : GI := ⟨P, TT, 11, 11, [], [], [], [], [], AD⟩
def regletref01_Add.H : H := .n
def regletref01_Add.O (k : Nat) : List (Orc (denR [.c false (.i .i64)])) := []
theorem regletref01_Add.go : goesTo Try.prog 56 := ⟨_, Try.func56, by kernel_rfl, rfl⟩
theorem regletref01_Add.ok (k : Nat) : SigOk Try.prog 56 (regletref01_Add.sig k) :=
  fn_p (G := regletref01_Add.G Try.prog) (c := cd Try.f56) (rs := [.tmp 4]) (args := [(false, (.i .i64)), (false, (.i .i64))]) (l := [.c false (.i .i64)]) (fn := Try.f56) ⟨Try.func56, by kernel_rfl, by kernel_rfl, by kernel_rfl, le_of rfl, le_of rfl, TT_ok, AD_ok⟩ rfl regletref01_Add.E (fun k p hp => by
    simp only [regletref01_Add.E, List.mem_cons, List.not_mem_nil, or_false] at hp
    rcases hp with rfl
    · exact ⟨regletref01_Clamp.ok k, regletref01_Clamp.go⟩)
    (fun k i => (regletref01_Add.O k)[i]?) regletref01_Add.H (fun k x => regletref01_Add.f k x.1 x.2.1)
    (fun id o y h => by cases id <;> cases h)
    (fun k p hp => by rw [show pts (cd Try.f56) regletref01_Add.H = [] by kernel_rfl] at hp; nomatch hp)
    (fun k x => by kernel_rfl) k
/-! reglet/regletref08.Total -/
def regletref08_Total.f (k : Nat) (a0 : Int) (a1 : Int) : Option Int := (regletref01_Add.f k a0 a1).bind fun r => some (if 1125899906842624 < r then 1125899906842624 else r)
def regletref08_Total.sig (k : Nat) : Sig := .p [(false, (.i .i64)), (false, (.i .i64))] [.c false (.i .i64)] fun x => regletref08_Total.f k x.1 x.2.1
def regletref08_Total.E (k : Nat) : List (Nat × Sig) := [(56, regletref01_Add.sig k)]
def regletref08_Total.G (P : Program) : GI := ⟨P, TT, 9, 9, [], [], [], [], [], AD⟩
def regletref08_Total.H : H := .n
def regletref08_Total.O (k : Nat) : List (Orc (denR [.c false (.i .i64)])) := []
theorem regletref08_Total.go : goesTo Try.prog 37 := ⟨_, Try.func37, by kernel_rfl, rfl⟩
theorem regletref08_Total.ok (k : Nat) : SigOk Try.prog 37 (regletref08_Total.sig k) :=
  fn_p (G := regletref08_Total.G Try.prog) (c := cd Try.f37) (rs := [.tmp 4]) (args := [(false, (.i .i64)), (false, (.i .i64))]) (l := [.c false (.i .i64)]) (fn := Try.f37) ⟨Try.func37, by kernel_rfl, by kernel_rfl, by kernel_rfl, le_of rfl, le_of rfl, TT_ok, AD_ok⟩ rfl regletref08_Total.E (fun k p hp => by
    simp only [regletref08_Total.E, List.mem_cons, List.not_mem_nil, or_false] at hp
    rcases hp with rfl
    · exact ⟨regletref01_Add.ok k, regletref01_Add.go⟩)
    (fun k i => (regletref08_Total.O k)[i]?) regletref08_Total.H (fun k x => regletref08_Total.f k x.1 x.2.1)
    (fun id o y h => by cases id <;> cases h)
    (fun k p hp => by rw [show pts (cd Try.f37) regletref08_Total.H = [] by kernel_rfl] at hp; nomatch hp)
    (fun k x => by kernel_rfl) k
/-! reglet/regletref09.place -/
mutual
def regletref09_place.l0 : Nat → (List Int) → Int → Int → Option Int
  | 0, _, _, _ => none
  | k + 1, ends, b, i => if (decide (i < (ends.length : Int))) = true then ((at? ends i).bind fun e => if (decide (e = b)) = true then (some i) else (regletref09_place.l0 k ends b (wrap64 (i + 1)))) else (some (-1))
end
def regletref09_place.f (k : Nat) (a0 : List Int) (a1 : Int) : Option Int := regletref09_place.l0 k a0 a1 0
def regletref09_place.sig (k : Nat) : Sig := .p [(false, y23), (false, (.i .i64))] [.c false (.i .i64)] fun x => regletref09_place.f k x.1 x.2.1
def regletref09_place.E (k : Nat) : List (Nat × Sig) := []
def regletref09_place.G (P : Program) : GI := ⟨P, TT, 19, 19, [], [], [], [], [], AD⟩
def regletref09_place.H : H := .s .n (.s (.s .n (.s (.l 0 .n) .n)) .n)
abbrev regletref09_place.l0_s : Sh := [(0, .v y23), (1, .v (.i .i64)), (5, .v (.i .i64))]
def regletref09_place.O (k : Nat) : List (Orc (denR [.c false (.i .i64)])) := [⟨regletref09_place.l0_s, fun y => regletref09_place.l0 k y.1 y.2.1 y.2.2.1⟩]
theorem regletref09_place.l0_e (k : Nat) (y : denS regletref09_place.l0_s) : regletref09_place.l0 (k + 1) y.1 y.2.1 y.2.2.1 = evP ((regletref09_place.G Try.prog).at (regletref09_place.E k)) (fun i => (regletref09_place.O k)[i]?) [1, 0, 1, 0, 0] (cd Try.f38) regletref09_place.H (kFin ((regletref09_place.G Try.prog).at (regletref09_place.E k)) [.tmp 4] [.c false (.i .i64)]) (unS regletref09_place.l0_s y) := by rw [regletref09_place.l0]; kernel_rfl
theorem regletref09_place.go : goesTo Try.prog 38 := ⟨_, Try.func38, by kernel_rfl, rfl⟩
theorem regletref09_place.ok (k : Nat) : SigOk Try.prog 38 (regletref09_place.sig k) :=
  fn_p (G := regletref09_place.G Try.prog) (c := cd Try.f38) (rs := [.tmp 4]) (args := [(false, y23), (false, (.i .i64))]) (l := [.c false (.i .i64)]) (fn := Try.f38) ⟨Try.func38, by kernel_rfl, by kernel_rfl, by kernel_rfl, le_of rfl, le_of rfl, TT_ok, AD_ok⟩ rfl regletref09_place.E (fun k p hp => nomatch hp)
    (fun k i => (regletref09_place.O k)[i]?) regletref09_place.H (fun k x => regletref09_place.f k x.1 x.2.1)
    (fun id o y h => by
    have h' := List.mem_of_getElem? h
    simp only [regletref09_place.O, List.mem_cons, List.not_mem_nil, or_false] at h'
    rcases h' with rfl <;> rfl)
    (fun k p hp => by
    rw [show pts (cd Try.f38) regletref09_place.H = [(0, [1, 0, 1, 0, 0])] by kernel_rfl] at hp
    simp only [List.mem_cons, List.not_mem_nil, or_false] at hp
    rcases hp with rfl
    · exact ptOk_of rfl (regletref09_place.l0_e k))
    (fun k x => by kernel_rfl) k
/-! reglet/regletref01.bare -/
mutual
def regletref01_bare.l0 : Nat → (List Int) → Int → Option (List Int)
  | 0, _, _ => none
  | k + 1, a, n => if (decide (0 < n)) = true then ((at? a (wrap64 (n - 1))).bind fun e => if (decide (e = 0)) = true then (regletref01_bare.j1 k a n) else (regletref01_bare.j2 k a n)) else (regletref01_bare.j2 k a n)
def regletref01_bare.j1 : Nat → (List Int) → Int → Option (List Int)
  | 0, _, _ => none
  | k + 1, a2, n2 => regletref01_bare.l0 k a2 (wrap64 (n2 - 1))
def regletref01_bare.j2 : Nat → (List Int) → Int → Option (List Int)
  | 0, _, _ => none
  | k + 1, a3, n3 => if 0 ≤ (0 : Int) ∧ (0 : Int) ≤ n3 ∧ n3 ≤ (a3.length : Int) then (if (([] : List Int).length + ((a3.drop ((0 : Int).toNat)).take (n3.toNat - (0 : Int).toNat)).length) * 8 ≤ 140737488355328 then (some (([] : List Int) ++ ((a3.drop ((0 : Int).toNat)).take (n3.toNat - (0 : Int).toNat)))) else none) else none
end
def regletref01_bare.f (k : Nat) (a0 : List Int) : Option (List Int) := regletref01_bare.l0 k a0 (a0.length : Int)
def regletref01_bare.sig (k : Nat) : Sig := .p [(false, y23)] [.c false y9] fun x => regletref01_bare.f k x.1
def regletref01_bare.E (k : Nat) : List (Nat × Sig) := []
def regletref01_bare.G (P : Program) : GI := ⟨P, TT, 23, 23, [], [], [], [], [], AD⟩
def regletref01_bare.H : H := .s .n (.s .n (.j 2 (.s (.l 0 (.j 1 .n .n)) .n) .n))
abbrev regletref01_bare.l0_s : Sh := [(0, .v y23), (3, .v (.i .i64))]
abbrev regletref01_bare.j1_s : Sh := [(0, .v y23), (3, .v (.i .i64))]
abbrev regletref01_bare.j2_s : Sh := [(0, .v y23), (3, .v (.i .i64))]
def regletref01_bare.O (k : Nat) : List (Orc (denR [.c false y9])) := [⟨regletref01_bare.l0_s, fun y => regletref01_bare.l0 k y.1 y.2.1⟩, ⟨regletref01_bare.j1_s, fun y => regletref01_bare.j1 k y.1 y.2.1⟩, ⟨regletref01_bare.j2_s, fun y => regletref01_bare.j2 k y.1 y.2.1⟩]
theorem regletref01_bare.j1_e (k : Nat) (y : denS regletref01_bare.j1_s) : regletref01_bare.j1 (k + 1) y.1 y.2.1 = evP ((regletref01_bare.G Try.prog).at (regletref01_bare.E k)) (fun i => (regletref01_bare.O k)[i]?) [1, 1, 0, 0, 0, 1] (cd Try.f91) regletref01_bare.H (kFin ((regletref01_bare.G Try.prog).at (regletref01_bare.E k)) [.tmp 2] [.c false y9]) (unS regletref01_bare.j1_s y) := by rw [regletref01_bare.j1]; kernel_rfl
theorem regletref01_bare.l0_e (k : Nat) (y : denS regletref01_bare.l0_s) : regletref01_bare.l0 (k + 1) y.1 y.2.1 = evP ((regletref01_bare.G Try.prog).at (regletref01_bare.E k)) (fun i => (regletref01_bare.O k)[i]?) [1, 1, 0, 0, 0] (cd Try.f91) regletref01_bare.H (kFin ((regletref01_bare.G Try.prog).at (regletref01_bare.E k)) [.tmp 2] [.c false y9]) (unS regletref01_bare.l0_s y) := by rw [regletref01_bare.l0]; kernel_rfl
theorem regletref01_bare.j2_e (k : Nat) (y : denS regletref01_bare.j2_s) : regletref01_bare.j2 (k + 1) y.1 y.2.1 = evP ((regletref01_bare.G Try.prog).at (regletref01_bare.E k)) (fun i => (regletref01_bare.O k)[i]?) [1, 1, 1] (cd Try.f91) regletref01_bare.H (kFin ((regletref01_bare.G Try.prog).at (regletref01_bare.E k)) [.tmp 2] [.c false y9]) (unS regletref01_bare.j2_s y) := by rw [regletref01_bare.j2]; kernel_rfl
theorem regletref01_bare.go : goesTo Try.prog 91 := ⟨_, Try.func91, by kernel_rfl, rfl⟩
theorem regletref01_bare.ok (k : Nat) : SigOk Try.prog 91 (regletref01_bare.sig k) :=
  fn_p (G := regletref01_bare.G Try.prog) (c := cd Try.f91) (rs := [.tmp 2]) (args := [(false, y23)]) (l := [.c false y9]) (fn := Try.f91) ⟨Try.func91, by kernel_rfl, by kernel_rfl, by kernel_rfl, le_of rfl, le_of rfl, TT_ok, AD_ok⟩ rfl regletref01_bare.E (fun k p hp => nomatch hp)
    (fun k i => (regletref01_bare.O k)[i]?) regletref01_bare.H (fun k x => regletref01_bare.f k x.1)
    (fun id o y h => by
    have h' := List.mem_of_getElem? h
    simp only [regletref01_bare.O, List.mem_cons, List.not_mem_nil, or_false] at h'
    rcases h' with rfl | rfl | rfl <;> rfl)
    (fun k p hp => by
    rw [show pts (cd Try.f91) regletref01_bare.H = [(1, [1, 1, 0, 0, 0, 1]), (0, [1, 1, 0, 0, 0]), (2, [1, 1, 1])] by kernel_rfl] at hp
    simp only [List.mem_cons, List.not_mem_nil, or_false] at hp
    rcases hp with rfl | rfl | rfl
    · exact ptOk_of rfl (regletref01_bare.j1_e k)
    · exact ptOk_of rfl (regletref01_bare.l0_e k)
    · exact ptOk_of rfl (regletref01_bare.j2_e k))
    (fun k x => by kernel_rfl) k
/-! reglet/regletref01.Times -/
mutual
def regletref01_Times.l0 : Nat → (List Int) → (List Int) → (List Int) → Int → Option (List Int)
  | 0, _, _, _, _ => none
  | k + 1, t, t2, t3, t4 => if (decide (t4 < (t.length : Int))) = true then (regletref01_Times.l1 k t t2 t3 t4 0) else (regletref01_Times.l2 k t3 0)
def regletref01_Times.l1 : Nat → (List Int) → (List Int) → (List Int) → Int → Int → Option (List Int)
  | 0, _, _, _, _, _ => none
  | k + 1, t5, t6, t7, t8, t9 => if (decide (t9 < (t6.length : Int))) = true then (if 0 ≤ (wrap64 (t8 + t9)) ∧ (wrap64 (t8 + t9)) < (t7.length : Int) then ((t7[(wrap64 (t8 + t9)).toNat]?).bind fun e => (at? t5 t8).bind fun e2 => (at? t6 t9).bind fun e3 => if 0 ≤ (wrap64 (t8 + t9)) ∧ (wrap64 (t8 + t9)) < (t7.length : Int) then ((t7[(wrap64 (t8 + t9)).toNat]?).bind fun e4 => if 0 ≤ (wrap64 ((wrap64 (t8 + t9)) + 1)) ∧ (wrap64 ((wrap64 (t8 + t9)) + 1)) < ((t7.set ((wrap64 (t8 + t9)).toNat) (wrap64 (e + (wrap64 (e2 * e3))))).length : Int) then (((t7.set ((wrap64 (t8 + t9)).toNat) (wrap64 (e + (wrap64 (e2 * e3)))))[(wrap64 ((wrap64 (t8 + t9)) + 1)).toNat]?).bind fun e5 => if 0 ≤ (wrap64 (t8 + t9)) ∧ (wrap64 (t8 + t9)) < ((t7.set ((wrap64 (t8 + t9)).toNat) (wrap64 (e + (wrap64 (e2 * e3))))).length : Int) then (((t7.set ((wrap64 (t8 + t9)).toNat) (wrap64 (e + (wrap64 (e2 * e3)))))[(wrap64 (t8 + t9)).toNat]?).bind fun e6 => if 0 ≤ (wrap64 ((wrap64 (t8 + t9)) + 1)) ∧ (wrap64 ((wrap64 (t8 + t9)) + 1)) < ((t7.set ((wrap64 (t8 + t9)).toNat) (wrap64 (e + (wrap64 (e2 * e3))))).length : Int) then (((t7.set ((wrap64 (t8 + t9)).toNat) (wrap64 (e + (wrap64 (e2 * e3)))))[(wrap64 ((wrap64 (t8 + t9)) + 1)).toNat]?).bind fun e7 => if 0 ≤ (wrap64 (t8 + t9)) ∧ (wrap64 (t8 + t9)) < (((t7.set ((wrap64 (t8 + t9)).toNat) (wrap64 (e + (wrap64 (e2 * e3))))).set ((wrap64 ((wrap64 (t8 + t9)) + 1)).toNat) (wrap64 (e5 + (wrap64 (e6.tdiv 1000))))).length : Int) then ((((t7.set ((wrap64 (t8 + t9)).toNat) (wrap64 (e + (wrap64 (e2 * e3))))).set ((wrap64 ((wrap64 (t8 + t9)) + 1)).toNat) (wrap64 (e5 + (wrap64 (e6.tdiv 1000)))))[(wrap64 (t8 + t9)).toNat]?).bind fun e8 => if 0 ≤ (wrap64 (t8 + t9)) ∧ (wrap64 (t8 + t9)) < (((t7.set ((wrap64 (t8 + t9)).toNat) (wrap64 (e + (wrap64 (e2 * e3))))).set ((wrap64 ((wrap64 (t8 + t9)) + 1)).toNat) (wrap64 (e5 + (wrap64 (e6.tdiv 1000))))).length : Int) then ((((t7.set ((wrap64 (t8 + t9)).toNat) (wrap64 (e + (wrap64 (e2 * e3))))).set ((wrap64 ((wrap64 (t8 + t9)) + 1)).toNat) (wrap64 (e5 + (wrap64 (e6.tdiv 1000)))))[(wrap64 (t8 + t9)).toNat]?).bind fun e9 => regletref01_Times.l1 k t5 t6 (((t7.set ((wrap64 (t8 + t9)).toNat) (wrap64 (e + (wrap64 (e2 * e3))))).set ((wrap64 ((wrap64 (t8 + t9)) + 1)).toNat) (wrap64 (e5 + (wrap64 (e6.tdiv 1000))))).set ((wrap64 (t8 + t9)).toNat) (e8.tmod 1000)) t8 (wrap64 (t9 + 1))) else none) else none) else none) else none) else none) else none) else none) else (regletref01_Times.l0 k t5 t6 t7 (wrap64 (t8 + 1)))
def regletref01_Times.l2 : Nat → (List Int) → Int → Option (List Int)
  | 0, _, _ => none
  | k + 1, t10, t11 => if (decide ((wrap64 (t11 + 1)) < (t10.length : Int))) = true then (if 0 ≤ (wrap64 (t11 + 1)) ∧ (wrap64 (t11 + 1)) < (t10.length : Int) then ((t10[(wrap64 (t11 + 1)).toNat]?).bind fun e10 => if 0 ≤ t11 ∧ t11 < (t10.length : Int) then ((t10[t11.toNat]?).bind fun e11 => if 0 ≤ (wrap64 (t11 + 1)) ∧ (wrap64 (t11 + 1)) < (t10.length : Int) then ((t10[(wrap64 (t11 + 1)).toNat]?).bind fun e12 => if 0 ≤ t11 ∧ t11 < ((t10.set ((wrap64 (t11 + 1)).toNat) (wrap64 (e10 + (wrap64 (e11.tdiv 1000))))).length : Int) then (((t10.set ((wrap64 (t11 + 1)).toNat) (wrap64 (e10 + (wrap64 (e11.tdiv 1000)))))[t11.toNat]?).bind fun e13 => if 0 ≤ t11 ∧ t11 < ((t10.set ((wrap64 (t11 + 1)).toNat) (wrap64 (e10 + (wrap64 (e11.tdiv 1000))))).length : Int) then (((t10.set ((wrap64 (t11 + 1)).toNat) (wrap64 (e10 + (wrap64 (e11.tdiv 1000)))))[t11.toNat]?).bind fun e14 => regletref01_Times.l2 k ((t10.set ((wrap64 (t11 + 1)).toNat) (wrap64 (e10 + (wrap64 (e11.tdiv 1000))))).set t11.toNat (e13.tmod 1000)) (wrap64 (t11 + 1))) else none) else none) else none) else none) else none) else ((regletref01_bare.f k t10).bind fun r => some r)
end
def regletref01_Times.f (k : Nat) (a0 : List Int) (a1 : List Int) : Option (List Int) := if (wrap64 ((wrap64 ((a0.length : Int) + (a1.length : Int))) + 1)) = (wrap64 ((wrap64 ((a0.length : Int) + (a1.length : Int))) + 1)) ∧ 0 ≤ (wrap64 ((wrap64 ((a0.length : Int) + (a1.length : Int))) + 1)) ∧ (8 : Int) * (wrap64 ((wrap64 ((a0.length : Int) + (a1.length : Int))) + 1)) ≤ 281474976710656 then (regletref01_Times.l0 k a0 a1 (List.replicate ((wrap64 ((wrap64 ((a0.length : Int) + (a1.length : Int))) + 1)).toNat) 0 : List Int) 0) else none
def regletref01_Times.sig (k : Nat) : Sig := .p [(false, y23), (false, y23)] [.c false y9] fun x => regletref01_Times.f k x.1 x.2.1
def regletref01_Times.E (k : Nat) : List (Nat × Sig) := [(91, regletref01_bare.sig k)]
def regletref01_Times.G (P : Program) : GI := ⟨P, TT, 114, 114, [], [], [], [], [], AD⟩
def regletref01_Times.H : H := .s .n (.s .n (.s (.s .n (.s (.l 0 (.s .n (.s (.s (.s .n (.s (.l 1 .n) .n)) .n) .n))) .n)) (.s (.s .n (.s (.l 2 .n) .n)) .n)))
abbrev regletref01_Times.l0_s : Sh := [(0, .v y23), (1, .v y23), (5, .v y9), (6, .v (.i .i64))]
abbrev regletref01_Times.l1_s : Sh := [(0, .v y23), (1, .v y23), (5, .v y9), (6, .v (.i .i64)), (7, .v (.i .i64))]
abbrev regletref01_Times.l2_s : Sh := [(5, .v y9), (8, .v (.i .i64))]
def regletref01_Times.O (k : Nat) : List (Orc (denR [.c false y9])) := [⟨regletref01_Times.l0_s, fun y => regletref01_Times.l0 k y.1 y.2.1 y.2.2.1 y.2.2.2.1⟩, ⟨regletref01_Times.l1_s, fun y => regletref01_Times.l1 k y.1 y.2.1 y.2.2.1 y.2.2.2.1 y.2.2.2.2.1⟩, ⟨regletref01_Times.l2_s, fun y => regletref01_Times.l2 k y.1 y.2.1⟩]
theorem regletref01_Times.l1_e (k : Nat) (y : denS regletref01_Times.l1_s) : regletref01_Times.l1 (k + 1) y.1 y.2.1 y.2.2.1 y.2.2.2.1 y.2.2.2.2.1 = evP ((regletref01_Times.G Try.prog).at (regletref01_Times.E k)) (fun i => (regletref01_Times.O k)[i]?) [1, 1, 0, 1, 0, 0, 1, 0, 0, 1, 0, 0] (cd Try.f79) regletref01_Times.H (kFin ((regletref01_Times.G Try.prog).at (regletref01_Times.E k)) [.tmp 4] [.c false y9]) (unS regletref01_Times.l1_s y) := by rw [regletref01_Times.l1]; kernel_rfl
theorem regletref01_Times.l0_e (k : Nat) (y : denS regletref01_Times.l0_s) : regletref01_Times.l0 (k + 1) y.1 y.2.1 y.2.2.1 y.2.2.2.1 = evP ((regletref01_Times.G Try.prog).at (regletref01_Times.E k)) (fun i => (regletref01_Times.O k)[i]?) [1, 1, 0, 1, 0, 0] (cd Try.f79) regletref01_Times.H (kFin ((regletref01_Times.G Try.prog).at (regletref01_Times.E k)) [.tmp 4] [.c false y9]) (unS regletref01_Times.l0_s y) := by rw [regletref01_Times.l0]; kernel_rfl
theorem regletref01_Times.l2_e (k : Nat) (y : denS regletref01_Times.l2_s) : regletref01_Times.l2 (k + 1) y.1 y.2.1 = evP ((regletref01_Times.G Try.prog).at (regletref01_Times.E k)) (fun i => (regletref01_Times.O k)[i]?) [1, 1, 1, 0, 1, 0, 0] (cd Try.f79) regletref01_Times.H (kFin ((regletref01_Times.G Try.prog).at (regletref01_Times.E k)) [.tmp 4] [.c false y9]) (unS regletref01_Times.l2_s y) := by rw [regletref01_Times.l2]; kernel_rfl
theorem regletref01_Times.go : goesTo Try.prog 79 := ⟨_, Try.func79, by kernel_rfl, rfl⟩
theorem regletref01_Times.ok (k : Nat) : SigOk Try.prog 79 (regletref01_Times.sig k) :=
  fn_p (G := regletref01_Times.G Try.prog) (c := cd Try.f79) (rs := [.tmp 4]) (args := [(false, y23), (false, y23)]) (l := [.c false y9]) (fn := Try.f79) ⟨Try.func79, by kernel_rfl, by kernel_rfl, by kernel_rfl, le_of rfl, le_of rfl, TT_ok, AD_ok⟩ rfl regletref01_Times.E (fun k p hp => by
    simp only [regletref01_Times.E, List.mem_cons, List.not_mem_nil, or_false] at hp
    rcases hp with rfl
    · exact ⟨regletref01_bare.ok k, regletref01_bare.go⟩)
    (fun k i => (regletref01_Times.O k)[i]?) regletref01_Times.H (fun k x => regletref01_Times.f k x.1 x.2.1)
    (fun id o y h => by
    have h' := List.mem_of_getElem? h
    simp only [regletref01_Times.O, List.mem_cons, List.not_mem_nil, or_false] at h'
    rcases h' with rfl | rfl | rfl <;> rfl)
    (fun k p hp => by
    rw [show pts (cd Try.f79) regletref01_Times.H = [(1, [1, 1, 0, 1, 0, 0, 1, 0, 0, 1, 0, 0]), (0, [1, 1, 0, 1, 0, 0]), (2, [1, 1, 1, 0, 1, 0, 0])] by kernel_rfl] at hp
    simp only [List.mem_cons, List.not_mem_nil, or_false] at hp
    rcases hp with rfl | rfl | rfl
    · exact ptOk_of rfl (regletref01_Times.l1_e k)
    · exact ptOk_of rfl (regletref01_Times.l0_e k)
    · exact ptOk_of rfl (regletref01_Times.l2_e k))
    (fun k x => by kernel_rfl) k
/-! reglet/regletref01.Of -/
mutual
def regletref01_Of.j0 : Nat → Int → Option (List Int)
  | 0, _ => none
  | k + 1, a => regletref01_Of.l1 k a ([] : List Int)
def regletref01_Of.l1 : Nat → Int → (List Int) → Option (List Int)
  | 0, _, _ => none
  | k + 1, a2, out => if (decide (0 < a2)) = true then (if (out.length + ([a2.tmod 1000] : List Int).length) * 8 ≤ 140737488355328 then (regletref01_Of.l1 k (wrap64 (a2.tdiv 1000)) (out ++ ([a2.tmod 1000] : List Int))) else none) else (some out)
end
def regletref01_Of.f (k : Nat) (a0 : Int) : Option (List Int) := (regletref01_Clamp.f k a0).bind fun r => if (decide (r < 0)) = true then (regletref01_Of.j0 k (wrap64 (-r))) else (regletref01_Of.j0 k r)
def regletref01_Of.sig (k : Nat) : Sig := .p [(false, (.i .i64))] [.c false y9] fun x => regletref01_Of.f k x.1
def regletref01_Of.E (k : Nat) : List (Nat × Sig) := [(67, regletref01_Clamp.sig k)]
def regletref01_Of.G (P : Program) : GI := ⟨P, TT, 20, 20, [], [], [], [], [], AD⟩
def regletref01_Of.H : H := .s .n (.s .n (.j 0 .n (.s .n (.s (.s (.l 1 .n) .n) .n))))
abbrev regletref01_Of.j0_s : Sh := [(0, .v (.i .i64))]
abbrev regletref01_Of.l1_s : Sh := [(0, .v (.i .i64)), (3, .v y9)]
def regletref01_Of.O (k : Nat) : List (Orc (denR [.c false y9])) := [⟨regletref01_Of.j0_s, fun y => regletref01_Of.j0 k y.1⟩, ⟨regletref01_Of.l1_s, fun y => regletref01_Of.l1 k y.1 y.2.1⟩]
theorem regletref01_Of.l1_e (k : Nat) (y : denS regletref01_Of.l1_s) : regletref01_Of.l1 (k + 1) y.1 y.2.1 = evP ((regletref01_Of.G Try.prog).at (regletref01_Of.E k)) (fun i => (regletref01_Of.O k)[i]?) [1, 1, 1, 1, 0, 0, 0] (cd Try.f80) regletref01_Of.H (kFin ((regletref01_Of.G Try.prog).at (regletref01_Of.E k)) [.tmp 2] [.c false y9]) (unS regletref01_Of.l1_s y) := by rw [regletref01_Of.l1]; kernel_rfl
theorem regletref01_Of.j0_e (k : Nat) (y : denS regletref01_Of.j0_s) : regletref01_Of.j0 (k + 1) y.1 = evP ((regletref01_Of.G Try.prog).at (regletref01_Of.E k)) (fun i => (regletref01_Of.O k)[i]?) [1, 1, 1] (cd Try.f80) regletref01_Of.H (kFin ((regletref01_Of.G Try.prog).at (regletref01_Of.E k)) [.tmp 2] [.c false y9]) (unS regletref01_Of.j0_s y) := by rw [regletref01_Of.j0]; kernel_rfl
theorem regletref01_Of.go : goesTo Try.prog 80 := ⟨_, Try.func80, by kernel_rfl, rfl⟩
theorem regletref01_Of.ok (k : Nat) : SigOk Try.prog 80 (regletref01_Of.sig k) :=
  fn_p (G := regletref01_Of.G Try.prog) (c := cd Try.f80) (rs := [.tmp 2]) (args := [(false, (.i .i64))]) (l := [.c false y9]) (fn := Try.f80) ⟨Try.func80, by kernel_rfl, by kernel_rfl, by kernel_rfl, le_of rfl, le_of rfl, TT_ok, AD_ok⟩ rfl regletref01_Of.E (fun k p hp => by
    simp only [regletref01_Of.E, List.mem_cons, List.not_mem_nil, or_false] at hp
    rcases hp with rfl
    · exact ⟨regletref01_Clamp.ok k, regletref01_Clamp.go⟩)
    (fun k i => (regletref01_Of.O k)[i]?) regletref01_Of.H (fun k x => regletref01_Of.f k x.1)
    (fun id o y h => by
    have h' := List.mem_of_getElem? h
    simp only [regletref01_Of.O, List.mem_cons, List.not_mem_nil, or_false] at h'
    rcases h' with rfl | rfl <;> rfl)
    (fun k p hp => by
    rw [show pts (cd Try.f80) regletref01_Of.H = [(1, [1, 1, 1, 1, 0, 0, 0]), (0, [1, 1, 1])] by kernel_rfl] at hp
    simp only [List.mem_cons, List.not_mem_nil, or_false] at hp
    rcases hp with rfl | rfl
    · exact ptOk_of rfl (regletref01_Of.l1_e k)
    · exact ptOk_of rfl (regletref01_Of.j0_e k))
    (fun k x => by kernel_rfl) k
/-! reglet/regletref01.Compare -/
mutual
def regletref01_Compare.l0 : Nat → (List Int) → (List Int) → Int → Option Int
  | 0, _, _, _ => none
  | k + 1, a, b, i => if (decide (0 ≤ i)) = true then (if 0 ≤ i ∧ i < (a.length : Int) then ((a[i.toNat]?).bind fun e => if 0 ≤ i ∧ i < (b.length : Int) then ((b[i.toNat]?).bind fun e2 => if (decide (e < e2)) = true then (some (-1)) else (if 0 ≤ i ∧ i < (a.length : Int) then ((a[i.toNat]?).bind fun e3 => if 0 ≤ i ∧ i < (b.length : Int) then ((b[i.toNat]?).bind fun e4 => if (decide (e4 < e3)) = true then (some 1) else (regletref01_Compare.l0 k a b (wrap64 (i - 1)))) else none) else none)) else none) else none) else (some 0)
end
def regletref01_Compare.f (k : Nat) (a0 : List Int) (a1 : List Int) : Option Int := (regletref01_bare.f k a0).bind fun r => (regletref01_bare.f k a1).bind fun r2 => if (!decide ((r.length : Int) = (r2.length : Int))) = true then (if (decide ((r.length : Int) < (r2.length : Int))) = true then (some (-1)) else (some 1)) else (regletref01_Compare.l0 k r r2 (wrap64 ((r.length : Int) - 1)))
def regletref01_Compare.sig (k : Nat) : Sig := .p [(false, y23), (false, y23)] [.c false (.i .i64)] fun x => regletref01_Compare.f k x.1 x.2.1
def regletref01_Compare.E (k : Nat) : List (Nat × Sig) := [(91, regletref01_bare.sig k)]
def regletref01_Compare.G (P : Program) : GI := ⟨P, TT, 45, 45, [], [], [], [], [], AD⟩
def regletref01_Compare.H : H := .s .n (.s .n (.s .n (.s (.s .n (.s (.l 0 .n) .n)) .n)))
abbrev regletref01_Compare.l0_s : Sh := [(0, .v y9), (1, .v y9), (5, .v (.i .i64))]
def regletref01_Compare.O (k : Nat) : List (Orc (denR [.c false (.i .i64)])) := [⟨regletref01_Compare.l0_s, fun y => regletref01_Compare.l0 k y.1 y.2.1 y.2.2.1⟩]
theorem regletref01_Compare.l0_e (k : Nat) (y : denS regletref01_Compare.l0_s) : regletref01_Compare.l0 (k + 1) y.1 y.2.1 y.2.2.1 = evP ((regletref01_Compare.G Try.prog).at (regletref01_Compare.E k)) (fun i => (regletref01_Compare.O k)[i]?) [1, 1, 1, 0, 1, 0, 0] (cd Try.f81) regletref01_Compare.H (kFin ((regletref01_Compare.G Try.prog).at (regletref01_Compare.E k)) [.tmp 4] [.c false (.i .i64)]) (unS regletref01_Compare.l0_s y) := by rw [regletref01_Compare.l0]; kernel_rfl
theorem regletref01_Compare.go : goesTo Try.prog 81 := ⟨_, Try.func81, by kernel_rfl, rfl⟩
theorem regletref01_Compare.ok (k : Nat) : SigOk Try.prog 81 (regletref01_Compare.sig k) :=
  fn_p (G := regletref01_Compare.G Try.prog) (c := cd Try.f81) (rs := [.tmp 4]) (args := [(false, y23), (false, y23)]) (l := [.c false (.i .i64)]) (fn := Try.f81) ⟨Try.func81, by kernel_rfl, by kernel_rfl, by kernel_rfl, le_of rfl, le_of rfl, TT_ok, AD_ok⟩ rfl regletref01_Compare.E (fun k p hp => by
    simp only [regletref01_Compare.E, List.mem_cons, List.not_mem_nil, or_false] at hp
    rcases hp with rfl
    · exact ⟨regletref01_bare.ok k, regletref01_bare.go⟩)
    (fun k i => (regletref01_Compare.O k)[i]?) regletref01_Compare.H (fun k x => regletref01_Compare.f k x.1 x.2.1)
    (fun id o y h => by
    have h' := List.mem_of_getElem? h
    simp only [regletref01_Compare.O, List.mem_cons, List.not_mem_nil, or_false] at h'
    rcases h' with rfl <;> rfl)
    (fun k p hp => by
    rw [show pts (cd Try.f81) regletref01_Compare.H = [(0, [1, 1, 1, 0, 1, 0, 0])] by kernel_rfl] at hp
    simp only [List.mem_cons, List.not_mem_nil, or_false] at hp
    rcases hp with rfl
    · exact ptOk_of rfl (regletref01_Compare.l0_e k))
    (fun k x => by kernel_rfl) k
/-! reglet/regletref01.Quotient -/
mutual
def regletref01_Quotient.l0 : Nat → (List Int) → (List Int) → Int → Int → Option (Int × Bool)
  | 0, _, _, _, _ => none
  | k + 1, a, b, low, high => if (decide (low < high)) = true then ((regletref01_Of.f k (wrap64 (low + (wrap64 ((wrap64 ((wrap64 (high - low)) + 1)).tdiv 2))))).bind fun r => (regletref01_Times.f k r b).bind fun r2 => (regletref01_Compare.f k r2 a).bind fun r3 => if (decide (r3 ≤ 0)) = true then (regletref01_Quotient.l0 k a b (wrap64 (low + (wrap64 ((wrap64 ((wrap64 (high - low)) + 1)).tdiv 2)))) high) else (regletref01_Quotient.l0 k a b low (wrap64 ((wrap64 (low + (wrap64 ((wrap64 ((wrap64 (high - low)) + 1)).tdiv 2)))) - 1)))) else ((regletref01_Of.f k low).bind fun r4 => (regletref01_Times.f k r4 b).bind fun r5 => (regletref01_Compare.f k r5 a).bind fun r6 => some (low, decide (r6 = 0)))
end
def regletref01_Quotient.f (k : Nat) (a0 : List Int) (a1 : List Int) : Option (Int × Bool) := regletref01_Quotient.l0 k a0 a1 0 1152921504606846976
def regletref01_Quotient.sig (k : Nat) : Sig := .p [(false, y23), (false, y23)] [.c false (.i .i64), .c false .b] fun x => regletref01_Quotient.f k x.1 x.2.1
def regletref01_Quotient.E (k : Nat) : List (Nat × Sig) := [(79, regletref01_Times.sig k), (80, regletref01_Of.sig k), (81, regletref01_Compare.sig k)]
def regletref01_Quotient.G (P : Program) : GI := ⟨P, TT, 37, 37, [], [], [], [], [], AD⟩
def regletref01_Quotient.H : H := .s .n (.s .n (.s (.s (.l 0 .n) .n) .n))
abbrev regletref01_Quotient.l0_s : Sh := [(0, .v y23), (1, .v y23), (6, .v (.i .i64)), (7, .v (.i .i64))]
def regletref01_Quotient.O (k : Nat) : List (Orc (denR [.c false (.i .i64), .c false .b])) := [⟨regletref01_Quotient.l0_s, fun y => regletref01_Quotient.l0 k y.1 y.2.1 y.2.2.1 y.2.2.2.1⟩]
theorem regletref01_Quotient.l0_e (k : Nat) (y : denS regletref01_Quotient.l0_s) : regletref01_Quotient.l0 (k + 1) y.1 y.2.1 y.2.2.1 y.2.2.2.1 = evP ((regletref01_Quotient.G Try.prog).at (regletref01_Quotient.E k)) (fun i => (regletref01_Quotient.O k)[i]?) [1, 1, 0, 0, 0] (cd Try.f82) regletref01_Quotient.H (kFin ((regletref01_Quotient.G Try.prog).at (regletref01_Quotient.E k)) [.tmp 4, .tmp 5] [.c false (.i .i64), .c false .b]) (unS regletref01_Quotient.l0_s y) := by rw [regletref01_Quotient.l0]; kernel_rfl
theorem regletref01_Quotient.go : goesTo Try.prog 82 := ⟨_, Try.func82, by kernel_rfl, rfl⟩
theorem regletref01_Quotient.ok (k : Nat) : SigOk Try.prog 82 (regletref01_Quotient.sig k) :=
  fn_p (G := regletref01_Quotient.G Try.prog) (c := cd Try.f82) (rs := [.tmp 4, .tmp 5]) (args := [(false, y23), (false, y23)]) (l := [.c false (.i .i64), .c false .b]) (fn := Try.f82) ⟨Try.func82, by kernel_rfl, by kernel_rfl, by kernel_rfl, le_of rfl, le_of rfl, TT_ok, AD_ok⟩ rfl regletref01_Quotient.E (fun k p hp => by
    simp only [regletref01_Quotient.E, List.mem_cons, List.not_mem_nil, or_false] at hp
    rcases hp with rfl | rfl | rfl
    · exact ⟨regletref01_Times.ok k, regletref01_Times.go⟩
    · exact ⟨regletref01_Of.ok k, regletref01_Of.go⟩
    · exact ⟨regletref01_Compare.ok k, regletref01_Compare.go⟩)
    (fun k i => (regletref01_Quotient.O k)[i]?) regletref01_Quotient.H (fun k x => regletref01_Quotient.f k x.1 x.2.1)
    (fun id o y h => by
    have h' := List.mem_of_getElem? h
    simp only [regletref01_Quotient.O, List.mem_cons, List.not_mem_nil, or_false] at h'
    rcases h' with rfl <;> rfl)
    (fun k p hp => by
    rw [show pts (cd Try.f82) regletref01_Quotient.H = [(0, [1, 1, 0, 0, 0])] by kernel_rfl] at hp
    simp only [List.mem_cons, List.not_mem_nil, or_false] at hp
    rcases hp with rfl
    · exact ptOk_of rfl (regletref01_Quotient.l0_e k))
    (fun k x => by kernel_rfl) k
/-! reglet/regletref01.Bad -/
def regletref01_Bad.f (k : Nat) (a0 : Int) (a1 : Int) : Option Int := (regletref01_Clamp.f k a0).bind fun r => (regletref01_Clamp.f k a1).bind fun r2 => if (decide (r ≤ 0)) = true then (some 0) else (if (decide (r2 ≤ 0)) = true then (some 10000) else ((regletref01_Of.f k r).bind fun r3 => (regletref01_Of.f k r).bind fun r4 => (regletref01_Times.f k r3 r4).bind fun r5 => (regletref01_Of.f k r).bind fun r6 => (regletref01_Times.f k r5 r6).bind fun r7 => (regletref01_Of.f k 100).bind fun r8 => (regletref01_Times.f k r7 r8).bind fun r9 => (regletref01_Of.f k r2).bind fun r10 => (regletref01_Of.f k r2).bind fun r11 => (regletref01_Times.f k r10 r11).bind fun r12 => (regletref01_Of.f k r2).bind fun r13 => (regletref01_Times.f k r12 r13).bind fun r14 => (regletref01_Of.f k 10000).bind fun r15 => (regletref01_Times.f k r14 r15).bind fun r16 => (regletref01_Compare.f k r16 r9).bind fun r17 => if (decide (r17 ≤ 0)) = true then (some 10000) else ((regletref01_Quotient.f k r9 r14).bind fun r18 => some r18.1)))
def regletref01_Bad.sig (k : Nat) : Sig := .p [(false, (.i .i64)), (false, (.i .i64))] [.c false (.i .i64)] fun x => regletref01_Bad.f k x.1 x.2.1
def regletref01_Bad.E (k : Nat) : List (Nat × Sig) := [(67, regletref01_Clamp.sig k), (79, regletref01_Times.sig k), (80, regletref01_Of.sig k), (81, regletref01_Compare.sig k), (82, regletref01_Quotient.sig k)]
def regletref01_Bad.G (P : Program) : GI := ⟨P, TT, 48, 48, [], [], [], [], [], AD⟩
def regletref01_Bad.H : H := .n
def regletref01_Bad.O (k : Nat) : List (Orc (denR [.c false (.i .i64)])) := []
theorem regletref01_Bad.go : goesTo Try.prog 68 := ⟨_, Try.func68, by kernel_rfl, rfl⟩
theorem regletref01_Bad.ok (k : Nat) : SigOk Try.prog 68 (regletref01_Bad.sig k) :=
  fn_p (G := regletref01_Bad.G Try.prog) (c := cd Try.f68) (rs := [.tmp 4]) (args := [(false, (.i .i64)), (false, (.i .i64))]) (l := [.c false (.i .i64)]) (fn := Try.f68) ⟨Try.func68, by kernel_rfl, by kernel_rfl, by kernel_rfl, le_of rfl, le_of rfl, TT_ok, AD_ok⟩ rfl regletref01_Bad.E (fun k p hp => by
    simp only [regletref01_Bad.E, List.mem_cons, List.not_mem_nil, or_false] at hp
    rcases hp with rfl | rfl | rfl | rfl | rfl
    · exact ⟨regletref01_Clamp.ok k, regletref01_Clamp.go⟩
    · exact ⟨regletref01_Times.ok k, regletref01_Times.go⟩
    · exact ⟨regletref01_Of.ok k, regletref01_Of.go⟩
    · exact ⟨regletref01_Compare.ok k, regletref01_Compare.go⟩
    · exact ⟨regletref01_Quotient.ok k, regletref01_Quotient.go⟩)
    (fun k i => (regletref01_Bad.O k)[i]?) regletref01_Bad.H (fun k x => regletref01_Bad.f k x.1 x.2.1)
    (fun id o y h => by cases id <;> cases h)
    (fun k p hp => by rw [show pts (cd Try.f68) regletref01_Bad.H = [] by kernel_rfl] at hp; nomatch hp)
    (fun k x => by kernel_rfl) k
/-! reglet/regletref01.Gcd -/
mutual
def regletref01_Gcd.j0 : Nat → Int → Int → Option Int
  | 0, _, _ => none
  | k + 1, a, b => if (decide (b < 0)) = true then (regletref01_Gcd.j1 k a (wrap64 (-b))) else (regletref01_Gcd.j1 k a b)
def regletref01_Gcd.j1 : Nat → Int → Int → Option Int
  | 0, _, _ => none
  | k + 1, a2, b2 => regletref01_Gcd.l2 k a2 b2
def regletref01_Gcd.l2 : Nat → Int → Int → Option Int
  | 0, _, _ => none
  | k + 1, a3, b3 => if (!decide (b3 = 0)) = true then (if b3 ≠ 0 then (regletref01_Gcd.l2 k b3 (a3.tmod b3)) else none) else (some a3)
end
def regletref01_Gcd.f (k : Nat) (a0 : Int) (a1 : Int) : Option Int := (regletref01_Clamp.f k a0).bind fun r => (regletref01_Clamp.f k a1).bind fun r2 => if (decide (r < 0)) = true then (regletref01_Gcd.j0 k (wrap64 (-r)) r2) else (regletref01_Gcd.j0 k r r2)
def regletref01_Gcd.sig (k : Nat) : Sig := .p [(false, (.i .i64)), (false, (.i .i64))] [.c false (.i .i64)] fun x => regletref01_Gcd.f k x.1 x.2.1
def regletref01_Gcd.E (k : Nat) : List (Nat × Sig) := [(67, regletref01_Clamp.sig k)]
def regletref01_Gcd.G (P : Program) : GI := ⟨P, TT, 24, 24, [], [], [], [], [], AD⟩
def regletref01_Gcd.H : H := .s .n (.s .n (.j 0 .n (.j 1 .n (.s (.s (.l 2 .n) .n) .n))))
abbrev regletref01_Gcd.j0_s : Sh := [(0, .v (.i .i64)), (1, .v (.i .i64))]
abbrev regletref01_Gcd.j1_s : Sh := [(0, .v (.i .i64)), (1, .v (.i .i64))]
abbrev regletref01_Gcd.l2_s : Sh := [(0, .v (.i .i64)), (1, .v (.i .i64))]
def regletref01_Gcd.O (k : Nat) : List (Orc (denR [.c false (.i .i64)])) := [⟨regletref01_Gcd.j0_s, fun y => regletref01_Gcd.j0 k y.1 y.2.1⟩, ⟨regletref01_Gcd.j1_s, fun y => regletref01_Gcd.j1 k y.1 y.2.1⟩, ⟨regletref01_Gcd.l2_s, fun y => regletref01_Gcd.l2 k y.1 y.2.1⟩]
theorem regletref01_Gcd.l2_e (k : Nat) (y : denS regletref01_Gcd.l2_s) : regletref01_Gcd.l2 (k + 1) y.1 y.2.1 = evP ((regletref01_Gcd.G Try.prog).at (regletref01_Gcd.E k)) (fun i => (regletref01_Gcd.O k)[i]?) [1, 1, 1, 1, 0, 0, 0] (cd Try.f83) regletref01_Gcd.H (kFin ((regletref01_Gcd.G Try.prog).at (regletref01_Gcd.E k)) [.tmp 4] [.c false (.i .i64)]) (unS regletref01_Gcd.l2_s y) := by rw [regletref01_Gcd.l2]; kernel_rfl
theorem regletref01_Gcd.j1_e (k : Nat) (y : denS regletref01_Gcd.j1_s) : regletref01_Gcd.j1 (k + 1) y.1 y.2.1 = evP ((regletref01_Gcd.G Try.prog).at (regletref01_Gcd.E k)) (fun i => (regletref01_Gcd.O k)[i]?) [1, 1, 1, 1] (cd Try.f83) regletref01_Gcd.H (kFin ((regletref01_Gcd.G Try.prog).at (regletref01_Gcd.E k)) [.tmp 4] [.c false (.i .i64)]) (unS regletref01_Gcd.j1_s y) := by rw [regletref01_Gcd.j1]; kernel_rfl
theorem regletref01_Gcd.j0_e (k : Nat) (y : denS regletref01_Gcd.j0_s) : regletref01_Gcd.j0 (k + 1) y.1 y.2.1 = evP ((regletref01_Gcd.G Try.prog).at (regletref01_Gcd.E k)) (fun i => (regletref01_Gcd.O k)[i]?) [1, 1, 1] (cd Try.f83) regletref01_Gcd.H (kFin ((regletref01_Gcd.G Try.prog).at (regletref01_Gcd.E k)) [.tmp 4] [.c false (.i .i64)]) (unS regletref01_Gcd.j0_s y) := by rw [regletref01_Gcd.j0]; kernel_rfl
theorem regletref01_Gcd.go : goesTo Try.prog 83 := ⟨_, Try.func83, by kernel_rfl, rfl⟩
theorem regletref01_Gcd.ok (k : Nat) : SigOk Try.prog 83 (regletref01_Gcd.sig k) :=
  fn_p (G := regletref01_Gcd.G Try.prog) (c := cd Try.f83) (rs := [.tmp 4]) (args := [(false, (.i .i64)), (false, (.i .i64))]) (l := [.c false (.i .i64)]) (fn := Try.f83) ⟨Try.func83, by kernel_rfl, by kernel_rfl, by kernel_rfl, le_of rfl, le_of rfl, TT_ok, AD_ok⟩ rfl regletref01_Gcd.E (fun k p hp => by
    simp only [regletref01_Gcd.E, List.mem_cons, List.not_mem_nil, or_false] at hp
    rcases hp with rfl
    · exact ⟨regletref01_Clamp.ok k, regletref01_Clamp.go⟩)
    (fun k i => (regletref01_Gcd.O k)[i]?) regletref01_Gcd.H (fun k x => regletref01_Gcd.f k x.1 x.2.1)
    (fun id o y h => by
    have h' := List.mem_of_getElem? h
    simp only [regletref01_Gcd.O, List.mem_cons, List.not_mem_nil, or_false] at h'
    rcases h' with rfl | rfl | rfl <;> rfl)
    (fun k p hp => by
    rw [show pts (cd Try.f83) regletref01_Gcd.H = [(2, [1, 1, 1, 1, 0, 0, 0]), (1, [1, 1, 1, 1]), (0, [1, 1, 1])] by kernel_rfl] at hp
    simp only [List.mem_cons, List.not_mem_nil, or_false] at hp
    rcases hp with rfl | rfl | rfl
    · exact ptOk_of rfl (regletref01_Gcd.l2_e k)
    · exact ptOk_of rfl (regletref01_Gcd.j1_e k)
    · exact ptOk_of rfl (regletref01_Gcd.j0_e k))
    (fun k x => by kernel_rfl) k
/-! reglet/regletref01.Lowest -/
mutual
def regletref01_Lowest.j0 : Nat → Int → Int → Int → Option (Int × Int)
  | 0, _, _, _ => none
  | k + 1, a, b, g => if g ≠ 0 then (if g ≠ 0 then (some (wrap64 (a.tdiv g), wrap64 (b.tdiv g))) else none) else none
end
def regletref01_Lowest.f (k : Nat) (a0 : Int) (a1 : Int) : Option (Int × Int) := (regletref01_Clamp.f k a0).bind fun r => (regletref01_Clamp.f k a1).bind fun r2 => if (decide (r2 = 0)) = true then (some (0, 1)) else ((regletref01_Gcd.f k r r2).bind fun r3 => if (decide (r2 < 0)) = true then (regletref01_Lowest.j0 k r r2 (wrap64 (-r3))) else (regletref01_Lowest.j0 k r r2 r3))
def regletref01_Lowest.sig (k : Nat) : Sig := .p [(false, (.i .i64)), (false, (.i .i64))] [.c false (.i .i64), .c false (.i .i64)] fun x => regletref01_Lowest.f k x.1 x.2.1
def regletref01_Lowest.E (k : Nat) : List (Nat × Sig) := [(67, regletref01_Clamp.sig k), (83, regletref01_Gcd.sig k)]
def regletref01_Lowest.G (P : Program) : GI := ⟨P, TT, 26, 26, [], [], [], [], [], AD⟩
def regletref01_Lowest.H : H := .s .n (.s .n (.s .n (.s .n (.j 0 .n .n))))
abbrev regletref01_Lowest.j0_s : Sh := [(0, .v (.i .i64)), (1, .v (.i .i64)), (6, .v (.i .i64))]
def regletref01_Lowest.O (k : Nat) : List (Orc (denR [.c false (.i .i64), .c false (.i .i64)])) := [⟨regletref01_Lowest.j0_s, fun y => regletref01_Lowest.j0 k y.1 y.2.1 y.2.2.1⟩]
theorem regletref01_Lowest.j0_e (k : Nat) (y : denS regletref01_Lowest.j0_s) : regletref01_Lowest.j0 (k + 1) y.1 y.2.1 y.2.2.1 = evP ((regletref01_Lowest.G Try.prog).at (regletref01_Lowest.E k)) (fun i => (regletref01_Lowest.O k)[i]?) [1, 1, 1, 1, 1] (cd Try.f69) regletref01_Lowest.H (kFin ((regletref01_Lowest.G Try.prog).at (regletref01_Lowest.E k)) [.tmp 4, .tmp 5] [.c false (.i .i64), .c false (.i .i64)]) (unS regletref01_Lowest.j0_s y) := by rw [regletref01_Lowest.j0]; kernel_rfl
theorem regletref01_Lowest.go : goesTo Try.prog 69 := ⟨_, Try.func69, by kernel_rfl, rfl⟩
theorem regletref01_Lowest.ok (k : Nat) : SigOk Try.prog 69 (regletref01_Lowest.sig k) :=
  fn_p (G := regletref01_Lowest.G Try.prog) (c := cd Try.f69) (rs := [.tmp 4, .tmp 5]) (args := [(false, (.i .i64)), (false, (.i .i64))]) (l := [.c false (.i .i64), .c false (.i .i64)]) (fn := Try.f69) ⟨Try.func69, by kernel_rfl, by kernel_rfl, by kernel_rfl, le_of rfl, le_of rfl, TT_ok, AD_ok⟩ rfl regletref01_Lowest.E (fun k p hp => by
    simp only [regletref01_Lowest.E, List.mem_cons, List.not_mem_nil, or_false] at hp
    rcases hp with rfl | rfl
    · exact ⟨regletref01_Clamp.ok k, regletref01_Clamp.go⟩
    · exact ⟨regletref01_Gcd.ok k, regletref01_Gcd.go⟩)
    (fun k i => (regletref01_Lowest.O k)[i]?) regletref01_Lowest.H (fun k x => regletref01_Lowest.f k x.1 x.2.1)
    (fun id o y h => by
    have h' := List.mem_of_getElem? h
    simp only [regletref01_Lowest.O, List.mem_cons, List.not_mem_nil, or_false] at h'
    rcases h' with rfl <;> rfl)
    (fun k p hp => by
    rw [show pts (cd Try.f69) regletref01_Lowest.H = [(0, [1, 1, 1, 1, 1])] by kernel_rfl] at hp
    simp only [List.mem_cons, List.not_mem_nil, or_false] at hp
    rcases hp with rfl
    · exact ptOk_of rfl (regletref01_Lowest.j0_e k))
    (fun k x => by kernel_rfl) k
/-! reglet/regletref08.class -/
def regletref08_class.f (k : Nat) (a0 : Int) (a1 : Bool) : Option Int := if (decide (a0 ≤ 12)) = true then (some 1) else (if (!a1) = true then (some 0) else (if (decide (99 < a0)) = true then (some 3) else (some 2)))
def regletref08_class.sig (k : Nat) : Sig := .p [(false, (.i .i64)), (false, .b)] [.c false (.i .i64)] fun x => regletref08_class.f k x.1 x.2.1
def regletref08_class.E (k : Nat) : List (Nat × Sig) := []
def regletref08_class.G (P : Program) : GI := ⟨P, TT, 11, 11, [], [], [], [], [], AD⟩
def regletref08_class.H : H := .n
def regletref08_class.O (k : Nat) : List (Orc (denR [.c false (.i .i64)])) := []
theorem regletref08_class.go : goesTo Try.prog 70 := ⟨_, Try.func70, by kernel_rfl, rfl⟩
theorem regletref08_class.ok (k : Nat) : SigOk Try.prog 70 (regletref08_class.sig k) :=
  fn_p (G := regletref08_class.G Try.prog) (c := cd Try.f70) (rs := [.tmp 4]) (args := [(false, (.i .i64)), (false, .b)]) (l := [.c false (.i .i64)]) (fn := Try.f70) ⟨Try.func70, by kernel_rfl, by kernel_rfl, by kernel_rfl, le_of rfl, le_of rfl, TT_ok, AD_ok⟩ rfl regletref08_class.E (fun k p hp => nomatch hp)
    (fun k i => (regletref08_class.O k)[i]?) regletref08_class.H (fun k x => regletref08_class.f k x.1 x.2.1)
    (fun id o y h => by cases id <;> cases h)
    (fun k p hp => by rw [show pts (cd Try.f70) regletref08_class.H = [] by kernel_rfl] at hp; nomatch hp)
    (fun k x => by kernel_rfl) k
/-! reglet/regletref08.Set -/
mutual
def regletref08_Set.j0 : Nat → Int → regletref08_Sum → api_Fit → Option api_Fit
  | 0, _, _, _ => none
  | k + 1, t, t2, t3 => if (decide (0 < t)) = true then ((regletref01_Bad.f k t t2.2.1).bind fun r => (regletref01_Lowest.f k t t2.2.1).bind fun r2 => (regletref08_class.f k r true).bind fun r3 => some (r2.1, r2.2, r, r3, (false))) else ((regletref01_Bad.f k (wrap64 (-t)) t2.2.2.1).bind fun r4 => (regletref01_Lowest.f k t t2.2.2.1).bind fun r5 => (regletref08_class.f k r4 false).bind fun r6 => if (decide (t2.2.2.1 < (wrap64 (-t)))) = true then (if (decide (0 < t2.2.2.1)) = true then (some ((-1), 1, 10000, 0, (true))) else (some (0, 1, 10000, 0, (true)))) else (some (r5.1, r5.2, r4, r6, (false))))
end
def regletref08_Set.f (k : Nat) (a0 : regletref08_Sum) (a1 : Int) : Option api_Fit := if (decide ((wrap64 (a1 - a0.1)) = 0)) = true then (some (0, 1, 0, 1, (false))) else (if (decide (0 < (wrap64 (a1 - a0.1)))) = true then (if (decide (0 < a0.2.2.2)) = true then (some (0, 1, 0, 1, (false))) else (regletref08_Set.j0 k (wrap64 (a1 - a0.1)) a0 (0, 0, 0, 0, (false)))) else (regletref08_Set.j0 k (wrap64 (a1 - a0.1)) a0 (0, 0, 0, 0, (false))))
def regletref08_Set.sig (k : Nat) : Sig := .p [(true, y19), (false, (.i .i64))] [.c true y60] fun x => regletref08_Set.f k x.1 x.2.1
def regletref08_Set.E (k : Nat) : List (Nat × Sig) := [(68, regletref01_Bad.sig k), (69, regletref01_Lowest.sig k), (70, regletref08_class.sig k)]
def regletref08_Set.G (P : Program) : GI := ⟨P, TT, 74, 88, [(2, 74, 4), (4, 78, 5), (6, 83, 5)], [], [], [], [], AD⟩
def regletref08_Set.H : H := .s .n (.s .n (.j 0 .n .n))
abbrev regletref08_Set.j0_s : Sh := [(2, .at_ 74), (4, .at_ 78), (5, .v (.i .i64)), (74, .box y19), (78, .box y60)]
def regletref08_Set.O (k : Nat) : List (Orc (denR [.c true y60])) := [⟨regletref08_Set.j0_s, fun y => regletref08_Set.j0 k y.2.2.1 y.2.2.2.1 y.2.2.2.2.1⟩]
theorem regletref08_Set.j0_e (k : Nat) (y : denS regletref08_Set.j0_s) : regletref08_Set.j0 (k + 1) y.2.2.1 y.2.2.2.1 y.2.2.2.2.1 = evP ((regletref08_Set.G Try.prog).at (regletref08_Set.E k)) (fun i => (regletref08_Set.O k)[i]?) [1, 1, 1] (cd Try.f57) regletref08_Set.H (kFin ((regletref08_Set.G Try.prog).at (regletref08_Set.E k)) [.cell 4 77] [.c true y60]) (unS regletref08_Set.j0_s y) := by rw [regletref08_Set.j0]; kernel_rfl
theorem regletref08_Set.go : goesTo Try.prog 57 := ⟨_, Try.func57, by kernel_rfl, rfl⟩
theorem regletref08_Set.ok (k : Nat) : SigOk Try.prog 57 (regletref08_Set.sig k) :=
  fn_p (G := regletref08_Set.G Try.prog) (c := cd Try.f57) (rs := [.cell 4 77]) (args := [(true, y19), (false, (.i .i64))]) (l := [.c true y60]) (fn := Try.f57) ⟨Try.func57, by kernel_rfl, by kernel_rfl, by kernel_rfl, le_of rfl, le_of rfl, TT_ok, AD_ok⟩ rfl regletref08_Set.E (fun k p hp => by
    simp only [regletref08_Set.E, List.mem_cons, List.not_mem_nil, or_false] at hp
    rcases hp with rfl | rfl | rfl
    · exact ⟨regletref01_Bad.ok k, regletref01_Bad.go⟩
    · exact ⟨regletref01_Lowest.ok k, regletref01_Lowest.go⟩
    · exact ⟨regletref08_class.ok k, regletref08_class.go⟩)
    (fun k i => (regletref08_Set.O k)[i]?) regletref08_Set.H (fun k x => regletref08_Set.f k x.1 x.2.1)
    (fun id o y h => by
    have h' := List.mem_of_getElem? h
    simp only [regletref08_Set.O, List.mem_cons, List.not_mem_nil, or_false] at h'
    rcases h' with rfl <;> rfl)
    (fun k p hp => by
    rw [show pts (cd Try.f57) regletref08_Set.H = [(0, [1, 1, 1])] by kernel_rfl] at hp
    simp only [List.mem_cons, List.not_mem_nil, or_false] at hp
    rcases hp with rfl
    · exact ptOk_of rfl (regletref08_Set.j0_e k))
    (fun k x => by kernel_rfl) k
/-! reglet/regletref08.Start -/
mutual
def regletref08_Start.l0 : Nat → (List api_Item) → Int → Int → Option Int
  | 0, _, _, _ => none
  | k + 1, l, a, k_ => if (decide (k_ < (l.length : Int))) = true then (if (decide (a < k_)) = true then ((at? l k_).bind fun e => if (decide (e.1 = 1)) = true then (some k_) else ((at? l k_).bind fun e2 => (regletref07_Forced.f k e2).bind fun r => if r = true then (some k_) else ((at? l k_).bind fun e3 => if (decide (e3.1 = 2)) = true then ((at? l k_).bind fun e4 => if e4.2.2.2.2.1 = true then (some k_) else (regletref08_Start.j1 k l a k_)) else (regletref08_Start.j1 k l a k_)))) else (regletref08_Start.j1 k l a k_)) else (some (l.length : Int))
def regletref08_Start.j1 : Nat → (List api_Item) → Int → Int → Option Int
  | 0, _, _, _ => none
  | k + 1, l2, a2, k_2 => regletref08_Start.l0 k l2 a2 (wrap64 (k_2 + 1))
end
def regletref08_Start.f (k : Nat) (a0 : List api_Item) (a1 : Int) : Option Int := if (decide (a1 < 0)) = true then (some 0) else (regletref08_Start.l0 k a0 a1 a1)
def regletref08_Start.sig (k : Nat) : Sig := .p [(false, y8), (false, (.i .i64))] [.c false (.i .i64)] fun x => regletref08_Start.f k x.1 x.2.1
def regletref08_Start.E (k : Nat) : List (Nat × Sig) := [(21, regletref07_Forced.sig k)]
def regletref08_Start.G (P : Program) : GI := ⟨P, TT, 51, 51, [], [], [], [], [], AD⟩
def regletref08_Start.H : H := .s .n (.s .n (.s (.s .n (.s (.l 0 (.s .n (.j 1 .n .n))) .n)) .n))
abbrev regletref08_Start.l0_s : Sh := [(0, .v y8), (1, .v (.i .i64)), (5, .v (.i .i64))]
abbrev regletref08_Start.j1_s : Sh := [(0, .v y8), (1, .v (.i .i64)), (5, .v (.i .i64))]
def regletref08_Start.O (k : Nat) : List (Orc (denR [.c false (.i .i64)])) := [⟨regletref08_Start.l0_s, fun y => regletref08_Start.l0 k y.1 y.2.1 y.2.2.1⟩, ⟨regletref08_Start.j1_s, fun y => regletref08_Start.j1 k y.1 y.2.1 y.2.2.1⟩]
theorem regletref08_Start.j1_e (k : Nat) (y : denS regletref08_Start.j1_s) : regletref08_Start.j1 (k + 1) y.1 y.2.1 y.2.2.1 = evP ((regletref08_Start.G Try.prog).at (regletref08_Start.E k)) (fun i => (regletref08_Start.O k)[i]?) [1, 1, 0, 1, 0, 0, 1, 1] (cd Try.f84) regletref08_Start.H (kFin ((regletref08_Start.G Try.prog).at (regletref08_Start.E k)) [.tmp 4] [.c false (.i .i64)]) (unS regletref08_Start.j1_s y) := by rw [regletref08_Start.j1]; kernel_rfl
theorem regletref08_Start.l0_e (k : Nat) (y : denS regletref08_Start.l0_s) : regletref08_Start.l0 (k + 1) y.1 y.2.1 y.2.2.1 = evP ((regletref08_Start.G Try.prog).at (regletref08_Start.E k)) (fun i => (regletref08_Start.O k)[i]?) [1, 1, 0, 1, 0, 0] (cd Try.f84) regletref08_Start.H (kFin ((regletref08_Start.G Try.prog).at (regletref08_Start.E k)) [.tmp 4] [.c false (.i .i64)]) (unS regletref08_Start.l0_s y) := by rw [regletref08_Start.l0]; kernel_rfl
theorem regletref08_Start.go : goesTo Try.prog 84 := ⟨_, Try.func84, by kernel_rfl, rfl⟩
theorem regletref08_Start.ok (k : Nat) : SigOk Try.prog 84 (regletref08_Start.sig k) :=
  fn_p (G := regletref08_Start.G Try.prog) (c := cd Try.f84) (rs := [.tmp 4]) (args := [(false, y8), (false, (.i .i64))]) (l := [.c false (.i .i64)]) (fn := Try.f84) ⟨Try.func84, by kernel_rfl, by kernel_rfl, by kernel_rfl, le_of rfl, le_of rfl, TT_ok, AD_ok⟩ rfl regletref08_Start.E (fun k p hp => by
    simp only [regletref08_Start.E, List.mem_cons, List.not_mem_nil, or_false] at hp
    rcases hp with rfl
    · exact ⟨regletref07_Forced.ok k, regletref07_Forced.go⟩)
    (fun k i => (regletref08_Start.O k)[i]?) regletref08_Start.H (fun k x => regletref08_Start.f k x.1 x.2.1)
    (fun id o y h => by
    have h' := List.mem_of_getElem? h
    simp only [regletref08_Start.O, List.mem_cons, List.not_mem_nil, or_false] at h'
    rcases h' with rfl | rfl <;> rfl)
    (fun k p hp => by
    rw [show pts (cd Try.f84) regletref08_Start.H = [(1, [1, 1, 0, 1, 0, 0, 1, 1]), (0, [1, 1, 0, 1, 0, 0])] by kernel_rfl] at hp
    simp only [List.mem_cons, List.not_mem_nil, or_false] at hp
    rcases hp with rfl | rfl
    · exact ptOk_of rfl (regletref08_Start.j1_e k)
    · exact ptOk_of rfl (regletref08_Start.l0_e k))
    (fun k x => by kernel_rfl) k
/-! reglet/regletref08.Line -/
mutual
def regletref08_Line.j0 : Nat → (List api_Item) → Int → Int → regletref08_Sum → regletref08_Sum → Option (regletref08_Sum × Bool)
  | 0, _, _, _, _, _ => none
  | k + 1, t, t2, t3, t4, t5 => (regletref08_Start.f k t t2).bind fun r => regletref08_Line.l1 k t t3 r t4 t5
def regletref08_Line.l1 : Nat → (List api_Item) → Int → Int → regletref08_Sum → regletref08_Sum → Option (regletref08_Sum × Bool)
  | 0, _, _, _, _, _ => none
  | k + 1, t6, t7, t8, t9, t10 => if (decide (t8 < t7)) = true then ((at? t6 t8).bind fun e => if (!decide (e.1 = 3)) = true then ((at? t6 t8).bind fun e2 => (at? t6 t8).bind fun e3 => (at? t6 t8).bind fun e4 => regletref08_Line.j2 k t6 t7 t8 t9 (wrap64 (t10.1 + e2.2.1), wrap64 (t10.2.1 + e3.2.2.1), wrap64 (t10.2.2.1 + e4.2.2.2.1), t10.2.2.2)) else (regletref08_Line.j2 k t6 t7 t8 t9 t10)) else (some (t10, true))
def regletref08_Line.j2 : Nat → (List api_Item) → Int → Int → regletref08_Sum → regletref08_Sum → Option (regletref08_Sum × Bool)
  | 0, _, _, _, _, _ => none
  | k + 1, t11, t12, t13, t14, t15 => (at? t11 t13).bind fun e5 => if e5.2.2.2.2.1 = true then (regletref08_Line.j3 k t11 t12 t13 t14 (t15.1, t15.2.1, t15.2.2.1, wrap64 (t15.2.2.2 + 1))) else (regletref08_Line.j3 k t11 t12 t13 t14 t15)
def regletref08_Line.j3 : Nat → (List api_Item) → Int → Int → regletref08_Sum → regletref08_Sum → Option (regletref08_Sum × Bool)
  | 0, _, _, _, _, _ => none
  | k + 1, t16, t17, t18, t19, t20 => regletref08_Line.l1 k t16 t17 (wrap64 (t18 + 1)) t19 t20
end
def regletref08_Line.f (k : Nat) (a0 : List api_Item) (a1 : Int) (a2 : Int) : Option (regletref08_Sum × Bool) := if (decide (a2 < 0)) = true then (some ((0, 0, 0, 0), false)) else (if (decide ((a0.length : Int) ≤ a2)) = true then (some ((0, 0, 0, 0), false)) else (regletref08_Line.j0 k a0 a1 a2 (0, 0, 0, 0) (0, 0, 0, 0)))
def regletref08_Line.sig (k : Nat) : Sig := .p [(false, y8), (false, (.i .i64)), (false, (.i .i64))] [.c true y19, .c false .b] fun x => regletref08_Line.f k x.1 x.2.1 x.2.2.1
def regletref08_Line.E (k : Nat) : List (Nat × Sig) := [(84, regletref08_Start.sig k)]
def regletref08_Line.G (P : Program) : GI := ⟨P, TT, 70, 78, [(6, 70, 4), (8, 74, 4)], [], [], [], [], AD⟩
def regletref08_Line.H : H := .s .n (.s .n (.j 0 .n (.s (.s .n (.s (.l 1 (.s .n (.j 3 (.s (.j 2 .n .n) .n) .n))) .n)) .n)))
abbrev regletref08_Line.j0_s : Sh := [(0, .v y8), (1, .v (.i .i64)), (2, .v (.i .i64)), (6, .at_ 70), (8, .at_ 74), (70, .box y19), (74, .box y19)]
abbrev regletref08_Line.l1_s : Sh := [(0, .v y8), (2, .v (.i .i64)), (6, .at_ 70), (8, .at_ 74), (9, .v (.i .i64)), (70, .box y19), (74, .box y19)]
abbrev regletref08_Line.j2_s : Sh := [(0, .v y8), (2, .v (.i .i64)), (6, .at_ 70), (8, .at_ 74), (9, .v (.i .i64)), (70, .box y19), (74, .box y19)]
abbrev regletref08_Line.j3_s : Sh := [(0, .v y8), (2, .v (.i .i64)), (6, .at_ 70), (8, .at_ 74), (9, .v (.i .i64)), (70, .box y19), (74, .box y19)]
def regletref08_Line.O (k : Nat) : List (Orc (denR [.c true y19, .c false .b])) := [⟨regletref08_Line.j0_s, fun y => regletref08_Line.j0 k y.1 y.2.1 y.2.2.1 y.2.2.2.2.2.1 y.2.2.2.2.2.2.1⟩, ⟨regletref08_Line.l1_s, fun y => regletref08_Line.l1 k y.1 y.2.1 y.2.2.2.2.1 y.2.2.2.2.2.1 y.2.2.2.2.2.2.1⟩, ⟨regletref08_Line.j2_s, fun y => regletref08_Line.j2 k y.1 y.2.1 y.2.2.2.2.1 y.2.2.2.2.2.1 y.2.2.2.2.2.2.1⟩, ⟨regletref08_Line.j3_s, fun y => regletref08_Line.j3 k y.1 y.2.1 y.2.2.2.2.1 y.2.2.2.2.2.1 y.2.2.2.2.2.2.1⟩]
theorem regletref08_Line.j2_e (k : Nat) (y : denS regletref08_Line.j2_s) : regletref08_Line.j2 (k + 1) y.1 y.2.1 y.2.2.2.2.1 y.2.2.2.2.2.1 y.2.2.2.2.2.2.1 = evP ((regletref08_Line.G Try.prog).at (regletref08_Line.E k)) (fun i => (regletref08_Line.O k)[i]?) [1, 1, 1, 0, 1, 0, 0, 1, 0, 0, 1] (cd Try.f71) regletref08_Line.H (kFin ((regletref08_Line.G Try.prog).at (regletref08_Line.E k)) [.cell 6 93, .tmp 7] [.c true y19, .c false .b]) (unS regletref08_Line.j2_s y) := by rw [regletref08_Line.j2]; kernel_rfl
theorem regletref08_Line.j3_e (k : Nat) (y : denS regletref08_Line.j3_s) : regletref08_Line.j3 (k + 1) y.1 y.2.1 y.2.2.2.2.1 y.2.2.2.2.2.1 y.2.2.2.2.2.2.1 = evP ((regletref08_Line.G Try.prog).at (regletref08_Line.E k)) (fun i => (regletref08_Line.O k)[i]?) [1, 1, 1, 0, 1, 0, 0, 1, 1] (cd Try.f71) regletref08_Line.H (kFin ((regletref08_Line.G Try.prog).at (regletref08_Line.E k)) [.cell 6 93, .tmp 7] [.c true y19, .c false .b]) (unS regletref08_Line.j3_s y) := by rw [regletref08_Line.j3]; kernel_rfl
theorem regletref08_Line.l1_e (k : Nat) (y : denS regletref08_Line.l1_s) : regletref08_Line.l1 (k + 1) y.1 y.2.1 y.2.2.2.2.1 y.2.2.2.2.2.1 y.2.2.2.2.2.2.1 = evP ((regletref08_Line.G Try.prog).at (regletref08_Line.E k)) (fun i => (regletref08_Line.O k)[i]?) [1, 1, 1, 0, 1, 0, 0] (cd Try.f71) regletref08_Line.H (kFin ((regletref08_Line.G Try.prog).at (regletref08_Line.E k)) [.cell 6 93, .tmp 7] [.c true y19, .c false .b]) (unS regletref08_Line.l1_s y) := by rw [regletref08_Line.l1]; kernel_rfl
theorem regletref08_Line.j0_e (k : Nat) (y : denS regletref08_Line.j0_s) : regletref08_Line.j0 (k + 1) y.1 y.2.1 y.2.2.1 y.2.2.2.2.2.1 y.2.2.2.2.2.2.1 = evP ((regletref08_Line.G Try.prog).at (regletref08_Line.E k)) (fun i => (regletref08_Line.O k)[i]?) [1, 1, 1] (cd Try.f71) regletref08_Line.H (kFin ((regletref08_Line.G Try.prog).at (regletref08_Line.E k)) [.cell 6 93, .tmp 7] [.c true y19, .c false .b]) (unS regletref08_Line.j0_s y) := by rw [regletref08_Line.j0]; kernel_rfl
theorem regletref08_Line.go : goesTo Try.prog 71 := ⟨_, Try.func71, by kernel_rfl, rfl⟩
theorem regletref08_Line.ok (k : Nat) : SigOk Try.prog 71 (regletref08_Line.sig k) :=
  fn_p (G := regletref08_Line.G Try.prog) (c := cd Try.f71) (rs := [.cell 6 93, .tmp 7]) (args := [(false, y8), (false, (.i .i64)), (false, (.i .i64))]) (l := [.c true y19, .c false .b]) (fn := Try.f71) ⟨Try.func71, by kernel_rfl, by kernel_rfl, by kernel_rfl, le_of rfl, le_of rfl, TT_ok, AD_ok⟩ rfl regletref08_Line.E (fun k p hp => by
    simp only [regletref08_Line.E, List.mem_cons, List.not_mem_nil, or_false] at hp
    rcases hp with rfl
    · exact ⟨regletref08_Start.ok k, regletref08_Start.go⟩)
    (fun k i => (regletref08_Line.O k)[i]?) regletref08_Line.H (fun k x => regletref08_Line.f k x.1 x.2.1 x.2.2.1)
    (fun id o y h => by
    have h' := List.mem_of_getElem? h
    simp only [regletref08_Line.O, List.mem_cons, List.not_mem_nil, or_false] at h'
    rcases h' with rfl | rfl | rfl | rfl <;> rfl)
    (fun k p hp => by
    rw [show pts (cd Try.f71) regletref08_Line.H = [(2, [1, 1, 1, 0, 1, 0, 0, 1, 0, 0, 1]), (3, [1, 1, 1, 0, 1, 0, 0, 1, 1]), (1, [1, 1, 1, 0, 1, 0, 0]), (0, [1, 1, 1])] by kernel_rfl] at hp
    simp only [List.mem_cons, List.not_mem_nil, or_false] at hp
    rcases hp with rfl | rfl | rfl | rfl
    · exact ptOk_of rfl (regletref08_Line.j2_e k)
    · exact ptOk_of rfl (regletref08_Line.j3_e k)
    · exact ptOk_of rfl (regletref08_Line.l1_e k)
    · exact ptOk_of rfl (regletref08_Line.j0_e k))
    (fun k x => by kernel_rfl) k
/-! reglet/regletref08.Whole -/
def regletref08_Whole.f (k : Nat) (a0 : List api_Item) (a1 : Int) (a2 : Int) : Option regletref08_Sum := (regletref08_Line.f k a0 a1 a2).bind fun r => if r.2 = true then ((at? a0 a2).bind fun e => if (decide (e.1 = 3)) = true then ((at? a0 a2).bind fun e2 => some (wrap64 (r.1.1 + e2.2.1), r.1.2.1, r.1.2.2.1, r.1.2.2.2)) else (some r.1)) else (some r.1)
def regletref08_Whole.sig (k : Nat) : Sig := .p [(false, y8), (false, (.i .i64)), (false, (.i .i64))] [.c true y19] fun x => regletref08_Whole.f k x.1 x.2.1 x.2.2.1
def regletref08_Whole.E (k : Nat) : List (Nat × Sig) := [(71, regletref08_Line.sig k)]
def regletref08_Whole.G (P : Program) : GI := ⟨P, TT, 35, 43, [(6, 35, 4), (7, 39, 4)], [], [], [], [], AD⟩
def regletref08_Whole.H : H := .n
def regletref08_Whole.O (k : Nat) : List (Orc (denR [.c true y19])) := []
theorem regletref08_Whole.go : goesTo Try.prog 58 := ⟨_, Try.func58, by kernel_rfl, rfl⟩
theorem regletref08_Whole.ok (k : Nat) : SigOk Try.prog 58 (regletref08_Whole.sig k) :=
  fn_p (G := regletref08_Whole.G Try.prog) (c := cd Try.f58) (rs := [.cell 6 93]) (args := [(false, y8), (false, (.i .i64)), (false, (.i .i64))]) (l := [.c true y19]) (fn := Try.f58) ⟨Try.func58, by kernel_rfl, by kernel_rfl, by kernel_rfl, le_of rfl, le_of rfl, TT_ok, AD_ok⟩ rfl regletref08_Whole.E (fun k p hp => by
    simp only [regletref08_Whole.E, List.mem_cons, List.not_mem_nil, or_false] at hp
    rcases hp with rfl
    · exact ⟨regletref08_Line.ok k, regletref08_Line.go⟩)
    (fun k i => (regletref08_Whole.O k)[i]?) regletref08_Whole.H (fun k x => regletref08_Whole.f k x.1 x.2.1 x.2.2.1)
    (fun id o y h => by cases id <;> cases h)
    (fun k p hp => by rw [show pts (cd Try.f58) regletref08_Whole.H = [] by kernel_rfl] at hp; nomatch hp)
    (fun k x => by kernel_rfl) k
/-! reglet/regletref08.Fit -/
def regletref08_Fit.f (k : Nat) (a0 : List api_Item) (a1 : Int) (a2 : Int) (a3 : Int) : Option api_Fit := (regletref08_Whole.f k a0 a1 a2).bind fun r => (regletref08_Set.f k r a3).bind fun r2 => some r2
def regletref08_Fit.sig (k : Nat) : Sig := .p [(false, y8), (false, (.i .i64)), (false, (.i .i64)), (false, (.i .i64))] [.c true y60] fun x => regletref08_Fit.f k x.1 x.2.1 x.2.2.1 x.2.2.2.1
def regletref08_Fit.E (k : Nat) : List (Nat × Sig) := [(57, regletref08_Set.sig k), (58, regletref08_Whole.sig k)]
def regletref08_Fit.G (P : Program) : GI := ⟨P, TT, 15, 20, [(8, 15, 5)], [], [], [], [], AD⟩
def regletref08_Fit.H : H := .n
def regletref08_Fit.O (k : Nat) : List (Orc (denR [.c true y60])) := []
theorem regletref08_Fit.go : goesTo Try.prog 40 := ⟨_, Try.func40, by kernel_rfl, rfl⟩
theorem regletref08_Fit.ok (k : Nat) : SigOk Try.prog 40 (regletref08_Fit.sig k) :=
  fn_p (G := regletref08_Fit.G Try.prog) (c := cd Try.f40) (rs := [.cell 8 77]) (args := [(false, y8), (false, (.i .i64)), (false, (.i .i64)), (false, (.i .i64))]) (l := [.c true y60]) (fn := Try.f40) ⟨Try.func40, by kernel_rfl, by kernel_rfl, by kernel_rfl, le_of rfl, le_of rfl, TT_ok, AD_ok⟩ rfl regletref08_Fit.E (fun k p hp => by
    simp only [regletref08_Fit.E, List.mem_cons, List.not_mem_nil, or_false] at hp
    rcases hp with rfl | rfl
    · exact ⟨regletref08_Set.ok k, regletref08_Set.go⟩
    · exact ⟨regletref08_Whole.ok k, regletref08_Whole.go⟩)
    (fun k i => (regletref08_Fit.O k)[i]?) regletref08_Fit.H (fun k x => regletref08_Fit.f k x.1 x.2.1 x.2.2.1 x.2.2.2.1)
    (fun id o y h => by cases id <;> cases h)
    (fun k p hp => by rw [show pts (cd Try.f40) regletref08_Fit.H = [] by kernel_rfl] at hp; nomatch hp)
    (fun k x => by kernel_rfl) k
/-! reglet/regletref09.Does -/
mutual
def regletref09_Does.j0 : Nat → (List api_Item) → (List Int) → Int → Int → Int → Bool → Int → api_Settings → Option Bool
  | 0, _, _, _, _, _, _, _, _ => none
  | k + 1, l, ends, i, k_, width, emergency, a, s => (at? ends k_).bind fun e2 => (regletref08_Fit.f k l a e2 width).bind fun r => if emergency = true then (if (!r.2.2.2.2) = true then (some true) else (some (decide (k_ = (wrap64 (i + 1)))))) else (if (!r.2.2.2.2) = true then (some (decide (r.2.2.1 ≤ s.1))) else (some false))
end
def regletref09_Does.f (k : Nat) (a0 : List api_Item) (a1 : List Int) (a2 : Int) (a3 : Int) (a4 : Int) (a5 : api_Settings) (a6 : Bool) : Option Bool := if (decide (0 ≤ a2)) = true then ((at? a1 a2).bind fun e => regletref09_Does.j0 k a0 a1 a2 a3 a4 a6 e a5) else (regletref09_Does.j0 k a0 a1 a2 a3 a4 a6 (-1) a5)
def regletref09_Does.sig (k : Nat) : Sig := .p [(false, y8), (false, y23), (false, (.i .i64)), (false, (.i .i64)), (false, (.i .i64)), (true, y22), (false, .b)] [.c false .b] fun x => regletref09_Does.f k x.1 x.2.1 x.2.2.1 x.2.2.2.1 x.2.2.2.2.1 x.2.2.2.2.2.1 x.2.2.2.2.2.2.1
def regletref09_Does.E (k : Nat) : List (Nat × Sig) := [(40, regletref08_Fit.sig k)]
def regletref09_Does.G (P : Program) : GI := ⟨P, TT, 51, 63, [(12, 51, 7), (16, 58, 5)], [], [], [], [], AD⟩
def regletref09_Does.H : H := .s .n (.s .n (.j 0 .n .n))
abbrev regletref09_Does.j0_s : Sh := [(0, .v y8), (1, .v y23), (2, .v (.i .i64)), (3, .v (.i .i64)), (4, .v (.i .i64)), (6, .v .b), (12, .at_ 51), (15, .v (.i .i64)), (51, .box y22)]
def regletref09_Does.O (k : Nat) : List (Orc (denR [.c false .b])) := [⟨regletref09_Does.j0_s, fun y => regletref09_Does.j0 k y.1 y.2.1 y.2.2.1 y.2.2.2.1 y.2.2.2.2.1 y.2.2.2.2.2.1 y.2.2.2.2.2.2.2.1 y.2.2.2.2.2.2.2.2.1⟩]
theorem regletref09_Does.j0_e (k : Nat) (y : denS regletref09_Does.j0_s) : regletref09_Does.j0 (k + 1) y.1 y.2.1 y.2.2.1 y.2.2.2.1 y.2.2.2.2.1 y.2.2.2.2.2.1 y.2.2.2.2.2.2.2.1 y.2.2.2.2.2.2.2.2.1 = evP ((regletref09_Does.G Try.prog).at (regletref09_Does.E k)) (fun i => (regletref09_Does.O k)[i]?) [1, 1, 1] (cd Try.f39) regletref09_Does.H (kFin ((regletref09_Does.G Try.prog).at (regletref09_Does.E k)) [.tmp 14] [.c false .b]) (unS regletref09_Does.j0_s y) := by rw [regletref09_Does.j0]; kernel_rfl
theorem regletref09_Does.go : goesTo Try.prog 39 := ⟨_, Try.func39, by kernel_rfl, rfl⟩
theorem regletref09_Does.ok (k : Nat) : SigOk Try.prog 39 (regletref09_Does.sig k) :=
  fn_p (G := regletref09_Does.G Try.prog) (c := cd Try.f39) (rs := [.tmp 14]) (args := [(false, y8), (false, y23), (false, (.i .i64)), (false, (.i .i64)), (false, (.i .i64)), (true, y22), (false, .b)]) (l := [.c false .b]) (fn := Try.f39) ⟨Try.func39, by kernel_rfl, by kernel_rfl, by kernel_rfl, le_of rfl, le_of rfl, TT_ok, AD_ok⟩ rfl regletref09_Does.E (fun k p hp => by
    simp only [regletref09_Does.E, List.mem_cons, List.not_mem_nil, or_false] at hp
    rcases hp with rfl
    · exact ⟨regletref08_Fit.ok k, regletref08_Fit.go⟩)
    (fun k i => (regletref09_Does.O k)[i]?) regletref09_Does.H (fun k x => regletref09_Does.f k x.1 x.2.1 x.2.2.1 x.2.2.2.1 x.2.2.2.2.1 x.2.2.2.2.2.1 x.2.2.2.2.2.2.1)
    (fun id o y h => by
    have h' := List.mem_of_getElem? h
    simp only [regletref09_Does.O, List.mem_cons, List.not_mem_nil, or_false] at h'
    rcases h' with rfl <;> rfl)
    (fun k p hp => by
    rw [show pts (cd Try.f39) regletref09_Does.H = [(0, [1, 1, 1])] by kernel_rfl] at hp
    simp only [List.mem_cons, List.not_mem_nil, or_false] at hp
    rcases hp with rfl
    · exact ptOk_of rfl (regletref09_Does.j0_e k))
    (fun k x => by kernel_rfl) k
/-! reglet/regletref01.Back -/
mutual
def regletref01_Back.l0 : Nat → (List Int) → Int → Int → Option Int
  | 0, _, _, _ => none
  | k + 1, a, n, i => if (decide (0 ≤ i)) = true then ((at? a i).bind fun e => regletref01_Back.l0 k a (wrap64 ((wrap64 (n * 1000)) + e)) (wrap64 (i - 1))) else (some n)
end
def regletref01_Back.f (k : Nat) (a0 : List Int) : Option Int := (regletref01_Of.f k 1152921504606846976).bind fun r => (regletref01_Compare.f k a0 r).bind fun r2 => if (decide (0 ≤ r2)) = true then (some 1152921504606846976) else (regletref01_Back.l0 k a0 0 (wrap64 ((a0.length : Int) - 1)))
def regletref01_Back.sig (k : Nat) : Sig := .p [(false, y23)] [.c false (.i .i64)] fun x => regletref01_Back.f k x.1
def regletref01_Back.E (k : Nat) : List (Nat × Sig) := [(80, regletref01_Of.sig k), (81, regletref01_Compare.sig k)]
def regletref01_Back.G (P : Program) : GI := ⟨P, TT, 24, 24, [], [], [], [], [], AD⟩
def regletref01_Back.H : H := .s .n (.s .n (.s .n (.s (.s .n (.s (.l 0 .n) .n)) .n)))
abbrev regletref01_Back.l0_s : Sh := [(0, .v y23), (3, .v (.i .i64)), (4, .v (.i .i64))]
def regletref01_Back.O (k : Nat) : List (Orc (denR [.c false (.i .i64)])) := [⟨regletref01_Back.l0_s, fun y => regletref01_Back.l0 k y.1 y.2.1 y.2.2.1⟩]
theorem regletref01_Back.l0_e (k : Nat) (y : denS regletref01_Back.l0_s) : regletref01_Back.l0 (k + 1) y.1 y.2.1 y.2.2.1 = evP ((regletref01_Back.G Try.prog).at (regletref01_Back.E k)) (fun i => (regletref01_Back.O k)[i]?) [1, 1, 1, 0, 1, 0, 0] (cd Try.f85) regletref01_Back.H (kFin ((regletref01_Back.G Try.prog).at (regletref01_Back.E k)) [.tmp 2] [.c false (.i .i64)]) (unS regletref01_Back.l0_s y) := by rw [regletref01_Back.l0]; kernel_rfl
theorem regletref01_Back.go : goesTo Try.prog 85 := ⟨_, Try.func85, by kernel_rfl, rfl⟩
theorem regletref01_Back.ok (k : Nat) : SigOk Try.prog 85 (regletref01_Back.sig k) :=
  fn_p (G := regletref01_Back.G Try.prog) (c := cd Try.f85) (rs := [.tmp 2]) (args := [(false, y23)]) (l := [.c false (.i .i64)]) (fn := Try.f85) ⟨Try.func85, by kernel_rfl, by kernel_rfl, by kernel_rfl, le_of rfl, le_of rfl, TT_ok, AD_ok⟩ rfl regletref01_Back.E (fun k p hp => by
    simp only [regletref01_Back.E, List.mem_cons, List.not_mem_nil, or_false] at hp
    rcases hp with rfl | rfl
    · exact ⟨regletref01_Of.ok k, regletref01_Of.go⟩
    · exact ⟨regletref01_Compare.ok k, regletref01_Compare.go⟩)
    (fun k i => (regletref01_Back.O k)[i]?) regletref01_Back.H (fun k x => regletref01_Back.f k x.1)
    (fun id o y h => by
    have h' := List.mem_of_getElem? h
    simp only [regletref01_Back.O, List.mem_cons, List.not_mem_nil, or_false] at h'
    rcases h' with rfl <;> rfl)
    (fun k p hp => by
    rw [show pts (cd Try.f85) regletref01_Back.H = [(0, [1, 1, 1, 0, 1, 0, 0])] by kernel_rfl] at hp
    simp only [List.mem_cons, List.not_mem_nil, or_false] at hp
    rcases hp with rfl
    · exact ptOk_of rfl (regletref01_Back.l0_e k))
    (fun k x => by kernel_rfl) k
/-! reglet/regletref01.Mul -/
def regletref01_Mul.f (k : Nat) (a0 : Int) (a1 : Int) : Option Int := (regletref01_Clamp.f k a0).bind fun r => (regletref01_Clamp.f k a1).bind fun r2 => (regletref01_Of.f k r).bind fun r3 => (regletref01_Of.f k r2).bind fun r4 => (regletref01_Times.f k r3 r4).bind fun r5 => (regletref01_Back.f k r5).bind fun r6 => if (decide (r < 0)) = true then (if (decide (0 < r2)) = true then (some (wrap64 (-r6))) else (if (decide (0 < r)) = true then (if (decide (r2 < 0)) = true then (some (wrap64 (-r6))) else (some r6)) else (some r6))) else (if (decide (0 < r)) = true then (if (decide (r2 < 0)) = true then (some (wrap64 (-r6))) else (some r6)) else (some r6))
def regletref01_Mul.sig (k : Nat) : Sig := .p [(false, (.i .i64)), (false, (.i .i64))] [.c false (.i .i64)] fun x => regletref01_Mul.f k x.1 x.2.1
def regletref01_Mul.E (k : Nat) : List (Nat × Sig) := [(67, regletref01_Clamp.sig k), (79, regletref01_Times.sig k), (80, regletref01_Of.sig k), (85, regletref01_Back.sig k)]
def regletref01_Mul.G (P : Program) : GI := ⟨P, TT, 33, 33, [], [], [], [], [], AD⟩
def regletref01_Mul.H : H := .n
def regletref01_Mul.O (k : Nat) : List (Orc (denR [.c false (.i .i64)])) := []
theorem regletref01_Mul.go : goesTo Try.prog 72 := ⟨_, Try.func72, by kernel_rfl, rfl⟩
theorem regletref01_Mul.ok (k : Nat) : SigOk Try.prog 72 (regletref01_Mul.sig k) :=
  fn_p (G := regletref01_Mul.G Try.prog) (c := cd Try.f72) (rs := [.tmp 4]) (args := [(false, (.i .i64)), (false, (.i .i64))]) (l := [.c false (.i .i64)]) (fn := Try.f72) ⟨Try.func72, by kernel_rfl, by kernel_rfl, by kernel_rfl, le_of rfl, le_of rfl, TT_ok, AD_ok⟩ rfl regletref01_Mul.E (fun k p hp => by
    simp only [regletref01_Mul.E, List.mem_cons, List.not_mem_nil, or_false] at hp
    rcases hp with rfl | rfl | rfl | rfl
    · exact ⟨regletref01_Clamp.ok k, regletref01_Clamp.go⟩
    · exact ⟨regletref01_Times.ok k, regletref01_Times.go⟩
    · exact ⟨regletref01_Of.ok k, regletref01_Of.go⟩
    · exact ⟨regletref01_Back.ok k, regletref01_Back.go⟩)
    (fun k i => (regletref01_Mul.O k)[i]?) regletref01_Mul.H (fun k x => regletref01_Mul.f k x.1 x.2.1)
    (fun id o y h => by cases id <;> cases h)
    (fun k p hp => by rw [show pts (cd Try.f72) regletref01_Mul.H = [] by kernel_rfl] at hp; nomatch hp)
    (fun k x => by kernel_rfl) k
/-! reglet/regletref01.Demerits -/
mutual
def regletref01_Demerits.j0 : Nat → Int → Option Int
  | 0, _ => none
  | k + 1, d => if (decide (d < 0)) = true then (some 0) else (some d)
end
def regletref01_Demerits.f (k : Nat) (a0 : Int) (a1 : Int) (a2 : Int) : Option Int := (regletref01_Add.f k a0 a1).bind fun r => (regletref01_Mul.f k r r).bind fun r2 => if (decide (0 ≤ a2)) = true then ((regletref01_Mul.f k a2 a2).bind fun r3 => (regletref01_Add.f k r2 r3).bind fun r4 => regletref01_Demerits.j0 k r4) else (if (decide ((-10000) < a2)) = true then ((regletref01_Mul.f k a2 a2).bind fun r5 => (regletref01_Add.f k r2 (wrap64 (-r5))).bind fun r6 => regletref01_Demerits.j0 k r6) else (regletref01_Demerits.j0 k r2))
def regletref01_Demerits.sig (k : Nat) : Sig := .p [(false, (.i .i64)), (false, (.i .i64)), (false, (.i .i64))] [.c false (.i .i64)] fun x => regletref01_Demerits.f k x.1 x.2.1 x.2.2.1
def regletref01_Demerits.E (k : Nat) : List (Nat × Sig) := [(56, regletref01_Add.sig k), (72, regletref01_Mul.sig k)]
def regletref01_Demerits.G (P : Program) : GI := ⟨P, TT, 33, 33, [], [], [], [], [], AD⟩
def regletref01_Demerits.H : H := .s .n (.s .n (.s .n (.j 0 .n .n)))
abbrev regletref01_Demerits.j0_s : Sh := [(8, .v (.i .i64))]
def regletref01_Demerits.O (k : Nat) : List (Orc (denR [.c false (.i .i64)])) := [⟨regletref01_Demerits.j0_s, fun y => regletref01_Demerits.j0 k y.1⟩]
theorem regletref01_Demerits.j0_e (k : Nat) (y : denS regletref01_Demerits.j0_s) : regletref01_Demerits.j0 (k + 1) y.1 = evP ((regletref01_Demerits.G Try.prog).at (regletref01_Demerits.E k)) (fun i => (regletref01_Demerits.O k)[i]?) [1, 1, 1, 1] (cd Try.f59) regletref01_Demerits.H (kFin ((regletref01_Demerits.G Try.prog).at (regletref01_Demerits.E k)) [.tmp 6] [.c false (.i .i64)]) (unS regletref01_Demerits.j0_s y) := by rw [regletref01_Demerits.j0]; kernel_rfl
theorem regletref01_Demerits.go : goesTo Try.prog 59 := ⟨_, Try.func59, by kernel_rfl, rfl⟩
theorem regletref01_Demerits.ok (k : Nat) : SigOk Try.prog 59 (regletref01_Demerits.sig k) :=
  fn_p (G := regletref01_Demerits.G Try.prog) (c := cd Try.f59) (rs := [.tmp 6]) (args := [(false, (.i .i64)), (false, (.i .i64)), (false, (.i .i64))]) (l := [.c false (.i .i64)]) (fn := Try.f59) ⟨Try.func59, by kernel_rfl, by kernel_rfl, by kernel_rfl, le_of rfl, le_of rfl, TT_ok, AD_ok⟩ rfl regletref01_Demerits.E (fun k p hp => by
    simp only [regletref01_Demerits.E, List.mem_cons, List.not_mem_nil, or_false] at hp
    rcases hp with rfl | rfl
    · exact ⟨regletref01_Add.ok k, regletref01_Add.go⟩
    · exact ⟨regletref01_Mul.ok k, regletref01_Mul.go⟩)
    (fun k i => (regletref01_Demerits.O k)[i]?) regletref01_Demerits.H (fun k x => regletref01_Demerits.f k x.1 x.2.1 x.2.2.1)
    (fun id o y h => by
    have h' := List.mem_of_getElem? h
    simp only [regletref01_Demerits.O, List.mem_cons, List.not_mem_nil, or_false] at h'
    rcases h' with rfl <;> rfl)
    (fun k p hp => by
    rw [show pts (cd Try.f59) regletref01_Demerits.H = [(0, [1, 1, 1, 1])] by kernel_rfl] at hp
    simp only [List.mem_cons, List.not_mem_nil, or_false] at hp
    rcases hp with rfl
    · exact ptOk_of rfl (regletref01_Demerits.j0_e k))
    (fun k x => by kernel_rfl) k
/-! reglet/regletref08.Cost -/
mutual
def regletref08_Cost.j0 : Nat → Bool → Bool → Int → api_Settings → api_Item → Option Int
  | 0, _, _, _, _, _ => none
  | k + 1, flag, last, d, s, end_ => if flag = true then (if end_.2.2.2.2.2.2.1 = true then ((regletref01_Add.f k d s.2.2.2.1).bind fun r6 => regletref08_Cost.j1 k flag last r6 s) else (regletref08_Cost.j1 k flag last d s)) else (regletref08_Cost.j1 k flag last d s)
def regletref08_Cost.j1 : Nat → Bool → Bool → Int → api_Settings → Option Int
  | 0, _, _, _, _ => none
  | k + 1, flag2, last2, d2, s2 => if flag2 = true then (if last2 = true then ((regletref01_Add.f k d2 s2.2.2.2.2.1).bind fun r7 => regletref08_Cost.j2 k r7) else (regletref08_Cost.j2 k d2)) else (regletref08_Cost.j2 k d2)
def regletref08_Cost.j2 : Nat → Int → Option Int
  | 0, _ => none
  | k + 1, d3 => some (if 1125899906842624 < d3 then 1125899906842624 else d3)
end
def regletref08_Cost.f (k : Nat) (a0 : api_Settings) (a1 : api_Fit) (a2 : api_Item) (a3 : Int) (a4 : Bool) (a5 : Bool) : Option Int := if a1.2.2.2.2 = true then (some 1125899906842624) else ((regletref01_Demerits.f k a0.2.1 a1.2.2.1 a2.2.2.2.2.2.1).bind fun r => if (decide (0 ≤ a3)) = true then ((regletref01_Add.f k a3 1).bind fun r2 => if (decide (r2 < a1.2.2.2.1)) = true then ((regletref01_Add.f k r a0.2.2.1).bind fun r3 => regletref08_Cost.j0 k a4 a5 r3 a0 a2) else ((regletref01_Add.f k a1.2.2.2.1 1).bind fun r4 => if (decide (r4 < a3)) = true then ((regletref01_Add.f k r a0.2.2.1).bind fun r5 => regletref08_Cost.j0 k a4 a5 r5 a0 a2) else (regletref08_Cost.j0 k a4 a5 r a0 a2))) else (regletref08_Cost.j0 k a4 a5 r a0 a2))
def regletref08_Cost.sig (k : Nat) : Sig := .p [(true, y22), (true, y60), (true, y7), (false, (.i .i64)), (false, .b), (false, .b)] [.c false (.i .i64)] fun x => regletref08_Cost.f k x.1 x.2.1 x.2.2.1 x.2.2.2.1 x.2.2.2.2.1 x.2.2.2.2.2.1
def regletref08_Cost.E (k : Nat) : List (Nat × Sig) := [(56, regletref01_Add.sig k), (59, regletref01_Demerits.sig k)]
def regletref08_Cost.G (P : Program) : GI := ⟨P, TT, 62, 83, [(6, 62, 7), (7, 69, 5), (8, 74, 9)], [], [], [], [], AD⟩
def regletref08_Cost.H : H := .s .n (.s .n (.s .n (.j 0 .n (.j 1 .n (.j 2 .n .n)))))
abbrev regletref08_Cost.j0_s : Sh := [(4, .v .b), (5, .v .b), (6, .at_ 62), (8, .at_ 74), (13, .v (.i .i64)), (62, .box y22), (74, .box y7)]
abbrev regletref08_Cost.j1_s : Sh := [(4, .v .b), (5, .v .b), (6, .at_ 62), (13, .v (.i .i64)), (62, .box y22)]
abbrev regletref08_Cost.j2_s : Sh := [(13, .v (.i .i64))]
def regletref08_Cost.O (k : Nat) : List (Orc (denR [.c false (.i .i64)])) := [⟨regletref08_Cost.j0_s, fun y => regletref08_Cost.j0 k y.1 y.2.1 y.2.2.2.2.1 y.2.2.2.2.2.1 y.2.2.2.2.2.2.1⟩, ⟨regletref08_Cost.j1_s, fun y => regletref08_Cost.j1 k y.1 y.2.1 y.2.2.2.1 y.2.2.2.2.1⟩, ⟨regletref08_Cost.j2_s, fun y => regletref08_Cost.j2 k y.1⟩]
theorem regletref08_Cost.j2_e (k : Nat) (y : denS regletref08_Cost.j2_s) : regletref08_Cost.j2 (k + 1) y.1 = evP ((regletref08_Cost.G Try.prog).at (regletref08_Cost.E k)) (fun i => (regletref08_Cost.O k)[i]?) [1, 1, 1, 1, 1, 1] (cd Try.f41) regletref08_Cost.H (kFin ((regletref08_Cost.G Try.prog).at (regletref08_Cost.E k)) [.tmp 12] [.c false (.i .i64)]) (unS regletref08_Cost.j2_s y) := by rw [regletref08_Cost.j2]; kernel_rfl
theorem regletref08_Cost.j1_e (k : Nat) (y : denS regletref08_Cost.j1_s) : regletref08_Cost.j1 (k + 1) y.1 y.2.1 y.2.2.2.1 y.2.2.2.2.1 = evP ((regletref08_Cost.G Try.prog).at (regletref08_Cost.E k)) (fun i => (regletref08_Cost.O k)[i]?) [1, 1, 1, 1, 1] (cd Try.f41) regletref08_Cost.H (kFin ((regletref08_Cost.G Try.prog).at (regletref08_Cost.E k)) [.tmp 12] [.c false (.i .i64)]) (unS regletref08_Cost.j1_s y) := by rw [regletref08_Cost.j1]; kernel_rfl
theorem regletref08_Cost.j0_e (k : Nat) (y : denS regletref08_Cost.j0_s) : regletref08_Cost.j0 (k + 1) y.1 y.2.1 y.2.2.2.2.1 y.2.2.2.2.2.1 y.2.2.2.2.2.2.1 = evP ((regletref08_Cost.G Try.prog).at (regletref08_Cost.E k)) (fun i => (regletref08_Cost.O k)[i]?) [1, 1, 1, 1] (cd Try.f41) regletref08_Cost.H (kFin ((regletref08_Cost.G Try.prog).at (regletref08_Cost.E k)) [.tmp 12] [.c false (.i .i64)]) (unS regletref08_Cost.j0_s y) := by rw [regletref08_Cost.j0]; kernel_rfl
theorem regletref08_Cost.go : goesTo Try.prog 41 := ⟨_, Try.func41, by kernel_rfl, rfl⟩
theorem regletref08_Cost.ok (k : Nat) : SigOk Try.prog 41 (regletref08_Cost.sig k) :=
  fn_p (G := regletref08_Cost.G Try.prog) (c := cd Try.f41) (rs := [.tmp 12]) (args := [(true, y22), (true, y60), (true, y7), (false, (.i .i64)), (false, .b), (false, .b)]) (l := [.c false (.i .i64)]) (fn := Try.f41) ⟨Try.func41, by kernel_rfl, by kernel_rfl, by kernel_rfl, le_of rfl, le_of rfl, TT_ok, AD_ok⟩ rfl regletref08_Cost.E (fun k p hp => by
    simp only [regletref08_Cost.E, List.mem_cons, List.not_mem_nil, or_false] at hp
    rcases hp with rfl | rfl
    · exact ⟨regletref01_Add.ok k, regletref01_Add.go⟩
    · exact ⟨regletref01_Demerits.ok k, regletref01_Demerits.go⟩)
    (fun k i => (regletref08_Cost.O k)[i]?) regletref08_Cost.H (fun k x => regletref08_Cost.f k x.1 x.2.1 x.2.2.1 x.2.2.2.1 x.2.2.2.2.1 x.2.2.2.2.2.1)
    (fun id o y h => by
    have h' := List.mem_of_getElem? h
    simp only [regletref08_Cost.O, List.mem_cons, List.not_mem_nil, or_false] at h'
    rcases h' with rfl | rfl | rfl <;> rfl)
    (fun k p hp => by
    rw [show pts (cd Try.f41) regletref08_Cost.H = [(2, [1, 1, 1, 1, 1, 1]), (1, [1, 1, 1, 1, 1]), (0, [1, 1, 1, 1])] by kernel_rfl] at hp
    simp only [List.mem_cons, List.not_mem_nil, or_false] at hp
    rcases hp with rfl | rfl | rfl
    · exact ptOk_of rfl (regletref08_Cost.j2_e k)
    · exact ptOk_of rfl (regletref08_Cost.j1_e k)
    · exact ptOk_of rfl (regletref08_Cost.j0_e k))
    (fun k x => by kernel_rfl) k
/-! reglet/regletref09.Price -/
mutual
def regletref09_Price.l0 : Nat → (List api_Item) → (List Int) → Int → Bool → (List Int) → Int → Int → Bool → Int → Int → api_Settings → Option (Int × Bool)
  | 0, _, _, _, _, _, _, _, _, _, _, _ => none
  | k + 1, t, t2, t3, t4, t5, t6, t7, t8, t9, t10, t11 => if (decide (t10 < (t2.length : Int))) = true then ((at? t2 t10).bind fun e => (regletref09_place.f k t5 e).bind fun r2 => if (decide (r2 ≤ t9)) = true then (some (0, false)) else ((regletref09_Does.f k t t5 t9 r2 t3 t11 t4).bind fun r3 => if (!r3) = true then (some (0, false)) else (regletref09_Price.j1 k t t2 t3 t4 t5 t6 t7 t8 t9 t10 r2 t11))) else (some (t6, decide (t9 = (wrap64 ((t5.length : Int) - 1)))))
def regletref09_Price.j1 : Nat → (List api_Item) → (List Int) → Int → Bool → (List Int) → Int → Int → Bool → Int → Int → Int → api_Settings → Option (Int × Bool)
  | 0, _, _, _, _, _, _, _, _, _, _, _, _ => none
  | k + 1, t12, t13, t14, t15, t16, t17, t18, t19, t20, t21, t22, t23 => regletref09_Price.l2 k t12 t13 t14 t15 t16 t17 t18 t19 t20 t21 t22 (wrap64 (t20 + 1)) t23
def regletref09_Price.l2 : Nat → (List api_Item) → (List Int) → Int → Bool → (List Int) → Int → Int → Bool → Int → Int → Int → Int → api_Settings → Option (Int × Bool)
  | 0, _, _, _, _, _, _, _, _, _, _, _, _, _ => none
  | k + 1, t24, t25, t26, t27, t28, t29, t30, t31, t32, t33, t34, t35, t36 => if (decide (t35 < t34)) = true then (if 0 ≤ t35 ∧ t35 < (t28.length : Int) then ((t28[t35.toNat]?).bind fun e2 => (at? t24 e2).bind fun e3 => (regletref07_Forced.f k e3).bind fun r4 => if r4 = true then (some (0, false)) else (regletref09_Price.l2 k t24 t25 t26 t27 t28 t29 t30 t31 t32 t33 t34 (wrap64 (t35 + 1)) t36)) else none) else (if (decide (0 ≤ t32)) = true then (if 0 ≤ t32 ∧ t32 < (t28.length : Int) then ((t28[t32.toNat]?).bind fun e4 => regletref09_Price.j3 k t24 t25 t26 t27 t28 t29 t30 t31 t33 t34 e4 t36) else none) else (regletref09_Price.j3 k t24 t25 t26 t27 t28 t29 t30 t31 t33 t34 (-1) t36))
def regletref09_Price.j3 : Nat → (List api_Item) → (List Int) → Int → Bool → (List Int) → Int → Int → Bool → Int → Int → Int → api_Settings → Option (Int × Bool)
  | 0, _, _, _, _, _, _, _, _, _, _, _, _ => none
  | k + 1, t37, t38, t39, t40, t41, t42, t43, t44, t45, t46, t47, t48 => (at? t38 t45).bind fun e5 => (regletref08_Fit.f k t37 t47 e5 t39).bind fun r5 => (at? t38 t45).bind fun e6 => (at? t37 e6).bind fun e7 => (regletref08_Cost.f k t48 r5 e7 t43 t44 (decide (t46 = (wrap64 ((t41.length : Int) - 1))))).bind fun r6 => (regletref08_Total.f k t42 r6).bind fun r7 => regletref09_Price.l0 k t37 t38 t39 t40 t41 r7 r5.2.2.2.1 e7.2.2.2.2.2.2.1 t46 (wrap64 (t45 + 1)) t48
end
def regletref09_Price.f (k : Nat) (a0 : List api_Item) (a1 : List Int) (a2 : Int) (a3 : api_Settings) (a4 : Bool) : Option (Int × Bool) := (regletref08_Legal.f k a0).bind fun r => regletref09_Price.l0 k a0 a1 a2 a4 r 0 (-1) false (-1) 0 a3
def regletref09_Price.sig (k : Nat) : Sig := .p [(false, y8), (false, y23), (false, (.i .i64)), (true, y22), (false, .b)] [.c false (.i .i64), .c false .b] fun x => regletref09_Price.f k x.1 x.2.1 x.2.2.1 x.2.2.2.1 x.2.2.2.2.1
def regletref09_Price.E (k : Nat) : List (Nat × Sig) := [(18, regletref08_Legal.sig k), (21, regletref07_Forced.sig k), (37, regletref08_Total.sig k), (38, regletref09_place.sig k), (39, regletref09_Does.sig k), (40, regletref08_Fit.sig k), (41, regletref08_Cost.sig k)]
def regletref09_Price.G (P : Program) : GI := ⟨P, TT, 111, 132, [(8, 111, 7), (21, 118, 5), (22, 123, 9)], [], [], [], [], AD⟩
def regletref09_Price.H : H := .s .n (.s .n (.s .n (.s .n (.s (.s .n (.s (.l 0 (.s .n (.s (.s (.s .n (.j 1 .n (.s (.s .n (.s (.l 2 .n) .n)) (.s .n (.j 3 .n .n))))) .n) .n))) .n)) .n))))
abbrev regletref09_Price.l0_s : Sh := [(0, .v y8), (1, .v y23), (2, .v (.i .i64)), (4, .v .b), (8, .at_ 111), (12, .v y9), (13, .v (.i .i64)), (14, .v (.i .i64)), (15, .v .b), (16, .v (.i .i64)), (17, .v (.i .i64)), (111, .box y22)]
abbrev regletref09_Price.j1_s : Sh := [(0, .v y8), (1, .v y23), (2, .v (.i .i64)), (4, .v .b), (8, .at_ 111), (12, .v y9), (13, .v (.i .i64)), (14, .v (.i .i64)), (15, .v .b), (16, .v (.i .i64)), (17, .v (.i .i64)), (18, .v (.i .i64)), (111, .box y22)]
abbrev regletref09_Price.l2_s : Sh := [(0, .v y8), (1, .v y23), (2, .v (.i .i64)), (4, .v .b), (8, .at_ 111), (12, .v y9), (13, .v (.i .i64)), (14, .v (.i .i64)), (15, .v .b), (16, .v (.i .i64)), (17, .v (.i .i64)), (18, .v (.i .i64)), (19, .v (.i .i64)), (111, .box y22)]
abbrev regletref09_Price.j3_s : Sh := [(0, .v y8), (1, .v y23), (2, .v (.i .i64)), (4, .v .b), (8, .at_ 111), (12, .v y9), (13, .v (.i .i64)), (14, .v (.i .i64)), (15, .v .b), (17, .v (.i .i64)), (18, .v (.i .i64)), (20, .v (.i .i64)), (111, .box y22)]
def regletref09_Price.O (k : Nat) : List (Orc (denR [.c false (.i .i64), .c false .b])) := [⟨regletref09_Price.l0_s, fun y => regletref09_Price.l0 k y.1 y.2.1 y.2.2.1 y.2.2.2.1 y.2.2.2.2.2.1 y.2.2.2.2.2.2.1 y.2.2.2.2.2.2.2.1 y.2.2.2.2.2.2.2.2.1 y.2.2.2.2.2.2.2.2.2.1 y.2.2.2.2.2.2.2.2.2.2.1 y.2.2.2.2.2.2.2.2.2.2.2.1⟩, ⟨regletref09_Price.j1_s, fun y => regletref09_Price.j1 k y.1 y.2.1 y.2.2.1 y.2.2.2.1 y.2.2.2.2.2.1 y.2.2.2.2.2.2.1 y.2.2.2.2.2.2.2.1 y.2.2.2.2.2.2.2.2.1 y.2.2.2.2.2.2.2.2.2.1 y.2.2.2.2.2.2.2.2.2.2.1 y.2.2.2.2.2.2.2.2.2.2.2.1 y.2.2.2.2.2.2.2.2.2.2.2.2.1⟩, ⟨regletref09_Price.l2_s, fun y => regletref09_Price.l2 k y.1 y.2.1 y.2.2.1 y.2.2.2.1 y.2.2.2.2.2.1 y.2.2.2.2.2.2.1 y.2.2.2.2.2.2.2.1 y.2.2.2.2.2.2.2.2.1 y.2.2.2.2.2.2.2.2.2.1 y.2.2.2.2.2.2.2.2.2.2.1 y.2.2.2.2.2.2.2.2.2.2.2.1 y.2.2.2.2.2.2.2.2.2.2.2.2.1 y.2.2.2.2.2.2.2.2.2.2.2.2.2.1⟩, ⟨regletref09_Price.j3_s, fun y => regletref09_Price.j3 k y.1 y.2.1 y.2.2.1 y.2.2.2.1 y.2.2.2.2.2.1 y.2.2.2.2.2.2.1 y.2.2.2.2.2.2.2.1 y.2.2.2.2.2.2.2.2.1 y.2.2.2.2.2.2.2.2.2.1 y.2.2.2.2.2.2.2.2.2.2.1 y.2.2.2.2.2.2.2.2.2.2.2.1 y.2.2.2.2.2.2.2.2.2.2.2.2.1⟩]
theorem regletref09_Price.l2_e (k : Nat) (y : denS regletref09_Price.l2_s) : regletref09_Price.l2 (k + 1) y.1 y.2.1 y.2.2.1 y.2.2.2.1 y.2.2.2.2.2.1 y.2.2.2.2.2.2.1 y.2.2.2.2.2.2.2.1 y.2.2.2.2.2.2.2.2.1 y.2.2.2.2.2.2.2.2.2.1 y.2.2.2.2.2.2.2.2.2.2.1 y.2.2.2.2.2.2.2.2.2.2.2.1 y.2.2.2.2.2.2.2.2.2.2.2.2.1 y.2.2.2.2.2.2.2.2.2.2.2.2.2.1 = evP ((regletref09_Price.G Try.prog).at (regletref09_Price.E k)) (fun i => (regletref09_Price.O k)[i]?) [1, 1, 1, 1, 0, 1, 0, 0, 1, 0, 0, 1, 1, 0, 1, 0, 0] (cd Try.f19) regletref09_Price.H (kFin ((regletref09_Price.G Try.prog).at (regletref09_Price.E k)) [.tmp 10, .tmp 11] [.c false (.i .i64), .c false .b]) (unS regletref09_Price.l2_s y) := by rw [regletref09_Price.l2]; kernel_rfl
theorem regletref09_Price.j3_e (k : Nat) (y : denS regletref09_Price.j3_s) : regletref09_Price.j3 (k + 1) y.1 y.2.1 y.2.2.1 y.2.2.2.1 y.2.2.2.2.2.1 y.2.2.2.2.2.2.1 y.2.2.2.2.2.2.2.1 y.2.2.2.2.2.2.2.2.1 y.2.2.2.2.2.2.2.2.2.1 y.2.2.2.2.2.2.2.2.2.2.1 y.2.2.2.2.2.2.2.2.2.2.2.1 y.2.2.2.2.2.2.2.2.2.2.2.2.1 = evP ((regletref09_Price.G Try.prog).at (regletref09_Price.E k)) (fun i => (regletref09_Price.O k)[i]?) [1, 1, 1, 1, 0, 1, 0, 0, 1, 0, 0, 1, 1, 1, 1, 1] (cd Try.f19) regletref09_Price.H (kFin ((regletref09_Price.G Try.prog).at (regletref09_Price.E k)) [.tmp 10, .tmp 11] [.c false (.i .i64), .c false .b]) (unS regletref09_Price.j3_s y) := by rw [regletref09_Price.j3]; kernel_rfl
theorem regletref09_Price.j1_e (k : Nat) (y : denS regletref09_Price.j1_s) : regletref09_Price.j1 (k + 1) y.1 y.2.1 y.2.2.1 y.2.2.2.1 y.2.2.2.2.2.1 y.2.2.2.2.2.2.1 y.2.2.2.2.2.2.2.1 y.2.2.2.2.2.2.2.2.1 y.2.2.2.2.2.2.2.2.2.1 y.2.2.2.2.2.2.2.2.2.2.1 y.2.2.2.2.2.2.2.2.2.2.2.1 y.2.2.2.2.2.2.2.2.2.2.2.2.1 = evP ((regletref09_Price.G Try.prog).at (regletref09_Price.E k)) (fun i => (regletref09_Price.O k)[i]?) [1, 1, 1, 1, 0, 1, 0, 0, 1, 0, 0, 1, 1] (cd Try.f19) regletref09_Price.H (kFin ((regletref09_Price.G Try.prog).at (regletref09_Price.E k)) [.tmp 10, .tmp 11] [.c false (.i .i64), .c false .b]) (unS regletref09_Price.j1_s y) := by rw [regletref09_Price.j1]; kernel_rfl
theorem regletref09_Price.l0_e (k : Nat) (y : denS regletref09_Price.l0_s) : regletref09_Price.l0 (k + 1) y.1 y.2.1 y.2.2.1 y.2.2.2.1 y.2.2.2.2.2.1 y.2.2.2.2.2.2.1 y.2.2.2.2.2.2.2.1 y.2.2.2.2.2.2.2.2.1 y.2.2.2.2.2.2.2.2.2.1 y.2.2.2.2.2.2.2.2.2.2.1 y.2.2.2.2.2.2.2.2.2.2.2.1 = evP ((regletref09_Price.G Try.prog).at (regletref09_Price.E k)) (fun i => (regletref09_Price.O k)[i]?) [1, 1, 1, 1, 0, 1, 0, 0] (cd Try.f19) regletref09_Price.H (kFin ((regletref09_Price.G Try.prog).at (regletref09_Price.E k)) [.tmp 10, .tmp 11] [.c false (.i .i64), .c false .b]) (unS regletref09_Price.l0_s y) := by rw [regletref09_Price.l0]; kernel_rfl
theorem regletref09_Price.go : goesTo Try.prog 19 := ⟨_, Try.func19, by kernel_rfl, rfl⟩
theorem regletref09_Price.ok (k : Nat) : SigOk Try.prog 19 (regletref09_Price.sig k) :=
  fn_p (G := regletref09_Price.G Try.prog) (c := cd Try.f19) (rs := [.tmp 10, .tmp 11]) (args := [(false, y8), (false, y23), (false, (.i .i64)), (true, y22), (false, .b)]) (l := [.c false (.i .i64), .c false .b]) (fn := Try.f19) ⟨Try.func19, by kernel_rfl, by kernel_rfl, by kernel_rfl, le_of rfl, le_of rfl, TT_ok, AD_ok⟩ rfl regletref09_Price.E (fun k p hp => by
    simp only [regletref09_Price.E, List.mem_cons, List.not_mem_nil, or_false] at hp
    rcases hp with rfl | rfl | rfl | rfl | rfl | rfl | rfl
    · exact ⟨regletref08_Legal.ok k, regletref08_Legal.go⟩
    · exact ⟨regletref07_Forced.ok k, regletref07_Forced.go⟩
    · exact ⟨regletref08_Total.ok k, regletref08_Total.go⟩
    · exact ⟨regletref09_place.ok k, regletref09_place.go⟩
    · exact ⟨regletref09_Does.ok k, regletref09_Does.go⟩
    · exact ⟨regletref08_Fit.ok k, regletref08_Fit.go⟩
    · exact ⟨regletref08_Cost.ok k, regletref08_Cost.go⟩)
    (fun k i => (regletref09_Price.O k)[i]?) regletref09_Price.H (fun k x => regletref09_Price.f k x.1 x.2.1 x.2.2.1 x.2.2.2.1 x.2.2.2.2.1)
    (fun id o y h => by
    have h' := List.mem_of_getElem? h
    simp only [regletref09_Price.O, List.mem_cons, List.not_mem_nil, or_false] at h'
    rcases h' with rfl | rfl | rfl | rfl <;> rfl)
    (fun k p hp => by
    rw [show pts (cd Try.f19) regletref09_Price.H = [(2, [1, 1, 1, 1, 0, 1, 0, 0, 1, 0, 0, 1, 1, 0, 1, 0, 0]), (3, [1, 1, 1, 1, 0, 1, 0, 0, 1, 0, 0, 1, 1, 1, 1, 1]), (1, [1, 1, 1, 1, 0, 1, 0, 0, 1, 0, 0, 1, 1]), (0, [1, 1, 1, 1, 0, 1, 0, 0])] by kernel_rfl] at hp
    simp only [List.mem_cons, List.not_mem_nil, or_false] at hp
    rcases hp with rfl | rfl | rfl | rfl
    · exact ptOk_of rfl (regletref09_Price.l2_e k)
    · exact ptOk_of rfl (regletref09_Price.j3_e k)
    · exact ptOk_of rfl (regletref09_Price.j1_e k)
    · exact ptOk_of rfl (regletref09_Price.l0_e k))
    (fun k x => by kernel_rfl) k
end Go.Proofs.Ytpnodmiincdljaa.Vm
