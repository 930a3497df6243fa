-- PRINTED by vq.py. Not trusted: Lean checks it.
import Derived.Test.YtjbobaeggdafpaaQa
namespace Go.Proofs.Ytjbobaeggdafpaa.Vm
open Go
open _root_.Go.RowKit (wrap64)
set_option maxRecDepth 100000
set_option linter.unusedVariables false
/-! reglet/lines.Slots -/
mutual
def lines_Slots.l0 : Nat → (List (ByteArray × List api_Run × Int × Int × Int × Bool × Int × Bool × Bool)) → Bool → (List api_Slot) → (List (ByteArray × List api_Run × Int × Int × Int × Bool × Int × Bool × Bool)) → Int → Int → Option (List api_Slot)
  | 0, _, _, _, _, _, _ => none
  | k + 1, list, keep, out, t, t2, t3 => if (decide (t3 < t2)) = true then ((at? t t3).bind fun e => if (out.length + ([(e.2.2.2.2.1, t3, (list.length : Int), keep)] : List api_Slot).length) * 32 ≤ 140737488355328 then (lines_Slots.l0 k list keep (out ++ ([(e.2.2.2.2.1, t3, (list.length : Int), keep)] : List api_Slot)) t t2 (wrap64 (t3 + 1))) else none) else (some out)
end
def lines_Slots.f (k : Nat) (a0 : List (ByteArray × List api_Run × Int × Int × Int × Bool × Int × Bool × Bool)) (a1 : Bool) : Option (List api_Slot) := lines_Slots.l0 k a0 a1 ([] : List api_Slot) a0 (a0.length : Int) 0
def lines_Slots.sig (k : Nat) : Sig := .p [(false, y122), (false, .b)] [.c false y119] fun x => lines_Slots.f k x.1 x.2.1
def lines_Slots.E (k : Nat) : List (Nat × Sig) := []
def lines_Slots.G (P : Program) : GI := ⟨P, TT, 27, 36, [(7, 27, 9)], [], [], [], [], AD⟩
def lines_Slots.H : H := .s .n (.s .n (.s (.s .n (.s (.l 0 .n) .n)) .n))
abbrev lines_Slots.l0_s : Sh := [(0, .v y122), (1, .v .b), (5, .v y119), (8, .v y122), (9, .v (.i .i64)), (10, .v (.i .i64))]
def lines_Slots.O (k : Nat) : List (Orc (denR [.c false y119])) := [⟨lines_Slots.l0_s, fun y => lines_Slots.l0 k y.1 y.2.1 y.2.2.1 y.2.2.2.1 y.2.2.2.2.1 y.2.2.2.2.2.1⟩]
theorem lines_Slots.l0_e (k : Nat) (y : denS lines_Slots.l0_s) : lines_Slots.l0 (k + 1) y.1 y.2.1 y.2.2.1 y.2.2.2.1 y.2.2.2.2.1 y.2.2.2.2.2.1 = evP ((lines_Slots.G Try.prog).at (lines_Slots.E k)) (fun i => (lines_Slots.O k)[i]?) [1, 1, 0, 1, 0, 0] (cd Try.f15) lines_Slots.H (kFin ((lines_Slots.G Try.prog).at (lines_Slots.E k)) [.tmp 4] [.c false y119]) (unS lines_Slots.l0_s y) := by rw [lines_Slots.l0]; kernel_rfl
theorem lines_Slots.go : goesTo Try.prog 15 := ⟨_, Try.func15, by kernel_rfl, rfl⟩
theorem lines_Slots.ok (k : Nat) : SigOk Try.prog 15 (lines_Slots.sig k) :=
  fn_p (G := lines_Slots.G Try.prog) (c := cd Try.f15) (rs := [.tmp 4]) (args := [(false, y122), (false, .b)]) (l := [.c false y119]) (fn := Try.f15) ⟨Try.func15, by kernel_rfl, by kernel_rfl, by kernel_rfl, le_of rfl, le_of rfl, TT_ok, AD_ok⟩ rfl lines_Slots.E (fun k p hp => nomatch hp)
    (fun k i => (lines_Slots.O k)[i]?) lines_Slots.H (fun k x => lines_Slots.f k x.1 x.2.1)
    (fun id o y h => by
    have h' := List.mem_of_getElem? h
    simp only [lines_Slots.O, List.mem_cons, List.not_mem_nil, or_false] at h'
    rcases h' with rfl <;> rfl)
    (fun k p hp => by
    rw [show pts (cd Try.f15) lines_Slots.H = [(0, [1, 1, 0, 1, 0, 0])] by kernel_rfl] at hp
    simp only [List.mem_cons, List.not_mem_nil, or_false] at hp
    rcases hp with rfl
    · exact ptOk_of rfl (lines_Slots.l0_e k))
    (fun k x => by kernel_rfl) k
/-! reglet/regletlaw10.LinesSlots -/
mutual
def regletlaw10_LinesSlots.l0 : Nat → (List (ByteArray × List api_Run × Int × Int × Int × Bool × Int × Bool × Bool)) → Bool → (List api_Slot) → Int → Option Bool
  | 0, _, _, _, _ => none
  | k + 1, list, keep, s, i => if (decide (i < (s.length : Int))) = true then (if 0 ≤ i ∧ i < (s.length : Int) then ((s[i.toNat]?).bind fun e => (at? list i).bind fun e2 => if (!(decide (e.1 = e2.2.2.2.2.1) && (decide (e.2.1 = i) && (decide (e.2.2.1 = (list.length : Int)) && (decide (e.2.2.2 = keep) && true))))) = true then (some false) else (regletlaw10_LinesSlots.l0 k list keep s (wrap64 (i + 1)))) else none) else (some true)
end
def regletlaw10_LinesSlots.f (k : Nat) (a0 : List (ByteArray × List api_Run × Int × Int × Int × Bool × Int × Bool × Bool)) (a1 : Bool) : Option Bool := (regletlaw10_awake.f k).bind fun r => if (!r) = true then (some false) else (if (decide (1000 < (a0.length : Int))) = true then (some true) else ((lines_Slots.f k a0 a1).bind fun r2 => if (!decide ((r2.length : Int) = (a0.length : Int))) = true then (some false) else (regletlaw10_LinesSlots.l0 k a0 a1 r2 0)))
def regletlaw10_LinesSlots.sig (k : Nat) : Sig := .p [(false, y125), (false, .b)] [.c false .b] fun x => regletlaw10_LinesSlots.f k x.1 x.2.1
def regletlaw10_LinesSlots.E (k : Nat) : List (Nat × Sig) := [(7, regletlaw10_awake.sig k), (15, lines_Slots.sig k)]
def regletlaw10_LinesSlots.G (P : Program) : GI := ⟨P, TT, 41, 41, [], [], [], [], [], AD⟩
def regletlaw10_LinesSlots.H : H := .s .n (.s .n (.s .n (.s .n (.s .n (.s (.s .n (.s (.l 0 .n) .n)) .n)))))
abbrev regletlaw10_LinesSlots.l0_s : Sh := [(0, .v y125), (1, .v .b), (5, .v y119), (6, .v (.i .i64))]
def regletlaw10_LinesSlots.O (k : Nat) : List (Orc (denR [.c false .b])) := [⟨regletlaw10_LinesSlots.l0_s, fun y => regletlaw10_LinesSlots.l0 k y.1 y.2.1 y.2.2.1 y.2.2.2.1⟩]
theorem regletlaw10_LinesSlots.l0_e (k : Nat) (y : denS regletlaw10_LinesSlots.l0_s) : regletlaw10_LinesSlots.l0 (k + 1) y.1 y.2.1 y.2.2.1 y.2.2.2.1 = evP ((regletlaw10_LinesSlots.G Try.prog).at (regletlaw10_LinesSlots.E k)) (fun i => (regletlaw10_LinesSlots.O k)[i]?) [1, 1, 1, 1, 1, 0, 1, 0, 0] (cd Try.f4) regletlaw10_LinesSlots.H (kFin ((regletlaw10_LinesSlots.G Try.prog).at (regletlaw10_LinesSlots.E k)) [.tmp 4] [.c false .b]) (unS regletlaw10_LinesSlots.l0_s y) := by rw [regletlaw10_LinesSlots.l0]; kernel_rfl
theorem regletlaw10_LinesSlots.go : goesTo Try.prog 4 := ⟨_, Try.func4, by kernel_rfl, rfl⟩
theorem regletlaw10_LinesSlots.ok (k : Nat) : SigOk Try.prog 4 (regletlaw10_LinesSlots.sig k) :=
  fn_p (G := regletlaw10_LinesSlots.G Try.prog) (c := cd Try.f4) (rs := [.tmp 4]) (args := [(false, y125), (false, .b)]) (l := [.c false .b]) (fn := Try.f4) ⟨Try.func4, by kernel_rfl, by kernel_rfl, by kernel_rfl, le_of rfl, le_of rfl, TT_ok, AD_ok⟩ rfl regletlaw10_LinesSlots.E (fun k p hp => by
    simp only [regletlaw10_LinesSlots.E, List.mem_cons, List.not_mem_nil, or_false] at hp
    rcases hp with rfl | rfl
    · exact ⟨regletlaw10_awake.ok k, regletlaw10_awake.go⟩
    · exact ⟨lines_Slots.ok k, lines_Slots.go⟩)
    (fun k i => (regletlaw10_LinesSlots.O k)[i]?) regletlaw10_LinesSlots.H (fun k x => regletlaw10_LinesSlots.f k x.1 x.2.1)
    (fun id o y h => by
    have h' := List.mem_of_getElem? h
    simp only [regletlaw10_LinesSlots.O, List.mem_cons, List.not_mem_nil, or_false] at h'
    rcases h' with rfl <;> rfl)
    (fun k p hp => by
    rw [show pts (cd Try.f4) regletlaw10_LinesSlots.H = [(0, [1, 1, 1, 1, 1, 0, 1, 0, 0])] by kernel_rfl] at hp
    simp only [List.mem_cons, List.not_mem_nil, or_false] at hp
    rcases hp with rfl
    · exact ptOk_of rfl (regletlaw10_LinesSlots.l0_e k))
    (fun k x => by kernel_rfl) k
/-! reglet/regletref02.IsRune -/
def regletref02_IsRune.f (k : Nat) (a0 : Int) : Option Bool := if (decide (0 ≤ a0)) = true then (if (decide (a0 ≤ 1114111)) = true then (if (decide (a0 < 55296)) = true then (some true) else (some (decide (57343 < a0)))) else (some false)) else (some false)
def regletref02_IsRune.sig (k : Nat) : Sig := .p [(false, (.i .i64))] [.c false .b] fun x => regletref02_IsRune.f k x.1
def regletref02_IsRune.E (k : Nat) : List (Nat × Sig) := []
def regletref02_IsRune.G (P : Program) : GI := ⟨P, TT, 17, 17, [], [], [], [], [], AD⟩
def regletref02_IsRune.H : H := .n
def regletref02_IsRune.O (k : Nat) : List (Orc (denR [.c false .b])) := []
theorem regletref02_IsRune.go : goesTo Try.prog 54 := ⟨_, Try.func54, by kernel_rfl, rfl⟩
theorem regletref02_IsRune.ok (k : Nat) : SigOk Try.prog 54 (regletref02_IsRune.sig k) :=
  fn_p (G := regletref02_IsRune.G Try.prog) (c := cd Try.f54) (rs := [.tmp 2]) (args := [(false, (.i .i64))]) (l := [.c false .b]) (fn := Try.f54) ⟨Try.func54, by kernel_rfl, by kernel_rfl, by kernel_rfl, le_of rfl, le_of rfl, TT_ok, AD_ok⟩ rfl regletref02_IsRune.E (fun k p hp => nomatch hp)
    (fun k i => (regletref02_IsRune.O k)[i]?) regletref02_IsRune.H (fun k x => regletref02_IsRune.f k x.1)
    (fun id o y h => by cases id <;> cases h)
    (fun k p hp => by rw [show pts (cd Try.f54) regletref02_IsRune.H = [] by kernel_rfl] at hp; nomatch hp)
    (fun k x => by kernel_rfl) k
/-! reglet/regletref02.Bytes -/
def regletref02_Bytes.f (k : Nat) (a0 : Int) : Option (List Int) := (regletref02_IsRune.f k a0).bind fun r => if (!r) = true then (some ([] : List Int)) else (if (decide (a0 < 128)) = true then (some ([a0] : List Int)) else (if (decide (a0 < 2048)) = true then (some ([wrap64 (192 + (wrap64 (a0.tdiv 64))), wrap64 (128 + (a0.tmod 64))] : List Int)) else (if (decide (a0 < 65536)) = true then (some ([wrap64 (224 + (wrap64 (a0.tdiv 4096))), wrap64 (128 + ((wrap64 (a0.tdiv 64)).tmod 64)), wrap64 (128 + (a0.tmod 64))] : List Int)) else (some ([wrap64 (240 + (wrap64 (a0.tdiv 262144))), wrap64 (128 + ((wrap64 (a0.tdiv 4096)).tmod 64)), wrap64 (128 + ((wrap64 (a0.tdiv 64)).tmod 64)), wrap64 (128 + (a0.tmod 64))] : List Int)))))
def regletref02_Bytes.sig (k : Nat) : Sig := .p [(false, (.i .i64))] [.c false y10] fun x => regletref02_Bytes.f k x.1
def regletref02_Bytes.E (k : Nat) : List (Nat × Sig) := [(54, regletref02_IsRune.sig k)]
def regletref02_Bytes.G (P : Program) : GI := ⟨P, TT, 47, 47, [], [], [], [], [], AD⟩
def regletref02_Bytes.H : H := .n
def regletref02_Bytes.O (k : Nat) : List (Orc (denR [.c false y10])) := []
theorem regletref02_Bytes.go : goesTo Try.prog 32 := ⟨_, Try.func32, by kernel_rfl, rfl⟩
theorem regletref02_Bytes.ok (k : Nat) : SigOk Try.prog 32 (regletref02_Bytes.sig k) :=
  fn_p (G := regletref02_Bytes.G Try.prog) (c := cd Try.f32) (rs := [.tmp 2]) (args := [(false, (.i .i64))]) (l := [.c false y10]) (fn := Try.f32) ⟨Try.func32, by kernel_rfl, by kernel_rfl, by kernel_rfl, le_of rfl, le_of rfl, TT_ok, AD_ok⟩ rfl regletref02_Bytes.E (fun k p hp => by
    simp only [regletref02_Bytes.E, List.mem_cons, List.not_mem_nil, or_false] at hp
    rcases hp with rfl
    · exact ⟨regletref02_IsRune.ok k, regletref02_IsRune.go⟩)
    (fun k i => (regletref02_Bytes.O k)[i]?) regletref02_Bytes.H (fun k x => regletref02_Bytes.f k x.1)
    (fun id o y h => by cases id <;> cases h)
    (fun k p hp => by rw [show pts (cd Try.f32) regletref02_Bytes.H = [] by kernel_rfl] at hp; nomatch hp)
    (fun k x => by kernel_rfl) k
/-! reglet/regletref02.value -/
mutual
def regletref02_value.l0 : Nat → ByteArray → Int → Int → Int → Int → Option Int
  | 0, _, _, _, _, _ => none
  | k + 1, s, at_, n, r, i => if (decide (i < n)) = true then ((bAt s (wrap64 (at_ + i))).bind fun e2 => regletref02_value.l0 k s at_ n (wrap64 ((wrap64 (r * 64)) + ((wrap64 (e2)).tmod 64))) (wrap64 (i + 1))) else (some r)
end
def regletref02_value.f (k : Nat) (a0 : ByteArray) (a1 : Int) (a2 : Int) : Option Int := (bAt a0 a1).bind fun e => if (decide (a2 = 1)) = true then (some (wrap64 (e))) else (if 0 ≤ (wrap64 (7 - a2)) then (if (shlI .i64 (1 : Int) (wrap64 (7 - a2))) ≠ 0 then (regletref02_value.l0 k a0 a1 a2 ((wrap64 (e)).tmod (shlI .i64 (1 : Int) (wrap64 (7 - a2)))) 1) else none) else none)
def regletref02_value.sig (k : Nat) : Sig := .p [(false, .s), (false, (.i .i64)), (false, (.i .i64))] [.c false (.i .i64)] fun x => regletref02_value.f k x.1 x.2.1 x.2.2.1
def regletref02_value.E (k : Nat) : List (Nat × Sig) := []
def regletref02_value.G (P : Program) : GI := ⟨P, TT, 38, 38, [], [], [], [], [], AD⟩
def regletref02_value.H : H := .s .n (.s .n (.s .n (.s .n (.s (.s .n (.s (.l 0 .n) .n)) .n))))
abbrev regletref02_value.l0_s : Sh := [(0, .v .s), (1, .v (.i .i64)), (2, .v (.i .i64)), (8, .v (.i .i64)), (9, .v (.i .i64))]
def regletref02_value.O (k : Nat) : List (Orc (denR [.c false (.i .i64)])) := [⟨regletref02_value.l0_s, fun y => regletref02_value.l0 k y.1 y.2.1 y.2.2.1 y.2.2.2.1 y.2.2.2.2.1⟩]
theorem regletref02_value.l0_e (k : Nat) (y : denS regletref02_value.l0_s) : regletref02_value.l0 (k + 1) y.1 y.2.1 y.2.2.1 y.2.2.2.1 y.2.2.2.2.1 = evP ((regletref02_value.G Try.prog).at (regletref02_value.E k)) (fun i => (regletref02_value.O k)[i]?) [1, 1, 1, 1, 0, 1, 0, 0] (cd Try.f80) regletref02_value.H (kFin ((regletref02_value.G Try.prog).at (regletref02_value.E k)) [.tmp 6] [.c false (.i .i64)]) (unS regletref02_value.l0_s y) := by rw [regletref02_value.l0]; kernel_rfl
theorem regletref02_value.go : goesTo Try.prog 80 := ⟨_, Try.func80, by kernel_rfl, rfl⟩
theorem regletref02_value.ok (k : Nat) : SigOk Try.prog 80 (regletref02_value.sig k) :=
  fn_p (G := regletref02_value.G Try.prog) (c := cd Try.f80) (rs := [.tmp 6]) (args := [(false, .s), (false, (.i .i64)), (false, (.i .i64))]) (l := [.c false (.i .i64)]) (fn := Try.f80) ⟨Try.func80, by kernel_rfl, by kernel_rfl, by kernel_rfl, le_of rfl, le_of rfl, TT_ok, AD_ok⟩ rfl regletref02_value.E (fun k p hp => nomatch hp)
    (fun k i => (regletref02_value.O k)[i]?) regletref02_value.H (fun k x => regletref02_value.f k x.1 x.2.1 x.2.2.1)
    (fun id o y h => by
    have h' := List.mem_of_getElem? h
    simp only [regletref02_value.O, List.mem_cons, List.not_mem_nil, or_false] at h'
    rcases h' with rfl <;> rfl)
    (fun k p hp => by
    rw [show pts (cd Try.f80) regletref02_value.H = [(0, [1, 1, 1, 1, 0, 1, 0, 0])] by kernel_rfl] at hp
    simp only [List.mem_cons, List.not_mem_nil, or_false] at hp
    rcases hp with rfl
    · exact ptOk_of rfl (regletref02_value.l0_e k))
    (fun k x => by kernel_rfl) k
/-! reglet/regletref02.begins -/
mutual
def regletref02_begins.j0 : Nat → ByteArray → Int → (List Int) → Option Bool
  | 0, _, _, _ => none
  | k + 1, s, at_, l => regletref02_begins.l1 k s at_ l 0
def regletref02_begins.l1 : Nat → ByteArray → Int → (List Int) → Int → Option Bool
  | 0, _, _, _, _ => none
  | k + 1, s2, at_2, l2, i => if (decide (i < (l2.length : Int))) = true then ((bAt s2 (wrap64 (at_2 + i))).bind fun e => (at? l2 i).bind fun e2 => if (!decide ((wrap64 (e)) = e2)) = true then (some false) else (regletref02_begins.l1 k s2 at_2 l2 (wrap64 (i + 1)))) else (some true)
end
def regletref02_begins.f (k : Nat) (a0 : ByteArray) (a1 : Int) (a2 : List Int) : Option Bool := if (decide ((a2.length : Int) = 0)) = true then (some false) else (if (decide ((a0.size : Int) < (wrap64 (a1 + (a2.length : Int))))) = true then (some false) else (regletref02_begins.j0 k a0 a1 a2))
def regletref02_begins.sig (k : Nat) : Sig := .p [(false, .s), (false, (.i .i64)), (false, y57)] [.c false .b] fun x => regletref02_begins.f k x.1 x.2.1 x.2.2.1
def regletref02_begins.E (k : Nat) : List (Nat × Sig) := []
def regletref02_begins.G (P : Program) : GI := ⟨P, TT, 37, 37, [], [], [], [], [], AD⟩
def regletref02_begins.H : H := .s .n (.j 0 .n (.s (.s .n (.s (.l 1 .n) .n)) .n))
abbrev regletref02_begins.j0_s : Sh := [(0, .v .s), (1, .v (.i .i64)), (2, .v y57)]
abbrev regletref02_begins.l1_s : Sh := [(0, .v .s), (1, .v (.i .i64)), (2, .v y57), (7, .v (.i .i64))]
def regletref02_begins.O (k : Nat) : List (Orc (denR [.c false .b])) := [⟨regletref02_begins.j0_s, fun y => regletref02_begins.j0 k y.1 y.2.1 y.2.2.1⟩, ⟨regletref02_begins.l1_s, fun y => regletref02_begins.l1 k y.1 y.2.1 y.2.2.1 y.2.2.2.1⟩]
theorem regletref02_begins.l1_e (k : Nat) (y : denS regletref02_begins.l1_s) : regletref02_begins.l1 (k + 1) y.1 y.2.1 y.2.2.1 y.2.2.2.1 = evP ((regletref02_begins.G Try.prog).at (regletref02_begins.E k)) (fun i => (regletref02_begins.O k)[i]?) [1, 1, 0, 1, 0, 0] (cd Try.f81) regletref02_begins.H (kFin ((regletref02_begins.G Try.prog).at (regletref02_begins.E k)) [.tmp 6] [.c false .b]) (unS regletref02_begins.l1_s y) := by rw [regletref02_begins.l1]; kernel_rfl
theorem regletref02_begins.j0_e (k : Nat) (y : denS regletref02_begins.j0_s) : regletref02_begins.j0 (k + 1) y.1 y.2.1 y.2.2.1 = evP ((regletref02_begins.G Try.prog).at (regletref02_begins.E k)) (fun i => (regletref02_begins.O k)[i]?) [1, 1] (cd Try.f81) regletref02_begins.H (kFin ((regletref02_begins.G Try.prog).at (regletref02_begins.E k)) [.tmp 6] [.c false .b]) (unS regletref02_begins.j0_s y) := by rw [regletref02_begins.j0]; kernel_rfl
theorem regletref02_begins.go : goesTo Try.prog 81 := ⟨_, Try.func81, by kernel_rfl, rfl⟩
theorem regletref02_begins.ok (k : Nat) : SigOk Try.prog 81 (regletref02_begins.sig k) :=
  fn_p (G := regletref02_begins.G Try.prog) (c := cd Try.f81) (rs := [.tmp 6]) (args := [(false, .s), (false, (.i .i64)), (false, y57)]) (l := [.c false .b]) (fn := Try.f81) ⟨Try.func81, by kernel_rfl, by kernel_rfl, by kernel_rfl, le_of rfl, le_of rfl, TT_ok, AD_ok⟩ rfl regletref02_begins.E (fun k p hp => nomatch hp)
    (fun k i => (regletref02_begins.O k)[i]?) regletref02_begins.H (fun k x => regletref02_begins.f k x.1 x.2.1 x.2.2.1)
    (fun id o y h => by
    have h' := List.mem_of_getElem? h
    simp only [regletref02_begins.O, List.mem_cons, List.not_mem_nil, or_false] at h'
    rcases h' with rfl | rfl <;> rfl)
    (fun k p hp => by
    rw [show pts (cd Try.f81) regletref02_begins.H = [(1, [1, 1, 0, 1, 0, 0]), (0, [1, 1])] by kernel_rfl] at hp
    simp only [List.mem_cons, List.not_mem_nil, or_false] at hp
    rcases hp with rfl | rfl
    · exact ptOk_of rfl (regletref02_begins.l1_e k)
    · exact ptOk_of rfl (regletref02_begins.j0_e k))
    (fun k x => by kernel_rfl) k
/-! reglet/regletref02.Read -/
mutual
def regletref02_Read.l0 : Nat → ByteArray → Int → Int → Option (Int × Int)
  | 0, _, _, _ => none
  | k + 1, s, at_, n => if (decide (n ≤ 4)) = true then (if (decide ((wrap64 (at_ + n)) ≤ (s.size : Int))) = true then (regletref02_Read.j1 k s at_ n) else (some ((-1), 0))) else (some ((-1), 0))
def regletref02_Read.j1 : Nat → ByteArray → Int → Int → Option (Int × Int)
  | 0, _, _, _ => none
  | k + 1, s2, at_2, n2 => (regletref02_value.f k s2 at_2 n2).bind fun r => (regletref02_Bytes.f k r).bind fun r2 => if (decide ((r2.length : Int) = n2)) = true then ((regletref02_begins.f k s2 at_2 r2).bind fun r3 => if r3 = true then (some (r, n2)) else (regletref02_Read.j2 k s2 at_2 n2)) else (regletref02_Read.j2 k s2 at_2 n2)
def regletref02_Read.j2 : Nat → ByteArray → Int → Int → Option (Int × Int)
  | 0, _, _, _ => none
  | k + 1, s3, at_3, n3 => regletref02_Read.l0 k s3 at_3 (wrap64 (n3 + 1))
end
def regletref02_Read.f (k : Nat) (a0 : ByteArray) (a1 : Int) : Option (Int × Int) := regletref02_Read.l0 k a0 a1 1
def regletref02_Read.sig (k : Nat) : Sig := .p [(false, .s), (false, (.i .i64))] [.c false (.i .i64), .c false (.i .i64)] fun x => regletref02_Read.f k x.1 x.2.1
def regletref02_Read.E (k : Nat) : List (Nat × Sig) := [(32, regletref02_Bytes.sig k), (80, regletref02_value.sig k), (81, regletref02_begins.sig k)]
def regletref02_Read.G (P : Program) : GI := ⟨P, TT, 39, 39, [], [], [], [], [], AD⟩
def regletref02_Read.H : H := .s .n (.s (.s .n (.s (.l 0 (.j 1 .n (.j 2 .n .n))) .n)) .n)
abbrev regletref02_Read.l0_s : Sh := [(0, .v .s), (1, .v (.i .i64)), (6, .v (.i .i64))]
abbrev regletref02_Read.j1_s : Sh := [(0, .v .s), (1, .v (.i .i64)), (6, .v (.i .i64))]
abbrev regletref02_Read.j2_s : Sh := [(0, .v .s), (1, .v (.i .i64)), (6, .v (.i .i64))]
def regletref02_Read.O (k : Nat) : List (Orc (denR [.c false (.i .i64), .c false (.i .i64)])) := [⟨regletref02_Read.l0_s, fun y => regletref02_Read.l0 k y.1 y.2.1 y.2.2.1⟩, ⟨regletref02_Read.j1_s, fun y => regletref02_Read.j1 k y.1 y.2.1 y.2.2.1⟩, ⟨regletref02_Read.j2_s, fun y => regletref02_Read.j2 k y.1 y.2.1 y.2.2.1⟩]
theorem regletref02_Read.j2_e (k : Nat) (y : denS regletref02_Read.j2_s) : regletref02_Read.j2 (k + 1) y.1 y.2.1 y.2.2.1 = evP ((regletref02_Read.G Try.prog).at (regletref02_Read.E k)) (fun i => (regletref02_Read.O k)[i]?) [1, 0, 1, 0, 0, 1, 1] (cd Try.f52) regletref02_Read.H (kFin ((regletref02_Read.G Try.prog).at (regletref02_Read.E k)) [.tmp 4, .tmp 5] [.c false (.i .i64), .c false (.i .i64)]) (unS regletref02_Read.j2_s y) := by rw [regletref02_Read.j2]; kernel_rfl
theorem regletref02_Read.j1_e (k : Nat) (y : denS regletref02_Read.j1_s) : regletref02_Read.j1 (k + 1) y.1 y.2.1 y.2.2.1 = evP ((regletref02_Read.G Try.prog).at (regletref02_Read.E k)) (fun i => (regletref02_Read.O k)[i]?) [1, 0, 1, 0, 0, 1] (cd Try.f52) regletref02_Read.H (kFin ((regletref02_Read.G Try.prog).at (regletref02_Read.E k)) [.tmp 4, .tmp 5] [.c false (.i .i64), .c false (.i .i64)]) (unS regletref02_Read.j1_s y) := by rw [regletref02_Read.j1]; kernel_rfl
theorem regletref02_Read.l0_e (k : Nat) (y : denS regletref02_Read.l0_s) : regletref02_Read.l0 (k + 1) y.1 y.2.1 y.2.2.1 = evP ((regletref02_Read.G Try.prog).at (regletref02_Read.E k)) (fun i => (regletref02_Read.O k)[i]?) [1, 0, 1, 0, 0] (cd Try.f52) regletref02_Read.H (kFin ((regletref02_Read.G Try.prog).at (regletref02_Read.E k)) [.tmp 4, .tmp 5] [.c false (.i .i64), .c false (.i .i64)]) (unS regletref02_Read.l0_s y) := by rw [regletref02_Read.l0]; kernel_rfl
theorem regletref02_Read.go : goesTo Try.prog 52 := ⟨_, Try.func52, by kernel_rfl, rfl⟩
theorem regletref02_Read.ok (k : Nat) : SigOk Try.prog 52 (regletref02_Read.sig k) :=
  fn_p (G := regletref02_Read.G Try.prog) (c := cd Try.f52) (rs := [.tmp 4, .tmp 5]) (args := [(false, .s), (false, (.i .i64))]) (l := [.c false (.i .i64), .c false (.i .i64)]) (fn := Try.f52) ⟨Try.func52, by kernel_rfl, by kernel_rfl, by kernel_rfl, le_of rfl, le_of rfl, TT_ok, AD_ok⟩ rfl regletref02_Read.E (fun k p hp => by
    simp only [regletref02_Read.E, List.mem_cons, List.not_mem_nil, or_false] at hp
    rcases hp with rfl | rfl | rfl
    · exact ⟨regletref02_Bytes.ok k, regletref02_Bytes.go⟩
    · exact ⟨regletref02_value.ok k, regletref02_value.go⟩
    · exact ⟨regletref02_begins.ok k, regletref02_begins.go⟩)
    (fun k i => (regletref02_Read.O k)[i]?) regletref02_Read.H (fun k x => regletref02_Read.f k x.1 x.2.1)
    (fun id o y h => by
    have h' := List.mem_of_getElem? h
    simp only [regletref02_Read.O, List.mem_cons, List.not_mem_nil, or_false] at h'
    rcases h' with rfl | rfl | rfl <;> rfl)
    (fun k p hp => by
    rw [show pts (cd Try.f52) regletref02_Read.H = [(2, [1, 0, 1, 0, 0, 1, 1]), (1, [1, 0, 1, 0, 0, 1]), (0, [1, 0, 1, 0, 0])] by kernel_rfl] at hp
    simp only [List.mem_cons, List.not_mem_nil, or_false] at hp
    rcases hp with rfl | rfl | rfl
    · exact ptOk_of rfl (regletref02_Read.j2_e k)
    · exact ptOk_of rfl (regletref02_Read.j1_e k)
    · exact ptOk_of rfl (regletref02_Read.l0_e k))
    (fun k x => by kernel_rfl) k
/-! reglet/regletref02.Runes -/
mutual
def regletref02_Runes.l0 : Nat → ByteArray → (List Int) → (List Int) → Int → Option (List Int × List Int × Int)
  | 0, _, _, _, _ => none
  | k + 1, s, l, at_, i => if (decide (i < (s.size : Int))) = true then ((regletref02_Read.f k s i).bind fun r => if (decide (r.2 = 0)) = true then (some (l, at_, i)) else (if (l.length + ([r.1] : List Int).length) * 8 ≤ 140737488355328 then (if (at_.length + ([i] : List Int).length) * 8 ≤ 140737488355328 then (regletref02_Runes.l0 k s (l ++ ([r.1] : List Int)) (at_ ++ ([i] : List Int)) (wrap64 (i + r.2))) else none) else none)) else (some (l, at_, (-1)))
end
def regletref02_Runes.f (k : Nat) (a0 : ByteArray) : Option (List Int × List Int × Int) := regletref02_Runes.l0 k a0 ([] : List Int) ([] : List Int) 0
def regletref02_Runes.sig (k : Nat) : Sig := .p [(false, .s)] [.c false y10, .c false y10, .c false (.i .i64)] fun x => regletref02_Runes.f k x.1
def regletref02_Runes.E (k : Nat) : List (Nat × Sig) := [(52, regletref02_Read.sig k)]
def regletref02_Runes.G (P : Program) : GI := ⟨P, TT, 38, 38, [], [], [], [], [], AD⟩
def regletref02_Runes.H : H := .s .n (.s .n (.s (.s .n (.s (.l 0 .n) .n)) .n))
abbrev regletref02_Runes.l0_s : Sh := [(0, .v .s), (5, .v y10), (6, .v y10), (7, .v (.i .i64))]
def regletref02_Runes.O (k : Nat) : List (Orc (denR [.c false y10, .c false y10, .c false (.i .i64)])) := [⟨regletref02_Runes.l0_s, fun y => regletref02_Runes.l0 k y.1 y.2.1 y.2.2.1 y.2.2.2.1⟩]
theorem regletref02_Runes.l0_e (k : Nat) (y : denS regletref02_Runes.l0_s) : regletref02_Runes.l0 (k + 1) y.1 y.2.1 y.2.2.1 y.2.2.2.1 = evP ((regletref02_Runes.G Try.prog).at (regletref02_Runes.E k)) (fun i => (regletref02_Runes.O k)[i]?) [1, 1, 0, 1, 0, 0] (cd Try.f28) regletref02_Runes.H (kFin ((regletref02_Runes.G Try.prog).at (regletref02_Runes.E k)) [.tmp 2, .tmp 3, .tmp 4] [.c false y10, .c false y10, .c false (.i .i64)]) (unS regletref02_Runes.l0_s y) := by rw [regletref02_Runes.l0]; kernel_rfl
theorem regletref02_Runes.go : goesTo Try.prog 28 := ⟨_, Try.func28, by kernel_rfl, rfl⟩
theorem regletref02_Runes.ok (k : Nat) : SigOk Try.prog 28 (regletref02_Runes.sig k) :=
  fn_p (G := regletref02_Runes.G Try.prog) (c := cd Try.f28) (rs := [.tmp 2, .tmp 3, .tmp 4]) (args := [(false, .s)]) (l := [.c false y10, .c false y10, .c false (.i .i64)]) (fn := Try.f28) ⟨Try.func28, by kernel_rfl, by kernel_rfl, by kernel_rfl, le_of rfl, le_of rfl, TT_ok, AD_ok⟩ rfl regletref02_Runes.E (fun k p hp => by
    simp only [regletref02_Runes.E, List.mem_cons, List.not_mem_nil, or_false] at hp
    rcases hp with rfl
    · exact ⟨regletref02_Read.ok k, regletref02_Read.go⟩)
    (fun k i => (regletref02_Runes.O k)[i]?) regletref02_Runes.H (fun k x => regletref02_Runes.f k x.1)
    (fun id o y h => by
    have h' := List.mem_of_getElem? h
    simp only [regletref02_Runes.O, List.mem_cons, List.not_mem_nil, or_false] at h'
    rcases h' with rfl <;> rfl)
    (fun k p hp => by
    rw [show pts (cd Try.f28) regletref02_Runes.H = [(0, [1, 1, 0, 1, 0, 0])] by kernel_rfl] at hp
    simp only [List.mem_cons, List.not_mem_nil, or_false] at hp
    rcases hp with rfl
    · exact ptOk_of rfl (regletref02_Runes.l0_e k))
    (fun k x => by kernel_rfl) k
/-! reglet/regletref02.Right -/
def regletref02_Right.f (k : Nat) (a0 : ByteArray) : Option Bool := (regletref02_Runes.f k a0).bind fun r => some (decide (r.2.2 < 0))
def regletref02_Right.sig (k : Nat) : Sig := .p [(false, .s)] [.c false .b] fun x => regletref02_Right.f k x.1
def regletref02_Right.E (k : Nat) : List (Nat × Sig) := [(28, regletref02_Runes.sig k)]
def regletref02_Right.G (P : Program) : GI := ⟨P, TT, 14, 14, [], [], [], [], [], AD⟩
def regletref02_Right.H : H := .n
def regletref02_Right.O (k : Nat) : List (Orc (denR [.c false .b])) := []
theorem regletref02_Right.go : goesTo Try.prog 12 := ⟨_, Try.func12, by kernel_rfl, rfl⟩
theorem regletref02_Right.ok (k : Nat) : SigOk Try.prog 12 (regletref02_Right.sig k) :=
  fn_p (G := regletref02_Right.G Try.prog) (c := cd Try.f12) (rs := [.tmp 2]) (args := [(false, .s)]) (l := [.c false .b]) (fn := Try.f12) ⟨Try.func12, by kernel_rfl, by kernel_rfl, by kernel_rfl, le_of rfl, le_of rfl, TT_ok, AD_ok⟩ rfl regletref02_Right.E (fun k p hp => by
    simp only [regletref02_Right.E, List.mem_cons, List.not_mem_nil, or_false] at hp
    rcases hp with rfl
    · exact ⟨regletref02_Runes.ok k, regletref02_Runes.go⟩)
    (fun k i => (regletref02_Right.O k)[i]?) regletref02_Right.H (fun k x => regletref02_Right.f k x.1)
    (fun id o y h => by cases id <;> cases h)
    (fun k p hp => by rw [show pts (cd Try.f12) regletref02_Right.H = [] by kernel_rfl] at hp; nomatch hp)
    (fun k x => by kernel_rfl) k
/-! reglet/runes.low -/
def runes_low.f (k : Nat) (a0 : Int) (a1 : Int) : Option Int := if 0 ≤ a1 then (some (orI .u8 (128 : Int) (andI .u8 (IntKind.u8.wrap (shrI .i32 a0 a1)) (63 : Int)))) else none
def runes_low.sig (k : Nat) : Sig := .p [(false, (.i .i32)), (false, (.i .i64))] [.c false (.i .u8)] fun x => runes_low.f k x.1 x.2.1
def runes_low.E (k : Nat) : List (Nat × Sig) := []
def runes_low.G (P : Program) : GI := ⟨P, TT, 11, 11, [], [], [], [], [], AD⟩
def runes_low.H : H := .n
def runes_low.O (k : Nat) : List (Orc (denR [.c false (.i .u8)])) := []
theorem runes_low.go : goesTo Try.prog 53 := ⟨_, Try.func53, by kernel_rfl, rfl⟩
theorem runes_low.ok (k : Nat) : SigOk Try.prog 53 (runes_low.sig k) :=
  fn_p (G := runes_low.G Try.prog) (c := cd Try.f53) (rs := [.tmp 4]) (args := [(false, (.i .i32)), (false, (.i .i64))]) (l := [.c false (.i .u8)]) (fn := Try.f53) ⟨Try.func53, by kernel_rfl, by kernel_rfl, by kernel_rfl, le_of rfl, le_of rfl, TT_ok, AD_ok⟩ rfl runes_low.E (fun k p hp => nomatch hp)
    (fun k i => (runes_low.O k)[i]?) runes_low.H (fun k x => runes_low.f k x.1 x.2.1)
    (fun id o y h => by cases id <;> cases h)
    (fun k p hp => by rw [show pts (cd Try.f53) runes_low.H = [] by kernel_rfl] at hp; nomatch hp)
    (fun k x => by kernel_rfl) k
/-! reglet/runes.Append -/
mutual
def runes_Append.j0 : Nat → Int → (List Int) → Option (List Int)
  | 0, _, _ => none
  | k + 1, t, t2 => (runes_low.f k t 12).bind fun r7 => (runes_low.f k t 6).bind fun r8 => (runes_low.f k t 0).bind fun r9 => if (t2.length + ([orI .u8 (240 : Int) (IntKind.u8.wrap (shrI .i32 t (18 : Int))), r7, r8, r9] : List Int).length) * 1 ≤ 140737488355328 then (some (t2 ++ ([orI .u8 (240 : Int) (IntKind.u8.wrap (shrI .i32 t (18 : Int))), r7, r8, r9] : List Int))) else none
end
def runes_Append.f (k : Nat) (a0 : List Int) (a1 : Int) : Option (List Int) := if (([] : List Int).length + a0.length) * 1 ≤ 140737488355328 then (if (decide (a1 < 0)) = true then (some (([] : List Int) ++ a0)) else (if (decide (1114111 < a1)) = true then (some (([] : List Int) ++ a0)) else (if (decide (55296 ≤ a1)) = true then (if (decide (a1 < 57344)) = true then (some (([] : List Int) ++ a0)) else (if (decide (a1 < 128)) = true then (if ((([] : List Int) ++ a0).length + ([IntKind.u8.wrap (a1)] : List Int).length) * 1 ≤ 140737488355328 then (some ((([] : List Int) ++ a0) ++ ([IntKind.u8.wrap (a1)] : List Int))) else none) else (if (decide (a1 < 2048)) = true then ((runes_low.f k a1 0).bind fun r => if ((([] : List Int) ++ a0).length + ([orI .u8 (192 : Int) (IntKind.u8.wrap (shrI .i32 a1 (6 : Int))), r] : List Int).length) * 1 ≤ 140737488355328 then (some ((([] : List Int) ++ a0) ++ ([orI .u8 (192 : Int) (IntKind.u8.wrap (shrI .i32 a1 (6 : Int))), r] : List Int))) else none) else (if (decide (a1 < 65536)) = true then ((runes_low.f k a1 6).bind fun r2 => (runes_low.f k a1 0).bind fun r3 => if ((([] : List Int) ++ a0).length + ([orI .u8 (224 : Int) (IntKind.u8.wrap (shrI .i32 a1 (12 : Int))), r2, r3] : List Int).length) * 1 ≤ 140737488355328 then (some ((([] : List Int) ++ a0) ++ ([orI .u8 (224 : Int) (IntKind.u8.wrap (shrI .i32 a1 (12 : Int))), r2, r3] : List Int))) else none) else (runes_Append.j0 k a1 (([] : List Int) ++ a0)))))) else (if (decide (a1 < 128)) = true then (if ((([] : List Int) ++ a0).length + ([IntKind.u8.wrap (a1)] : List Int).length) * 1 ≤ 140737488355328 then (some ((([] : List Int) ++ a0) ++ ([IntKind.u8.wrap (a1)] : List Int))) else none) else (if (decide (a1 < 2048)) = true then ((runes_low.f k a1 0).bind fun r4 => if ((([] : List Int) ++ a0).length + ([orI .u8 (192 : Int) (IntKind.u8.wrap (shrI .i32 a1 (6 : Int))), r4] : List Int).length) * 1 ≤ 140737488355328 then (some ((([] : List Int) ++ a0) ++ ([orI .u8 (192 : Int) (IntKind.u8.wrap (shrI .i32 a1 (6 : Int))), r4] : List Int))) else none) else (if (decide (a1 < 65536)) = true then ((runes_low.f k a1 6).bind fun r5 => (runes_low.f k a1 0).bind fun r6 => if ((([] : List Int) ++ a0).length + ([orI .u8 (224 : Int) (IntKind.u8.wrap (shrI .i32 a1 (12 : Int))), r5, r6] : List Int).length) * 1 ≤ 140737488355328 then (some ((([] : List Int) ++ a0) ++ ([orI .u8 (224 : Int) (IntKind.u8.wrap (shrI .i32 a1 (12 : Int))), r5, r6] : List Int))) else none) else (runes_Append.j0 k a1 (([] : List Int) ++ a0)))))))) else none
def runes_Append.sig (k : Nat) : Sig := .p [(false, y127), (false, (.i .i32))] [.c false y126] fun x => runes_Append.f k x.1 x.2.1
def runes_Append.E (k : Nat) : List (Nat × Sig) := [(53, runes_low.sig k)]
def runes_Append.G (P : Program) : GI := ⟨P, TT, 72, 72, [], [], [], [], [], AD⟩
def runes_Append.H : H := .s .n (.s .n (.j 0 .n .n))
abbrev runes_Append.j0_s : Sh := [(1, .v (.i .i32)), (5, .v y126)]
def runes_Append.O (k : Nat) : List (Orc (denR [.c false y126])) := [⟨runes_Append.j0_s, fun y => runes_Append.j0 k y.1 y.2.1⟩]
theorem runes_Append.j0_e (k : Nat) (y : denS runes_Append.j0_s) : runes_Append.j0 (k + 1) y.1 y.2.1 = evP ((runes_Append.G Try.prog).at (runes_Append.E k)) (fun i => (runes_Append.O k)[i]?) [1, 1, 1] (cd Try.f30) runes_Append.H (kFin ((runes_Append.G Try.prog).at (runes_Append.E k)) [.tmp 4] [.c false y126]) (unS runes_Append.j0_s y) := by rw [runes_Append.j0]; kernel_rfl
theorem runes_Append.go : goesTo Try.prog 30 := ⟨_, Try.func30, by kernel_rfl, rfl⟩
theorem runes_Append.ok (k : Nat) : SigOk Try.prog 30 (runes_Append.sig k) :=
  fn_p (G := runes_Append.G Try.prog) (c := cd Try.f30) (rs := [.tmp 4]) (args := [(false, y127), (false, (.i .i32))]) (l := [.c false y126]) (fn := Try.f30) ⟨Try.func30, by kernel_rfl, by kernel_rfl, by kernel_rfl, le_of rfl, le_of rfl, TT_ok, AD_ok⟩ rfl runes_Append.E (fun k p hp => by
    simp only [runes_Append.E, List.mem_cons, List.not_mem_nil, or_false] at hp
    rcases hp with rfl
    · exact ⟨runes_low.ok k, runes_low.go⟩)
    (fun k i => (runes_Append.O k)[i]?) runes_Append.H (fun k x => runes_Append.f k x.1 x.2.1)
    (fun id o y h => by
    have h' := List.mem_of_getElem? h
    simp only [runes_Append.O, List.mem_cons, List.not_mem_nil, or_false] at h'
    rcases h' with rfl <;> rfl)
    (fun k p hp => by
    rw [show pts (cd Try.f30) runes_Append.H = [(0, [1, 1, 1])] by kernel_rfl] at hp
    simp only [List.mem_cons, List.not_mem_nil, or_false] at hp
    rcases hp with rfl
    · exact ptOk_of rfl (runes_Append.j0_e k))
    (fun k x => by kernel_rfl) k
/-! reglet/lines.Shown -/
mutual
def lines_Shown.l0 : Nat → (List Int) → Int → (ByteArray × Nat) → (ByteArray × List api_Run × Int × Int × Int × Bool × Int × Bool × Bool) → Option ByteArray
  | 0, _, _, _, _ => none
  | k + 1, out, kept, t, l => if t.2 < t.1.size then ((runes_Kind.f k ((Utf8.decode t.1 t.2).1 : Int)).bind fun r => if (decide (r = 3)) = true then (lines_Shown.j1 k out kept ((Utf8.decode t.1 t.2).1 : Int) (t.1, (t.2 + (Utf8.decode t.1 t.2).2)) true l) else (if (decide (r = 4)) = true then (lines_Shown.j1 k out kept ((Utf8.decode t.1 t.2).1 : Int) (t.1, (t.2 + (Utf8.decode t.1 t.2).2)) true l) else (if (decide (r = 5)) = true then (lines_Shown.j1 k out kept ((Utf8.decode t.1 t.2).1 : Int) (t.1, (t.2 + (Utf8.decode t.1 t.2).2)) true l) else (if (decide (r = 7)) = true then (lines_Shown.j1 k out kept ((Utf8.decode t.1 t.2).1 : Int) (t.1, (t.2 + (Utf8.decode t.1 t.2).2)) true l) else (lines_Shown.j1 k out kept ((Utf8.decode t.1 t.2).1 : Int) (t.1, (t.2 + (Utf8.decode t.1 t.2).2)) (decide (r = 8)) l))))) else (if 0 ≤ kept ∧ kept ≤ (out.length : Int) then (if l.2.2.2.2.2.1 = true then (if ((out.take kept.toNat).length + ([45] : List Int).length) * 1 ≤ 140737488355328 then (lines_Shown.j2 k ((out.take kept.toNat) ++ ([45] : List Int))) else none) else (lines_Shown.j2 k (out.take kept.toNat))) else none)
def lines_Shown.j1 : Nat → (List Int) → Int → Int → (ByteArray × Nat) → Bool → (ByteArray × List api_Run × Int × Int × Int × Bool × Int × Bool × Bool) → Option ByteArray
  | 0, _, _, _, _, _, _ => none
  | k + 1, out2, kept2, r2, t2, t3, l2 => if t3 = true then (lines_Shown.l0 k out2 kept2 (t2.1, t2.2) l2) else ((runes_Append.f k out2 r2).bind fun r3 => (runes_Kind.f k r2).bind fun r4 => if (!decide (r4 = 1)) = true then (lines_Shown.l0 k r3 (r3.length : Int) (t2.1, t2.2) l2) else (lines_Shown.l0 k r3 kept2 (t2.1, t2.2) l2))
def lines_Shown.j2 : Nat → (List Int) → Option ByteArray
  | 0, _ => none
  | k + 1, out3 => some (strOfNums out3)
end
def lines_Shown.f (k : Nat) (a0 : ByteArray × List api_Run × Int × Int × Int × Bool × Int × Bool × Bool) : Option ByteArray := lines_Shown.l0 k ([] : List Int) 0 (a0.1, 0) a0
def lines_Shown.sig (k : Nat) : Sig := .p [(true, y121)] [.c false .s] fun x => lines_Shown.f k x.1
def lines_Shown.E (k : Nat) : List (Nat × Sig) := [(29, runes_Kind.sig k), (30, runes_Append.sig k)]
def lines_Shown.G (P : Program) : GI := ⟨P, TT, 39, 48, [(1, 39, 9)], [], [31], [], [], AD⟩
def lines_Shown.H : H := .s .n (.s .n (.s .n (.s (.s .n (.s (.l 0 (.s .n (.s .n (.s (.s .n (.s (.s .n (.s (.j 1 .n .n) .n)) .n)) .n)))) .n)) (.s .n (.j 2 .n .n)))))
abbrev lines_Shown.l0_s : Sh := [(1, .at_ 39), (3, .v y126), (4, .v (.i .i64)), (9, .it), (39, .box y121)]
abbrev lines_Shown.j1_s : Sh := [(1, .at_ 39), (3, .v y126), (4, .v (.i .i64)), (6, .v (.i .i32)), (9, .it), (15, .v .b), (39, .box y121)]
abbrev lines_Shown.j2_s : Sh := [(3, .v y126)]
def lines_Shown.O (k : Nat) : List (Orc (denR [.c false .s])) := [⟨lines_Shown.l0_s, fun y => lines_Shown.l0 k y.2.1 y.2.2.1 y.2.2.2.1 y.2.2.2.2.1⟩, ⟨lines_Shown.j1_s, fun y => lines_Shown.j1 k y.2.1 y.2.2.1 y.2.2.2.1 y.2.2.2.2.1 y.2.2.2.2.2.1 y.2.2.2.2.2.2.1⟩, ⟨lines_Shown.j2_s, fun y => lines_Shown.j2 k y.1⟩]
theorem lines_Shown.j1_e (k : Nat) (y : denS lines_Shown.j1_s) : lines_Shown.j1 (k + 1) y.2.1 y.2.2.1 y.2.2.2.1 y.2.2.2.2.1 y.2.2.2.2.2.1 y.2.2.2.2.2.2.1 = evP ((lines_Shown.G Try.prog).at (lines_Shown.E k)) (fun i => (lines_Shown.O k)[i]?) [1, 1, 1, 0, 1, 0, 0, 1, 1, 0, 1, 0, 1, 0, 1] (cd Try.f16) lines_Shown.H (kFin ((lines_Shown.G Try.prog).at (lines_Shown.E k)) [.tmp 2] [.c false .s]) (unS lines_Shown.j1_s y) := by rw [lines_Shown.j1]; kernel_rfl
theorem lines_Shown.l0_e (k : Nat) (y : denS lines_Shown.l0_s) : lines_Shown.l0 (k + 1) y.2.1 y.2.2.1 y.2.2.2.1 y.2.2.2.2.1 = evP ((lines_Shown.G Try.prog).at (lines_Shown.E k)) (fun i => (lines_Shown.O k)[i]?) [1, 1, 1, 0, 1, 0, 0] (cd Try.f16) lines_Shown.H (kFin ((lines_Shown.G Try.prog).at (lines_Shown.E k)) [.tmp 2] [.c false .s]) (unS lines_Shown.l0_s y) := by rw [lines_Shown.l0]; kernel_rfl
theorem lines_Shown.j2_e (k : Nat) (y : denS lines_Shown.j2_s) : lines_Shown.j2 (k + 1) y.1 = evP ((lines_Shown.G Try.prog).at (lines_Shown.E k)) (fun i => (lines_Shown.O k)[i]?) [1, 1, 1, 1, 1, 1] (cd Try.f16) lines_Shown.H (kFin ((lines_Shown.G Try.prog).at (lines_Shown.E k)) [.tmp 2] [.c false .s]) (unS lines_Shown.j2_s y) := by rw [lines_Shown.j2]; kernel_rfl
theorem lines_Shown.go : goesTo Try.prog 16 := ⟨_, Try.func16, by kernel_rfl, rfl⟩
theorem lines_Shown.ok (k : Nat) : SigOk Try.prog 16 (lines_Shown.sig k) :=
  fn_p (G := lines_Shown.G Try.prog) (c := cd Try.f16) (rs := [.tmp 2]) (args := [(true, y121)]) (l := [.c false .s]) (fn := Try.f16) ⟨Try.func16, by kernel_rfl, by kernel_rfl, by kernel_rfl, le_of rfl, le_of rfl, TT_ok, AD_ok⟩ rfl lines_Shown.E (fun k p hp => by
    simp only [lines_Shown.E, List.mem_cons, List.not_mem_nil, or_false] at hp
    rcases hp with rfl | rfl
    · exact ⟨runes_Kind.ok k, runes_Kind.go⟩
    · exact ⟨runes_Append.ok k, runes_Append.go⟩)
    (fun k i => (lines_Shown.O k)[i]?) lines_Shown.H (fun k x => lines_Shown.f k x.1)
    (fun id o y h => by
    have h' := List.mem_of_getElem? h
    simp only [lines_Shown.O, List.mem_cons, List.not_mem_nil, or_false] at h'
    rcases h' with rfl | rfl | rfl <;> rfl)
    (fun k p hp => by
    rw [show pts (cd Try.f16) lines_Shown.H = [(1, [1, 1, 1, 0, 1, 0, 0, 1, 1, 0, 1, 0, 1, 0, 1]), (0, [1, 1, 1, 0, 1, 0, 0]), (2, [1, 1, 1, 1, 1, 1])] by kernel_rfl] at hp
    simp only [List.mem_cons, List.not_mem_nil, or_false] at hp
    rcases hp with rfl | rfl | rfl
    · exact ptOk_of rfl (lines_Shown.j1_e k)
    · exact ptOk_of rfl (lines_Shown.l0_e k)
    · exact ptOk_of rfl (lines_Shown.j2_e k))
    (fun k x => by kernel_rfl) k
/-! reglet/regletref02.Kind -/
mutual
def regletref02_Kind.l0 : Nat → Int → (List (List Int)) → Int → Option Int
  | 0, _, _, _ => none
  | k + 1, r, kinds, k_ => if (decide (k_ < (kinds.length : Int))) = true then (regletref02_Kind.l1 k r kinds k_ 0) else (some 0)
def regletref02_Kind.l1 : Nat → Int → (List (List Int)) → Int → Int → Option Int
  | 0, _, _, _, _ => none
  | k + 1, r2, kinds2, k_2, i => (at? kinds2 k_2).bind fun e => if (decide (i < (e.length : Int))) = true then ((at? kinds2 k_2).bind fun e2 => (at? e2 i).bind fun e3 => if (decide (e3 = r2)) = true then (some k_2) else (regletref02_Kind.l1 k r2 kinds2 k_2 (wrap64 (i + 1)))) else (regletref02_Kind.l0 k r2 kinds2 (wrap64 (k_2 + 1)))
end
def regletref02_Kind.f (k : Nat) (a0 : Int) : Option Int := regletref02_Kind.l0 k a0 ([([] : List Int), ([32, 9] : List Int), ([160, 8239] : List Int), ([173] : List Int), ([8203] : List Int), ([8288, 65279] : List Int), ([45, 8208] : List Int), ([8232] : List Int), ([10] : List Int)] : List (List Int)) 1
def regletref02_Kind.sig (k : Nat) : Sig := .p [(false, (.i .i64))] [.c false (.i .i64)] fun x => regletref02_Kind.f k x.1
def regletref02_Kind.E (k : Nat) : List (Nat × Sig) := []
def regletref02_Kind.G (P : Program) : GI := ⟨P, TT, 41, 41, [], [], [], [], [], AD⟩
def regletref02_Kind.H : H := .s .n (.s .n (.s (.s .n (.s (.l 0 (.s .n (.s (.s (.s .n (.s (.l 1 (.s (.s (.f 3 .n) .n) .n)) .n)) .n) .n))) .n)) .n))
abbrev regletref02_Kind.l0_s : Sh := [(0, .v (.i .i64)), (3, .v y128), (4, .v (.i .i64))]
abbrev regletref02_Kind.l1_s : Sh := [(0, .v (.i .i64)), (3, .v y128), (4, .v (.i .i64)), (5, .v (.i .i64))]
def regletref02_Kind.O (k : Nat) : List (Orc (denR [.c false (.i .i64)])) := [⟨regletref02_Kind.l0_s, fun y => regletref02_Kind.l0 k y.1 y.2.1 y.2.2.1⟩, ⟨regletref02_Kind.l1_s, fun y => regletref02_Kind.l1 k y.1 y.2.1 y.2.2.1 y.2.2.2.1⟩]
theorem regletref02_Kind.l1_e (k : Nat) (y : denS regletref02_Kind.l1_s) : regletref02_Kind.l1 (k + 1) y.1 y.2.1 y.2.2.1 y.2.2.2.1 = evP ((regletref02_Kind.G Try.prog).at (regletref02_Kind.E k)) (fun i => (regletref02_Kind.O k)[i]?) [1, 1, 0, 1, 0, 0, 1, 0, 0, 1, 0, 0] (cd Try.f31) regletref02_Kind.H (kFin ((regletref02_Kind.G Try.prog).at (regletref02_Kind.E k)) [.tmp 2] [.c false (.i .i64)]) (unS regletref02_Kind.l1_s y) := by rw [regletref02_Kind.l1]; kernel_rfl
theorem regletref02_Kind.l0_e (k : Nat) (y : denS regletref02_Kind.l0_s) : regletref02_Kind.l0 (k + 1) y.1 y.2.1 y.2.2.1 = evP ((regletref02_Kind.G Try.prog).at (regletref02_Kind.E k)) (fun i => (regletref02_Kind.O k)[i]?) [1, 1, 0, 1, 0, 0] (cd Try.f31) regletref02_Kind.H (kFin ((regletref02_Kind.G Try.prog).at (regletref02_Kind.E k)) [.tmp 2] [.c false (.i .i64)]) (unS regletref02_Kind.l0_s y) := by rw [regletref02_Kind.l0]; kernel_rfl
theorem regletref02_Kind.go : goesTo Try.prog 31 := ⟨_, Try.func31, by kernel_rfl, rfl⟩
theorem regletref02_Kind.ok (k : Nat) : SigOk Try.prog 31 (regletref02_Kind.sig k) :=
  fn_p (G := regletref02_Kind.G Try.prog) (c := cd Try.f31) (rs := [.tmp 2]) (args := [(false, (.i .i64))]) (l := [.c false (.i .i64)]) (fn := Try.f31) ⟨Try.func31, by kernel_rfl, by kernel_rfl, by kernel_rfl, le_of rfl, le_of rfl, TT_ok, AD_ok⟩ rfl regletref02_Kind.E (fun k p hp => nomatch hp)
    (fun k i => (regletref02_Kind.O k)[i]?) regletref02_Kind.H (fun k x => regletref02_Kind.f k x.1)
    (fun id o y h => by
    have h' := List.mem_of_getElem? h
    simp only [regletref02_Kind.O, List.mem_cons, List.not_mem_nil, or_false] at h'
    rcases h' with rfl | rfl <;> rfl)
    (fun k p hp => by
    rw [show pts (cd Try.f31) regletref02_Kind.H = [(1, [1, 1, 0, 1, 0, 0, 1, 0, 0, 1, 0, 0]), (0, [1, 1, 0, 1, 0, 0])] by kernel_rfl] at hp
    simp only [List.mem_cons, List.not_mem_nil, or_false] at hp
    rcases hp with rfl | rfl
    · exact ptOk_of rfl (regletref02_Kind.l1_e k)
    · exact ptOk_of rfl (regletref02_Kind.l0_e k))
    (fun k x => by kernel_rfl) k
/-! reglet/regletref10.Shown -/
mutual
def regletref10_Shown.l0 : Nat → (List Int) → (List Int) → Int → (ByteArray × List api_Run × Int × Int × Int × Bool × Int × Bool × Bool) → Option ByteArray
  | 0, _, _, _, _ => none
  | k + 1, t, t2, t3, t4 => if (decide (t3 < (t.length : Int))) = true then (if 0 ≤ t3 ∧ t3 < (t.length : Int) then ((t[t3.toNat]?).bind fun e => (regletref02_Kind.f k e).bind fun r2 => if (decide (r2 = 3)) = true then (regletref10_Shown.j1 k t t2 t3 true t4) else (if (decide (r2 = 4)) = true then (regletref10_Shown.j1 k t t2 t3 true t4) else (if (decide (r2 = 5)) = true then (regletref10_Shown.j1 k t t2 t3 true t4) else (if (decide (r2 = 7)) = true then (regletref10_Shown.j1 k t t2 t3 true t4) else (regletref10_Shown.j1 k t t2 t3 (decide (r2 = 8)) t4))))) else none) else (regletref10_Shown.l2 k t2 (t2.length : Int) t4)
def regletref10_Shown.j1 : Nat → (List Int) → (List Int) → Int → Bool → (ByteArray × List api_Run × Int × Int × Int × Bool × Int × Bool × Bool) → Option ByteArray
  | 0, _, _, _, _, _ => none
  | k + 1, t5, t6, t7, t8, t9 => if t8 = true then (regletref10_Shown.j3 k t5 t6 t7 t9) else (if 0 ≤ t7 ∧ t7 < (t5.length : Int) then ((t5[t7.toNat]?).bind fun e2 => if (t6.length + ([e2] : List Int).length) * 8 ≤ 140737488355328 then (regletref10_Shown.j3 k t5 (t6 ++ ([e2] : List Int)) t7 t9) else none) else none)
def regletref10_Shown.l2 : Nat → (List Int) → Int → (ByteArray × List api_Run × Int × Int × Int × Bool × Int × Bool × Bool) → Option ByteArray
  | 0, _, _, _ => none
  | k + 1, t10, t11, t12 => if (decide (0 < t11)) = true then (if 0 ≤ (wrap64 (t11 - 1)) ∧ (wrap64 (t11 - 1)) < (t10.length : Int) then ((t10[(wrap64 (t11 - 1)).toNat]?).bind fun e3 => (regletref02_Kind.f k e3).bind fun r3 => if (decide (r3 = 1)) = true then (regletref10_Shown.j4 k t10 t11 t12) else (regletref10_Shown.j5 k t10 t11 t12)) else none) else (regletref10_Shown.j5 k t10 t11 t12)
def regletref10_Shown.j3 : Nat → (List Int) → (List Int) → Int → (ByteArray × List api_Run × Int × Int × Int × Bool × Int × Bool × Bool) → Option ByteArray
  | 0, _, _, _, _ => none
  | k + 1, t13, t14, t15, t16 => regletref10_Shown.l0 k t13 t14 (wrap64 (t15 + 1)) t16
def regletref10_Shown.j4 : Nat → (List Int) → Int → (ByteArray × List api_Run × Int × Int × Int × Bool × Int × Bool × Bool) → Option ByteArray
  | 0, _, _, _ => none
  | k + 1, t17, t18, t19 => regletref10_Shown.l2 k t17 (wrap64 (t18 - 1)) t19
def regletref10_Shown.j5 : Nat → (List Int) → Int → (ByteArray × List api_Run × Int × Int × Int × Bool × Int × Bool × Bool) → Option ByteArray
  | 0, _, _, _ => none
  | k + 1, t20, t21, t22 => regletref10_Shown.l6 k t20 t21 ([] : List Int) 0 t22
def regletref10_Shown.l6 : Nat → (List Int) → Int → (List Int) → Int → (ByteArray × List api_Run × Int × Int × Int × Bool × Int × Bool × Bool) → Option ByteArray
  | 0, _, _, _, _, _ => none
  | k + 1, t23, t24, t25, t26, t27 => if (decide (t26 < t24)) = true then (if 0 ≤ t26 ∧ t26 < (t23.length : Int) then ((t23[t26.toNat]?).bind fun e4 => (regletref02_Bytes.f k e4).bind fun r4 => regletref10_Shown.l7 k t23 t24 t25 t26 r4 0 t27) else none) else (if t27.2.2.2.2.2.1 = true then (if (t25.length + ([45] : List Int).length) * 1 ≤ 140737488355328 then (regletref10_Shown.j8 k (t25 ++ ([45] : List Int))) else none) else (regletref10_Shown.j8 k t25))
def regletref10_Shown.l7 : Nat → (List Int) → Int → (List Int) → Int → (List Int) → Int → (ByteArray × List api_Run × Int × Int × Int × Bool × Int × Bool × Bool) → Option ByteArray
  | 0, _, _, _, _, _, _, _ => none
  | k + 1, t28, t29, t30, t31, t32, t33, t34 => if (decide (t33 < (t32.length : Int))) = true then (if 0 ≤ t33 ∧ t33 < (t32.length : Int) then ((t32[t33.toNat]?).bind fun e5 => if (t30.length + ([IntKind.u8.wrap (e5)] : List Int).length) * 1 ≤ 140737488355328 then (regletref10_Shown.l7 k t28 t29 (t30 ++ ([IntKind.u8.wrap (e5)] : List Int)) t31 t32 (wrap64 (t33 + 1)) t34) else none) else none) else (regletref10_Shown.l6 k t28 t29 t30 (wrap64 (t31 + 1)) t34)
def regletref10_Shown.j8 : Nat → (List Int) → Option ByteArray
  | 0, _ => none
  | k + 1, t35 => some (strOfNums t35)
end
def regletref10_Shown.f (k : Nat) (a0 : ByteArray × List api_Run × Int × Int × Int × Bool × Int × Bool × Bool) : Option ByteArray := (regletref02_Runes.f k a0.1).bind fun r => regletref10_Shown.l0 k r.1 ([] : List Int) 0 a0
def regletref10_Shown.sig (k : Nat) : Sig := .p [(true, y121)] [.c false .s] fun x => regletref10_Shown.f k x.1
def regletref10_Shown.E (k : Nat) : List (Nat × Sig) := [(28, regletref02_Runes.sig k), (31, regletref02_Kind.sig k), (32, regletref02_Bytes.sig k)]
def regletref10_Shown.G (P : Program) : GI := ⟨P, TT, 90, 99, [(1, 90, 9)], [], [], [], [], AD⟩
def regletref10_Shown.H : H := .s .n (.s .n (.s .n (.s (.s .n (.s (.l 0 (.s .n (.j 3 (.s (.s .n (.s (.j 1 .n .n) .n)) .n) .n))) .n)) (.s .n (.j 5 (.s (.l 2 (.j 4 .n .n)) .n) (.s .n (.s (.s .n (.s (.l 6 (.s .n (.s (.s (.s .n (.s .n (.s (.l 7 .n) .n))) .n) .n))) .n)) (.j 8 .n .n))))))))
abbrev regletref10_Shown.l0_s : Sh := [(1, .at_ 90), (3, .v y10), (6, .v y10), (7, .v (.i .i64)), (90, .box y121)]
abbrev regletref10_Shown.j1_s : Sh := [(1, .at_ 90), (3, .v y10), (6, .v y10), (7, .v (.i .i64)), (38, .v .b), (90, .box y121)]
abbrev regletref10_Shown.l2_s : Sh := [(1, .at_ 90), (6, .v y10), (8, .v (.i .i64)), (90, .box y121)]
abbrev regletref10_Shown.j3_s : Sh := [(1, .at_ 90), (3, .v y10), (6, .v y10), (7, .v (.i .i64)), (90, .box y121)]
abbrev regletref10_Shown.j4_s : Sh := [(1, .at_ 90), (6, .v y10), (8, .v (.i .i64)), (90, .box y121)]
abbrev regletref10_Shown.j5_s : Sh := [(1, .at_ 90), (6, .v y10), (8, .v (.i .i64)), (90, .box y121)]
abbrev regletref10_Shown.l6_s : Sh := [(1, .at_ 90), (6, .v y10), (8, .v (.i .i64)), (9, .v y126), (10, .v (.i .i64)), (90, .box y121)]
abbrev regletref10_Shown.l7_s : Sh := [(1, .at_ 90), (6, .v y10), (8, .v (.i .i64)), (9, .v y126), (10, .v (.i .i64)), (11, .v y10), (12, .v (.i .i64)), (90, .box y121)]
abbrev regletref10_Shown.j8_s : Sh := [(9, .v y126)]
def regletref10_Shown.O (k : Nat) : List (Orc (denR [.c false .s])) := [⟨regletref10_Shown.l0_s, fun y => regletref10_Shown.l0 k y.2.1 y.2.2.1 y.2.2.2.1 y.2.2.2.2.1⟩, ⟨regletref10_Shown.j1_s, fun y => regletref10_Shown.j1 k y.2.1 y.2.2.1 y.2.2.2.1 y.2.2.2.2.1 y.2.2.2.2.2.1⟩, ⟨regletref10_Shown.l2_s, fun y => regletref10_Shown.l2 k y.2.1 y.2.2.1 y.2.2.2.1⟩, ⟨regletref10_Shown.j3_s, fun y => regletref10_Shown.j3 k y.2.1 y.2.2.1 y.2.2.2.1 y.2.2.2.2.1⟩, ⟨regletref10_Shown.j4_s, fun y => regletref10_Shown.j4 k y.2.1 y.2.2.1 y.2.2.2.1⟩, ⟨regletref10_Shown.j5_s, fun y => regletref10_Shown.j5 k y.2.1 y.2.2.1 y.2.2.2.1⟩, ⟨regletref10_Shown.l6_s, fun y => regletref10_Shown.l6 k y.2.1 y.2.2.1 y.2.2.2.1 y.2.2.2.2.1 y.2.2.2.2.2.1⟩, ⟨regletref10_Shown.l7_s, fun y => regletref10_Shown.l7 k y.2.1 y.2.2.1 y.2.2.2.1 y.2.2.2.2.1 y.2.2.2.2.2.1 y.2.2.2.2.2.2.1 y.2.2.2.2.2.2.2.1⟩, ⟨regletref10_Shown.j8_s, fun y => regletref10_Shown.j8 k y.1⟩]
theorem regletref10_Shown.j1_e (k : Nat) (y : denS regletref10_Shown.j1_s) : regletref10_Shown.j1 (k + 1) y.2.1 y.2.2.1 y.2.2.2.1 y.2.2.2.2.1 y.2.2.2.2.2.1 = evP ((regletref10_Shown.G Try.prog).at (regletref10_Shown.E k)) (fun i => (regletref10_Shown.O k)[i]?) [1, 1, 1, 0, 1, 0, 0, 1, 0, 0, 1, 0, 1] (cd Try.f17) regletref10_Shown.H (kFin ((regletref10_Shown.G Try.prog).at (regletref10_Shown.E k)) [.tmp 2] [.c false .s]) (unS regletref10_Shown.j1_s y) := by rw [regletref10_Shown.j1]; kernel_rfl
theorem regletref10_Shown.j3_e (k : Nat) (y : denS regletref10_Shown.j3_s) : regletref10_Shown.j3 (k + 1) y.2.1 y.2.2.1 y.2.2.2.1 y.2.2.2.2.1 = evP ((regletref10_Shown.G Try.prog).at (regletref10_Shown.E k)) (fun i => (regletref10_Shown.O k)[i]?) [1, 1, 1, 0, 1, 0, 0, 1, 1] (cd Try.f17) regletref10_Shown.H (kFin ((regletref10_Shown.G Try.prog).at (regletref10_Shown.E k)) [.tmp 2] [.c false .s]) (unS regletref10_Shown.j3_s y) := by rw [regletref10_Shown.j3]; kernel_rfl
theorem regletref10_Shown.l0_e (k : Nat) (y : denS regletref10_Shown.l0_s) : regletref10_Shown.l0 (k + 1) y.2.1 y.2.2.1 y.2.2.2.1 y.2.2.2.2.1 = evP ((regletref10_Shown.G Try.prog).at (regletref10_Shown.E k)) (fun i => (regletref10_Shown.O k)[i]?) [1, 1, 1, 0, 1, 0, 0] (cd Try.f17) regletref10_Shown.H (kFin ((regletref10_Shown.G Try.prog).at (regletref10_Shown.E k)) [.tmp 2] [.c false .s]) (unS regletref10_Shown.l0_s y) := by rw [regletref10_Shown.l0]; kernel_rfl
theorem regletref10_Shown.j4_e (k : Nat) (y : denS regletref10_Shown.j4_s) : regletref10_Shown.j4 (k + 1) y.2.1 y.2.2.1 y.2.2.2.1 = evP ((regletref10_Shown.G Try.prog).at (regletref10_Shown.E k)) (fun i => (regletref10_Shown.O k)[i]?) [1, 1, 1, 1, 1, 0, 0, 0, 1] (cd Try.f17) regletref10_Shown.H (kFin ((regletref10_Shown.G Try.prog).at (regletref10_Shown.E k)) [.tmp 2] [.c false .s]) (unS regletref10_Shown.j4_s y) := by rw [regletref10_Shown.j4]; kernel_rfl
theorem regletref10_Shown.l2_e (k : Nat) (y : denS regletref10_Shown.l2_s) : regletref10_Shown.l2 (k + 1) y.2.1 y.2.2.1 y.2.2.2.1 = evP ((regletref10_Shown.G Try.prog).at (regletref10_Shown.E k)) (fun i => (regletref10_Shown.O k)[i]?) [1, 1, 1, 1, 1, 0, 0, 0] (cd Try.f17) regletref10_Shown.H (kFin ((regletref10_Shown.G Try.prog).at (regletref10_Shown.E k)) [.tmp 2] [.c false .s]) (unS regletref10_Shown.l2_s y) := by rw [regletref10_Shown.l2]; kernel_rfl
theorem regletref10_Shown.l7_e (k : Nat) (y : denS regletref10_Shown.l7_s) : regletref10_Shown.l7 (k + 1) y.2.1 y.2.2.1 y.2.2.2.1 y.2.2.2.2.1 y.2.2.2.2.2.1 y.2.2.2.2.2.2.1 y.2.2.2.2.2.2.2.1 = evP ((regletref10_Shown.G Try.prog).at (regletref10_Shown.E k)) (fun i => (regletref10_Shown.O k)[i]?) [1, 1, 1, 1, 1, 1, 1, 0, 1, 0, 0, 1, 0, 0, 1, 1, 0, 0] (cd Try.f17) regletref10_Shown.H (kFin ((regletref10_Shown.G Try.prog).at (regletref10_Shown.E k)) [.tmp 2] [.c false .s]) (unS regletref10_Shown.l7_s y) := by rw [regletref10_Shown.l7]; kernel_rfl
theorem regletref10_Shown.l6_e (k : Nat) (y : denS regletref10_Shown.l6_s) : regletref10_Shown.l6 (k + 1) y.2.1 y.2.2.1 y.2.2.2.1 y.2.2.2.2.1 y.2.2.2.2.2.1 = evP ((regletref10_Shown.G Try.prog).at (regletref10_Shown.E k)) (fun i => (regletref10_Shown.O k)[i]?) [1, 1, 1, 1, 1, 1, 1, 0, 1, 0, 0] (cd Try.f17) regletref10_Shown.H (kFin ((regletref10_Shown.G Try.prog).at (regletref10_Shown.E k)) [.tmp 2] [.c false .s]) (unS regletref10_Shown.l6_s y) := by rw [regletref10_Shown.l6]; kernel_rfl
theorem regletref10_Shown.j8_e (k : Nat) (y : denS regletref10_Shown.j8_s) : regletref10_Shown.j8 (k + 1) y.1 = evP ((regletref10_Shown.G Try.prog).at (regletref10_Shown.E k)) (fun i => (regletref10_Shown.O k)[i]?) [1, 1, 1, 1, 1, 1, 1, 1, 1] (cd Try.f17) regletref10_Shown.H (kFin ((regletref10_Shown.G Try.prog).at (regletref10_Shown.E k)) [.tmp 2] [.c false .s]) (unS regletref10_Shown.j8_s y) := by rw [regletref10_Shown.j8]; kernel_rfl
theorem regletref10_Shown.j5_e (k : Nat) (y : denS regletref10_Shown.j5_s) : regletref10_Shown.j5 (k + 1) y.2.1 y.2.2.1 y.2.2.2.1 = evP ((regletref10_Shown.G Try.prog).at (regletref10_Shown.E k)) (fun i => (regletref10_Shown.O k)[i]?) [1, 1, 1, 1, 1, 1] (cd Try.f17) regletref10_Shown.H (kFin ((regletref10_Shown.G Try.prog).at (regletref10_Shown.E k)) [.tmp 2] [.c false .s]) (unS regletref10_Shown.j5_s y) := by rw [regletref10_Shown.j5]; kernel_rfl
theorem regletref10_Shown.go : goesTo Try.prog 17 := ⟨_, Try.func17, by kernel_rfl, rfl⟩
theorem regletref10_Shown.ok (k : Nat) : SigOk Try.prog 17 (regletref10_Shown.sig k) :=
  fn_p (G := regletref10_Shown.G Try.prog) (c := cd Try.f17) (rs := [.tmp 2]) (args := [(true, y121)]) (l := [.c false .s]) (fn := Try.f17) ⟨Try.func17, by kernel_rfl, by kernel_rfl, by kernel_rfl, le_of rfl, le_of rfl, TT_ok, AD_ok⟩ rfl regletref10_Shown.E (fun k p hp => by
    simp only [regletref10_Shown.E, List.mem_cons, List.not_mem_nil, or_false] at hp
    rcases hp with rfl | rfl | rfl
    · exact ⟨regletref02_Runes.ok k, regletref02_Runes.go⟩
    · exact ⟨regletref02_Kind.ok k, regletref02_Kind.go⟩
    · exact ⟨regletref02_Bytes.ok k, regletref02_Bytes.go⟩)
    (fun k i => (regletref10_Shown.O k)[i]?) regletref10_Shown.H (fun k x => regletref10_Shown.f k x.1)
    (fun id o y h => by
    have h' := List.mem_of_getElem? h
    simp only [regletref10_Shown.O, List.mem_cons, List.not_mem_nil, or_false] at h'
    rcases h' with rfl | rfl | rfl | rfl | rfl | rfl | rfl | rfl | rfl <;> rfl)
    (fun k p hp => by
    rw [show pts (cd Try.f17) regletref10_Shown.H = [(1, [1, 1, 1, 0, 1, 0, 0, 1, 0, 0, 1, 0, 1]), (3, [1, 1, 1, 0, 1, 0, 0, 1, 1]), (0, [1, 1, 1, 0, 1, 0, 0]), (4, [1, 1, 1, 1, 1, 0, 0, 0, 1]), (2, [1, 1, 1, 1, 1, 0, 0, 0]), (7, [1, 1, 1, 1, 1, 1, 1, 0, 1, 0, 0, 1, 0, 0, 1, 1, 0, 0]), (6, [1, 1, 1, 1, 1, 1, 1, 0, 1, 0, 0]), (8, [1, 1, 1, 1, 1, 1, 1, 1, 1]), (5, [1, 1, 1, 1, 1, 1])] by kernel_rfl] at hp
    simp only [List.mem_cons, List.not_mem_nil, or_false] at hp
    rcases hp with rfl | rfl | rfl | rfl | rfl | rfl | rfl | rfl | rfl
    · exact ptOk_of rfl (regletref10_Shown.j1_e k)
    · exact ptOk_of rfl (regletref10_Shown.j3_e k)
    · exact ptOk_of rfl (regletref10_Shown.l0_e k)
    · exact ptOk_of rfl (regletref10_Shown.j4_e k)
    · exact ptOk_of rfl (regletref10_Shown.l2_e k)
    · exact ptOk_of rfl (regletref10_Shown.l7_e k)
    · exact ptOk_of rfl (regletref10_Shown.l6_e k)
    · exact ptOk_of rfl (regletref10_Shown.j8_e k)
    · exact ptOk_of rfl (regletref10_Shown.j5_e k))
    (fun k x => by kernel_rfl) k
/-! reglet/regletlaw10.LinesShown -/
def regletlaw10_LinesShown.f (k : Nat) (a0 : ByteArray × List api_Run × Int × Int × Int × Bool × Int × Bool × Bool) : Option Bool := (regletlaw10_awake.f k).bind fun r => if (!r) = true then (some false) else (if (decide (2000 < (a0.1.size : Int))) = true then (some true) else ((regletref02_Right.f k a0.1).bind fun r2 => if (!r2) = true then (some true) else ((lines_Shown.f k a0).bind fun r3 => (regletref10_Shown.f k a0).bind fun r4 => some (decide (r3 = r4)))))
def regletlaw10_LinesShown.sig (k : Nat) : Sig := .p [(true, y124)] [.c false .b] fun x => regletlaw10_LinesShown.f k x.1
def regletlaw10_LinesShown.E (k : Nat) : List (Nat × Sig) := [(7, regletlaw10_awake.sig k), (12, regletref02_Right.sig k), (16, lines_Shown.sig k), (17, regletref10_Shown.sig k)]
def regletlaw10_LinesShown.G (P : Program) : GI := ⟨P, TT, 22, 31, [(1, 22, 9)], [], [], [], [], AD⟩
def regletlaw10_LinesShown.H : H := .n
def regletlaw10_LinesShown.O (k : Nat) : List (Orc (denR [.c false .b])) := []
theorem regletlaw10_LinesShown.go : goesTo Try.prog 5 := ⟨_, Try.func5, by kernel_rfl, rfl⟩
theorem regletlaw10_LinesShown.ok (k : Nat) : SigOk Try.prog 5 (regletlaw10_LinesShown.sig k) :=
  fn_p (G := regletlaw10_LinesShown.G Try.prog) (c := cd Try.f5) (rs := [.tmp 2]) (args := [(true, y124)]) (l := [.c false .b]) (fn := Try.f5) ⟨Try.func5, by kernel_rfl, by kernel_rfl, by kernel_rfl, le_of rfl, le_of rfl, TT_ok, AD_ok⟩ rfl regletlaw10_LinesShown.E (fun k p hp => by
    simp only [regletlaw10_LinesShown.E, List.mem_cons, List.not_mem_nil, or_false] at hp
    rcases hp with rfl | rfl | rfl | rfl
    · exact ⟨regletlaw10_awake.ok k, regletlaw10_awake.go⟩
    · exact ⟨regletref02_Right.ok k, regletref02_Right.go⟩
    · exact ⟨lines_Shown.ok k, lines_Shown.go⟩
    · exact ⟨regletref10_Shown.ok k, regletref10_Shown.go⟩)
    (fun k i => (regletlaw10_LinesShown.O k)[i]?) regletlaw10_LinesShown.H (fun k x => regletlaw10_LinesShown.f k x.1)
    (fun id o y h => by cases id <;> cases h)
    (fun k p hp => by rw [show pts (cd Try.f5) regletlaw10_LinesShown.H = [] by kernel_rfl] at hp; nomatch hp)
    (fun k x => by kernel_rfl) k
end Go.Proofs.Ytjbobaeggdafpaa.Vm
