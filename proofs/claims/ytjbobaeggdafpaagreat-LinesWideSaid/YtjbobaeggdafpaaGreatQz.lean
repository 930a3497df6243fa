
import Derived.Test.YtjbobaeggdafpaaGreatQ1
namespace Go.Proofs.YtjbobaeggdafpaaGreat.Vm
open Go
open _root_.Go.RowKit (wrap64)
set_option maxRecDepth 100000
set_option linter.unusedVariables false
abbrev Z1 := List (Int × Int × Int × Int × Int × Int × List api_Range × Bool)
abbrev Z6 := (List (ByteArray × List api_Run × Int × Int × Int × Bool × Int × Bool × Bool))
abbrev Z7 := List (ByteArray × List api_Run × Int × Int × Int × Bool × Int × Bool × Bool)
abbrev Z17 := ByteArray × List api_Run × Int × Int × Int × Int × Int × Int × Int × Int
abbrev Z21 := ByteArray × List api_Run × Int × Int × Int × Bool × Int × Bool × Bool
namespace regletref08_Settings
mutual
def j0 : Nat → api_Settings → Option Bool
 | 0, _ => none
 | k + 1, t => l1 k ([t.2.2.1, t.2.2.2.1, t.2.2.2.2.1] : List Int) 0 t
def l1 : Nat → (List Int) → Int → api_Settings → Option Bool
 | 0, _, _, _ => none
 | k + 1, t2, t3, t4 => if (decide (t3 < (t2.length : Int))) = true then (if 0 ≤ t3 ∧ t3 < (t2.length : Int) then ((t2[t3.toNat]?).bind fun e => if (decide (e < 0)) = true then (some false) else (if 0 ≤ t3 ∧ t3 < (t2.length : Int) then ((t2[t3.toNat]?).bind fun e2 => if (decide (1048576 < e2)) = true then (some false) else (j2 k t2 t3 t4)) else none)) else none) else (if (decide (1 ≤ t4.2.2.2.2.2.1)) = true then (if (decide (t4.2.2.2.2.2.1 ≤ 100)) = true then (if (decide (1 ≤ t4.2.2.2.2.2.2)) = true then (some (decide (t4.2.2.2.2.2.2 ≤ 100))) else (some false)) else (some false)) else (some false))
def j2 : Nat → (List Int) → Int → api_Settings → Option Bool
 | 0, _, _, _ => none
 | k + 1, t5, t6, t7 => l1 k t5 (wrap64 (t6 + 1)) t7
end
def f (k : Nat) (a0 : api_Settings) : Option Bool := if (decide (a0.1 < 0)) = true then (some false) else (if (decide (10000 < a0.1)) = true then (some false) else (if (decide (a0.2.1 < 0)) = true then (some false) else (if (decide (10000 < a0.2.1)) = true then (some false) else (j0 k a0))))
end regletref08_Settings
namespace regletref07_Legal
mutual
def j0 : Nat → (List api_Item) → Int → Option Bool
 | 0, _, _ => none
 | k + 1, list, k_ => (at? list k_).bind fun e => if (decide (e.1 = 3)) = true then ((at? list k_).bind fun e2 => some (decide (e2.2.2.2.2.2.1 < 10000))) else ((at? list k_).bind fun e3 => if (decide (e3.1 = 2)) = true then ((at? list k_).bind fun e4 => if (!e4.2.2.2.2.1) = true then (if (decide (0 < k_)) = true then ((at? list (wrap64 (k_ - 1))).bind fun e5 => some (decide (e5.1 = 1))) else (some false)) else (some false)) else (some false))
end
def f (k : Nat) (a0 : (List api_Item)) (a1 : Int) : Option Bool := if (decide (a1 < 0)) = true then (some false) else (if (decide ((a0.length : Int) ≤ a1)) = true then (some false) else (j0 k a0 a1))
end regletref07_Legal
namespace regletref08_Legal
mutual
def l0 : Nat → (List api_Item) → (List Int) → Int → Option (List Int)
 | 0, _, _, _ => none
 | k + 1, l, out, k_ => if (decide (k_ < (l.length : Int))) = true then ((regletref07_Legal.f k l k_).bind fun r => if r = true then (if (out.length + ([k_] : List Int).length) * 8 ≤ 140737488355328 then (j1 k l (out ++ ([k_] : List Int)) k_) else none) else (j1 k l out k_)) else (some out)
def j1 : Nat → (List api_Item) → (List Int) → Int → Option (List Int)
 | 0, _, _, _ => none
 | k + 1, l2, out2, k_2 => l0 k l2 out2 (wrap64 (k_2 + 1))
end
def f (k : Nat) (a0 : (List api_Item)) : Option (List Int) := l0 k a0 ([] : List Int) 0
end regletref08_Legal
namespace regletref09_place
mutual
def l0 : Nat → (List Int) → Int → Int → Option Int
 | 0, _, _, _ => none
 | k + 1, ends, b, i => if (decide (i < (ends.length : Int))) = true then ((at? ends i).bind fun e => if (decide (e = b)) = true then (some i) else (l0 k ends b (wrap64 (i + 1)))) else (some (-1))
end
def f (k : Nat) (a0 : (List Int)) (a1 : Int) : Option Int := l0 k a0 a1 0
end regletref09_place
namespace regletref01_bare
mutual
def l0 : Nat → (List Int) → Int → Option (List Int)
 | 0, _, _ => none
 | k + 1, a, n => if (decide (0 < n)) = true then ((at? a (wrap64 (n - 1))).bind fun e => if (decide (e = 0)) = true then (j1 k a n) else (j2 k a n)) else (j2 k a n)
def j1 : Nat → (List Int) → Int → Option (List Int)
 | 0, _, _ => none
 | k + 1, a2, n2 => l0 k a2 (wrap64 (n2 - 1))
def j2 : Nat → (List Int) → Int → Option (List Int)
 | 0, _, _ => none
 | k + 1, a3, n3 => if 0 ≤ (0 : Int) ∧ (0 : Int) ≤ n3 ∧ n3 ≤ (a3.length : Int) then (if (([] : List Int).length + ((a3.drop ((0 : Int).toNat)).take (n3.toNat - (0 : Int).toNat)).length) * 8 ≤ 140737488355328 then (some (([] : List Int) ++ ((a3.drop ((0 : Int).toNat)).take (n3.toNat - (0 : Int).toNat)))) else none) else none
end
def f (k : Nat) (a0 : (List Int)) : Option (List Int) := l0 k a0 (a0.length : Int)
end regletref01_bare
namespace regletref01_Times
mutual
def l0 : Nat → (List Int) → (List Int) → (List Int) → Int → Option (List Int)
 | 0, _, _, _, _ => none
 | k + 1, t, t2, t3, t4 => if (decide (t4 < (t.length : Int))) = true then (l1 k t t2 t3 t4 0) else (l2 k t3 0)
def l1 : Nat → (List Int) → (List Int) → (List Int) → Int → Int → Option (List Int)
 | 0, _, _, _, _, _ => none
 | k + 1, t5, t6, t7, t8, t9 => if (decide (t9 < (t6.length : Int))) = true then (if 0 ≤ (wrap64 (t8 + t9)) ∧ (wrap64 (t8 + t9)) < (t7.length : Int) then ((t7[(wrap64 (t8 + t9)).toNat]?).bind fun e => (at? t5 t8).bind fun e2 => (at? t6 t9).bind fun e3 => if 0 ≤ (wrap64 (t8 + t9)) ∧ (wrap64 (t8 + t9)) < (t7.length : Int) then ((t7[(wrap64 (t8 + t9)).toNat]?).bind fun e4 => if 0 ≤ (wrap64 ((wrap64 (t8 + t9)) + 1)) ∧ (wrap64 ((wrap64 (t8 + t9)) + 1)) < ((t7.set ((wrap64 (t8 + t9)).toNat) (wrap64 (e + (wrap64 (e2 * e3))))).length : Int) then (((t7.set ((wrap64 (t8 + t9)).toNat) (wrap64 (e + (wrap64 (e2 * e3)))))[(wrap64 ((wrap64 (t8 + t9)) + 1)).toNat]?).bind fun e5 => if 0 ≤ (wrap64 (t8 + t9)) ∧ (wrap64 (t8 + t9)) < ((t7.set ((wrap64 (t8 + t9)).toNat) (wrap64 (e + (wrap64 (e2 * e3))))).length : Int) then (((t7.set ((wrap64 (t8 + t9)).toNat) (wrap64 (e + (wrap64 (e2 * e3)))))[(wrap64 (t8 + t9)).toNat]?).bind fun e6 => if 0 ≤ (wrap64 ((wrap64 (t8 + t9)) + 1)) ∧ (wrap64 ((wrap64 (t8 + t9)) + 1)) < ((t7.set ((wrap64 (t8 + t9)).toNat) (wrap64 (e + (wrap64 (e2 * e3))))).length : Int) then (((t7.set ((wrap64 (t8 + t9)).toNat) (wrap64 (e + (wrap64 (e2 * e3)))))[(wrap64 ((wrap64 (t8 + t9)) + 1)).toNat]?).bind fun e7 => if 0 ≤ (wrap64 (t8 + t9)) ∧ (wrap64 (t8 + t9)) < (((t7.set ((wrap64 (t8 + t9)).toNat) (wrap64 (e + (wrap64 (e2 * e3))))).set ((wrap64 ((wrap64 (t8 + t9)) + 1)).toNat) (wrap64 (e5 + (wrap64 (e6.tdiv 1000))))).length : Int) then ((((t7.set ((wrap64 (t8 + t9)).toNat) (wrap64 (e + (wrap64 (e2 * e3))))).set ((wrap64 ((wrap64 (t8 + t9)) + 1)).toNat) (wrap64 (e5 + (wrap64 (e6.tdiv 1000)))))[(wrap64 (t8 + t9)).toNat]?).bind fun e8 => if 0 ≤ (wrap64 (t8 + t9)) ∧ (wrap64 (t8 + t9)) < (((t7.set ((wrap64 (t8 + t9)).toNat) (wrap64 (e + (wrap64 (e2 * e3))))).set ((wrap64 ((wrap64 (t8 + t9)) + 1)).toNat) (wrap64 (e5 + (wrap64 (e6.tdiv 1000))))).length : Int) then ((((t7.set ((wrap64 (t8 + t9)).toNat) (wrap64 (e + (wrap64 (e2 * e3))))).set ((wrap64 ((wrap64 (t8 + t9)) + 1)).toNat) (wrap64 (e5 + (wrap64 (e6.tdiv 1000)))))[(wrap64 (t8 + t9)).toNat]?).bind fun e9 => l1 k t5 t6 (((t7.set ((wrap64 (t8 + t9)).toNat) (wrap64 (e + (wrap64 (e2 * e3))))).set ((wrap64 ((wrap64 (t8 + t9)) + 1)).toNat) (wrap64 (e5 + (wrap64 (e6.tdiv 1000))))).set ((wrap64 (t8 + t9)).toNat) (e8.tmod 1000)) t8 (wrap64 (t9 + 1))) else none) else none) else none) else none) else none) else none) else none) else (l0 k t5 t6 t7 (wrap64 (t8 + 1)))
def l2 : Nat → (List Int) → Int → Option (List Int)
 | 0, _, _ => none
 | k + 1, t10, t11 => if (decide ((wrap64 (t11 + 1)) < (t10.length : Int))) = true then (if 0 ≤ (wrap64 (t11 + 1)) ∧ (wrap64 (t11 + 1)) < (t10.length : Int) then ((t10[(wrap64 (t11 + 1)).toNat]?).bind fun e10 => if 0 ≤ t11 ∧ t11 < (t10.length : Int) then ((t10[t11.toNat]?).bind fun e11 => if 0 ≤ (wrap64 (t11 + 1)) ∧ (wrap64 (t11 + 1)) < (t10.length : Int) then ((t10[(wrap64 (t11 + 1)).toNat]?).bind fun e12 => if 0 ≤ t11 ∧ t11 < ((t10.set ((wrap64 (t11 + 1)).toNat) (wrap64 (e10 + (wrap64 (e11.tdiv 1000))))).length : Int) then (((t10.set ((wrap64 (t11 + 1)).toNat) (wrap64 (e10 + (wrap64 (e11.tdiv 1000)))))[t11.toNat]?).bind fun e13 => if 0 ≤ t11 ∧ t11 < ((t10.set ((wrap64 (t11 + 1)).toNat) (wrap64 (e10 + (wrap64 (e11.tdiv 1000))))).length : Int) then (((t10.set ((wrap64 (t11 + 1)).toNat) (wrap64 (e10 + (wrap64 (e11.tdiv 1000)))))[t11.toNat]?).bind fun e14 => l2 k ((t10.set ((wrap64 (t11 + 1)).toNat) (wrap64 (e10 + (wrap64 (e11.tdiv 1000))))).set t11.toNat (e13.tmod 1000)) (wrap64 (t11 + 1))) else none) else none) else none) else none) else none) else ((regletref01_bare.f k t10).bind fun r => some r)
end
def f (k : Nat) (a0 : (List Int)) (a1 : (List Int)) : Option (List Int) := if (wrap64 ((wrap64 ((a0.length : Int) + (a1.length : Int))) + 1)) = (wrap64 ((wrap64 ((a0.length : Int) + (a1.length : Int))) + 1)) ∧ 0 ≤ (wrap64 ((wrap64 ((a0.length : Int) + (a1.length : Int))) + 1)) ∧ (8 : Int) * (wrap64 ((wrap64 ((a0.length : Int) + (a1.length : Int))) + 1)) ≤ 281474976710656 then (l0 k a0 a1 (List.replicate ((wrap64 ((wrap64 ((a0.length : Int) + (a1.length : Int))) + 1)).toNat) 0 : List Int) 0) else none
end regletref01_Times
namespace regletref01_Of
mutual
def j0 : Nat → Int → Option (List Int)
 | 0, _ => none
 | k + 1, a => l1 k a ([] : List Int)
def l1 : Nat → Int → (List Int) → Option (List Int)
 | 0, _, _ => none
 | k + 1, a2, out => if (decide (0 < a2)) = true then (if (out.length + ([a2.tmod 1000] : List Int).length) * 8 ≤ 140737488355328 then (l1 k (wrap64 (a2.tdiv 1000)) (out ++ ([a2.tmod 1000] : List Int))) else none) else (some out)
end
def f (k : Nat) (a0 : Int) : Option (List Int) := (regletref01_Clamp.f k a0).bind fun r => if (decide (r < 0)) = true then (j0 k (wrap64 (-r))) else (j0 k r)
end regletref01_Of
namespace regletref01_Compare
mutual
def l0 : Nat → (List Int) → (List Int) → Int → Option Int
 | 0, _, _, _ => none
 | k + 1, a, b, i => if (decide (0 ≤ i)) = true then (if 0 ≤ i ∧ i < (a.length : Int) then ((a[i.toNat]?).bind fun e => if 0 ≤ i ∧ i < (b.length : Int) then ((b[i.toNat]?).bind fun e2 => if (decide (e < e2)) = true then (some (-1)) else (if 0 ≤ i ∧ i < (a.length : Int) then ((a[i.toNat]?).bind fun e3 => if 0 ≤ i ∧ i < (b.length : Int) then ((b[i.toNat]?).bind fun e4 => if (decide (e4 < e3)) = true then (some 1) else (l0 k a b (wrap64 (i - 1)))) else none) else none)) else none) else none) else (some 0)
end
def f (k : Nat) (a0 : (List Int)) (a1 : (List Int)) : Option Int := (regletref01_bare.f k a0).bind fun r => (regletref01_bare.f k a1).bind fun r2 => if (!decide ((r.length : Int) = (r2.length : Int))) = true then (if (decide ((r.length : Int) < (r2.length : Int))) = true then (some (-1)) else (some 1)) else (l0 k r r2 (wrap64 ((r.length : Int) - 1)))
end regletref01_Compare
namespace regletref01_Quotient
mutual
def l0 : Nat → (List Int) → (List Int) → Int → Int → Option (Int × Bool)
 | 0, _, _, _, _ => none
 | k + 1, a, b, low, high => if (decide (low < high)) = true then ((regletref01_Of.f k (wrap64 (low + (wrap64 ((wrap64 ((wrap64 (high - low)) + 1)).tdiv 2))))).bind fun r => (regletref01_Times.f k r b).bind fun r2 => (regletref01_Compare.f k r2 a).bind fun r3 => if (decide (r3 ≤ 0)) = true then (l0 k a b (wrap64 (low + (wrap64 ((wrap64 ((wrap64 (high - low)) + 1)).tdiv 2)))) high) else (l0 k a b low (wrap64 ((wrap64 (low + (wrap64 ((wrap64 ((wrap64 (high - low)) + 1)).tdiv 2)))) - 1)))) else ((regletref01_Of.f k low).bind fun r4 => (regletref01_Times.f k r4 b).bind fun r5 => (regletref01_Compare.f k r5 a).bind fun r6 => some (low, decide (r6 = 0)))
end
def f (k : Nat) (a0 : (List Int)) (a1 : (List Int)) : Option (Int × Bool) := l0 k a0 a1 0 1152921504606846976
end regletref01_Quotient
namespace regletref01_Bad
def f (k : Nat) (a0 : Int) (a1 : Int) : Option Int := (regletref01_Clamp.f k a0).bind fun r => (regletref01_Clamp.f k a1).bind fun r2 => if (decide (r ≤ 0)) = true then (some 0) else (if (decide (r2 ≤ 0)) = true then (some 10000) else ((regletref01_Of.f k r).bind fun r3 => (regletref01_Of.f k r).bind fun r4 => (regletref01_Times.f k r3 r4).bind fun r5 => (regletref01_Of.f k r).bind fun r6 => (regletref01_Times.f k r5 r6).bind fun r7 => (regletref01_Of.f k 100).bind fun r8 => (regletref01_Times.f k r7 r8).bind fun r9 => (regletref01_Of.f k r2).bind fun r10 => (regletref01_Of.f k r2).bind fun r11 => (regletref01_Times.f k r10 r11).bind fun r12 => (regletref01_Of.f k r2).bind fun r13 => (regletref01_Times.f k r12 r13).bind fun r14 => (regletref01_Of.f k 10000).bind fun r15 => (regletref01_Times.f k r14 r15).bind fun r16 => (regletref01_Compare.f k r16 r9).bind fun r17 => if (decide (r17 ≤ 0)) = true then (some 10000) else ((regletref01_Quotient.f k r9 r14).bind fun r18 => some r18.1)))
end regletref01_Bad
namespace regletref01_Gcd
mutual
def j0 : Nat → Int → Int → Option Int
 | 0, _, _ => none
 | k + 1, a, b => if (decide (b < 0)) = true then (j1 k a (wrap64 (-b))) else (j1 k a b)
def j1 : Nat → Int → Int → Option Int
 | 0, _, _ => none
 | k + 1, a2, b2 => l2 k a2 b2
def l2 : Nat → Int → Int → Option Int
 | 0, _, _ => none
 | k + 1, a3, b3 => if (!decide (b3 = 0)) = true then (if b3 ≠ 0 then (l2 k b3 (a3.tmod b3)) else none) else (some a3)
end
def f (k : Nat) (a0 : Int) (a1 : Int) : Option Int := (regletref01_Clamp.f k a0).bind fun r => (regletref01_Clamp.f k a1).bind fun r2 => if (decide (r < 0)) = true then (j0 k (wrap64 (-r)) r2) else (j0 k r r2)
end regletref01_Gcd
namespace regletref01_Lowest
mutual
def j0 : Nat → Int → Int → Int → Option (Int × Int)
 | 0, _, _, _ => none
 | k + 1, a, b, g => if g ≠ 0 then (if g ≠ 0 then (some (wrap64 (a.tdiv g), wrap64 (b.tdiv g))) else none) else none
end
def f (k : Nat) (a0 : Int) (a1 : Int) : Option (Int × Int) := (regletref01_Clamp.f k a0).bind fun r => (regletref01_Clamp.f k a1).bind fun r2 => if (decide (r2 = 0)) = true then (some (0, 1)) else ((regletref01_Gcd.f k r r2).bind fun r3 => if (decide (r2 < 0)) = true then (j0 k r r2 (wrap64 (-r3))) else (j0 k r r2 r3))
end regletref01_Lowest
namespace regletref08_class
def f (k : Nat) (a0 : Int) (a1 : Bool) : Option Int := if (decide (a0 ≤ 12)) = true then (some 1) else (if (!a1) = true then (some 0) else (if (decide (99 < a0)) = true then (some 3) else (some 2)))
end regletref08_class
namespace regletref08_Set
mutual
def j0 : Nat → Int → regletref08_Sum → api_Fit → Option api_Fit
 | 0, _, _, _ => none
 | k + 1, t, t2, t3 => if (decide (0 < t)) = true then ((regletref01_Bad.f k t t2.2.1).bind fun r => (regletref01_Lowest.f k t t2.2.1).bind fun r2 => (regletref08_class.f k r true).bind fun r3 => some (r2.1, r2.2, r, r3, (false))) else ((regletref01_Bad.f k (wrap64 (-t)) t2.2.2.1).bind fun r4 => (regletref01_Lowest.f k t t2.2.2.1).bind fun r5 => (regletref08_class.f k r4 false).bind fun r6 => if (decide (t2.2.2.1 < (wrap64 (-t)))) = true then (if (decide (0 < t2.2.2.1)) = true then (some ((-1), 1, 10000, 0, (true))) else (some (0, 1, 10000, 0, (true)))) else (some (r5.1, r5.2, r4, r6, (false))))
end
def f (k : Nat) (a0 : regletref08_Sum) (a1 : Int) : Option api_Fit := if (decide ((wrap64 (a1 - a0.1)) = 0)) = true then (some (0, 1, 0, 1, (false))) else (if (decide (0 < (wrap64 (a1 - a0.1)))) = true then (if (decide (0 < a0.2.2.2)) = true then (some (0, 1, 0, 1, (false))) else (j0 k (wrap64 (a1 - a0.1)) a0 (0, 0, 0, 0, (false)))) else (j0 k (wrap64 (a1 - a0.1)) a0 (0, 0, 0, 0, (false))))
end regletref08_Set
namespace regletref08_Fit
def f (k : Nat) (a0 : (List api_Item)) (a1 : Int) (a2 : Int) (a3 : Int) : Option api_Fit := (regletref08_Whole.f k a0 a1 a2).bind fun r => (regletref08_Set.f k r a3).bind fun r2 => some r2
end regletref08_Fit
namespace regletref09_Does
mutual
def j0 : Nat → (List api_Item) → (List Int) → Int → Int → Int → Bool → Int → api_Settings → Option Bool
 | 0, _, _, _, _, _, _, _, _ => none
 | k + 1, l, ends, i, k_, width, emergency, a, s => (at? ends k_).bind fun e2 => (regletref08_Fit.f k l a e2 width).bind fun r => if emergency = true then (if (!r.2.2.2.2) = true then (some true) else (some (decide (k_ = (wrap64 (i + 1)))))) else (if (!r.2.2.2.2) = true then (some (decide (r.2.2.1 ≤ s.1))) else (some false))
end
def f (k : Nat) (a0 : (List api_Item)) (a1 : (List Int)) (a2 : Int) (a3 : Int) (a4 : Int) (a5 : api_Settings) (a6 : Bool) : Option Bool := if (decide (0 ≤ a2)) = true then ((at? a1 a2).bind fun e => j0 k a0 a1 a2 a3 a4 a6 e a5) else (j0 k a0 a1 a2 a3 a4 a6 (-1) a5)
end regletref09_Does
namespace regletref08_Total
def f (k : Nat) (a0 : Int) (a1 : Int) : Option Int := (regletref01_Add.f k a0 a1).bind fun r => some (if 1125899906842624 < r then 1125899906842624 else r)
end regletref08_Total
namespace regletref01_Back
mutual
def l0 : Nat → (List Int) → Int → Int → Option Int
 | 0, _, _, _ => none
 | k + 1, a, n, i => if (decide (0 ≤ i)) = true then ((at? a i).bind fun e => l0 k a (wrap64 ((wrap64 (n * 1000)) + e)) (wrap64 (i - 1))) else (some n)
end
def f (k : Nat) (a0 : (List Int)) : Option Int := (regletref01_Of.f k 1152921504606846976).bind fun r => (regletref01_Compare.f k a0 r).bind fun r2 => if (decide (0 ≤ r2)) = true then (some 1152921504606846976) else (l0 k a0 0 (wrap64 ((a0.length : Int) - 1)))
end regletref01_Back
namespace regletref01_Mul
def f (k : Nat) (a0 : Int) (a1 : Int) : Option Int := (regletref01_Clamp.f k a0).bind fun r => (regletref01_Clamp.f k a1).bind fun r2 => (regletref01_Of.f k r).bind fun r3 => (regletref01_Of.f k r2).bind fun r4 => (regletref01_Times.f k r3 r4).bind fun r5 => (regletref01_Back.f k r5).bind fun r6 => if (decide (r < 0)) = true then (if (decide (0 < r2)) = true then (some (wrap64 (-r6))) else (if (decide (0 < r)) = true then (if (decide (r2 < 0)) = true then (some (wrap64 (-r6))) else (some r6)) else (some r6))) else (if (decide (0 < r)) = true then (if (decide (r2 < 0)) = true then (some (wrap64 (-r6))) else (some r6)) else (some r6))
end regletref01_Mul
namespace regletref01_Demerits
mutual
def j0 : Nat → Int → Option Int
 | 0, _ => none
 | k + 1, d => if (decide (d < 0)) = true then (some 0) else (some d)
end
def f (k : Nat) (a0 : Int) (a1 : Int) (a2 : Int) : Option Int := (regletref01_Add.f k a0 a1).bind fun r => (regletref01_Mul.f k r r).bind fun r2 => if (decide (0 ≤ a2)) = true then ((regletref01_Mul.f k a2 a2).bind fun r3 => (regletref01_Add.f k r2 r3).bind fun r4 => j0 k r4) else (if (decide ((-10000) < a2)) = true then ((regletref01_Mul.f k a2 a2).bind fun r5 => (regletref01_Add.f k r2 (wrap64 (-r5))).bind fun r6 => j0 k r6) else (j0 k r2))
end regletref01_Demerits
namespace regletref08_Cost
mutual
def j0 : Nat → Bool → Bool → Int → api_Settings → api_Item → Option Int
 | 0, _, _, _, _, _ => none
 | k + 1, flag, last, d, s, end_ => if flag = true then (if end_.2.2.2.2.2.2.1 = true then ((regletref01_Add.f k d s.2.2.2.1).bind fun r6 => j1 k flag last r6 s) else (j1 k flag last d s)) else (j1 k flag last d s)
def j1 : Nat → Bool → Bool → Int → api_Settings → Option Int
 | 0, _, _, _, _ => none
 | k + 1, flag2, last2, d2, s2 => if flag2 = true then (if last2 = true then ((regletref01_Add.f k d2 s2.2.2.2.2.1).bind fun r7 => j2 k r7) else (j2 k d2)) else (j2 k d2)
def j2 : Nat → Int → Option Int
 | 0, _ => none
 | k + 1, d3 => some (if 1125899906842624 < d3 then 1125899906842624 else d3)
end
def f (k : Nat) (a0 : api_Settings) (a1 : api_Fit) (a2 : api_Item) (a3 : Int) (a4 : Bool) (a5 : Bool) : Option Int := if a1.2.2.2.2 = true then (some 1125899906842624) else ((regletref01_Demerits.f k a0.2.1 a1.2.2.1 a2.2.2.2.2.2.1).bind fun r => if (decide (0 ≤ a3)) = true then ((regletref01_Add.f k a3 1).bind fun r2 => if (decide (r2 < a1.2.2.2.1)) = true then ((regletref01_Add.f k r a0.2.2.1).bind fun r3 => j0 k a4 a5 r3 a0 a2) else ((regletref01_Add.f k a1.2.2.2.1 1).bind fun r4 => if (decide (r4 < a3)) = true then ((regletref01_Add.f k r a0.2.2.1).bind fun r5 => j0 k a4 a5 r5 a0 a2) else (j0 k a4 a5 r a0 a2))) else (j0 k a4 a5 r a0 a2))
end regletref08_Cost
namespace regletref09_Price
mutual
def l0 : Nat → (List api_Item) → (List Int) → Int → Bool → (List Int) → Int → Int → Bool → Int → Int → api_Settings → Option (Int × Bool)
 | 0, _, _, _, _, _, _, _, _, _, _, _ => none
 | k + 1, t, t2, t3, t4, t5, t6, t7, t8, t9, t10, t11 => if (decide (t10 < (t2.length : Int))) = true then ((at? t2 t10).bind fun e => (regletref09_place.f k t5 e).bind fun r2 => if (decide (r2 ≤ t9)) = true then (some (0, false)) else ((regletref09_Does.f k t t5 t9 r2 t3 t11 t4).bind fun r3 => if (!r3) = true then (some (0, false)) else (j1 k t t2 t3 t4 t5 t6 t7 t8 t9 t10 r2 t11))) else (some (t6, decide (t9 = (wrap64 ((t5.length : Int) - 1)))))
def j1 : Nat → (List api_Item) → (List Int) → Int → Bool → (List Int) → Int → Int → Bool → Int → Int → Int → api_Settings → Option (Int × Bool)
 | 0, _, _, _, _, _, _, _, _, _, _, _, _ => none
 | k + 1, t12, t13, t14, t15, t16, t17, t18, t19, t20, t21, t22, t23 => l2 k t12 t13 t14 t15 t16 t17 t18 t19 t20 t21 t22 (wrap64 (t20 + 1)) t23
def l2 : Nat → (List api_Item) → (List Int) → Int → Bool → (List Int) → Int → Int → Bool → Int → Int → Int → Int → api_Settings → Option (Int × Bool)
 | 0, _, _, _, _, _, _, _, _, _, _, _, _, _ => none
 | k + 1, t24, t25, t26, t27, t28, t29, t30, t31, t32, t33, t34, t35, t36 => if (decide (t35 < t34)) = true then (if 0 ≤ t35 ∧ t35 < (t28.length : Int) then ((t28[t35.toNat]?).bind fun e2 => (at? t24 e2).bind fun e3 => (regletref07_Forced.f k e3).bind fun r4 => if r4 = true then (some (0, false)) else (l2 k t24 t25 t26 t27 t28 t29 t30 t31 t32 t33 t34 (wrap64 (t35 + 1)) t36)) else none) else (if (decide (0 ≤ t32)) = true then (if 0 ≤ t32 ∧ t32 < (t28.length : Int) then ((t28[t32.toNat]?).bind fun e4 => j3 k t24 t25 t26 t27 t28 t29 t30 t31 t33 t34 e4 t36) else none) else (j3 k t24 t25 t26 t27 t28 t29 t30 t31 t33 t34 (-1) t36))
def j3 : Nat → (List api_Item) → (List Int) → Int → Bool → (List Int) → Int → Int → Bool → Int → Int → Int → api_Settings → Option (Int × Bool)
 | 0, _, _, _, _, _, _, _, _, _, _, _, _ => none
 | k + 1, t37, t38, t39, t40, t41, t42, t43, t44, t45, t46, t47, t48 => (at? t38 t45).bind fun e5 => (regletref08_Fit.f k t37 t47 e5 t39).bind fun r5 => (at? t38 t45).bind fun e6 => (at? t37 e6).bind fun e7 => (regletref08_Cost.f k t48 r5 e7 t43 t44 (decide (t46 = (wrap64 ((t41.length : Int) - 1))))).bind fun r6 => (regletref08_Total.f k t42 r6).bind fun r7 => l0 k t37 t38 t39 t40 t41 r7 r5.2.2.2.1 e7.2.2.2.2.2.2.1 t46 (wrap64 (t45 + 1)) t48
end
def f (k : Nat) (a0 : (List api_Item)) (a1 : (List Int)) (a2 : Int) (a3 : api_Settings) (a4 : Bool) : Option (Int × Bool) := (regletref08_Legal.f k a0).bind fun r => l0 k a0 a1 a2 a4 r 0 (-1) false (-1) 0 a3
end regletref09_Price
namespace regletref09_Same
mutual
def j0 : Nat → api_Breaking → api_Breaking → Option Bool
 | 0, _, _ => none
 | k + 1, a, b => l1 k 0 a b
def l1 : Nat → Int → api_Breaking → api_Breaking → Option Bool
 | 0, _, _, _ => none
 | k + 1, i, a2, b2 => if (decide (i < (a2.1.length : Int))) = true then ((at? a2.1 i).bind fun e => (at? b2.1 i).bind fun e2 => if (!decide (e = e2)) = true then (some false) else (l1 k (wrap64 (i + 1)) a2 b2)) else (some true)
end
def f (k : Nat) (a0 : api_Breaking) (a1 : api_Breaking) : Option Bool := if (!decide (a0.2.1 = a1.2.1)) = true then (some false) else (if (!decide (a0.2.2 = a1.2.2)) = true then (some false) else (if (!decide ((a0.1.length : Int) = (a1.1.length : Int))) = true then (some false) else (j0 k a0 a1)))
end regletref09_Same
namespace regletref09_all
mutual
def l0 : Nat → (List api_Item) → (List Int) → Int → Bool → (List Int) → Int → Int → api_Settings → api_Breaking → api_Breaking → Option api_Breaking
 | 0, _, _, _, _, _, _, _, _, _, _ => none
 | k + 1, t, t2, t3, t4, t5, t6, t7, t8, t9, t10 => if (decide (t7 < (t5.length : Int))) = true then ((regletref09_Does.f k t t5 t6 t7 t3 t8 t4).bind fun r2 => if r2 = true then (if (([] : List Int).length + t2.length) * 8 ≤ 140737488355328 then (if 0 ≤ t7 ∧ t7 < (t5.length : Int) then ((t5[t7.toNat]?).bind fun e => if ((([] : List Int) ++ t2).length + ([e] : List Int).length) * 8 ≤ 140737488355328 then (if (decide (t7 = (wrap64 ((t5.length : Int) - 1)))) = true then ((regletref09_Price.f k t ((([] : List Int) ++ t2) ++ ([e] : List Int)) t3 t8 t4).bind fun r3 => if r3.2 = true then (if (!t9.2.2) = true then (j1 k t t2 t3 t4 t5 t6 t7 t8 ((([] : List Int) ++ t2) ++ ([e] : List Int), r3.1, (true)) t10) else (if (decide (r3.1 < t9.2.1)) = true then (j1 k t t2 t3 t4 t5 t6 t7 t8 ((([] : List Int) ++ t2) ++ ([e] : List Int), r3.1, (true)) t10) else (j1 k t t2 t3 t4 t5 t6 t7 t8 t9 t10))) else (j1 k t t2 t3 t4 t5 t6 t7 t8 t9 t10)) else ((f k t ((([] : List Int) ++ t2) ++ ([e] : List Int)) (wrap64 (t7 + 1)) t3 t8 t4 t9).bind fun r4 => j1 k t t2 t3 t4 t5 t6 t7 t8 r4 t10)) else none) else none) else none) else (j1 k t t2 t3 t4 t5 t6 t7 t8 t9 t10)) else (some t9)
def j1 : Nat → (List api_Item) → (List Int) → Int → Bool → (List Int) → Int → Int → api_Settings → api_Breaking → api_Breaking → Option api_Breaking
 | 0, _, _, _, _, _, _, _, _, _, _ => none
 | k + 1, t11, t12, t13, t14, t15, t16, t17, t18, t19, t20 => if 0 ≤ t17 ∧ t17 < (t15.length : Int) then ((t15[t17.toNat]?).bind fun e2 => (at? t11 e2).bind fun e3 => (regletref07_Forced.f k e3).bind fun r5 => if r5 = true then (some t19) else (l0 k t11 t12 t13 t14 t15 t16 (wrap64 (t17 + 1)) t18 t19 t20)) else none
def f : Nat → (List api_Item) → (List Int) → Int → Int → api_Settings → Bool → api_Breaking → Option api_Breaking
 | 0, _, _, _, _, _, _, _ => none
 | k + 1, a0, a1, a2, a3, a4, a5, a6 => (regletref08_Legal.f k a0).bind fun r => l0 k a0 a1 a3 a5 r (wrap64 (a2 - 1)) a2 a4 a6 (([] : List Int), 0, (false))
end
end regletref09_all
namespace regletref09_Break
mutual
def j0 : Nat → Bool → api_Breaking → api_Breaking → Option api_Breaking
 | 0, _, _, _ => none
 | k + 1, emergency, t, best => some (best.1, best.2.1, emergency)
end
def f (k : Nat) (a0 : (List api_Item)) (a1 : Int) (a2 : api_Settings) : Option api_Breaking := (regletref09_all.f k a0 ([] : List Int) 0 a1 a2 false (([] : List Int), 0, (false))).bind fun r => if (!r.2.2) = true then ((regletref09_all.f k a0 ([] : List Int) 0 a1 a2 true (([] : List Int), 0, (false))).bind fun r2 => j0 k (!r.2.2) (([] : List Int), 0, (false)) r2) else (j0 k (!r.2.2) (([] : List Int), 0, (false)) r)
end regletref09_Break
namespace regletref10_Cuts
mutual
def l0 : Nat → (List api_Item) → (List Int) → Int → (List Int) → Int → Option (List Int)
 | 0, _, _, _, _, _ => none
 | k + 1, l, list, size, out, i => if (decide (i < (list.length : Int))) = true then (if (decide (i = (wrap64 ((list.length : Int) - 1)))) = true then (if (out.length + ([size] : List Int).length) * 8 ≤ 140737488355328 then (j1 k l list size (out ++ ([size] : List Int)) i) else none) else ((at? list i).bind fun e => (regletref08_Start.f k l e).bind fun r => (at? list (wrap64 (i + 1))).bind fun e2 => (at? l (if e2 < r then e2 else r)).bind fun e3 => if (out.length + ([e3.2.2.2.2.2.2.2.1] : List Int).length) * 8 ≤ 140737488355328 then (j1 k l list size (out ++ ([e3.2.2.2.2.2.2.2.1] : List Int)) i) else none)) else (some out)
def j1 : Nat → (List api_Item) → (List Int) → Int → (List Int) → Int → Option (List Int)
 | 0, _, _, _, _, _ => none
 | k + 1, l2, list2, size2, out2, i2 => l0 k l2 list2 size2 out2 (wrap64 (i2 + 1))
end
def f (k : Nat) (a0 : (List api_Item)) (a1 : (List Int)) (a2 : Int) : Option (List Int) := l0 k a0 a1 a2 ([] : List Int) 0
end regletref10_Cuts
namespace regletref10_styles
mutual
def l0 : Nat → (List api_Run) → (List Int) → Int → Option (List Int)
 | 0, _, _, _ => none
 | k + 1, list, out, i => if (decide (i < (list.length : Int))) = true then (l1 k list out i 0) else (some out)
def l1 : Nat → (List api_Run) → (List Int) → Int → Int → Option (List Int)
 | 0, _, _, _, _ => none
 | k + 1, list2, out2, i2, n => (at? list2 i2).bind fun e => if (decide (n < e.1)) = true then ((at? list2 i2).bind fun e2 => if (out2.length + ([e2.2] : List Int).length) * 8 ≤ 140737488355328 then (l1 k list2 (out2 ++ ([e2.2] : List Int)) i2 (wrap64 (n + 1))) else none) else (l0 k list2 out2 (wrap64 (i2 + 1)))
end
def f (k : Nat) (a0 : (List api_Run)) : Option (List Int) := l0 k a0 ([] : List Int) 0
end regletref10_styles
namespace regletref05_Runs
mutual
def l0 : Nat → (List Int) → (List api_Run) → Int → Option (List api_Run)
 | 0, _, _, _ => none
 | k + 1, s, out, i => if (decide (i < (s.length : Int))) = true then (if (decide (0 < (out.length : Int))) = true then (if 0 ≤ (wrap64 ((out.length : Int) - 1)) ∧ (wrap64 ((out.length : Int) - 1)) < (out.length : Int) then ((out[(wrap64 ((out.length : Int) - 1)).toNat]?).bind fun e => (at? s i).bind fun e2 => if (decide (e.2 = e2)) = true then (if 0 ≤ (wrap64 ((out.length : Int) - 1)) ∧ (wrap64 ((out.length : Int) - 1)) < (out.length : Int) then ((out[(wrap64 ((out.length : Int) - 1)).toNat]?).bind fun e3 => if 0 ≤ (wrap64 ((out.length : Int) - 1)) ∧ (wrap64 ((out.length : Int) - 1)) < (out.length : Int) then ((out[(wrap64 ((out.length : Int) - 1)).toNat]?).bind fun e4 => j1 k s (out.set ((wrap64 ((out.length : Int) - 1)).toNat) (wrap64 (e3.1 + 1), e4.2)) i) else none) else none) else (j2 k s out i)) else none) else (j2 k s out i)) else (some out)
def j1 : Nat → (List Int) → (List api_Run) → Int → Option (List api_Run)
 | 0, _, _, _ => none
 | k + 1, s2, out2, i2 => l0 k s2 out2 (wrap64 (i2 + 1))
def j2 : Nat → (List Int) → (List api_Run) → Int → Option (List api_Run)
 | 0, _, _, _ => none
 | k + 1, s3, out3, i3 => (at? s3 i3).bind fun e5 => if (out3.length + ([(1, e5)] : List api_Run).length) * 16 ≤ 140737488355328 then (j1 k s3 (out3 ++ ([(1, e5)] : List api_Run)) i3) else none
end
def f (k : Nat) (a0 : (List Int)) : Option (List api_Run) := l0 k a0 ([] : List api_Run) 0
end regletref05_Runs
namespace regletref04_Tallest
mutual
def l0 : Nat → Z1 → (List api_Run) → Int → Int → Option Int
 | 0, _, _, _, _ => none
 | k + 1, l, runs, most, i => if (decide (i < (runs.length : Int))) = true then ((at? runs i).bind fun e => (regletref04_Of.f k l e.2).bind fun r => (at? runs i).bind fun e2 => if (decide (0 < e2.1)) = true then (if (decide (most < r.1)) = true then (j1 k l runs r.1 i) else (j1 k l runs most i)) else (j1 k l runs most i)) else (if (decide (most = 0)) = true then ((regletref04_Of.f k l 0).bind fun r2 => some r2.1) else (some most))
def j1 : Nat → Z1 → (List api_Run) → Int → Int → Option Int
 | 0, _, _, _, _ => none
 | k + 1, l2, runs2, most2, i2 => l0 k l2 runs2 most2 (wrap64 (i2 + 1))
end
def f (k : Nat) (a0 : Z1) (a1 : (List api_Run)) : Option Int := l0 k a0 a1 0 0
end regletref04_Tallest
namespace regletref10_Lay
mutual
def l0 : Nat → Z1 → ByteArray → (List api_Item) → Int → Z7 → (List Int) → (List Int) → Int → Int → Int → api_Breaking → Option Z6
 | 0, _, _, _, _, _, _, _, _, _, _, _ => none
 | k + 1, t, t2, t3, t4, t5, t6, t7, t8, t9, t10, t11 => if (decide (t10 < (t7.length : Int))) = true then ((at? t11.1 t10).bind fun e => (regletref08_Fit.f k t3 t9 e t4).bind fun r3 => if 0 ≤ t10 ∧ t10 < (t7.length : Int) then ((t7[t10.toNat]?).bind fun e2 => (sSub t2 t8 e2).bind fun v => if 0 ≤ t10 ∧ t10 < (t7.length : Int) then ((t7[t10.toNat]?).bind fun e3 => if 0 ≤ t8 ∧ t8 ≤ e3 ∧ e3 ≤ (t6.length : Int) then ((regletref05_Runs.f k ((t6.drop t8.toNat).take (e3.toNat - t8.toNat))).bind fun r4 => (at? t6 (wrap64 ((t6.length : Int) - 1))).bind fun e4 => (regletref04_Of.f k t e4).bind fun r5 => if 0 ≤ t10 ∧ t10 < (t7.length : Int) then ((t7[t10.toNat]?).bind fun e5 => if (decide (t8 < e5)) = true then ((regletref04_Tallest.f k t r4).bind fun r6 => j1 k t t2 t3 t4 t5 t6 t7 t10 t11 (v, r4, r3.1, r3.2.1, r6, (false), 0, decide (t10 = 0), decide (t10 = (wrap64 ((t7.length : Int) - 1))))) else (j1 k t t2 t3 t4 t5 t6 t7 t10 t11 (v, r4, r3.1, r3.2.1, r5.1, (false), 0, decide (t10 = 0), decide (t10 = (wrap64 ((t7.length : Int) - 1)))))) else none) else none) else none) else none) else (some t5)
def j1 : Nat → Z1 → ByteArray → (List api_Item) → Int → Z7 → (List Int) → (List Int) → Int → api_Breaking → Z21 → Option Z6
 | 0, _, _, _, _, _, _, _, _, _, _ => none
 | k + 1, t12, t13, t14, t15, t16, t17, t18, t19, t20, t21 => (at? t20.1 t19).bind fun e6 => (at? t14 e6).bind fun e7 => if e7.2.2.2.2.2.2.1 = true then (j2 k t12 t13 t14 t15 t16 t17 t18 t19 t20 (t21.1, t21.2.1, t21.2.2.1, t21.2.2.2.1, t21.2.2.2.2.1, decide (e7.2.2.2.2.2.2.2.1 < e7.2.2.2.2.2.2.2.2), t21.2.2.2.2.2.2.1, t21.2.2.2.2.2.2.2.1, t21.2.2.2.2.2.2.2.2)) else (j2 k t12 t13 t14 t15 t16 t17 t18 t19 t20 (t21.1, t21.2.1, t21.2.2.1, t21.2.2.2.1, t21.2.2.2.2.1, (false), t21.2.2.2.2.2.2.1, t21.2.2.2.2.2.2.2.1, t21.2.2.2.2.2.2.2.2))
def j2 : Nat → Z1 → ByteArray → (List api_Item) → Int → Z7 → (List Int) → (List Int) → Int → api_Breaking → Z21 → Option Z6
 | 0, _, _, _, _, _, _, _, _, _, _ => none
 | k + 1, t22, t23, t24, t25, t26, t27, t28, t29, t30, t31 => if (t26.length + ([t31] : List (ByteArray × List api_Run × Int × Int × Int × Bool × Int × Bool × Bool)).length) * 88 ≤ 140737488355328 then (if 0 ≤ t29 ∧ t29 < (t28.length : Int) then ((t28[t29.toNat]?).bind fun e8 => (at? t30.1 t29).bind fun e9 => l0 k t22 t23 t24 t25 (t26 ++ ([t31] : List (ByteArray × List api_Run × Int × Int × Int × Bool × Int × Bool × Bool))) t27 t28 e8 e9 (wrap64 (t29 + 1)) t30) else none) else none
end
def f (k : Nat) (a0 : Z1) (a1 : ByteArray) (a2 : (List api_Run)) (a3 : (List api_Item)) (a4 : api_Breaking) (a5 : Int) : Option Z6 := (regletref10_styles.f k a2).bind fun r => (regletref10_Cuts.f k a3 a4.1 (a1.size : Int)).bind fun r2 => l0 k a0 a1 a3 a5 ([] : List (ByteArray × List api_Run × Int × Int × Int × Bool × Int × Bool × Bool)) r r2 0 (-1) 0 a4
end regletref10_Lay
namespace regletref05_Same
mutual
def l0 : Nat → (List api_Run) → (List api_Run) → Int → Option Bool
 | 0, _, _, _ => none
 | k + 1, a, b, i => if (decide (i < (a.length : Int))) = true then ((at? a i).bind fun e => (at? b i).bind fun e2 => if (!(decide (e.1 = e2.1) && (decide (e.2 = e2.2) && true))) = true then (some false) else (l0 k a b (wrap64 (i + 1)))) else (some true)
end
def f (k : Nat) (a0 : (List api_Run)) (a1 : (List api_Run)) : Option Bool := if (!decide ((a0.length : Int) = (a1.length : Int))) = true then (some false) else (l0 k a0 a1 0)
end regletref05_Same
namespace regletref10_Same
def f (k : Nat) (a0 : Z21) (a1 : Z21) : Option Bool := if (decide (a0.1 = a1.1)) = true then (if (decide (a0.2.2.1 = a1.2.2.1)) = true then (if (decide (a0.2.2.2.1 = a1.2.2.2.1)) = true then (if (decide (a0.2.2.2.2.1 = a1.2.2.2.2.1)) = true then (if (decide (a0.2.2.2.2.2.1 = a1.2.2.2.2.2.1)) = true then (if (decide (a0.2.2.2.2.2.2.1 = a1.2.2.2.2.2.2.1)) = true then (if (decide (a0.2.2.2.2.2.2.2.1 = a1.2.2.2.2.2.2.2.1)) = true then (if (decide (a0.2.2.2.2.2.2.2.2 = a1.2.2.2.2.2.2.2.2)) = true then ((regletref05_Same.f k a0.2.1 a1.2.1).bind fun r => some r) else (some false)) else (some false)) else (some false)) else (some false)) else (some false)) else (some false)) else (some false)) else (some false)
end regletref10_Same
namespace regletref10_Alike
mutual
def l0 : Nat → Z7 → Z7 → Int → Option Bool
 | 0, _, _, _ => none
 | k + 1, a, b, i => if (decide (i < (a.length : Int))) = true then ((at? a i).bind fun e => (at? b i).bind fun e2 => (regletref10_Same.f k e e2).bind fun r => if (!r) = true then (some false) else (l0 k a b (wrap64 (i + 1)))) else (some true)
end
def f (k : Nat) (a0 : Z7) (a1 : Z7) : Option Bool := if (!decide ((a0.length : Int) = (a1.length : Int))) = true then (some false) else (l0 k a0 a1 0)
end regletref10_Alike
namespace regletlaw10_LinesLaid
mutual
def j0 : Nat → Z1 → Z1 → Z17 → Option Bool
 | 0, _, _, _ => none
 | k + 1, t, t2, t3 => (lines_Paragraph.f k t2 t3.1 t3.2.1 t3.2.2.1 t3.2.2.2).bind fun r4 => (regletref07_Build.f k t t3.1 t3.2.1).bind fun r5 => if (!decide (r5.2 = 0)) = true then (if (decide (r4.2.2 = r5.2)) = true then (if (decide ((r4.1.length : Int) = 0)) = true then (some (decide ((r4.2.1.1.length : Int) = 0))) else (some false)) else (some false)) else (if (decide (t3.2.2.1 < 1)) = true then (if (decide (r4.2.2 = 41)) = true then (some (decide ((r4.1.length : Int) = 0))) else (some false)) else (if (decide (1073741824 < t3.2.2.1)) = true then (if (decide (r4.2.2 = 41)) = true then (some (decide ((r4.1.length : Int) = 0))) else (some false)) else ((regletref08_Settings.f k t3.2.2.2).bind fun r6 => if (!r6) = true then (if (decide (r4.2.2 = 80)) = true then (some (decide ((r4.1.length : Int) = 0))) else (some false)) else (j1 k t t2 r4.1 r4.2.2 r5.1 t3 r4.2.1))))
def j1 : Nat → Z1 → Z1 → Z7 → Int → (List api_Item) → Z17 → api_Breaking → Option Bool
 | 0, _, _, _, _, _, _, _ => none
 | k + 1, t4, t5, t6, t7, t8, t9, t10 => (regletref09_Price.f k t8 t10.1 t9.2.2.1 t9.2.2.2 t10.2.2).bind fun r7 => if (!decide (t7 = 0)) = true then (some false) else (if (!r7.2) = true then (some false) else (if (!decide (r7.1 = t10.2.1)) = true then (some false) else (j2 k t4 t5 t6 t8 t9 t10)))
def j2 : Nat → Z1 → Z1 → Z7 → (List api_Item) → Z17 → api_Breaking → Option Bool
 | 0, _, _, _, _, _, _ => none
 | k + 1, t11, t12, t13, t14, t15, t16 => (regletref08_Legal.f k t14).bind fun r8 => if (decide ((r8.length : Int) ≤ 9)) = true then ((regletref09_Break.f k t14 t15.2.2.1 t15.2.2.2).bind fun r9 => (regletref09_Same.f k t16 r9).bind fun r10 => if (!r10) = true then (some false) else (j3 k t11 t12 t13 t14 t15 t16)) else (j3 k t11 t12 t13 t14 t15 t16)
def j3 : Nat → Z1 → Z1 → Z7 → (List api_Item) → Z17 → api_Breaking → Option Bool
 | 0, _, _, _, _, _, _ => none
 | k + 1, t17, t18, t19, t20, t21, t22 => (measure_New.f k t20).bind fun r11 => optK r11.1 ((regletref10_Lay.f k t17 t21.1 t21.2.1 t20 t22 t21.2.2.1).bind fun r12 => if (!decide (r11.2 = 0)) = true then (some false) else (none)) fun p2 => (regletref10_Lay.f k t17 t21.1 t21.2.1 t20 t22 t21.2.2.1).bind fun r13 => if (!decide (r11.2 = 0)) = true then (some false) else ((lines_Lay.f k t18 t21.1 t21.2.1 p2 t22 t21.2.2.1).bind fun r14 => (regletref10_Alike.f k r14 r13).bind fun r15 => if (!r15) = true then (some false) else (j4 k t19 t20 p2 r13 t21 t22))
def j4 : Nat → Z7 → (List api_Item) → measure_Para → Z7 → Z17 → api_Breaking → Option Bool
 | 0, _, _, _, _, _, _ => none
 | k + 1, t23, t24, t25, t26, t27, t28 => (lines_Cuts.f k t25 t28.1 (t27.1.size : Int)).bind fun r16 => (regletref10_Cuts.f k t24 t28.1 (t27.1.size : Int)).bind fun r17 => if (!decide ((r16.length : Int) = (r17.length : Int))) = true then (some false) else (l5 k t23 t26 r16 r17 0)
def l5 : Nat → Z7 → Z7 → (List Int) → (List Int) → Int → Option Bool
 | 0, _, _, _, _, _ => none
 | k + 1, t29, t30, t31, t32, t33 => if (decide (t33 < (t31.length : Int))) = true then (if 0 ≤ t33 ∧ t33 < (t31.length : Int) then ((t31[t33.toNat]?).bind fun e => if 0 ≤ t33 ∧ t33 < (t32.length : Int) then ((t32[t33.toNat]?).bind fun e2 => if (!decide (e = e2)) = true then (some false) else (l5 k t29 t30 t31 t32 (wrap64 (t33 + 1)))) else none) else none) else ((regletref10_Alike.f k t29 t30).bind fun r18 => some r18)
end
def f (k : Nat) (a0 : Z1) (a1 : Z17) : Option Bool := (regletlaw10_awake.f k).bind fun r => if (!r) = true then (some false) else ((regletlaw10_table.f k a0).bind fun r2 => optK r2 (some true) fun p => (regletlaw10_few.f k a1).bind fun r3 => if (!r3) = true then (some true) else (j0 k a0 p a1))
end regletlaw10_LinesLaid
end Go.Proofs.YtjbobaeggdafpaaGreat.Vm
