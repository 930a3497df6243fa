-- PRINTED by print.py (a twelfth state) out of the translation. Not trusted: Lean checks it.
import Derived.Test.YtdkmmddakidieaaPx0
import Derived.Test.YtdkmmddakidieaaPx2
import Derived.Test.YtdkmmddakidieaaPx8
import Derived.Test.YtdkmmddakidieaaPx28
import Derived.Test.YtdkmmddakidieaaPx31
import Derived.Test.YtdkmmddakidieaaPx32
import Derived.Test.YtdkmmddakidieaaPx34
import Derived.Test.YtdkmmddakidieaaPx35
import Derived.Test.YtdkmmddakidieaaWo
namespace Go.Proofs.Ytdkmmddakidieaa.P
open Go.RowKit Go.Proofs.YtdkmmddakidieaaW.PrintWords Go.Proofs.YtdkmmddakidieaaW.PrintLast Go.Proofs.YtdkmmddakidieaaW.PrintMore
attribute [local go_sem] max2_int min2_int max_two min_two max_three min_three max_four min_four   -- for this text's walks alone
set_option linter.unusedVariables false
set_option linter.unusedSimpArgs false

attribute [local go_sem high] eqA34
/-! ### regletlaw08_MeasureTakes: function 6 -/
mutual
def regletlaw08_MeasureTakes.j0 : Nat → List (S34) → Int → Bool → List (S34) → List Int → List Int → List Int → List Int → List Int → Int → List Int → Option (Bool)
 | 0, _, _, _, _, _, _, _, _, _, _, _ => none
 | k + 1, x0, x1, x39, x386000, x386001, x386002, x386003, x386004, x386005, x386006, x386007 => if x39 = true then (some false) else ((measure_Para_Legal.f x386000 x386001 x386002 x386003 x386004 x386005 x386006 x386007).bind fun t398 => ((regletref08_Legal.f k x0).bind fun t401 => (if (t398.length : Int) = (t401.length : Int) then ((measure_Para_Ends.f x386000 x386001 x386002 x386003 x386004 x386005 x386006 x386007).bind fun t404 => (regletlaw08_MeasureTakes.j1 k x0 x1 t398 t401 (t404 != (t401.length : Int)) x386000 x386001 x386002 x386003 x386004 x386005 x386006 x386007)) else (regletlaw08_MeasureTakes.j1 k x0 x1 t398 t401 true x386000 x386001 x386002 x386003 x386004 x386005 x386006 x386007))))
def regletlaw08_MeasureTakes.j1 : Nat → List (S34) → Int → List Int → List Int → Bool → List (S34) → List Int → List Int → List Int → List Int → List Int → Int → List Int → Option (Bool)
 | 0, _, _, _, _, _, _, _, _, _, _, _, _, _ => none
 | k + 1, x0, x1, x7, x8, x55, x386000, x386001, x386002, x386003, x386004, x386005, x386006, x386007 => if x55 = true then (some false) else (regletlaw08_MeasureTakes.l0 k x0 x1 x7 x8 0 x386000 x386001 x386002 x386003 x386004 x386005 x386006 x386007)
def regletlaw08_MeasureTakes.l0 : Nat → List (S34) → Int → List Int → List Int → Int → List (S34) → List Int → List Int → List Int → List Int → List Int → Int → List Int → Option (Bool)
 | 0, _, _, _, _, _, _, _, _, _, _, _, _, _ => none
 | k + 1, x0, x1, x7, x8, x9, x386000, x386001, x386002, x386003, x386004, x386005, x386006, x386007 => if x9 < (x7.length : Int) then (if 0 ≤ x9 then (if x9 < (x8.length : Int) then (if (rd x7 x9) = (rd x8 x9) then ((measure_Para_End.f x386000 x386001 x386002 x386003 x386004 x386005 x386006 x386007 x9).bind fun t407 => (if t407 = (rd x8 x9) then (regletlaw08_MeasureTakes.l0 k x0 x1 (x7.set (x9 : Int).toNat (-7)) x8 (wrap64 (x9 + 1)) x386000 x386001 x386002 x386003 x386004 x386005 x386006 x386007) else (some false))) else (some false)) else (none)) else (none)) else ((measure_Para_Item.f x386000 x386001 x386002 x386003 x386004 x386005 x386006 x386007 x1).bind fun bt410 => (if x1 < 0 then (regletlaw08_MeasureTakes.j3 k x0 x1 x8 true x386000 x386001 x386002 x386003 x386004 x386005 x386006 x386007 bt410.1 bt410.2.1 bt410.2.2.1 bt410.2.2.2.1 bt410.2.2.2.2.1 bt410.2.2.2.2.2.1 bt410.2.2.2.2.2.2.1 bt410.2.2.2.2.2.2.2.1 bt410.2.2.2.2.2.2.2.2) else (regletlaw08_MeasureTakes.j3 k x0 x1 x8 (decide (x1 ≥ (x0.length : Int))) x386000 x386001 x386002 x386003 x386004 x386005 x386006 x386007 bt410.1 bt410.2.1 bt410.2.2.1 bt410.2.2.2.1 bt410.2.2.2.2.1 bt410.2.2.2.2.2.1 bt410.2.2.2.2.2.2.1 bt410.2.2.2.2.2.2.2.1 bt410.2.2.2.2.2.2.2.2)))
def regletlaw08_MeasureTakes.j3 : Nat → List (S34) → Int → List Int → Bool → List (S34) → List Int → List Int → List Int → List Int → List Int → Int → List Int → Int → Int → Int → Int → Bool → Int → Bool → Int → Int → Option (Bool)
 | 0, _, _, _, _, _, _, _, _, _, _, _, _, _, _, _, _, _, _, _, _, _ => none
 | k + 1, x0, x1, x8, x94, x386000, x386001, x386002, x386003, x386004, x386005, x386006, x386007, x420000, x420001, x420002, x420003, x420004, x420005, x420006, x420007, x420008 => if x94 = true then (if (x420000 == 0 && (x420001 == 0 && (x420002 == 0 && (x420003 == 0 && (!x420004 && (x420005 == 0 && (!x420006 && (x420007 == 0 && (x420008 == 0))))))))) = true then (if x1 < 0 then (some true) else (if x1 < (x8.length : Int) then (some true) else ((measure_Para_End.f x386000 x386001 x386002 x386003 x386004 x386005 x386006 x386007 x1).bind fun t420 => (some (t420 == (-1)))))) else (some false)) else (if 0 ≤ x1 then (if x1 < (x0.length : Int) then (if (x420000 == ((rd_T34 x0 x1).f0) && (x420001 == ((rd_T34 x0 x1).f1) && (x420002 == ((rd_T34 x0 x1).f2) && (x420003 == ((rd_T34 x0 x1).f3) && (x420004 == ((rd_T34 x0 x1).f4) && (x420005 == ((rd_T34 x0 x1).f5) && (x420006 == ((rd_T34 x0 x1).f6) && (x420007 == ((rd_T34 x0 x1).f7) && (x420008 == ((rd_T34 x0 x1).f8)))))))))) = true then (if (x8.length : Int) = 0 then (some true) else ((measure_Para_End.f x386000 x386001 x386002 x386003 x386004 x386005 x386006 x386007 0).bind fun t422 => (if 0 < (x8.length : Int) then (some (t422 == (rd x8 0))) else (none)))) else (some false)) else (none)) else (none))
end
def regletlaw08_MeasureTakes.f (k : Nat) (l0 : List (S34)) (a1 : Int) : Option (Bool) := (regletlaw08_awake.f k).bind fun t384 => (if t384 = true then ((measure_New.f k l0).bind fun bt395 => (if bt395.2.1 = true then ((regletref07_Right.f k l0).bind fun t396 => (if t396 = true then (if bt395.1 = 0 then ((measure_Para_Items.f bt395.2.2.1 bt395.2.2.2.1 bt395.2.2.2.2.1 bt395.2.2.2.2.2.1 bt395.2.2.2.2.2.2.1 bt395.2.2.2.2.2.2.2.1 bt395.2.2.2.2.2.2.2.2.1 bt395.2.2.2.2.2.2.2.2.2).bind fun t397 => (regletlaw08_MeasureTakes.j0 k l0 a1 (t397 != (l0.length : Int)) bt395.2.2.1 bt395.2.2.2.1 bt395.2.2.2.2.1 bt395.2.2.2.2.2.1 bt395.2.2.2.2.2.2.1 bt395.2.2.2.2.2.2.2.1 bt395.2.2.2.2.2.2.2.2.1 bt395.2.2.2.2.2.2.2.2.2)) else (regletlaw08_MeasureTakes.j0 k l0 a1 true bt395.2.2.1 bt395.2.2.2.1 bt395.2.2.2.2.1 bt395.2.2.2.2.2.1 bt395.2.2.2.2.2.2.1 bt395.2.2.2.2.2.2.2.1 bt395.2.2.2.2.2.2.2.2.1 bt395.2.2.2.2.2.2.2.2.2)) else (some false))) else ((regletref07_Right.f k l0).bind fun t424 => (if t424 = true then (some false) else (some (bt395.1 == 70)))))) else (some false))
theorem regletlaw08_MeasureTakes.mono_l : ∀ k, (∀ y0 y1 y2 y3 y4 y5 y6 y7 y8 y9 y10, LeO (regletlaw08_MeasureTakes.j0 k y0 y1 y2 y3 y4 y5 y6 y7 y8 y9 y10) (regletlaw08_MeasureTakes.j0 (k + 1) y0 y1 y2 y3 y4 y5 y6 y7 y8 y9 y10)) ∧ (∀ y0 y1 y2 y3 y4 y5 y6 y7 y8 y9 y10 y11 y12, LeO (regletlaw08_MeasureTakes.j1 k y0 y1 y2 y3 y4 y5 y6 y7 y8 y9 y10 y11 y12) (regletlaw08_MeasureTakes.j1 (k + 1) y0 y1 y2 y3 y4 y5 y6 y7 y8 y9 y10 y11 y12)) ∧ (∀ y0 y1 y2 y3 y4 y5 y6 y7 y8 y9 y10 y11 y12, LeO (regletlaw08_MeasureTakes.l0 k y0 y1 y2 y3 y4 y5 y6 y7 y8 y9 y10 y11 y12) (regletlaw08_MeasureTakes.l0 (k + 1) y0 y1 y2 y3 y4 y5 y6 y7 y8 y9 y10 y11 y12)) ∧ (∀ y0 y1 y2 y3 y4 y5 y6 y7 y8 y9 y10 y11 y12 y13 y14 y15 y16 y17 y18 y19 y20, LeO (regletlaw08_MeasureTakes.j3 k y0 y1 y2 y3 y4 y5 y6 y7 y8 y9 y10 y11 y12 y13 y14 y15 y16 y17 y18 y19 y20) (regletlaw08_MeasureTakes.j3 (k + 1) y0 y1 y2 y3 y4 y5 y6 y7 y8 y9 y10 y11 y12 y13 y14 y15 y16 y17 y18 y19 y20))
 | 0 => ⟨fun _ _ _ _ _ _ _ _ _ _ _ r h => by simp [regletlaw08_MeasureTakes.j0] at h, fun _ _ _ _ _ _ _ _ _ _ _ _ _ r h => by simp [regletlaw08_MeasureTakes.j1] at h, fun _ _ _ _ _ _ _ _ _ _ _ _ _ r h => by simp [regletlaw08_MeasureTakes.l0] at h, fun _ _ _ _ _ _ _ _ _ _ _ _ _ _ _ _ _ _ _ _ _ r h => by simp [regletlaw08_MeasureTakes.j3] at h⟩
 | k + 1 => by
  obtain ⟨ih0, ih1, ih2, ih3⟩ := regletlaw08_MeasureTakes.mono_l k; refine ⟨?_, ?_, ?_, ?_⟩
  · intro y0 y1 y2 y3 y4 y5 y6 y7 y8 y9 y10
    unfold regletlaw08_MeasureTakes.j0
    repeat' first
    | (with_reducible exact ih0 _ _ _ _ _ _ _ _ _ _ _)
    | (with_reducible exact ih1 _ _ _ _ _ _ _ _ _ _ _ _ _)
    | (with_reducible exact ih2 _ _ _ _ _ _ _ _ _ _ _ _ _)
    | (with_reducible exact ih3 _ _ _ _ _ _ _ _ _ _ _ _ _ _ _ _ _ _ _ _ _)
    | (with_reducible exact measure_New.mono _ _)
    | (with_reducible exact regletlaw08_awake.mono _)
    | (with_reducible exact regletref07_Right.mono _ _)
    | (with_reducible exact regletref08_Legal.mono _ _)
    | (with_reducible exact LeO.refl _)
    | (with_reducible exact LeO.none _)
    | (with_reducible refine LeO.ite ?_ ?_)
    | (with_reducible refine LeO.bind ?_ (fun _ => ?_))
    | exact ih0 _ _ _ _ _ _ _ _ _ _ _
    | exact ih1 _ _ _ _ _ _ _ _ _ _ _ _ _
    | exact ih2 _ _ _ _ _ _ _ _ _ _ _ _ _
    | exact ih3 _ _ _ _ _ _ _ _ _ _ _ _ _ _ _ _ _ _ _ _ _
    | exact measure_New.mono _ _
    | exact regletlaw08_awake.mono _
    | exact regletref07_Right.mono _ _
    | exact regletref08_Legal.mono _ _
    | exact LeO.none _
    | refine LeO.ite ?_ ?_
    | refine LeO.bind ?_ (fun _ => ?_)
  · intro y0 y1 y2 y3 y4 y5 y6 y7 y8 y9 y10 y11 y12
    unfold regletlaw08_MeasureTakes.j1
    repeat' first
    | (with_reducible exact ih0 _ _ _ _ _ _ _ _ _ _ _)
    | (with_reducible exact ih1 _ _ _ _ _ _ _ _ _ _ _ _ _)
    | (with_reducible exact ih2 _ _ _ _ _ _ _ _ _ _ _ _ _)
    | (with_reducible exact ih3 _ _ _ _ _ _ _ _ _ _ _ _ _ _ _ _ _ _ _ _ _)
    | (with_reducible exact measure_New.mono _ _)
    | (with_reducible exact regletlaw08_awake.mono _)
    | (with_reducible exact regletref07_Right.mono _ _)
    | (with_reducible exact regletref08_Legal.mono _ _)
    | (with_reducible exact LeO.refl _)
    | (with_reducible exact LeO.none _)
    | (with_reducible refine LeO.ite ?_ ?_)
    | (with_reducible refine LeO.bind ?_ (fun _ => ?_))
    | exact ih0 _ _ _ _ _ _ _ _ _ _ _
    | exact ih1 _ _ _ _ _ _ _ _ _ _ _ _ _
    | exact ih2 _ _ _ _ _ _ _ _ _ _ _ _ _
    | exact ih3 _ _ _ _ _ _ _ _ _ _ _ _ _ _ _ _ _ _ _ _ _
    | exact measure_New.mono _ _
    | exact regletlaw08_awake.mono _
    | exact regletref07_Right.mono _ _
    | exact regletref08_Legal.mono _ _
    | exact LeO.none _
    | refine LeO.ite ?_ ?_
    | refine LeO.bind ?_ (fun _ => ?_)
  · intro y0 y1 y2 y3 y4 y5 y6 y7 y8 y9 y10 y11 y12
    unfold regletlaw08_MeasureTakes.l0
    repeat' first
    | (with_reducible exact ih0 _ _ _ _ _ _ _ _ _ _ _)
    | (with_reducible exact ih1 _ _ _ _ _ _ _ _ _ _ _ _ _)
    | (with_reducible exact ih2 _ _ _ _ _ _ _ _ _ _ _ _ _)
    | (with_reducible exact ih3 _ _ _ _ _ _ _ _ _ _ _ _ _ _ _ _ _ _ _ _ _)
    | (with_reducible exact measure_New.mono _ _)
    | (with_reducible exact regletlaw08_awake.mono _)
    | (with_reducible exact regletref07_Right.mono _ _)
    | (with_reducible exact regletref08_Legal.mono _ _)
    | (with_reducible exact LeO.refl _)
    | (with_reducible exact LeO.none _)
    | (with_reducible refine LeO.ite ?_ ?_)
    | (with_reducible refine LeO.bind ?_ (fun _ => ?_))
    | exact ih0 _ _ _ _ _ _ _ _ _ _ _
    | exact ih1 _ _ _ _ _ _ _ _ _ _ _ _ _
    | exact ih2 _ _ _ _ _ _ _ _ _ _ _ _ _
    | exact ih3 _ _ _ _ _ _ _ _ _ _ _ _ _ _ _ _ _ _ _ _ _
    | exact measure_New.mono _ _
    | exact regletlaw08_awake.mono _
    | exact regletref07_Right.mono _ _
    | exact regletref08_Legal.mono _ _
    | exact LeO.none _
    | refine LeO.ite ?_ ?_
    | refine LeO.bind ?_ (fun _ => ?_)
  · intro y0 y1 y2 y3 y4 y5 y6 y7 y8 y9 y10 y11 y12 y13 y14 y15 y16 y17 y18 y19 y20
    unfold regletlaw08_MeasureTakes.j3
    repeat' first
    | (with_reducible exact ih0 _ _ _ _ _ _ _ _ _ _ _)
    | (with_reducible exact ih1 _ _ _ _ _ _ _ _ _ _ _ _ _)
    | (with_reducible exact ih2 _ _ _ _ _ _ _ _ _ _ _ _ _)
    | (with_reducible exact ih3 _ _ _ _ _ _ _ _ _ _ _ _ _ _ _ _ _ _ _ _ _)
    | (with_reducible exact measure_New.mono _ _)
    | (with_reducible exact regletlaw08_awake.mono _)
    | (with_reducible exact regletref07_Right.mono _ _)
    | (with_reducible exact regletref08_Legal.mono _ _)
    | (with_reducible exact LeO.refl _)
    | (with_reducible exact LeO.none _)
    | (with_reducible refine LeO.ite ?_ ?_)
    | (with_reducible refine LeO.bind ?_ (fun _ => ?_))
    | exact ih0 _ _ _ _ _ _ _ _ _ _ _
    | exact ih1 _ _ _ _ _ _ _ _ _ _ _ _ _
    | exact ih2 _ _ _ _ _ _ _ _ _ _ _ _ _
    | exact ih3 _ _ _ _ _ _ _ _ _ _ _ _ _ _ _ _ _ _ _ _ _
    | exact measure_New.mono _ _
    | exact regletlaw08_awake.mono _
    | exact regletref07_Right.mono _ _
    | exact regletref08_Legal.mono _ _
    | exact LeO.none _
    | refine LeO.ite ?_ ?_
    | refine LeO.bind ?_ (fun _ => ?_)
theorem regletlaw08_MeasureTakes.mono : ∀ a0 a1 k, LeO (regletlaw08_MeasureTakes.f k a0 a1) (regletlaw08_MeasureTakes.f (k + 1) a0 a1) := by
 intro a0 a1 k
 obtain ⟨ih0, ih1, ih2, ih3⟩ := regletlaw08_MeasureTakes.mono_l k
 unfold regletlaw08_MeasureTakes.f
 repeat' first
    | (with_reducible exact ih0 _ _ _ _ _ _ _ _ _ _ _)
    | (with_reducible exact ih1 _ _ _ _ _ _ _ _ _ _ _ _ _)
    | (with_reducible exact ih2 _ _ _ _ _ _ _ _ _ _ _ _ _)
    | (with_reducible exact ih3 _ _ _ _ _ _ _ _ _ _ _ _ _ _ _ _ _ _ _ _ _)
    | (with_reducible exact measure_New.mono _ _)
    | (with_reducible exact regletlaw08_awake.mono _)
    | (with_reducible exact regletref07_Right.mono _ _)
    | (with_reducible exact regletref08_Legal.mono _ _)
    | (with_reducible exact LeO.refl _)
    | (with_reducible exact LeO.none _)
    | (with_reducible refine LeO.ite ?_ ?_)
    | (with_reducible refine LeO.bind ?_ (fun _ => ?_))
    | exact ih0 _ _ _ _ _ _ _ _ _ _ _
    | exact ih1 _ _ _ _ _ _ _ _ _ _ _ _ _
    | exact ih2 _ _ _ _ _ _ _ _ _ _ _ _ _
    | exact ih3 _ _ _ _ _ _ _ _ _ _ _ _ _ _ _ _ _ _ _ _ _
    | exact measure_New.mono _ _
    | exact regletlaw08_awake.mono _
    | exact regletref07_Right.mono _ _
    | exact regletref08_Legal.mono _ _
    | exact LeO.none _
    | refine LeO.ite ?_ ?_
    | refine LeO.bind ?_ (fun _ => ?_)
theorem regletlaw08_MeasureTakes.j0.ev {x0 : List (S34)} {x1 : Int} {x39 : Bool} {x386000 : List (S34)} {x386001 : List Int} {x386002 : List Int} {x386003 : List Int} {x386004 : List Int} {x386005 : List Int} {x386006 : Int} {x386007 : List Int} {r_ : Bool} (h : Ev (fun k => if x39 = true then (some false) else ((measure_Para_Legal.f x386000 x386001 x386002 x386003 x386004 x386005 x386006 x386007).bind fun t398 => ((regletref08_Legal.f k x0).bind fun t401 => (if (t398.length : Int) = (t401.length : Int) then ((measure_Para_Ends.f x386000 x386001 x386002 x386003 x386004 x386005 x386006 x386007).bind fun t404 => (regletlaw08_MeasureTakes.j1 k x0 x1 t398 t401 (t404 != (t401.length : Int)) x386000 x386001 x386002 x386003 x386004 x386005 x386006 x386007)) else (regletlaw08_MeasureTakes.j1 k x0 x1 t398 t401 true x386000 x386001 x386002 x386003 x386004 x386005 x386006 x386007))))) r_) : Ev (fun k => regletlaw08_MeasureTakes.j0 k x0 x1 x39 x386000 x386001 x386002 x386003 x386004 x386005 x386006 x386007) r_ := Ev.step (fun k => by rw [regletlaw08_MeasureTakes.j0]) h
theorem regletlaw08_MeasureTakes.j1.ev {x0 : List (S34)} {x1 : Int} {x7 : List Int} {x8 : List Int} {x55 : Bool} {x386000 : List (S34)} {x386001 : List Int} {x386002 : List Int} {x386003 : List Int} {x386004 : List Int} {x386005 : List Int} {x386006 : Int} {x386007 : List Int} {r_ : Bool} (h : Ev (fun k => if x55 = true then (some false) else (regletlaw08_MeasureTakes.l0 k x0 x1 x7 x8 0 x386000 x386001 x386002 x386003 x386004 x386005 x386006 x386007)) r_) : Ev (fun k => regletlaw08_MeasureTakes.j1 k x0 x1 x7 x8 x55 x386000 x386001 x386002 x386003 x386004 x386005 x386006 x386007) r_ := Ev.step (fun k => by rw [regletlaw08_MeasureTakes.j1]) h
theorem regletlaw08_MeasureTakes.l0.ev {x0 : List (S34)} {x1 : Int} {x7 : List Int} {x8 : List Int} {x9 : Int} {x386000 : List (S34)} {x386001 : List Int} {x386002 : List Int} {x386003 : List Int} {x386004 : List Int} {x386005 : List Int} {x386006 : Int} {x386007 : List Int} {r_ : Bool} (h : Ev (fun k => if x9 < (x7.length : Int) then (if 0 ≤ x9 then (if x9 < (x8.length : Int) then (if (rd x7 x9) = (rd x8 x9) then ((measure_Para_End.f x386000 x386001 x386002 x386003 x386004 x386005 x386006 x386007 x9).bind fun t407 => (if t407 = (rd x8 x9) then (regletlaw08_MeasureTakes.l0 k x0 x1 (x7.set (x9 : Int).toNat (-7)) x8 (wrap64 (x9 + 1)) x386000 x386001 x386002 x386003 x386004 x386005 x386006 x386007) else (some false))) else (some false)) else (none)) else (none)) else ((measure_Para_Item.f x386000 x386001 x386002 x386003 x386004 x386005 x386006 x386007 x1).bind fun bt410 => (if x1 < 0 then (regletlaw08_MeasureTakes.j3 k x0 x1 x8 true x386000 x386001 x386002 x386003 x386004 x386005 x386006 x386007 bt410.1 bt410.2.1 bt410.2.2.1 bt410.2.2.2.1 bt410.2.2.2.2.1 bt410.2.2.2.2.2.1 bt410.2.2.2.2.2.2.1 bt410.2.2.2.2.2.2.2.1 bt410.2.2.2.2.2.2.2.2) else (regletlaw08_MeasureTakes.j3 k x0 x1 x8 (decide (x1 ≥ (x0.length : Int))) x386000 x386001 x386002 x386003 x386004 x386005 x386006 x386007 bt410.1 bt410.2.1 bt410.2.2.1 bt410.2.2.2.1 bt410.2.2.2.2.1 bt410.2.2.2.2.2.1 bt410.2.2.2.2.2.2.1 bt410.2.2.2.2.2.2.2.1 bt410.2.2.2.2.2.2.2.2)))) r_) : Ev (fun k => regletlaw08_MeasureTakes.l0 k x0 x1 x7 x8 x9 x386000 x386001 x386002 x386003 x386004 x386005 x386006 x386007) r_ := Ev.step (fun k => by rw [regletlaw08_MeasureTakes.l0]) h
theorem regletlaw08_MeasureTakes.j3.ev {x0 : List (S34)} {x1 : Int} {x8 : List Int} {x94 : Bool} {x386000 : List (S34)} {x386001 : List Int} {x386002 : List Int} {x386003 : List Int} {x386004 : List Int} {x386005 : List Int} {x386006 : Int} {x386007 : List Int} {x420000 : Int} {x420001 : Int} {x420002 : Int} {x420003 : Int} {x420004 : Bool} {x420005 : Int} {x420006 : Bool} {x420007 : Int} {x420008 : Int} {r_ : Bool} (h : Ev (fun k => if x94 = true then (if (x420000 == 0 && (x420001 == 0 && (x420002 == 0 && (x420003 == 0 && (!x420004 && (x420005 == 0 && (!x420006 && (x420007 == 0 && (x420008 == 0))))))))) = true then (if x1 < 0 then (some true) else (if x1 < (x8.length : Int) then (some true) else ((measure_Para_End.f x386000 x386001 x386002 x386003 x386004 x386005 x386006 x386007 x1).bind fun t420 => (some (t420 == (-1)))))) else (some false)) else (if 0 ≤ x1 then (if x1 < (x0.length : Int) then (if (x420000 == ((rd_T34 x0 x1).f0) && (x420001 == ((rd_T34 x0 x1).f1) && (x420002 == ((rd_T34 x0 x1).f2) && (x420003 == ((rd_T34 x0 x1).f3) && (x420004 == ((rd_T34 x0 x1).f4) && (x420005 == ((rd_T34 x0 x1).f5) && (x420006 == ((rd_T34 x0 x1).f6) && (x420007 == ((rd_T34 x0 x1).f7) && (x420008 == ((rd_T34 x0 x1).f8)))))))))) = true then (if (x8.length : Int) = 0 then (some true) else ((measure_Para_End.f x386000 x386001 x386002 x386003 x386004 x386005 x386006 x386007 0).bind fun t422 => (if 0 < (x8.length : Int) then (some (t422 == (rd x8 0))) else (none)))) else (some false)) else (none)) else (none))) r_) : Ev (fun k => regletlaw08_MeasureTakes.j3 k x0 x1 x8 x94 x386000 x386001 x386002 x386003 x386004 x386005 x386006 x386007 x420000 x420001 x420002 x420003 x420004 x420005 x420006 x420007 x420008) r_ := Ev.step (fun k => by rw [regletlaw08_MeasureTakes.j3]) h
def regletlaw08_MeasureTakes.T14 : Bool × List (List Nat × List Nat) := (true, [([], []), ([], []), ([0, 1], [0, 1]), ([2], [2]), ([], []), ([], []), ([4, 5], [4, 5]), ([6], [6]), ([3, 7], [3, 7]), ([8], [8]), ([9], [9]), ([9], [9]), ([10, 11, 9, 9], [9, 10, 11]), ([9], [9]), ([9], [9]), ([13, 14, 9], [9, 13, 14]), ([15, 9], [9, 15]), ([12, 16, 9], [9, 12, 16]), ([9, 17], [9, 17])])
def regletlaw08_MeasureTakes.B14 : List Nat := [0, 0, 3, 7, 0, 0, 48, 112, 255, 511, 1023, 1023, 4095, 1023, 1023, 25599, 58367, 131071, 262143]
theorem regletlaw08_MeasureTakes.tab14 : rtab .any (opsOf Try.f6 14) = regletlaw08_MeasureTakes.T14 := by kernel_rfl
theorem regletlaw08_MeasureTakes.bits14 : waitsOk regletlaw08_MeasureTakes.T14.2 regletlaw08_MeasureTakes.B14 = true := by kernel_rfl
def regletlaw08_MeasureTakes.T20 : Bool × List (List Nat × List Nat) := (true, [([], []), ([], []), ([], []), ([1, 2], [1, 2]), ([3], [3]), ([0, 4], [0, 4]), ([5], [5]), ([6], [6]), ([7, 6], [6, 7]), ([8, 6], [6, 8]), ([9, 6, 6], [6, 9]), ([10], [10]), ([11, 10, 10], [10, 11]), ([10], [10]), ([13, 10], [10, 13]), ([14, 10], [10, 14]), ([12, 15, 10], [10, 12, 15]), ([10, 16, 6], [6, 10, 16]), ([6, 17], [6, 17]), ([18, 12, 0, 1, 2, 3, 4, 5, 6, 7, 8, 9, 10, 11, 12, 13, 14, 15, 16, 17, 18], [18])])
def regletlaw08_MeasureTakes.B20 : List Nat := [0, 0, 0, 6, 14, 31, 63, 127, 255, 511, 1023, 2047, 4095, 2047, 10239, 26623, 65535, 131071, 262143, 524287]
theorem regletlaw08_MeasureTakes.tab20 : rtab .any (opsOf Try.f6 20) = regletlaw08_MeasureTakes.T20 := by kernel_rfl
theorem regletlaw08_MeasureTakes.bits20 : waitsOk regletlaw08_MeasureTakes.T20.2 regletlaw08_MeasureTakes.B20 = true := by kernel_rfl
set_option maxHeartbeats 8000000 in
set_option maxRecDepth 100000 in
theorem regletlaw08_MeasureTakes.calls (k : Nat) (A0 : Option Addr) (c0 : Nat) (l0 : List (S34)) (a1 : Int) (r : Bool) (w : World) (hr0 : Kd.C k34 w A0 l0.length l0) (hc0 : l0.length ≤ c0) (h : regletlaw08_MeasureTakes.f k l0 a1 = some r) :
  Calls Try.prog 6 #[.slice A0 l0.length c0, .int .i64 a1] w fun e w' => e = .returned (.bool r) ∧ Below w.heap.size w w' := by
 have hu34 := Try.underlying34
 have HR0 := Aside0.mk hr0
 have HC0 := Aside0.mk hc0
 clear hr0 hc0
 have HB := Aside0.mk (Below.refl w.heap.size w)
 have H : ((regletlaw08_awake.f k).bind fun t384 => (if t384 = true then ((measure_New.f k l0).bind fun bt395 => (if bt395.2.1 = true then ((regletref07_Right.f k l0).bind fun t396 => (if t396 = true then (if bt395.1 = 0 then ((measure_Para_Items.f bt395.2.2.1 bt395.2.2.2.1 bt395.2.2.2.2.1 bt395.2.2.2.2.2.1 bt395.2.2.2.2.2.2.1 bt395.2.2.2.2.2.2.2.1 bt395.2.2.2.2.2.2.2.2.1 bt395.2.2.2.2.2.2.2.2.2).bind fun t397 => (regletlaw08_MeasureTakes.j0 k l0 a1 (t397 != (l0.length : Int)) bt395.2.2.1 bt395.2.2.2.1 bt395.2.2.2.2.1 bt395.2.2.2.2.2.1 bt395.2.2.2.2.2.2.1 bt395.2.2.2.2.2.2.2.1 bt395.2.2.2.2.2.2.2.2.1 bt395.2.2.2.2.2.2.2.2.2)) else (regletlaw08_MeasureTakes.j0 k l0 a1 true bt395.2.2.1 bt395.2.2.2.1 bt395.2.2.2.2.1 bt395.2.2.2.2.2.1 bt395.2.2.2.2.2.2.1 bt395.2.2.2.2.2.2.2.1 bt395.2.2.2.2.2.2.2.2.1 bt395.2.2.2.2.2.2.2.2.2)) else (some false))) else ((regletref07_Right.f k l0).bind fun t424 => (if t424 = true then (some false) else (some (bt395.1 == 70)))))) else (some false))) = some r := h
 clear h
 replace H := Option.bind_eq_some_iff.mp H
 obtain ⟨t384, A30, H⟩ := H
 replace H : (if t384 = true then ((measure_New.f k l0).bind fun bt395 => (if bt395.2.1 = true then ((regletref07_Right.f k l0).bind fun t396 => (if t396 = true then (if bt395.1 = 0 then ((measure_Para_Items.f bt395.2.2.1 bt395.2.2.2.1 bt395.2.2.2.2.1 bt395.2.2.2.2.2.1 bt395.2.2.2.2.2.2.1 bt395.2.2.2.2.2.2.2.1 bt395.2.2.2.2.2.2.2.2.1 bt395.2.2.2.2.2.2.2.2.2).bind fun t397 => (regletlaw08_MeasureTakes.j0 k l0 a1 (t397 != (l0.length : Int)) bt395.2.2.1 bt395.2.2.2.1 bt395.2.2.2.2.1 bt395.2.2.2.2.2.1 bt395.2.2.2.2.2.2.1 bt395.2.2.2.2.2.2.2.1 bt395.2.2.2.2.2.2.2.2.1 bt395.2.2.2.2.2.2.2.2.2)) else (regletlaw08_MeasureTakes.j0 k l0 a1 true bt395.2.2.1 bt395.2.2.2.1 bt395.2.2.2.2.1 bt395.2.2.2.2.2.1 bt395.2.2.2.2.2.2.1 bt395.2.2.2.2.2.2.2.1 bt395.2.2.2.2.2.2.2.2.1 bt395.2.2.2.2.2.2.2.2.2)) else (some false))) else ((regletref07_Right.f k l0).bind fun t424 => (if t424 = true then (some false) else (some (bt395.1 == 70)))))) else (some false)) = some r := H
 have A3 := Aside0.mk A30
 clear A30
 by_cases c4 : t384 = true
 case neg =>
  replace c4 := Bool.eq_false_iff.mpr c4
  subst c4
  have H1 : (some false) = some r := by rw [if_neg (show ¬ (false = true) by decide)] at H; exact H
  clear H; have H := H1; clear H1; obtain rfl := Option.some.inj H
  go_enter Try.func6, Try.ntmps6
  go_wp2_with (first | ((with_reducible refine gate_callee (f := 10) rfl ?_); refine goesL_ (some 11) rfl rfl Try.func10 (by kernel_rfl) rfl #[] rfl (by (try simp only [List.map_toArray, List.map_cons, List.map_nil]); first | done | rfl | (simp only [List.length_drop, List.length_take]; rfl)) ?_; (with_reducible refine (regletlaw08_awake.calls k  false _ A3.out).mono ?_); rintro e w97 ⟨rfl, hb⟩; refine ⟨_, rfl, ?_⟩; have n0_ := Aside0.mk (below_step (by repeat (first | (with_reducible first | exact HB.out | apply bA | apply bN | apply bD) | exact HB.out)) hb); clear HB; have HB := n0_; clear n0_; (try clear hb); (try clear hb2); (try clear hk); (try clear hi)))
  go_ret
  exact ⟨by first | rfl | (simp [errW_none, errW_some] <;> rfl) | (simp [*, errW_none, errW_some] <;> rfl), by repeat (first | (with_reducible first | exact HB.out | apply bA | apply bN | apply bD) | exact HB.out)⟩
 subst c4
 have H1 : ((measure_New.f k l0).bind fun bt395 => (if bt395.2.1 = true then ((regletref07_Right.f k l0).bind fun t396 => (if t396 = true then (if bt395.1 = 0 then ((measure_Para_Items.f bt395.2.2.1 bt395.2.2.2.1 bt395.2.2.2.2.1 bt395.2.2.2.2.2.1 bt395.2.2.2.2.2.2.1 bt395.2.2.2.2.2.2.2.1 bt395.2.2.2.2.2.2.2.2.1 bt395.2.2.2.2.2.2.2.2.2).bind fun t397 => (regletlaw08_MeasureTakes.j0 k l0 a1 (t397 != (l0.length : Int)) bt395.2.2.1 bt395.2.2.2.1 bt395.2.2.2.2.1 bt395.2.2.2.2.2.1 bt395.2.2.2.2.2.2.1 bt395.2.2.2.2.2.2.2.1 bt395.2.2.2.2.2.2.2.2.1 bt395.2.2.2.2.2.2.2.2.2)) else (regletlaw08_MeasureTakes.j0 k l0 a1 true bt395.2.2.1 bt395.2.2.2.1 bt395.2.2.2.2.1 bt395.2.2.2.2.2.1 bt395.2.2.2.2.2.2.1 bt395.2.2.2.2.2.2.2.1 bt395.2.2.2.2.2.2.2.2.1 bt395.2.2.2.2.2.2.2.2.2)) else (some false))) else ((regletref07_Right.f k l0).bind fun t424 => (if t424 = true then (some false) else (some (bt395.1 == 70)))))) = some r := by rw [if_pos rfl] at H; exact H
 clear H
 have H := H1
 clear H1
 replace H := Option.bind_eq_some_iff.mp H
 obtain ⟨⟨t395, t386, t387, t388, t389, t390, t391, t392, t393, t394⟩, A50, H⟩ := H
 replace H : (if t386 = true then ((regletref07_Right.f k l0).bind fun t396 => (if t396 = true then (if t395 = 0 then ((measure_Para_Items.f t387 t388 t389 t390 t391 t392 t393 t394).bind fun t397 => (regletlaw08_MeasureTakes.j0 k l0 a1 (t397 != (l0.length : Int)) t387 t388 t389 t390 t391 t392 t393 t394)) else (regletlaw08_MeasureTakes.j0 k l0 a1 true t387 t388 t389 t390 t391 t392 t393 t394)) else (some false))) else ((regletref07_Right.f k l0).bind fun t424 => (if t424 = true then (some false) else (some (t395 == 70))))) = some r := H
 have A5 := Aside0.mk A50
 clear A50
 by_cases c6 : t386 = true
 case neg =>
  replace c6 := Bool.eq_false_iff.mpr c6
  subst c6
  have H1 : ((regletref07_Right.f k l0).bind fun t424 => (if t424 = true then (some false) else (some (t395 == 70)))) = some r := by rw [if_neg (show ¬ (false = true) by decide)] at H; exact H
  clear H; have H := H1; clear H1; replace H := Option.bind_eq_some_iff.mp H; obtain ⟨t424, A890, H⟩ := H; replace H : (if t424 = true then (some false) else (some (t395 == 70))) = some r := H
  have A89 := Aside0.mk A890; clear A890; by_cases c90 : t424 = true
  · subst c90
    have H1 : (some false) = some r := by rw [if_pos rfl] at H; exact H
    clear H; have H := H1; clear H1; obtain rfl := Option.some.inj H
    go_enter Try.func6, Try.ntmps6
    go_wp2_with (first | ((with_reducible refine gate_callee (f := 10) rfl ?_); refine goesL_ (some 11) rfl rfl Try.func10 (by kernel_rfl) rfl #[] rfl (by (try simp only [List.map_toArray, List.map_cons, List.map_nil]); first | done | rfl | (simp only [List.length_drop, List.length_take]; rfl)) ?_; (with_reducible refine (regletlaw08_awake.calls k  true _ A3.out).mono ?_); rintro e w91 ⟨rfl, hb⟩; refine ⟨_, rfl, ?_⟩; have n0_ := Aside0.mk (below_step (by repeat (first | (with_reducible first | exact HB.out | apply bA | apply bN | apply bD) | exact HB.out)) hb); clear HB; have HB := n0_; clear n0_; (try clear hb); (try clear hb2); (try clear hk); (try clear hi)) | ((with_reducible refine gate_callee (f := 18) rfl ?_); refine goesL_ (some 15) rfl rfl Try.func18 (by kernel_rfl) rfl #[.slice A0 l0.length c0] rfl (by (try simp only [List.map_toArray, List.map_cons, List.map_nil]); first | done | rfl | (simp only [List.length_drop, List.length_take]; rfl)) ?_; (with_reducible refine (measure_New.calls k _ _ l0 t395 false t387 t388 t389 t390 t391 t392 t393 t394 _ ?side1 ?side2 A5.out).mono ?_); (case side1 => repeat (first | exact (Kd.C_below HR0.out HB.out) | (with_reducible refine Kd.C_alloc ?_ _) | (with_reducible refine Kd.C_drewN ?_ _) | (with_reducible refine Kd.C_drew ?_))); (case side2 => exact HC0.out); rintro e w92 ⟨vp385, rfl, hq385, hb⟩; refine ⟨_, rfl, ?_⟩; obtain rfl := PtS75.no hq385 (by first | rfl | assumption); have n0_ := Aside0.mk (below_step (by repeat (first | (with_reducible first | exact HB.out | apply bA | apply bN | apply bD) | exact HB.out)) hb); clear HB; have HB := n0_; clear n0_; (try clear hb); (try clear hb2); (try clear hk); (try clear hi)) | ((with_reducible refine gate_callee (f := 19) rfl ?_); refine goesL_ (some 19) rfl rfl Try.func19 (by kernel_rfl) rfl #[.slice A0 l0.length c0] rfl (by (try simp only [List.map_toArray, List.map_cons, List.map_nil]); first | done | rfl | (simp only [List.length_drop, List.length_take]; rfl)) ?_; (with_reducible refine (regletref07_Right.calls k _ _ l0 true _ ?side1 ?side2 A89.out).mono ?_); (case side1 => repeat (first | exact (Kd.C_below HR0.out HB.out) | (with_reducible refine Kd.C_alloc ?_ _) | (with_reducible refine Kd.C_drewN ?_ _) | (with_reducible refine Kd.C_drew ?_))); (case side2 => exact HC0.out); rintro e w93 ⟨rfl, hb⟩; refine ⟨_, rfl, ?_⟩; have n0_ := Aside0.mk (below_step (by repeat (first | (with_reducible first | exact HB.out | apply bA | apply bN | apply bD) | exact HB.out)) hb); clear HB; have HB := n0_; clear n0_; (try clear hb); (try clear hb2); (try clear hk); (try clear hi)))
    go_ret
    exact ⟨by first | rfl | (simp [errW_none, errW_some] <;> rfl) | (simp [*, errW_none, errW_some] <;> rfl), by repeat (first | (with_reducible first | exact HB.out | apply bA | apply bN | apply bD) | exact HB.out)⟩
  replace c90 := Bool.eq_false_iff.mpr c90
  subst c90
  have H1 : (some (t395 == 70)) = some r := by rw [if_neg (show ¬ (false = true) by decide)] at H; exact H
  clear H; have H := H1; clear H1; obtain rfl := Option.some.inj H
  go_enter Try.func6, Try.ntmps6
  go_wp2_with (first | ((with_reducible refine gate_callee (f := 10) rfl ?_); refine goesL_ (some 11) rfl rfl Try.func10 (by kernel_rfl) rfl #[] rfl (by (try simp only [List.map_toArray, List.map_cons, List.map_nil]); first | done | rfl | (simp only [List.length_drop, List.length_take]; rfl)) ?_; (with_reducible refine (regletlaw08_awake.calls k  true _ A3.out).mono ?_); rintro e w94 ⟨rfl, hb⟩; refine ⟨_, rfl, ?_⟩; have n0_ := Aside0.mk (below_step (by repeat (first | (with_reducible first | exact HB.out | apply bA | apply bN | apply bD) | exact HB.out)) hb); clear HB; have HB := n0_; clear n0_; (try clear hb); (try clear hb2); (try clear hk); (try clear hi)) | ((with_reducible refine gate_callee (f := 18) rfl ?_); refine goesL_ (some 15) rfl rfl Try.func18 (by kernel_rfl) rfl #[.slice A0 l0.length c0] rfl (by (try simp only [List.map_toArray, List.map_cons, List.map_nil]); first | done | rfl | (simp only [List.length_drop, List.length_take]; rfl)) ?_; (with_reducible refine (measure_New.calls k _ _ l0 t395 false t387 t388 t389 t390 t391 t392 t393 t394 _ ?side1 ?side2 A5.out).mono ?_); (case side1 => repeat (first | exact (Kd.C_below HR0.out HB.out) | (with_reducible refine Kd.C_alloc ?_ _) | (with_reducible refine Kd.C_drewN ?_ _) | (with_reducible refine Kd.C_drew ?_))); (case side2 => exact HC0.out); rintro e w95 ⟨vp385, rfl, hq385, hb⟩; refine ⟨_, rfl, ?_⟩; obtain rfl := PtS75.no hq385 (by first | rfl | assumption); have n0_ := Aside0.mk (below_step (by repeat (first | (with_reducible first | exact HB.out | apply bA | apply bN | apply bD) | exact HB.out)) hb); clear HB; have HB := n0_; clear n0_; (try clear hb); (try clear hb2); (try clear hk); (try clear hi)) | ((with_reducible refine gate_callee (f := 19) rfl ?_); refine goesL_ (some 19) rfl rfl Try.func19 (by kernel_rfl) rfl #[.slice A0 l0.length c0] rfl (by (try simp only [List.map_toArray, List.map_cons, List.map_nil]); first | done | rfl | (simp only [List.length_drop, List.length_take]; rfl)) ?_; (with_reducible refine (regletref07_Right.calls k _ _ l0 false _ ?side1 ?side2 A89.out).mono ?_); (case side1 => repeat (first | exact (Kd.C_below HR0.out HB.out) | (with_reducible refine Kd.C_alloc ?_ _) | (with_reducible refine Kd.C_drewN ?_ _) | (with_reducible refine Kd.C_drew ?_))); (case side2 => exact HC0.out); rintro e w96 ⟨rfl, hb⟩; refine ⟨_, rfl, ?_⟩; have n0_ := Aside0.mk (below_step (by repeat (first | (with_reducible first | exact HB.out | apply bA | apply bN | apply bD) | exact HB.out)) hb); clear HB; have HB := n0_; clear n0_; (try clear hb); (try clear hb2); (try clear hk); (try clear hi)))
  go_ret
  exact ⟨by first | rfl | (simp [errW_none, errW_some] <;> rfl) | (simp [*, errW_none, errW_some] <;> rfl), by repeat (first | (with_reducible first | exact HB.out | apply bA | apply bN | apply bD) | exact HB.out)⟩
 subst c6
 have H1 : ((regletref07_Right.f k l0).bind fun t396 => (if t396 = true then (if t395 = 0 then ((measure_Para_Items.f t387 t388 t389 t390 t391 t392 t393 t394).bind fun t397 => (regletlaw08_MeasureTakes.j0 k l0 a1 (t397 != (l0.length : Int)) t387 t388 t389 t390 t391 t392 t393 t394)) else (regletlaw08_MeasureTakes.j0 k l0 a1 true t387 t388 t389 t390 t391 t392 t393 t394)) else (some false))) = some r := by rw [if_pos rfl] at H; exact H
 clear H
 have H := H1
 clear H1
 replace H := Option.bind_eq_some_iff.mp H
 obtain ⟨t396, A70, H⟩ := H
 replace H : (if t396 = true then (if t395 = 0 then ((measure_Para_Items.f t387 t388 t389 t390 t391 t392 t393 t394).bind fun t397 => (regletlaw08_MeasureTakes.j0 k l0 a1 (t397 != (l0.length : Int)) t387 t388 t389 t390 t391 t392 t393 t394)) else (regletlaw08_MeasureTakes.j0 k l0 a1 true t387 t388 t389 t390 t391 t392 t393 t394)) else (some false)) = some r := H
 have A7 := Aside0.mk A70
 clear A70
 by_cases c8 : t396 = true
 case neg =>
  replace c8 := Bool.eq_false_iff.mpr c8
  subst c8
  have H1 : (some false) = some r := by rw [if_neg (show ¬ (false = true) by decide)] at H; exact H
  clear H; have H := H1; clear H1; obtain rfl := Option.some.inj H
  go_enter Try.func6, Try.ntmps6
  go_wp2_with (first | ((with_reducible refine gate_callee (f := 10) rfl ?_); refine goesL_ (some 11) rfl rfl Try.func10 (by kernel_rfl) rfl #[] rfl (by (try simp only [List.map_toArray, List.map_cons, List.map_nil]); first | done | rfl | (simp only [List.length_drop, List.length_take]; rfl)) ?_; (with_reducible refine (regletlaw08_awake.calls k  true _ A3.out).mono ?_); rintro e w86 ⟨rfl, hb⟩; refine ⟨_, rfl, ?_⟩; have n0_ := Aside0.mk (below_step (by repeat (first | (with_reducible first | exact HB.out | apply bA | apply bN | apply bD) | exact HB.out)) hb); clear HB; have HB := n0_; clear n0_; (try clear hb); (try clear hb2); (try clear hk); (try clear hi)) | ((with_reducible refine gate_callee (f := 18) rfl ?_); refine goesL_ (some 15) rfl rfl Try.func18 (by kernel_rfl) rfl #[.slice A0 l0.length c0] rfl (by (try simp only [List.map_toArray, List.map_cons, List.map_nil]); first | done | rfl | (simp only [List.length_drop, List.length_take]; rfl)) ?_; (with_reducible refine (measure_New.calls k _ _ l0 t395 true t387 t388 t389 t390 t391 t392 t393 t394 _ ?side1 ?side2 A5.out).mono ?_); (case side1 => repeat (first | exact (Kd.C_below HR0.out HB.out) | (with_reducible refine Kd.C_alloc ?_ _) | (with_reducible refine Kd.C_drewN ?_ _) | (with_reducible refine Kd.C_drew ?_))); (case side2 => exact HC0.out); rintro e w ⟨vp385, rfl, hq385, hb⟩; refine ⟨_, rfl, ?_⟩; obtain ⟨gp385, A385_0, c385_0, A385_1, c385_1, A385_2, c385_2, A385_3, c385_3, A385_4, c385_4, A385_5, c385_5, A385_7, c385_7, rfl, hbk385, hrp385_0, hcp385_0, hrp385_1, hcp385_1, hrp385_2, hcp385_2, hrp385_3, hcp385_3, hrp385_4, hcp385_4, hrp385_5, hcp385_5, hrp385_7, hcp385_7⟩ := PtS75.yes hq385 (by first | rfl | assumption); have n0_ := Aside0.mk (Kd.C_below HR0.out (below_step (by repeat (first | (with_reducible first | exact HB.out | apply bA | apply bN | apply bD) | exact HB.out)) hb)); have n1_ := Aside0.mk (below_step (by repeat (first | (with_reducible first | exact HB.out | apply bA | apply bN | apply bD) | exact HB.out)) hb); have n2_ := Aside0.mk (Below.refl w.heap.size w); have n3_ := Aside0.mk (hbk385); have n4_ := Aside0.mk (hrp385_0); have n5_ := Aside0.mk (hcp385_0); have n6_ := Aside0.mk (hrp385_1); have n7_ := Aside0.mk (hcp385_1); have n8_ := Aside0.mk (hrp385_2); have n9_ := Aside0.mk (hcp385_2); have n10_ := Aside0.mk (hrp385_3); have n11_ := Aside0.mk (hcp385_3); have n12_ := Aside0.mk (hrp385_4); have n13_ := Aside0.mk (hcp385_4); have n14_ := Aside0.mk (hrp385_5); have n15_ := Aside0.mk (hcp385_5); have n16_ := Aside0.mk (hrp385_7); have n17_ := Aside0.mk (hcp385_7); clear HR0; clear HB; have HR0 := n0_; have HB0 := n1_; have HB := n2_; have BK385 := n3_; have HR385_0 := n4_; have HC385_0 := n5_; have HR385_1 := n6_; have HC385_1 := n7_; have HR385_2 := n8_; have HC385_2 := n9_; have HR385_3 := n10_; have HC385_3 := n11_; have HR385_4 := n12_; have HC385_4 := n13_; have HR385_5 := n14_; have HC385_5 := n15_; have HR385_7 := n16_; have HC385_7 := n17_; clear n0_ n1_ n2_ n3_ n4_ n5_ n6_ n7_ n8_ n9_ n10_ n11_ n12_ n13_ n14_ n15_ n16_ n17_; (try clear hb); (try clear hq385 hbk385 hrp385_0 hcp385_0 hrp385_1 hcp385_1 hrp385_2 hcp385_2 hrp385_3 hcp385_3 hrp385_4 hcp385_4 hrp385_5 hcp385_5 hrp385_7 hcp385_7)) | ((with_reducible refine gate_callee (f := 19) rfl ?_); refine goesL_ (some 19) rfl rfl Try.func19 (by kernel_rfl) rfl #[.slice A0 l0.length c0] rfl (by (try simp only [List.map_toArray, List.map_cons, List.map_nil]); first | done | rfl | (simp only [List.length_drop, List.length_take]; rfl)) ?_; (with_reducible refine (regletref07_Right.calls k _ _ l0 false _ ?side1 ?side2 A7.out).mono ?_); (case side1 => repeat (first | exact (Kd.C_below HR0.out HB.out) | (with_reducible refine Kd.C_alloc ?_ _) | (with_reducible refine Kd.C_drewN ?_ _) | (with_reducible refine Kd.C_drew ?_))); (case side2 => exact HC0.out); rintro e w88 ⟨rfl, hb⟩; refine ⟨_, rfl, ?_⟩; have n0_ := Aside0.mk (blk_below (g := gp385) (o := .cells #[.slice A385_0 t387.length c385_0, .slice A385_1 t388.length c385_1, .slice A385_2 t389.length c385_2, .slice A385_3 t390.length c385_3, .slice A385_4 t391.length c385_4, .slice A385_5 t392.length c385_5, .int .i64 t393, .slice A385_7 t394.length c385_7] 75 (0, 0)) (by (with_reducible repeat first | apply kN | apply kD | apply kA); exact BK385.out) hb); have n1_ := Aside0.mk (below_step (by repeat (first | (with_reducible first | exact HB.out | apply bA | apply bN | apply bD | refine below_set ?_ GE385.out) | exact HB.out)) hb); clear BK385; clear HB; have BK385 := n0_; have HB := n1_; clear n0_ n1_; (try clear hb); (try clear hb2); (try clear hk); (try clear hi)))
  go_ret
  exact ⟨by first | rfl | (simp [errW_none, errW_some] <;> rfl) | (simp [*, errW_none, errW_some] <;> rfl), below_step HB0.out (by repeat (first | (with_reducible first | exact HB.out | apply bA | apply bN | apply bD | refine below_set ?_ GE385.out) | exact HB.out))⟩
 subst c8
 have H1 : (if t395 = 0 then ((measure_Para_Items.f t387 t388 t389 t390 t391 t392 t393 t394).bind fun t397 => (regletlaw08_MeasureTakes.j0 k l0 a1 (t397 != (l0.length : Int)) t387 t388 t389 t390 t391 t392 t393 t394)) else (regletlaw08_MeasureTakes.j0 k l0 a1 true t387 t388 t389 t390 t391 t392 t393 t394)) = some r := by rw [if_pos rfl] at H; exact H
 clear H
 have H := H1
 clear H1
 have HC9 := Aside0.mk H
 clear H
 go_enter Try.func6, Try.ntmps6
 go_upto_region 6 with (first | ((with_reducible refine gate_callee (f := 10) rfl ?_); refine goesL_ (some 11) rfl rfl Try.func10 (by kernel_rfl) rfl #[] rfl (by (try simp only [List.map_toArray, List.map_cons, List.map_nil]); first | done | rfl | (simp only [List.length_drop, List.length_take]; rfl)) ?_; (with_reducible refine (regletlaw08_awake.calls k  true _ A3.out).mono ?_); rintro e w10 ⟨rfl, hb⟩; refine ⟨_, rfl, ?_⟩; have n0_ := Aside0.mk (below_step (by repeat (first | (with_reducible first | exact HB.out | apply bA | apply bN | apply bD) | exact HB.out)) hb); clear HB; have HB := n0_; clear n0_; (try clear hb); (try clear hb2); (try clear hk); (try clear hi)) | ((with_reducible refine gate_callee (f := 18) rfl ?_); refine goesL_ (some 15) rfl rfl Try.func18 (by kernel_rfl) rfl #[.slice A0 l0.length c0] rfl (by (try simp only [List.map_toArray, List.map_cons, List.map_nil]); first | done | rfl | (simp only [List.length_drop, List.length_take]; rfl)) ?_; (with_reducible refine (measure_New.calls k _ _ l0 t395 true t387 t388 t389 t390 t391 t392 t393 t394 _ ?side1 ?side2 A5.out).mono ?_); (case side1 => repeat (first | exact (Kd.C_below HR0.out HB.out) | (with_reducible refine Kd.C_alloc ?_ _) | (with_reducible refine Kd.C_drewN ?_ _) | (with_reducible refine Kd.C_drew ?_))); (case side2 => exact HC0.out); rintro e w ⟨vp385, rfl, hq385, hb⟩; refine ⟨_, rfl, ?_⟩; obtain ⟨gp385, A385_0, c385_0, A385_1, c385_1, A385_2, c385_2, A385_3, c385_3, A385_4, c385_4, A385_5, c385_5, A385_7, c385_7, rfl, hbk385, hrp385_0, hcp385_0, hrp385_1, hcp385_1, hrp385_2, hcp385_2, hrp385_3, hcp385_3, hrp385_4, hcp385_4, hrp385_5, hcp385_5, hrp385_7, hcp385_7⟩ := PtS75.yes hq385 (by first | rfl | assumption); have n0_ := Aside0.mk (Kd.C_below HR0.out (below_step (by repeat (first | (with_reducible first | exact HB.out | apply bA | apply bN | apply bD) | exact HB.out)) hb)); have n1_ := Aside0.mk (below_step (by repeat (first | (with_reducible first | exact HB.out | apply bA | apply bN | apply bD) | exact HB.out)) hb); have n2_ := Aside0.mk (Below.refl w.heap.size w); have n3_ := Aside0.mk (hbk385); have n4_ := Aside0.mk (hrp385_0); have n5_ := Aside0.mk (hcp385_0); have n6_ := Aside0.mk (hrp385_1); have n7_ := Aside0.mk (hcp385_1); have n8_ := Aside0.mk (hrp385_2); have n9_ := Aside0.mk (hcp385_2); have n10_ := Aside0.mk (hrp385_3); have n11_ := Aside0.mk (hcp385_3); have n12_ := Aside0.mk (hrp385_4); have n13_ := Aside0.mk (hcp385_4); have n14_ := Aside0.mk (hrp385_5); have n15_ := Aside0.mk (hcp385_5); have n16_ := Aside0.mk (hrp385_7); have n17_ := Aside0.mk (hcp385_7); clear HR0; clear HB; have HR0 := n0_; have HB0 := n1_; have HB := n2_; have BK385 := n3_; have HR385_0 := n4_; have HC385_0 := n5_; have HR385_1 := n6_; have HC385_1 := n7_; have HR385_2 := n8_; have HC385_2 := n9_; have HR385_3 := n10_; have HC385_3 := n11_; have HR385_4 := n12_; have HC385_4 := n13_; have HR385_5 := n14_; have HC385_5 := n15_; have HR385_7 := n16_; have HC385_7 := n17_; clear n0_ n1_ n2_ n3_ n4_ n5_ n6_ n7_ n8_ n9_ n10_ n11_ n12_ n13_ n14_ n15_ n16_ n17_; (try clear hb); (try clear hq385 hbk385 hrp385_0 hcp385_0 hrp385_1 hcp385_1 hrp385_2 hcp385_2 hrp385_3 hcp385_3 hrp385_4 hcp385_4 hrp385_5 hcp385_5 hrp385_7 hcp385_7)) | ((with_reducible refine gate_callee (f := 19) rfl ?_); refine goesL_ (some 19) rfl rfl Try.func19 (by kernel_rfl) rfl #[.slice A0 l0.length c0] rfl (by (try simp only [List.map_toArray, List.map_cons, List.map_nil]); first | done | rfl | (simp only [List.length_drop, List.length_take]; rfl)) ?_; (with_reducible refine (regletref07_Right.calls k _ _ l0 true _ ?side1 ?side2 A7.out).mono ?_); (case side1 => repeat (first | exact (Kd.C_below HR0.out HB.out) | (with_reducible refine Kd.C_alloc ?_ _) | (with_reducible refine Kd.C_drewN ?_ _) | (with_reducible refine Kd.C_drew ?_))); (case side2 => exact HC0.out); rintro e w12 ⟨rfl, hb⟩; refine ⟨_, rfl, ?_⟩; have n0_ := Aside0.mk (blk_below (g := gp385) (o := .cells #[.slice A385_0 t387.length c385_0, .slice A385_1 t388.length c385_1, .slice A385_2 t389.length c385_2, .slice A385_3 t390.length c385_3, .slice A385_4 t391.length c385_4, .slice A385_5 t392.length c385_5, .int .i64 t393, .slice A385_7 t394.length c385_7] 75 (0, 0)) (by (with_reducible repeat first | apply kN | apply kD | apply kA); exact BK385.out) hb); have n1_ := Aside0.mk (below_step (by repeat (first | (with_reducible first | exact HB.out | apply bA | apply bN | apply bD | refine below_set ?_ GE385.out) | exact HB.out)) hb); clear BK385; clear HB; have BK385 := n0_; have HB := n1_; clear n0_ n1_; (try clear hb); (try clear hb2); (try clear hk); (try clear hi)))
 (try simp only [Act.put, List.setIfInBounds_toArray, List.set_cons_zero, List.set_cons_succ])
 go_cut [39] (fun v39 wc => ∃ (kq : Nat) (x39_8 : Bool) (x386006_8 : Int), v39 = .bool x39_8 ∧ Aside0 (regletlaw08_MeasureTakes.j0 kq l0 a1 x39_8 t387 t388 t389 t390 t391 t392 x386006_8 t394 = some r) ∧ Aside0 (kq ≤ k) ∧ Aside0 (wc.heap[gp385]? = some (.cells #[(.slice A385_0 t387.length c385_0), (.slice A385_1 t388.length c385_1), (.slice A385_2 t389.length c385_2), (.slice A385_3 t390.length c385_3), (.slice A385_4 t391.length c385_4), (.slice A385_5 t392.length c385_5), .int .i64 x386006_8, (.slice A385_7 t394.length c385_7)] 75 (0, 0))) ∧ Aside0 (Below w.heap.size w wc))
 case first =>
  have H := HC9.out; clear HC9; by_cases c13 : t395 = 0
  case neg =>
    rw [if_neg c13] at H
    have c13b0 : (t395 == 0) = false := beq_eq_false_iff_ne.mpr c13
    have c13b1 : (t395 != 0) = true := bne_iff_ne.mpr c13
    (first | rw [c13b0] | (simp only [i64_w, i32_w]; rw [c13b0]) | skip)
    have H' := Aside0.mk H; clear H; go_wp2
    go_meet
    case rel => exact ⟨_, (true), (t393), (by first | rfl | (simp; done) | (simp [*]; done)), H', ⟨by first | omega | exact Nat.le_refl _⟩, ⟨by (with_reducible repeat first | apply kN | apply kD | apply kA); exact BK385.out⟩, ⟨by repeat (first | (with_reducible first | exact HB.out | apply bA | apply bN | apply bD | refine below_set ?_ GE385.out) | exact HB.out)⟩⟩
  rw [if_pos c13] at H
  have c13b0 : (t395 == 0) = true := beq_iff_eq.mpr c13
  have c13b1 : (t395 != 0) = false := bne_eq_false_iff_eq.mpr c13
  clear c13
  (first | rw [c13b0] | (simp only [i64_w, i32_w]; rw [c13b0]) | skip)
  replace H := Option.bind_eq_some_iff.mp H; obtain ⟨t397, A140, H⟩ := H; replace H : (regletlaw08_MeasureTakes.j0 k l0 a1 (t397 != (l0.length : Int)) t387 t388 t389 t390 t391 t392 t393 t394) = some r := H
  have A14 := Aside0.mk A140; clear A140; have H' := Aside0.mk H; clear H; go_wp2_with (first | (go_at_call 20; (with_reducible refine (measure_Para_Items.calls gp385 A385_0 c385_0 t387 A385_1 c385_1 t388 A385_2 c385_2 t389 A385_3 c385_3 t390 A385_4 c385_4 t391 A385_5 c385_5 t392 t393 A385_7 c385_7 t394 t397 _ ?side1 ?side2 ?side3 ?side4 ?side5 ?side6 ?side7 ?side8 ?side9 ?side10 ?side11 ?side12 ?side13 ?side14 ?side15 A14.out).mono ?_); (case side1 => (with_reducible repeat first | apply kN | apply kD | apply kA); exact BK385.out); (case side2 => repeat (first | exact (Kd.C_below HR385_0.out HB.out) | (with_reducible refine Kd.C_alloc ?_ _) | (with_reducible refine Kd.C_drewN ?_ _) | (with_reducible refine Kd.C_drew ?_))); (case side3 => exact HC385_0.out); (case side4 => repeat (first | exact (Kd.C_below HR385_1.out HB.out) | (with_reducible refine Kd.C_alloc ?_ _) | (with_reducible refine Kd.C_drewN ?_ _) | (with_reducible refine Kd.C_drew ?_))); (case side5 => exact HC385_1.out); (case side6 => repeat (first | exact (Kd.C_below HR385_2.out HB.out) | (with_reducible refine Kd.C_alloc ?_ _) | (with_reducible refine Kd.C_drewN ?_ _) | (with_reducible refine Kd.C_drew ?_))); (case side7 => exact HC385_2.out); (case side8 => repeat (first | exact (Kd.C_below HR385_3.out HB.out) | (with_reducible refine Kd.C_alloc ?_ _) | (with_reducible refine Kd.C_drewN ?_ _) | (with_reducible refine Kd.C_drew ?_))); (case side9 => exact HC385_3.out); (case side10 => repeat (first | exact (Kd.C_below HR385_4.out HB.out) | (with_reducible refine Kd.C_alloc ?_ _) | (with_reducible refine Kd.C_drewN ?_ _) | (with_reducible refine Kd.C_drew ?_))); (case side11 => exact HC385_4.out); (case side12 => repeat (first | exact (Kd.C_below HR385_5.out HB.out) | (with_reducible refine Kd.C_alloc ?_ _) | (with_reducible refine Kd.C_drewN ?_ _) | (with_reducible refine Kd.C_drew ?_))); (case side13 => exact HC385_5.out); (case side14 => repeat (first | exact (Kd.C_below HR385_7.out HB.out) | (with_reducible refine Kd.C_alloc ?_ _) | (with_reducible refine Kd.C_drewN ?_ _) | (with_reducible refine Kd.C_drew ?_))); (case side15 => exact HC385_7.out); rintro e w15 ⟨rfl, hb⟩; have n0_ := Aside0.mk (blk_below (g := gp385) (o := .cells #[.slice A385_0 t387.length c385_0, .slice A385_1 t388.length c385_1, .slice A385_2 t389.length c385_2, .slice A385_3 t390.length c385_3, .slice A385_4 t391.length c385_4, .slice A385_5 t392.length c385_5, .int .i64 t393, .slice A385_7 t394.length c385_7] 75 (0, 0)) (by (with_reducible repeat first | apply kN | apply kD | apply kA); exact BK385.out) hb); have n1_ := Aside0.mk (below_step (by repeat (first | (with_reducible first | exact HB.out | apply bA | apply bN | apply bD | refine below_set ?_ GE385.out) | exact HB.out)) hb); clear BK385; clear HB; have BK385 := n0_; have HB := n1_; clear n0_ n1_; (try clear hb); (try clear hb2); (try clear hk); (try clear hi)))
  go_meet
  case rel => exact ⟨_, ((t397 != (l0.length : Int))), (t393), (by first | rfl | (simp; done) | (simp [*]; done)), H', ⟨by first | omega | exact Nat.le_refl _⟩, ⟨by (with_reducible repeat first | apply kN | apply kD | apply kA); exact BK385.out⟩, ⟨by repeat (first | (with_reducible first | exact HB.out | apply bA | apply bN | apply bD | refine below_set ?_ GE385.out) | exact HB.out)⟩⟩
 case rest =>
  clear HC9
  try clear c1
  try clear p2
  try clear c3
  try clear p3
  try clear q3
  try clear c4
  try clear c6
  try clear c8
  try clear c10
  try clear c13
  try clear c13b0
  try clear c13b1
  obtain ⟨kq, x39_8, x386006_8, rfl, HA, HJ8, BK385, HB⟩ := hcut
  cases kq with
  | zero => exact absurd HA.out (by simp [regletlaw08_MeasureTakes.j0])
  | succ kj8 =>
    have H := HA.out; clear HA; simp only [regletlaw08_MeasureTakes.j0] at H
    by_cases c16 : x39_8 = true
    · subst c16
      have H1 : (some false) = some r := by rw [if_pos rfl] at H; exact H
      clear H; have H := H1; clear H1; obtain rfl := Option.some.inj H
      go_wp2
      go_ret
      exact ⟨by first | rfl | (simp [errW_none, errW_some] <;> rfl) | (simp [*, errW_none, errW_some] <;> rfl), below_step HB0.out (by repeat (first | (with_reducible first | exact HB.out | apply bA | apply bN | apply bD | refine below_set ?_ GE385.out) | exact HB.out))⟩
    replace c16 := Bool.eq_false_iff.mpr c16
    subst c16
    have H1 : ((measure_Para_Legal.f t387 t388 t389 t390 t391 t392 x386006_8 t394).bind fun t398 => ((regletref08_Legal.f kj8 l0).bind fun t401 => (if (t398.length : Int) = (t401.length : Int) then ((measure_Para_Ends.f t387 t388 t389 t390 t391 t392 x386006_8 t394).bind fun t404 => (regletlaw08_MeasureTakes.j1 kj8 l0 a1 t398 t401 (t404 != (t401.length : Int)) t387 t388 t389 t390 t391 t392 x386006_8 t394)) else (regletlaw08_MeasureTakes.j1 kj8 l0 a1 t398 t401 true t387 t388 t389 t390 t391 t392 x386006_8 t394)))) = some r := by rw [if_neg (show ¬ (false = true) by decide)] at H; exact H
    clear H; have H := H1; clear H1; replace H := Option.bind_eq_some_iff.mp H; obtain ⟨t398, A170, H⟩ := H; replace H : ((regletref08_Legal.f kj8 l0).bind fun t401 => (if (t398.length : Int) = (t401.length : Int) then ((measure_Para_Ends.f t387 t388 t389 t390 t391 t392 x386006_8 t394).bind fun t404 => (regletlaw08_MeasureTakes.j1 kj8 l0 a1 t398 t401 (t404 != (t401.length : Int)) t387 t388 t389 t390 t391 t392 x386006_8 t394)) else (regletlaw08_MeasureTakes.j1 kj8 l0 a1 t398 t401 true t387 t388 t389 t390 t391 t392 x386006_8 t394))) = some r := H
    have A17 := Aside0.mk A170; clear A170; replace H := Option.bind_eq_some_iff.mp H; obtain ⟨t401, A180, H⟩ := H; replace H : (if (t398.length : Int) = (t401.length : Int) then ((measure_Para_Ends.f t387 t388 t389 t390 t391 t392 x386006_8 t394).bind fun t404 => (regletlaw08_MeasureTakes.j1 kj8 l0 a1 t398 t401 (t404 != (t401.length : Int)) t387 t388 t389 t390 t391 t392 x386006_8 t394)) else (regletlaw08_MeasureTakes.j1 kj8 l0 a1 t398 t401 true t387 t388 t389 t390 t391 t392 x386006_8 t394)) = some r := H
    have A18 := Aside0.mk A180; clear A180; have HC19 := Aside0.mk H; clear H; go_upto_region 9 with (first | ((with_reducible refine gate_callee (f := 21) rfl ?_); refine goesL_ (some 41) rfl rfl Try.func21 (by kernel_rfl) rfl #[.pointer (some ⟨gp385, 0, none⟩)] rfl (by (try simp only [List.map_toArray, List.map_cons, List.map_nil]); first | done | rfl | (simp only [List.length_drop, List.length_take]; rfl)) ?_; (with_reducible refine (measure_Para_Legal.calls gp385 A385_0 c385_0 t387 A385_1 c385_1 t388 A385_2 c385_2 t389 A385_3 c385_3 t390 A385_4 c385_4 t391 A385_5 c385_5 t392 x386006_8 A385_7 c385_7 t394 t398 _ ?side1 ?side2 ?side3 ?side4 ?side5 ?side6 ?side7 ?side8 ?side9 ?side10 ?side11 ?side12 ?side13 ?side14 ?side15 A17.out).mono ?_); (case side1 => (with_reducible repeat first | apply kN | apply kD | apply kA); exact BK385.out); (case side2 => repeat (first | exact (Kd.C_below HR385_0.out HB.out) | (with_reducible refine Kd.C_alloc ?_ _) | (with_reducible refine Kd.C_drewN ?_ _) | (with_reducible refine Kd.C_drew ?_))); (case side3 => exact HC385_0.out); (case side4 => repeat (first | exact (Kd.C_below HR385_1.out HB.out) | (with_reducible refine Kd.C_alloc ?_ _) | (with_reducible refine Kd.C_drewN ?_ _) | (with_reducible refine Kd.C_drew ?_))); (case side5 => exact HC385_1.out); (case side6 => repeat (first | exact (Kd.C_below HR385_2.out HB.out) | (with_reducible refine Kd.C_alloc ?_ _) | (with_reducible refine Kd.C_drewN ?_ _) | (with_reducible refine Kd.C_drew ?_))); (case side7 => exact HC385_2.out); (case side8 => repeat (first | exact (Kd.C_below HR385_3.out HB.out) | (with_reducible refine Kd.C_alloc ?_ _) | (with_reducible refine Kd.C_drewN ?_ _) | (with_reducible refine Kd.C_drew ?_))); (case side9 => exact HC385_3.out); (case side10 => repeat (first | exact (Kd.C_below HR385_4.out HB.out) | (with_reducible refine Kd.C_alloc ?_ _) | (with_reducible refine Kd.C_drewN ?_ _) | (with_reducible refine Kd.C_drew ?_))); (case side11 => exact HC385_4.out); (case side12 => repeat (first | exact (Kd.C_below HR385_5.out HB.out) | (with_reducible refine Kd.C_alloc ?_ _) | (with_reducible refine Kd.C_drewN ?_ _) | (with_reducible refine Kd.C_drew ?_))); (case side13 => exact HC385_5.out); (case side14 => repeat (first | exact (Kd.C_below HR385_7.out HB.out) | (with_reducible refine Kd.C_alloc ?_ _) | (with_reducible refine Kd.C_drewN ?_ _) | (with_reducible refine Kd.C_drew ?_))); (case side15 => exact HC385_7.out); rintro e w20 ⟨v399, rfl, ho0, hb⟩; refine ⟨_, rfl, ?_⟩; have n0_ := Aside0.mk (Kd.R_lower ho0 (below_size (by repeat (first | (with_reducible first | exact HB.out | apply bA | apply bN | apply bD | refine below_set ?_ GE385.out) | exact HB.out)))); have n1_ := Aside0.mk (blk_below (g := gp385) (o := .cells #[.slice A385_0 t387.length c385_0, .slice A385_1 t388.length c385_1, .slice A385_2 t389.length c385_2, .slice A385_3 t390.length c385_3, .slice A385_4 t391.length c385_4, .slice A385_5 t392.length c385_5, .int .i64 x386006_8, .slice A385_7 t394.length c385_7] 75 (0, 0)) (by (with_reducible repeat first | apply kN | apply kD | apply kA); exact BK385.out) hb); have n2_ := Aside0.mk (below_step (by repeat (first | (with_reducible first | exact HB.out | apply bA | apply bN | apply bD | refine below_set ?_ GE385.out) | exact HB.out)) hb); clear BK385; clear HB; have HO400 := n0_; have BK385 := n1_; have HB := n2_; clear n0_ n1_ n2_; (try clear hb); (try clear hb2); (try clear hk); (try clear hi); (try clear ho0)) | ((with_reducible refine gate_callee (f := 22) rfl ?_); refine goesL_ (some 43) rfl rfl Try.func22 (by kernel_rfl) rfl #[.slice A0 l0.length c0] rfl (by (try simp only [List.map_toArray, List.map_cons, List.map_nil]); first | done | rfl | (simp only [List.length_drop, List.length_take]; rfl)) ?_; (with_reducible refine (regletref08_Legal.calls kj8 _ _ l0 t401 _ ?side1 ?side2 A18.out).mono ?_); (case side1 => repeat (first | exact (Kd.C_below HR0.out HB.out) | (with_reducible refine Kd.C_alloc ?_ _) | (with_reducible refine Kd.C_drewN ?_ _) | (with_reducible refine Kd.C_drew ?_))); (case side2 => exact HC0.out); rintro e w21 ⟨v402, rfl, ho0, hb⟩; refine ⟨_, rfl, ?_⟩; have n0_ := Aside0.mk (Kd.R_elder' (by (with_reducible repeat (first | apply Kd.R_alloc | apply Kd.R_drewN | apply Kd.R_drew)); exact HO400.out) (Kd.R_base ho0) hb); have n1_ := Aside0.mk (Kd.R_lower (Kd.R_new' ho0 (Kd.R_lt (by (with_reducible repeat (first | apply Kd.R_alloc | apply Kd.R_drewN | apply Kd.R_drew)); exact HO400.out))) (below_size (by repeat (first | (with_reducible first | exact HB.out | apply bA | apply bN | apply bD | refine below_set ?_ GE385.out) | exact HB.out)))); have n2_ := Aside0.mk (blk_below (g := gp385) (o := .cells #[.slice A385_0 t387.length c385_0, .slice A385_1 t388.length c385_1, .slice A385_2 t389.length c385_2, .slice A385_3 t390.length c385_3, .slice A385_4 t391.length c385_4, .slice A385_5 t392.length c385_5, .int .i64 x386006_8, .slice A385_7 t394.length c385_7] 75 (0, 0)) (by (with_reducible repeat first | apply kN | apply kD | apply kA); exact BK385.out) hb); have n3_ := Aside0.mk (below_step (by repeat (first | (with_reducible first | exact HB.out | apply bA | apply bN | apply bD | refine below_set ?_ GE385.out) | exact HB.out)) hb); clear HO400; clear BK385; clear HB; have HO400 := n0_; have HO403 := n1_; have BK385 := n2_; have HB := n3_; clear n0_ n1_ n2_ n3_; (try clear hb); (try clear hb2); (try clear hk); (try clear hi); (try clear ho0)))
    (try simp only [Act.put, List.setIfInBounds_toArray, List.set_cons_zero, List.set_cons_succ])
    go_cut [55] (fun v55 wc => ∃ (kq : Nat) (x55_18 : Bool) (x386006_18 : Int), v55 = .bool x55_18 ∧ Aside0 (regletlaw08_MeasureTakes.j1 kq l0 a1 t398 t401 x55_18 t387 t388 t389 t390 t391 t392 x386006_18 t394 = some r) ∧ Aside0 (kq ≤ kj8) ∧ Aside0 (Kd.R (Kd.int .i64) 3 wc w.heap.size (fun k_ => some k_ ≠ (v402 : Value).ownBlock) v399 t398) ∧ Aside0 (Kd.R (Kd.int .i64) 3 wc w.heap.size (fun k_ => some k_ ≠ (v399 : Value).ownBlock) v402 t401) ∧ Aside0 (wc.heap[gp385]? = some (.cells #[(.slice A385_0 t387.length c385_0), (.slice A385_1 t388.length c385_1), (.slice A385_2 t389.length c385_2), (.slice A385_3 t390.length c385_3), (.slice A385_4 t391.length c385_4), (.slice A385_5 t392.length c385_5), .int .i64 x386006_18, (.slice A385_7 t394.length c385_7)] 75 (0, 0))) ∧ Aside0 (Below w.heap.size w wc))
    case first =>
      have H := HC19.out; clear HC19; by_cases c22 : (t398.length : Int) = (t401.length : Int)
      case neg =>
       rw [if_neg c22] at H
       have c22b0 : ((t398.length : Int) == (t401.length : Int)) = false := beq_eq_false_iff_ne.mpr c22
       have c22b1 : ((t398.length : Int) != (t401.length : Int)) = true := bne_iff_ne.mpr c22
       have c22b2 : (t398.length == t401.length) = false := by first | simpa using c22 | (simp at c22 ⊢; omega)
       (first | rw [c22b0] | (simp only [i64_w, i32_w]; rw [c22b0]) | skip)
       have H' := Aside0.mk H; clear H; obtain ⟨Ao27, co27, eo27⟩ := Kd.R_slice HO400.out
       subst eo27
       obtain ⟨Ao28, co28, eo28⟩ := Kd.R_slice HO403.out
       subst eo28
       go_wp2
       go_meet
       case rel => exact ⟨_, (true), (x386006_8), (by first | rfl | (simp; done) | (simp [*]; done)), H', ⟨by have := HJ8.out; first | omega | exact Nat.le_refl _⟩, ⟨by (with_reducible repeat (first | apply Kd.R_alloc | apply Kd.R_drewN | apply Kd.R_drew)); exact Kd.R_mono HO400.out (fun _ hk => hk.2)⟩, ⟨by (with_reducible repeat (first | apply Kd.R_alloc | apply Kd.R_drewN | apply Kd.R_drew)); exact Kd.R_mono HO403.out (fun _ hk => hk.2)⟩, ⟨by (with_reducible repeat first | apply kN | apply kD | apply kA); exact BK385.out⟩, ⟨by repeat (first | (with_reducible first | exact HB.out | apply bA | apply bN | apply bD | refine below_set ?_ GE385.out) | exact HB.out)⟩⟩
      rw [if_pos c22] at H
      have c22b0 : ((t398.length : Int) == (t401.length : Int)) = true := beq_iff_eq.mpr c22
      have c22b1 : ((t398.length : Int) != (t401.length : Int)) = false := bne_eq_false_iff_eq.mpr c22
      have c22b2 : (t398.length == t401.length) = true := by first | simpa using c22 | (simp at c22 ⊢; omega)
      clear c22
      (first | rw [c22b0] | (simp only [i64_w, i32_w]; rw [c22b0]) | skip)
      replace H := Option.bind_eq_some_iff.mp H; obtain ⟨t404, A230, H⟩ := H; replace H : (regletlaw08_MeasureTakes.j1 kj8 l0 a1 t398 t401 (t404 != (t401.length : Int)) t387 t388 t389 t390 t391 t392 x386006_8 t394) = some r := H
      have A23 := Aside0.mk A230; clear A230; have H' := Aside0.mk H; clear H; obtain ⟨Ao24, co24, eo24⟩ := Kd.R_slice HO400.out
      subst eo24
      obtain ⟨Ao25, co25, eo25⟩ := Kd.R_slice HO403.out
      subst eo25
      go_wp2_with (first | (go_at_call 23; (with_reducible refine (measure_Para_Ends.calls gp385 A385_0 c385_0 t387 A385_1 c385_1 t388 A385_2 c385_2 t389 A385_3 c385_3 t390 A385_4 c385_4 t391 A385_5 c385_5 t392 x386006_8 A385_7 c385_7 t394 t404 _ ?side1 ?side2 ?side3 ?side4 ?side5 ?side6 ?side7 ?side8 ?side9 ?side10 ?side11 ?side12 ?side13 ?side14 ?side15 A23.out).mono ?_); (case side1 => (with_reducible repeat first | apply kN | apply kD | apply kA); exact BK385.out); (case side2 => repeat (first | exact (Kd.C_below HR385_0.out HB.out) | (with_reducible refine Kd.C_alloc ?_ _) | (with_reducible refine Kd.C_drewN ?_ _) | (with_reducible refine Kd.C_drew ?_))); (case side3 => exact HC385_0.out); (case side4 => repeat (first | exact (Kd.C_below HR385_1.out HB.out) | (with_reducible refine Kd.C_alloc ?_ _) | (with_reducible refine Kd.C_drewN ?_ _) | (with_reducible refine Kd.C_drew ?_))); (case side5 => exact HC385_1.out); (case side6 => repeat (first | exact (Kd.C_below HR385_2.out HB.out) | (with_reducible refine Kd.C_alloc ?_ _) | (with_reducible refine Kd.C_drewN ?_ _) | (with_reducible refine Kd.C_drew ?_))); (case side7 => exact HC385_2.out); (case side8 => repeat (first | exact (Kd.C_below HR385_3.out HB.out) | (with_reducible refine Kd.C_alloc ?_ _) | (with_reducible refine Kd.C_drewN ?_ _) | (with_reducible refine Kd.C_drew ?_))); (case side9 => exact HC385_3.out); (case side10 => repeat (first | exact (Kd.C_below HR385_4.out HB.out) | (with_reducible refine Kd.C_alloc ?_ _) | (with_reducible refine Kd.C_drewN ?_ _) | (with_reducible refine Kd.C_drew ?_))); (case side11 => exact HC385_4.out); (case side12 => repeat (first | exact (Kd.C_below HR385_5.out HB.out) | (with_reducible refine Kd.C_alloc ?_ _) | (with_reducible refine Kd.C_drewN ?_ _) | (with_reducible refine Kd.C_drew ?_))); (case side13 => exact HC385_5.out); (case side14 => repeat (first | exact (Kd.C_below HR385_7.out HB.out) | (with_reducible refine Kd.C_alloc ?_ _) | (with_reducible refine Kd.C_drewN ?_ _) | (with_reducible refine Kd.C_drew ?_))); (case side15 => exact HC385_7.out); rintro e w26 ⟨rfl, hb⟩; have n0_ := Aside0.mk (Kd.R_below (by (with_reducible repeat (first | apply Kd.R_alloc | apply Kd.R_drewN | apply Kd.R_drew)); exact HO400.out) hb); have n1_ := Aside0.mk (Kd.R_below (by (with_reducible repeat (first | apply Kd.R_alloc | apply Kd.R_drewN | apply Kd.R_drew)); exact HO403.out) hb); have n2_ := Aside0.mk (blk_below (g := gp385) (o := .cells #[.slice A385_0 t387.length c385_0, .slice A385_1 t388.length c385_1, .slice A385_2 t389.length c385_2, .slice A385_3 t390.length c385_3, .slice A385_4 t391.length c385_4, .slice A385_5 t392.length c385_5, .int .i64 x386006_8, .slice A385_7 t394.length c385_7] 75 (0, 0)) (by (with_reducible repeat first | apply kN | apply kD | apply kA); exact BK385.out) hb); have n3_ := Aside0.mk (below_step (by repeat (first | (with_reducible first | exact HB.out | apply bA | apply bN | apply bD | refine below_set ?_ GE385.out) | exact HB.out)) hb); clear HO400; clear HO403; clear BK385; clear HB; have HO400 := n0_; have HO403 := n1_; have BK385 := n2_; have HB := n3_; clear n0_ n1_ n2_ n3_; (try clear hb); (try clear hb2); (try clear hk); (try clear hi)))
      go_meet
      case rel => exact ⟨_, ((t404 != (t401.length : Int))), (x386006_8), (by first | rfl | (simp; done) | (simp [*]; done)), H', ⟨by have := HJ8.out; first | omega | exact Nat.le_refl _⟩, ⟨by (with_reducible repeat (first | apply Kd.R_alloc | apply Kd.R_drewN | apply Kd.R_drew)); exact Kd.R_mono HO400.out (fun _ hk => hk.2)⟩, ⟨by (with_reducible repeat (first | apply Kd.R_alloc | apply Kd.R_drewN | apply Kd.R_drew)); exact Kd.R_mono HO403.out (fun _ hk => hk.2)⟩, ⟨by (with_reducible repeat first | apply kN | apply kD | apply kA); exact BK385.out⟩, ⟨by repeat (first | (with_reducible first | exact HB.out | apply bA | apply bN | apply bD | refine below_set ?_ GE385.out) | exact HB.out)⟩⟩
    case rest =>
      clear HC19
      try clear c1
      try clear c2
      try clear p2
      try clear c3
      try clear p3
      try clear q3
      try clear c4
      try clear c6
      try clear c8
      try clear c10
      try clear c13
      try clear c13b0
      try clear c13b1
      try clear c16
      try clear c18
      try clear c19
      try clear c21
      try clear c22
      try clear c22b0
      try clear c22b1
      try clear c22b2
      try clear p2
      try clear p3
      try clear q3
      obtain ⟨kq, x55_18, x386006_18, rfl, HA, HJ18, HO_7, HO_8, BK385, HB⟩ := hcut
      cases kq with
      | zero => exact absurd HA.out (by simp [regletlaw08_MeasureTakes.j1])
      | succ kj18 =>
       have H := HA.out; clear HA; simp only [regletlaw08_MeasureTakes.j1] at H
       by_cases c29 : x55_18 = true
       · subst c29
         have H1 : (some false) = some r := by rw [if_pos rfl] at H; exact H
         clear H; have H := H1; clear H1; obtain rfl := Option.some.inj H
         go_wp2
         go_ret
         exact ⟨by first | rfl | (simp [errW_none, errW_some] <;> rfl) | (simp [*, errW_none, errW_some] <;> rfl), below_step HB0.out (by repeat (first | (with_reducible first | exact HB.out | apply bA | apply bN | apply bD | refine below_set ?_ GE385.out) | exact HB.out))⟩
       replace c29 := Bool.eq_false_iff.mpr c29
       subst c29
       have H1 : (regletlaw08_MeasureTakes.l0 kj18 l0 a1 t398 t401 0 t387 t388 t389 t390 t391 t392 x386006_18 t394) = some r := by rw [if_neg (show ¬ (false = true) by decide)] at H; exact H
       clear H; have H := H1; clear H1; have H' := Aside0.mk H; clear H; go_wp2
       go_loopg [9] kj18 (fun kq v9 w' => ∃ (x7_3 : List Int) (x9_3 : Int) (x386006_3 : Int), v9 = .int .i64 x9_3 ∧ Aside0 (regletlaw08_MeasureTakes.l0 kq l0 a1 x7_3 t401 x9_3 t387 t388 t389 t390 t391 t392 x386006_3 t394 = some r) ∧ Aside0 (kq ≤ kj18) ∧ Aside0 (Kd.R (Kd.int .i64) 3 w' w.heap.size (fun k_ => some k_ ≠ (v402 : Value).ownBlock) v399 x7_3) ∧ Aside0 (Kd.R (Kd.int .i64) 3 w' w.heap.size (fun k_ => some k_ ≠ (v399 : Value).ownBlock) v402 t401) ∧ Aside0 (w'.heap[gp385]? = some (.cells #[(.slice A385_0 t387.length c385_0), (.slice A385_1 t388.length c385_1), (.slice A385_2 t389.length c385_2), (.slice A385_3 t390.length c385_3), (.slice A385_4 t391.length c385_4), (.slice A385_5 t392.length c385_5), .int .i64 x386006_3, (.slice A385_7 t394.length c385_7)] 75 (0, 0))) ∧ Aside0 (Below w.heap.size w w'))
       case atStart => exact ⟨(t398), (0), (x386006_18), (by first | rfl | (simp; done) | (simp [*]; done)), H', ⟨Nat.le_refl _⟩, ⟨by (with_reducible repeat (first | apply Kd.R_alloc | apply Kd.R_drewN | apply Kd.R_drew)); exact HO_7.out⟩, ⟨by (with_reducible repeat (first | apply Kd.R_alloc | apply Kd.R_drewN | apply Kd.R_drew)); exact HO_8.out⟩, ⟨by (with_reducible repeat first | apply kN | apply kD | apply kA); exact BK385.out⟩, ⟨by repeat (first | (with_reducible first | exact HB.out | apply bA | apply bN | apply bD | refine below_set ?_ GE385.out) | exact HB.out)⟩⟩
       case round =>
         clear H'
         try clear c1
         try clear c2
         try clear p2
         try clear c3
         try clear p3
         try clear q3
         try clear c4
         try clear c6
         try clear c8
         try clear c10
         try clear c13
         try clear c13b0
         try clear c13b1
         try clear c16
         try clear c18
         try clear c19
         try clear c21
         try clear c22
         try clear c22b0
         try clear c22b1
         try clear c22b2
         try clear c29
         try clear p2
         try clear p3
         try clear q3
         obtain ⟨x7_3, x9_3, x386006_3, rfl, HA, HK3, HO_7, HO_8, BK385, HB⟩ := hrel
         cases gk with
         | zero => exact absurd HA.out (by simp [regletlaw08_MeasureTakes.l0])
         | succ k3 =>
          have H := HA.out; clear HA; simp only [regletlaw08_MeasureTakes.l0] at H
          by_cases c30 : x9_3 < (x7_3.length : Int)
          · rw [if_pos c30] at H
            have c30b0 : decide (x9_3 < (x7_3.length : Int)) = true := decide_eq_true c30
            clear c30; by_cases c31 : 0 ≤ x9_3
            case neg =>
              rw [if_neg c31] at H
              exact absurd H (by simp)
            rw [if_pos c31] at H
            have c31b0 : decide (0 ≤ x9_3) = true := decide_eq_true c31
            clear c31; by_cases c32 : x9_3 < (t401.length : Int)
            case neg =>
              rw [if_neg c32] at H
              exact absurd H (by simp)
            rw [if_pos c32] at H
            have c32b0 : decide (x9_3 < (t401.length : Int)) = true := decide_eq_true c32
            clear c32; by_cases c33 : (rd x7_3 x9_3) = (rd t401 x9_3)
            case neg =>
              rw [if_neg c33] at H
              have c33b0 : ((rd x7_3 x9_3) == (rd t401 x9_3)) = false := beq_eq_false_iff_ne.mpr c33
              have c33b1 : ((rd x7_3 x9_3) != (rd t401 x9_3)) = true := bne_iff_ne.mpr c33
              obtain rfl := Option.some.inj H
              obtain ⟨Ao47, co47, eo47⟩ := Kd.R_slice HO_7.out
              subst eo47
              try go_wp2
              have n0_ := Aside0.mk (Kd.R_drew HO_7.out)
              have n1_ := Aside0.mk (Kd.R_drew HO_8.out)
              have n2_ := Aside0.mk (blk_drew BK385.out)
              have n3_ := Aside0.mk (below_drew1 HB.out)
              clear HO_7; clear HO_8; clear BK385; clear HB; have HO_7 := n0_; have HO_8 := n1_; have BK385 := n2_; have HB := n3_; clear n0_ n1_ n2_ n3_; have p405 : 0 ≤ (x9_3 : Int) := of_decide_eq_true (by first | (with_reducible assumption) | assumption)
              have q405 : x9_3 < (x7_3.length : Int) := of_decide_eq_true (by first | (with_reducible assumption) | assumption)
              obtain ⟨ad405, e405, hx405_0⟩ := Kd.at_int (Kd.R_reads' HO_7.out).2.2 x9_3 p405 q405
              cases e405; replace p405 := eq_true p405; replace q405 := eq_true q405; obtain ⟨Ao49, co49, eo49⟩ := Kd.R_slice HO_8.out
              (first | subst eo49 | (injection eo49 with f1_ f2_ f3_; have f4_ := f1_.symm; have f5_ := f3_.symm; clear f1_ f2_ f3_; subst f4_; subst f5_))
              have p406 : 0 ≤ (x9_3 : Int) := of_decide_eq_true (by first | (with_reducible assumption) | assumption)
              have q406 : x9_3 < (t401.length : Int) := of_decide_eq_true (by first | (with_reducible assumption) | assumption)
              obtain ⟨ad406, e406, hx406_0⟩ := Kd.at_int (Kd.R_reads' HO_8.out).2.2 x9_3 p406 q406
              cases e406; replace p406 := eq_true p406; replace q406 := eq_true q406; refine start_ (n := 19) (S := fun w' => w'.cell? (ad405.add (x9_3).toNat) = some (.int .i64 (rd x7_3 x9_3)) ∧ w'.cell? (ad406.add (x9_3).toNat) = some (.int .i64 (rd t401 x9_3))) (ds := []) (bm 19 0) (by kernel_rfl) rfl rfl ⟨hx405_0, hx406_0⟩ (fun hHeld => ?_); refine with_tabW regletlaw08_MeasureTakes.tab14 regletlaw08_MeasureTakes.bits14 (fun HT_ HW_ => ?_)
              generalize wr.drew = w48 at HO_7 HO_8 BK385 HB hx405_0 hx406_0 hHeld ⊢
              refine pure_ (i := 0) (N := some 62) (v := ?_) (a' := ?_) (bm 19 1) rfl rfl (aO HT_ (by kernel_rfl)) (fun _ _ _ h => h) (Or.inl ⟨by rfl, ?_⟩) ?_ ?_; rotate_left; intro w'; go_simp; with_reducible rfl; rotate_left; simp only [aP, aS, aZ, aC, aW, aX]; rfl
              refine pure_ (i := 1) (N := some 63) (v := ?_) (a' := ?_) (bm 19 3) rfl rfl (aO HT_ (by kernel_rfl)) (fun _ _ _ h => h) (Or.inl ⟨by rfl, ?_⟩) ?_ ?_; rotate_left; intro w'; go_simp; with_reducible rfl; rotate_left; simp only [aP, aS, aZ, aC, aW, aX]; rfl
              refine pure_ (i := 2) (N := some 64) (v := ?_) (a' := ?_) (bm 19 7) rfl rfl (aO HT_ (by kernel_rfl)) (fun _ _ _ h => h) (Or.inl ⟨by rfl, ?_⟩) ?_ ?_; rotate_left; intro w'; go_simp; with_reducible rfl; rotate_left; simp only [aP, aS, aZ, aC, aW, aX]; rfl
              refine pure_ (i := 4) (N := some 66) (v := ?_) (a' := ?_) (bm 19 23) rfl rfl (aO HT_ (by kernel_rfl)) (fun _ _ _ h => h) (Or.inl ⟨by rfl, ?_⟩) ?_ ?_; rotate_left; intro w'; go_simp; with_reducible rfl; rotate_left; simp only [aP, aS, aZ, aC, aW, aX]; rfl
              refine pure_ (i := 5) (N := some 67) (v := ?_) (a' := ?_) (bm 19 55) rfl rfl (aO HT_ (by kernel_rfl)) (fun _ _ _ h => h) (Or.inl ⟨by rfl, ?_⟩) ?_ ?_; rotate_left; intro w'; go_simp; with_reducible rfl; rotate_left; simp only [aP, aS, aZ, aC, aW, aX]; rfl
              refine pure_ (i := 6) (N := some 68) (v := ?_) (a' := ?_) (bm 19 119) rfl rfl (aO HT_ (by kernel_rfl)) (fun _ _ _ h => h) (Or.inl ⟨by rfl, ?_⟩) ?_ ?_; rotate_left; intro w'; go_simp; with_reducible rfl; rotate_left; simp only [aP, aS, aZ, aC, aW, aX]; rfl
              refine take_ (i := 3) (N := some 65) (v := ?_) (a' := ?_) (bm 19 127) rfl rfl (take_ofW HT_.out HW_.out (by kernel_rfl)) (fun _ _ _ h => h) (Or.inl ⟨by rfl, ?_⟩) hHeld ?_ ?_; rotate_left; rintro w' ⟨s0, s1⟩; go_simp; with_reducible rfl; rotate_left; simp only [aP, aS, aZ, aC, aW, aX]; rfl
              refine take_ (i := 7) (N := some 69) (v := ?_) (a' := ?_) (bm 19 255) rfl rfl (take_ofW HT_.out HW_.out (by kernel_rfl)) (fun _ _ _ h => h) (Or.inl ⟨by rfl, ?_⟩) hHeld ?_ ?_; rotate_left; rintro w' ⟨s0, s1⟩; go_simp; with_reducible rfl; rotate_left; simp only [aP, aS, aZ, aC, aW, aX]; rfl
              refine pure_ (i := 8) (N := some 70) (v := ?_) (a' := ?_) (bm 19 511) rfl rfl (aO HT_ (by kernel_rfl)) (fun _ _ _ h => h) (Or.inl ⟨by rfl, ?_⟩) ?_ ?_; rotate_left; intro w'; go_simp; with_reducible rfl; rotate_left; simp only [aP, aS, aZ, aC, aW, aX]; rfl
              refine pure_ (i := 9) (N := some 71) (v := ?_) (a' := ?_) (bm 19 1023) rfl rfl (aO HT_ (by kernel_rfl)) (fun _ _ _ h => h) (Or.inl ⟨by rfl, ?_⟩) ?_ ?_; rotate_left; intro w'; go_simp; with_reducible rfl; rotate_left; simp only [aP, aS, aZ, aC, aW, aX]; rfl
              refine pure_ (i := 10) (N := some 72) (v := undef) (a' := ?_) (bm 19 2047) rfl rfl (aO HT_ (by kernel_rfl)) (fun _ _ _ h => h) (Or.inr ⟨by rfl, rfl⟩) ?_ ?_; rotate_left; simp only [aP, aS, aZ, aC, aW, aX]; rfl
              refine pure_ (i := 11) (N := some 73) (v := undef) (a' := ?_) (bm 19 4095) rfl rfl (aO HT_ (by kernel_rfl)) (fun _ _ _ h => h) (Or.inr ⟨by rfl, rfl⟩) ?_ ?_; rotate_left; simp only [aP, aS, aZ, aC, aW, aX]; rfl
              refine pure_ (i := 12) (N := some 74) (v := undef) (a' := ?_) (bm 19 8191) rfl rfl (aO HT_ (by kernel_rfl)) (fun _ _ _ h => h) (Or.inr ⟨by rfl, rfl⟩) ?_ ?_; rotate_left; simp only [aP, aS, aZ, aC, aW, aX]; rfl
              refine pure_ (i := 13) (N := some 75) (v := undef) (a' := ?_) (bm 19 16383) rfl rfl (aO HT_ (by kernel_rfl)) (fun _ _ _ h => h) (Or.inr ⟨by rfl, rfl⟩) ?_ ?_; rotate_left; simp only [aP, aS, aZ, aC, aW, aX]; rfl
              refine pure_ (i := 14) (N := some 76) (v := undef) (a' := ?_) (bm 19 32767) rfl rfl (aO HT_ (by kernel_rfl)) (fun _ _ _ h => h) (Or.inr ⟨by rfl, rfl⟩) ?_ ?_; rotate_left; simp only [aP, aS, aZ, aC, aW, aX]; rfl
              refine pure_ (i := 15) (N := some 77) (v := undef) (a' := ?_) (bm 19 65535) rfl rfl (aO HT_ (by kernel_rfl)) (fun _ _ _ h => h) (Or.inr ⟨by rfl, rfl⟩) ?_ ?_; rotate_left; simp only [aP, aS, aZ, aC, aW, aX]; rfl
              refine pure_ (i := 16) (N := some 78) (v := undef) (a' := ?_) (bm 19 131071) rfl rfl (aO HT_ (by kernel_rfl)) (fun _ _ _ h => h) (Or.inr ⟨by rfl, rfl⟩) ?_ ?_; rotate_left; simp only [aP, aS, aZ, aC, aW, aX]; rfl
              refine pure_ (i := 17) (N := some 79) (v := undef) (a' := ?_) (bm 19 262143) rfl rfl (aO HT_ (by kernel_rfl)) (fun _ _ _ h => h) (Or.inr ⟨by rfl, rfl⟩) ?_ ?_; rotate_left; simp only [aP, aS, aZ, aC, aW, aX]; rfl
              refine pure_ (i := 18) (N := some 80) (v := ?_) (a' := ?_) (bm 19 524287) rfl rfl (aO HT_ (by kernel_rfl)) (fun _ _ _ h => h) (Or.inl ⟨by rfl, ?_⟩) ?_ ?_; rotate_left; intro w'; go_simp; with_reducible rfl; rotate_left; simp only [aP, aS, aZ, aC, aW, aX]; rfl
              refine done_ (done_of HT_.out (by kernel_rfl)) ?_
              try go_wp2
              go_ret
              exact ⟨by first | rfl | (simp [errW_none, errW_some] <;> rfl) | (simp [*, errW_none, errW_some] <;> rfl), below_step HB0.out (by repeat (first | (with_reducible first | exact HB.out | apply bA | apply bN | apply bD | refine below_set ?_ GE385.out) | exact HB.out))⟩
            rw [if_pos c33] at H
            have c33b0 : ((rd x7_3 x9_3) == (rd t401 x9_3)) = true := beq_iff_eq.mpr c33
            have c33b1 : ((rd x7_3 x9_3) != (rd t401 x9_3)) = false := bne_eq_false_iff_eq.mpr c33
            clear c33; replace H := Option.bind_eq_some_iff.mp H; obtain ⟨t407, A340, H⟩ := H; replace H : (if t407 = (rd t401 x9_3) then (regletlaw08_MeasureTakes.l0 k3 l0 a1 (x7_3.set (x9_3 : Int).toNat (-7)) t401 (wrap64 (x9_3 + 1)) t387 t388 t389 t390 t391 t392 x386006_3 t394) else (some false)) = some r := H
            have A34 := Aside0.mk A340; clear A340; by_cases c35 : t407 = (rd t401 x9_3)
            case neg =>
              rw [if_neg c35] at H
              have c35b0 : (t407 == (rd t401 x9_3)) = false := beq_eq_false_iff_ne.mpr c35
              have c35b1 : (t407 != (rd t401 x9_3)) = true := bne_iff_ne.mpr c35
              obtain rfl := Option.some.inj H
              obtain ⟨Ao43, co43, eo43⟩ := Kd.R_slice HO_7.out
              subst eo43
              try go_wp2
              have n0_ := Aside0.mk (Kd.R_drew HO_7.out)
              have n1_ := Aside0.mk (Kd.R_drew HO_8.out)
              have n2_ := Aside0.mk (blk_drew BK385.out)
              have n3_ := Aside0.mk (below_drew1 HB.out)
              clear HO_7; clear HO_8; clear BK385; clear HB; have HO_7 := n0_; have HO_8 := n1_; have BK385 := n2_; have HB := n3_; clear n0_ n1_ n2_ n3_; have p405 : 0 ≤ (x9_3 : Int) := of_decide_eq_true (by first | (with_reducible assumption) | assumption)
              have q405 : x9_3 < (x7_3.length : Int) := of_decide_eq_true (by first | (with_reducible assumption) | assumption)
              obtain ⟨ad405, e405, hx405_0⟩ := Kd.at_int (Kd.R_reads' HO_7.out).2.2 x9_3 p405 q405
              cases e405; replace p405 := eq_true p405; replace q405 := eq_true q405; obtain ⟨Ao45, co45, eo45⟩ := Kd.R_slice HO_8.out
              (first | subst eo45 | (injection eo45 with f1_ f2_ f3_; have f4_ := f1_.symm; have f5_ := f3_.symm; clear f1_ f2_ f3_; subst f4_; subst f5_))
              have p406 : 0 ≤ (x9_3 : Int) := of_decide_eq_true (by first | (with_reducible assumption) | assumption)
              have q406 : x9_3 < (t401.length : Int) := of_decide_eq_true (by first | (with_reducible assumption) | assumption)
              obtain ⟨ad406, e406, hx406_0⟩ := Kd.at_int (Kd.R_reads' HO_8.out).2.2 x9_3 p406 q406
              cases e406; replace p406 := eq_true p406; replace q406 := eq_true q406; have p408 : 0 ≤ (x9_3 : Int) := of_decide_eq_true (by first | (with_reducible assumption) | assumption)
              have q408 : x9_3 < (t401.length : Int) := of_decide_eq_true (by first | (with_reducible assumption) | assumption)
              obtain ⟨ad408, e408, hx408_0⟩ := Kd.at_int (Kd.R_reads' HO_8.out).2.2 x9_3 p408 q408
              obtain rfl : ad406 = ad408 := (by injection e408)
              replace p408 := eq_true p408; replace q408 := eq_true q408; refine start_ (n := 19) (S := fun w' => w'.cell? (ad405.add (x9_3).toNat) = some (.int .i64 (rd x7_3 x9_3)) ∧ w'.cell? (ad406.add (x9_3).toNat) = some (.int .i64 (rd t401 x9_3)) ∧ w'.cell? (ad406.add (x9_3).toNat) = some (.int .i64 (rd t401 x9_3))) (ds := []) (bm 19 0) (by kernel_rfl) rfl rfl ⟨hx405_0, hx406_0, hx408_0⟩ (fun hHeld => ?_); refine with_tabW regletlaw08_MeasureTakes.tab14 regletlaw08_MeasureTakes.bits14 (fun HT_ HW_ => ?_)
              generalize wr.drew = w44 at HO_7 HO_8 BK385 HB hx405_0 hx406_0 hx408_0 hHeld ⊢
              refine pure_ (i := 0) (N := some 62) (v := ?_) (a' := ?_) (bm 19 1) rfl rfl (aO HT_ (by kernel_rfl)) (fun _ _ _ h => h) (Or.inl ⟨by rfl, ?_⟩) ?_ ?_; rotate_left; intro w'; go_simp; with_reducible rfl; rotate_left; simp only [aP, aS, aZ, aC, aW, aX]; rfl
              refine pure_ (i := 1) (N := some 63) (v := ?_) (a' := ?_) (bm 19 3) rfl rfl (aO HT_ (by kernel_rfl)) (fun _ _ _ h => h) (Or.inl ⟨by rfl, ?_⟩) ?_ ?_; rotate_left; intro w'; go_simp; with_reducible rfl; rotate_left; simp only [aP, aS, aZ, aC, aW, aX]; rfl
              refine pure_ (i := 2) (N := some 64) (v := ?_) (a' := ?_) (bm 19 7) rfl rfl (aO HT_ (by kernel_rfl)) (fun _ _ _ h => h) (Or.inl ⟨by rfl, ?_⟩) ?_ ?_; rotate_left; intro w'; go_simp; with_reducible rfl; rotate_left; simp only [aP, aS, aZ, aC, aW, aX]; rfl
              refine pure_ (i := 4) (N := some 66) (v := ?_) (a' := ?_) (bm 19 23) rfl rfl (aO HT_ (by kernel_rfl)) (fun _ _ _ h => h) (Or.inl ⟨by rfl, ?_⟩) ?_ ?_; rotate_left; intro w'; go_simp; with_reducible rfl; rotate_left; simp only [aP, aS, aZ, aC, aW, aX]; rfl
              refine pure_ (i := 5) (N := some 67) (v := ?_) (a' := ?_) (bm 19 55) rfl rfl (aO HT_ (by kernel_rfl)) (fun _ _ _ h => h) (Or.inl ⟨by rfl, ?_⟩) ?_ ?_; rotate_left; intro w'; go_simp; with_reducible rfl; rotate_left; simp only [aP, aS, aZ, aC, aW, aX]; rfl
              refine pure_ (i := 6) (N := some 68) (v := ?_) (a' := ?_) (bm 19 119) rfl rfl (aO HT_ (by kernel_rfl)) (fun _ _ _ h => h) (Or.inl ⟨by rfl, ?_⟩) ?_ ?_; rotate_left; intro w'; go_simp; with_reducible rfl; rotate_left; simp only [aP, aS, aZ, aC, aW, aX]; rfl
              refine take_ (i := 3) (N := some 65) (v := ?_) (a' := ?_) (bm 19 127) rfl rfl (take_ofW HT_.out HW_.out (by kernel_rfl)) (fun _ _ _ h => h) (Or.inl ⟨by rfl, ?_⟩) hHeld ?_ ?_; rotate_left; rintro w' ⟨s0, s1, s2⟩; go_simp; with_reducible rfl; rotate_left; simp only [aP, aS, aZ, aC, aW, aX]; rfl
              refine take_ (i := 7) (N := some 69) (v := ?_) (a' := ?_) (bm 19 255) rfl rfl (take_ofW HT_.out HW_.out (by kernel_rfl)) (fun _ _ _ h => h) (Or.inl ⟨by rfl, ?_⟩) hHeld ?_ ?_; rotate_left; rintro w' ⟨s0, s1, s2⟩; go_simp; with_reducible rfl; rotate_left; simp only [aP, aS, aZ, aC, aW, aX]; rfl
              refine pure_ (i := 8) (N := some 70) (v := ?_) (a' := ?_) (bm 19 511) rfl rfl (aO HT_ (by kernel_rfl)) (fun _ _ _ h => h) (Or.inl ⟨by rfl, ?_⟩) ?_ ?_; rotate_left; intro w'; go_simp; with_reducible rfl; rotate_left; simp only [aP, aS, aZ, aC, aW, aX]; rfl
              refine pure_ (i := 9) (N := some 71) (v := ?_) (a' := ?_) (bm 19 1023) rfl rfl (aO HT_ (by kernel_rfl)) (fun _ _ _ h => h) (Or.inl ⟨by rfl, ?_⟩) ?_ ?_; rotate_left; intro w'; go_simp; with_reducible rfl; rotate_left; simp only [aP, aS, aZ, aC, aW, aX]; rfl
              refine pure_ (i := 10) (N := some 72) (v := ?_) (a' := ?_) (bm 19 2047) rfl rfl (aO HT_ (by kernel_rfl)) (fun _ _ _ h => h) (Or.inl ⟨by rfl, ?_⟩) ?_ ?_; rotate_left; intro w'; go_simp; with_reducible rfl; rotate_left; simp only [aP, aS, aZ, aC, aW, aX]; rfl
              refine pure_ (i := 11) (N := some 73) (v := ?_) (a' := ?_) (bm 19 4095) rfl rfl (aO HT_ (by kernel_rfl)) (fun _ _ _ h => h) (Or.inl ⟨by rfl, ?_⟩) ?_ ?_; rotate_left; intro w'; go_simp; with_reducible rfl; rotate_left; simp only [aP, aS, aZ, aC, aW, aX]; rfl
              refine pure_ (i := 13) (N := some 75) (v := ?_) (a' := ?_) (bm 19 12287) rfl rfl (aO HT_ (by kernel_rfl)) (fun _ _ _ h => h) (Or.inl ⟨by rfl, ?_⟩) ?_ ?_; rotate_left; intro w'; go_simp; with_reducible rfl; rotate_left; simp only [aP, aS, aZ, aC, aW, aX]; rfl
              refine pure_ (i := 14) (N := some 76) (v := ?_) (a' := ?_) (bm 19 28671) rfl rfl (aO HT_ (by kernel_rfl)) (fun _ _ _ h => h) (Or.inl ⟨by rfl, ?_⟩) ?_ ?_; rotate_left; intro w'; go_simp; with_reducible rfl; rotate_left; simp only [aP, aS, aZ, aC, aW, aX]; rfl
              refine pure_ (i := 15) (N := some 77) (v := ?_) (a' := ?_) (bm 19 61439) rfl rfl (aO HT_ (by kernel_rfl)) (fun _ _ _ h => h) (Or.inl ⟨by rfl, ?_⟩) ?_ ?_; rotate_left; intro w'; go_simp; with_reducible rfl; rotate_left; simp only [aP, aS, aZ, aC, aW, aX]; rfl
              refine take_ (i := 16) (N := some 78) (v := ?_) (a' := ?_) (bm 19 126975) rfl rfl (take_ofW HT_.out HW_.out (by kernel_rfl)) (fun _ _ _ h => h) (Or.inl ⟨by rfl, ?_⟩) hHeld ?_ ?_; rotate_left; rintro w' ⟨s0, s1, s2⟩; go_simp; with_reducible rfl; rotate_left; simp only [aP, aS, aZ, aC, aW, aX]; rfl
              refine one_ (i := 12) (N := some 74) (bm 19 131071) rfl rfl (one_of HT_.out (by kernel_rfl)) (by decide) (fun K hK => ?_)
              refine goes_ Try.func24 (by kernel_rfl) rfl #[.pointer (some ⟨gp385, 0, none⟩), .int .i64 x9_3] (by rfl) rfl rfl (by (try simp only [List.map_toArray, List.map_cons, List.map_nil]); first | done | rfl | (simp only [List.length_drop, List.length_take]; rfl)) ?_
              with_reducible refine (measure_Para_End.calls gp385 A385_0 c385_0 t387 A385_1 c385_1 t388 A385_2 c385_2 t389 A385_3 c385_3 t390 A385_4 c385_4 t391 A385_5 c385_5 t392 x386006_3 A385_7 c385_7 t394 x9_3 t407 _ ?side1 ?side2 ?side3 ?side4 ?side5 ?side6 ?side7 ?side8 ?side9 ?side10 ?side11 ?side12 ?side13 ?side14 ?side15 A34.out).mono ?_
              (case side1 => (with_reducible repeat first | apply kN | apply kD | apply kA); exact BK385.out)
              (case side2 => repeat (first | exact (Kd.C_below HR385_0.out HB.out) | (with_reducible refine Kd.C_alloc ?_ _) | (with_reducible refine Kd.C_drewN ?_ _) | (with_reducible refine Kd.C_drew ?_)))
              (case side3 => exact HC385_0.out)
              (case side4 => repeat (first | exact (Kd.C_below HR385_1.out HB.out) | (with_reducible refine Kd.C_alloc ?_ _) | (with_reducible refine Kd.C_drewN ?_ _) | (with_reducible refine Kd.C_drew ?_)))
              (case side5 => exact HC385_1.out)
              (case side6 => repeat (first | exact (Kd.C_below HR385_2.out HB.out) | (with_reducible refine Kd.C_alloc ?_ _) | (with_reducible refine Kd.C_drewN ?_ _) | (with_reducible refine Kd.C_drew ?_)))
              (case side7 => exact HC385_2.out)
              (case side8 => repeat (first | exact (Kd.C_below HR385_3.out HB.out) | (with_reducible refine Kd.C_alloc ?_ _) | (with_reducible refine Kd.C_drewN ?_ _) | (with_reducible refine Kd.C_drew ?_)))
              (case side9 => exact HC385_3.out)
              (case side10 => repeat (first | exact (Kd.C_below HR385_4.out HB.out) | (with_reducible refine Kd.C_alloc ?_ _) | (with_reducible refine Kd.C_drewN ?_ _) | (with_reducible refine Kd.C_drew ?_)))
              (case side11 => exact HC385_4.out)
              (case side12 => repeat (first | exact (Kd.C_below HR385_5.out HB.out) | (with_reducible refine Kd.C_alloc ?_ _) | (with_reducible refine Kd.C_drewN ?_ _) | (with_reducible refine Kd.C_drew ?_)))
              (case side13 => exact HC385_5.out)
              (case side14 => repeat (first | exact (Kd.C_below HR385_7.out HB.out) | (with_reducible refine Kd.C_alloc ?_ _) | (with_reducible refine Kd.C_drewN ?_ _) | (with_reducible refine Kd.C_drew ?_)))
              (case side15 => exact HC385_7.out)
              rintro e w46 ⟨rfl, hb⟩
              have HS0_ := (hb.cell (World.block_lt_of_cell? _ _ (hHeld.1))).trans (hHeld.1)
              have HS1_ := (hb.cell (World.block_lt_of_cell? _ _ (hHeld.2.1))).trans (hHeld.2.1)
              have HS2_ := (hb.cell (World.block_lt_of_cell? _ _ (hHeld.2.2))).trans (hHeld.2.2)
              refine ⟨_, rfl, ?_⟩
              have n0_ := Aside0.mk (Kd.R_below (by (with_reducible repeat (first | apply Kd.R_alloc | apply Kd.R_drewN | apply Kd.R_drew)); exact HO_7.out) hb)
              have n1_ := Aside0.mk (Kd.R_below (by (with_reducible repeat (first | apply Kd.R_alloc | apply Kd.R_drewN | apply Kd.R_drew)); exact HO_8.out) hb)
              have n2_ := Aside0.mk (blk_below (g := gp385) (o := .cells #[.slice A385_0 t387.length c385_0, .slice A385_1 t388.length c385_1, .slice A385_2 t389.length c385_2, .slice A385_3 t390.length c385_3, .slice A385_4 t391.length c385_4, .slice A385_5 t392.length c385_5, .int .i64 x386006_3, .slice A385_7 t394.length c385_7] 75 (0, 0)) (by (with_reducible repeat first | apply kN | apply kD | apply kA); exact BK385.out) hb)
              have n3_ := Aside0.mk (below_step (by repeat (first | (with_reducible first | exact HB.out | apply bA | apply bN | apply bD | refine below_set ?_ GE385.out) | exact HB.out)) hb)
              clear HO_7; clear HO_8; clear BK385; clear HB; have HO_7 := n0_; have HO_8 := n1_; have BK385 := n2_; have HB := n3_; clear n0_ n1_ n2_ n3_
              (try clear hb)
              (try clear hb2)
              (try clear hk)
              (try clear hi)
              refine hK.out _ _ ⟨HS0_, HS1_, HS2_⟩ (fun hHeld => ?_)
              clear hK K; refine norm_ (a' := ?_) ?_ ?_
              rotate_left
              · show Act.put _ (some 74) _ = _
                simp only [aP, aS, aZ, aC, aW, aX]
                rfl
              refine pure_ (i := 17) (N := some 79) (v := ?_) (a' := ?_) (bm 19 262143) rfl rfl (aO HT_ (by kernel_rfl)) (fun _ _ _ h => h) (Or.inl ⟨by rfl, ?_⟩) ?_ ?_; rotate_left; intro w'; go_simp; with_reducible rfl; rotate_left; simp only [aP, aS, aZ, aC, aW, aX]; rfl
              refine pure_ (i := 18) (N := some 80) (v := ?_) (a' := ?_) (bm 19 524287) rfl rfl (aO HT_ (by kernel_rfl)) (fun _ _ _ h => h) (Or.inl ⟨by rfl, ?_⟩) ?_ ?_; rotate_left; intro w'; go_simp; with_reducible rfl; rotate_left; simp only [aP, aS, aZ, aC, aW, aX]; rfl
              refine done_ (done_of HT_.out (by kernel_rfl)) ?_
              try go_wp2
              go_ret
              exact ⟨by first | rfl | (simp [errW_none, errW_some] <;> rfl) | (simp [*, errW_none, errW_some] <;> rfl), below_step HB0.out (by repeat (first | (with_reducible first | exact HB.out | apply bA | apply bN | apply bD | refine below_set ?_ GE385.out) | exact HB.out))⟩
            rw [if_pos c35] at H
            have c35b0 : (t407 == (rd t401 x9_3)) = true := beq_iff_eq.mpr c35
            have c35b1 : (t407 != (rd t401 x9_3)) = false := bne_eq_false_iff_eq.mpr c35
            clear c35; obtain ⟨y409, hy409⟩ : ∃ y_ : List Int, y_ = (x7_3.set (x9_3 : Int).toNat (-7)) := ⟨_, rfl⟩
            replace H : (regletlaw08_MeasureTakes.l0 k3 l0 a1 y409 t401 (wrap64 (x9_3 + 1)) t387 t388 t389 t390 t391 t392 x386006_3 t394) = some r := by first | (rw [hy409]; with_reducible exact H) | (have H2_ := (Option.bind_some _ _).symm.trans H; rw [hy409]; with_reducible exact H2_) | (have H2_ := (Option.bind_some _ _).symm.trans H; with_reducible exact H2_) | with_reducible exact H | (rw [hy409]; exact H) | exact H
            have Ny409 := Aside0.mk hy409; clear hy409; have H' := Aside0.mk H; clear H; obtain ⟨Ao37, co37, eo37⟩ := Kd.R_slice HO_7.out
            subst eo37
            try go_wp2
            have n0_ := Aside0.mk (Kd.R_drew HO_7.out)
            have n1_ := Aside0.mk (Kd.R_drew HO_8.out)
            have n2_ := Aside0.mk (blk_drew BK385.out)
            have n3_ := Aside0.mk (below_drew1 HB.out)
            clear HO_7; clear HO_8; clear BK385; clear HB; have HO_7 := n0_; have HO_8 := n1_; have BK385 := n2_; have HB := n3_; clear n0_ n1_ n2_ n3_; have p405 : 0 ≤ (x9_3 : Int) := of_decide_eq_true (by first | (with_reducible assumption) | assumption)
            have q405 : x9_3 < (x7_3.length : Int) := of_decide_eq_true (by first | (with_reducible assumption) | assumption)
            obtain ⟨ad405, e405, hx405_0⟩ := Kd.at_int (Kd.R_reads' HO_7.out).2.2 x9_3 p405 q405
            cases e405; replace p405 := eq_true p405; replace q405 := eq_true q405; obtain ⟨Ao39, co39, eo39⟩ := Kd.R_slice HO_8.out
            (first | subst eo39 | (injection eo39 with f1_ f2_ f3_; have f4_ := f1_.symm; have f5_ := f3_.symm; clear f1_ f2_ f3_; subst f4_; subst f5_))
            have p406 : 0 ≤ (x9_3 : Int) := of_decide_eq_true (by first | (with_reducible assumption) | assumption)
            have q406 : x9_3 < (t401.length : Int) := of_decide_eq_true (by first | (with_reducible assumption) | assumption)
            obtain ⟨ad406, e406, hx406_0⟩ := Kd.at_int (Kd.R_reads' HO_8.out).2.2 x9_3 p406 q406
            cases e406; replace p406 := eq_true p406; replace q406 := eq_true q406; have p408 : 0 ≤ (x9_3 : Int) := of_decide_eq_true (by first | (with_reducible assumption) | assumption)
            have q408 : x9_3 < (t401.length : Int) := of_decide_eq_true (by first | (with_reducible assumption) | assumption)
            obtain ⟨ad408, e408, hx408_0⟩ := Kd.at_int (Kd.R_reads' HO_8.out).2.2 x9_3 p408 q408
            obtain rfl : ad406 = ad408 := (by injection e408)
            replace p408 := eq_true p408; replace q408 := eq_true q408; refine start_ (n := 19) (S := fun w' => w'.cell? (ad405.add (x9_3).toNat) = some (.int .i64 (rd x7_3 x9_3)) ∧ w'.cell? (ad406.add (x9_3).toNat) = some (.int .i64 (rd t401 x9_3)) ∧ w'.cell? (ad406.add (x9_3).toNat) = some (.int .i64 (rd t401 x9_3))) (ds := []) (bm 19 0) (by kernel_rfl) rfl rfl ⟨hx405_0, hx406_0, hx408_0⟩ (fun hHeld => ?_); refine with_tabW regletlaw08_MeasureTakes.tab14 regletlaw08_MeasureTakes.bits14 (fun HT_ HW_ => ?_)
            generalize wr.drew = w38 at HO_7 HO_8 BK385 HB hx405_0 hx406_0 hx408_0 hHeld ⊢
            refine pure_ (i := 0) (N := some 62) (v := ?_) (a' := ?_) (bm 19 1) rfl rfl (aO HT_ (by kernel_rfl)) (fun _ _ _ h => h) (Or.inl ⟨by rfl, ?_⟩) ?_ ?_; rotate_left; intro w'; go_simp; with_reducible rfl; rotate_left; simp only [aP, aS, aZ, aC, aW, aX]; rfl
            refine pure_ (i := 1) (N := some 63) (v := ?_) (a' := ?_) (bm 19 3) rfl rfl (aO HT_ (by kernel_rfl)) (fun _ _ _ h => h) (Or.inl ⟨by rfl, ?_⟩) ?_ ?_; rotate_left; intro w'; go_simp; with_reducible rfl; rotate_left; simp only [aP, aS, aZ, aC, aW, aX]; rfl
            refine pure_ (i := 2) (N := some 64) (v := ?_) (a' := ?_) (bm 19 7) rfl rfl (aO HT_ (by kernel_rfl)) (fun _ _ _ h => h) (Or.inl ⟨by rfl, ?_⟩) ?_ ?_; rotate_left; intro w'; go_simp; with_reducible rfl; rotate_left; simp only [aP, aS, aZ, aC, aW, aX]; rfl
            refine pure_ (i := 4) (N := some 66) (v := ?_) (a' := ?_) (bm 19 23) rfl rfl (aO HT_ (by kernel_rfl)) (fun _ _ _ h => h) (Or.inl ⟨by rfl, ?_⟩) ?_ ?_; rotate_left; intro w'; go_simp; with_reducible rfl; rotate_left; simp only [aP, aS, aZ, aC, aW, aX]; rfl
            refine pure_ (i := 5) (N := some 67) (v := ?_) (a' := ?_) (bm 19 55) rfl rfl (aO HT_ (by kernel_rfl)) (fun _ _ _ h => h) (Or.inl ⟨by rfl, ?_⟩) ?_ ?_; rotate_left; intro w'; go_simp; with_reducible rfl; rotate_left; simp only [aP, aS, aZ, aC, aW, aX]; rfl
            refine pure_ (i := 6) (N := some 68) (v := ?_) (a' := ?_) (bm 19 119) rfl rfl (aO HT_ (by kernel_rfl)) (fun _ _ _ h => h) (Or.inl ⟨by rfl, ?_⟩) ?_ ?_; rotate_left; intro w'; go_simp; with_reducible rfl; rotate_left; simp only [aP, aS, aZ, aC, aW, aX]; rfl
            refine take_ (i := 3) (N := some 65) (v := ?_) (a' := ?_) (bm 19 127) rfl rfl (take_ofW HT_.out HW_.out (by kernel_rfl)) (fun _ _ _ h => h) (Or.inl ⟨by rfl, ?_⟩) hHeld ?_ ?_; rotate_left; rintro w' ⟨s0, s1, s2⟩; go_simp; with_reducible rfl; rotate_left; simp only [aP, aS, aZ, aC, aW, aX]; rfl
            refine take_ (i := 7) (N := some 69) (v := ?_) (a' := ?_) (bm 19 255) rfl rfl (take_ofW HT_.out HW_.out (by kernel_rfl)) (fun _ _ _ h => h) (Or.inl ⟨by rfl, ?_⟩) hHeld ?_ ?_; rotate_left; rintro w' ⟨s0, s1, s2⟩; go_simp; with_reducible rfl; rotate_left; simp only [aP, aS, aZ, aC, aW, aX]; rfl
            refine pure_ (i := 8) (N := some 70) (v := ?_) (a' := ?_) (bm 19 511) rfl rfl (aO HT_ (by kernel_rfl)) (fun _ _ _ h => h) (Or.inl ⟨by rfl, ?_⟩) ?_ ?_; rotate_left; intro w'; go_simp; with_reducible rfl; rotate_left; simp only [aP, aS, aZ, aC, aW, aX]; rfl
            refine pure_ (i := 9) (N := some 71) (v := ?_) (a' := ?_) (bm 19 1023) rfl rfl (aO HT_ (by kernel_rfl)) (fun _ _ _ h => h) (Or.inl ⟨by rfl, ?_⟩) ?_ ?_; rotate_left; intro w'; go_simp; with_reducible rfl; rotate_left; simp only [aP, aS, aZ, aC, aW, aX]; rfl
            refine pure_ (i := 10) (N := some 72) (v := ?_) (a' := ?_) (bm 19 2047) rfl rfl (aO HT_ (by kernel_rfl)) (fun _ _ _ h => h) (Or.inl ⟨by rfl, ?_⟩) ?_ ?_; rotate_left; intro w'; go_simp; with_reducible rfl; rotate_left; simp only [aP, aS, aZ, aC, aW, aX]; rfl
            refine pure_ (i := 11) (N := some 73) (v := ?_) (a' := ?_) (bm 19 4095) rfl rfl (aO HT_ (by kernel_rfl)) (fun _ _ _ h => h) (Or.inl ⟨by rfl, ?_⟩) ?_ ?_; rotate_left; intro w'; go_simp; with_reducible rfl; rotate_left; simp only [aP, aS, aZ, aC, aW, aX]; rfl
            refine pure_ (i := 13) (N := some 75) (v := ?_) (a' := ?_) (bm 19 12287) rfl rfl (aO HT_ (by kernel_rfl)) (fun _ _ _ h => h) (Or.inl ⟨by rfl, ?_⟩) ?_ ?_; rotate_left; intro w'; go_simp; with_reducible rfl; rotate_left; simp only [aP, aS, aZ, aC, aW, aX]; rfl
            refine pure_ (i := 14) (N := some 76) (v := ?_) (a' := ?_) (bm 19 28671) rfl rfl (aO HT_ (by kernel_rfl)) (fun _ _ _ h => h) (Or.inl ⟨by rfl, ?_⟩) ?_ ?_; rotate_left; intro w'; go_simp; with_reducible rfl; rotate_left; simp only [aP, aS, aZ, aC, aW, aX]; rfl
            refine pure_ (i := 15) (N := some 77) (v := ?_) (a' := ?_) (bm 19 61439) rfl rfl (aO HT_ (by kernel_rfl)) (fun _ _ _ h => h) (Or.inl ⟨by rfl, ?_⟩) ?_ ?_; rotate_left; intro w'; go_simp; with_reducible rfl; rotate_left; simp only [aP, aS, aZ, aC, aW, aX]; rfl
            refine take_ (i := 16) (N := some 78) (v := ?_) (a' := ?_) (bm 19 126975) rfl rfl (take_ofW HT_.out HW_.out (by kernel_rfl)) (fun _ _ _ h => h) (Or.inl ⟨by rfl, ?_⟩) hHeld ?_ ?_; rotate_left; rintro w' ⟨s0, s1, s2⟩; go_simp; with_reducible rfl; rotate_left; simp only [aP, aS, aZ, aC, aW, aX]; rfl
            refine one_ (i := 12) (N := some 74) (bm 19 131071) rfl rfl (one_of HT_.out (by kernel_rfl)) (by decide) (fun K hK => ?_)
            refine goes_ Try.func24 (by kernel_rfl) rfl #[.pointer (some ⟨gp385, 0, none⟩), .int .i64 x9_3] (by rfl) rfl rfl (by (try simp only [List.map_toArray, List.map_cons, List.map_nil]); first | done | rfl | (simp only [List.length_drop, List.length_take]; rfl)) ?_
            with_reducible refine (measure_Para_End.calls gp385 A385_0 c385_0 t387 A385_1 c385_1 t388 A385_2 c385_2 t389 A385_3 c385_3 t390 A385_4 c385_4 t391 A385_5 c385_5 t392 x386006_3 A385_7 c385_7 t394 x9_3 t407 _ ?side1 ?side2 ?side3 ?side4 ?side5 ?side6 ?side7 ?side8 ?side9 ?side10 ?side11 ?side12 ?side13 ?side14 ?side15 A34.out).mono ?_
            (case side1 => (with_reducible repeat first | apply kN | apply kD | apply kA); exact BK385.out)
            (case side2 => repeat (first | exact (Kd.C_below HR385_0.out HB.out) | (with_reducible refine Kd.C_alloc ?_ _) | (with_reducible refine Kd.C_drewN ?_ _) | (with_reducible refine Kd.C_drew ?_)))
            (case side3 => exact HC385_0.out)
            (case side4 => repeat (first | exact (Kd.C_below HR385_1.out HB.out) | (with_reducible refine Kd.C_alloc ?_ _) | (with_reducible refine Kd.C_drewN ?_ _) | (with_reducible refine Kd.C_drew ?_)))
            (case side5 => exact HC385_1.out)
            (case side6 => repeat (first | exact (Kd.C_below HR385_2.out HB.out) | (with_reducible refine Kd.C_alloc ?_ _) | (with_reducible refine Kd.C_drewN ?_ _) | (with_reducible refine Kd.C_drew ?_)))
            (case side7 => exact HC385_2.out)
            (case side8 => repeat (first | exact (Kd.C_below HR385_3.out HB.out) | (with_reducible refine Kd.C_alloc ?_ _) | (with_reducible refine Kd.C_drewN ?_ _) | (with_reducible refine Kd.C_drew ?_)))
            (case side9 => exact HC385_3.out)
            (case side10 => repeat (first | exact (Kd.C_below HR385_4.out HB.out) | (with_reducible refine Kd.C_alloc ?_ _) | (with_reducible refine Kd.C_drewN ?_ _) | (with_reducible refine Kd.C_drew ?_)))
            (case side11 => exact HC385_4.out)
            (case side12 => repeat (first | exact (Kd.C_below HR385_5.out HB.out) | (with_reducible refine Kd.C_alloc ?_ _) | (with_reducible refine Kd.C_drewN ?_ _) | (with_reducible refine Kd.C_drew ?_)))
            (case side13 => exact HC385_5.out)
            (case side14 => repeat (first | exact (Kd.C_below HR385_7.out HB.out) | (with_reducible refine Kd.C_alloc ?_ _) | (with_reducible refine Kd.C_drewN ?_ _) | (with_reducible refine Kd.C_drew ?_)))
            (case side15 => exact HC385_7.out)
            rintro e w40 ⟨rfl, hb⟩
            have HS0_ := (hb.cell (World.block_lt_of_cell? _ _ (hHeld.1))).trans (hHeld.1)
            have HS1_ := (hb.cell (World.block_lt_of_cell? _ _ (hHeld.2.1))).trans (hHeld.2.1)
            have HS2_ := (hb.cell (World.block_lt_of_cell? _ _ (hHeld.2.2))).trans (hHeld.2.2)
            refine ⟨_, rfl, ?_⟩
            have n0_ := Aside0.mk (Kd.R_below (by (with_reducible repeat (first | apply Kd.R_alloc | apply Kd.R_drewN | apply Kd.R_drew)); exact HO_7.out) hb)
            have n1_ := Aside0.mk (Kd.R_below (by (with_reducible repeat (first | apply Kd.R_alloc | apply Kd.R_drewN | apply Kd.R_drew)); exact HO_8.out) hb)
            have n2_ := Aside0.mk (blk_below (g := gp385) (o := .cells #[.slice A385_0 t387.length c385_0, .slice A385_1 t388.length c385_1, .slice A385_2 t389.length c385_2, .slice A385_3 t390.length c385_3, .slice A385_4 t391.length c385_4, .slice A385_5 t392.length c385_5, .int .i64 x386006_3, .slice A385_7 t394.length c385_7] 75 (0, 0)) (by (with_reducible repeat first | apply kN | apply kD | apply kA); exact BK385.out) hb)
            have n3_ := Aside0.mk (below_step (by repeat (first | (with_reducible first | exact HB.out | apply bA | apply bN | apply bD | refine below_set ?_ GE385.out) | exact HB.out)) hb)
            clear HO_7; clear HO_8; clear BK385; clear HB; have HO_7 := n0_; have HO_8 := n1_; have BK385 := n2_; have HB := n3_; clear n0_ n1_ n2_ n3_
            (try clear hb)
            (try clear hb2)
            (try clear hk)
            (try clear hi)
            refine hK.out _ _ ⟨HS0_, HS1_, HS2_⟩ (fun hHeld => ?_)
            clear hK K; refine norm_ (a' := ?_) ?_ ?_
            rotate_left
            · show Act.put _ (some 74) _ = _
              simp only [aP, aS, aZ, aC, aW, aX]
              rfl
            refine pure_ (i := 17) (N := some 79) (v := ?_) (a' := ?_) (bm 19 262143) rfl rfl (aO HT_ (by kernel_rfl)) (fun _ _ _ h => h) (Or.inl ⟨by rfl, ?_⟩) ?_ ?_; rotate_left; intro w'; go_simp; with_reducible rfl; rotate_left; simp only [aP, aS, aZ, aC, aW, aX]; rfl
            refine pure_ (i := 18) (N := some 80) (v := ?_) (a' := ?_) (bm 19 524287) rfl rfl (aO HT_ (by kernel_rfl)) (fun _ _ _ h => h) (Or.inl ⟨by rfl, ?_⟩) ?_ ?_; rotate_left; intro w'; go_simp; with_reducible rfl; rotate_left; simp only [aP, aS, aZ, aC, aW, aX]; rfl
            refine done_ (done_of HT_.out (by kernel_rfl)) ?_
            have p36 : 0 ≤ (x9_3 : Int) := of_decide_eq_true (by first | (with_reducible assumption) | assumption)
            have q36 : (x9_3 : Int) < ((x7_3.length : Int) : Int) := of_decide_eq_true (by first | (with_reducible assumption) | assumption)
            obtain ⟨go36, co36, eo36, gb36, gl36, cl36, HG36⟩ := Kd.R_form HO_7.out (by omega)
            (first | cases eo36 | (injection eo36 with ea_ en_ ec_; (first | subst ea_ | (injection ea_ with ea_; subst ea_)); subst ec_; clear en_))
            have GB36 := Aside0.mk gb36; have GG36 := Aside0.mk HG36; clear gb36 gl36 HG36
            (first | simp only [add_plain] at hx405_0 | skip)
            obtain ⟨hx36_0, hf36_0⟩ := Kd.R_celln 0 HO_7.out (x9_3 : Int) p36 q36
            replace p36 := eq_true p36; replace q36 := eq_true q36; obtain ⟨hy41_, hz41_⟩ := Kd.R_celln 0 HO_7.out (x9_3 : Int) (of_decide_eq_true (by first | (with_reducible assumption) | assumption)) (of_decide_eq_true (by first | (with_reducible assumption) | assumption))
            have hyz41_ := Aside0.mk (And.intro hy41_ hz41_)
            clear hy41_ hz41_ hf36_0; have HP41 := Kd.R_putg HO_7.out (x9_3 : Int) (-7)
            try go_wp2_with (first | ((with_reducible refine gate_store (t := 3) (p := 83) rfl ?_); refine store_event (t := 3) (p := 83) (v := ?vo_w42) (w1 := (w40.setCell ⟨go36, (x9_3 : Int).toNat, none⟩ (.int .i64 (-7)))) ?hg ?ho ?hn ?hr ?_; (case ho => rfl); (case hg => rfl); (case hn => rfl); (case hr => obtain ⟨hy41_, hz41_⟩ := hyz41_.out; first | (go_simp; done) | (go_simp; rfl)); intro w42 hw; have hg : w40.grownBy w42 (some go36) := (by rw [hw]; exact HP41.2); have hp_ : Kd.R (Kd.int .i64) 3 w42 w.heap.size (fun k_ => some k_ ≠ (.slice (some ad406) t401.length co39 : Value).ownBlock) (.slice (some ⟨go36, 0, none⟩) x7_3.length co37) y409 := (by rw [hw, Ny409.out]; exact HP41.1); clear HP41; have n0_ := Aside0.mk (hp_); have n1_ := Aside0.mk (Kd.R_after (v := (.slice (some ⟨go36, 0, none⟩) x7_3.length co37)) (v1 := (.slice (some ⟨go36, 0, none⟩) x7_3.length co37)) (ok := (fun _ => True)) (by (with_reducible repeat (first | apply Kd.R_alloc | apply Kd.R_drewN | apply Kd.R_drew)); exact Kd.R_mono HO_8.out (fun _ hk => ⟨trivial, hk⟩)) hg (.inl rfl)); have n2_ := Aside0.mk (blk_grown (g := gp385) (o := .cells #[.slice A385_0 t387.length c385_0, .slice A385_1 t388.length c385_1, .slice A385_2 t389.length c385_2, .slice A385_3 t390.length c385_3, .slice A385_4 t391.length c385_4, .slice A385_5 t392.length c385_5, .int .i64 x386006_3, .slice A385_7 t394.length c385_7] 75 (0, 0)) (by (with_reducible repeat first | apply kN | apply kD | apply kA); exact BK385.out) hg (Kd.R_ne HO_7.out BK385.out (by decide))); have n3_ := Aside0.mk ((by rw [hw]; exact below_set (HB.out) GB36.out : Below w.heap.size w w42)); clear HO_7; clear HO_8; clear BK385; clear HB; have HO_7 := n0_; have HO_8 := n1_; have BK385 := n2_; have HB := n3_; clear n0_ n1_ n2_ n3_; clear hg hw hp_))
            go_roundg k3
            case measure => have := HJ8.out; have := HJ18.out; have := HK3.out; omega
            case rel => exact ⟨(y409), (wrap64 (x9_3 + 1)), (x386006_3), (by first | rfl | (simp; done) | (simp [*]; done)), H', ⟨by have := HJ8.out; have := HJ18.out; have := HK3.out; omega⟩, ⟨by (with_reducible repeat (first | apply Kd.R_alloc | apply Kd.R_drewN | apply Kd.R_drew)); exact HO_7.out⟩, ⟨by (with_reducible repeat (first | apply Kd.R_alloc | apply Kd.R_drewN | apply Kd.R_drew)); exact Kd.R_mono HO_8.out (fun _ hk => hk.2)⟩, ⟨by (with_reducible repeat first | apply kN | apply kD | apply kA); exact BK385.out⟩, ⟨by repeat (first | (with_reducible first | exact HB.out | apply bA | apply bN | apply bD | refine below_set ?_ GE385.out) | exact HB.out)⟩⟩
          rw [if_neg c30] at H
          have c30b0 : decide (x9_3 < (x7_3.length : Int)) = false := decide_eq_false c30
          clear c30; replace H := Option.bind_eq_some_iff.mp H; obtain ⟨⟨t410, t411, t412, t413, t414, t415, t416, t417, t418⟩, A500, H⟩ := H
          replace H : (if a1 < 0 then (regletlaw08_MeasureTakes.j3 k3 l0 a1 t401 true t387 t388 t389 t390 t391 t392 x386006_3 t394 t410 t411 t412 t413 t414 t415 t416 t417 t418) else (regletlaw08_MeasureTakes.j3 k3 l0 a1 t401 (decide (a1 ≥ (l0.length : Int))) t387 t388 t389 t390 t391 t392 x386006_3 t394 t410 t411 t412 t413 t414 t415 t416 t417 t418)) = some r := H
          have A50 := Aside0.mk A500; clear A500; have HC51 := Aside0.mk H; clear H; obtain ⟨Ao52, co52, eo52⟩ := Kd.R_slice HO_7.out
          subst eo52
          go_upto_region 18 with (first | ((with_reducible refine gate_callee (f := 25) rfl ?_); refine goesL_ (some 86) rfl rfl Try.func25 (by kernel_rfl) rfl #[.pointer (some ⟨gp385, 0, none⟩), .int .i64 a1] rfl (by (try simp only [List.map_toArray, List.map_cons, List.map_nil]); first | done | rfl | (simp only [List.length_drop, List.length_take]; rfl)) ?_; (with_reducible refine (measure_Para_Item.calls gp385 A385_0 c385_0 t387 A385_1 c385_1 t388 A385_2 c385_2 t389 A385_3 c385_3 t390 A385_4 c385_4 t391 A385_5 c385_5 t392 x386006_3 A385_7 c385_7 t394 a1 t410 t411 t412 t413 t414 t415 t416 t417 t418 _ ?side1 ?side2 ?side3 ?side4 ?side5 ?side6 ?side7 ?side8 ?side9 ?side10 ?side11 ?side12 ?side13 ?side14 ?side15 A50.out).mono ?_); (case side1 => (with_reducible repeat first | apply kN | apply kD | apply kA); exact BK385.out); (case side2 => repeat (first | exact (Kd.C_below HR385_0.out HB.out) | (with_reducible refine Kd.C_alloc ?_ _) | (with_reducible refine Kd.C_drewN ?_ _) | (with_reducible refine Kd.C_drew ?_))); (case side3 => exact HC385_0.out); (case side4 => repeat (first | exact (Kd.C_below HR385_1.out HB.out) | (with_reducible refine Kd.C_alloc ?_ _) | (with_reducible refine Kd.C_drewN ?_ _) | (with_reducible refine Kd.C_drew ?_))); (case side5 => exact HC385_1.out); (case side6 => repeat (first | exact (Kd.C_below HR385_2.out HB.out) | (with_reducible refine Kd.C_alloc ?_ _) | (with_reducible refine Kd.C_drewN ?_ _) | (with_reducible refine Kd.C_drew ?_))); (case side7 => exact HC385_2.out); (case side8 => repeat (first | exact (Kd.C_below HR385_3.out HB.out) | (with_reducible refine Kd.C_alloc ?_ _) | (with_reducible refine Kd.C_drewN ?_ _) | (with_reducible refine Kd.C_drew ?_))); (case side9 => exact HC385_3.out); (case side10 => repeat (first | exact (Kd.C_below HR385_4.out HB.out) | (with_reducible refine Kd.C_alloc ?_ _) | (with_reducible refine Kd.C_drewN ?_ _) | (with_reducible refine Kd.C_drew ?_))); (case side11 => exact HC385_4.out); (case side12 => repeat (first | exact (Kd.C_below HR385_5.out HB.out) | (with_reducible refine Kd.C_alloc ?_ _) | (with_reducible refine Kd.C_drewN ?_ _) | (with_reducible refine Kd.C_drew ?_))); (case side13 => exact HC385_5.out); (case side14 => repeat (first | exact (Kd.C_below HR385_7.out HB.out) | (with_reducible refine Kd.C_alloc ?_ _) | (with_reducible refine Kd.C_drewN ?_ _) | (with_reducible refine Kd.C_drew ?_))); (case side15 => exact HC385_7.out); rintro e w53 ⟨rfl, hb⟩; refine ⟨_, rfl, ?_⟩; have n0_ := Aside0.mk (Kd.R_below (by (with_reducible repeat (first | apply Kd.R_alloc | apply Kd.R_drewN | apply Kd.R_drew)); exact HO_7.out) hb); have n1_ := Aside0.mk (Kd.R_below (by (with_reducible repeat (first | apply Kd.R_alloc | apply Kd.R_drewN | apply Kd.R_drew)); exact HO_8.out) hb); have n2_ := Aside0.mk (blk_below (g := gp385) (o := .cells #[.slice A385_0 t387.length c385_0, .slice A385_1 t388.length c385_1, .slice A385_2 t389.length c385_2, .slice A385_3 t390.length c385_3, .slice A385_4 t391.length c385_4, .slice A385_5 t392.length c385_5, .int .i64 x386006_3, .slice A385_7 t394.length c385_7] 75 (0, 0)) (by (with_reducible repeat first | apply kN | apply kD | apply kA); exact BK385.out) hb); have n3_ := Aside0.mk (below_step (by repeat (first | (with_reducible first | exact HB.out | apply bA | apply bN | apply bD | refine below_set ?_ GE385.out) | exact HB.out)) hb); clear HO_7; clear HO_8; clear BK385; clear HB; have HO_7 := n0_; have HO_8 := n1_; have BK385 := n2_; have HB := n3_; clear n0_ n1_ n2_ n3_; (try clear hb); (try clear hb2); (try clear hk); (try clear hi)) | ((with_reducible refine gate_dst (N := 10) rfl ?_); (try (refine gate_guard (by rfl) ?_; dsimp only)); refine box_event ?hg (N := 10) ?hd (cs := #[.int .i64 0, .int .i64 0, .int .i64 0, .int .i64 0, .bool false, .int .i64 0, .bool false, .int .i64 0, .int .i64 0]) (t := 34) ?hr ?_; (case hd => rfl); (case hg => rfl); (case hr => first | (go_simp; done) | (go_simp; rfl)); intro gb419 hg w54 hbox hb; have n0_ := Aside0.mk (Kd.R_below (by (with_reducible repeat (first | apply Kd.R_alloc | apply Kd.R_drewN | apply Kd.R_drew)); exact HO_7.out) hb); have n1_ := Aside0.mk (Kd.R_below (by (with_reducible repeat (first | apply Kd.R_alloc | apply Kd.R_drewN | apply Kd.R_drew)); exact HO_8.out) hb); have n2_ := Aside0.mk (blk_below (g := gp385) (o := .cells #[.slice A385_0 t387.length c385_0, .slice A385_1 t388.length c385_1, .slice A385_2 t389.length c385_2, .slice A385_3 t390.length c385_3, .slice A385_4 t391.length c385_4, .slice A385_5 t392.length c385_5, .int .i64 x386006_3, .slice A385_7 t394.length c385_7] 75 (0, 0)) (by (with_reducible repeat first | apply kN | apply kD | apply kA); exact BK385.out) hb); have n3_ := Aside0.mk (below_step (by repeat (first | (with_reducible first | exact HB.out | apply bA | apply bN | apply bD | refine below_set ?_ GE385.out) | exact HB.out)) hb); have n4_ := Aside0.mk (hbox); have n5_ := Aside0.mk ((by rw [hg]; exact (below_size (by repeat (first | (with_reducible first | exact HB.out | apply bA | apply bN | apply bD | refine below_set ?_ GE385.out) | exact HB.out))) : w.heap.size ≤ gb419)); have n6_ := Aside0.mk ((by rw [hg]; exact (below_size (by repeat (first | (with_reducible first | exact HB.out | apply bA | apply bN | apply bD | refine below_set ?_ GE385.out) | exact HB.out))) : w.heap.size ≤ gb419)); have n7_ := Aside0.mk ((by rw [hg]; exact Nat.ne_of_lt (blk_lt (g := gp385) (o := .cells #[.slice A385_0 t387.length c385_0, .slice A385_1 t388.length c385_1, .slice A385_2 t389.length c385_2, .slice A385_3 t390.length c385_3, .slice A385_4 t391.length c385_4, .slice A385_5 t392.length c385_5, .int .i64 x386006_3, .slice A385_7 t394.length c385_7] 75 (0, 0)) (by (with_reducible repeat first | apply kN | apply kD | apply kA); exact BK385.out)) : gp385 ≠ gb419)); have n8_ := Aside0.mk ((by rw [hg]; exact Nat.ne_of_gt (blk_lt (g := gp385) (o := .cells #[.slice A385_0 t387.length c385_0, .slice A385_1 t388.length c385_1, .slice A385_2 t389.length c385_2, .slice A385_3 t390.length c385_3, .slice A385_4 t391.length c385_4, .slice A385_5 t392.length c385_5, .int .i64 x386006_3, .slice A385_7 t394.length c385_7] 75 (0, 0)) (by (with_reducible repeat first | apply kN | apply kD | apply kA); exact BK385.out)) : gb419 ≠ gp385)); clear HO_7; clear HO_8; clear BK385; clear HB; have HO_7 := n0_; have HO_8 := n1_; have BK385 := n2_; have HB := n3_; have BK419 := n4_; have GW419 := n5_; have GE419 := n6_; have NB385_419 := n7_; have NB419_385 := n8_; clear n0_ n1_ n2_ n3_ n4_ n5_ n6_ n7_ n8_; clear hb hbox hg; have hnb55 := NB419_385.out; have hnc55 := NB385_419.out; have hcz56_0 : w54.cell? ⟨gb419, 0, none⟩ = some (.int .i64 0) := (blk_cell BK419.out 0).trans rfl; have hcz56_1 : w54.cell? ⟨gb419, 1, none⟩ = some (.int .i64 0) := (blk_cell BK419.out 1).trans rfl; have hcz56_2 : w54.cell? ⟨gb419, 2, none⟩ = some (.int .i64 0) := (blk_cell BK419.out 2).trans rfl; have hcz56_3 : w54.cell? ⟨gb419, 3, none⟩ = some (.int .i64 0) := (blk_cell BK419.out 3).trans rfl; have hcz56_4 : w54.cell? ⟨gb419, 4, none⟩ = some (.bool false) := (blk_cell BK419.out 4).trans rfl; have hcz56_5 : w54.cell? ⟨gb419, 5, none⟩ = some (.int .i64 0) := (blk_cell BK419.out 5).trans rfl; have hcz56_6 : w54.cell? ⟨gb419, 6, none⟩ = some (.bool false) := (blk_cell BK419.out 6).trans rfl; have hcz56_7 : w54.cell? ⟨gb419, 7, none⟩ = some (.int .i64 0) := (blk_cell BK419.out 7).trans rfl; have hcz56_8 : w54.cell? ⟨gb419, 8, none⟩ = some (.int .i64 0) := (blk_cell BK419.out 8).trans rfl; have hfz56_0 := blk_frozen BK419.out 0; have hfz56_1 := blk_frozen BK419.out 1; have hfz56_2 := blk_frozen BK419.out 2; have hfz56_3 := blk_frozen BK419.out 3; have hfz56_4 := blk_frozen BK419.out 4; have hfz56_5 := blk_frozen BK419.out 5; have hfz56_6 := blk_frozen BK419.out 6; have hfz56_7 := blk_frozen BK419.out 7; have hfz56_8 := blk_frozen BK419.out 8))
          (try simp only [Act.put, List.setIfInBounds_toArray, List.set_cons_zero, List.set_cons_succ])
          go_cut [94] (fun v94 wc => ∃ (kq : Nat) (x94_50 : Bool), v94 = .bool x94_50 ∧ Aside0 (regletlaw08_MeasureTakes.j3 kq l0 a1 t401 x94_50 t387 t388 t389 t390 t391 t392 x386006_3 t394 t410 t411 t412 t413 t414 t415 t416 t417 t418 = some r) ∧ Aside0 (kq ≤ k3) ∧ Aside0 (Kd.R (Kd.int .i64) 3 wc w.heap.size (fun _ => True) v402 t401) ∧ Aside0 (wc.heap[gp385]? = some (.cells #[(.slice A385_0 t387.length c385_0), (.slice A385_1 t388.length c385_1), (.slice A385_2 t389.length c385_2), (.slice A385_3 t390.length c385_3), (.slice A385_4 t391.length c385_4), (.slice A385_5 t392.length c385_5), .int .i64 x386006_3, (.slice A385_7 t394.length c385_7)] 75 (0, 0))) ∧ Aside0 (wc.heap[gb419]? = some (.cells #[.int .i64 t410, .int .i64 t411, .int .i64 t412, .int .i64 t413, .bool t414, .int .i64 t415, .bool t416, .int .i64 t417, .int .i64 t418] 34 (0, 0))) ∧ Aside0 (Below w.heap.size w wc))
          case first =>
            have H := HC51.out; clear HC51; by_cases c57 : a1 < 0
            · rw [if_pos c57] at H
              have c57b0 : decide (a1 < 0) = true := decide_eq_true c57
              clear c57
              (first | rw [c57b0] | (simp only [i64_w, i32_w]; rw [c57b0]) | skip)
              have H' := Aside0.mk H; clear H; go_wp2
              go_meet
              case rel => exact ⟨_, (true), (by first | rfl | (simp; done) | (simp [*]; done)), H', ⟨by have := HJ8.out; have := HJ18.out; have := HK3.out; first | omega | exact Nat.le_refl _⟩, ⟨by (with_reducible repeat (first | apply Kd.R_alloc | apply Kd.R_drewN | apply Kd.R_drew)); exact Kd.R_mono (Kd.R_far (p := ⟨gb419, 8, none⟩) (Kd.R_far (p := ⟨gb419, 7, none⟩) (Kd.R_far (p := ⟨gb419, 6, none⟩) (Kd.R_far (p := ⟨gb419, 5, none⟩) (Kd.R_far (p := ⟨gb419, 4, none⟩) (Kd.R_far (p := ⟨gb419, 3, none⟩) (Kd.R_far (p := ⟨gb419, 2, none⟩) (Kd.R_far (p := ⟨gb419, 1, none⟩) (Kd.R_far (p := ⟨gb419, 0, none⟩) (Kd.R_types HO_8.out BK419.out (by decide)) (fun _ hk => hk.2) (.int .i64 t410)) (fun _ hk => hk.2) (.int .i64 t411)) (fun _ hk => hk.2) (.int .i64 t412)) (fun _ hk => hk.2) (.int .i64 t413)) (fun _ hk => hk.2) (.bool t414)) (fun _ hk => hk.2) (.int .i64 t415)) (fun _ hk => hk.2) (.bool t416)) (fun _ hk => hk.2) (.int .i64 t417)) (fun _ hk => hk.2) (.int .i64 t418)) (fun _ hk => trivial)⟩, ⟨by (with_reducible repeat first | apply kN | apply kD | apply kA); refine blk_far ?_ NB385_419.out _; (with_reducible repeat first | apply kN | apply kD | apply kA); refine blk_far ?_ NB385_419.out _; (with_reducible repeat first | apply kN | apply kD | apply kA); refine blk_far ?_ NB385_419.out _; (with_reducible repeat first | apply kN | apply kD | apply kA); refine blk_far ?_ NB385_419.out _; (with_reducible repeat first | apply kN | apply kD | apply kA); refine blk_far ?_ NB385_419.out _; (with_reducible repeat first | apply kN | apply kD | apply kA); refine blk_far ?_ NB385_419.out _; (with_reducible repeat first | apply kN | apply kD | apply kA); refine blk_far ?_ NB385_419.out _; (with_reducible repeat first | apply kN | apply kD | apply kA); refine blk_far ?_ NB385_419.out _; (with_reducible repeat first | apply kN | apply kD | apply kA); refine blk_far ?_ NB385_419.out _; (with_reducible repeat first | apply kN | apply kD | apply kA); exact BK385.out⟩, ⟨by (with_reducible repeat first | apply kN | apply kD | apply kA); refine blk_put (cs := #[.int .i64 t410, .int .i64 t411, .int .i64 t412, .int .i64 t413, .bool t414, .int .i64 t415, .bool t416, .int .i64 t417, .int .i64 0]) ?_ 8 _ rfl; (with_reducible repeat first | apply kN | apply kD | apply kA); refine blk_put (cs := #[.int .i64 t410, .int .i64 t411, .int .i64 t412, .int .i64 t413, .bool t414, .int .i64 t415, .bool t416, .int .i64 0, .int .i64 0]) ?_ 7 _ rfl; (with_reducible repeat first | apply kN | apply kD | apply kA); refine blk_put (cs := #[.int .i64 t410, .int .i64 t411, .int .i64 t412, .int .i64 t413, .bool t414, .int .i64 t415, .bool false, .int .i64 0, .int .i64 0]) ?_ 6 _ rfl; (with_reducible repeat first | apply kN | apply kD | apply kA); refine blk_put (cs := #[.int .i64 t410, .int .i64 t411, .int .i64 t412, .int .i64 t413, .bool t414, .int .i64 0, .bool false, .int .i64 0, .int .i64 0]) ?_ 5 _ rfl; (with_reducible repeat first | apply kN | apply kD | apply kA); refine blk_put (cs := #[.int .i64 t410, .int .i64 t411, .int .i64 t412, .int .i64 t413, .bool false, .int .i64 0, .bool false, .int .i64 0, .int .i64 0]) ?_ 4 _ rfl; (with_reducible repeat first | apply kN | apply kD | apply kA); refine blk_put (cs := #[.int .i64 t410, .int .i64 t411, .int .i64 t412, .int .i64 0, .bool false, .int .i64 0, .bool false, .int .i64 0, .int .i64 0]) ?_ 3 _ rfl; (with_reducible repeat first | apply kN | apply kD | apply kA); refine blk_put (cs := #[.int .i64 t410, .int .i64 t411, .int .i64 0, .int .i64 0, .bool false, .int .i64 0, .bool false, .int .i64 0, .int .i64 0]) ?_ 2 _ rfl; (with_reducible repeat first | apply kN | apply kD | apply kA); refine blk_put (cs := #[.int .i64 t410, .int .i64 0, .int .i64 0, .int .i64 0, .bool false, .int .i64 0, .bool false, .int .i64 0, .int .i64 0]) ?_ 1 _ rfl; (with_reducible repeat first | apply kN | apply kD | apply kA); refine blk_put (cs := #[.int .i64 0, .int .i64 0, .int .i64 0, .int .i64 0, .bool false, .int .i64 0, .bool false, .int .i64 0, .int .i64 0]) ?_ 0 _ rfl; (with_reducible repeat first | apply kN | apply kD | apply kA); exact BK419.out⟩, ⟨by repeat (first | (with_reducible first | exact HB.out | apply bA | apply bN | apply bD | refine below_set ?_ GE385.out | refine below_set ?_ GE419.out) | exact HB.out)⟩⟩
            rw [if_neg c57] at H
            have c57b0 : decide (a1 < 0) = false := decide_eq_false c57
            clear c57
            (first | rw [c57b0] | (simp only [i64_w, i32_w]; rw [c57b0]) | skip)
            have H' := Aside0.mk H; clear H; go_wp2
            go_meet
            case rel => exact ⟨_, (decide (a1 ≥ (l0.length : Int))), (by first | rfl | (simp; done) | (simp [*]; done)), H', ⟨by have := HJ8.out; have := HJ18.out; have := HK3.out; first | omega | exact Nat.le_refl _⟩, ⟨by (with_reducible repeat (first | apply Kd.R_alloc | apply Kd.R_drewN | apply Kd.R_drew)); exact Kd.R_mono (Kd.R_far (p := ⟨gb419, 8, none⟩) (Kd.R_far (p := ⟨gb419, 7, none⟩) (Kd.R_far (p := ⟨gb419, 6, none⟩) (Kd.R_far (p := ⟨gb419, 5, none⟩) (Kd.R_far (p := ⟨gb419, 4, none⟩) (Kd.R_far (p := ⟨gb419, 3, none⟩) (Kd.R_far (p := ⟨gb419, 2, none⟩) (Kd.R_far (p := ⟨gb419, 1, none⟩) (Kd.R_far (p := ⟨gb419, 0, none⟩) (Kd.R_types HO_8.out BK419.out (by decide)) (fun _ hk => hk.2) (.int .i64 t410)) (fun _ hk => hk.2) (.int .i64 t411)) (fun _ hk => hk.2) (.int .i64 t412)) (fun _ hk => hk.2) (.int .i64 t413)) (fun _ hk => hk.2) (.bool t414)) (fun _ hk => hk.2) (.int .i64 t415)) (fun _ hk => hk.2) (.bool t416)) (fun _ hk => hk.2) (.int .i64 t417)) (fun _ hk => hk.2) (.int .i64 t418)) (fun _ hk => trivial)⟩, ⟨by (with_reducible repeat first | apply kN | apply kD | apply kA); refine blk_far ?_ NB385_419.out _; (with_reducible repeat first | apply kN | apply kD | apply kA); refine blk_far ?_ NB385_419.out _; (with_reducible repeat first | apply kN | apply kD | apply kA); refine blk_far ?_ NB385_419.out _; (with_reducible repeat first | apply kN | apply kD | apply kA); refine blk_far ?_ NB385_419.out _; (with_reducible repeat first | apply kN | apply kD | apply kA); refine blk_far ?_ NB385_419.out _; (with_reducible repeat first | apply kN | apply kD | apply kA); refine blk_far ?_ NB385_419.out _; (with_reducible repeat first | apply kN | apply kD | apply kA); refine blk_far ?_ NB385_419.out _; (with_reducible repeat first | apply kN | apply kD | apply kA); refine blk_far ?_ NB385_419.out _; (with_reducible repeat first | apply kN | apply kD | apply kA); refine blk_far ?_ NB385_419.out _; (with_reducible repeat first | apply kN | apply kD | apply kA); exact BK385.out⟩, ⟨by (with_reducible repeat first | apply kN | apply kD | apply kA); refine blk_put (cs := #[.int .i64 t410, .int .i64 t411, .int .i64 t412, .int .i64 t413, .bool t414, .int .i64 t415, .bool t416, .int .i64 t417, .int .i64 0]) ?_ 8 _ rfl; (with_reducible repeat first | apply kN | apply kD | apply kA); refine blk_put (cs := #[.int .i64 t410, .int .i64 t411, .int .i64 t412, .int .i64 t413, .bool t414, .int .i64 t415, .bool t416, .int .i64 0, .int .i64 0]) ?_ 7 _ rfl; (with_reducible repeat first | apply kN | apply kD | apply kA); refine blk_put (cs := #[.int .i64 t410, .int .i64 t411, .int .i64 t412, .int .i64 t413, .bool t414, .int .i64 t415, .bool false, .int .i64 0, .int .i64 0]) ?_ 6 _ rfl; (with_reducible repeat first | apply kN | apply kD | apply kA); refine blk_put (cs := #[.int .i64 t410, .int .i64 t411, .int .i64 t412, .int .i64 t413, .bool t414, .int .i64 0, .bool false, .int .i64 0, .int .i64 0]) ?_ 5 _ rfl; (with_reducible repeat first | apply kN | apply kD | apply kA); refine blk_put (cs := #[.int .i64 t410, .int .i64 t411, .int .i64 t412, .int .i64 t413, .bool false, .int .i64 0, .bool false, .int .i64 0, .int .i64 0]) ?_ 4 _ rfl; (with_reducible repeat first | apply kN | apply kD | apply kA); refine blk_put (cs := #[.int .i64 t410, .int .i64 t411, .int .i64 t412, .int .i64 0, .bool false, .int .i64 0, .bool false, .int .i64 0, .int .i64 0]) ?_ 3 _ rfl; (with_reducible repeat first | apply kN | apply kD | apply kA); refine blk_put (cs := #[.int .i64 t410, .int .i64 t411, .int .i64 0, .int .i64 0, .bool false, .int .i64 0, .bool false, .int .i64 0, .int .i64 0]) ?_ 2 _ rfl; (with_reducible repeat first | apply kN | apply kD | apply kA); refine blk_put (cs := #[.int .i64 t410, .int .i64 0, .int .i64 0, .int .i64 0, .bool false, .int .i64 0, .bool false, .int .i64 0, .int .i64 0]) ?_ 1 _ rfl; (with_reducible repeat first | apply kN | apply kD | apply kA); refine blk_put (cs := #[.int .i64 0, .int .i64 0, .int .i64 0, .int .i64 0, .bool false, .int .i64 0, .bool false, .int .i64 0, .int .i64 0]) ?_ 0 _ rfl; (with_reducible repeat first | apply kN | apply kD | apply kA); exact BK419.out⟩, ⟨by repeat (first | (with_reducible first | exact HB.out | apply bA | apply bN | apply bD | refine below_set ?_ GE385.out | refine below_set ?_ GE419.out) | exact HB.out)⟩⟩
          case rest =>
            clear HC51
            try clear c2
            try clear p2
            try clear c3
            try clear p3
            try clear q3
            try clear hx3
            try clear hf3
            try clear p4
            try clear q4
            try clear hx4
            try clear c5
            try clear p6
            try clear c24
            try clear c25
            try clear c30
            try clear c30b0
            try clear c31
            try clear c32
            try clear c33
            try clear c33b0
            try clear c33b1
            try clear c35
            try clear c35b0
            try clear c35b1
            try clear p36
            try clear q36
            try clear hx36
            try clear hf36
            try clear c38
            try clear p38
            try clear p40
            try clear q40
            try clear hx40
            try clear c55
            try clear c57
            try clear c57b0
            try clear hcz56_0
            try clear hcz56_1
            try clear hcz56_2
            try clear hcz56_3
            try clear hcz56_4
            try clear hcz56_5
            try clear hcz56_6
            try clear hcz56_7
            try clear hcz56_8
            try clear hfz56_0
            try clear hfz56_1
            try clear hfz56_2
            try clear hfz56_3
            try clear hfz56_4
            try clear hfz56_5
            try clear hfz56_6
            try clear hfz56_7
            try clear hfz56_8
            try clear hx36_0
            try clear hx405_0
            try clear hx406_0
            try clear hx408_0
            try clear p36
            try clear p405
            try clear p406
            try clear p408
            try clear q36
            try clear q405
            try clear q406
            try clear q408
            obtain ⟨kq, x94_50, rfl, HA, HJ50, HO_8, BK385, BK419, HB⟩ := hcut
            cases kq with
            | zero => exact absurd HA.out (by simp [regletlaw08_MeasureTakes.j3])
            | succ kj50 =>
              have H := HA.out; clear HA; simp only [regletlaw08_MeasureTakes.j3] at H
              by_cases c58 : x94_50 = true
              · subst c58
                have H1 : (if (t410 == 0 && (t411 == 0 && (t412 == 0 && (t413 == 0 && (!t414 && (t415 == 0 && (!t416 && (t417 == 0 && (t418 == 0))))))))) = true then (if a1 < 0 then (some true) else (if a1 < (t401.length : Int) then (some true) else ((measure_Para_End.f t387 t388 t389 t390 t391 t392 x386006_3 t394 a1).bind fun t420 => (some (t420 == (-1)))))) else (some false)) = some r := by rw [if_pos rfl] at H; exact H
                clear H; have H := H1; clear H1; by_cases c59 : (t410 == 0 && (t411 == 0 && (t412 == 0 && (t413 == 0 && (!t414 && (t415 == 0 && (!t416 && (t417 == 0 && (t418 == 0))))))))) = true
                case neg =>
                  rw [if_neg c59] at H
                  have c59b0 : (t410 == 0 && (t411 == 0 && (t412 == 0 && (t413 == 0 && (!t414 && (t415 == 0 && (!t416 && (t417 == 0 && (t418 == 0))))))))) = false := by simpa using c59
                  (try (have c59b1 : decide (t410 = 0 && (t411 == 0 && (t412 == 0 && (t413 == 0 && (!t414 && (t415 == 0 && (!t416 && (t417 == 0 && (t418 == 0))))))))) = false := by simpa using c59))
                  (try (have c59b2 : (t410 == 0 && (t411 == 0 && (t412 == 0 && (t413 == 0 && (!t414 && (t415 == 0 && (!t416 && (t417 == 0 && (t418 == 0))))))))) = false := by simpa using c59))
                  (try (have c59b3 : ¬ (t410 = 0 && (t411 == 0 && (t412 == 0 && (t413 == 0 && (!t414 && (t415 == 0 && (!t416 && (t417 == 0 && (t418 == 0))))))))) := by simpa using c59))
                  clear c59; obtain rfl := Option.some.inj H
                  have hnb72 := NB419_385.out; have hnc72 := NB385_419.out; have hcz73_0 : wc.cell? ⟨gb419, 0, none⟩ = some (.int .i64 t410) := (blk_cell BK419.out 0).trans rfl
                  have hcz73_1 : wc.cell? ⟨gb419, 1, none⟩ = some (.int .i64 t411) := (blk_cell BK419.out 1).trans rfl
                  have hcz73_2 : wc.cell? ⟨gb419, 2, none⟩ = some (.int .i64 t412) := (blk_cell BK419.out 2).trans rfl
                  have hcz73_3 : wc.cell? ⟨gb419, 3, none⟩ = some (.int .i64 t413) := (blk_cell BK419.out 3).trans rfl
                  have hcz73_4 : wc.cell? ⟨gb419, 4, none⟩ = some (.bool t414) := (blk_cell BK419.out 4).trans rfl
                  have hcz73_5 : wc.cell? ⟨gb419, 5, none⟩ = some (.int .i64 t415) := (blk_cell BK419.out 5).trans rfl
                  have hcz73_6 : wc.cell? ⟨gb419, 6, none⟩ = some (.bool t416) := (blk_cell BK419.out 6).trans rfl
                  have hcz73_7 : wc.cell? ⟨gb419, 7, none⟩ = some (.int .i64 t417) := (blk_cell BK419.out 7).trans rfl
                  have hcz73_8 : wc.cell? ⟨gb419, 8, none⟩ = some (.int .i64 t418) := (blk_cell BK419.out 8).trans rfl
                  have hfz73_0 := blk_frozen BK419.out 0; have hfz73_1 := blk_frozen BK419.out 1; have hfz73_2 := blk_frozen BK419.out 2; have hfz73_3 := blk_frozen BK419.out 3; have hfz73_4 := blk_frozen BK419.out 4; have hfz73_5 := blk_frozen BK419.out 5; have hfz73_6 := blk_frozen BK419.out 6; have hfz73_7 := blk_frozen BK419.out 7; have hfz73_8 := blk_frozen BK419.out 8; go_wp2
                  go_ret
                  exact ⟨by first | rfl | (simp [errW_none, errW_some] <;> rfl) | (simp [*, errW_none, errW_some] <;> rfl), below_step HB0.out (by repeat (first | (with_reducible first | exact HB.out | apply bA | apply bN | apply bD | refine below_set ?_ GE385.out | refine below_set ?_ GE419.out) | exact HB.out))⟩
                rw [if_pos c59] at H
                have c59b0 : (t410 == 0 && (t411 == 0 && (t412 == 0 && (t413 == 0 && (!t414 && (t415 == 0 && (!t416 && (t417 == 0 && (t418 == 0))))))))) = true := c59
                (try (have c59b1 : decide (t410 = 0 && (t411 == 0 && (t412 == 0 && (t413 == 0 && (!t414 && (t415 == 0 && (!t416 && (t417 == 0 && (t418 == 0))))))))) = true := by simpa using c59))
                (try (have c59b2 : (t410 == 0 && (t411 == 0 && (t412 == 0 && (t413 == 0 && (!t414 && (t415 == 0 && (!t416 && (t417 == 0 && (t418 == 0))))))))) = true := by simpa using c59))
                clear c59; by_cases c60 : a1 < 0
                · rw [if_pos c60] at H
                  have c60b0 : decide (a1 < 0) = true := decide_eq_true c60
                  clear c60; obtain rfl := Option.some.inj H
                  have hnb61 := NB419_385.out; have hnc61 := NB385_419.out; have hcz62_0 : wc.cell? ⟨gb419, 0, none⟩ = some (.int .i64 t410) := (blk_cell BK419.out 0).trans rfl
                  have hcz62_1 : wc.cell? ⟨gb419, 1, none⟩ = some (.int .i64 t411) := (blk_cell BK419.out 1).trans rfl
                  have hcz62_2 : wc.cell? ⟨gb419, 2, none⟩ = some (.int .i64 t412) := (blk_cell BK419.out 2).trans rfl
                  have hcz62_3 : wc.cell? ⟨gb419, 3, none⟩ = some (.int .i64 t413) := (blk_cell BK419.out 3).trans rfl
                  have hcz62_4 : wc.cell? ⟨gb419, 4, none⟩ = some (.bool t414) := (blk_cell BK419.out 4).trans rfl
                  have hcz62_5 : wc.cell? ⟨gb419, 5, none⟩ = some (.int .i64 t415) := (blk_cell BK419.out 5).trans rfl
                  have hcz62_6 : wc.cell? ⟨gb419, 6, none⟩ = some (.bool t416) := (blk_cell BK419.out 6).trans rfl
                  have hcz62_7 : wc.cell? ⟨gb419, 7, none⟩ = some (.int .i64 t417) := (blk_cell BK419.out 7).trans rfl
                  have hcz62_8 : wc.cell? ⟨gb419, 8, none⟩ = some (.int .i64 t418) := (blk_cell BK419.out 8).trans rfl
                  have hfz62_0 := blk_frozen BK419.out 0; have hfz62_1 := blk_frozen BK419.out 1; have hfz62_2 := blk_frozen BK419.out 2; have hfz62_3 := blk_frozen BK419.out 3; have hfz62_4 := blk_frozen BK419.out 4; have hfz62_5 := blk_frozen BK419.out 5; have hfz62_6 := blk_frozen BK419.out 6; have hfz62_7 := blk_frozen BK419.out 7; have hfz62_8 := blk_frozen BK419.out 8; go_wp2
                  go_ret
                  exact ⟨by first | rfl | (simp [errW_none, errW_some] <;> rfl) | (simp [*, errW_none, errW_some] <;> rfl), below_step HB0.out (by repeat (first | (with_reducible first | exact HB.out | apply bA | apply bN | apply bD | refine below_set ?_ GE385.out | refine below_set ?_ GE419.out) | exact HB.out))⟩
                rw [if_neg c60] at H
                have c60b0 : decide (a1 < 0) = false := decide_eq_false c60
                clear c60; by_cases c63 : a1 < (t401.length : Int)
                · rw [if_pos c63] at H
                  have c63b0 : decide (a1 < (t401.length : Int)) = true := decide_eq_true c63
                  clear c63; obtain rfl := Option.some.inj H
                  have hnb64 := NB419_385.out; have hnc64 := NB385_419.out; have hcz65_0 : wc.cell? ⟨gb419, 0, none⟩ = some (.int .i64 t410) := (blk_cell BK419.out 0).trans rfl
                  have hcz65_1 : wc.cell? ⟨gb419, 1, none⟩ = some (.int .i64 t411) := (blk_cell BK419.out 1).trans rfl
                  have hcz65_2 : wc.cell? ⟨gb419, 2, none⟩ = some (.int .i64 t412) := (blk_cell BK419.out 2).trans rfl
                  have hcz65_3 : wc.cell? ⟨gb419, 3, none⟩ = some (.int .i64 t413) := (blk_cell BK419.out 3).trans rfl
                  have hcz65_4 : wc.cell? ⟨gb419, 4, none⟩ = some (.bool t414) := (blk_cell BK419.out 4).trans rfl
                  have hcz65_5 : wc.cell? ⟨gb419, 5, none⟩ = some (.int .i64 t415) := (blk_cell BK419.out 5).trans rfl
                  have hcz65_6 : wc.cell? ⟨gb419, 6, none⟩ = some (.bool t416) := (blk_cell BK419.out 6).trans rfl
                  have hcz65_7 : wc.cell? ⟨gb419, 7, none⟩ = some (.int .i64 t417) := (blk_cell BK419.out 7).trans rfl
                  have hcz65_8 : wc.cell? ⟨gb419, 8, none⟩ = some (.int .i64 t418) := (blk_cell BK419.out 8).trans rfl
                  have hfz65_0 := blk_frozen BK419.out 0; have hfz65_1 := blk_frozen BK419.out 1; have hfz65_2 := blk_frozen BK419.out 2; have hfz65_3 := blk_frozen BK419.out 3; have hfz65_4 := blk_frozen BK419.out 4; have hfz65_5 := blk_frozen BK419.out 5; have hfz65_6 := blk_frozen BK419.out 6; have hfz65_7 := blk_frozen BK419.out 7; have hfz65_8 := blk_frozen BK419.out 8; obtain ⟨Ao66, co66, eo66⟩ := Kd.R_slice HO_8.out
                  subst eo66
                  go_wp2
                  go_ret
                  exact ⟨by first | rfl | (simp [errW_none, errW_some] <;> rfl) | (simp [*, errW_none, errW_some] <;> rfl), below_step HB0.out (by repeat (first | (with_reducible first | exact HB.out | apply bA | apply bN | apply bD | refine below_set ?_ GE385.out | refine below_set ?_ GE419.out) | exact HB.out))⟩
                rw [if_neg c63] at H
                have c63b0 : decide (a1 < (t401.length : Int)) = false := decide_eq_false c63
                clear c63; replace H := Option.bind_eq_some_iff.mp H; obtain ⟨t420, A670, H⟩ := H; replace H : (some (t420 == (-1))) = some r := H
                have A67 := Aside0.mk A670; clear A670; obtain rfl := Option.some.inj H
                have hnb68 := NB419_385.out; have hnc68 := NB385_419.out; have hcz69_0 : wc.cell? ⟨gb419, 0, none⟩ = some (.int .i64 t410) := (blk_cell BK419.out 0).trans rfl
                have hcz69_1 : wc.cell? ⟨gb419, 1, none⟩ = some (.int .i64 t411) := (blk_cell BK419.out 1).trans rfl
                have hcz69_2 : wc.cell? ⟨gb419, 2, none⟩ = some (.int .i64 t412) := (blk_cell BK419.out 2).trans rfl
                have hcz69_3 : wc.cell? ⟨gb419, 3, none⟩ = some (.int .i64 t413) := (blk_cell BK419.out 3).trans rfl
                have hcz69_4 : wc.cell? ⟨gb419, 4, none⟩ = some (.bool t414) := (blk_cell BK419.out 4).trans rfl
                have hcz69_5 : wc.cell? ⟨gb419, 5, none⟩ = some (.int .i64 t415) := (blk_cell BK419.out 5).trans rfl
                have hcz69_6 : wc.cell? ⟨gb419, 6, none⟩ = some (.bool t416) := (blk_cell BK419.out 6).trans rfl
                have hcz69_7 : wc.cell? ⟨gb419, 7, none⟩ = some (.int .i64 t417) := (blk_cell BK419.out 7).trans rfl
                have hcz69_8 : wc.cell? ⟨gb419, 8, none⟩ = some (.int .i64 t418) := (blk_cell BK419.out 8).trans rfl
                have hfz69_0 := blk_frozen BK419.out 0; have hfz69_1 := blk_frozen BK419.out 1; have hfz69_2 := blk_frozen BK419.out 2; have hfz69_3 := blk_frozen BK419.out 3; have hfz69_4 := blk_frozen BK419.out 4; have hfz69_5 := blk_frozen BK419.out 5; have hfz69_6 := blk_frozen BK419.out 6; have hfz69_7 := blk_frozen BK419.out 7; have hfz69_8 := blk_frozen BK419.out 8; obtain ⟨Ao70, co70, eo70⟩ := Kd.R_slice HO_8.out
                subst eo70
                go_wp2_with (first | (go_at_call 24; (with_reducible refine (measure_Para_End.calls gp385 A385_0 c385_0 t387 A385_1 c385_1 t388 A385_2 c385_2 t389 A385_3 c385_3 t390 A385_4 c385_4 t391 A385_5 c385_5 t392 x386006_3 A385_7 c385_7 t394 a1 t420 _ ?side1 ?side2 ?side3 ?side4 ?side5 ?side6 ?side7 ?side8 ?side9 ?side10 ?side11 ?side12 ?side13 ?side14 ?side15 A67.out).mono ?_); (case side1 => (with_reducible repeat first | apply kN | apply kD | apply kA); exact BK385.out); (case side2 => repeat (first | exact (Kd.C_below HR385_0.out HB.out) | (with_reducible refine Kd.C_alloc ?_ _) | (with_reducible refine Kd.C_drewN ?_ _) | (with_reducible refine Kd.C_drew ?_))); (case side3 => exact HC385_0.out); (case side4 => repeat (first | exact (Kd.C_below HR385_1.out HB.out) | (with_reducible refine Kd.C_alloc ?_ _) | (with_reducible refine Kd.C_drewN ?_ _) | (with_reducible refine Kd.C_drew ?_))); (case side5 => exact HC385_1.out); (case side6 => repeat (first | exact (Kd.C_below HR385_2.out HB.out) | (with_reducible refine Kd.C_alloc ?_ _) | (with_reducible refine Kd.C_drewN ?_ _) | (with_reducible refine Kd.C_drew ?_))); (case side7 => exact HC385_2.out); (case side8 => repeat (first | exact (Kd.C_below HR385_3.out HB.out) | (with_reducible refine Kd.C_alloc ?_ _) | (with_reducible refine Kd.C_drewN ?_ _) | (with_reducible refine Kd.C_drew ?_))); (case side9 => exact HC385_3.out); (case side10 => repeat (first | exact (Kd.C_below HR385_4.out HB.out) | (with_reducible refine Kd.C_alloc ?_ _) | (with_reducible refine Kd.C_drewN ?_ _) | (with_reducible refine Kd.C_drew ?_))); (case side11 => exact HC385_4.out); (case side12 => repeat (first | exact (Kd.C_below HR385_5.out HB.out) | (with_reducible refine Kd.C_alloc ?_ _) | (with_reducible refine Kd.C_drewN ?_ _) | (with_reducible refine Kd.C_drew ?_))); (case side13 => exact HC385_5.out); (case side14 => repeat (first | exact (Kd.C_below HR385_7.out HB.out) | (with_reducible refine Kd.C_alloc ?_ _) | (with_reducible refine Kd.C_drewN ?_ _) | (with_reducible refine Kd.C_drew ?_))); (case side15 => exact HC385_7.out); rintro e w71 ⟨rfl, hb⟩; have n0_ := Aside0.mk (Kd.R_below (by (with_reducible repeat (first | apply Kd.R_alloc | apply Kd.R_drewN | apply Kd.R_drew)); exact HO_8.out) hb); have n1_ := Aside0.mk (blk_below (g := gp385) (o := .cells #[.slice A385_0 t387.length c385_0, .slice A385_1 t388.length c385_1, .slice A385_2 t389.length c385_2, .slice A385_3 t390.length c385_3, .slice A385_4 t391.length c385_4, .slice A385_5 t392.length c385_5, .int .i64 x386006_3, .slice A385_7 t394.length c385_7] 75 (0, 0)) (by (with_reducible repeat first | apply kN | apply kD | apply kA); exact BK385.out) hb); have n2_ := Aside0.mk (blk_below (g := gb419) (o := .cells #[.int .i64 t410, .int .i64 t411, .int .i64 t412, .int .i64 t413, .bool t414, .int .i64 t415, .bool t416, .int .i64 t417, .int .i64 t418] 34 (0, 0)) (by (with_reducible repeat first | apply kN | apply kD | apply kA); exact BK419.out) hb); have n3_ := Aside0.mk (below_step (by repeat (first | (with_reducible first | exact HB.out | apply bA | apply bN | apply bD | refine below_set ?_ GE385.out | refine below_set ?_ GE419.out) | exact HB.out)) hb); clear HO_8; clear BK385; clear BK419; clear HB; have HO_8 := n0_; have BK385 := n1_; have BK419 := n2_; have HB := n3_; clear n0_ n1_ n2_ n3_; (try clear hb); (try clear hb2); (try clear hk); (try clear hi)))
                go_ret
                exact ⟨by first | rfl | (simp [errW_none, errW_some] <;> rfl) | (simp [*, errW_none, errW_some] <;> rfl), below_step HB0.out (by repeat (first | (with_reducible first | exact HB.out | apply bA | apply bN | apply bD | refine below_set ?_ GE385.out | refine below_set ?_ GE419.out) | exact HB.out))⟩
              replace c58 := Bool.eq_false_iff.mpr c58
              subst c58
              have H1 : (if 0 ≤ a1 then (if a1 < (l0.length : Int) then (if (t410 == ((rd_T34 l0 a1).f0) && (t411 == ((rd_T34 l0 a1).f1) && (t412 == ((rd_T34 l0 a1).f2) && (t413 == ((rd_T34 l0 a1).f3) && (t414 == ((rd_T34 l0 a1).f4) && (t415 == ((rd_T34 l0 a1).f5) && (t416 == ((rd_T34 l0 a1).f6) && (t417 == ((rd_T34 l0 a1).f7) && (t418 == ((rd_T34 l0 a1).f8)))))))))) = true then (if (t401.length : Int) = 0 then (some true) else ((measure_Para_End.f t387 t388 t389 t390 t391 t392 x386006_3 t394 0).bind fun t422 => (if 0 < (t401.length : Int) then (some (t422 == (rd t401 0))) else (none)))) else (some false)) else (none)) else (none)) = some r := by rw [if_neg (show ¬ (false = true) by decide)] at H; exact H
              clear H; have H := H1; clear H1; by_cases c74 : 0 ≤ a1
              case neg =>
                rw [if_neg c74] at H
                exact absurd H (by simp)
              rw [if_pos c74] at H
              have c74b0 : decide (0 ≤ a1) = true := decide_eq_true c74
              clear c74; by_cases c75 : a1 < (l0.length : Int)
              case neg =>
                rw [if_neg c75] at H
                exact absurd H (by simp)
              rw [if_pos c75] at H
              have c75b0 : decide (a1 < (l0.length : Int)) = true := decide_eq_true c75
              clear c75; by_cases c76 : (t410 == ((rd_T34 l0 a1).f0) && (t411 == ((rd_T34 l0 a1).f1) && (t412 == ((rd_T34 l0 a1).f2) && (t413 == ((rd_T34 l0 a1).f3) && (t414 == ((rd_T34 l0 a1).f4) && (t415 == ((rd_T34 l0 a1).f5) && (t416 == ((rd_T34 l0 a1).f6) && (t417 == ((rd_T34 l0 a1).f7) && (t418 == ((rd_T34 l0 a1).f8)))))))))) = true
              case neg =>
                rw [if_neg c76] at H
                have c76b0 : (t410 == ((rd_T34 l0 a1).f0) && (t411 == ((rd_T34 l0 a1).f1) && (t412 == ((rd_T34 l0 a1).f2) && (t413 == ((rd_T34 l0 a1).f3) && (t414 == ((rd_T34 l0 a1).f4) && (t415 == ((rd_T34 l0 a1).f5) && (t416 == ((rd_T34 l0 a1).f6) && (t417 == ((rd_T34 l0 a1).f7) && (t418 == ((rd_T34 l0 a1).f8)))))))))) = false := by simpa using c76
                (try (have c76b1 : decide (t410 = ((rd_T34 l0 a1).f0) && (t411 == ((rd_T34 l0 a1).f1) && (t412 == ((rd_T34 l0 a1).f2) && (t413 == ((rd_T34 l0 a1).f3) && (t414 == ((rd_T34 l0 a1).f4) && (t415 == ((rd_T34 l0 a1).f5) && (t416 == ((rd_T34 l0 a1).f6) && (t417 == ((rd_T34 l0 a1).f7) && (t418 == ((rd_T34 l0 a1).f8)))))))))) = false := by simpa using c76))
                (try (have c76b2 : (t410 == ((rd_T34 l0 a1).f0) && (t411 == ((rd_T34 l0 a1).f1) && (t412 == ((rd_T34 l0 a1).f2) && (t413 == ((rd_T34 l0 a1).f3) && (t414 == ((rd_T34 l0 a1).f4) && (t415 == ((rd_T34 l0 a1).f5) && (t416 == ((rd_T34 l0 a1).f6) && (t417 == ((rd_T34 l0 a1).f7) && (t418 == ((rd_T34 l0 a1).f8)))))))))) = false := by simpa using c76))
                (try (have c76b3 : ¬ (t410 = ((rd_T34 l0 a1).f0) && (t411 == ((rd_T34 l0 a1).f1) && (t412 == ((rd_T34 l0 a1).f2) && (t413 == ((rd_T34 l0 a1).f3) && (t414 == ((rd_T34 l0 a1).f4) && (t415 == ((rd_T34 l0 a1).f5) && (t416 == ((rd_T34 l0 a1).f6) && (t417 == ((rd_T34 l0 a1).f7) && (t418 == ((rd_T34 l0 a1).f8)))))))))) := by simpa using c76))
                clear c76; obtain rfl := Option.some.inj H
                try go_wp2
                have n0_ := Aside0.mk (Kd.R_drew HO_8.out)
                have n1_ := Aside0.mk (blk_drew BK385.out)
                have n2_ := Aside0.mk (blk_drew BK419.out)
                have n3_ := Aside0.mk (below_drew1 HB.out)
                clear HO_8; clear BK385; clear BK419; clear HB; have HO_8 := n0_; have BK385 := n1_; have BK419 := n2_; have HB := n3_; clear n0_ n1_ n2_ n3_; have p421 : 0 ≤ (a1 : Int) := of_decide_eq_true (by first | (with_reducible assumption) | assumption)
                have q421 : a1 < (l0.length : Int) := of_decide_eq_true (by first | (with_reducible assumption) | assumption)
                obtain ⟨ad421, e421, hx421_0, hx421_1, hx421_2, hx421_3, hx421_4, hx421_5, hx421_6, hx421_7, hx421_8⟩ := at_T34 HR0.out a1 p421 q421; have hw421_8 := hx421_8; have hw421_7 := hx421_7; have hw421_6 := hx421_6; have hw421_5 := hx421_5; have hw421_4 := hx421_4; have hw421_3 := hx421_3; have hw421_2 := hx421_2; have hw421_1 := hx421_1; have hw421_0 := hx421_0; cases e421; replace hx421_0 := hb_up HB.out hx421_0; replace hx421_1 := hb_up HB.out hx421_1; replace hx421_2 := hb_up HB.out hx421_2; replace hx421_3 := hb_up HB.out hx421_3; replace hx421_4 := hb_up HB.out hx421_4; replace hx421_5 := hb_up HB.out hx421_5; replace hx421_6 := hb_up HB.out hx421_6; replace hx421_7 := hb_up HB.out hx421_7; replace hx421_8 := hb_up HB.out hx421_8; replace p421 := eq_true p421; replace q421 := eq_true q421; refine start_ (n := 20) (S := fun w' => w'.cell? ⟨gb419, 0, none⟩ = some (.int .i64 t410) ∧ w'.cell? ⟨gb419, 1, none⟩ = some (.int .i64 t411) ∧ w'.cell? ⟨gb419, 2, none⟩ = some (.int .i64 t412) ∧ w'.cell? ⟨gb419, 3, none⟩ = some (.int .i64 t413) ∧ w'.cell? ⟨gb419, 4, none⟩ = some (.bool t414) ∧ w'.cell? ⟨gb419, 5, none⟩ = some (.int .i64 t415) ∧ w'.cell? ⟨gb419, 6, none⟩ = some (.bool t416) ∧ w'.cell? ⟨gb419, 7, none⟩ = some (.int .i64 t417) ∧ w'.cell? ⟨gb419, 8, none⟩ = some (.int .i64 t418) ∧ w'.cell? (ad421.add ((a1).toNat * 9)) = some (.int .i64 ((rd_T34 l0 a1).f0)) ∧ w'.cell? ⟨(ad421.add ((a1).toNat * 9)).block, (ad421.add ((a1).toNat * 9)).off + 1, none⟩ = some (.int .i64 ((rd_T34 l0 a1).f1)) ∧ w'.cell? ⟨(ad421.add ((a1).toNat * 9)).block, (ad421.add ((a1).toNat * 9)).off + 2, none⟩ = some (.int .i64 ((rd_T34 l0 a1).f2)) ∧ w'.cell? ⟨(ad421.add ((a1).toNat * 9)).block, (ad421.add ((a1).toNat * 9)).off + 3, none⟩ = some (.int .i64 ((rd_T34 l0 a1).f3)) ∧ w'.cell? ⟨(ad421.add ((a1).toNat * 9)).block, (ad421.add ((a1).toNat * 9)).off + 4, none⟩ = some (.bool ((rd_T34 l0 a1).f4)) ∧ w'.cell? ⟨(ad421.add ((a1).toNat * 9)).block, (ad421.add ((a1).toNat * 9)).off + 5, none⟩ = some (.int .i64 ((rd_T34 l0 a1).f5)) ∧ w'.cell? ⟨(ad421.add ((a1).toNat * 9)).block, (ad421.add ((a1).toNat * 9)).off + 6, none⟩ = some (.bool ((rd_T34 l0 a1).f6)) ∧ w'.cell? ⟨(ad421.add ((a1).toNat * 9)).block, (ad421.add ((a1).toNat * 9)).off + 7, none⟩ = some (.int .i64 ((rd_T34 l0 a1).f7)) ∧ w'.cell? ⟨(ad421.add ((a1).toNat * 9)).block, (ad421.add ((a1).toNat * 9)).off + 8, none⟩ = some (.int .i64 ((rd_T34 l0 a1).f8))) (ds := []) (bm 20 0) (by kernel_rfl) rfl rfl ⟨(blk_cell BK419.out 0).trans rfl, (blk_cell BK419.out 1).trans rfl, (blk_cell BK419.out 2).trans rfl, (blk_cell BK419.out 3).trans rfl, (blk_cell BK419.out 4).trans rfl, (blk_cell BK419.out 5).trans rfl, (blk_cell BK419.out 6).trans rfl, (blk_cell BK419.out 7).trans rfl, (blk_cell BK419.out 8).trans rfl, (hb_up HB.out hw421_0), (hb_up HB.out hw421_1), (hb_up HB.out hw421_2), (hb_up HB.out hw421_3), (hb_up HB.out hw421_4), (hb_up HB.out hw421_5), (hb_up HB.out hw421_6), (hb_up HB.out hw421_7), (hb_up HB.out hw421_8)⟩ (fun hHeld => ?_); refine with_tabW regletlaw08_MeasureTakes.tab20 regletlaw08_MeasureTakes.bits20 (fun HT_ HW_ => ?_)
                generalize wc.drew = w85 at HO_8 BK385 BK419 HB hx421_0 hx421_1 hx421_2 hx421_3 hx421_4 hx421_5 hx421_6 hx421_7 hx421_8 hHeld ⊢
                refine pure_ (i := 1) (N := some 115) (v := ?_) (a' := ?_) (bm 20 2) rfl rfl (aO HT_ (by kernel_rfl)) (fun _ _ _ h => h) (Or.inl ⟨by rfl, ?_⟩) ?_ ?_; rotate_left; intro w'; go_simp; with_reducible rfl; rotate_left; simp only [aP, aS, aZ, aC, aW, aX]; rfl
                refine pure_ (i := 2) (N := some 116) (v := ?_) (a' := ?_) (bm 20 6) rfl rfl (aO HT_ (by kernel_rfl)) (fun _ _ _ h => h) (Or.inl ⟨by rfl, ?_⟩) ?_ ?_; rotate_left; intro w'; go_simp; with_reducible rfl; rotate_left; simp only [aP, aS, aZ, aC, aW, aX]; rfl
                refine pure_ (i := 3) (N := some 117) (v := ?_) (a' := ?_) (bm 20 14) rfl rfl (aO HT_ (by kernel_rfl)) (fun _ _ _ h => h) (Or.inl ⟨by rfl, ?_⟩) ?_ ?_; rotate_left; intro w'; go_simp; with_reducible rfl; rotate_left; simp only [aP, aS, aZ, aC, aW, aX]; rfl
                refine take_ (i := 0) (N := some 114) (v := ?_) (a' := ?_) (bm 20 15) rfl rfl (take_ofW HT_.out HW_.out (by kernel_rfl)) (fun _ _ _ h => h) (Or.inl ⟨by rfl, ?_⟩) hHeld ?_ ?_; rotate_left; rintro w' ⟨s0, s1, s2, s3, s4, s5, s6, s7, s8, s9, s10, s11, s12, s13, s14, s15, s16, s17⟩; go_simp; with_reducible rfl; rotate_left; simp only [aP, aS, aZ, aC, aW, aX]; rfl
                refine take_ (i := 4) (N := some 118) (v := ?_) (a' := ?_) (bm 20 31) rfl rfl (take_ofW HT_.out HW_.out (by kernel_rfl)) (fun _ _ _ h => h) (Or.inl ⟨by rfl, ?_⟩) hHeld ?_ ?_; rotate_left; rintro w' ⟨s0, s1, s2, s3, s4, s5, s6, s7, s8, s9, s10, s11, s12, s13, s14, s15, s16, s17⟩; go_simp; with_reducible rfl; rotate_left; simp only [aP, aS, aZ, aC, aW, aX]; rfl
                refine pure_ (i := 5) (N := some 119) (v := ?_) (a' := ?_) (bm 20 63) rfl rfl (aO HT_ (by kernel_rfl)) (fun _ _ _ h => h) (Or.inl ⟨by rfl, ?_⟩) ?_ ?_; rotate_left; intro w'; go_simp; with_reducible rfl; rotate_left; simp only [aP, aS, aZ, aC, aW, aX]; rfl
                refine pure_ (i := 6) (N := some 120) (v := ?_) (a' := ?_) (bm 20 127) rfl rfl (aO HT_ (by kernel_rfl)) (fun _ _ _ h => h) (Or.inl ⟨by rfl, ?_⟩) ?_ ?_; rotate_left; intro w'; go_simp; with_reducible rfl; rotate_left; simp only [aP, aS, aZ, aC, aW, aX]; rfl
                refine pure_ (i := 7) (N := some 121) (v := undef) (a' := ?_) (bm 20 255) rfl rfl (aO HT_ (by kernel_rfl)) (fun _ _ _ h => h) (Or.inr ⟨by rfl, rfl⟩) ?_ ?_; rotate_left; simp only [aP, aS, aZ, aC, aW, aX]; rfl
                refine pure_ (i := 8) (N := some 122) (v := undef) (a' := ?_) (bm 20 511) rfl rfl (aO HT_ (by kernel_rfl)) (fun _ _ _ h => h) (Or.inr ⟨by rfl, rfl⟩) ?_ ?_; rotate_left; simp only [aP, aS, aZ, aC, aW, aX]; rfl
                refine pure_ (i := 9) (N := some 123) (v := undef) (a' := ?_) (bm 20 1023) rfl rfl (aO HT_ (by kernel_rfl)) (fun _ _ _ h => h) (Or.inr ⟨by rfl, rfl⟩) ?_ ?_; rotate_left; simp only [aP, aS, aZ, aC, aW, aX]; rfl
                refine pure_ (i := 10) (N := some 124) (v := undef) (a' := ?_) (bm 20 2047) rfl rfl (aO HT_ (by kernel_rfl)) (fun _ _ _ h => h) (Or.inr ⟨by rfl, rfl⟩) ?_ ?_; rotate_left; simp only [aP, aS, aZ, aC, aW, aX]; rfl
                refine pure_ (i := 11) (N := some 125) (v := undef) (a' := ?_) (bm 20 4095) rfl rfl (aO HT_ (by kernel_rfl)) (fun _ _ _ h => h) (Or.inr ⟨by rfl, rfl⟩) ?_ ?_; rotate_left; simp only [aP, aS, aZ, aC, aW, aX]; rfl
                refine pure_ (i := 12) (N := some 126) (v := undef) (a' := ?_) (bm 20 8191) rfl rfl (aO HT_ (by kernel_rfl)) (fun _ _ _ h => h) (Or.inr ⟨by rfl, rfl⟩) ?_ ?_; rotate_left; simp only [aP, aS, aZ, aC, aW, aX]; rfl
                refine pure_ (i := 13) (N := some 127) (v := undef) (a' := ?_) (bm 20 16383) rfl rfl (aO HT_ (by kernel_rfl)) (fun _ _ _ h => h) (Or.inr ⟨by rfl, rfl⟩) ?_ ?_; rotate_left; simp only [aP, aS, aZ, aC, aW, aX]; rfl
                refine pure_ (i := 14) (N := some 128) (v := undef) (a' := ?_) (bm 20 32767) rfl rfl (aO HT_ (by kernel_rfl)) (fun _ _ _ h => h) (Or.inr ⟨by rfl, rfl⟩) ?_ ?_; rotate_left; simp only [aP, aS, aZ, aC, aW, aX]; rfl
                refine pure_ (i := 15) (N := some 129) (v := undef) (a' := ?_) (bm 20 65535) rfl rfl (aO HT_ (by kernel_rfl)) (fun _ _ _ h => h) (Or.inr ⟨by rfl, rfl⟩) ?_ ?_; rotate_left; simp only [aP, aS, aZ, aC, aW, aX]; rfl
                refine pure_ (i := 16) (N := some 130) (v := undef) (a' := ?_) (bm 20 131071) rfl rfl (aO HT_ (by kernel_rfl)) (fun _ _ _ h => h) (Or.inr ⟨by rfl, rfl⟩) ?_ ?_; rotate_left; simp only [aP, aS, aZ, aC, aW, aX]; rfl
                refine pure_ (i := 17) (N := some 131) (v := undef) (a' := ?_) (bm 20 262143) rfl rfl (aO HT_ (by kernel_rfl)) (fun _ _ _ h => h) (Or.inr ⟨by rfl, rfl⟩) ?_ ?_; rotate_left; simp only [aP, aS, aZ, aC, aW, aX]; rfl
                refine pure_ (i := 18) (N := some 132) (v := ?_) (a' := ?_) (bm 20 524287) rfl rfl (aO HT_ (by kernel_rfl)) (fun _ _ _ h => h) (Or.inl ⟨by rfl, ?_⟩) ?_ ?_; rotate_left; intro w'; go_simp; with_reducible rfl; rotate_left; simp only [aP, aS, aZ, aC, aW, aX]; rfl
                refine pure_ (i := 19) (N := some 4) (v := ?_) (a' := ?_) (bm 20 1048575) rfl rfl (aO HT_ (by kernel_rfl)) (fun _ _ _ h => h) (Or.inl ⟨by rfl, ?_⟩) ?_ ?_; rotate_left; intro w'; go_simp; with_reducible rfl; rotate_left; simp only [aP, aS, aZ, aC, aW, aX]; rfl
                refine done_ (done_of HT_.out (by kernel_rfl)) ?_
                try go_wp2
                go_ret
                exact ⟨by first | rfl | (simp [errW_none, errW_some] <;> rfl) | (simp [*, errW_none, errW_some] <;> rfl), below_step HB0.out (by repeat (first | (with_reducible first | exact HB.out | apply bA | apply bN | apply bD | refine below_set ?_ GE385.out | refine below_set ?_ GE419.out) | exact HB.out))⟩
              rw [if_pos c76] at H
              have c76b0 : (t410 == ((rd_T34 l0 a1).f0) && (t411 == ((rd_T34 l0 a1).f1) && (t412 == ((rd_T34 l0 a1).f2) && (t413 == ((rd_T34 l0 a1).f3) && (t414 == ((rd_T34 l0 a1).f4) && (t415 == ((rd_T34 l0 a1).f5) && (t416 == ((rd_T34 l0 a1).f6) && (t417 == ((rd_T34 l0 a1).f7) && (t418 == ((rd_T34 l0 a1).f8)))))))))) = true := c76
              (try (have c76b1 : decide (t410 = ((rd_T34 l0 a1).f0) && (t411 == ((rd_T34 l0 a1).f1) && (t412 == ((rd_T34 l0 a1).f2) && (t413 == ((rd_T34 l0 a1).f3) && (t414 == ((rd_T34 l0 a1).f4) && (t415 == ((rd_T34 l0 a1).f5) && (t416 == ((rd_T34 l0 a1).f6) && (t417 == ((rd_T34 l0 a1).f7) && (t418 == ((rd_T34 l0 a1).f8)))))))))) = true := by simpa using c76))
              (try (have c76b2 : (t410 == ((rd_T34 l0 a1).f0) && (t411 == ((rd_T34 l0 a1).f1) && (t412 == ((rd_T34 l0 a1).f2) && (t413 == ((rd_T34 l0 a1).f3) && (t414 == ((rd_T34 l0 a1).f4) && (t415 == ((rd_T34 l0 a1).f5) && (t416 == ((rd_T34 l0 a1).f6) && (t417 == ((rd_T34 l0 a1).f7) && (t418 == ((rd_T34 l0 a1).f8)))))))))) = true := by simpa using c76))
              clear c76; by_cases c77 : (t401.length : Int) = 0
              · rw [if_pos c77] at H
                have c77b0 : ((t401.length : Int) == 0) = true := beq_iff_eq.mpr c77
                have c77b1 : ((t401.length : Int) != 0) = false := bne_eq_false_iff_eq.mpr c77
                clear c77; obtain rfl := Option.some.inj H
                try go_wp2
                have n0_ := Aside0.mk (Kd.R_drew HO_8.out)
                have n1_ := Aside0.mk (blk_drew BK385.out)
                have n2_ := Aside0.mk (blk_drew BK419.out)
                have n3_ := Aside0.mk (below_drew1 HB.out)
                clear HO_8; clear BK385; clear BK419; clear HB; have HO_8 := n0_; have BK385 := n1_; have BK419 := n2_; have HB := n3_; clear n0_ n1_ n2_ n3_; have p421 : 0 ≤ (a1 : Int) := of_decide_eq_true (by first | (with_reducible assumption) | assumption)
                have q421 : a1 < (l0.length : Int) := of_decide_eq_true (by first | (with_reducible assumption) | assumption)
                obtain ⟨ad421, e421, hx421_0, hx421_1, hx421_2, hx421_3, hx421_4, hx421_5, hx421_6, hx421_7, hx421_8⟩ := at_T34 HR0.out a1 p421 q421; have hw421_8 := hx421_8; have hw421_7 := hx421_7; have hw421_6 := hx421_6; have hw421_5 := hx421_5; have hw421_4 := hx421_4; have hw421_3 := hx421_3; have hw421_2 := hx421_2; have hw421_1 := hx421_1; have hw421_0 := hx421_0; cases e421; replace hx421_0 := hb_up HB.out hx421_0; replace hx421_1 := hb_up HB.out hx421_1; replace hx421_2 := hb_up HB.out hx421_2; replace hx421_3 := hb_up HB.out hx421_3; replace hx421_4 := hb_up HB.out hx421_4; replace hx421_5 := hb_up HB.out hx421_5; replace hx421_6 := hb_up HB.out hx421_6; replace hx421_7 := hb_up HB.out hx421_7; replace hx421_8 := hb_up HB.out hx421_8; replace p421 := eq_true p421; replace q421 := eq_true q421; obtain ⟨Ao79, co79, eo79⟩ := Kd.R_slice HO_8.out
                (first | subst eo79 | (injection eo79 with f1_ f2_ f3_; have f4_ := f1_.symm; have f5_ := f3_.symm; clear f1_ f2_ f3_; subst f4_; subst f5_))
                refine start_ (n := 20) (S := fun w' => w'.cell? ⟨gb419, 0, none⟩ = some (.int .i64 t410) ∧ w'.cell? ⟨gb419, 1, none⟩ = some (.int .i64 t411) ∧ w'.cell? ⟨gb419, 2, none⟩ = some (.int .i64 t412) ∧ w'.cell? ⟨gb419, 3, none⟩ = some (.int .i64 t413) ∧ w'.cell? ⟨gb419, 4, none⟩ = some (.bool t414) ∧ w'.cell? ⟨gb419, 5, none⟩ = some (.int .i64 t415) ∧ w'.cell? ⟨gb419, 6, none⟩ = some (.bool t416) ∧ w'.cell? ⟨gb419, 7, none⟩ = some (.int .i64 t417) ∧ w'.cell? ⟨gb419, 8, none⟩ = some (.int .i64 t418) ∧ w'.cell? (ad421.add ((a1).toNat * 9)) = some (.int .i64 ((rd_T34 l0 a1).f0)) ∧ w'.cell? ⟨(ad421.add ((a1).toNat * 9)).block, (ad421.add ((a1).toNat * 9)).off + 1, none⟩ = some (.int .i64 ((rd_T34 l0 a1).f1)) ∧ w'.cell? ⟨(ad421.add ((a1).toNat * 9)).block, (ad421.add ((a1).toNat * 9)).off + 2, none⟩ = some (.int .i64 ((rd_T34 l0 a1).f2)) ∧ w'.cell? ⟨(ad421.add ((a1).toNat * 9)).block, (ad421.add ((a1).toNat * 9)).off + 3, none⟩ = some (.int .i64 ((rd_T34 l0 a1).f3)) ∧ w'.cell? ⟨(ad421.add ((a1).toNat * 9)).block, (ad421.add ((a1).toNat * 9)).off + 4, none⟩ = some (.bool ((rd_T34 l0 a1).f4)) ∧ w'.cell? ⟨(ad421.add ((a1).toNat * 9)).block, (ad421.add ((a1).toNat * 9)).off + 5, none⟩ = some (.int .i64 ((rd_T34 l0 a1).f5)) ∧ w'.cell? ⟨(ad421.add ((a1).toNat * 9)).block, (ad421.add ((a1).toNat * 9)).off + 6, none⟩ = some (.bool ((rd_T34 l0 a1).f6)) ∧ w'.cell? ⟨(ad421.add ((a1).toNat * 9)).block, (ad421.add ((a1).toNat * 9)).off + 7, none⟩ = some (.int .i64 ((rd_T34 l0 a1).f7)) ∧ w'.cell? ⟨(ad421.add ((a1).toNat * 9)).block, (ad421.add ((a1).toNat * 9)).off + 8, none⟩ = some (.int .i64 ((rd_T34 l0 a1).f8))) (ds := []) (bm 20 0) (by kernel_rfl) rfl rfl ⟨(blk_cell BK419.out 0).trans rfl, (blk_cell BK419.out 1).trans rfl, (blk_cell BK419.out 2).trans rfl, (blk_cell BK419.out 3).trans rfl, (blk_cell BK419.out 4).trans rfl, (blk_cell BK419.out 5).trans rfl, (blk_cell BK419.out 6).trans rfl, (blk_cell BK419.out 7).trans rfl, (blk_cell BK419.out 8).trans rfl, (hb_up HB.out hw421_0), (hb_up HB.out hw421_1), (hb_up HB.out hw421_2), (hb_up HB.out hw421_3), (hb_up HB.out hw421_4), (hb_up HB.out hw421_5), (hb_up HB.out hw421_6), (hb_up HB.out hw421_7), (hb_up HB.out hw421_8)⟩ (fun hHeld => ?_); refine with_tabW regletlaw08_MeasureTakes.tab20 regletlaw08_MeasureTakes.bits20 (fun HT_ HW_ => ?_)
                generalize wc.drew = w78 at HO_8 BK385 BK419 HB hx421_0 hx421_1 hx421_2 hx421_3 hx421_4 hx421_5 hx421_6 hx421_7 hx421_8 hHeld ⊢
                refine pure_ (i := 1) (N := some 115) (v := ?_) (a' := ?_) (bm 20 2) rfl rfl (aO HT_ (by kernel_rfl)) (fun _ _ _ h => h) (Or.inl ⟨by rfl, ?_⟩) ?_ ?_; rotate_left; intro w'; go_simp; with_reducible rfl; rotate_left; simp only [aP, aS, aZ, aC, aW, aX]; rfl
                refine pure_ (i := 2) (N := some 116) (v := ?_) (a' := ?_) (bm 20 6) rfl rfl (aO HT_ (by kernel_rfl)) (fun _ _ _ h => h) (Or.inl ⟨by rfl, ?_⟩) ?_ ?_; rotate_left; intro w'; go_simp; with_reducible rfl; rotate_left; simp only [aP, aS, aZ, aC, aW, aX]; rfl
                refine pure_ (i := 3) (N := some 117) (v := ?_) (a' := ?_) (bm 20 14) rfl rfl (aO HT_ (by kernel_rfl)) (fun _ _ _ h => h) (Or.inl ⟨by rfl, ?_⟩) ?_ ?_; rotate_left; intro w'; go_simp; with_reducible rfl; rotate_left; simp only [aP, aS, aZ, aC, aW, aX]; rfl
                refine take_ (i := 0) (N := some 114) (v := ?_) (a' := ?_) (bm 20 15) rfl rfl (take_ofW HT_.out HW_.out (by kernel_rfl)) (fun _ _ _ h => h) (Or.inl ⟨by rfl, ?_⟩) hHeld ?_ ?_; rotate_left; rintro w' ⟨s0, s1, s2, s3, s4, s5, s6, s7, s8, s9, s10, s11, s12, s13, s14, s15, s16, s17⟩; go_simp; with_reducible rfl; rotate_left; simp only [aP, aS, aZ, aC, aW, aX]; rfl
                refine take_ (i := 4) (N := some 118) (v := ?_) (a' := ?_) (bm 20 31) rfl rfl (take_ofW HT_.out HW_.out (by kernel_rfl)) (fun _ _ _ h => h) (Or.inl ⟨by rfl, ?_⟩) hHeld ?_ ?_; rotate_left; rintro w' ⟨s0, s1, s2, s3, s4, s5, s6, s7, s8, s9, s10, s11, s12, s13, s14, s15, s16, s17⟩; go_simp; with_reducible rfl; rotate_left; simp only [aP, aS, aZ, aC, aW, aX]; rfl
                refine pure_ (i := 5) (N := some 119) (v := ?_) (a' := ?_) (bm 20 63) rfl rfl (aO HT_ (by kernel_rfl)) (fun _ _ _ h => h) (Or.inl ⟨by rfl, ?_⟩) ?_ ?_; rotate_left; intro w'; go_simp; with_reducible rfl; rotate_left; simp only [aP, aS, aZ, aC, aW, aX]; rfl
                refine pure_ (i := 6) (N := some 120) (v := ?_) (a' := ?_) (bm 20 127) rfl rfl (aO HT_ (by kernel_rfl)) (fun _ _ _ h => h) (Or.inl ⟨by rfl, ?_⟩) ?_ ?_; rotate_left; intro w'; go_simp; with_reducible rfl; rotate_left; simp only [aP, aS, aZ, aC, aW, aX]; rfl
                refine pure_ (i := 7) (N := some 121) (v := ?_) (a' := ?_) (bm 20 255) rfl rfl (aO HT_ (by kernel_rfl)) (fun _ _ _ h => h) (Or.inl ⟨by rfl, ?_⟩) ?_ ?_; rotate_left; intro w'; go_simp; with_reducible rfl; rotate_left; simp only [aP, aS, aZ, aC, aW, aX]; rfl
                refine pure_ (i := 8) (N := some 122) (v := ?_) (a' := ?_) (bm 20 511) rfl rfl (aO HT_ (by kernel_rfl)) (fun _ _ _ h => h) (Or.inl ⟨by rfl, ?_⟩) ?_ ?_; rotate_left; intro w'; go_simp; with_reducible rfl; rotate_left; simp only [aP, aS, aZ, aC, aW, aX]; rfl
                refine pure_ (i := 9) (N := some 123) (v := ?_) (a' := ?_) (bm 20 1023) rfl rfl (aO HT_ (by kernel_rfl)) (fun _ _ _ h => h) (Or.inl ⟨by rfl, ?_⟩) ?_ ?_; rotate_left; intro w'; go_simp; with_reducible rfl; rotate_left; simp only [aP, aS, aZ, aC, aW, aX]; rfl
                refine pure_ (i := 10) (N := some 124) (v := ?_) (a' := ?_) (bm 20 2047) rfl rfl (aO HT_ (by kernel_rfl)) (fun _ _ _ h => h) (Or.inl ⟨by rfl, ?_⟩) ?_ ?_; rotate_left; intro w'; go_simp; with_reducible rfl; rotate_left; simp only [aP, aS, aZ, aC, aW, aX]; rfl
                refine pure_ (i := 11) (N := some 125) (v := undef) (a' := ?_) (bm 20 4095) rfl rfl (aO HT_ (by kernel_rfl)) (fun _ _ _ h => h) (Or.inr ⟨by rfl, rfl⟩) ?_ ?_; rotate_left; simp only [aP, aS, aZ, aC, aW, aX]; rfl
                refine pure_ (i := 12) (N := some 126) (v := undef) (a' := ?_) (bm 20 8191) rfl rfl (aO HT_ (by kernel_rfl)) (fun _ _ _ h => h) (Or.inr ⟨by rfl, rfl⟩) ?_ ?_; rotate_left; simp only [aP, aS, aZ, aC, aW, aX]; rfl
                refine pure_ (i := 13) (N := some 127) (v := undef) (a' := ?_) (bm 20 16383) rfl rfl (aO HT_ (by kernel_rfl)) (fun _ _ _ h => h) (Or.inr ⟨by rfl, rfl⟩) ?_ ?_; rotate_left; simp only [aP, aS, aZ, aC, aW, aX]; rfl
                refine pure_ (i := 14) (N := some 128) (v := undef) (a' := ?_) (bm 20 32767) rfl rfl (aO HT_ (by kernel_rfl)) (fun _ _ _ h => h) (Or.inr ⟨by rfl, rfl⟩) ?_ ?_; rotate_left; simp only [aP, aS, aZ, aC, aW, aX]; rfl
                refine pure_ (i := 15) (N := some 129) (v := undef) (a' := ?_) (bm 20 65535) rfl rfl (aO HT_ (by kernel_rfl)) (fun _ _ _ h => h) (Or.inr ⟨by rfl, rfl⟩) ?_ ?_; rotate_left; simp only [aP, aS, aZ, aC, aW, aX]; rfl
                refine pure_ (i := 16) (N := some 130) (v := undef) (a' := ?_) (bm 20 131071) rfl rfl (aO HT_ (by kernel_rfl)) (fun _ _ _ h => h) (Or.inr ⟨by rfl, rfl⟩) ?_ ?_; rotate_left; simp only [aP, aS, aZ, aC, aW, aX]; rfl
                refine pure_ (i := 17) (N := some 131) (v := ?_) (a' := ?_) (bm 20 262143) rfl rfl (aO HT_ (by kernel_rfl)) (fun _ _ _ h => h) (Or.inl ⟨by rfl, ?_⟩) ?_ ?_; rotate_left; intro w'; go_simp; with_reducible rfl; rotate_left; simp only [aP, aS, aZ, aC, aW, aX]; rfl
                refine pure_ (i := 18) (N := some 132) (v := ?_) (a' := ?_) (bm 20 524287) rfl rfl (aO HT_ (by kernel_rfl)) (fun _ _ _ h => h) (Or.inl ⟨by rfl, ?_⟩) ?_ ?_; rotate_left; intro w'; go_simp; with_reducible rfl; rotate_left; simp only [aP, aS, aZ, aC, aW, aX]; rfl
                refine pure_ (i := 19) (N := some 4) (v := ?_) (a' := ?_) (bm 20 1048575) rfl rfl (aO HT_ (by kernel_rfl)) (fun _ _ _ h => h) (Or.inl ⟨by rfl, ?_⟩) ?_ ?_; rotate_left; intro w'; go_simp; with_reducible rfl; rotate_left; simp only [aP, aS, aZ, aC, aW, aX]; rfl
                refine done_ (done_of HT_.out (by kernel_rfl)) ?_
                try go_wp2
                go_ret
                exact ⟨by first | rfl | (simp [errW_none, errW_some] <;> rfl) | (simp [*, errW_none, errW_some] <;> rfl), below_step HB0.out (by repeat (first | (with_reducible first | exact HB.out | apply bA | apply bN | apply bD | refine below_set ?_ GE385.out | refine below_set ?_ GE419.out) | exact HB.out))⟩
              rw [if_neg c77] at H
              have c77b0 : ((t401.length : Int) == 0) = false := beq_eq_false_iff_ne.mpr c77
              have c77b1 : ((t401.length : Int) != 0) = true := bne_iff_ne.mpr c77
              have c77b2 : ¬ (t401 = []) := fun h_ => c77 (by rw [h_]; rfl)
              replace H := Option.bind_eq_some_iff.mp H; obtain ⟨t422, A800, H⟩ := H; replace H : (if 0 < (t401.length : Int) then (some (t422 == (rd t401 0))) else (none)) = some r := H
              have A80 := Aside0.mk A800; clear A800; by_cases c81 : 0 < (t401.length : Int)
              case neg =>
                rw [if_neg c81] at H
                exact absurd H (by simp)
              rw [if_pos c81] at H
              have c81b0 : decide (0 < (t401.length : Int)) = true := decide_eq_true c81
              have c81b1 : decide (0 < t401.length) = true := decide_eq_true (by omega)
              clear c81; obtain rfl := Option.some.inj H
              try go_wp2
              have n0_ := Aside0.mk (Kd.R_drew HO_8.out)
              have n1_ := Aside0.mk (blk_drew BK385.out)
              have n2_ := Aside0.mk (blk_drew BK419.out)
              have n3_ := Aside0.mk (below_drew1 HB.out)
              clear HO_8; clear BK385; clear BK419; clear HB; have HO_8 := n0_; have BK385 := n1_; have BK419 := n2_; have HB := n3_; clear n0_ n1_ n2_ n3_; have p421 : 0 ≤ (a1 : Int) := of_decide_eq_true (by first | (with_reducible assumption) | assumption)
              have q421 : a1 < (l0.length : Int) := of_decide_eq_true (by first | (with_reducible assumption) | assumption)
              obtain ⟨ad421, e421, hx421_0, hx421_1, hx421_2, hx421_3, hx421_4, hx421_5, hx421_6, hx421_7, hx421_8⟩ := at_T34 HR0.out a1 p421 q421; have hw421_8 := hx421_8; have hw421_7 := hx421_7; have hw421_6 := hx421_6; have hw421_5 := hx421_5; have hw421_4 := hx421_4; have hw421_3 := hx421_3; have hw421_2 := hx421_2; have hw421_1 := hx421_1; have hw421_0 := hx421_0; cases e421; replace hx421_0 := hb_up HB.out hx421_0; replace hx421_1 := hb_up HB.out hx421_1; replace hx421_2 := hb_up HB.out hx421_2; replace hx421_3 := hb_up HB.out hx421_3; replace hx421_4 := hb_up HB.out hx421_4; replace hx421_5 := hb_up HB.out hx421_5; replace hx421_6 := hb_up HB.out hx421_6; replace hx421_7 := hb_up HB.out hx421_7; replace hx421_8 := hb_up HB.out hx421_8; replace p421 := eq_true p421; replace q421 := eq_true q421; obtain ⟨Ao83, co83, eo83⟩ := Kd.R_slice HO_8.out
              (first | subst eo83 | (injection eo83 with f1_ f2_ f3_; have f4_ := f1_.symm; have f5_ := f3_.symm; clear f1_ f2_ f3_; subst f4_; subst f5_))
              have p423 : 0 ≤ (0 : Int) := (by omega)
              have q423 : 0 < (t401.length : Int) := of_decide_eq_true (by first | (with_reducible assumption) | assumption)
              obtain ⟨ad423, e423, hx423_0⟩ := Kd.at_int (Kd.R_reads' HO_8.out).2.2 0 p423 q423
              cases e423; have qi423 : (0 < t401.length) = True := eq_true (by omega)
              (try rw [show ((0 : Int)).toNat = 0 from rfl] at hx423_0)
              (try rw [Addr.add_zero'] at hx423_0)
              replace p423 := eq_true p423; replace q423 := eq_true q423; refine start_ (n := 20) (S := fun w' => w'.cell? ⟨gb419, 0, none⟩ = some (.int .i64 t410) ∧ w'.cell? ⟨gb419, 1, none⟩ = some (.int .i64 t411) ∧ w'.cell? ⟨gb419, 2, none⟩ = some (.int .i64 t412) ∧ w'.cell? ⟨gb419, 3, none⟩ = some (.int .i64 t413) ∧ w'.cell? ⟨gb419, 4, none⟩ = some (.bool t414) ∧ w'.cell? ⟨gb419, 5, none⟩ = some (.int .i64 t415) ∧ w'.cell? ⟨gb419, 6, none⟩ = some (.bool t416) ∧ w'.cell? ⟨gb419, 7, none⟩ = some (.int .i64 t417) ∧ w'.cell? ⟨gb419, 8, none⟩ = some (.int .i64 t418) ∧ w'.cell? (ad421.add ((a1).toNat * 9)) = some (.int .i64 ((rd_T34 l0 a1).f0)) ∧ w'.cell? ⟨(ad421.add ((a1).toNat * 9)).block, (ad421.add ((a1).toNat * 9)).off + 1, none⟩ = some (.int .i64 ((rd_T34 l0 a1).f1)) ∧ w'.cell? ⟨(ad421.add ((a1).toNat * 9)).block, (ad421.add ((a1).toNat * 9)).off + 2, none⟩ = some (.int .i64 ((rd_T34 l0 a1).f2)) ∧ w'.cell? ⟨(ad421.add ((a1).toNat * 9)).block, (ad421.add ((a1).toNat * 9)).off + 3, none⟩ = some (.int .i64 ((rd_T34 l0 a1).f3)) ∧ w'.cell? ⟨(ad421.add ((a1).toNat * 9)).block, (ad421.add ((a1).toNat * 9)).off + 4, none⟩ = some (.bool ((rd_T34 l0 a1).f4)) ∧ w'.cell? ⟨(ad421.add ((a1).toNat * 9)).block, (ad421.add ((a1).toNat * 9)).off + 5, none⟩ = some (.int .i64 ((rd_T34 l0 a1).f5)) ∧ w'.cell? ⟨(ad421.add ((a1).toNat * 9)).block, (ad421.add ((a1).toNat * 9)).off + 6, none⟩ = some (.bool ((rd_T34 l0 a1).f6)) ∧ w'.cell? ⟨(ad421.add ((a1).toNat * 9)).block, (ad421.add ((a1).toNat * 9)).off + 7, none⟩ = some (.int .i64 ((rd_T34 l0 a1).f7)) ∧ w'.cell? ⟨(ad421.add ((a1).toNat * 9)).block, (ad421.add ((a1).toNat * 9)).off + 8, none⟩ = some (.int .i64 ((rd_T34 l0 a1).f8)) ∧ w'.cell? ad423 = some (.int .i64 (rd t401 0))) (ds := []) (bm 20 0) (by kernel_rfl) rfl rfl ⟨(blk_cell BK419.out 0).trans rfl, (blk_cell BK419.out 1).trans rfl, (blk_cell BK419.out 2).trans rfl, (blk_cell BK419.out 3).trans rfl, (blk_cell BK419.out 4).trans rfl, (blk_cell BK419.out 5).trans rfl, (blk_cell BK419.out 6).trans rfl, (blk_cell BK419.out 7).trans rfl, (blk_cell BK419.out 8).trans rfl, (hb_up HB.out hw421_0), (hb_up HB.out hw421_1), (hb_up HB.out hw421_2), (hb_up HB.out hw421_3), (hb_up HB.out hw421_4), (hb_up HB.out hw421_5), (hb_up HB.out hw421_6), (hb_up HB.out hw421_7), (hb_up HB.out hw421_8), hx423_0⟩ (fun hHeld => ?_); refine with_tabW regletlaw08_MeasureTakes.tab20 regletlaw08_MeasureTakes.bits20 (fun HT_ HW_ => ?_)
              generalize wc.drew = w82 at HO_8 BK385 BK419 HB hx421_0 hx421_1 hx421_2 hx421_3 hx421_4 hx421_5 hx421_6 hx421_7 hx421_8 hx423_0 hHeld ⊢
              refine pure_ (i := 1) (N := some 115) (v := ?_) (a' := ?_) (bm 20 2) rfl rfl (aO HT_ (by kernel_rfl)) (fun _ _ _ h => h) (Or.inl ⟨by rfl, ?_⟩) ?_ ?_; rotate_left; intro w'; go_simp; with_reducible rfl; rotate_left; simp only [aP, aS, aZ, aC, aW, aX]; rfl
              refine pure_ (i := 2) (N := some 116) (v := ?_) (a' := ?_) (bm 20 6) rfl rfl (aO HT_ (by kernel_rfl)) (fun _ _ _ h => h) (Or.inl ⟨by rfl, ?_⟩) ?_ ?_; rotate_left; intro w'; go_simp; with_reducible rfl; rotate_left; simp only [aP, aS, aZ, aC, aW, aX]; rfl
              refine pure_ (i := 3) (N := some 117) (v := ?_) (a' := ?_) (bm 20 14) rfl rfl (aO HT_ (by kernel_rfl)) (fun _ _ _ h => h) (Or.inl ⟨by rfl, ?_⟩) ?_ ?_; rotate_left; intro w'; go_simp; with_reducible rfl; rotate_left; simp only [aP, aS, aZ, aC, aW, aX]; rfl
              refine take_ (i := 0) (N := some 114) (v := ?_) (a' := ?_) (bm 20 15) rfl rfl (take_ofW HT_.out HW_.out (by kernel_rfl)) (fun _ _ _ h => h) (Or.inl ⟨by rfl, ?_⟩) hHeld ?_ ?_; rotate_left; rintro w' ⟨s0, s1, s2, s3, s4, s5, s6, s7, s8, s9, s10, s11, s12, s13, s14, s15, s16, s17, s18⟩; go_simp; with_reducible rfl; rotate_left; simp only [aP, aS, aZ, aC, aW, aX]; rfl
              refine take_ (i := 4) (N := some 118) (v := ?_) (a' := ?_) (bm 20 31) rfl rfl (take_ofW HT_.out HW_.out (by kernel_rfl)) (fun _ _ _ h => h) (Or.inl ⟨by rfl, ?_⟩) hHeld ?_ ?_; rotate_left; rintro w' ⟨s0, s1, s2, s3, s4, s5, s6, s7, s8, s9, s10, s11, s12, s13, s14, s15, s16, s17, s18⟩; go_simp; with_reducible rfl; rotate_left; simp only [aP, aS, aZ, aC, aW, aX]; rfl
              refine pure_ (i := 5) (N := some 119) (v := ?_) (a' := ?_) (bm 20 63) rfl rfl (aO HT_ (by kernel_rfl)) (fun _ _ _ h => h) (Or.inl ⟨by rfl, ?_⟩) ?_ ?_; rotate_left; intro w'; go_simp; with_reducible rfl; rotate_left; simp only [aP, aS, aZ, aC, aW, aX]; rfl
              refine pure_ (i := 6) (N := some 120) (v := ?_) (a' := ?_) (bm 20 127) rfl rfl (aO HT_ (by kernel_rfl)) (fun _ _ _ h => h) (Or.inl ⟨by rfl, ?_⟩) ?_ ?_; rotate_left; intro w'; go_simp; with_reducible rfl; rotate_left; simp only [aP, aS, aZ, aC, aW, aX]; rfl
              refine pure_ (i := 7) (N := some 121) (v := ?_) (a' := ?_) (bm 20 255) rfl rfl (aO HT_ (by kernel_rfl)) (fun _ _ _ h => h) (Or.inl ⟨by rfl, ?_⟩) ?_ ?_; rotate_left; intro w'; go_simp; with_reducible rfl; rotate_left; simp only [aP, aS, aZ, aC, aW, aX]; rfl
              refine pure_ (i := 8) (N := some 122) (v := ?_) (a' := ?_) (bm 20 511) rfl rfl (aO HT_ (by kernel_rfl)) (fun _ _ _ h => h) (Or.inl ⟨by rfl, ?_⟩) ?_ ?_; rotate_left; intro w'; go_simp; with_reducible rfl; rotate_left; simp only [aP, aS, aZ, aC, aW, aX]; rfl
              refine pure_ (i := 9) (N := some 123) (v := ?_) (a' := ?_) (bm 20 1023) rfl rfl (aO HT_ (by kernel_rfl)) (fun _ _ _ h => h) (Or.inl ⟨by rfl, ?_⟩) ?_ ?_; rotate_left; intro w'; go_simp; with_reducible rfl; rotate_left; simp only [aP, aS, aZ, aC, aW, aX]; rfl
              refine pure_ (i := 10) (N := some 124) (v := ?_) (a' := ?_) (bm 20 2047) rfl rfl (aO HT_ (by kernel_rfl)) (fun _ _ _ h => h) (Or.inl ⟨by rfl, ?_⟩) ?_ ?_; rotate_left; intro w'; go_simp; with_reducible rfl; rotate_left; simp only [aP, aS, aZ, aC, aW, aX]; rfl
              refine pure_ (i := 11) (N := some 125) (v := ?_) (a' := ?_) (bm 20 4095) rfl rfl (aO HT_ (by kernel_rfl)) (fun _ _ _ h => h) (Or.inl ⟨by rfl, ?_⟩) ?_ ?_; rotate_left; intro w'; go_simp; with_reducible rfl; rotate_left; simp only [aP, aS, aZ, aC, aW, aX]; rfl
              refine pure_ (i := 13) (N := some 127) (v := ?_) (a' := ?_) (bm 20 12287) rfl rfl (aO HT_ (by kernel_rfl)) (fun _ _ _ h => h) (Or.inl ⟨by rfl, ?_⟩) ?_ ?_; rotate_left; intro w'; go_simp; with_reducible rfl; rotate_left; simp only [aP, aS, aZ, aC, aW, aX]; rfl
              refine pure_ (i := 14) (N := some 128) (v := ?_) (a' := ?_) (bm 20 28671) rfl rfl (aO HT_ (by kernel_rfl)) (fun _ _ _ h => h) (Or.inl ⟨by rfl, ?_⟩) ?_ ?_; rotate_left; intro w'; go_simp; with_reducible rfl; rotate_left; simp only [aP, aS, aZ, aC, aW, aX]; rfl
              refine take_ (i := 15) (N := some 129) (v := ?_) (a' := ?_) (bm 20 61439) rfl rfl (take_ofW HT_.out HW_.out (by kernel_rfl)) (fun _ _ _ h => h) (Or.inl ⟨by rfl, ?_⟩) hHeld ?_ ?_; rotate_left; rintro w' ⟨s0, s1, s2, s3, s4, s5, s6, s7, s8, s9, s10, s11, s12, s13, s14, s15, s16, s17, s18⟩; go_simp; with_reducible rfl; rotate_left; simp only [aP, aS, aZ, aC, aW, aX]; rfl
              refine one_ (i := 12) (N := some 126) (bm 20 65535) rfl rfl (one_of HT_.out (by kernel_rfl)) (by decide) (fun K hK => ?_)
              refine goes_ Try.func24 (by kernel_rfl) rfl #[.pointer (some ⟨gp385, 0, none⟩), .int .i64 0] (by rfl) rfl rfl (by (try simp only [List.map_toArray, List.map_cons, List.map_nil]); first | done | rfl | (simp only [List.length_drop, List.length_take]; rfl)) ?_
              with_reducible refine (measure_Para_End.calls gp385 A385_0 c385_0 t387 A385_1 c385_1 t388 A385_2 c385_2 t389 A385_3 c385_3 t390 A385_4 c385_4 t391 A385_5 c385_5 t392 x386006_3 A385_7 c385_7 t394 0 t422 _ ?side1 ?side2 ?side3 ?side4 ?side5 ?side6 ?side7 ?side8 ?side9 ?side10 ?side11 ?side12 ?side13 ?side14 ?side15 A80.out).mono ?_
              (case side1 => (with_reducible repeat first | apply kN | apply kD | apply kA); exact BK385.out)
              (case side2 => repeat (first | exact (Kd.C_below HR385_0.out HB.out) | (with_reducible refine Kd.C_alloc ?_ _) | (with_reducible refine Kd.C_drewN ?_ _) | (with_reducible refine Kd.C_drew ?_)))
              (case side3 => exact HC385_0.out)
              (case side4 => repeat (first | exact (Kd.C_below HR385_1.out HB.out) | (with_reducible refine Kd.C_alloc ?_ _) | (with_reducible refine Kd.C_drewN ?_ _) | (with_reducible refine Kd.C_drew ?_)))
              (case side5 => exact HC385_1.out)
              (case side6 => repeat (first | exact (Kd.C_below HR385_2.out HB.out) | (with_reducible refine Kd.C_alloc ?_ _) | (with_reducible refine Kd.C_drewN ?_ _) | (with_reducible refine Kd.C_drew ?_)))
              (case side7 => exact HC385_2.out)
              (case side8 => repeat (first | exact (Kd.C_below HR385_3.out HB.out) | (with_reducible refine Kd.C_alloc ?_ _) | (with_reducible refine Kd.C_drewN ?_ _) | (with_reducible refine Kd.C_drew ?_)))
              (case side9 => exact HC385_3.out)
              (case side10 => repeat (first | exact (Kd.C_below HR385_4.out HB.out) | (with_reducible refine Kd.C_alloc ?_ _) | (with_reducible refine Kd.C_drewN ?_ _) | (with_reducible refine Kd.C_drew ?_)))
              (case side11 => exact HC385_4.out)
              (case side12 => repeat (first | exact (Kd.C_below HR385_5.out HB.out) | (with_reducible refine Kd.C_alloc ?_ _) | (with_reducible refine Kd.C_drewN ?_ _) | (with_reducible refine Kd.C_drew ?_)))
              (case side13 => exact HC385_5.out)
              (case side14 => repeat (first | exact (Kd.C_below HR385_7.out HB.out) | (with_reducible refine Kd.C_alloc ?_ _) | (with_reducible refine Kd.C_drewN ?_ _) | (with_reducible refine Kd.C_drew ?_)))
              (case side15 => exact HC385_7.out)
              rintro e w84 ⟨rfl, hb⟩
              have HS18_ := (hb.cell (World.block_lt_of_cell? _ _ (hHeld.2.2.2.2.2.2.2.2.2.2.2.2.2.2.2.2.2.2))).trans (hHeld.2.2.2.2.2.2.2.2.2.2.2.2.2.2.2.2.2.2)
              refine ⟨_, rfl, ?_⟩
              have n0_ := Aside0.mk (Kd.R_below (by (with_reducible repeat (first | apply Kd.R_alloc | apply Kd.R_drewN | apply Kd.R_drew)); exact HO_8.out) hb)
              have n1_ := Aside0.mk (blk_below (g := gp385) (o := .cells #[.slice A385_0 t387.length c385_0, .slice A385_1 t388.length c385_1, .slice A385_2 t389.length c385_2, .slice A385_3 t390.length c385_3, .slice A385_4 t391.length c385_4, .slice A385_5 t392.length c385_5, .int .i64 x386006_3, .slice A385_7 t394.length c385_7] 75 (0, 0)) (by (with_reducible repeat first | apply kN | apply kD | apply kA); exact BK385.out) hb)
              have n2_ := Aside0.mk (blk_below (g := gb419) (o := .cells #[.int .i64 t410, .int .i64 t411, .int .i64 t412, .int .i64 t413, .bool t414, .int .i64 t415, .bool t416, .int .i64 t417, .int .i64 t418] 34 (0, 0)) (by (with_reducible repeat first | apply kN | apply kD | apply kA); exact BK419.out) hb)
              have n3_ := Aside0.mk (below_step (by repeat (first | (with_reducible first | exact HB.out | apply bA | apply bN | apply bD | refine below_set ?_ GE385.out | refine below_set ?_ GE419.out) | exact HB.out)) hb)
              clear HO_8; clear BK385; clear BK419; clear HB; have HO_8 := n0_; have BK385 := n1_; have BK419 := n2_; have HB := n3_; clear n0_ n1_ n2_ n3_
              (try clear hb)
              (try clear hb2)
              (try clear hk)
              (try clear hi)
              refine hK.out _ _ ⟨(blk_cell BK419.out 0).trans rfl, (blk_cell BK419.out 1).trans rfl, (blk_cell BK419.out 2).trans rfl, (blk_cell BK419.out 3).trans rfl, (blk_cell BK419.out 4).trans rfl, (blk_cell BK419.out 5).trans rfl, (blk_cell BK419.out 6).trans rfl, (blk_cell BK419.out 7).trans rfl, (blk_cell BK419.out 8).trans rfl, (hb_up HB.out hw421_0), (hb_up HB.out hw421_1), (hb_up HB.out hw421_2), (hb_up HB.out hw421_3), (hb_up HB.out hw421_4), (hb_up HB.out hw421_5), (hb_up HB.out hw421_6), (hb_up HB.out hw421_7), (hb_up HB.out hw421_8), HS18_⟩ (fun hHeld => ?_)
              clear hK K; refine norm_ (a' := ?_) ?_ ?_
              rotate_left
              · show Act.put _ (some 126) _ = _
                simp only [aP, aS, aZ, aC, aW, aX]
                rfl
              refine pure_ (i := 16) (N := some 130) (v := ?_) (a' := ?_) (bm 20 131071) rfl rfl (aO HT_ (by kernel_rfl)) (fun _ _ _ h => h) (Or.inl ⟨by rfl, ?_⟩) ?_ ?_; rotate_left; intro w'; go_simp; with_reducible rfl; rotate_left; simp only [aP, aS, aZ, aC, aW, aX]; rfl
              refine pure_ (i := 17) (N := some 131) (v := ?_) (a' := ?_) (bm 20 262143) rfl rfl (aO HT_ (by kernel_rfl)) (fun _ _ _ h => h) (Or.inl ⟨by rfl, ?_⟩) ?_ ?_; rotate_left; intro w'; go_simp; with_reducible rfl; rotate_left; simp only [aP, aS, aZ, aC, aW, aX]; rfl
              refine pure_ (i := 18) (N := some 132) (v := ?_) (a' := ?_) (bm 20 524287) rfl rfl (aO HT_ (by kernel_rfl)) (fun _ _ _ h => h) (Or.inl ⟨by rfl, ?_⟩) ?_ ?_; rotate_left; intro w'; go_simp; with_reducible rfl; rotate_left; simp only [aP, aS, aZ, aC, aW, aX]; rfl
              refine pure_ (i := 19) (N := some 4) (v := ?_) (a' := ?_) (bm 20 1048575) rfl rfl (aO HT_ (by kernel_rfl)) (fun _ _ _ h => h) (Or.inl ⟨by rfl, ?_⟩) ?_ ?_; rotate_left; intro w'; go_simp; with_reducible rfl; rotate_left; simp only [aP, aS, aZ, aC, aW, aX]; rfl
              refine done_ (done_of HT_.out (by kernel_rfl)) ?_
              try go_wp2
              go_ret
              exact ⟨by first | rfl | (simp [errW_none, errW_some] <;> rfl) | (simp [*, errW_none, errW_some] <;> rfl), below_step HB0.out (by repeat (first | (with_reducible first | exact HB.out | apply bA | apply bN | apply bD | refine below_set ?_ GE385.out | refine below_set ?_ GE419.out) | exact HB.out))⟩

end Go.Proofs.Ytdkmmddakidieaa.P
