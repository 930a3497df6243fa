/- What a line costs, behind any other one: the program's is the reference's. -/
import Derived.Test.YtdkmmddakidieaaPx6
import Derived.Test.YtdkmmddakidieaaPx12
import Derived.Test.YtdkmmddakidieaaPx13
import Derived.Test.YtdkmmddakidieaaPx20
import Derived.Test.YtdkmmddakidieaaPx21
import Derived.Test.YtdkmmddakidieaaMes
import Derived.Test.YtdkmmddakidieaaSc6
import Derived.Test.YtdkmmddakidieaaOpened
namespace Go.Proofs.Ytdkmmddakidieaa.Pure
open Go.RowKit Go.Proofs.YtdkmmddakidieaaW.PrintWords Go.Proofs.YtdkmmddakidieaaW.PrintLast Go.Proofs.YtdkmmddakidieaaW.PrintMore
open Go.Proofs.Ytdkmmddakidieaa.P
open Go.Proofs.Ytdkmmddakidieaa.BadM (clamp)
def costEnd (d adj dbl lst : Int) (apart flag eflag last : Bool) : Int :=
  mn (if (flag && last) = true then addM (if (flag && eflag) = true then addM (if apart = true then addM d adj else d) dbl else (if apart = true then addM d adj else d)) lst else (if (flag && eflag) = true then addM (if apart = true then addM d adj else d) dbl else (if apart = true then addM d adj else d))) 1125899906842624
theorem end_own (d s0 s1 s2 s3 s4 s5 s6 e0 e1 e2 e3 : Int) (e4 : Bool) (e5 : Int) (e6 : Bool) (e7 e8 ah : Int) (apart flag last : Bool) :
    Ev (fun k => measure_Cost.j0 k last d apart s0 s1 s2 s3 s4 s5 s6 e0 e1 e2 e3 e4 e5 e6 e7 e8 ah flag) (costEnd d s2 s3 s4 apart flag e6 last) := by
  cases apart <;> cases flag <;> cases e6 <;> cases last <;>
  repeat (first | exact Ev.some_ rfl | refine Ev.ifp rfl ?_ | refine Ev.ifn (by simp) ?_ | refine Ev.bind (Ev.opt (scaled_Add_eq _ _)) ?_ | refine measure_Cost.j0.ev ?_ | refine measure_Cost.j1.ev ?_ | refine measure_Cost.j2.ev ?_)
theorem end_ref (d s0 s1 s2 s3 s4 s5 s6 e0 e1 e2 e3 : Int) (e4 : Bool) (e5 : Int) (e6 : Bool) (e7 e8 : Int) (apart flag last : Bool) :
    Ev (fun k => regletref08_Cost.j0 k flag last d apart s0 s1 s2 s3 s4 s5 s6 e0 e1 e2 e3 e4 e5 e6 e7 e8) (costEnd d s2 s3 s4 apart flag e6 last) := by
  cases apart <;> cases flag <;> cases e6 <;> cases last <;>
  repeat (first | exact Ev.some_ rfl | refine Ev.ifp rfl ?_ | refine Ev.ifn (by simp) ?_ | refine Ev.bind (Ev.opt (ref_Add_eq _ _)) ?_ | refine regletref08_Cost.j0.ev ?_ | refine regletref08_Cost.j1.ev ?_ | refine regletref08_Cost.j2.ev ?_)
theorem cost_both (s0 s1 s2 s3 s4 s5 s6 f0 f1 f2 f3 : Int) (f4 : Bool) (e0 e1 e2 e3 : Int) (e4 : Bool) (e5 : Int) (e6 : Bool) (e7 e8 ah : Int) (flag last : Bool) (a0 : -1000 ≤ ah) (a1 : ah ≤ 1000) (c0 : -1000 ≤ f3) (c1 : f3 ≤ 1000) :
    ∃ r, Ev (fun k => measure_Cost.f k s0 s1 s2 s3 s4 s5 s6 f0 f1 f2 f3 f4 e0 e1 e2 e3 e4 e5 e6 e7 e8 ah flag last) r ∧ Ev (fun k => regletref08_Cost.f k s0 s1 s2 s3 s4 s5 s6 f0 f1 f2 f3 f4 e0 e1 e2 e3 e4 e5 e6 e7 e8 ah flag last) r := by
  cases f4 with
  | true => exact ⟨1125899906842624, Ev.ifp rfl (Ev.now _), Ev.ifp rfl (Ev.now _)⟩
  | false =>
    obtain ⟨d, d1, d2⟩ := demerits_both s1 f2 e5
    by_cases h : ah ≥ 0
    · refine ⟨costEnd d s2 s3 s4 (decide (f3 - ah > 1 ∨ ah - f3 > 1)) flag e6 last, ?_, ?_⟩
      · have ap : measure_apart.f f3 ah = some (decide (f3 - ah > 1 ∨ ah - f3 > 1)) := by
          unfold measure_apart.f
          rw [w64 (x := f3 - ah) (by omega) (by omega), w64 (x := ah - f3) (by omega) (by omega)]
          by_cases p : f3 - ah > 1
          · rw [if_pos p, decide_eq_true (Or.inl p)]
          · rw [if_neg p, Option.some.injEq, decide_eq_decide]; omega
        exact Ev.ifn (by simp) (Ev.bind d1 (Ev.ifp h (Ev.bind (Ev.opt ap) (end_own ..))))
      · have e1 : addM ah 1 = ah + 1 := by unfold addM clamp; omega
        have e2 : addM f3 1 = f3 + 1 := by unfold addM clamp; omega
        have ad1 : regletref01_Add.f ah 1 = some (ah + 1) := by rw [ref_Add_eq, e1]
        have ad2 : regletref01_Add.f f3 1 = some (f3 + 1) := by rw [ref_Add_eq, e2]
        refine Ev.ifn (by simp) (Ev.bind d2 (Ev.ifp h (Ev.bind (Ev.opt ad1) (Ev.ifc (fun p => ?_) (fun p => Ev.bind (Ev.opt ad2) ?_)))))
        · have e : decide (f3 - ah > 1 ∨ ah - f3 > 1) = true := decide_eq_true (by omega)
          rw [e]; exact end_ref ..
        · have e : decide (f3 - ah > 1 ∨ ah - f3 > 1) = decide (f3 + 1 < ah) := by rw [decide_eq_decide]; omega
          rw [e]; exact end_ref ..
    · exact ⟨costEnd d s2 s3 s4 false flag e6 last, Ev.ifn (by simp) (Ev.bind d1 (Ev.ifn h (end_own ..))), Ev.ifn (by simp) (Ev.bind d2 (Ev.ifn h (end_ref ..)))⟩
theorem MeasureCosts : ∀ (a0 : S26) (a1 : S36) (a2 : Int), ok26 a0 → ok36 a1 → (fun n => (Lit.int .i64 n).wf = true) a2 → ∃ k, regletlaw08_MeasureCosts.f k a0.f0 a0.f1 a0.f2 a0.f3 a0.f4 a0.f5 a0.f6 a1.f0.f0 a1.f0.f1 a1.f0.f2 a1.f0.f3 a1.f0.f4 a1.f1.f0 a1.f1.f1 a1.f1.f2 a1.f1.f3 a1.f1.f4 a1.f1.f5 a1.f1.f6 a1.f1.f7 a1.f1.f8 a1.f2 a1.f3 a2 = some true := by
  intro s w a _ _ _
  have out : ∀ g, g = true → Ev (fun k => regletlaw08_MeasureCosts.j0 k a g s.f0 s.f1 s.f2 s.f3 s.f4 s.f5 s.f6 w.f0.f0 w.f0.f1 w.f0.f2 w.f0.f3 w.f0.f4 w.f1.f0 w.f1.f1 w.f1.f2 w.f1.f3 w.f1.f4 w.f1.f5 w.f1.f6 w.f1.f7 w.f1.f8 w.f2 w.f3) true := fun g hg => regletlaw08_MeasureCosts.j0.ev (Ev.ifp hg (Ev.now _))
  refine Ev.rounds (Ev.bind awake_ev (Ev.ifp rfl (Ev.ifc (fun _ => out _ rfl) (fun h0 => Ev.ifc (fun _ => out _ rfl) (fun h1 => Ev.ifc (fun _ => out _ rfl) (fun h2 => ?_))))))
  by_cases h3 : w.f0.f3 > 1000
  · exact out _ (decide_eq_true h3)
  · obtain ⟨r, o1, o2⟩ := cost_both s.f0 s.f1 s.f2 s.f3 s.f4 s.f5 s.f6 w.f0.f0 w.f0.f1 w.f0.f2 w.f0.f3 w.f0.f4 w.f1.f0 w.f1.f1 w.f1.f2 w.f1.f3 w.f1.f4 w.f1.f5 w.f1.f6 w.f1.f7 w.f1.f8 a w.f2 w.f3 (by omega) (by omega) (by omega) (by omega)
    exact regletlaw08_MeasureCosts.j0.ev (Ev.ifn (by simpa using h3) (Ev.bind o1 (Ev.bind o2 (Ev.some_ (by simp)))))
end Go.Proofs.Ytdkmmddakidieaa.Pure
