/- For every input the Go function MetricsPlain returns true, and its arguments read as they did: the row, out of the printed contract and the plain law. -/
import Derived.Test.YtepeoiimdefnpaaRows
import Derived.Test.YtepeoiimdefnpaaPureMetricsPlain
import Derived.ProofKit
import Derived.ShutString
import Derived.ChangeOld
namespace Go.Proofs.Ytepeoiimdefnpaa.metricsPlain
open Go Go.ChangeShapes Go.WideShapes Go.ChangeAt Go.RowKit Go.Proofs.Ytepeoiimdefnpaa.Vm
set_option linter.unusedVariables false
theorem own : ownKnob Try.prog.godebug = none := by kernel_rfl
theorem laidOut : laidOutB Try.prog = true := by kernel_rfl
set_option maxRecDepth 100000 in
theorem opened : OpAll Try.prog [3, 3] [(false, (.i .i64)), (false, (.i .i64))] := ⟨⟨(opT_int Try.underlying3), by kernel_rfl, rfl⟩, ⟨⟨(opT_int Try.underlying3), by kernel_rfl, rfl⟩, trivial⟩⟩
set_option maxRecDepth 100000 in
set_option maxHeartbeats 1000000 in
theorem lifted (os : Os) (started : os.Started) (H : Type) (enc : TypeId × Value → H) :
    ReturnsInHanded {} Try.checked os 3 .any (Rows.metricsPlainSpec.pre6 enc Try.prog Try.f3 Rows.metricsPlainRow.domain false) (Rows.metricsPlainSpec.post enc Try.prog Try.f3 false true false false) := by
  refine returnsInHanded_of_change_sized (C := Try.checked) own started (by kernel_rfl) Try.func3
    (ChangeSpec.witness6 (enc := enc) (C := Try.checked) false ⟨#[], #[.int .i64 0, .int .i64 0], []⟩ 8 (by kernel_rfl) (by kernel_rfl) (by kernel_rfl) (by kernel_rfl)) ?_
  intro W base args ds gs before hval0 hW hcnd hsz0 _
  have hsz : (DataW.weightsEach Try.prog (Try.f3.params.toList ++ Rows.metricsPlainSpec.plain.varTypes Try.prog) (ds ++ gs)).all (· ≤ reachBytes) = true := hsz0
  have hW' := hW
  obtain ⟨p, q, hA0, hV, rfl, hfz, hnd⟩ := hW
  obtain ⟨rfl, rfl⟩ := trodVars_none hV
  have hA : DataW.TrodAll enc Try.prog W 0 (fun _ => true) true [3, 3] args.toList ds p := by have e := hA0; rw [Try.params3] at e; exact e
  have hz1 : (DataW.weightsEach Try.prog [3, 3] ds).all (· ≤ reachBytes) = true := by have e := hsz; rw [Try.params3, List.append_nil] at e; exact e
  have hz : ∀ k ∈ DataW.weightsEach Try.prog [3, 3] ds, k ≤ 140737488351232 := fun k hk => of_decide_eq_true (List.all_eq_true.1 hz1 k hk)
  obtain ⟨x, hx, okx⟩ := args_open opened hA (fun j t v ht hv => hval0 j t v (by rw [← Array.getElem?_toList, Try.params3]; exact ht) (by rw [← Array.getElem?_toList]; exact hv)) hz
  obtain ⟨k, h⟩ := Pure.MetricsPlain x.1 x.2.1 okx.1 okx.2.1
  have hA1 := hA
  have hA2 := hA
  obtain ⟨v0, vs0, d0, ds0, p0, q0, hargs0, rfl, rfl, h0, r0⟩ := trodAll_cons hA2
  obtain ⟨v1, vs1, d1, ds1, p1, q1, hargs1, rfl, rfl, h1, r1⟩ := trodAll_cons r0
  obtain ⟨rfl, rfl, rfl⟩ := trodAll_nil r1
  have hc := law_calls (regletlaw04_MetricsPlain.ok k) h hx
  rw [Array.toArray_toList] at hc
  refine hc.mono fun e W' ⟨he, bel⟩ => ?_
  subst he
  exact ⟨_, rfl, _, _, _, [], _, [], hW', trodAll_mk1 (shut_bool Try.underlying4 _), args_stay laidOut bel (ts := [3, 3]) (fun t ht => by simp at ht; first | (rcases ht with rfl | rfl <;> exact ⟨by kernel_rfl, of_decide_eq_true (by kernel_rfl)⟩)) hA1, rfl, bel.frame _, fun h => by cases h⟩
theorem over : Rows.metricsPlainRow.holds Try.pinned (OpenSpec.ofChange Rows.metricsPlainSpec) :=
  OpenClaim.holds_of_wide 3 Try.f3 rfl rfl rfl rfl rfl rfl rfl ⟨rfl, rfl, rfl, rfl, rfl⟩ rfl rfl rfl rfl rfl (by kernel_rfl) Try.func3 (by kernel_rfl)
    (of_decide_eq_true (by kernel_rfl)) (by unfold Func.isWrapper; first | (rw [if_pos (by decide +kernel)]; kernel_rfl) | (rw [if_neg (by decide +kernel)]; exact ⟨rfl, rfl⟩))
    (fun os started H enc _ => lifted os started H enc)
theorem proved : Rows.MetricsPlainSaid := over
#print axioms proved
end Go.Proofs.Ytepeoiimdefnpaa.metricsPlain
namespace Go.Proofs.Ytepeoiimdefnpaa
/-- The row, under a short name, for the claim. -/
theorem metricsPlain_holds : Rows.MetricsPlainSaid := metricsPlain.proved
end Go.Proofs.Ytepeoiimdefnpaa
