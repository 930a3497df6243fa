/- For every input the Go function MetricsSame returns true, and its arguments read as they did: the row, out of the printed contract and the plain law. -/
import Derived.Test.YtepeoiimdefnpaaRows
import Derived.Test.YtepeoiimdefnpaaPureMetricsSame
import Derived.ProofKit
import Derived.ShutString
import Derived.ChangeOld
namespace Go.Proofs.Ytepeoiimdefnpaa.metricsSame
open Go Go.ChangeShapes Go.WideShapes Go.ChangeAt Go.RowKit Go.Proofs.Ytepeoiimdefnpaa.Vm
set_option linter.unusedVariables false
theorem own : ownKnob Try.prog.godebug = none := by kernel_rfl
theorem laidOut : laidOutB Try.prog = true := by kernel_rfl
set_option maxRecDepth 100000 in
theorem opened : OpAll Try.prog [23, 23] [.c false (.row false (.cons (.i .i64) (.cons (.i .i64) (.cons (.i .i64) (.cons (.i .i64) (.cons (.i .i64) (.cons (.i .i64) (.cons (.row false (.cons (.i .i64) (.cons (.i .i64) (.i .i64)))) .b)))))))), .c false (.row false (.cons (.i .i64) (.cons (.i .i64) (.cons (.i .i64) (.cons (.i .i64) (.cons (.i .i64) (.cons (.i .i64) (.cons (.row false (.cons (.i .i64) (.cons (.i .i64) (.i .i64)))) .b))))))))] := ⟨⟨(opT_slice (c := (.cons (.i .i64) (.cons (.i .i64) (.cons (.i .i64) (.cons (.i .i64) (.cons (.i .i64) (.cons (.i .i64) (.cons (.row false (.cons (.i .i64) (.cons (.i .i64) (.i .i64)))) .b)))))))) Try.underlying23 (by kernel_rfl) (by kernel_rfl) (opT_struct (ts := [(0, 3), (1, 3), (2, 3), (3, 3), (4, 3), (5, 3), (6, 25), (7, 4)]) (ty := (.cons (.i .i64) (.cons (.i .i64) (.cons (.i .i64) (.cons (.i .i64) (.cons (.i .i64) (.cons (.i .i64) (.cons (.row false (.cons (.i .i64) (.cons (.i .i64) (.i .i64)))) .b)))))))) Try.underlying27 (by kernel_rfl) (by kernel_rfl) (opF_cons (a := (.i .i64)) (a' := (.cons (.i .i64) (.cons (.i .i64) (.cons (.i .i64) (.cons (.i .i64) (.cons (.i .i64) (.cons (.row false (.cons (.i .i64) (.cons (.i .i64) (.i .i64)))) .b))))))) (by kernel_rfl) (opT_int Try.underlying3) (opF_cons (a := (.i .i64)) (a' := (.cons (.i .i64) (.cons (.i .i64) (.cons (.i .i64) (.cons (.i .i64) (.cons (.row false (.cons (.i .i64) (.cons (.i .i64) (.i .i64)))) .b)))))) (by kernel_rfl) (opT_int Try.underlying3) (opF_cons (a := (.i .i64)) (a' := (.cons (.i .i64) (.cons (.i .i64) (.cons (.i .i64) (.cons (.row false (.cons (.i .i64) (.cons (.i .i64) (.i .i64)))) .b))))) (by kernel_rfl) (opT_int Try.underlying3) (opF_cons (a := (.i .i64)) (a' := (.cons (.i .i64) (.cons (.i .i64) (.cons (.row false (.cons (.i .i64) (.cons (.i .i64) (.i .i64)))) .b)))) (by kernel_rfl) (opT_int Try.underlying3) (opF_cons (a := (.i .i64)) (a' := (.cons (.i .i64) (.cons (.row false (.cons (.i .i64) (.cons (.i .i64) (.i .i64)))) .b))) (by kernel_rfl) (opT_int Try.underlying3) (opF_cons (a := (.i .i64)) (a' := (.cons (.row false (.cons (.i .i64) (.cons (.i .i64) (.i .i64)))) .b)) (by kernel_rfl) (opT_int Try.underlying3) (opF_cons (a := (.row false (.cons (.i .i64) (.cons (.i .i64) (.i .i64))))) (a' := .b) (by kernel_rfl) (opT_slice (c := (.cons (.i .i64) (.cons (.i .i64) (.i .i64)))) Try.underlying25 (by kernel_rfl) (by kernel_rfl) (opT_struct (ts := [(0, 3), (1, 3), (2, 3)]) (ty := (.cons (.i .i64) (.cons (.i .i64) (.i .i64)))) Try.underlying43 (by kernel_rfl) (by kernel_rfl) (opF_cons (a := (.i .i64)) (a' := (.cons (.i .i64) (.i .i64))) (by kernel_rfl) (opT_int Try.underlying3) (opF_cons (a := (.i .i64)) (a' := (.i .i64)) (by kernel_rfl) (opT_int Try.underlying3) (opF_one (ty := (.i .i64)) (by kernel_rfl) (opT_int Try.underlying3)))))) (opF_one (ty := .b) (by kernel_rfl) (opT_bool Try.underlying4))))))))))), by kernel_rfl, rfl⟩, ⟨⟨(opT_slice (c := (.cons (.i .i64) (.cons (.i .i64) (.cons (.i .i64) (.cons (.i .i64) (.cons (.i .i64) (.cons (.i .i64) (.cons (.row false (.cons (.i .i64) (.cons (.i .i64) (.i .i64)))) .b)))))))) Try.underlying23 (by kernel_rfl) (by kernel_rfl) (opT_struct (ts := [(0, 3), (1, 3), (2, 3), (3, 3), (4, 3), (5, 3), (6, 25), (7, 4)]) (ty := (.cons (.i .i64) (.cons (.i .i64) (.cons (.i .i64) (.cons (.i .i64) (.cons (.i .i64) (.cons (.i .i64) (.cons (.row false (.cons (.i .i64) (.cons (.i .i64) (.i .i64)))) .b)))))))) Try.underlying27 (by kernel_rfl) (by kernel_rfl) (opF_cons (a := (.i .i64)) (a' := (.cons (.i .i64) (.cons (.i .i64) (.cons (.i .i64) (.cons (.i .i64) (.cons (.i .i64) (.cons (.row false (.cons (.i .i64) (.cons (.i .i64) (.i .i64)))) .b))))))) (by kernel_rfl) (opT_int Try.underlying3) (opF_cons (a := (.i .i64)) (a' := (.cons (.i .i64) (.cons (.i .i64) (.cons (.i .i64) (.cons (.i .i64) (.cons (.row false (.cons (.i .i64) (.cons (.i .i64) (.i .i64)))) .b)))))) (by kernel_rfl) (opT_int Try.underlying3) (opF_cons (a := (.i .i64)) (a' := (.cons (.i .i64) (.cons (.i .i64) (.cons (.i .i64) (.cons (.row false (.cons (.i .i64) (.cons (.i .i64) (.i .i64)))) .b))))) (by kernel_rfl) (opT_int Try.underlying3) (opF_cons (a := (.i .i64)) (a' := (.cons (.i .i64) (.cons (.i .i64) (.cons (.row false (.cons (.i .i64) (.cons (.i .i64) (.i .i64)))) .b)))) (by kernel_rfl) (opT_int Try.underlying3) (opF_cons (a := (.i .i64)) (a' := (.cons (.i .i64) (.cons (.row false (.cons (.i .i64) (.cons (.i .i64) (.i .i64)))) .b))) (by kernel_rfl) (opT_int Try.underlying3) (opF_cons (a := (.i .i64)) (a' := (.cons (.row false (.cons (.i .i64) (.cons (.i .i64) (.i .i64)))) .b)) (by kernel_rfl) (opT_int Try.underlying3) (opF_cons (a := (.row false (.cons (.i .i64) (.cons (.i .i64) (.i .i64))))) (a' := .b) (by kernel_rfl) (opT_slice (c := (.cons (.i .i64) (.cons (.i .i64) (.i .i64)))) Try.underlying25 (by kernel_rfl) (by kernel_rfl) (opT_struct (ts := [(0, 3), (1, 3), (2, 3)]) (ty := (.cons (.i .i64) (.cons (.i .i64) (.i .i64)))) Try.underlying43 (by kernel_rfl) (by kernel_rfl) (opF_cons (a := (.i .i64)) (a' := (.cons (.i .i64) (.i .i64))) (by kernel_rfl) (opT_int Try.underlying3) (opF_cons (a := (.i .i64)) (a' := (.i .i64)) (by kernel_rfl) (opT_int Try.underlying3) (opF_one (ty := (.i .i64)) (by kernel_rfl) (opT_int Try.underlying3)))))) (opF_one (ty := .b) (by kernel_rfl) (opT_bool Try.underlying4))))))))))), by kernel_rfl, rfl⟩, trivial⟩⟩
set_option maxRecDepth 100000 in
set_option maxHeartbeats 1000000 in
theorem lifted (os : Os) (started : os.Started) (H : Type) (enc : TypeId × Value → H) :
    ReturnsInHanded {} Try.checked os 5 .any (Rows.metricsSameSpec.pre6 enc Try.prog Try.f5 Rows.metricsSameRow.domain false) (Rows.metricsSameSpec.post enc Try.prog Try.f5 false true false false) := by
  refine returnsInHanded_of_change_sized (C := Try.checked) own started (by kernel_rfl) Try.func5
    (ChangeSpec.witness6 (enc := enc) (C := Try.checked) false ⟨#[], #[.slice none 0 0, .slice none 0 0], []⟩ 8 (by kernel_rfl) (by kernel_rfl) (by kernel_rfl) (by kernel_rfl)) ?_
  intro W base args ds gs before hval0 hW hcnd hsz0 _
  have hsz : (DataW.weightsEach Try.prog (Try.f5.params.toList ++ Rows.metricsSameSpec.plain.varTypes Try.prog) (ds ++ gs)).all (· ≤ reachBytes) = true := hsz0
  have hW' := hW
  obtain ⟨p, q, hA0, hV, rfl, hfz, hnd⟩ := hW
  obtain ⟨rfl, rfl⟩ := trodVars_none hV
  have hA : DataW.TrodAll enc Try.prog W 0 (fun _ => true) true [23, 23] args.toList ds p := by have e := hA0; rw [Try.params5] at e; exact e
  have hz1 : (DataW.weightsEach Try.prog [23, 23] ds).all (· ≤ reachBytes) = true := by have e := hsz; rw [Try.params5, List.append_nil] at e; exact e
  have hz : ∀ k ∈ DataW.weightsEach Try.prog [23, 23] ds, k ≤ 140737488351232 := fun k hk => of_decide_eq_true (List.all_eq_true.1 hz1 k hk)
  obtain ⟨x, hx, okx⟩ := args_open opened hA (fun j t v ht hv => hval0 j t v (by rw [← Array.getElem?_toList, Try.params5]; exact ht) (by rw [← Array.getElem?_toList]; exact hv)) hz
  obtain ⟨k, h⟩ := Pure.MetricsSame x.1 x.2.1 okx.1 okx.2.1
  have hA1 := hA
  have hA2 := hA
  obtain ⟨v0, vs0, d0, ds0, p0, q0, hargs0, rfl, rfl, h0, r0⟩ := trodAll_cons hA2
  obtain ⟨v1, vs1, d1, ds1, p1, q1, hargs1, rfl, rfl, h1, r1⟩ := trodAll_cons r0
  obtain ⟨rfl, rfl, rfl⟩ := trodAll_nil r1
  have hc := law_calls (regletlaw04_MetricsSame.ok k).1 h hx
  rw [Array.toArray_toList] at hc
  refine hc.mono fun e W' ⟨he, bel⟩ => ?_
  subst he
  exact ⟨_, rfl, _, _, _, [], _, [], hW', trodAll_mk1 (shut_bool Try.underlying4 _), args_stay laidOut bel (ts := [23, 23]) (fun t ht => by simp at ht; first | (rcases ht with rfl | rfl <;> exact ⟨by kernel_rfl, of_decide_eq_true (by kernel_rfl)⟩)) hA1, rfl, bel.frame _, fun h => by cases h⟩
theorem over : Rows.metricsSameRow.holds Try.pinned (OpenSpec.ofChange Rows.metricsSameSpec) :=
  OpenClaim.holds_of_wide 5 Try.f5 rfl rfl rfl rfl rfl rfl rfl ⟨rfl, rfl, rfl, rfl, rfl⟩ rfl rfl rfl rfl rfl (by kernel_rfl) Try.func5 (by kernel_rfl)
    (of_decide_eq_true (by kernel_rfl)) (by unfold Func.isWrapper; first | (rw [if_pos (by decide +kernel)]; kernel_rfl) | (rw [if_neg (by decide +kernel)]; exact ⟨rfl, rfl⟩))
    (fun os started H enc _ => lifted os started H enc)
theorem proved : Rows.MetricsSameSaid := over
#print axioms proved
end Go.Proofs.Ytepeoiimdefnpaa.metricsSame
namespace Go.Proofs.Ytepeoiimdefnpaa
/-- The row, under a short name, for the claim. -/
theorem metricsSame_holds : Rows.MetricsSameSaid := metricsSame.proved
end Go.Proofs.Ytepeoiimdefnpaa
