/- For every input the Go function LinesWide returns true, and its arguments read as they did: the row, out of the printed contract and the plain law. -/
import Derived.Test.YtjbobaeggdafpaaGreatRows
import Derived.Test.YtjbobaeggdafpaaGreatPureLinesWide
import Derived.ProofKit
import Derived.ShutString
import Derived.ChangeOld
namespace Go.Proofs.YtjbobaeggdafpaaGreat.linesWide
open Go Go.ChangeShapes Go.WideShapes Go.ChangeAt Go.RowKit Go.Proofs.YtjbobaeggdafpaaGreat.Vm
set_option linter.unusedVariables false
theorem own : ownKnob Tryz.prog.godebug = none := by kernel_rfl
theorem laidOut : laidOutB Tryz.prog = true := by kernel_rfl
set_option maxRecDepth 100000 in
theorem opened : OpAll Tryz.prog [22, 27] [(false, (.row false (.cons (.i .i64) (.cons (.i .i64) (.cons (.i .i64) (.cons (.i .i64) (.cons (.i .i64) (.cons (.i .i64) (.cons (.row false (.cons (.i .i64) (.cons (.i .i64) (.i .i64)))) .b))))))))), (true, (.cons .s (.cons (.row false (.cons (.i .i64) (.i .i64))) (.cons (.i .i64) (.cons (.i .i64) (.cons (.i .i64) (.cons (.i .i64) (.cons (.i .i64) (.cons (.i .i64) (.cons (.i .i64) (.i .i64)))))))))))] := ⟨⟨(opT_slice (c := (.cons (.i .i64) (.cons (.i .i64) (.cons (.i .i64) (.cons (.i .i64) (.cons (.i .i64) (.cons (.i .i64) (.cons (.row false (.cons (.i .i64) (.cons (.i .i64) (.i .i64)))) .b)))))))) Tryz.underlying22 (by kernel_rfl) (by kernel_rfl) (opT_struct (ts := [(0, 3), (1, 3), (2, 3), (3, 3), (4, 3), (5, 3), (6, 66), (7, 4)]) (ty := (.cons (.i .i64) (.cons (.i .i64) (.cons (.i .i64) (.cons (.i .i64) (.cons (.i .i64) (.cons (.i .i64) (.cons (.row false (.cons (.i .i64) (.cons (.i .i64) (.i .i64)))) .b)))))))) Tryz.underlying68 (by kernel_rfl) (by kernel_rfl) (opF_cons (a := (.i .i64)) (a' := (.cons (.i .i64) (.cons (.i .i64) (.cons (.i .i64) (.cons (.i .i64) (.cons (.i .i64) (.cons (.row false (.cons (.i .i64) (.cons (.i .i64) (.i .i64)))) .b))))))) (by kernel_rfl) (opT_int Tryz.underlying3) (opF_cons (a := (.i .i64)) (a' := (.cons (.i .i64) (.cons (.i .i64) (.cons (.i .i64) (.cons (.i .i64) (.cons (.row false (.cons (.i .i64) (.cons (.i .i64) (.i .i64)))) .b)))))) (by kernel_rfl) (opT_int Tryz.underlying3) (opF_cons (a := (.i .i64)) (a' := (.cons (.i .i64) (.cons (.i .i64) (.cons (.i .i64) (.cons (.row false (.cons (.i .i64) (.cons (.i .i64) (.i .i64)))) .b))))) (by kernel_rfl) (opT_int Tryz.underlying3) (opF_cons (a := (.i .i64)) (a' := (.cons (.i .i64) (.cons (.i .i64) (.cons (.row false (.cons (.i .i64) (.cons (.i .i64) (.i .i64)))) .b)))) (by kernel_rfl) (opT_int Tryz.underlying3) (opF_cons (a := (.i .i64)) (a' := (.cons (.i .i64) (.cons (.row false (.cons (.i .i64) (.cons (.i .i64) (.i .i64)))) .b))) (by kernel_rfl) (opT_int Tryz.underlying3) (opF_cons (a := (.i .i64)) (a' := (.cons (.row false (.cons (.i .i64) (.cons (.i .i64) (.i .i64)))) .b)) (by kernel_rfl) (opT_int Tryz.underlying3) (opF_cons (a := (.row false (.cons (.i .i64) (.cons (.i .i64) (.i .i64))))) (a' := .b) (by kernel_rfl) (opT_slice (c := (.cons (.i .i64) (.cons (.i .i64) (.i .i64)))) Tryz.underlying66 (by kernel_rfl) (by kernel_rfl) (opT_struct (ts := [(0, 3), (1, 3), (2, 3)]) (ty := (.cons (.i .i64) (.cons (.i .i64) (.i .i64)))) Tryz.underlying137 (by kernel_rfl) (by kernel_rfl) (opF_cons (a := (.i .i64)) (a' := (.cons (.i .i64) (.i .i64))) (by kernel_rfl) (opT_int Tryz.underlying3) (opF_cons (a := (.i .i64)) (a' := (.i .i64)) (by kernel_rfl) (opT_int Tryz.underlying3) (opF_one (ty := (.i .i64)) (by kernel_rfl) (opT_int Tryz.underlying3)))))) (opF_one (ty := .b) (by kernel_rfl) (opT_bool Tryz.underlying4))))))))))), by kernel_rfl, rfl⟩, ⟨⟨(opT_struct (ts := [(0, 9), (1, 23), (2, 3), (3, 25)]) (ty := (.cons .s (.cons (.row false (.cons (.i .i64) (.i .i64))) (.cons (.i .i64) (.cons (.i .i64) (.cons (.i .i64) (.cons (.i .i64) (.cons (.i .i64) (.cons (.i .i64) (.cons (.i .i64) (.i .i64))))))))))) Tryz.underlying27 (by kernel_rfl) (by kernel_rfl) (opF_cons (a := .s) (a' := (.cons (.row false (.cons (.i .i64) (.i .i64))) (.cons (.i .i64) (.cons (.i .i64) (.cons (.i .i64) (.cons (.i .i64) (.cons (.i .i64) (.cons (.i .i64) (.cons (.i .i64) (.i .i64)))))))))) (by kernel_rfl) (opT_string Tryz.underlying9) (opF_cons (a := (.row false (.cons (.i .i64) (.i .i64)))) (a' := (.cons (.i .i64) (.cons (.i .i64) (.cons (.i .i64) (.cons (.i .i64) (.cons (.i .i64) (.cons (.i .i64) (.cons (.i .i64) (.i .i64))))))))) (by kernel_rfl) (opT_slice (c := (.cons (.i .i64) (.i .i64))) Tryz.underlying23 (by kernel_rfl) (by kernel_rfl) (opT_struct (ts := [(0, 3), (1, 3)]) (ty := (.cons (.i .i64) (.i .i64))) Tryz.underlying70 (by kernel_rfl) (by kernel_rfl) (opF_cons (a := (.i .i64)) (a' := (.i .i64)) (by kernel_rfl) (opT_int Tryz.underlying3) (opF_one (ty := (.i .i64)) (by kernel_rfl) (opT_int Tryz.underlying3))))) (opF_cons (a := (.i .i64)) (a' := (.cons (.i .i64) (.cons (.i .i64) (.cons (.i .i64) (.cons (.i .i64) (.cons (.i .i64) (.cons (.i .i64) (.i .i64)))))))) (by kernel_rfl) (opT_int Tryz.underlying3) (opF_one (ty := (.cons (.i .i64) (.cons (.i .i64) (.cons (.i .i64) (.cons (.i .i64) (.cons (.i .i64) (.cons (.i .i64) (.i .i64)))))))) (by kernel_rfl) (opT_struct (ts := [(0, 3), (1, 3), (2, 3), (3, 3), (4, 3), (5, 3), (6, 3)]) (ty := (.cons (.i .i64) (.cons (.i .i64) (.cons (.i .i64) (.cons (.i .i64) (.cons (.i .i64) (.cons (.i .i64) (.i .i64)))))))) Tryz.underlying25 (by kernel_rfl) (by kernel_rfl) (opF_cons (a := (.i .i64)) (a' := (.cons (.i .i64) (.cons (.i .i64) (.cons (.i .i64) (.cons (.i .i64) (.cons (.i .i64) (.i .i64))))))) (by kernel_rfl) (opT_int Tryz.underlying3) (opF_cons (a := (.i .i64)) (a' := (.cons (.i .i64) (.cons (.i .i64) (.cons (.i .i64) (.cons (.i .i64) (.i .i64)))))) (by kernel_rfl) (opT_int Tryz.underlying3) (opF_cons (a := (.i .i64)) (a' := (.cons (.i .i64) (.cons (.i .i64) (.cons (.i .i64) (.i .i64))))) (by kernel_rfl) (opT_int Tryz.underlying3) (opF_cons (a := (.i .i64)) (a' := (.cons (.i .i64) (.cons (.i .i64) (.i .i64)))) (by kernel_rfl) (opT_int Tryz.underlying3) (opF_cons (a := (.i .i64)) (a' := (.cons (.i .i64) (.i .i64))) (by kernel_rfl) (opT_int Tryz.underlying3) (opF_cons (a := (.i .i64)) (a' := (.i .i64)) (by kernel_rfl) (opT_int Tryz.underlying3) (opF_one (ty := (.i .i64)) (by kernel_rfl) (opT_int Tryz.underlying3)))))))))))))), by kernel_rfl, rfl⟩, trivial⟩⟩
set_option maxRecDepth 100000 in
set_option maxHeartbeats 1000000 in
theorem lifted (os : Os) (started : os.Started) (H : Type) (enc : TypeId × Value → H) :
 ReturnsInHanded {} Tryz.checked os 4 .any (Rows.linesWideSpec.pre6 enc Tryz.prog Tryz.f4 Rows.linesWideRow.domain false) (Rows.linesWideSpec.post enc Tryz.prog Tryz.f4 false true false false) := by
 refine returnsInHanded_of_change_sized (C := Tryz.checked) own started (by kernel_rfl) Tryz.func4
  (ChangeSpec.witness6 (enc := enc) (C := Tryz.checked) false ⟨#[], #[.slice none 0 0, (.agg #[.string ByteArray.empty, .slice none 0 0, .int .i64 0, .int .i64 0, .int .i64 0, .int .i64 0, .int .i64 0, .int .i64 0, .int .i64 0, .int .i64 0])], []⟩ 8 (by kernel_rfl) (by kernel_rfl) (by kernel_rfl) (by kernel_rfl)) ?_
 intro W base args ds gs before hval0 hW hcnd hsz0 _
 have hsz : (DataW.weightsEach Tryz.prog (Tryz.f4.params.toList ++ Rows.linesWideSpec.plain.varTypes Tryz.prog) (ds ++ gs)).all (· ≤ reachBytes) = true := hsz0
 have hW' := hW
 obtain ⟨p, q, hA0, hV, rfl, hfz, hnd⟩ := hW
 obtain ⟨rfl, rfl⟩ := trodVars_none hV
 have hA : DataW.TrodAll enc Tryz.prog W 0 (fun _ => true) true [22, 27] args.toList ds p := by have e := hA0; rw [Tryz.params4] at e; exact e
 have hz1 : (DataW.weightsEach Tryz.prog [22, 27] ds).all (· ≤ reachBytes) = true := by have e := hsz; rw [Tryz.params4, List.append_nil] at e; exact e
 have hz : ∀ k ∈ DataW.weightsEach Tryz.prog [22, 27] ds, k ≤ 140737488351232 := fun k hk => of_decide_eq_true (List.all_eq_true.1 hz1 k hk)
 obtain ⟨x, hx, okx⟩ := args_open opened hA (fun j t v ht hv => hval0 j t v (by rw [← Array.getElem?_toList, Tryz.params4]; exact ht) (by rw [← Array.getElem?_toList]; exact hv)) hz
 obtain ⟨k, h⟩ := Pure.LinesWide x.1 x.2.1 okx.1 okx.2.1
 have hA1 := hA
 have hA2 := hA
 obtain ⟨v0, vs0, d0, ds0, p0, q0, hargs0, rfl, rfl, h0, r0⟩ := trodAll_cons hA2
 obtain ⟨v1, vs1, d1, ds1, p1, q1, hargs1, rfl, rfl, h1, r1⟩ := trodAll_cons r0
 obtain ⟨rfl, rfl, rfl⟩ := trodAll_nil r1
 have hc := law_calls (regletlaw10_LinesWide.ok k).1 h hx
 rw [Array.toArray_toList] at hc
 refine hc.mono fun e W' ⟨he, bel⟩ => ?_
 subst he
 exact ⟨_, rfl, _, _, _, [], _, [], hW', trodAll_mk1 (shut_bool Tryz.underlying4 _), args_stay laidOut bel (ts := [22, 27]) (fun t ht => by simp at ht; first | (rcases ht with rfl | rfl <;> exact ⟨by kernel_rfl, of_decide_eq_true (by kernel_rfl)⟩)) hA1, rfl, bel.frame _, fun h => by cases h⟩
theorem over : Rows.linesWideRow.holds Tryz.pinned (OpenSpec.ofChange Rows.linesWideSpec) :=
 OpenClaim.holds_of_wide 4 Tryz.f4 rfl rfl rfl rfl rfl rfl rfl ⟨rfl, rfl, rfl, rfl, rfl⟩ rfl rfl rfl rfl rfl (by kernel_rfl) Tryz.func4 (by kernel_rfl)
  (of_decide_eq_true (by kernel_rfl)) (by unfold Func.isWrapper; first | (rw [if_pos (by decide +kernel)]; kernel_rfl) | (rw [if_neg (by decide +kernel)]; exact ⟨rfl, rfl⟩))
  (fun os started H enc _ => lifted os started H enc)
theorem proved : Rows.LinesWideSaid := over
#print axioms proved
end Go.Proofs.YtjbobaeggdafpaaGreat.linesWide
namespace Go.Proofs.YtjbobaeggdafpaaGreat
theorem linesWide_holds : Rows.LinesWideSaid := linesWide.proved
end Go.Proofs.YtjbobaeggdafpaaGreat
