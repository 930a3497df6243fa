import Derived.Test.YtknlneeglkchmaaPx0
import Derived.Test.YtknlneeglkchmaaOpens
namespace Go.Proofs.Ytknlneeglkchmaa.P
open Go.RowKit Go.Proofs.YtknlneeglkchmaaW.PrintWords Go.Proofs.YtknlneeglkchmaaW.PrintLast
open Go.Proofs.Ytknlneeglkchmaa.KdOpen
set_option linter.unusedVariables false
def OkList {α : Type} (B : Nat) (ok : α → Prop) (l : List α) : Prop := l.length * B ≤ 140737488351232 ∧ l.length ≤ maxLen ∧ ∀ y ∈ l, ok y
def ok42 (x : S42) : Prop := (fun n => (Lit.int .i64 n).wf = true) x.f0 ∧ (fun n => (Lit.int .i64 n).wf = true) x.f1 ∧ (fun n => (Lit.int .i64 n).wf = true) x.f2 ∧ (fun _ => True) x.f3
theorem opens42 : Opens Try.prog 42 k42 ok42 := opens_struct Try.underlying42 (by kernel_rfl) (by kernel_rfl) (f := fun x : S42 => (x.f0, x.f1, x.f2, x.f3)) (g := fun y => (⟨y.1, y.2.1, y.2.2.1, y.2.2.2⟩ : S42)) (fun _ => rfl) (opensFs_cons (by kernel_rfl) (opens_int Try.underlying3) (opensFs_cons (by kernel_rfl) (opens_int Try.underlying3) (opensFs_cons (by kernel_rfl) (opens_int Try.underlying3) (opensFs_one (by kernel_rfl) (opens_bool Try.underlying4)))))
def ok24 (x : S24) : Prop := (fun n => (Lit.int .i64 n).wf = true) x.f0 ∧ (fun n => (Lit.int .i64 n).wf = true) x.f1 ∧ (fun n => (Lit.int .i64 n).wf = true) x.f2 ∧ (fun n => (Lit.int .i64 n).wf = true) x.f3 ∧ (fun n => (Lit.int .i64 n).wf = true) x.f4 ∧ (fun n => (Lit.int .i64 n).wf = true) x.f5 ∧ (fun n => (Lit.int .i64 n).wf = true) x.f6
theorem opens24 : Opens Try.prog 24 k24 ok24 := opens_struct Try.underlying24 (by kernel_rfl) (by kernel_rfl) (f := fun x : S24 => (x.f0, x.f1, x.f2, x.f3, x.f4, x.f5, x.f6)) (g := fun y => (⟨y.1, y.2.1, y.2.2.1, y.2.2.2.1, y.2.2.2.2.1, y.2.2.2.2.2.1, y.2.2.2.2.2.2⟩ : S24)) (fun _ => rfl) (opensFs_cons (by kernel_rfl) (opens_int Try.underlying3) (opensFs_cons (by kernel_rfl) (opens_int Try.underlying3) (opensFs_cons (by kernel_rfl) (opens_int Try.underlying3) (opensFs_cons (by kernel_rfl) (opens_int Try.underlying3) (opensFs_cons (by kernel_rfl) (opens_int Try.underlying3) (opensFs_cons (by kernel_rfl) (opens_int Try.underlying3) (opensFs_one (by kernel_rfl) (opens_int Try.underlying3))))))))
def ok37 (x : S37) : Prop := (fun n => (Lit.int .i64 n).wf = true) x.f0 ∧ (fun n => (Lit.int .i64 n).wf = true) x.f1
theorem opens37 : Opens Try.prog 37 k37 ok37 := opens_array Try.underlying37 (by kernel_rfl) (by kernel_rfl) (f := fun x : S37 => (x.f0, x.f1)) (g := fun y => (⟨y.1, y.2⟩ : S37)) (fun _ => rfl) (opensFs_cons (by kernel_rfl) (opens_int Try.underlying3) (opensFs_one (by kernel_rfl) (opens_int Try.underlying3)))
end Go.Proofs.Ytknlneeglkchmaa.P
