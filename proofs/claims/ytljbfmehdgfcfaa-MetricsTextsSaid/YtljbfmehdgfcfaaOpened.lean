import Derived.Test.YtljbfmehdgfcfaaPx0
import Derived.Test.YtljbfmehdgfcfaaOpens
namespace Go.Proofs.Ytljbfmehdgfcfaa.P
open Go.RowKit Go.Proofs.YtljbfmehdgfcfaaW.PrintWords Go.Proofs.YtljbfmehdgfcfaaW.PrintLast
open Go.Proofs.Ytljbfmehdgfcfaa.KdOpen
set_option linter.unusedVariables false
def OkList {α : Type} (B : Nat) (ok : α → Prop) (l : List α) : Prop := l.length * B ≤ 140737488351232 ∧ l.length ≤ maxLen ∧ ∀ y ∈ l, ok y
def ok61 (x : S61) : Prop := (fun n => (Lit.int .i64 n).wf = true) x.f0 ∧ (fun n => (Lit.int .i64 n).wf = true) x.f1 ∧ (fun n => (Lit.int .i64 n).wf = true) x.f2
theorem opens61 : Opens Try.prog 61 k61 ok61 := opens_struct Try.underlying61 (by kernel_rfl) (by kernel_rfl) (f := fun x : S61 => (x.f0, x.f1, x.f2)) (g := fun y => (⟨y.1, y.2.1, y.2.2⟩ : S61)) (fun _ => rfl) (opensFs_cons (by kernel_rfl) (opens_int Try.underlying3) (opensFs_cons (by kernel_rfl) (opens_int Try.underlying3) (opensFs_one (by kernel_rfl) (opens_int Try.underlying3))))
def ok46 (x : S46) : Prop := (fun n => (Lit.int .i64 n).wf = true) x.f0 ∧ (fun n => (Lit.int .i64 n).wf = true) x.f1 ∧ (fun n => (Lit.int .i64 n).wf = true) x.f2 ∧ (fun n => (Lit.int .i64 n).wf = true) x.f3 ∧ (fun n => (Lit.int .i64 n).wf = true) x.f4 ∧ (fun n => (Lit.int .i64 n).wf = true) x.f5 ∧ (OkList 24 ok61) x.f6 ∧ (fun _ => True) x.f7
theorem opens46 : Opens Try.prog 46 k46 ok46 := opens_struct Try.underlying46 (by kernel_rfl) (by kernel_rfl) (f := fun x : S46 => (x.f0, x.f1, x.f2, x.f3, x.f4, x.f5, x.f6, x.f7)) (g := fun y => (⟨y.1, y.2.1, y.2.2.1, y.2.2.2.1, y.2.2.2.2.1, y.2.2.2.2.2.1, y.2.2.2.2.2.2.1, y.2.2.2.2.2.2.2⟩ : S46)) (fun _ => rfl) (opensFs_cons (by kernel_rfl) (opens_int Try.underlying3) (opensFs_cons (by kernel_rfl) (opens_int Try.underlying3) (opensFs_cons (by kernel_rfl) (opens_int Try.underlying3) (opensFs_cons (by kernel_rfl) (opens_int Try.underlying3) (opensFs_cons (by kernel_rfl) (opens_int Try.underlying3) (opensFs_cons (by kernel_rfl) (opens_int Try.underlying3) (opensFs_cons (by kernel_rfl) (opens_slice Try.underlying44 (by kernel_rfl) (by kernel_rfl) opens61) (opensFs_one (by kernel_rfl) (opens_bool Try.underlying4)))))))))
def ok74 (x : S74) : Prop := (fun n => (Lit.int .i64 n).wf = true) x.f0 ∧ (fun n => (Lit.int .i64 n).wf = true) x.f1
theorem opens74 : Opens Try.prog 74 k74 ok74 := opens_struct Try.underlying74 (by kernel_rfl) (by kernel_rfl) (f := fun x : S74 => (x.f0, x.f1)) (g := fun y => (⟨y.1, y.2⟩ : S74)) (fun _ => rfl) (opensFs_cons (by kernel_rfl) (opens_int Try.underlying3) (opensFs_one (by kernel_rfl) (opens_int Try.underlying3)))
end Go.Proofs.Ytljbfmehdgfcfaa.P
