import Derived.Test.YtedplhcdlkhbnaaPx0
import Derived.Test.YtedplhcdlkhbnaaOpens
namespace Go.Proofs.Ytedplhcdlkhbnaa.P
open Go.RowKit Go.Proofs.YtedplhcdlkhbnaaW.PrintWords Go.Proofs.YtedplhcdlkhbnaaW.PrintLast
open Go.Proofs.Ytedplhcdlkhbnaa.KdOpen
set_option linter.unusedVariables false
def OkList {α : Type} (B : Nat) (ok : α → Prop) (l : List α) : Prop := l.length * B ≤ 140737488351232 ∧ l.length ≤ maxLen ∧ ∀ y ∈ l, ok y
def ok35 (x : S35) : Prop := (fun n => (Lit.int .i64 n).wf = true) x.f0 ∧ (fun n => (Lit.int .i64 n).wf = true) x.f1 ∧ (fun n => (Lit.int .i64 n).wf = true) x.f2 ∧ (fun n => (Lit.int .i64 n).wf = true) x.f3
theorem opens35 : Opens Try.prog 35 k35 ok35 := opens_array Try.underlying35 (by kernel_rfl) (by kernel_rfl) (f := fun x : S35 => (x.f0, x.f1, x.f2, x.f3)) (g := fun y => (⟨y.1, y.2.1, y.2.2.1, y.2.2.2⟩ : S35)) (fun _ => rfl) (opensFs_cons (by kernel_rfl) (opens_int Try.underlying3) (opensFs_cons (by kernel_rfl) (opens_int Try.underlying3) (opensFs_cons (by kernel_rfl) (opens_int Try.underlying3) (opensFs_one (by kernel_rfl) (opens_int Try.underlying3)))))
end Go.Proofs.Ytedplhcdlkhbnaa.P
