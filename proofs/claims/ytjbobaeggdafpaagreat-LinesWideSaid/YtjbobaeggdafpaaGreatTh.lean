/- The reference's kinds of runes. -/
import Derived.Test.YtjbobaeggdafpaaGreatTg
namespace Go.Proofs.YtjbobaeggdafpaaGreat.Vm
open Go
open _root_.Go.RowKit (wrap64)
def findRow (r : Int) : Int → List (List Int) → Int
 | _, [] => 0
 | i, row :: rest => if r ∈ row then i else findRow r (i + 1) rest
theorem refKind_loop (r : Int) (T : List (List Int)) (hT : T.length ≤ 100) (hR : ∀ row ∈ T, row.length ≤ 100) : ∀ (d i : Nat), i + d = T.length →
 Ev (fun k => regletref02_Kind.l0 k r T (i : Int)) (findRow r i (T.drop i)) := by
 intro d
 induction d with
 | zero =>
  intro i hi
  refine Ev.st (fun k => by rw [regletref02_Kind.l0]) (Ev.dn (by omega) (Ev.some_ ?_))
  rw [List.drop_of_length_le (by omega)]; rfl
 | succ d ih =>
  intro i hi
  rw [drop_rd T i (by omega)]
  refine Ev.st (fun k => by rw [regletref02_Kind.l0]) (Ev.dp (by omega) ?_)
  have hlen := hR (rd T (i : Int)) (rd_in T (by omega))
  have ih' := ih (i + 1) (by omega)
  have inner : ∀ (e j : Nat), j + e = (rd T (i : Int)).length → Ev (fun k => regletref02_Kind.l1 k r T (i : Int) (j : Int)) (if r ∈ (rd T (i : Int)).drop j then (i : Int) else findRow r ((i : Int) + 1) (T.drop (i + 1))) := by
   intro e
   induction e with
   | zero =>
    intro j hj
    refine Ev.st (fun k => by rw [regletref02_Kind.l1]) ?_
    refine Ev.at_ (by omega) (by omega) ?_
    refine Ev.dn (by omega) ?_
    rw [List.drop_of_length_le (by omega), if_neg (by simp), nx i (by omega)]
    exact ih'
   | succ e ih2 =>
    intro j hj
    refine Ev.st (fun k => by rw [regletref02_Kind.l1]) ?_
    refine Ev.at_ (by omega) (by omega) ?_
    refine Ev.dp (by omega) ?_
    refine Ev.at_ (by omega) (by omega) ?_
    refine Ev.at_ (by omega) (by omega) ?_
    rw [drop_rd (rd T (i : Int)) j (by omega)]
    refine Ev.dc (fun h => Ev.some_ (by rw [if_pos (by rw [h]; exact List.mem_cons_self ..)])) (fun h => ?_)
    have ih3 := ih2 (j + 1) (by omega)
    rw [nx j (by omega)]
    refine Ev.lift ih3 ?_
    by_cases q : r ∈ (rd T (i : Int)).drop (j + 1)
    · rw [if_pos q, if_pos (List.mem_cons_of_mem _ q)]
    · rw [if_neg q, if_neg (fun z => by
       rcases List.mem_cons.1 z with z | z
       · exact h z.symm
       · exact q z)]
  have := inner _ 0 (Nat.zero_add _)
  unfold findRow
  exact this
theorem refKind_ev (r : Int) : Ev (fun k => regletref02_Kind.f k r) (kindOf r) := by
 have h := refKind_loop r [[], [32, 9], [160, 8239], [173], [8203], [8288, 65279], [45, 8208], [8232], [10]] (by simp) (by simp) 8 1 (by simp)
 refine Ev.lift h ?_
 simp [findRow, kindOf, kind1, kind2, kind3]
end Go.Proofs.YtjbobaeggdafpaaGreat.Vm
