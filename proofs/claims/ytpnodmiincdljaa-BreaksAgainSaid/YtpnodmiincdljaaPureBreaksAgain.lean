/- A paragraph is broken the same each time. -/
import Derived.Test.YtpnodmiincdljaaNg
namespace Go.Proofs.Ytpnodmiincdljaa.Vm
open Go
open _root_.Go.RowKit (wrap64)
theorem again_l1 {p : measure_Para} {one two : regletlaw09_Setting} {b1 b2 : api_Breaking} (h1 : Ev (fun k => breaks_Break.f k p one.1 one.2) (b1, 0)) (h2 : ∃ b2 : api_Breaking × Int, Ev (fun k => breaks_Break.f k p two.1 two.2) b2) (e : b2.2 = b1.2) (hl : b1.1.length ≤ 1000000) :
    ∀ (m i : Nat) (x : List Int), i + m = x.length → x.length ≤ 1000000 → Ev (fun k => regletlaw09_BreaksAgain.l1 k p 0 b1.1 (i : Int) one two (x, b2.2)) true
 | 0, i, x, ex, _ => by
  obtain ⟨q, hq⟩ := h2
  refine Ev.st (fun k => by rw [regletlaw09_BreaksAgain.l1]) (Ev.dn (by dsimp only; omega) ?_)
  refine Ev.bind hq ?_
  refine Ev.bind h1 ?_
  refine Ev.dp rfl (Ev.dp rfl ?_)
  have z : ((b1.1, b2.2.1, b2.2.2) : api_Breaking) = b1 := by rw [e]
  refine Ev.bind (a := true) ?_ (Ev.now _)
  show Ev (fun k => regletref09_Same.f k (b1.1, b2.2.1, b2.2.2) b1) true
  rw [z]
  exact Same_refl b1 hl
 | m + 1, i, x, ex, hx => by
  refine Ev.st (fun k => by rw [regletlaw09_BreaksAgain.l1]) (Ev.dp (by dsimp only; omega) ?_)
  refine Ev.gx (xs := x) (by omega) (by omega) ?_
  rw [nx i (by omega)]
  exact again_l1 h1 h2 e hl m (i + 1) (x.set i (-1)) (by rw [List.length_set]; omega) (by rw [List.length_set]; omega)
theorem Pure.BreaksAgain (l : List api_Item) (one two : regletlaw09_Setting) (_ : okT (.row false tItem) l) (_ : okT (.cons (.i .i64) tSet) one) (_ : okT (.cons (.i .i64) tSet) two) : ∃ k, regletlaw09_BreaksAgain.f k l one two = some true := by
  refine Ev.rounds (Ev.bind awake09_ev (Ev.bn rfl ?_))
  rcases para09_ev l 120 with hb | ⟨⟨hr, h4, hm⟩, p, hp, hb⟩
  · exact Ev.bind hb (Ev.nilp rfl (Ev.now _))
  refine Ev.bind hb (Ev.somep rfl (Ev.bind (rRight9_ev _ _) (Ev.nc (fun _ => Ev.now _) (fun c1 => Ev.bind (rRight9_ev _ _) (Ev.nc (fun _ => Ev.now _) (fun c2 => ?_))))))
  have s1 : Sit l p one.1 one.2 := ⟨hp, hr, of_decide_eq_true c1⟩
  have s2 : Sit l p two.1 two.2 := ⟨hp, hr, of_decide_eq_true c2⟩
  obtain ⟨W, u, e, B, v⟩ := Break_ev s1
  obtain ⟨W2, u2, e2, _, v2⟩ := Break_ev s2
  have wl : (W.map (endV l)).length ≤ 1000 := by rw [List.length_map]; have := B.len; omega
  refine Ev.st (fun k => by rw [regletlaw09_BreaksAgain.j0]) ?_
  refine Ev.bind v ?_
  refine Ev.ifp (by rw [List.length_nil]; dsimp only; omega) ?_
  exact again_l1 (b1 := (W.map (endV l), u, e)) (b2 := ([], u, e)) v ⟨_, v2⟩ rfl (by dsimp only; omega) (W.map (endV l)).length 0 (W.map (endV l)) (by omega) (by omega)
end Go.Proofs.Ytpnodmiincdljaa.Vm
