/- No way costs less, and none that costs as much comes ahead. -/
import Derived.Test.YtpnodmiincdljaaNi
namespace Go.Proofs.Ytpnodmiincdljaa.Vm
open Go
open _root_.Go.RowKit (wrap64)
theorem before_l0 (l : List api_Item) (W V : List Nat) (hw : ∀ j, j ∈ W → j < (ends l).length) (hv : ∀ j, j ∈ V → j < (ends l).length) (wl : W.length ≤ 1000000) (vl : V.length ≤ 1000000) : ∀ m i : Nat, i + m = W.length → i ≤ V.length → (Lx (W.drop i) (V.drop i) ↔ Lx W V) →
    ∃ r, (r = true → Lx W V) ∧ Ev (fun k => regletref09_Before.l0 k (W.map (endV l)) (V.map (endV l)) (i : Int)) r
 | 0, i, e, iv, eq => by
  refine ⟨decide (((W.map (endV l)).length : Int) < ((V.map (endV l)).length : Int)), fun q => ?_, Ev.st (fun k => by rw [regletref09_Before.l0]) ?_⟩
  · have q := of_decide_eq_true q
    rw [List.length_map, List.length_map] at q
    rw [← eq, List.drop_of_length_le (by omega), List.drop_eq_getElem_cons (show i < V.length by omega)]
    exact trivial
  · refine Ev.dn (by rw [List.length_map]; omega) ?_
    exact Ev.st (fun k => by rw [regletref09_Before.j2]) (Ev.now _)
 | m + 1, i, e, iv, eq => by
  have hi : i < W.length := by omega
  by_cases hq : i < V.length
  · have wi : rd (W.map (endV l)) (i : Int) = endV l W[i] := by rw [rd_get _ i (by rw [List.length_map]; exact hi), List.getElem_map]
    have vi : rd (V.map (endV l)) (i : Int) = endV l V[i] := by rw [rd_get _ i (by rw [List.length_map]; exact hq), List.getElem_map]
    have bw := hw W[i] (List.getElem_mem _)
    have bv := hv V[i] (List.getElem_mem _)
    have dw := List.drop_eq_getElem_cons hi
    have dv := List.drop_eq_getElem_cons hq
    have pre : ∀ r, Ev (fun k => if (!decide (endV l W[i] = endV l V[i])) = true then (some (decide (endV l W[i] < endV l V[i]))) else (regletref09_Before.l0 k (W.map (endV l)) (V.map (endV l)) ((i + 1 : Nat) : Int))) r →
        Ev (fun k => regletref09_Before.l0 k (W.map (endV l)) (V.map (endV l)) (i : Int)) r := fun r v => by
      have a1 : (i : Int) < ((W.map (endV l)).length : Int) := by rw [List.length_map]; omega
      have a2 : (i : Int) < ((V.map (endV l)).length : Int) := by rw [List.length_map]; omega
      refine Ev.st (fun k => by rw [regletref09_Before.l0]) (Ev.dp a1 (Ev.dp a2 ?_))
      refine Ev.st (fun k => by rw [regletref09_Before.j1]) ?_
      refine Ev.at_ (by omega) a1 ?_
      refine Ev.at_ (by omega) a2 ?_
      rw [wi, vi, nx i (by omega)]
      refine Ev.xc (fun q => ?_) (fun q => ?_)
      · refine Ev.at_ (by omega) a1 ?_
        refine Ev.at_ (by omega) a2 ?_
        rw [wi, vi]
        have := v
        rw [decide_eq_false q] at this
        exact this
      · have := v
        rw [decide_eq_true q] at this
        exact this
    by_cases q : endV l W[i] = endV l V[i]
    · have eq2 : W[i] = V[i] := endV_inj l bw bv q
      obtain ⟨r, a, b⟩ := before_l0 l W V hw hv wl vl m (i + 1) (by omega) (by omega) (by
        rw [← eq, dw, dv]
        show _ ↔ (W[i] < V[i] ∨ W[i] = V[i] ∧ _)
        constructor
        · exact fun z => .inr ⟨eq2, z⟩
        · rintro (z | z)
          · omega
          · exact z.2)
      exact ⟨r, a, pre r (Ev.xn q b)⟩
    · refine ⟨decide (endV l W[i] < endV l V[i]), fun z => ?_, pre _ (Ev.xp q (Ev.now _))⟩
      have z := of_decide_eq_true z
      rw [← eq, dw, dv]
      refine .inl ?_
      by_cases lt : W[i] < V[i]
      · exact lt
      · by_cases eq3 : W[i] = V[i]
        · rw [eq3] at q; exact absurd rfl q
        · have := endV_lt l (i := V[i]) (j := W[i]) (by omega) bw
          omega
  · refine ⟨decide (((W.map (endV l)).length : Int) < ((V.map (endV l)).length : Int)), fun q => ?_, Ev.st (fun k => by rw [regletref09_Before.l0]) ?_⟩
    · have q := of_decide_eq_true q
      rw [List.length_map, List.length_map] at q
      omega
    · refine Ev.dp (by rw [List.length_map]; omega) ?_
      refine Ev.dn (by rw [List.length_map]; omega) ?_
      exact Ev.st (fun k => by rw [regletref09_Before.j2]) (Ev.now _)
theorem Pure.BreaksLeast (l : List api_Item) (st : regletlaw09_Setting) (way : List Int) (_ : okT (.row false tItem) l) (_ : okT (.cons (.i .i64) tSet) st) (_ : okT (.row false (.i .i64)) way) : ∃ k, regletlaw09_BreaksLeast.f k l st way = some true := by
  refine Ev.rounds (Ev.bind awake09_ev (Ev.bn rfl ?_))
  rcases para09_ev l 120 with hb | ⟨⟨hr, h4, hm⟩, p, hp, hb⟩
  · exact Ev.bind hb (Ev.nilp rfl (Ev.now _))
  refine Ev.bind hb (Ev.somep rfl (Ev.bind (rRight9_ev _ _) (Ev.nc (fun _ => Ev.now _) (fun c1 => Ev.dc (fun _ => Ev.now _) (fun wl => ?_)))))
  have S : Sit l p st.1 st.2 := ⟨hp, hr, of_decide_eq_true c1⟩
  obtain ⟨W, u, e, B, v⟩ := Break_ev S
  have bl := B.len
  have j1 : ∀ r : Int × Bool, Prc l (netOf l st.1 st.2 e) 0 0 0 way r → Ev (fun k => regletlaw09_BreaksLeast.j1 k way r.1 r.2 (W.map (endV l), u, e)) true := by
    intro r R
    refine Ev.st (fun k => by rw [regletlaw09_BreaksLeast.j1]) ?_
    refine Ev.nc (fun _ => Ev.now _) (fun ok => ?_)
    obtain ⟨V, ev, q⟩ := R.1 ok
    have F := B.first.2 _ _ q
    refine Ev.dc (fun _ => Ev.now _) (fun lt => Ev.dc (fun eq => ?_) (fun ne => ?_))
    · have ql : 0 + V.length ≤ (ends l).length := q.len
      obtain ⟨b, x, y⟩ := before_l0 l V W q.below B.first.1.below (by omega) (by omega) V.length 0 (by omega) (Nat.zero_le _) Iff.rfl
      have nb : b = false := Bool.eq_false_iff.2 fun z => F.2 eq (x z)
      rw [nb] at y
      subst ev
      exact Ev.bind y (Ev.now _)
    · exfalso
      have := F.1
      dsimp only at lt ne
      omega
  refine Ev.st (fun k => by rw [regletlaw09_BreaksLeast.j0]) ?_
  refine Ev.bind v ?_
  refine Ev.xn rfl ?_
  obtain ⟨r, R, pv⟩ := Price_ev S false way (by omega)
  refine Ev.bind pv ?_
  cases e with
  | false => exact Ev.bn rfl (j1 r R)
  | true =>
    obtain ⟨r2, R2, pv2⟩ := Price_ev S true way (by omega)
    refine Ev.bp rfl (Ev.bn ?_ (Ev.bind pv2 (j1 r2 R2)))
    refine Bool.eq_false_iff.2 fun z => ?_
    obtain ⟨V, _, q⟩ := R.1 z
    exact B.tight rfl V _ q
end Go.Proofs.Ytpnodmiincdljaa.Vm
