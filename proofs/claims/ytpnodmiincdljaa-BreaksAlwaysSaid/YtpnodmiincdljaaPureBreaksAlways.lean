/- Every paragraph has lines that end at every place where they must, and with the last item. -/
import Derived.Test.YtpnodmiincdljaaNg
namespace Go.Proofs.Ytpnodmiincdljaa.Vm
open Go
open _root_.Go.RowKit (wrap64)
theorem always_l2 {l : List api_Item} {p : measure_Para} {w : Int} {s : api_Settings} (h : Sit l p w s) (e b : Bool) (W : List Nat) (u0 : Int) : ∀ (m i kk a : Nat) (c t u : Int) (W' : List Nat), i + m = l.length → W.drop kk = W' → kk ≤ W.length → W.length ≤ 262144 →
    (netOf l w s b).Way a c t W' u → (∀ x, x + 1 = a → endV l x < i) → (∀ j r, W' = j :: r → (i : Int) ≤ endV l j) → Ev (fun k => regletlaw09_BreaksAlways.l2 k l (kk : Int) (i : Int) (W.map (endV l), u0, e)) true
 | 0, i, kk, a, c, t, u, W', e0, hd, hk, hw, way, pa, nx_ => by
  refine Ev.st (fun k => by rw [regletlaw09_BreaksAlways.l2]) (Ev.dn (by omega) (Ev.some_ (decide_eq_true ?_)))
  cases W' with
  | nil =>
    have := congrArg List.length hd
    rw [List.length_drop, List.length_nil] at this
    simp only [List.length_map]; omega
  | cons j r =>
    have := nx_ j r rfl
    have := endV_mem l (j := j) way.1.2.1
    omega
 | m + 1, i, kk, a, c, t, u, W', e0, hd, hk, hw, way, pa, nx_ => by
  have hl := h.good.len
  cases W' with
  | nil =>
    have an : a = (ends l).length := way.1
    have n0 := h.n_pos
    have := pa (a - 1) (by omega)
    rw [an, (ends_last h.right).2] at this
    omega
  | cons j r =>
    have hj : j < (ends l).length := way.1.2.1
    have ij := nx_ j r rfl
    have mj := endV_mem l hj
    have kl : kk < W.length := by
      have := congrArg List.length hd
      rw [List.length_drop, List.length_cons] at this
      omega
    have get : (W.map (endV l))[kk]? = some (endV l j) := by
      have z : (W.drop kk)[0]? = some j := by rw [hd]; rfl
      rw [List.getElem?_drop, Nat.add_zero] at z
      rw [List.getElem?_map, z]; rfl
    have j5 : ∀ kk' : Nat, Ev (fun k => regletlaw09_BreaksAlways.l2 k l (kk' : Int) ((i + 1 : Nat) : Int) (W.map (endV l), u0, e)) true → Ev (fun k => regletlaw09_BreaksAlways.j5 k l (kk' : Int) (i : Int) (W.map (endV l), u0, e)) true := fun kk' v => by
      refine Ev.st (fun k => by rw [regletlaw09_BreaksAlways.j5]) ?_
      rw [nx i (by omega)]
      exact v
    refine Ev.st (fun k => by rw [regletlaw09_BreaksAlways.l2]) (Ev.dp (by omega) ?_)
    refine Ev.dp (by dsimp only; rw [List.length_map]; omega) ?_
    refine Ev.ifp ⟨by omega, by dsimp only; rw [List.length_map]; omega⟩ ?_
    rw [Int.toNat_natCast]
    refine Ev.bind (Ev.opt get) ?_
    refine Ev.st (fun k => by rw [regletlaw09_BreaksAlways.j3]) ?_
    by_cases q : endV l j = (i : Int)
    · have go := j5 (kk + 1) (always_l2 h e b W u0 m (i + 1) (kk + 1) (j + 1) _ _ u r (by omega) (by rw [← List.drop_drop, hd]; rfl) (by omega) hw way.2 (fun x hx => by
        obtain rfl : x = j := by omega
        omega) (fun j' r' er => by
        subst er
        have z := way.2.1
        have := endV_lt l (i := j) (j := j') z.1 z.2.1
        omega))
      refine Ev.dp q ?_
      refine Ev.st (fun k => by rw [regletlaw09_BreaksAlways.j4]) ?_
      rw [nx kk (by omega)]
      have lg := rLeg_ev l (by omega) (i : Int)
      rw [← q] at lg
      rw [mj.2.2] at lg
      rw [q] at lg
      refine Ev.at_ (by omega) (by omega) ?_
      refine Ev.bind (rfcd_ev _) (Ev.dc (fun _ => ?_) (fun _ => ?_))
      · refine Ev.ifn (by rw [decide_eq_true q]; exact Bool.false_ne_true) ?_
        refine Ev.dp q (Ev.bind lg (Ev.bn rfl go))
      · exact Ev.dp q (Ev.bind lg (Ev.bn rfl go))
    · have go := j5 kk (always_l2 h e b W u0 m (i + 1) kk a c t u (j :: r) (by omega) hd hk hw way (fun x hx => by have := pa x hx; omega) (fun j' r' er => by
        cases er
        omega))
      refine Ev.dn q ?_
      refine Ev.st (fun k => by rw [regletlaw09_BreaksAlways.j4]) ?_
      refine Ev.at_ (by omega) (by omega) ?_
      refine Ev.bind (rfcd_ev _) (Ev.dc (fun f => ?_) (fun _ => Ev.dn q go))
      exfalso
      obtain ⟨j', hj', ej⟩ := endV_of l (x := i) (by omega) (Fc.leg (by omega) f)
      have lt : j' < j := by
        by_cases z : j' < j
        · exact z
        · by_cases z2 : j' = j
          · subst z2; exact absurd ej q
          · have := endV_lt l (i := j) (j := j') (by omega) hj'
            omega
      have ge : a ≤ j' := by
        by_cases z : a ≤ j'
        · exact z
        · have x := pa (a - 1) (by omega)
          have y : endV l j' ≤ endV l (a - 1) := by
            by_cases z2 : j' = a - 1
            · rw [z2]; exact Int.le_refl _
            · have wl := way.1.1
              exact Int.le_of_lt (endV_lt l (by omega) (by omega))
          omega
      have fo := way.1.2.2.2 j' ge lt
      have fo' : decide (Fc (rd l (endV l j'))) = false := fo
      rw [ej] at fo'
      exact of_decide_eq_false fo' f
theorem Net.Way.last {N : Net} : ∀ {W : List Nat} {a : Nat} {c t u : Int}, N.Way a c t W u → W ≠ [] → W.getLast? = some (N.n - 1)
 | [], _, _, _, _, _, h => absurd rfl h
 | j :: [], _, _, _, _, h, _ => by
  have := h.2.1
  show some j = some (N.n - 1)
  rw [show j = N.n - 1 by omega]
 | j :: i :: r, _, _, _, _, h, _ => by
  have := Net.Way.last h.2 (by simp)
  rw [List.getLast?_cons_cons]; exact this
theorem Pure.BreaksAlways (l : List api_Item) (w : Int) (s : api_Settings) (_ : okT (.row false tItem) l) (_ : okT (.i .i64) w) (_ : okT tSet s) : ∃ k, regletlaw09_BreaksAlways.f k l w s = some true := by
  refine Ev.rounds (Ev.bind awake09_ev (Ev.bn rfl ?_))
  rcases para09_ev l 200 with hb | ⟨⟨hr, h4, hm⟩, p, hp, hb⟩
  · exact Ev.bind hb (Ev.nilp rfl (Ev.now _))
  refine Ev.bind hb (Ev.somep rfl (Ev.bind (rRight9_ev _ _) (Ev.nc (fun _ => Ev.now _) (fun c1 => ?_))))
  have S : Sit l p w s := ⟨hp, hr, of_decide_eq_true c1⟩
  obtain ⟨W, u, e, B, v⟩ := Break_ev S
  have n0 := S.n_pos
  have wl := B.len
  have ur := B.range
  have ne : W ≠ [] := fun z => by
    subst z
    have : 0 = (ends l).length := B.first.1.1
    omega
  have wp : 0 < W.length := List.length_pos_iff.2 ne
  have last : (W.map (endV l))[W.length - 1]? = some ((l.length : Int) - 1) := by
    have := B.first.1.last ne
    rw [List.getLast?_eq_getElem?] at this
    rw [List.getElem?_map, this]
    exact congrArg some (ends_last hr).2
  refine Ev.st (fun k => by rw [regletlaw09_BreaksAlways.j0]) ?_
  refine Ev.bind v ?_
  refine Ev.xn rfl (Ev.dn (by dsimp only; rw [List.length_map]; omega) ?_)
  dsimp only
  rw [List.length_map, w64 (x := (W.length : Int) - 1) (by omega) (by omega), w64 (x := (l.length : Int) - 1) (by omega) (by omega)]
  refine Ev.ifp ⟨by omega, by omega⟩ ?_
  rw [show ((W.length : Int) - 1).toNat = W.length - 1 by omega]
  refine Ev.bind (Ev.opt last) ?_
  refine Ev.xn rfl (Ev.dn (by omega) (Ev.dn (by omega) (Ev.st (fun k => by rw [regletlaw09_BreaksAlways.j1]) ?_)))
  exact always_l2 S e e W u l.length 0 0 0 0 0 u W (by omega) rfl (by omega) (by have := S.n_le; omega) B.first.1 (fun x hx => by omega) (fun j r er => by
    subst er
    have := endV_mem l (j := j) B.first.1.1.2.1
    omega)
end Go.Proofs.Ytpnodmiincdljaa.Vm
