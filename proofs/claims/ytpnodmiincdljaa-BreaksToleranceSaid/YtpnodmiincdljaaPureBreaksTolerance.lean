/- With more tolerance lines don't cost more. -/
import Derived.Test.YtpnodmiincdljaaNg
namespace Go.Proofs.Ytpnodmiincdljaa.Vm
open Go
open _root_.Go.RowKit (wrap64)
theorem cost_tol (t t' : Int) (s : Int × Int × Int × Int × Int × Int) (f : api_Fit) (e : api_Item) (ah : Int × Bool) (last : Bool) (k : Nat) : measure_Cost.f k (t, s) f e ah last = measure_Cost.f k (t', s) f e ah last := by
  have j1 : ∀ (k : Nat) (d : Int), measure_Cost.j1 k last d (t, s) ah = measure_Cost.j1 k last d (t', s) ah := fun k d => by cases k <;> rfl
  have j0 : ∀ (k : Nat) (d : Int), measure_Cost.j0 k last d (t, s) e ah = measure_Cost.j0 k last d (t', s) e ah := fun k d => by
    cases k with
    | zero => rfl
    | succ k => simp only [measure_Cost.j0, j1]
  simp only [measure_Cost.f, j0]
theorem costV_tol {t t' : Int} {s : Int × Int × Int × Int × Int × Int} {f : api_Fit} (e : api_Item) {ah : Int} (flag last : Bool) (hs : SetOk (t, s)) (hs' : SetOk (t', s)) (a0 : -1000 ≤ ah) (a1 : ah ≤ 1000) (c0 : -1000 ≤ f.2.2.2.1) (c1 : f.2.2.2.1 ≤ 1000) : costV (t, s) f e ah flag last = costV (t', s) f e ah flag last := by
  have x := (costV_ok (t, s) f e ah flag last hs a0 a1 c0 c1).1
  have y := (costV_ok (t', s) f e ah flag last hs' a0 a1 c0 c1).1
  exact x.uniq (Ev.congr (fun k => cost_tol t t' s f e (ah, flag) last k) y)
theorem way_tol {l : List api_Item} {p : measure_Para} {w t t' : Int} {s : Int × Int × Int × Int × Int × Int} (h : Sit l p w (t, s)) (h' : Sit l p w (t', s)) (ht : t ≤ t') : ∀ {W : List Nat} {a : Nat} {c x u : Int}, 0 ≤ c → c ≤ 3 → (netOf l w (t, s) false).Way a c x W u → (netOf l w (t', s) false).Way a c x W u
 | [], _, _, _, _, _, _, q => q
 | j :: r, a, c, x, u, c0, c1, q => by
  have kr := h.K_ok false a j
  have e : (netOf l w (t, s) false).C a j c = (netOf l w (t', s) false).C a j c := costV_tol _ _ _ h.ws.2.2 h'.ws.2.2 (by split <;> omega) (by split <;> omega) (by have := (h.fit (posV l a) (endV l j)).2.2.2.2; omega) (by have := (h.fit (posV l a) (endV l j)).2.2.2.2; omega)
  have on := way_tol h h' ht kr.1 kr.2 q.2
  rw [e] at on
  refine ⟨⟨q.1.1, q.1.2.1, ?_, q.1.2.2.2⟩, on⟩
  have d := q.1.2.2.1
  have d' : (!(fitV l (posV l a) (endV l j) w).2.2.2.2 && decide ((fitV l (posV l a) (endV l j) w).2.2.1 ≤ t)) = true := d
  rw [Bool.and_eq_true, decide_eq_true_iff] at d'
  show (!(fitV l (posV l a) (endV l j) w).2.2.2.2 && decide ((fitV l (posV l a) (endV l j) w).2.2.1 ≤ t')) = true
  rw [Bool.and_eq_true, decide_eq_true_iff]
  exact ⟨d'.1, by omega⟩
theorem Pure.BreaksTolerance (l : List api_Item) (st : regletlaw09_Setting) (more : Int) (_ : okT (.row false tItem) l) (_ : okT (.cons (.i .i64) tSet) st) (_ : okT (.i .i64) more) : ∃ k, regletlaw09_BreaksTolerance.f k l st more = some true := by
  refine Ev.rounds (Ev.bind awake09_ev (Ev.bn rfl ?_))
  rcases para09_ev l 120 with hb | ⟨⟨hr, h4, hm⟩, p, hp, hb⟩
  · exact Ev.bind hb (Ev.nilp rfl (Ev.now _))
  refine Ev.bind hb (Ev.somep rfl (Ev.bind (rRight9_ev _ _) (Ev.nc (fun _ => Ev.now _) (fun c1 => Ev.dc (fun _ => Ev.now _) (fun m0 => Ev.dc (fun _ => Ev.now _) (fun m1 => ?_))))))
  obtain ⟨w, t, s⟩ := st
  have ws := of_decide_eq_true c1
  have s1 : Sit l p w (t, s) := ⟨hp, hr, ws⟩
  have s2 : Sit l p w (more, s) := ⟨hp, hr, by
    unfold WS SetOk at ws ⊢
    dsimp only at ws m0 m1 ⊢
    omega⟩
  dsimp only at m0
  obtain ⟨W, u, e, B, v⟩ := Break_ev s1
  obtain ⟨W2, u2, e2, B2, v2⟩ := Break_ev s2
  refine Ev.st (fun k => by rw [regletlaw09_BreaksTolerance.j0]) ?_
  refine Ev.bind v ?_
  refine Ev.bind v2 ?_
  refine Ev.xn rfl (Ev.xn rfl (Ev.st (fun k => by rw [regletlaw09_BreaksTolerance.j1]) ?_))
  cases e with
  | true => exact Ev.bp rfl (Ev.now _)
  | false =>
    have q := way_tol s1 s2 (by omega) (Int.le_refl 0) (by omega) B.first.1
    refine Ev.bn rfl ?_
    cases e2 with
    | true => exact absurd q (B2.tight rfl _ _)
    | false =>
      have := (B2.first.2 _ _ q).1
      exact Ev.bp rfl (Ev.some_ (decide_eq_true this))
end Go.Proofs.Ytpnodmiincdljaa.Vm
