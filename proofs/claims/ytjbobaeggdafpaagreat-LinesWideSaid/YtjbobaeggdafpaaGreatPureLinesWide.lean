/- A line's runes, its spaces set as told, are as wide as the line should be, unless it is filled, forced or broken by the emergency's rule. -/
import Derived.Test.YtjbobaeggdafpaaGreatLg
namespace Go.Proofs.YtjbobaeggdafpaaGreat.Vm
open Go
open _root_.Go.RowKit (wrap64)
theorem w64_add (x y : Int) : wrap64 (wrap64 x + wrap64 y) = wrap64 (x + y) := by unfold wrap64; omega
theorem Net.Way.does {N : Net} : ∀ {W : List Nat} {a : Nat} {c t u : Int}, N.Way a c t W u → ∀ i, i < W.length → N.D (if i = 0 then a else W.getD (i - 1) 0 + 1) (W.getD i 0) = true
 | [], _, _, _, _, _ => fun i hi => by simp at hi
 | j :: r, a, _, _, _, h => fun i hi => by
  cases i with
  | zero => exact h.1.2.2.1
  | succ i =>
   have z := Net.Way.does h.2 i (by simpa using hi)
   rw [if_neg (by omega), List.getD_cons_succ, Nat.add_sub_cancel]
   cases i with
   | zero => exact z
   | succ i =>
    rw [if_neg (by omega), Nat.add_sub_cancel] at z
    rw [List.getD_cons_succ]
    exact z
theorem Pure.LinesWide (l : List Styl) (a : Prg) (_ : okT (.row false tSty) l) (_ : okT tPara a) : ∃ k, regletlaw10_LinesWide.f k l a = some true := by
 refine Ev.rounds (Ev.bind awake10_ev (Ev.bn rfl ?_))
 rcases tab10 l with ⟨hl, T⟩ | T
 · refine Ev.bind T (Ev.somep rfl (Ev.bind (few10_ev a) (Ev.nc (fun _ => Ev.now _) (fun c => Ev.dc (fun _ => Ev.now _) (fun h24 => ?_)))))
   have c := of_decide_eq_true c
   obtain ⟨s, R, w, st⟩ := a
   dsimp only at c h24
   refine Ev.st (fun k => by rw [regletlaw10_LinesWide.j0]) ?_
   by_cases e : chkC l s R = 0
   · by_cases hw : WS w st
     · obtain ⟨X, p, W, u, em, L, A, P⟩ := Para_ev hl c.1 c.2 e hw
       have hw' := hw
       unfold WS at hw'
       have bl := P.blen
       refine Ev.bind P.ev (Ev.bind (Ev.bind P.build (Ev.now _)) (Ev.xn rfl ?_))
       refine Ev.bc (fun _ => Ev.now _) (fun hem => ?_)
       have hem : em = false := hem
       subst hem
       refine Ev.dc (fun _ => Ev.now _) (fun ht => ?_)
       have ht : ¬ 10000 ≤ st.1 := ht
       refine Ev.st (fun k => by rw [regletlaw10_LinesWide.j1]) ?_
       have wl : (W.map (endV X)).length = W.length := List.length_map ..
       have loop : ∀ d i : Nat, i + d = (W.map (endV X)).length → Ev (fun k => regletlaw10_LinesWide.l2 k (linesV l s (stys R) X w (s.size : Int) (W.map (endV X)) (W.map (endV X)).length) X (lastV (W.map (endV X)) i) (i : Int) (s, R, w, st) (W.map (endV X), u, false)) true := by
        intro d
        induction d with
        | zero =>
         intro i e
         exact Ev.st (fun k => by rw [regletlaw10_LinesWide.l2]) (Ev.dn (by rw [linesV_len]; omega) (Ev.now _))
        | succ d ih =>
         intro i e1
         have ll := linesV_len (l := l) (s := s) (X := X) (w := w) (B := W.map (endV X)) (S := stys R) (n := (s.size : Int)) (W.map (endV X)).length
         have bi := P.bks.inr i (by omega)
         have j3 : Ev (fun k => regletlaw10_LinesWide.j3 k (linesV l s (stys R) X w (s.size : Int) (W.map (endV X)) (W.map (endV X)).length) X (rd (W.map (endV X)) (i : Int)) (i : Int) (s, R, w, st) (W.map (endV X), u, false)) true := by
          refine Ev.st (fun k => by rw [regletlaw10_LinesWide.j3]) ?_
          rw [nx i (by omega)]
          exact ih (i + 1) (by omega)
         refine Ev.st (fun k => by rw [regletlaw10_LinesWide.l2]) (Ev.dp (by rw [ll]; omega) ?_)
         refine Ev.at_ (xs := W.map (endV X)) (by omega) (by omega) ?_
         refine Ev.bind (refWhole_ev P.sit.good _ _) (Ev.dc (fun _ => j3) (fun hf => ?_))
         refine Ev.gx (by omega) (by omega) (Ev.bind (rfcd_ev _) (Ev.bc (fun _ => j3) (fun _ => ?_)))
         have F := fit_to P.sit.par P.sit.good (lastV (W.map (endV X)) i) (rd (W.map (endV X)) (i : Int)) w (by omega)
         have D := P.brk.first.1.does i (by omega)
         have ri := rd_map_end X W i (by omega)
         have lp : lastV (W.map (endV X)) i = posV X (if i = 0 then 0 else W.getD (i - 1) 0 + 1) := by
          cases i with
          | zero => rfl
          | succ i =>
           rw [if_neg (by omega), Nat.add_sub_cancel]
           exact rd_map_end X W i (by omega)
         have D : (!(fitV X (posV X (if i = 0 then 0 else W.getD (i - 1) 0 + 1)) (endV X (W.getD i 0)) w).2.2.2.2 && decide ((fitV X (posV X (if i = 0 then 0 else W.getD (i - 1) 0 + 1)) (endV X (W.getD i 0)) w).2.2.1 ≤ st.1)) = true := D
         rw [← lp, ← ri, Bool.and_eq_true, Bool.not_eq_true', decide_eq_true_iff] at D
         have F2 := F.2 (by omega) D.1 (by omega)
         have li : rd (linesV l s (stys R) X w (s.size : Int) (W.map (endV X)) (W.map (endV X)).length) (i : Int) = lineV l s (stys R) X w (s.size : Int) (W.map (endV X)) i := linesV_rd (by omega)
         have j5 : ∀ g, g = (if (fitV X (lastV (W.map (endV X)) i) (rd (W.map (endV X)) (i : Int)) w).1 < 0 then (lnV X (lastV (W.map (endV X)) i) (rd (W.map (endV X)) (i : Int))).2.2.1 else (lnV X (lastV (W.map (endV X)) i) (rd (W.map (endV X)) (i : Int))).2.1) → Ev (fun k => regletlaw10_LinesWide.j5 k (linesV l s (stys R) X w (s.size : Int) (W.map (endV X)) (W.map (endV X)).length) X (rd (W.map (endV X)) (i : Int)) (i : Int) g (s, R, w, st) (W.map (endV X), u, false) (lnV X (lastV (W.map (endV X)) i) (rd (W.map (endV X)) (i : Int)))) true := fun g hg => by
          refine Ev.st (fun k => by rw [regletlaw10_LinesWide.j5]) ?_
          refine Ev.gx (by omega) (by rw [ll]; omega) ?_
          refine Ev.gx (by omega) (by rw [ll]; omega) ?_
          refine Ev.gx (by omega) (by rw [ll]; omega) ?_
          rw [li]
          refine Ev.xn ?_ j3
          show wrap64 (wrap64 ((lnV X _ _).1 * (fitV X _ _ w).2.1) + wrap64 (g * (fitV X _ _ w).1)) = wrap64 (w * (fitV X _ _ w).2.1)
          rw [w64_add, hg, F2]
         refine Ev.st (fun k => by rw [regletlaw10_LinesWide.j4]) (Ev.gx (by omega) (by rw [ll]; omega) ?_)
         rw [li]
         refine Ev.dc (fun c => ?_) (fun c => ?_)
         · have c : (fitV X (lastV (W.map (endV X)) i) (rd (W.map (endV X)) (i : Int)) w).1 < 0 := c
           exact j5 _ (by rw [if_pos c])
         · have c : ¬ (fitV X (lastV (W.map (endV X)) i) (rd (W.map (endV X)) (i : Int)) w).1 < 0 := c
           exact j5 _ (by rw [if_neg c])
       exact loop _ 0 (Nat.zero_add _)
     · obtain ⟨L, A, b, V, D, hr, I, J⟩ := Build_ev hl (s := s) (by omega) (R := R) (by omega) e
       refine Ev.bind (bad_para2 hl c.1 c.2 e hw) (Ev.bind (Ev.bind J (Ev.now _)) (Ev.xp ?_ (Ev.now _)))
       dsimp only
       repeat' split
       all_goals decide
   · have J := (bad_build (l := l) (s := s) (by omega) (R := R) (by omega) e).2
     exact Ev.bind (bad_para c.1 c.2 e) (Ev.bind (Ev.bind J (Ev.now _)) (Ev.xp e (Ev.now _)))
 · exact Ev.bind T (Ev.nilp rfl (Ev.now _))
end Go.Proofs.YtjbobaeggdafpaaGreat.Vm
