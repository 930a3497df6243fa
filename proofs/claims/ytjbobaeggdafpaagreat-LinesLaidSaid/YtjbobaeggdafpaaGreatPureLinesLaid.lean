/- Any paragraph has the lines that its breaks, styles and width ask for, or is refused. -/
import Derived.Test.YtjbobaeggdafpaaGreatLf
import Derived.Test.YtjbobaeggdafpaaGreatNi
import Derived.Test.YtjbobaeggdafpaaGreatNj
namespace Go.Proofs.YtjbobaeggdafpaaGreat.Vm
open Go
open _root_.Go.RowKit (wrap64)
theorem same_loop {got Y : List Lin} {C : List Int} (hC : C.length ≤ 1000000) (E : Ev (fun k => xN.f k got Y) true) : ∀ (d i : Nat), i + d = C.length → Ev (fun k => yI.l5 k got Y C C (i : Int)) true := by
 intro d
 induction d with
 | zero => exact fun i e => Ev.st (fun k => by rw [yI.l5]) (Ev.dn (by omega) (Ev.bind E (Ev.now _)))
 | succ d ih =>
  intro i e
  refine Ev.st (fun k => by rw [yI.l5]) (Ev.dp (by omega) ?_)
  refine Ev.gx (by omega) (by omega) ?_
  refine Ev.gx (by omega) (by omega) ?_
  refine Ev.xn rfl ?_
  rw [nx i (by omega)]
  exact ih (i + 1) (by omega)
theorem Pure.LinesLaid (l : List Styl) (a : Prg) (_ : okT (.row false tSty) l) (_ : okT tPara a) : ∃ k, yI.f k l a = some true := by
 refine Ev.rounds (Ev.bind awake10_ev (Ev.bn rfl ?_))
 rcases tab10 l with ⟨hl, T⟩ | T
 · refine Ev.bind T (Ev.somep rfl (Ev.bind (few10_ev a) (Ev.nc (fun _ => Ev.now _) (fun c => ?_))))
   have c := of_decide_eq_true c
   obtain ⟨s, R, w, st⟩ := a
   dsimp only at c
   refine Ev.st (fun k => by rw [yI.j0]) ?_
   by_cases e : chkC l s R = 0
   · by_cases hw : WS w st
     · obtain ⟨X, p, W, u, em, L, A, P⟩ := Para_ev hl c.1 c.2 e hw
       have hw' := hw
       unfold WS at hw'
       have bl := P.blen
       have sl := P.sty
       refine Ev.bind P.ev (Ev.bind P.build (Ev.xn rfl ?_))
       refine Ev.dn (by dsimp only; omega) (Ev.dn (by dsimp only; omega) ?_)
       refine Ev.bind (zDm st) ?_
       rw [decide_eq_true hw'.2.2]
       refine Ev.bn rfl (Ev.st (fun k => by rw [yI.j1]) ?_)
       refine Ev.bind (Price_yes P.sit em P.brk.first.1) (Ev.xn rfl (Ev.bn rfl (Ev.xn rfl ?_)))
       refine Ev.st (fun k => by rw [yI.j2]) (Ev.bind (rLegal_ev P.sit.good) ?_)
       have lay := Lay_ev (l := l) (w := w) (by omega) (by omega) P.lens P.sty P.some_ P.bks P.sit.par bl (by omega) u em
       have rlay := rLay_ev (l := l) (w := w) (by omega) (by omega) P.lens P.sty P.some_ P.bks P.sit.par bl (by omega) u em
       have alk : Ev (fun k => xN.f k (qP l s (stys R) X w (s.size : Int) (W.map (endV X)) (W.map (endV X)).length) (qP l s (stys R) X w (s.size : Int) (W.map (endV X)) (W.map (endV X)).length)) true := by
        refine Alike_ev _ (by rw [zBq]; exact bl) (fun i hi => ?_)
        rw [zBq] at hi
        rw [linesV_rd hi]
        exact own_len i (by omega)
       have j3 : Ev (fun k => yI.j3 k l l (qP l s (stys R) X w (s.size : Int) (W.map (endV X)) (W.map (endV X)).length) X (s, R, w, st) (W.map (endV X), u, em)) true := by
        refine Ev.st (fun k => by rw [yI.j3]) (Ev.bind P.new ?_)
        refine Ev.somep rfl ?_
        refine Ev.bind rlay (Ev.xn rfl (Ev.bind lay (Ev.bind alk (Ev.bn rfl ?_))))
        refine Ev.st (fun k => by rw [yI.j4]) ?_
        refine Ev.bind (Cuts_ev P.bks P.sit.par bl) (Ev.bind (rCuts_ev P.bks bl) (Ev.xn rfl ?_))
        exact same_loop (by rw [zBk]; exact bl) alk _ 0 (Nat.zero_add _)
       refine Ev.dc (fun _ => ?_) (fun _ => j3)
       obtain ⟨W', u', e', hb', E'⟩ := rBreak_ev P.sit
       obtain ⟨rfl, rfl, rfl⟩ := P.brk.uniq hb'
       exact Ev.bind E' (Ev.bind (Same_refl _ bl) (Ev.bn rfl j3))
     · have J := (Build_ev hl (s := s) (by omega) (R := R) (by omega) e)
       obtain ⟨L, A, b, V, D, hr, I, J⟩ := J
       refine Ev.bind (bad_para2 hl c.1 c.2 e hw) (Ev.bind J (Ev.xn rfl ?_))
       unfold WS at hw
       dsimp only
       refine Ev.dc (fun h => ?_) (fun h => ?_)
       · rw [if_pos h]; exact Ev.dp rfl (Ev.some_ rfl)
       rw [if_neg h]
       refine Ev.dc (fun h2 => ?_) (fun h2 => ?_)
       · rw [if_pos h2]; exact Ev.dp rfl (Ev.some_ rfl)
       rw [if_neg h2]
       refine Ev.bind (zDm st) ?_
       rw [decide_eq_false (fun z => hw ⟨by omega, by omega, z⟩)]
       exact Ev.bp rfl (Ev.dp rfl (Ev.some_ rfl))
   · have J := (bad_build (l := l) (s := s) (by omega) (R := R) (by omega) e).2
     refine Ev.bind (bad_para c.1 c.2 e) (Ev.bind J (Ev.xp e ?_))
     exact Ev.dp rfl (Ev.dp rfl (Ev.some_ rfl))
 · exact Ev.bind T (Ev.nilp rfl (Ev.now _))
end Go.Proofs.YtjbobaeggdafpaaGreat.Vm
