/- Widths and settings that may not be are refused. -/
import Derived.Test.YtpnodmiincdljaaNg
namespace Go.Proofs.Ytpnodmiincdljaa.Vm
open Go
open _root_.Go.RowKit (wrap64)
abbrev wordsL : List api_Item := [(1, 30, 0, 0, false, 0, false, 0, 1), (2, 10, 5, 3, false, 0, false, 1, 2), (1, 30, 0, 0, false, 0, false, 2, 3), (2, 10, 5, 3, false, 0, false, 3, 4), (1, 30, 0, 0, false, 0, false, 4, 5), (2, 0, 0, 0, true, 0, false, 5, 5), (3, 0, 0, 0, false, -10000, false, 5, 5)]
theorem words_ev : Ev (fun k => regletlaw09_words.f k) wordsL := Ev.far 5 (fun k => by kernel_rfl)
theorem words_right : RightI wordsL := by
  refine ⟨⟨by decide, by decide, by decide⟩, ?_⟩
  simp [RtL, OkI]
theorem Pure.BreaksRefuses (w : Int) (s : api_Settings) (_ : okT (.i .i64) w) (_ : okT tSet s) : ∃ k, regletlaw09_BreaksRefuses.f k w s = some true := by
  refine Ev.rounds (Ev.bind awake09_ev (Ev.bn rfl (Ev.bind words_ev ?_)))
  obtain ⟨p, hp, he⟩ := New_yes words_right
  have hb : Ev (fun k => regletlaw09_para.f k wordsL 9) (some p) := by
    have le : ¬ (9 : Int) < ((ends wordsL).length : Int) := by have := lgs_len wordsL wordsL.length; have e : wordsL.length = 7 := rfl; unfold ends; omega
    refine Ev.dn (by decide) (Ev.bind (rRight_ev _) (Ev.bn (by rw [isTrue_yes words_right]; rfl) (Ev.bind (rLegal_ev words_right.good) (Ev.dn le ?_))))
    refine Ev.st (fun k => by rw [regletlaw09_para.j0]) ?_
    refine Ev.bind he ?_
    exact Ev.somep rfl (Ev.xn rfl (Ev.now _))
  refine Ev.bind hb (Ev.somep rfl ?_)
  have chk := Check9_ev w s
  by_cases h1 : w < 1
  · rw [if_pos h1] at chk
    have v : Ev (fun k => breaks_Break.f k p w s) (([], 0, false), 41) := Ev.bind chk (Ev.xp (by decide) (Ev.now _))
    refine Ev.bind v (Ev.bind chk ?_)
    exact Ev.xn rfl (Ev.dp h1 (Ev.dp rfl (Ev.dp rfl (Ev.dp rfl (Ev.now _)))))
  · rw [if_neg h1] at chk
    by_cases h2 : 1073741824 < w
    · rw [if_pos h2] at chk
      have v : Ev (fun k => breaks_Break.f k p w s) (([], 0, false), 41) := Ev.bind chk (Ev.xp (by decide) (Ev.now _))
      refine Ev.bind v (Ev.bind chk ?_)
      exact Ev.xn rfl (Ev.dn h1 (Ev.dp h2 (Ev.dp rfl (Ev.dp rfl (Ev.dp rfl (Ev.now _))))))
    · rw [if_neg h2] at chk
      by_cases h3 : SetOk s
      · rw [if_pos h3] at chk
        have S : Sit wordsL p w s := ⟨hp, words_right, by omega, by omega, h3⟩
        obtain ⟨W, u, e, B, v⟩ := Break_ev S
        refine Ev.bind v (Ev.bind chk ?_)
        refine Ev.xn rfl (Ev.dn h1 (Ev.dn h2 (Ev.st (fun k => by rw [regletlaw09_BreaksRefuses.j0]) ?_)))
        refine Ev.bind (rSettings_ev s) (Ev.bn (by rw [decide_eq_true h3]; rfl) (Ev.dp rfl (Ev.some_ (decide_eq_true ?_))))
        cases W with
        | nil => have := B.first.1.1; have := S.n_pos; exact absurd this (by show ¬ 0 < (ends wordsL).length; have q : 0 = (ends wordsL).length := B.first.1.1; omega)
        | cons j W => simp only [List.map_cons, List.length_cons]; omega
      · rw [if_neg h3] at chk
        have v : Ev (fun k => breaks_Break.f k p w s) (([], 0, false), 80) := Ev.bind chk (Ev.xp (by decide) (Ev.now _))
        refine Ev.bind v (Ev.bind chk ?_)
        refine Ev.xn rfl (Ev.dn h1 (Ev.dn h2 (Ev.st (fun k => by rw [regletlaw09_BreaksRefuses.j0]) ?_)))
        exact Ev.bind (rSettings_ev s) (Ev.bp (by rw [decide_eq_false h3]; rfl) (Ev.dp rfl (Ev.dp rfl (Ev.dp rfl (Ev.now _)))))
end Go.Proofs.Ytpnodmiincdljaa.Vm
