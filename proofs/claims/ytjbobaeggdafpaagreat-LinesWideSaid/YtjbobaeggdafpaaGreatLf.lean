/- Chapter 10: tables, paragraphs that are tried, lines alike. -/
import Derived.Test.YtjbobaeggdafpaaGreatLe
namespace Go.Proofs.YtjbobaeggdafpaaGreat.Vm
open Go
open _root_.Go.RowKit (wrap64)
theorem table10_ev (l : List Styl) : Ev (fun k => regletlaw10_table.f k l) (if (chkL l).1 = 0 then some l else none) := by
 refine Ev.bind (refCheck_ev l) (Ev.xc (fun h => Ev.some_ (by rw [if_neg h])) (fun h => ?_))
 have N := MNew_ev l
 unfold newC at N
 rw [if_pos h] at N
 rw [if_pos h]
 refine Ev.bind N ?_
 first
  | exact Ev.somep rfl (Ev.now _)
  | exact Ev.now _
theorem tab10 (l : List Styl) : (∀ s ∈ l, styC s = 0) ∧ Ev (fun k => regletlaw10_table.f k l) (some l) ∨ Ev (fun k => regletlaw10_table.f k l) none := by
 have T := table10_ev l
 by_cases c : (chkL l).1 = 0
 · rw [if_pos c] at T; exact .inl ⟨(chkL_ok c).2.2, T⟩
 · rw [if_neg c] at T; exact .inr T
abbrev Prg := ByteArray × List api_Run × Int × Int × Int × Int × Int × Int × Int × Int
theorem few10_ev (a : Prg) : Ev (fun k => regletlaw10_few.f k a) (decide (a.1.size ≤ 400 ∧ a.2.1.length ≤ 100)) := by
 refine Ev.dc (fun h => Ev.some_ ?_) (fun h => Ev.some_ ?_)
 · rw [decide_eq_decide]; omega
 · rw [eq_comm, decide_eq_false_iff_not]; omega
theorem bad_para {l : List Styl} {s : ByteArray} (hs : s.size ≤ 400) {R : List (Int × Int)} (hR : R.length ≤ 100) {w : Int} {st : api_Settings} (hc : chkC l s R ≠ 0) : Ev (fun k => lines_Paragraph.f k l s R w st) (([] : List Lin), (([] : List Int), 0, false), chkC l s R) :=
 Ev.bind (bad_build (l := l) (s := s) (by omega) (R := R) (by omega) hc).1 (Ev.xp hc (Ev.now _))
theorem bad_para2 {l : List Styl} (hl : ∀ s ∈ l, styC s = 0) {s : ByteArray} (hs : s.size ≤ 400) {R : List (Int × Int)} (hR : R.length ≤ 100) {w : Int} {st : api_Settings} (hc : chkC l s R = 0) (hw : ¬ WS w st) : Ev (fun k => lines_Paragraph.f k l s R w st) (([] : List Lin), (([] : List Int), 0, false), if w < 1 then 41 else if 1073741824 < w then 41 else 80) := by
 obtain ⟨L, A, b, V, D, hr, I, J⟩ := Build_ev hl (s := s) (by omega) (R := R) (by omega) hc
 have C := Check9_ev w st
 refine Ev.bind I (Ev.xn rfl ?_)
 unfold WS at hw
 by_cases c : w < 1
 · rw [if_pos c] at C ⊢
   exact Ev.bind C (Ev.xp (by decide) (Ev.now _))
 rw [if_neg c] at C ⊢
 by_cases c2 : 1073741824 < w
 · rw [if_pos c2] at C ⊢
   exact Ev.bind C (Ev.xp (by decide) (Ev.now _))
 rw [if_neg c2] at C ⊢
 rw [if_neg (fun z => hw ⟨by omega, by omega, z⟩)] at C
 exact Ev.bind C (Ev.xp (by decide) (Ev.now _))
end Go.Proofs.YtjbobaeggdafpaaGreat.Vm
