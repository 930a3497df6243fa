/- A page is no higher than it should be, unless it is one part alone; the next part wouldn't have fitted; and the heights are told. -/
import Derived.Test.YtknlneeglkchmaaPx8
import Derived.Test.YtknlneeglkchmaaPx14
import Derived.Test.YtknlneeglkchmaaPx15
import Derived.Test.YtknlneeglkchmaaPg3
namespace Go.Proofs.Ytknlneeglkchmaa.Pure
open Go.RowKit Go.Proofs.YtknlneeglkchmaaW.PrintWords Go.Proofs.YtknlneeglkchmaaW.PrintLast Go.Proofs.YtknlneeglkchmaaW.PrintMore
open Go.Proofs.Ytknlneeglkchmaa.P
/-- the line behind page p -/
def endM (s : List Int) (p n : Int) : Int := if p < (s.length : Int) - 1 then rd s (p + 1) else n
theorem pages_End_eq {s : List Int} (hs : (s.length : Int) ≤ 1099511627776) {p : Int} (h0 : 0 ≤ p) (h1 : p < s.length) (n : Int) : pages_End.f s p n = some (endM s p n) := by
  unfold pages_End.f endM
  rw [w64 (x := (s.length : Int) - 1) (by omega) (by omega), w64 (x := p + 1) (by omega) (by omega)]
  by_cases c : p < (s.length : Int) - 1
  · rw [if_pos c, if_pos (by omega), if_pos (by omega), if_pos c]
  · rw [if_neg c, if_neg c]
theorem ref_End_eq {s : List Int} (hs : (s.length : Int) ≤ 1099511627776) {p : Int} (h0 : 0 ≤ p) (h1 : p < s.length) (n : Int) : regletref12_End.f s p n = some (endM s p n) := by
  unfold regletref12_End.f endM
  rw [w64 (x := (s.length : Int) - 1) (by omega) (by omega), w64 (x := p + 1) (by omega) (by omega)]
  by_cases c : p < (s.length : Int) - 1
  · rw [if_pos c, if_pos (by omega), if_pos (by omega), if_pos c]
  · rw [if_neg c, if_neg c]
theorem rd_cons {a : Int} {s : List Int} {j : Int} (hj : 0 < j) : rd (a :: s) j = rd s (j - 1) := by
  unfold rd
  rw [show j.toNat = (j - 1).toNat + 1 by omega]; rfl
theorem chain_next {l : List S42} {o w h a : Int} {s : List Int} (c : Chain l o w h a s) : ∀ p : Int, 0 ≤ p → p < s.length → 0 ≤ rd s p ∧ rd s p < l.length ∧ IsNext l o w (rd s p) h (endM s p l.length) := by
  induction c with
  | done h => intro p h0 h1; simp at h1; omega
  | more h0 hlt n c ih =>
    rename_i a r s
    intro p p0 p1
    simp only [List.length_cons] at p1
    by_cases e : p = 0
    · subst e
      refine ⟨h0, hlt, ?_⟩
      show IsNext l o w a h _
      have : endM (a :: s) 0 l.length = r := by
        unfold endM
        cases c with
        | done e => rw [if_neg (by simp)]; exact e.symm
        | more q0 q1 q2 q3 => rw [if_pos (by simp only [List.length_cons]; omega)]; rfl
      rw [this]; exact n
    · obtain ⟨q0, q1, q2⟩ := ih (p - 1) (by omega) (by omega)
      rw [rd_cons (by omega)]
      have : endM (a :: s) p l.length = endM s (p - 1) l.length := by
        unfold endM
        simp only [List.length_cons]
        by_cases c : p - 1 < (s.length : Int) - 1
        · rw [if_pos (by omega), if_pos c, rd_cons (by omega), show p + 1 - 1 = p - 1 + 1 by omega]
        · rw [if_neg (by omega), if_neg c]
      rw [this]
      exact ⟨q0, q1, q2⟩
/-- the pages' heights, from page i on -/
def hts (l : List S42) (s : List Int) : Nat → Int → List Int
  | 0, _ => []
  | d + 1, i => high l (rd s i) (endM s i l.length) :: hts l s d (i + 1)
theorem hts_length (l : List S42) (s : List Int) : ∀ (d : Nat) (i : Int), (hts l s d i).length = d
  | 0, _ => rfl
  | d + 1, i => by simp [hts, hts_length l s d]
theorem hts_rd (l : List S42) (s : List Int) : ∀ (d : Nat) (i j : Int), 0 ≤ j → j < d → rd (hts l s d i) j = high l (rd s (i + j)) (endM s (i + j) l.length)
  | 0, i, j, h0, h1 => by omega
  | d + 1, i, j, h0, h1 => by
    by_cases e : j = 0
    · subst e; rw [show i + 0 = i by omega]; rfl
    · show rd (_ :: hts l s d (i + 1)) j = _
      rw [rd_cons (by omega), hts_rd l s d (i + 1) (j - 1) (by omega) (by omega), show i + 1 + (j - 1) = i + j by omega]
theorem heights_ev {l : List S42} (hf : Few l) (hh : HighOk l) {o w h : Int} {s : List Int} (c : Chain l o w h 0 s) : Ev (fun k => pages_Heights.f k l s) (hts l s s.length 0) := by
  have hf' := hf
  unfold Few at hf'
  have hlen := c.length_le
  have hn := chain_next c
  have loop : ∀ (d : Nat) (i : Int) (acc : List Int), 0 ≤ i → i + d = s.length → (acc.length : Int) ≤ i → Ev (fun k => pages_Heights.l0 k l s acc s (s.length : Int) i) (acc ++ hts l s d i) := by
    intro d
    induction d with
    | zero => intro i acc h0 hi ha; exact pages_Heights.l0.ev (Ev.ifn (by omega) (Ev.some_ (by simp [hts])))
    | succ d ih =>
      intro i acc h0 hi ha
      obtain ⟨p0, p1, p2⟩ := hn i h0 (by omega)
      have pl := p2.le
      have pt := p2.lt
      have inner : ∀ (e : Nat) (j : Int), rd s i ≤ j → j + e = endM s i l.length → Ev (fun k => pages_Heights.l1 k l s acc i (high l (rd s i) j) j s (s.length : Int) i) (acc ++ hts l s (d + 1) i) := by
        intro e
        induction e with
        | zero =>
          intro j h1 h2
          have : j = endM s i l.length := by omega
          subst this
          refine pages_Heights.l1.ev (Ev.bind (Ev.opt (pages_End_eq (by omega) h0 (by omega) _)) (Ev.ifn (by unfold mn; split <;> omega) (Ev.ifp (by omega) ?_)))
          rw [w64 (x := i + 1) (by omega) (by omega)]
          have := ih (i + 1) (acc ++ [high l (rd s i) (endM s i l.length)]) (by omega) (by omega) (by simp only [List.length_append, List.length_singleton]; omega)
          rw [List.append_assoc] at this
          exact this
        | succ e ih2 =>
          intro j h1 h2
          have hs := high_succ l h1
          have hb := high_le hh p0 (show rd s i ≤ j + 1 by omega) (by omega)
          refine pages_Heights.l1.ev (Ev.bind (Ev.opt (pages_End_eq (by omega) h0 (by omega) _)) (Ev.ifp (by unfold mn; split <;> omega) (Ev.ifp (by omega) (Ev.ifp (by omega) ?_))))
          rw [← hs, w64 (x := high l (rd s i) (j + 1)) (by omega) (by omega), w64 (x := j + 1) (by omega) (by omega)]
          exact ih2 (j + 1) (by omega) (by omega)
      have := inner (endM s i l.length - rd s i).toNat (rd s i) (Int.le_refl _) (by omega)
      rw [high_self] at this
      refine pages_Heights.l0.ev (Ev.ifp (by omega) (Ev.ifp h0 (Ev.ifp (by omega) ?_)))
      rw [show mx (rd s i) 0 = rd s i by unfold mx; split <;> omega]
      exact this
  exact loop s.length 0 [] (by omega) (by omega) (by simp)
theorem PagesFit : ∀ (l0 : List (S42)) (a1 : Int) (a2 : S24), (OkList 32 ok42) l0 → (fun n => (Lit.int .i64 n).wf = true) a1 → ok24 a2 → ∃ k, regletlaw12_PagesFit.f k l0 a1 a2.f0 a2.f1 a2.f2 a2.f3 a2.f4 a2.f5 a2.f6 = some true := by
  intro l h t hl _ _
  have hw := wf_of hl
  refine Ev.rounds (Ev.bind awake_ev (Ev.ifp rfl (Ev.bind (tried_ev hw h t.f0 t.f1 t.f2 t.f3 t.f4 t.f5 t.f6) (Ev.ifc (fun c => ?_) (fun _ => Ev.now _)))))
  obtain ⟨c1, c2, c34⟩ := isTrue_iff.1 c
  have hf := few_of c1
  have hh := c2.high
  obtain ⟨s, hc, e1, _⟩ := pages_Paginate_yes hw hf c34 c2
  have hlen := hc.length_le
  have hn := chain_next hc
  have hht := hts_length l s s.length 0
  have hrd := hts_rd l s s.length 0
  refine Ev.bind e1 (Ev.bind (heights_ev hf hh hc) (Ev.ifp rfl ?_))
  generalize hts l s s.length 0 = H at *
  refine regletlaw12_PagesFit.j0.ev (Ev.ifn (by rw [hht]; simp) ?_)
  have cut : ∀ {i : Int}, 0 ≤ i → i ≤ l.length → regletref12_Cut.f l i t.f0 t.f1 t.f2 t.f3 t.f4 t.f5 t.f6 = some (isTrue (CutL l t.f5 t.f6 i)) := fun a b => ref_Cut_eq hw c2 a (by omega) _ _ _ _ _ _ _
  have loop : ∀ (d : Nat) (i : Int), 0 ≤ i → i + d = s.length → Ev (fun k => regletlaw12_PagesFit.l0 k l h s H i t.f0 t.f1 t.f2 t.f3 t.f4 t.f5 t.f6) true := by
    intro d
    induction d with
    | zero => intro i h0 hi; exact regletlaw12_PagesFit.l0.ev (Ev.ifn (by omega) (Ev.now _))
    | succ d ih =>
      intro i h0 hi
      obtain ⟨p0, p1, p2⟩ := hn i h0 (by omega)
      have pl := p2.le
      have pt := p2.lt
      have hi' := hrd i h0 (by omega)
      rw [Int.zero_add] at hi'
      have next : Ev (fun k => regletlaw12_PagesFit.l0 k l h s H (wrap64 (i + 1)) t.f0 t.f1 t.f2 t.f3 t.f4 t.f5 t.f6) true := by
        rw [w64 (x := i + 1) (by omega) (by omega)]
        exact ih (i + 1) (by omega) (by omega)
      -- the next part wouldn't have fitted
      have seek : ∀ (e : Nat) (j : Int), endM s i l.length < j → j + e = l.length → Ev (fun k => regletlaw12_PagesFit.l2 k l h s H i j t.f0 t.f1 t.f2 t.f3 t.f4 t.f5 t.f6) true := by
        intro e
        induction e with
        | zero =>
          intro j h1 h2
          have : j = l.length := by omega
          have cj : CutL l t.f5 t.f6 j := .inl this
          have f := p2.far j h1 (by omega) cj
          exact regletlaw12_PagesFit.l2.ev (Ev.bind (Ev.opt (cut (by omega) (by omega))) (Ev.ifp (isTrue_yes cj) (Ev.ifp h0 (Ev.ifp (by omega) (Ev.bind (ref_High_ev hf hh p0 (by omega) (by omega)) (Ev.ifn (by omega) next))))))
        | succ e ih2 =>
          intro j h1 h2
          refine regletlaw12_PagesFit.l2.ev (Ev.bind (Ev.opt (cut (by omega) (by omega))) (Ev.ifc (fun q => ?_) (fun _ => ?_)))
          · have f := p2.far j h1 (by omega) (isTrue_iff.1 q)
            exact Ev.ifp h0 (Ev.ifp (by omega) (Ev.bind (ref_High_ev hf hh p0 (by omega) (by omega)) (Ev.ifn (by omega) next)))
          · rw [w64 (x := j + 1) (by omega) (by omega)]
            exact ih2 (j + 1) (by omega) (by omega)
      have j3 : ∀ b, b = false → Ev (fun k => regletlaw12_PagesFit.j3 k l h s H i (endM s i l.length) b t.f0 t.f1 t.f2 t.f3 t.f4 t.f5 t.f6) true := by
        intro b hb
        refine regletlaw12_PagesFit.j3.ev (Ev.ifn (by rw [hb]; simp) (Ev.ifc (fun q => ?_) (fun _ => next)))
        rw [w64 (x := endM s i l.length + 1) (by omega) (by omega)]
        exact seek ((l.length : Int) - (endM s i l.length + 1)).toNat _ (by omega) (by omega)
      have count : ∀ (e : Nat) (j n : Int), rd s i < j → j + e = endM s i l.length + 1 → 0 ≤ n → n ≤ j → ((∀ q, rd s i < q → q < endM s i l.length → ¬ CutL l t.f5 t.f6 q) → n = if endM s i l.length < j then 1 else 0) →
          Ev (fun k => regletlaw12_PagesFit.l1 k l h s H i (endM s i l.length) n j t.f0 t.f1 t.f2 t.f3 t.f4 t.f5 t.f6) true := by
        intro e
        induction e with
        | zero =>
          intro j n h1 h2 n0 n1 h3
          refine regletlaw12_PagesFit.l1.ev (Ev.ifn (by omega) (Ev.ifp h0 (Ev.ifp (by omega) (Ev.ifc (fun q => ?_) (fun _ => j3 _ rfl)))))
          rw [hi'] at q
          have none_ : ∀ q, rd s i < q → q < endM s i l.length → ¬ CutL l t.f5 t.f6 q := by
            rcases p2.fit with f | f
            · omega
            · exact f
          have := h3 none_
          rw [if_pos (by omega)] at this
          exact j3 _ (by rw [this]; rfl)
        | succ e ih2 =>
          intro j n h1 h2 n0 n1 h3
          refine regletlaw12_PagesFit.l1.ev (Ev.ifp (by omega) (Ev.bind (Ev.opt (cut (by omega) (by omega))) (Ev.ifc (fun q => ?_) (fun q => ?_))))
          · rw [w64 (x := n + 1) (by omega) (by omega), w64 (x := j + 1) (by omega) (by omega)]
            refine ih2 (j + 1) (n + 1) (by omega) (by omega) (by omega) (by omega) (fun none_ => ?_)
            have hj : ¬ j < endM s i l.length := fun hj => none_ j h1 hj (isTrue_iff.1 q)
            have := h3 none_
            rw [if_neg (by omega)] at this
            rw [if_pos (by omega)]; omega
          · rw [w64 (x := j + 1) (by omega) (by omega)]
            refine ih2 (j + 1) n (by omega) (by omega) (by omega) (by omega) (fun none_ => ?_)
            have hj : j ≠ endM s i l.length := fun hj => q (isTrue_yes (by rw [hj]; exact p2.cut))
            have := h3 none_
            rw [if_neg (by omega)] at this
            rw [if_neg (by omega)]; exact this
      refine regletlaw12_PagesFit.l0.ev (Ev.ifp (by omega) (Ev.bind (Ev.opt (ref_End_eq (by omega) h0 (by omega) _)) (Ev.ifp h0 (Ev.ifp (by omega) (Ev.bind (ref_High_ev hf hh p0 (by omega) pl) (Ev.ifp hi' ?_))))))
      rw [w64 (x := rd s i + 1) (by omega) (by omega)]
      exact count (endM s i l.length - rd s i).toNat _ 0 (by omega) (by omega) (by omega) (by omega) (fun _ => by rw [if_neg (by omega)])
  exact loop s.length 0 (by omega) (by omega)
end Go.Proofs.Ytknlneeglkchmaa.Pure
