/- A right text is as wide as its runes together, and as its two parts wherever it is cut between runes. -/
import Derived.Test.YtljbfmehdgfcfaaPx11
import Derived.Test.YtljbfmehdgfcfaaPx12
import Derived.Test.YtljbfmehdgfcfaaPx21
import Derived.Test.YtljbfmehdgfcfaaPx22
import Derived.Test.YtljbfmehdgfcfaaMt4
namespace Go.Proofs.Ytljbfmehdgfcfaa.Pure
open Go.RowKit Go.Proofs.YtljbfmehdgfcfaaW.PrintWords Go.Proofs.YtljbfmehdgfcfaaW.PrintLast
open Go.Proofs.Ytljbfmehdgfcfaa.P
theorem findR_bound (r o : Int) (ho : UnitOk o 0) : ∀ (l : List S61) (a : Int), rngC a l = 0 → UnitOk (findR r o l) 0
  | [], _, _ => ho
  | x :: xs, a, h => by
    unfold rngC at h
    by_cases q : x.f0 ≤ a ∨ x.f1 < x.f0 ∨ x.f1 > 1114111
    · rw [if_pos q] at h; omega
    rw [if_neg q] at h
    by_cases u : UnitOk x.f2 0
    · rw [if_pos u] at h
      unfold findR
      by_cases c : x.f0 ≤ r ∧ r ≤ x.f1
      · rw [if_pos c]; exact u
      · rw [if_neg c]; exact findR_bound r o ho xs _ h
    · rw [if_neg u] at h; omega
theorem width_bound {l : List S46} (h : ∀ s ∈ l, styC s = 0) (n r : Int) : 0 ≤ widthS (ofS l n) r ∧ widthS (ofS l n) r ≤ 1048576 := by
  obtain ⟨_, h2, _, h4, h5⟩ := ofS_ok h n
  unfold widthS
  by_cases c : kindOf r = 1 ∨ kindOf r = 2
  · rw [if_pos c]; exact h4
  rw [if_neg c]
  by_cases c2 : kindOf r = 3 ∨ kindOf r = 4 ∨ kindOf r = 5 ∨ kindOf r = 7 ∨ kindOf r = 8
  · rw [if_pos c2]; omega
  · rw [if_neg c2]; exact findR_bound r _ h5 _ _ h2
theorem Add_eq {x y : Int} (h0 : 0 ≤ x) (h1 : 0 ≤ y) (h2 : x ≤ 1099511627776) (h3 : y ≤ 1099511627776) : scaled_Add.f x y = some (x + y) := by
  have c : ∀ z : Int, 0 ≤ z → z ≤ 2199023255552 → scaled_Clamp.f z = some z := fun z a b => by unfold scaled_Clamp.f mx mn; congr 1; omega
  unfold scaled_Add.f
  rw [c x (by omega) (by omega), c y (by omega) (by omega)]; simp only [Option.bind_some]
  rw [w64 (by omega) (by omega), c (x + y) (by omega) (by omega)]; rfl
theorem refAdd_eq {x y : Int} (h0 : 0 ≤ x) (h1 : 0 ≤ y) (h2 : x ≤ 1099511627776) (h3 : y ≤ 1099511627776) : regletref01_Add.f x y = some (x + y) := by
  have c : ∀ z : Int, 0 ≤ z → z ≤ 2199023255552 → regletref01_Clamp.f z = some z := fun z a b => by unfold regletref01_Clamp.f; rw [if_neg (by omega), if_neg (by omega)]
  unfold regletref01_Add.f
  rw [c x (by omega) (by omega), c y (by omega) (by omega)]; simp only [Option.bind_some]
  rw [w64 (by omega) (by omega), c (x + y) (by omega) (by omega)]; rfl
def sumW (f : Int → Int) : List Int → Int
  | [] => 0
  | r :: L => f r + sumW f L
theorem sumW_append (f : Int → Int) (L M : List Int) : sumW f (L ++ M) = sumW f L + sumW f M := by
  induction L with
  | nil => simp [sumW]
  | cons r L ih => simp only [List.cons_append, sumW, ih]; omega
theorem sumW_bound (f : Int → Int) (hf : ∀ r, 0 ≤ f r ∧ f r ≤ 1048576) (L : List Int) : 0 ≤ sumW f L ∧ sumW f L ≤ 1048576 * L.length := by
  induction L with
  | nil => simp [sumW]
  | cons r L ih => have := hf r; simp only [sumW, List.length_cons]; omega
theorem Text_loop {l : List S46} (h : ∀ s ∈ l, styC s = 0) (n : Int) {s : ByteArray} {pos : Nat} {L A : List Int} (hd : Dec s s.size pos L A) :
    ∀ x : Int, 0 ≤ x → x + 1048576 * L.length ≤ 1099511627776 → Ev (fun k => metrics_Table_Text.l0 k l n s x pos) (x + sumW (widthS (ofS l n)) L) := by
  induction hd with
  | done =>
    intro x h0 h1
    exact metrics_Table_Text.l0.ev (Ev.ifn (Nat.lt_irrefl _) (Ev.some_ (by simp [sumW])))
  | @step pos r m L A he hd ih =>
    intro x h0 h1
    have p := he.pos1
    have p2 := he.1
    have wb := width_bound h n (r : Int)
    have hw := Width_ev h n (r := (r : Int)) (by omega)
    simp only [List.length_cons] at h1
    have ih' := ih (x + widthS (ofS l n) r) (by omega) (by omega)
    refine metrics_Table_Text.l0.ev (Ev.ifp (by omega) ?_)
    rw [decode_enc he]
    refine Ev.bind hw (Ev.bind (Ev.opt (Add_eq h0 wb.1 (by omega) (by omega))) ?_)
    refine Ev.lift ih' ?_
    simp only [sumW]; omega
theorem Text_ev {l : List S46} (h : ∀ s ∈ l, styC s = 0) (n : Int) {s : ByteArray} (hs : s.size ≤ 4096) {L A : List Int} (hd : Dec s s.size 0 L A) : Ev (fun k => metrics_Table_Text.f k l n s) (sumW (widthS (ofS l n)) L) := by
  have hl := hd.le
  have := Text_loop h n hd 0 (by omega) (by omega)
  exact Ev.lift this (by omega)
theorem refText_loop {l : List S46} (h : ∀ s ∈ l, styC s = 0) (n : Int) (L : List Int) (hL : L.length ≤ 4096) : ∀ (d i : Nat) (x : Int), i + d = L.length → 0 ≤ x → x ≤ 1048576 * i →
    Ev (fun k => regletref04_Text.l0 k l n L x i) (x + sumW (widthS (ofS l n)) (L.drop i)) := by
  intro d
  induction d with
  | zero =>
    intro i x hi h0 h1
    refine regletref04_Text.l0.ev (Ev.ifn (by omega) (Ev.some_ ?_))
    rw [List.drop_of_length_le (by omega)]; simp [sumW]
  | succ d ih =>
    intro i x hi h0 h1
    have wb := width_bound h n (L.getD i 0)
    have ih' := ih (i + 1) (x + widthS (ofS l n) (L.getD i 0)) (by omega) (by omega) (by omega)
    refine regletref04_Text.l0.ev (Ev.ifp (by omega) (Ev.ifp (by omega) ?_))
    rw [rd_nat]
    refine Ev.bind (refWidth_ev h n _) (Ev.bind (Ev.opt (refAdd_eq h0 wb.1 (by omega) (by omega))) ?_)
    rw [w64 (by omega) (by omega)]
    refine Ev.lift ih' ?_
    rw [drop_cons L i 0 (by omega)]
    simp only [sumW]; omega
theorem MetricsTexts : ∀ (l0 : List (S46)) (a1 : Int) (a2 : ByteArray), (OkList 80 ok46) l0 → (fun n => (Lit.int .i64 n).wf = true) a1 → (fun s => s.size ≤ 140737488351232) a2 → ∃ k, regletlaw04_MetricsTexts.f k l0 a1 a2 = some true := by
  intro l n s hl _ hs
  refine Ev.rounds (Ev.bind awake_ev (Ev.ifp rfl (Ev.bind (table_ev l) ?_)))
  by_cases h : (chkL l).1 = 0
  rotate_left
  · simp only [h, decide_false, if_false]
    exact Ev.ifn (by simp) (Ev.now _)
  simp only [h, decide_true, if_true]
  obtain ⟨_, _, hk⟩ := chkL_ok h
  have skip : ∀ b, b = true → Ev (fun k => regletlaw04_MetricsTexts.j0 k l n s b l) true := fun b hb => regletlaw04_MetricsTexts.j0.ev (Ev.ifp hb (Ev.now _))
  refine Ev.ifc (fun _ => skip _ rfl) (fun c => ?_)
  have hs : s.size ≤ 4096 := by omega
  obtain ⟨L, A, b, e1, e2⟩ := Runes_ev s hs
  refine Ev.bind (Ev.bind e1 (Ev.now _)) ?_
  by_cases hb : b < 0
  rotate_left
  · exact skip _ (by simp; omega)
  have hd := e2 hb
  have hle := hd.le
  have ht := Text_ev hk n hs hd
  have hr : Ev (fun k => regletref04_Text.f k l n s) (sumW (widthS (ofS l n)) L) := by
    refine Ev.bind e1 ?_
    have := refText_loop hk n L (by omega) L.length 0 0 (by omega) (by omega) (by omega)
    simpa using this
  refine regletlaw04_MetricsTexts.j0.ev (Ev.ifn (by simp; omega) (Ev.bind ht (Ev.bind e1 ?_)))
  have fin : ∀ i : Nat, Ev (fun k => regletlaw04_MetricsTexts.j2 k l n s (sumW (widthS (ofS l n)) L) A i false l) true :=
    fun i => regletlaw04_MetricsTexts.j2.ev (Ev.ifn (by simp) (Ev.bind hr (Ev.some_ (by simp))))
  have loop : ∀ (d i : Nat), i + d = A.length → Ev (fun k => regletlaw04_MetricsTexts.l0 k l n s (sumW (widthS (ofS l n)) L) A i l) true := by
    intro d
    induction d with
    | zero => exact fun i hi => regletlaw04_MetricsTexts.l0.ev (Ev.ifn (by omega) (fin i))
    | succ d ih =>
      intro i hi
      refine regletlaw04_MetricsTexts.l0.ev (Ev.ifp (by omega) ?_)
      by_cases c30 : (i : Int) < 30
      rotate_left
      · rw [decide_eq_false c30]; exact fin i
      rw [decide_eq_true c30]
      obtain ⟨m, L1, L2, A1, A2, q1, q2, q3, q4, q5⟩ := hd.split (rd A i) (rd_mem (by omega) (by omega))
      refine regletlaw04_MetricsTexts.j2.ev (Ev.ifp rfl (Ev.ifp (by omega) (Ev.ifp (by omega) ?_)))
      rw [q1]
      refine Ev.ifp (by omega) (Ev.ifp (by omega) ?_)
      have l1 := q4.le
      have l2 := q5.le
      obtain ⟨B1, d1⟩ := q4.extract 0 0 rfl q2
      obtain ⟨B2, d2⟩ := q5.extract m 0 rfl (Nat.le_refl _)
      rw [show ((m : Nat) : Int).toNat = m from Int.toNat_natCast m]
      have z1 : (s.extract 0 m).size = m - 0 := by rw [ByteArray.size_extract]; omega
      have z2 : (s.extract m s.size).size = s.size - m := by rw [ByteArray.size_extract]; omega
      rw [← z1] at d1
      rw [← z2] at d2
      refine Ev.bind (Text_ev hk n (by omega) d1) (Ev.bind (Text_ev hk n (by omega) d2) (Ev.ifp ?_ ?_))
      · have b1 := sumW_bound _ (fun r => width_bound hk n r) L1
        have b2 := sumW_bound _ (fun r => width_bound hk n r) L2
        rw [q3, sumW_append, w64 (by omega) (by omega)]
      · rw [w64 (by omega) (by omega)]
        exact ih (i + 1) (by omega)
  exact loop A.length 0 (by omega)
end Go.Proofs.Ytljbfmehdgfcfaa.Pure
