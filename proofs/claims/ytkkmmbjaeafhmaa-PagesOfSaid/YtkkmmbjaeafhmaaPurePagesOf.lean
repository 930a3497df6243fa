/- Lines are put on their pages as they are, each where the ones ahead of it leave off; what is told is the asker's. -/
import Derived.Test.YtkkmmbjaeafhmaaPo
namespace Go.Proofs.Ytkkmmbjaeafhmaa.Vm
open Go
open _root_.Go.RowKit (wrap64)
section
variable (l : List Lin12) (st : List Int) (p k : Nat) (y : Int) (x : Lin12)
/-- A line's runs are written; the others stay. -/
theorem law12_l8 (hx : x.2.1.length ≤ 50) (hp' : p < 200) (hk' : k < 200) : ∀ (d n : Nat) (G : List (List Lin12)), n + d = x.2.1.length → p < G.length → k < (rd G (p : Int)).length → (rd (rd G (p : Int)) (k : Int)).2.1.length = x.2.1.length →
    (∀ G' : List (List Lin12), G'.length = G.length → (∀ q : Nat, q ≠ p → rd G' (q : Int) = rd G (q : Int)) → (rd G' (p : Int)).length = (rd G (p : Int)).length → (∀ j : Nat, j ≠ k → rd (rd G' (p : Int)) (j : Int) = rd (rd G (p : Int)) (j : Int)) → Ev (fun K => regletlaw12_PagesOf.l7 K l st G' (p : Int) y ((k + 1 : Nat) : Int)) true) →
    Ev (fun K => regletlaw12_PagesOf.l8 K l st G (p : Int) y (k : Int) (n : Int) x) true := by
  intro d
  induction d with
  | zero =>
    intro n G e h1 h2 h3 hnext
    refine Ev.st (fun K => by rw [regletlaw12_PagesOf.l8]) ?_
    refine Ev.gx (by omega) (by omega) ?_
    refine Ev.gx (by omega) (by omega) ?_
    refine Ev.dn (by omega) ?_
    rw [nx k (by omega)]
    exact hnext G rfl (fun _ _ => rfl) rfl fun _ _ => rfl
  | succ d ih =>
    intro n G e h1 h2 h3 hnext
    refine Ev.st (fun K => by rw [regletlaw12_PagesOf.l8]) ?_
    refine Ev.gx (by omega) (by omega) ?_
    refine Ev.gx (by omega) (by omega) ?_
    refine Ev.dp (by omega) ?_
    refine Ev.at_ (by omega) (by omega) ?_
    refine Ev.gx (by omega) (by omega) ?_
    refine Ev.gx (by omega) (by omega) ?_
    refine Ev.ifp (by omega) ?_
    refine Ev.ix (rd_ix (by omega) (by omega)) ?_
    refine Ev.ix (rd_ix (by omega) (by omega)) ?_
    refine Ev.ix (rd_ix (by omega) (by omega)) ?_
    refine Ev.at_ (by omega) (by omega) ?_
    refine Ev.bn (by simp) ?_
    rw [nx n (by omega), Int.toNat_natCast, Int.toNat_natCast, Int.toNat_natCast]
    refine ih (n + 1) _ (by omega) (by rw [List.length_set]; exact h1) ?_ ?_ fun G' g1 g2 g3 g4 => ?_
    · rw [rd_set_eq h1, List.length_set]; exact h2
    · rw [rd_set_eq h1, rd_set_eq h2]
      show (List.set _ _ _).length = _
      rw [List.length_set]; exact h3
    · rw [List.length_set] at g1
      rw [rd_set_eq h1, List.length_set] at g3
      refine hnext G' g1 (fun q hq => (g2 q hq).trans (rd_set_ne (Ne.symm hq) _)) g3 fun j hj => ?_
      rw [g4 j hj, rd_set_eq h1, rd_set_ne (Ne.symm hj)]
end
theorem law12_l7 {l : List Lin12} (hf : Few l) {st : List Int} (hs : Sts st l.length) {p : Nat} (hp : p < st.length) : ∀ (d k : Nat) (G : List (List Lin12)), fromN st p + k + d = toN st l.length p → p < G.length → (rd G (p : Int)).length = toN st l.length p - fromN st p →
    (∀ j : Nat, k ≤ j → j < toN st l.length p - fromN st p → rd (rd G (p : Int)) (j : Int) = withY (rd l ((fromN st p + j : Nat) : Int)) (sumH l (fromN st p) j)) →
    (∀ G' : List (List Lin12), G'.length = G.length → (∀ q : Nat, q ≠ p → rd G' (q : Int) = rd G (q : Int)) → Ev (fun K => regletlaw12_PagesOf.l6 K l st G' ((p + 1 : Nat) : Int)) true) →
    Ev (fun K => regletlaw12_PagesOf.l7 K l st G (p : Int) (sumH l (fromN st p) k) (k : Int)) true := by
  have hn := hf.1
  have hsl := hs.len
  obtain ⟨a1, a2, a3⟩ := hs.at_ hp
  intro d
  induction d with
  | zero =>
    intro k G e h1 h2 h3 hnext
    refine Ev.st (fun K => by rw [regletlaw12_PagesOf.l7]) ?_
    refine Ev.gx (by omega) (by omega) ?_
    refine Ev.dn (by omega) ?_
    rw [nx p (by omega)]
    exact hnext G rfl fun _ _ => rfl
  | succ d ih =>
    intro k G e h1 h2 h3 hnext
    refine Ev.st (fun K => by rw [regletlaw12_PagesOf.l7]) ?_
    refine Ev.gx (by omega) (by omega) ?_
    refine Ev.dp (by omega) ?_
    refine Ev.gx (by omega) (by omega) ?_
    rw [a1, nx2 _ _ (by omega)]
    refine Ev.at_ (by omega) (by omega) ?_
    refine Ev.gx (by omega) (by omega) ?_
    refine Ev.gx (by omega) (by omega) ?_
    obtain ⟨c1, c2, c3⟩ := hf.2 (fromN st p + k) (by omega)
    obtain ⟨s1, s2⟩ := sumH_in hf (fromN st p) k (by omega)
    rw [h3 k (Nat.le_refl _) (by omega)]
    refine Ev.bind (refSame_refl (withY (rd l ((fromN st p + k : Nat) : Int)) (sumH l (fromN st p) k)) c3) ?_
    refine Ev.ifn (by simp) ?_
    have e1 : wrap64 (sumH l (fromN st p) k + (rd l ((fromN st p + k : Nat) : Int)).2.2.2.2.1) = sumH l (fromN st p) (k + 1) := w64 (by omega) (by omega)
    rw [e1]
    refine law12_l8 l st p k _ (withY (rd l ((fromN st p + k : Nat) : Int)) (sumH l (fromN st p) k)) c3 (by omega) (by omega) _ 0 G (Nat.zero_add _) h1 (by omega) (by rw [h3 k (Nat.le_refl _) (by omega)]) fun G' g1 g2 g3 g4 => ?_
    refine ih (k + 1) G' (by omega) (by omega) (by omega) (fun j hj hj' => ?_) fun G2 b1 b2 => ?_
    · rw [g4 j (by omega)]
      exact h3 j (by omega) hj'
    · exact hnext G2 (b1.trans g1) fun q hq => (b2 q hq).trans (g2 q hq)
theorem law12_l6 {l : List Lin12} (hf : Few l) {st : List Int} (hs : Sts st l.length) : ∀ (d p : Nat) (G : List (List Lin12)), p + d = st.length → G.length = st.length → (∀ q : Nat, p ≤ q → q < st.length → rd G (q : Int) = pgL l (fromN st q) (toN st l.length q - fromN st q)) →
    Ev (fun K => regletlaw12_PagesOf.l6 K l st G (p : Int)) true := by
  have hn := hf.1
  have hsl := hs.len
  intro d
  induction d with
  | zero => exact fun p G e h1 h2 => Ev.st (fun K => by rw [regletlaw12_PagesOf.l6]) (Ev.dn (by omega) (Ev.now _))
  | succ d ih =>
    intro p G e h1 h2
    have hp : p < st.length := by omega
    obtain ⟨a1, a2, a3⟩ := hs.at_ hp
    have hr := h2 p (Nat.le_refl _) hp
    have hlen : (rd G (p : Int)).length = toN st l.length p - fromN st p := by rw [hr]; exact pgL_len _ _ _
    refine Ev.st (fun K => by rw [regletlaw12_PagesOf.l6]) (Ev.dp (by omega) ?_)
    refine Ev.bind (End_ev hs hn hp).2 ?_
    refine Ev.gx (by omega) (by omega) ?_
    refine Ev.gx (by omega) (by omega) ?_
    rw [a1]
    have e1 : wrap64 ((toN st l.length p : Int) - (fromN st p : Int)) = (toN st l.length p : Int) - (fromN st p : Int) := w64 (by omega) (by omega)
    rw [e1]
    refine Ev.xn (by omega) ?_
    refine law12_l7 hf hs hp (toN st l.length p - fromN st p) 0 G (by omega) (by omega) hlen (fun j _ hj => ?_) fun G' g1 g2 => ?_
    · rw [hr]; exact pgL_rd _ _ _ j hj
    · exact ih (p + 1) G' (by omega) (by omega) fun q hq hq' => (g2 q (by omega)).trans (h2 q (by omega) hq')
theorem Pure.PagesOf (l : List Lin12) (gaps : List Int) (_ : okT (.row false tLine12) l) (hg : okT (.row false (.i .i64)) gaps) : ∃ k, regletlaw12_PagesOf.f k l gaps = some true := by
  have hgl : gaps.length ≤ 140737488351232 := hg.1
  refine Ev.rounds (Ev.congr (fun k => by rw [regletlaw12_PagesOf.f]) (Ev.bind awake12_ev (Ev.bn rfl (Ev.dc (fun _ => Ev.now _) fun h100 => ?_))))
  -- behind the beginnings
  have rest : ∀ st : List Int, Sts st l.length → ∀ d i : Nat, i + d = l.length → (∀ j : Nat, j < i → 0 ≤ (rd l (j : Int)).2.2.2.2.1 ∧ (rd l (j : Int)).2.2.2.2.1 ≤ 1099511627776 ∧ (rd l (j : Int)).2.1.length ≤ 50) → Ev (fun k => regletlaw12_PagesOf.l4 k l st (i : Int)) true := by
    intro st hs d
    have hsl := hs.len
    induction d with
    | zero =>
      intro i e hj
      have hf : Few l := ⟨by omega, fun j hj' => hj j (by omega)⟩
      refine Ev.st (fun k => by rw [regletlaw12_PagesOf.l4]) (Ev.dn (by omega) ?_)
      refine Ev.bind (Of_ev hf hs) ?_
      have hpl := pgs_len l st st.length
      refine Ev.xn (by omega) ?_
      exact law12_l6 hf hs st.length 0 _ (by omega) hpl fun q _ hq => pgs_rd l st _ q hq
    | succ d ih =>
      intro i e hj
      refine Ev.st (fun k => by rw [regletlaw12_PagesOf.l4]) (Ev.dp (by omega) ?_)
      refine Ev.at_ (by omega) (by omega) ?_
      refine Ev.dc (fun _ => Ev.now _) fun c1 => ?_
      refine Ev.at_ (by omega) (by omega) ?_
      refine Ev.dc (fun _ => Ev.now _) fun c2 => ?_
      refine Ev.at_ (by omega) (by omega) ?_
      refine Ev.dc (fun _ => Ev.now _) fun c3 => ?_
      refine Ev.st (fun k => by rw [regletlaw12_PagesOf.j5]) ?_
      rw [nx i (by omega)]
      refine ih (i + 1) (by omega) fun j hj' => ?_
      by_cases c : j < i
      · exact hj j c
      · obtain rfl : j = i := by omega
        exact ⟨by omega, by omega, by omega⟩
  have over : ∀ st : List Int, Sts st l.length → Ev (fun k => regletlaw12_PagesOf.j2 k l st) true := fun st hs => Ev.st (fun k => by rw [regletlaw12_PagesOf.j2]; rfl) (rest st hs l.length 0 (by omega) fun j hj => by omega)
  -- the beginnings
  have begins : ∀ d i : Nat, i + d = gaps.length → ∀ (st : List Int) (a : Int), Sts st l.length → 0 ≤ a → (st.length : Int) ≤ a → a ≤ 200 → (∀ j : Nat, j < st.length → rd st (j : Int) < a) → Ev (fun k => regletlaw12_PagesOf.l0 k l gaps st a (i : Int)) true := by
    intro d
    induction d with
    | zero => exact fun i e st a hs _ _ _ _ => Ev.st (fun k => by rw [regletlaw12_PagesOf.l0]) (Ev.dn (by omega) (over st hs))
    | succ d ih =>
      intro i e st a hs h0 h1 h2 h3
      refine Ev.st (fun k => by rw [regletlaw12_PagesOf.l0]) (Ev.dp (by omega) (Ev.dc (fun hal => ?_) fun _ => over st hs))
      refine Ev.st (fun k => by rw [regletlaw12_PagesOf.j1]) ?_
      refine Ev.at_ (by omega) (by omega) ?_
      refine Ev.dc (fun _ => Ev.now _) fun c1 => ?_
      refine Ev.at_ (by omega) (by omega) ?_
      refine Ev.dc (fun _ => Ev.now _) fun c2 => ?_
      refine Ev.st (fun k => by rw [regletlaw12_PagesOf.j3]) ?_
      refine Ev.ifp (by simp only [List.length_cons, List.length_nil]; omega) ?_
      refine Ev.at_ (by omega) (by omega) ?_
      rw [nx i (by omega), w64 (x := a + rd gaps (i : Int)) (by omega) (by omega)]
      have rdl : ∀ j : Nat, j < st.length → rd (st ++ [a]) (j : Int) = rd st (j : Int) := fun j hj => rd_app_lt (by omega) (by omega)
      have rda : rd (st ++ [a]) (st.length : Int) = a := by rw [rd_app_ge (Int.le_refl _), Int.sub_self]; rfl
      refine ih (i + 1) (by omega) (st ++ [a]) (a + rd gaps (i : Int)) ⟨?_, fun j hj => ?_, fun j hj => ?_⟩ (by omega) (by simp; omega) (by omega) fun j hj => ?_
      · simp; omega
      · simp at hj
        by_cases c : j < st.length
        · rw [rdl j c]; exact hs.lo j c
        · obtain rfl : j = st.length := by omega
          rw [rda]; omega
      · simp at hj
        by_cases c : j + 1 < st.length
        · rw [rdl j (by omega), rdl (j + 1) c]; exact hs.up j c
        · obtain e : st.length = j + 1 := by omega
          rw [rdl j (by omega), ← e, rda]
          exact h3 j (by omega)
      · simp at hj
        by_cases c : j < st.length
        · rw [rdl j c]; have := h3 j c; omega
        · obtain rfl : j = st.length := by omega
          rw [rda]; omega
  exact begins gaps.length 0 (by omega) [] 0 ⟨by simp, fun j hj => by simp at hj, fun j hj => by simp at hj⟩ (by omega) (by simp) (by omega) fun j hj => by simp at hj
end Go.Proofs.Ytkkmmbjaeafhmaa.Vm
