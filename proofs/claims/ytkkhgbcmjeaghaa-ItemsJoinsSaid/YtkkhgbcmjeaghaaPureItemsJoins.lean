/- How a paragraph's styles are cut into runs doesn't matter, if they are the same byte by byte. -/
import Derived.Test.YtkkhgbcmjeaghaaJb
namespace Go.Proofs.Ytkkhgbcmjeaghaa.Vm
open Go
open _root_.Go.RowKit (wrap64)
/-- a run for each rune, and one without bytes ahead of it -/
def cutR (st : Int) (n : Int) : List Int → List (Int × Int)
  | [] => []
  | a :: A => (0, st) :: (nxt A n - a, st) :: cutR st n A
theorem cutR_len (st n : Int) : ∀ A, (cutR st n A).length = 2 * A.length
  | [] => rfl
  | a :: A => by simp only [cutR, List.length_cons, cutR_len st n A]; omega
theorem cut_loop (s : ByteArray) (hs : s.size ≤ 1000000) (st : Int) (t : List Styl) {v : Bool} (Y : List Int) (hY : Y.length ≤ 1000000) (hb : ∀ a ∈ Y, 0 ≤ a ∧ a ≤ 1000000) : ∀ (d i : Nat) (pre : List (Int × Int)), i + d = Y.length → pre.length = 2 * i →
    Ev (fun k => regletlaw07_ItemsJoins.l1 k s st t Y (pre ++ cutR st (s.size : Int) (Y.drop i)) (Y.length : Int)) v → Ev (fun k => regletlaw07_ItemsJoins.l1 k s st t Y pre (i : Int)) v := by
  intro d
  induction d with
  | zero =>
    intro i pre e hp k
    rw [List.drop_of_length_le (by omega), cutR, List.append_nil] at k
    rwa [show i = Y.length by omega]
  | succ d ih =>
    intro i pre e hp k
    have ha := hb _ (rd_in Y (i := i) (by omega))
    rw [drop_rd Y i (by omega), cutR] at k
    have ih' := fun x => ih (i + 1) (pre ++ [(0, st), (x, st)]) (by omega) (by simp only [List.length_append, List.length_cons, List.length_nil]; omega)
    refine Ev.st (fun k => by rw [regletlaw07_ItemsJoins.l1]) (Ev.dp (by omega) ?_)
    rw [nx i (by omega)]
    have j2 : ∀ b : Int, 0 ≤ b → b ≤ 1000000 → nxt (Y.drop (i + 1)) (s.size : Int) = b → Ev (fun k => regletlaw07_ItemsJoins.j2 k s st t Y pre (i : Int) b) v := fun b h0 h1 hb => by
      rw [hb] at k
      refine Ev.st (fun k => by rw [regletlaw07_ItemsJoins.j2]) ?_
      refine Ev.gx (by omega) (by omega) ?_
      refine Ev.ifp (by simp only [List.length_cons, List.length_nil]; omega) ?_
      rw [nx i (by omega), w64 (x := b - rd Y (i : Int)) (by omega) (by omega)]
      refine ih' _ ?_
      rw [List.append_assoc]
      exact k
    refine Ev.dc (fun c => Ev.gx (by omega) (by omega) ?_) (fun c => ?_)
    · have hb2 := hb _ (rd_in Y (i := i + 1) (by omega))
      exact j2 _ hb2.1 hb2.2 (by rw [drop_rd Y (i + 1) (by omega)]; rfl)
    · exact j2 _ (by omega) (by omega) (by rw [List.drop_of_length_le (by omega)]; rfl)
theorem runC_mk {n p p' : Nat} {s : ByteArray} {a st : Int} {R : List (Int × Int)} (h1 : 0 ≤ a) (h2 : a ≤ (s.size : Int) - p) (h3 : 0 ≤ st ∧ st < n) (e : p + a.toNat = p') (h4 : ¬ (p' < s.size ∧ 128 ≤ by_ s p' ∧ by_ s p' < 192)) (h5 : runC n s p' R = 0) : runC n s p ((a, st) :: R) = 0 := by
  subst e
  unfold runC
  rw [if_neg (by dsimp only; omega), if_neg (fun z => z h3), if_neg h4]
  exact h5
/-- such runs are as right as one for all -/
theorem cut_run {n : Nat} {s : ByteArray} (st : Int) (hst : 0 ≤ st ∧ st < n) {pos : Nat} {L A : List Int} (D : Dec s s.size pos L A) : runC n s pos (cutR st (s.size : Int) A) = 0 := by
  generalize he : s.size = e at D
  induction D with
  | done => rw [cutR, runC, if_pos he.symm]
  | @step pos r m L A hE hD ih =>
    subst he
    have p1 := hE.pos1
    have p2 := hE.1
    have nb : ∀ {p : Nat} {L A : List Int}, Dec s s.size p L A → ¬ (p < s.size ∧ 128 ≤ by_ s p ∧ by_ s p < 192) := fun {p L A} d => by
      generalize hz : s.size = z at d
      cases d with
      | done => omega
      | step h _ => have := h.2; omega
    rw [cutR, hD.nxt]
    exact runC_mk (p' := pos) (by omega) (by omega) hst (by omega) (nb (.step hE hD)) (runC_mk (p' := pos + m) (by omega) (by omega) hst (by omega) (nb hD) ih)
theorem cut_sty (st n : Int) : ∀ (A : List Int) (q : Int), 0 ≤ q → styAt (cutR st n A) q = st ∨ styAt (cutR st n A) q = 0 := fun A => by
  induction A with
  | nil => exact fun q _ => .inr rfl
  | cons a A ih =>
    intro q hq
    rw [cutR, styAt, if_neg (by dsimp only; omega), styAt]
    by_cases c : q - 0 < nxt A n - a
    · rw [if_pos c]; exact .inl rfl
    · rw [if_neg c]
      by_cases z : 0 ≤ q - 0 - (nxt A n - a)
      · exact ih _ z
      · omega
theorem runC_all {n : Nat} {s : ByteArray} {st : Int} : ∀ (R : List (Int × Int)) (p q : Nat), runC n s p R = 0 → (∀ x ∈ R, x.2 = st) → p + q < s.size → styAt R q = st
  | [], p, q, h, _, hq => by
    unfold runC at h
    split at h
    · omega
    · omega
  | x :: R, p, q, h, hx, hq => by
    obtain ⟨h1, h2, h3, _, h5⟩ := runC_cons h
    unfold styAt
    by_cases c : (q : Int) < x.1
    · rw [if_pos c]; exact hx x (List.mem_cons_self ..)
    · rw [if_neg c, show (q : Int) - x.1 = ((q - x.1.toNat : Nat) : Int) by omega]
      exact runC_all R _ _ h5 (fun y hy => hx y (List.mem_cons_of_mem _ hy)) (by omega)
theorem cut_mem (st n : Int) : ∀ (A : List Int), ∀ x ∈ cutR st n A, x.2 = st
  | [] => fun x hx => by cases hx
  | a :: A => fun x hx => by
    rw [cutR] at hx
    rcases List.mem_cons.1 hx with rfl | hx
    · rfl
    · rcases List.mem_cons.1 hx with rfl | hx
      · rfl
      · exact cut_mem st n A x hx
theorem bld_same {l : List Styl} {R R' : List (Int × Int)} {n : Int} : ∀ (L A : List Int) (q : List api_Item × Int), (∀ a ∈ A, styAt R a = styAt R' a) → bld l R n L A q = bld l R' n L A q
  | [], A, q, _ => by cases A <;> rfl
  | r :: L, [], q, _ => rfl
  | r :: L, a :: A, q, h => by
    unfold bld
    rw [h a (List.mem_cons_self ..)]
    by_cases c : kindOf r = 8
    · rw [if_pos c, if_pos c]
    · rw [if_neg c, if_neg c]; exact bld_same L A _ (fun a ha => h a (List.mem_cons_of_mem _ ha))
theorem cut_chk (l : List Styl) {s : ByteArray} {L A : List Int} (D : Dec s s.size 0 L A) (st : Int) : chkC l s (cutR st (s.size : Int) A) = chkC l s [((s.size : Int), st)] := by
  unfold chkC
  by_cases q : isTrue (RightS s 0) = false
  · rw [if_pos q, if_pos q]
  rw [if_neg q, if_neg q]
  by_cases q : s = ByteArray.empty
  · rw [if_pos q, if_pos q]
  rw [if_neg q, if_neg q]
  have hz : s.size ≠ 0 := fun z => q (empty_size.2 z)
  by_cases q : isTrue (NlBad s) = true
  · rw [if_pos q, if_pos q]
  rw [if_neg q, if_neg q]
  by_cases c : 0 ≤ st ∧ st < l.length
  · rw [cut_run st c D, runC, if_neg (by dsimp only; omega), if_neg (fun z => z c), if_neg (by dsimp only; omega), runC, if_pos (by dsimp only; omega)]
  · rw [runC, if_neg (by dsimp only; omega), if_pos c]
    generalize he : s.size = e at D
    cases D with
    | done => omega
    | step hE hD => rw [cutR, runC, if_neg (by dsimp only; omega), if_pos c]
theorem Pure.ItemsJoins (l : List Styl) (s : ByteArray) (st : Int) (_ : okT (.row false tSty) l) (_ : okT .s s) (_ : okT (.i .i64) st) : ∃ k, regletlaw07_ItemsJoins.f k l s st = some true := by
  refine Ev.rounds (Ev.bind awake07_ev (Ev.bn rfl ?_))
  rcases tab_cases l with ⟨hl, T⟩ | T
  · refine Ev.bind T (Ev.somep rfl (Ev.bind (few_ev s []) (Ev.nc (fun _ => Ev.now _) (fun c => ?_))))
    have c := of_decide_eq_true c
    refine Ev.st (fun k => by rw [regletlaw07_ItemsJoins.j0]) ?_
    obtain ⟨L, A, b, V, Q⟩ := Runes_ev s (by omega)
    refine Ev.bind V ?_
    rcases Q with ⟨q, D⟩ | ⟨e, rfl, _⟩
    · refine Ev.dn (by dsimp only; omega) ?_
      have dl := D.le
      refine cut_loop s (by omega) st l A (by omega) (fun a ha => by have := D.mem_ge a ha; have := D.mem_lt a ha; omega) A.length 0 [] (by omega) rfl ?_
      rw [List.nil_append, List.drop_zero]
      refine Ev.st (fun k => by rw [regletlaw07_ItemsJoins.l1]) (Ev.dn (by omega) ?_)
      have cl := cutR_len st (s.size : Int) A
      have ck := cut_chk l D st
      by_cases e : chkC l s [((s.size : Int), st)] = 0
      · obtain ⟨L1, A1, b1, V1, D1, r1, I1, _⟩ := Build_ev hl (s := s) (by omega) (R := cutR st (s.size : Int) A) (by omega) (by rw [ck, e])
        obtain ⟨L2, A2, b2, V2, D2, r2, I2, _⟩ := Build_ev hl (s := s) (by omega) (R := [((s.size : Int), st)]) (by simp) e
        have e1 := Ev.uniq V V1
        have e2 := Ev.uniq V V2
        injection e1 with x1 y1
        injection y1 with y1
        injection e2 with x2 y2
        injection y2 with y2
        subst x1 y1 x2 y2
        have same : bld l (cutR st (s.size : Int) A) (s.size : Int) L A ([], -1) = bld l [((s.size : Int), st)] (s.size : Int) L A ([], -1) := bld_same L A _ (fun a ha => by
          have hA := D.sty r1 a ha
          have z1 := runC_all _ 0 a.toNat r1 (cut_mem st (s.size : Int) A) (by omega)
          have z2 := runC_all _ 0 a.toNat r2 (fun x hx => by rw [List.mem_singleton.1 hx]) (by omega) (st := st)
          rw [show ((a.toNat : Nat) : Int) = a by omega] at z1 z2
          rw [z1, z2])
        rw [same] at I1
        have len := bld_len hl (R := [((s.size : Int), st)]) (n := (s.size : Int)) L A ([], -1) 0 (fun a ha => (D.sty r2 a ha).2.2.1) bok0
        refine Ev.bind I1 (Ev.bind I2 (Ev.dp rfl ?_))
        exact Ev.bind (Same_ev _ (by dsimp only; omega)) (Ev.now _)
      · obtain ⟨I1, _⟩ := bad_build (l := l) (s := s) (by omega) (R := cutR st (s.size : Int) A) (by omega) (by rw [ck]; exact e)
        obtain ⟨I2, _⟩ := bad_build (l := l) (s := s) (by omega) (R := [((s.size : Int), st)]) (by simp) e
        rw [ck] at I1
        refine Ev.bind I1 (Ev.bind I2 (Ev.dp rfl ?_))
        exact Ev.bind (Same_ev _ (by simp)) (Ev.now _)
    · exact Ev.dp (by dsimp only; omega) (Ev.now _)
  · exact Ev.bind T (Ev.nilp rfl (Ev.now _))
end Go.Proofs.Ytkkhgbcmjeaghaa.Vm
