/- A paragraph's items are such as may be, their bytes are the text's, and they are as wide as its runes. -/
import Derived.Test.YtkkhgbcmjeaghaaJb
namespace Go.Proofs.Ytkkhgbcmjeaghaa.Vm
open Go
open _root_.Go.RowKit (wrap64)
/-- where items end -/
def endI : Int → List api_Item → Int
  | p, [] => p
  | _, x :: r => endI x.2.2.2.2.2.2.2.2 r
theorem endI_app : ∀ (xs ys : List api_Item) (p : Int), endI p (xs ++ ys) = endI (endI p xs) ys
  | [], _, _ => rfl
  | _ :: r, ys, _ => endI_app r ys _
theorem RtL_app : ∀ (xs ys : List api_Item) (p : Int), RtL p (xs ++ ys) ↔ RtL p xs ∧ RtL (endI p xs) ys
  | [], ys, p => ⟨fun h => ⟨trivial, h⟩, fun h => h.2⟩
  | x :: r, ys, p => by
    rw [List.cons_append, RtL, RtL, endI, RtL_app r ys]
    exact ⟨fun ⟨a, b, c, d⟩ => ⟨⟨a, b, c⟩, d⟩, fun ⟨⟨a, b, c⟩, d⟩ => ⟨a, b, c, d⟩⟩
def wsum : List api_Item → Int
  | [] => 0
  | x :: r => (if x.1 = 3 then 0 else x.2.1) + wsum r
theorem wsum_app : ∀ xs ys : List api_Item, wsum (xs ++ ys) = wsum xs + wsum ys
  | [], ys => (Int.zero_add _).symm
  | x :: r, ys => by rw [List.cons_append, wsum, wsum, wsum_app r ys, Int.add_assoc]
/-- items up to a place, this wide together -/
def WInv (q : List api_Item × Int) (p W : Int) : Prop := RtL 0 q.1 ∧ endI 0 q.1 = p ∧ wsum q.1 = W ∧ (q.2 ≠ -1 → ∃ ys x, q.1 = ys ++ [x] ∧ x.1 = 1)
theorem okBox {w a b : Int} (h : 0 ≤ w ∧ w ≤ 68719476736) : OkI (1, w, 0, 0, false, 0, false, a, b) := ⟨h, ⟨by simp, by simp⟩, ⟨by simp, by simp⟩, h.1, .inl ⟨rfl, rfl, rfl, rfl, rfl, rfl⟩⟩
theorem okPen {w c a b : Int} {f : Bool} (h : 0 ≤ w ∧ w ≤ 68719476736) (hc : -10000 ≤ c ∧ c ≤ 10000) : OkI (3, w, 0, 0, false, c, f, a, b) := ⟨h, ⟨by simp, by simp⟩, ⟨by simp, by simp⟩, h.1, .inr (.inr ⟨rfl, rfl, rfl, rfl, hc.1, hc.2⟩)⟩
theorem okGlue {w m s a b : Int} (h : 0 ≤ w ∧ w ≤ 68719476736) (hm : 0 ≤ m ∧ m ≤ 68719476736) (hs : 0 ≤ s ∧ s ≤ 68719476736) (hw : s ≤ w) : OkI (2, w, m, s, false, 0, false, a, b) := ⟨h, hm, hs, hw, .inr (.inl ⟨rfl, rfl, rfl, fun z => by cases z⟩)⟩
theorem okFill {a b : Int} : OkI (2, 0, 0, 0, true, 0, false, a, b) := ⟨⟨by simp, by simp⟩, ⟨by simp, by simp⟩, ⟨by simp, by simp⟩, by simp, .inr (.inl ⟨rfl, rfl, rfl, fun _ => ⟨rfl, rfl⟩⟩)⟩
theorem RtL_one {p b : Int} {x : api_Item} (hf : x.2.2.2.2.2.2.2.1 = p) (ht : x.2.2.2.2.2.2.2.2 = b) (h1 : p ≤ b) (h2 : b ≤ 65536) (ho : OkI x) : RtL p [x] := ⟨⟨hf, by omega, by omega⟩, ho, trivial⟩
theorem RtL_fill {p b : Int} (h1 : p ≤ b) (h2 : b ≤ 65536) : RtL p (fillI p b) :=
  ⟨⟨rfl, Int.le_refl _, show p ≤ 65536 by omega⟩, okFill, ⟨rfl, h1, h2⟩, okPen ⟨by simp, by simp⟩ ⟨by simp, by simp⟩, trivial⟩
theorem stepB_inv {l : List Styl} (hl : ∀ s ∈ l, styC s = 0) (r s : Int) (q : List api_Item × Int) (p p' : Nat) (W : Int) (hpp : p < p') (hp : p' ≤ 2000) (hs : 0 ≤ s) (h : BOk q p) (hi : WInv q (p : Int) W) :
    WInv (stepB (ofS l s) s r (p : Int) (p' : Int) q) (p' : Int) (W + widthS (ofS l s) r) := by
  obtain ⟨i1, i2, i3, i4⟩ := hi
  have hw := widthS_ok hl s r
  obtain ⟨_, _, o1, o2, o3, o4, _, o5⟩ := ofS_ok hl s
  have k9 := kindOf_in r
  have bx : RtL 0 (boxB s (widthS (ofS l s) r) (p : Int) (p' : Int) q) ∧ endI 0 (boxB s (widthS (ofS l s) r) (p : Int) (p' : Int) q) = (p' : Int) ∧ wsum (boxB s (widthS (ofS l s) r) (p : Int) (p' : Int) q) = W + widthS (ofS l s) r ∧ ∃ ys x, boxB s (widthS (ofS l s) r) (p : Int) (p' : Int) q = ys ++ [x] ∧ x.1 = 1 := by
    generalize widthS (ofS l s) r = w at *
    unfold boxB
    by_cases c : q.2 = s
    · rw [if_pos c]
      obtain ⟨ys, x, e, x1⟩ := i4 (by omega)
      have hx := h.2.1 x (by rw [e]; simp)
      rw [e] at i1 i2 i3 ⊢
      rw [grow_concat]
      rw [RtL_app] at i1
      rw [wsum_app] at i3
      rw [endI_app] at i2
      obtain ⟨j1, ⟨k1, k2, k3⟩, k4, _⟩ := i1
      have i2 : x.2.2.2.2.2.2.2.2 = (p : Int) := i2
      have i3 : wsum ys + ((if x.1 = 3 then 0 else x.2.1) + 0) = W := i3
      rw [if_neg (by omega)] at i3
      refine ⟨(RtL_app _ _ _).2 ⟨j1, RtL_one (b := (p' : Int)) k1 rfl (by omega) (by omega) ?_⟩, ?_, ?_, ys, _, rfl, x1⟩
      · obtain ⟨m1, m2, m3, m4, m5⟩ := k4
        refine ⟨⟨?_, ?_⟩, m2, m3, ?_, ?_⟩
        · show 0 ≤ x.2.1 + w; omega
        · show x.2.1 + w ≤ _; omega
        · show x.2.2.2.1 ≤ x.2.1 + w; omega
        · rcases m5 with z | z | z
          · exact .inl z
          · omega
          · omega
      · rw [endI_app]; rfl
      · rw [wsum_app]
        show wsum ys + ((if x.1 = 3 then 0 else x.2.1 + w) + 0) = _
        rw [if_neg (by omega)]; omega
    · rw [if_neg c]
      refine ⟨(RtL_app _ _ _).2 ⟨i1, RtL_one (b := (p' : Int)) i2.symm rfl (by omega) (by omega) (okBox (by omega))⟩, ?_, ?_, _, _, rfl, rfl⟩
      · rw [endI_app]; rfl
      · rw [wsum_app, i3]
        show W + ((if (1 : Int) = 3 then 0 else w) + 0) = _
        rw [if_neg (by omega)]; omega
  have app : ∀ (y : api_Item) (w : Int), y.2.2.2.2.2.2.2.1 = (p : Int) → y.2.2.2.2.2.2.2.2 = (p' : Int) → OkI y → (if y.1 = 3 then 0 else y.2.1) = w → WInv (q.1 ++ [y], -1) (p' : Int) (W + w) := fun y w e1 e2 e3 e4 => by
    refine ⟨(RtL_app _ _ _).2 ⟨i1, RtL_one (b := (p' : Int)) (by rw [i2]; exact e1) e2 (by rw [i2]; omega) (by omega) e3⟩, ?_, ?_, fun z => absurd rfl z⟩
    · rw [endI_app]; exact e2
    · rw [wsum_app, i3]
      show W + ((if y.1 = 3 then 0 else y.2.1) + 0) = _
      rw [e4]; omega
  unfold stepB
  by_cases c : kindOf r = 0 ∨ kindOf r = 2
  · rw [if_pos c]
    exact ⟨bx.1, bx.2.1, bx.2.2.1, fun _ => bx.2.2.2⟩
  rw [if_neg c]
  by_cases c6 : kindOf r = 6
  · rw [if_pos c6]
    refine ⟨(RtL_app _ _ _).2 ⟨bx.1, ?_⟩, ?_, ?_, fun z => absurd rfl z⟩
    · rw [bx.2.1]
      exact RtL_one (b := (p' : Int)) rfl rfl (Int.le_refl _) (by omega) (okPen ⟨by simp, by simp⟩ ⟨by simp, by simp⟩)
    · rw [endI_app]; rfl
    · rw [wsum_app, bx.2.2.1]; simp [wsum]
  rw [if_neg c6]
  unfold UnitOk at o1 o2 o3 o4
  by_cases c1 : kindOf r = 1
  · rw [if_pos c1]
    refine app _ _ rfl rfl (okGlue (by omega) (by omega) (by omega) o5) ?_
    have e : widthS (ofS l s) r = (ofS l s).2.1 := if_pos (.inl c1)
    rw [e]; exact if_neg (show ¬ (2 : Int) = 3 by decide)
  rw [if_neg c1]
  have w0 : widthS (ofS l s) r = 0 := by
    unfold widthS
    rw [if_neg (by omega), if_pos (by omega)]
  rw [w0]
  by_cases c : kindOf r = 3
  · rw [if_pos c]
    exact app _ _ rfl rfl (okPen (by omega) ⟨by simp, by simp⟩) rfl
  rw [if_neg c]
  by_cases c : kindOf r = 4
  · rw [if_pos c]
    exact app _ _ rfl rfl (okPen ⟨by simp, by simp⟩ ⟨by simp, by simp⟩) rfl
  rw [if_neg c]
  by_cases c : kindOf r = 5
  · rw [if_pos c]
    exact app _ _ rfl rfl (okPen ⟨by simp, by simp⟩ ⟨by simp, by simp⟩) rfl
  rw [if_neg c]
  refine ⟨(RtL_app _ _ _).2 ⟨i1, by rw [i2]; exact RtL_fill (by omega) (by omega)⟩, ?_, ?_, fun z => absurd rfl z⟩
  · rw [endI_app]; rfl
  · rw [wsum_app, i3]; simp [fillI, wsum]
/-- how wide a text's runes are -/
def rsum (l : List Styl) (R : List (Int × Int)) : List Int → List Int → Int
  | r :: L, a :: A => widthS (ofS l (styAt R a)) r + rsum l R L A
  | _, _ => 0
theorem kind8 {r : Int} (h : kindOf r = 8) : r = 10 := by
  unfold kindOf at h
  by_cases c : r = 32 ∨ r = 9
  · rw [if_pos c] at h; omega
  rw [if_neg c] at h
  by_cases c : r = 160 ∨ r = 8239
  · rw [if_pos c] at h; omega
  rw [if_neg c] at h
  unfold kind1 kind2 kind3 at h
  repeat' (first | omega | split at h)
theorem bld_right {l : List Styl} (hl : ∀ s ∈ l, styC s = 0) {s : ByteArray} (hs : s.size ≤ 2000) {R : List (Int × Int)} (hr : runC l.length s 0 R = 0) (no : ¬ NlBad s) {pos : Nat} {L A : List Int} (D : Dec s s.size pos L A) :
    ∀ (q : List api_Item × Int) (W : Int), BOk q pos → WInv q (pos : Int) W → RtL 0 (bld l R (s.size : Int) L A q) ∧ endI 0 (bld l R (s.size : Int) L A q) = (s.size : Int) ∧ wsum (bld l R (s.size : Int) L A q) = W + rsum l R L A ∧ ∃ ys x, bld l R (s.size : Int) L A q = ys ++ [x] ∧ Fc x := by
  generalize he : s.size = e at D
  induction D with
  | done =>
    intro q W hb hi
    obtain ⟨i1, i2, i3, _⟩ := hi
    refine ⟨(RtL_app _ _ _).2 ⟨i1, by rw [i2]; exact RtL_fill (Int.le_refl _) (by omega)⟩, ?_, ?_, ?_⟩
    · show endI 0 (q.1 ++ fillI _ _) = _
      rw [endI_app]; rfl
    · show wsum (q.1 ++ fillI _ _) = _
      rw [wsum_app, i3]; simp [fillI, wsum, rsum]
    · refine ⟨q.1 ++ [_], _, (List.append_assoc q.1 [_] [_]).symm, rfl, ?_⟩
      simp
  | @step pos r n L A hE hD ih =>
    intro q W hb hi
    subst he
    have p1 := hE.pos1
    have p2 := hE.1
    have st := (styAt_ok R 0 pos hr (by omega)).1
    have nb := stepB_ok hl (r : Int) (styAt R (pos : Int)) (pos : Int) ((pos + n : Nat) : Int) q pos (pos + n) (by omega) st hb
    have ni := stepB_inv hl (r : Int) (styAt R (pos : Int)) q pos (pos + n) W (by omega) (by omega) st hb hi
    rw [bld, hD.nxt, rsum]
    by_cases c : kindOf (r : Int) = 8
    · rw [if_pos c]
      have r10 := kind8 c
      have e : pos + n = s.size := by
        by_cases z : pos + 1 < s.size
        · exact absurd ⟨pos, z, by have := hE.2; omega⟩ no
        · omega
      have e0 : rsum l R L A = 0 := by
        rw [e] at hD
        generalize hz : s.size = z at hD
        have hle := hD.le
        cases L with
        | nil => rfl
        | cons _ _ => simp only [List.length_cons] at hle; omega
      have es : stepB (ofS l (styAt R (pos : Int))) (styAt R (pos : Int)) (r : Int) (pos : Int) ((pos + n : Nat) : Int) q = (q.1 ++ fillI (pos : Int) ((pos + n : Nat) : Int), -1) := by
        unfold stepB
        rw [if_neg (by omega), if_neg (by omega), if_neg (by omega), if_neg (by omega), if_neg (by omega), if_neg (by omega)]
      obtain ⟨n1, n2, n3, _⟩ := ni
      rw [e0, Int.add_zero]
      refine ⟨n1, by rw [n2, e], n3, ?_⟩
      rw [es]
      refine ⟨q.1 ++ [_], _, (List.append_assoc q.1 [_] [_]).symm, rfl, ?_⟩
      simp
    · rw [if_neg c, ← Int.add_assoc]
      exact ih _ _ nb ni
theorem endI_last (ys : List api_Item) (x : api_Item) (p : Int) : endI p (ys ++ [x]) = x.2.2.2.2.2.2.2.2 := by rw [endI_app]; rfl
theorem rd_last {α : Type} [Inhabited α] (ys : List α) (x : α) : rd (ys ++ [x]) (((ys ++ [x]).length : Int) - 1) = x := by
  rw [show ((ys ++ [x]).length : Int) - 1 = (ys.length : Int) by simp, rd_nat, List.getD_eq_getElem?_getD]; simp
theorem wide_loop (l : List Styl) (s : ByteArray) (R : List (Int × Int)) (X : List api_Item) (hX : X.length ≤ 100000) (ok : ∀ x ∈ X, 0 ≤ x.2.1 ∧ x.2.1 ≤ 68719476736) {v : Bool} : ∀ (d i : Nat) (w : Int), i + d = X.length → 0 ≤ w → w ≤ 68719476736 * (i : Int) →
    Ev (fun k => regletlaw07_ItemsWhole.l2 k l s R X (w + wsum (X.drop i)) 0 (X.length : Int)) v → Ev (fun k => regletlaw07_ItemsWhole.l2 k l s R X w 0 (i : Int)) v := by
  intro d
  induction d with
  | zero =>
    intro i w e h0 h1 k
    rw [List.drop_of_length_le (by omega), wsum, Int.add_zero] at k
    rwa [show i = X.length by omega]
  | succ d ih =>
    intro i w e h0 h1 k
    have hx := ok _ (rd_in X (i := i) (by omega))
    rw [drop_rd X i (by omega), wsum, ← Int.add_assoc] at k
    have go : ∀ y : Int, (if (rd X (i : Int)).1 = 3 then 0 else (rd X (i : Int)).2.1) = y → 0 ≤ y → y ≤ 68719476736 → Ev (fun k => regletlaw07_ItemsWhole.j3 k l s R X (w + y) 0 (i : Int)) v := fun y hy y0 y1 => by
      rw [hy] at k
      refine Ev.st (fun k => by rw [regletlaw07_ItemsWhole.j3]) ?_
      rw [nx i (by omega)]
      exact ih (i + 1) _ (by omega) (by omega) (by omega) k
    refine Ev.st (fun k => by rw [regletlaw07_ItemsWhole.l2]) (Ev.dp (by omega) ?_)
    refine Ev.gx (by omega) (by omega) ?_
    refine Ev.xc (fun c => Ev.gx (by omega) (by omega) ?_) (fun c => ?_)
    · rw [w64 (x := w + (rd X (i : Int)).2.1) (by omega) (by omega)]
      exact go _ (if_neg c) hx.1 hx.2
    · have z := go 0 (if_pos c) (by omega) (by omega)
      rwa [Int.add_zero] at z
theorem sum_loop {l : List Styl} (hl : ∀ s ∈ l, styC s = 0) {R : List (Int × Int)} (hR : R.length ≤ 1000000) (hx : ∀ x ∈ R, 0 ≤ x.1 ∧ x.1 ≤ 1000000) (W : Int) (X Y : List Int) (hX : X.length ≤ 100000) (hY : Y.length = X.length) (hA : ∀ a ∈ Y, 0 ≤ a ∧ a ≤ 1000000) : ∀ (d i : Nat) (w : Int), i + d = X.length → 0 ≤ w → w ≤ 1048576 * (i : Int) →
    Ev (fun k => regletlaw07_ItemsWhole.l4 k l R W w X Y (i : Int)) (decide (W = w + rsum l R (X.drop i) (Y.drop i))) := by
  intro d
  induction d with
  | zero =>
    intro i w e h0 h1
    rw [List.drop_of_length_le (by omega), List.drop_of_length_le (by omega), show rsum l R [] [] = 0 from rfl, Int.add_zero]
    exact Ev.st (fun k => by rw [regletlaw07_ItemsWhole.l4]) (Ev.dn (by omega) (Ev.now _))
  | succ d ih =>
    intro i w e h0 h1
    have ha := hA _ (rd_in Y (i := i) (by omega))
    have S := styAt_ev R hR hx R.length 0 (rd Y (i : Int)).toNat (by omega) (by omega)
    rw [show (((rd Y (i : Int)).toNat : Nat) : Int) = rd Y (i : Int) by omega, show ((0 : Nat) : Int) = 0 from rfl] at S
    rw [drop_rd X i (by omega), drop_rd Y i (by omega), rsum, ← Int.add_assoc]
    refine Ev.st (fun k => by rw [regletlaw07_ItemsWhole.l4]) (Ev.dp (by omega) ?_)
    refine Ev.gx (by omega) (by omega) ?_
    refine Ev.bind (show Ev (fun k => regletref07_StyleAt.f k R (rd Y (i : Int))) _ from S) ?_
    rw [List.drop_zero]
    refine Ev.gx (by omega) (by omega) ?_
    refine Ev.bind (refWidth_ev hl _ _) ?_
    have hw := widthS_ok hl (styAt R (rd Y (i : Int))) (rd X (i : Int))
    rw [w64 (x := w + _) (by omega) (by omega), nx i (by omega)]
    exact ih (i + 1) _ (by omega) (by omega) (by omega)
theorem RtL_ok : ∀ (X : List api_Item) (p : Int), RtL p X → ∀ x ∈ X, OkI x
  | [], _, _ => fun x hx => by cases hx
  | y :: r, p, h => fun x hx => by
    rcases List.mem_cons.1 hx with rfl | hx
    · exact h.2.1
    · exact RtL_ok r _ h.2.2 x hx
theorem Pure.ItemsWhole (l : List Styl) (s : ByteArray) (R : List (Int × Int)) (_ : okT (.row false tSty) l) (_ : okT .s s) (_ : okT (.row false tRun) R) : ∃ k, regletlaw07_ItemsWhole.f k l s R = some true := by
  refine Ev.rounds (Ev.bind awake07_ev (Ev.bn rfl ?_))
  rcases tab_cases l with ⟨hl, T⟩ | T
  · refine Ev.bind T (Ev.somep rfl (Ev.bind (few_ev s R) (Ev.nc (fun _ => Ev.now _) (fun c => ?_))))
    have c := of_decide_eq_true c
    refine Ev.st (fun k => by rw [regletlaw07_ItemsWhole.j0]) ?_
    by_cases e : chkC l s R = 0
    · obtain ⟨L, A, b, V, D, hr, I, _⟩ := Build_ev hl (s := s) (by omega) (R := R) (by omega) e
      have no : ¬ NlBad s := fun z => by
        unfold chkC at e
        by_cases q : isTrue (RightS s 0) = false
        · rw [if_pos q] at e; omega
        rw [if_neg q] at e
        by_cases q : s = ByteArray.empty
        · rw [if_pos q] at e; omega
        rw [if_neg q, if_pos (isTrue_yes z)] at e
        omega
      have dl := D.le
      have len := bld_len hl (R := R) (n := (s.size : Int)) L A ([], -1) 0 (fun a ha => (D.sty hr a ha).2.2.1) bok0
      obtain ⟨z1, z2, z3, ys, x, z4, z5⟩ := bld_right hl (s := s) (by omega) hr no D ([], -1) 0 bok0 ⟨trivial, rfl, rfl, fun z => absurd rfl z⟩
      refine Ev.bind I (Ev.xn rfl ?_)
      dsimp only
      generalize bld l R (s.size : Int) L A ([], -1) = X at *
      have ri : RightI X := by
        refine ⟨⟨by rw [z4]; simp, by omega, ?_⟩, z1⟩
        rw [z4, rd_last]; exact z5
      have RX := Right_ev X
      have rX := rRight_ev X
      rw [isTrue_yes ri] at RX rX
      have X0 : 0 < X.length := ri.1.1
      refine Ev.bind RX (Ev.xn rfl (Ev.bind rX (Ev.bn rfl ?_)))
      rw [w64 (x := (X.length : Int) - 1) (by omega) (by omega)]
      refine Ev.gx (by omega) (by omega) ?_
      refine Ev.xn (by rw [z4, rd_last, ← z2, z4, endI_last]) ?_
      refine Ev.st (fun k => by rw [regletlaw07_ItemsWhole.j1]) ?_
      refine wide_loop l s R X (by omega) (fun x hx => (RtL_ok X 0 z1 x hx).1) X.length 0 0 (by omega) (by omega) (by omega) ?_
      rw [List.drop_zero, z3]
      refine Ev.st (fun k => by rw [regletlaw07_ItemsWhole.l2]) (Ev.dn (by omega) (Ev.bind V ?_))
      have F := sum_loop hl (R := R) (by omega) (fun x hx => by have := runC_lens R 0 hr (by omega) x hx; omega) (0 + (0 + rsum l R L A)) L A (by omega) (by omega) (fun a ha => by have := D.sty hr a ha; omega) L.length 0 0 (by omega) (by omega) (by omega)
      rw [List.drop_zero, List.drop_zero, decide_eq_true (show 0 + (0 + rsum l R L A) = 0 + rsum l R L A by omega)] at F
      exact F
    · obtain ⟨I, _⟩ := bad_build (l := l) (s := s) (by omega) (R := R) (by omega) e
      exact Ev.bind I (Ev.xp e (Ev.some_ rfl))
  · exact Ev.bind T (Ev.nilp rfl (Ev.now _))
end Go.Proofs.Ytkkhgbcmjeaghaa.Vm
