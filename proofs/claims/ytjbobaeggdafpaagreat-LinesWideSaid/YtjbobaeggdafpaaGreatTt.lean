/- Items by the reference; both builds whole. -/
import Derived.Test.YtjbobaeggdafpaaGreatTs
namespace Go.Proofs.YtjbobaeggdafpaaGreat.Vm
open Go
open _root_.Go.RowKit (wrap64)
theorem Dec.mem_lt {s : ByteArray} {e pos : Nat} {L A : List Int} (h : Dec s e pos L A) : ∀ x, x ∈ A → x < (e : Int) := by
 induction h with
 | done => intro x hx; cases hx
 | step hE hD ih =>
  intro x hx
  have := hE.pos1
  have := hD.le
  rcases List.mem_cons.1 hx with rfl | hx
  · omega
  · exact ih x hx
theorem rfill_ev (a b : Int) : Ev (fun k => regletref07_fill.f k a b) (fillI a b) := Ev.now _
theorem rj4_ev (l : List Styl) (s : ByteArray) (R : List (Int × Int)) (X Y : List Int) (out : List api_Item) (i b sy c : Int) (hlen : out.length ≤ 100000000) {v : List api_Item × Int}
 (k : Ev (fun k => regletref07_Build.j6 k l s R X Y (if c = 6 then out ++ [(3, 0, 0, 0, false, 50, true, b, b)] else out) (if c = 6 then -1 else sy) i) v) : Ev (fun k => regletref07_Build.j4 k l s R X Y out i b sy c) v := by
 refine Ev.st (fun k => by rw [regletref07_Build.j4]) (Ev.dc (fun h => ?_) (fun h => ?_))
 · rw [if_pos h, if_pos h] at k
   exact Ev.ifp (by simp only [List.length_singleton]; omega) k
 · rw [if_neg h, if_neg h] at k; exact k
theorem rj2_ev (l : List Styl) (s : ByteArray) (R : List (Int × Int)) (X Y : List Int) (q : List api_Item × Int) (i a b sy w c : Int) (p : Nat) (hp : p ≤ 1000000) (hs : 0 ≤ sy) (hw : 0 ≤ w ∧ w ≤ 1048576) (h : BOk q p) {v : List api_Item × Int}
 (k : Ev (fun k => regletref07_Build.j4 k l s R X Y (boxB sy w a b q) i b sy c) v) : Ev (fun k => regletref07_Build.j2 k l s R X Y q.1 q.2 i a b sy w c (wrap64 ((q.1.length : Int) - 1))) v := by
 obtain ⟨h1, h2, h3⟩ := h
 unfold boxB at k
 refine Ev.st (fun k => by rw [regletref07_Build.j2]) (Ev.dc (fun e => ?_) (fun e => ?_))
 · rw [if_pos e] at k
   obtain ⟨ys, x, eq⟩ := concat_of (h3 (by omega))
   rw [eq] at k h1 h2 ⊢
   rw [grow_concat] at k
   have len : (ys ++ [x]).length = ys.length + 1 := by simp
   have hx := h2 x (by simp)
   have idx : wrap64 (((ys ++ [x]).length : Int) - 1) = (ys.length : Int) := by rw [len, w64 (by omega) (by omega)]; omega
   rw [idx]
   refine Ev.ifp (by rw [len]; omega) ?_
   refine Ev.ix (last_get ys x) ?_
   refine Ev.bind (rAdd_ev _ _ (by omega) (by omega)) ?_
   refine Ev.ifp (by rw [len]; omega) ?_
   refine Ev.ix (last_get ys x) ?_
   have ls := fun y => last_set ys x y
   rw [← Int.toNat_natCast ys.length] at ls
   rw [ls]
   refine Ev.ifp (by rw [List.length_append, List.length_singleton]; omega) ?_
   refine Ev.ix (last_get ys _) ?_
   rw [Int.toNat_natCast, last_set]
   exact k
 · rw [if_neg e] at k
   exact Ev.ifp (by simp only [List.length_singleton]; omega) k
theorem rj5_ev (l : List Styl) (s : ByteArray) (R : List (Int × Int)) (X Y : List Int) (out : List api_Item) (w i c : Int) {v : List api_Item × Int}
 (k1 : c = 8 → (out, 0) = v) (k2 : c ≠ 8 → Ev (fun k => regletref07_Build.j6 k l s R X Y out w i) v) : Ev (fun k => regletref07_Build.j5 k l s R X Y out w i c) v :=
 Ev.st (fun k => by rw [regletref07_Build.j5]) (Ev.dc (fun h => Ev.some_ (k1 h)) k2)
theorem rj3_ev (l : List Styl) (s : ByteArray) (R : List (Int × Int)) (X Y : List Int) (q : List api_Item × Int) (i a b sy r : Int) (p : Nat) (hp : p ≤ 1000000) (h : q.1.length ≤ 3 * p) (hk : ¬ (kindOf r = 0 ∨ kindOf r = 2 ∨ kindOf r = 6)) {v : List api_Item × Int}
 (k : Ev (fun k => regletref07_Build.j5 k l s R X Y (stepB (ofS l sy) sy r a b q).1 (stepB (ofS l sy) sy r a b q).2 i (kindOf r)) v) : Ev (fun k => regletref07_Build.j3 k l s R X Y q.1 i a b sy (kindOf r)) v := by
 unfold stepB at k
 rw [if_neg (by omega), if_neg (by omega)] at k
 refine Ev.st (fun k => by rw [regletref07_Build.j3]) (Ev.bind (refOf_ev l sy) ?_)
 have one : ∀ y : api_Item, (q.1.length + ([y] : List api_Item).length) * 72 ≤ 140737488355328 := fun y => by simp only [List.length_singleton]; omega
 refine Ev.dc (fun c => ?_) (fun c => ?_)
 · rw [if_pos c] at k; exact Ev.ifp (one _) k
 rw [if_neg c] at k
 refine Ev.dc (fun c => ?_) (fun c => ?_)
 · rw [if_pos c] at k; exact Ev.ifp (one _) k
 rw [if_neg c] at k
 refine Ev.dc (fun c => ?_) (fun c => ?_)
 · rw [if_pos c] at k; exact Ev.ifp (one _) k
 rw [if_neg c] at k
 refine Ev.dc (fun c => ?_) (fun c => ?_)
 · rw [if_pos c] at k; exact Ev.ifp (one _) k
 rw [if_neg c] at k
 exact Ev.bind (rfill_ev a b) (Ev.ifp (by simp only [fillI, List.length_cons, List.length_nil]; omega) k)
theorem rBuild_loop {l : List Styl} (hl : ∀ s ∈ l, styC s = 0) {s : ByteArray} {R : List (Int × Int)} (hR : R.length ≤ 1000000) (hx : ∀ x ∈ R, 0 ≤ x.1 ∧ x.1 ≤ 1000000) {X Y : List Int} (hX : X.length ≤ 1000000) (hY : Y.length = X.length)
 (hA : ∀ a ∈ Y, 0 ≤ a ∧ a ≤ 1000000 ∧ 0 ≤ styAt R a) : ∀ (d i : Nat) (q : List api_Item × Int), i + d = X.length → BOk q i →
  Ev (fun k => regletref07_Build.l0 k l s R X Y q.1 q.2 (i : Int)) (bld l R (s.size : Int) (X.drop i) (Y.drop i) q, 0) := by
 intro d
 induction d with
 | zero =>
  intro i q hi hb
  rw [List.drop_of_length_le (by omega), List.drop_of_length_le (by omega)]
  refine Ev.st (fun k => by rw [regletref07_Build.l0]) (Ev.dn (by omega) ?_)
  have := hb.1
  exact Ev.bind (rfill_ev _ _) (Ev.ifp (by simp only [fillI, List.length_cons, List.length_nil]; omega) (Ev.now _))
 | succ d ih =>
  intro i q hi hb
  have ea := hA _ (rd_in Y (i := i) (by omega))
  have nx' : nxt (Y.drop (i + 1)) (s.size : Int) = if i + 1 < X.length then rd Y ((i + 1 : Nat) : Int) else (s.size : Int) := by
   by_cases c : i + 1 < X.length
   · rw [if_pos c, drop_rd Y (i + 1) (by omega)]; rfl
   · rw [if_neg c, List.drop_of_length_le (by omega)]; rfl
  have ih' := fun q => ih (i + 1) q (by omega)
  have len := hb.1
  rw [drop_rd X i (by omega), drop_rd Y i (by omega), bld]
  generalize nxt (Y.drop (i + 1)) (s.size : Int) = b at *
  have main : Ev (fun k => regletref07_Build.j1 k l s R X Y q.1 q.2 (i : Int) (rd Y (i : Int)) b) ((if kindOf (rd X (i : Int)) = 8 then (stepB (ofS l (styAt R (rd Y (i : Int)))) (styAt R (rd Y (i : Int))) (rd X (i : Int)) (rd Y (i : Int)) b q).1 else bld l R (s.size : Int) (X.drop (i + 1)) (Y.drop (i + 1)) (stepB (ofS l (styAt R (rd Y (i : Int)))) (styAt R (rd Y (i : Int))) (rd X (i : Int)) (rd Y (i : Int)) b q)), 0) := by
   have S := styAt_ev R hR hx R.length 0 (rd Y (i : Int)).toNat (by omega) (by omega)
   rw [show (((rd Y (i : Int)).toNat : Nat) : Int) = rd Y (i : Int) by omega, show ((0 : Nat) : Int) = 0 from rfl] at S
   refine Ev.st (fun k => by rw [regletref07_Build.j1]; unfold regletref07_StyleAt.f; rfl) (Ev.bind S ?_)
   rw [List.drop_zero]
   generalize styAt R (rd Y (i : Int)) = sy at *
   refine Ev.gx (by omega) (by omega) ?_
   refine Ev.bind (refWidth_ev hl sy _) ?_
   refine Ev.gx (by omega) (by omega) ?_
   refine Ev.bind (refKind_ev _) ?_
   generalize rd X (i : Int) = r at *
   generalize rd Y (i : Int) = a at *
   have hw := widthS_ok hl sy r
   have nb := stepB_ok hl r sy a b q i (i + 1) (by omega) ea.2.2 hb
   have j6 : ∀ q' : List api_Item × Int, BOk q' (i + 1) → Ev (fun k => regletref07_Build.j6 k l s R X Y q'.1 q'.2 (i : Int)) (bld l R (s.size : Int) (X.drop (i + 1)) (Y.drop (i + 1)) q', 0) := fun q' hq' => by
    refine Ev.st (fun k => by rw [regletref07_Build.j6]) ?_
    rw [nx i (by omega)]
    exact ih' q' hq'
   have box : kindOf r = 0 ∨ kindOf r = 2 ∨ kindOf r = 6 → Ev (fun k => regletref07_Build.j2 k l s R X Y q.1 q.2 (i : Int) a b sy (widthS (ofS l sy) r) (kindOf r) (wrap64 ((q.1.length : Int) - 1))) ((if kindOf r = 8 then (stepB (ofS l sy) sy r a b q).1 else bld l R (s.size : Int) (X.drop (i + 1)) (Y.drop (i + 1)) (stepB (ofS l sy) sy r a b q)), 0) := fun c => by
    refine rj2_ev l s R X Y q (i : Int) a b sy _ _ i (by omega) ea.2.2 hw hb ?_
    have hlen : (boxB sy (widthS (ofS l sy) r) a b q).length ≤ 3 * (i + 1) := by
     have := nb.1
     unfold stepB at this
     by_cases c0 : kindOf r = 0 ∨ kindOf r = 2
     · rw [if_pos c0] at this; exact this
     · rw [if_neg c0, if_pos (by omega)] at this
       simp only [List.length_append, List.length_singleton] at this; omega
    refine rj4_ev l s R X Y _ (i : Int) b sy _ (by omega) ?_
    rw [if_neg (show ¬ kindOf r = 8 by omega)]
    have z := j6 _ nb
    by_cases c0 : kindOf r = 0 ∨ kindOf r = 2
    · have e : stepB (ofS l sy) sy r a b q = (boxB sy (widthS (ofS l sy) r) a b q, sy) := if_pos c0
      have c6 : ¬ kindOf r = 6 := by omega
      rw [e] at z ⊢
      rw [if_neg c6, if_neg c6]; exact z
    · have c6 : kindOf r = 6 := by omega
      have e : stepB (ofS l sy) sy r a b q = (boxB sy (widthS (ofS l sy) r) a b q ++ [(3, 0, 0, 0, false, 50, true, b, b)], -1) := (if_neg c0).trans (if_pos c6)
      rw [e] at z ⊢
      rw [if_pos c6, if_pos c6]; exact z
   refine Ev.dc (fun c => box (.inl c)) (fun c => ?_)
   refine Ev.dc (fun c => box (.inr (.inl c))) (fun c => ?_)
   refine Ev.dc (fun c => box (.inr (.inr c))) (fun c => ?_)
   refine rj3_ev l s R X Y q (i : Int) a b sy r i (by omega) len (by omega) ?_
   refine rj5_ev l s R X Y _ _ (i : Int) _ (fun c => by rw [if_pos c]) (fun c => ?_)
   rw [if_neg c]
   exact j6 _ nb
  refine Ev.st (fun k => by rw [regletref07_Build.l0]) (Ev.dp (by omega) ?_)
  refine Ev.gx (by omega) (by omega) ?_
  rw [nx i (by omega)]
  refine Ev.dc (fun c => ?_) (fun c => ?_)
  · refine Ev.gx (by omega) (by omega) ?_
    rw [if_pos (by omega)] at nx'
    subst nx'
    exact main
  · rw [if_neg (by omega)] at nx'
    rw [nx'] at main
    rw [nx']
    exact main
theorem Build_ev {l : List Styl} (hl : ∀ s ∈ l, styC s = 0) {s : ByteArray} (hs : s.size ≤ 1000000) {R : List (Int × Int)} (hR : R.length ≤ 1000000) (hc : chkC l s R = 0) :
 ∃ L A b, Ev (fun k => regletref02_Runes.f k s) (L, A, b) ∧ Dec s s.size 0 L A ∧ runC l.length s 0 R = 0 ∧ Ev (fun k => items_Build.f k l s R) (bld l R (s.size : Int) L A ([], -1), 0) ∧ Ev (fun k => regletref07_Build.f k l s R) (bld l R (s.size : Int) L A ([], -1), 0) := by
 have I := iChk07_ev l s hs R hR
 have J := rChk07_ev l s hs R hR
 rw [hc] at I J
 have hr : RightS s 0 ∧ runC l.length s 0 R = 0 := by
  unfold chkC at hc
  by_cases q : isTrue (RightS s 0) = false
  · rw [if_pos q] at hc; omega
  rw [if_neg q] at hc
  refine ⟨isTrue_iff.1 (by simpa using q), ?_⟩
  by_cases q : s = ByteArray.empty
  · rw [if_pos q] at hc; omega
  rw [if_neg q] at hc
  by_cases q : isTrue (NlBad s) = true
  · rw [if_pos q] at hc; omega
  rwa [if_neg q] at hc
 obtain ⟨hr, hrun⟩ := hr
 obtain ⟨L, A, b, V, Q⟩ := Runes_ev s hs
 have D : Dec s s.size 0 L A := by
  rcases Q with ⟨_, q⟩ | ⟨e, _, h1, h2, h3⟩
  · exact q
  · exact absurd hr (h2.stop h3 h1)
 have b0 : BOk (([] : List api_Item), (-1 : Int)) 0 := ⟨by simp, fun x hx => by simp at hx, fun z => absurd rfl z⟩
 refine ⟨L, A, b, V, D, hrun, Ev.bind I (Ev.xn rfl ?_), Ev.bind J (Ev.xn rfl (Ev.bind V ?_))⟩
 · have z := iBuild_loop hl hs hR D [] 0 false 0 0 ⟨by omega, by omega, hrun, fun q => by rw [List.drop_zero, Nat.add_zero, Nat.zero_add], fun h => by omega, fun h => ?_⟩ b0
   · exact z
   · obtain ⟨h1, h2, h3⟩ := h
     have D' := D
     generalize hq : (0 : Nat) = z at D'
     cases D' with
     | done => omega
     | step hE _ =>
      subst hq
      have := hE.2
      rw [Nat.add_zero] at h2 h3
      omega
 · have dl := D.le
   refine rBuild_loop hl hR (fun x hx => by have := runC_lens R 0 hrun (by omega) x hx; omega) (show L.length ≤ 1000000 by omega) (by dsimp only; omega) (fun a ha => ?_) L.length 0 ([], -1) (by omega) b0
   have h0 := D.mem_ge a ha
   have h1 := D.mem_lt a ha
   have := styAt_ok R 0 a.toNat hrun (by omega)
   rw [show ((a.toNat : Nat) : Int) = a by omega] at this
   omega
end Go.Proofs.YtjbobaeggdafpaaGreat.Vm
