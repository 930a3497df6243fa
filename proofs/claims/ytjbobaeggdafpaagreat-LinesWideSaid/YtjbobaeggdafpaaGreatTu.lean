/- A paragraph's items: such as may be, their bytes the text's, as wide as its runes. -/
import Derived.Test.YtjbobaeggdafpaaGreatTt
import Derived.Test.YtjbobaeggdafpaaGreatIa
namespace Go.Proofs.YtjbobaeggdafpaaGreat.Vm
open Go
open _root_.Go.RowKit (wrap64)
theorem bld_len {l : List Styl} (hl : ∀ s ∈ l, styC s = 0) {R : List (Int × Int)} {n : Int} : ∀ (L A : List Int) (q : List api_Item × Int) (p : Nat), (∀ a ∈ A, 0 ≤ styAt R a) → BOk q p → (bld l R n L A q).length ≤ 3 * (p + L.length) + 3
 | [], A, q, p, _, h => by
  have := h.1
  have e : bld l R n [] A q = q.1 ++ fillI n n := by cases A <;> rfl
  rw [e, List.length_append]; simp only [fillI, List.length_cons, List.length_nil]; omega
 | r :: L, [], q, p, _, h => by
  have := h.1
  have e : bld l R n (r :: L) [] q = q.1 ++ fillI n n := rfl
  rw [e, List.length_append]; simp only [fillI, List.length_cons, List.length_nil]; omega
 | r :: L, a :: A, q, p, hA, h => by
  have nb := stepB_ok hl r (styAt R a) a (nxt A n) q p (p + 1) (by omega) (hA a (List.mem_cons_self ..)) h
  unfold bld
  rw [List.length_cons]
  by_cases c : kindOf r = 8
  · rw [if_pos c]; have := nb.1; omega
  · rw [if_neg c]
    have := bld_len hl L A _ (p + 1) (fun a ha => hA a (List.mem_cons_of_mem _ ha)) nb (n := n)
    omega
theorem bok0 : BOk (([] : List api_Item), (-1 : Int)) 0 := ⟨by simp, fun x hx => by simp at hx, fun z => absurd rfl z⟩
theorem Dec.sty {n : Nat} {s : ByteArray} {L A : List Int} (D : Dec s s.size 0 L A) {R : List (Int × Int)} (h : runC n s 0 R = 0) : ∀ a ∈ A, 0 ≤ a ∧ a < s.size ∧ 0 ≤ styAt R a ∧ styAt R a < n := fun a ha => by
 have h0 := D.mem_ge a ha
 have h1 := D.mem_lt a ha
 have := styAt_ok R 0 a.toNat h (by omega)
 rw [show ((a.toNat : Nat) : Int) = a by omega] at this
 omega
def endI : Int → List api_Item → Int
 | p, [] => p
 | _, x :: r => endI x.2.2.2.2.2.2.2.2 r
theorem endI_app : ∀ (xs ys : List api_Item) (p : Int), endI p (xs ++ ys) = endI (endI p xs) ys
 | [], _, _ => rfl
 | _ :: r, ys, _ => endI_app r ys _
theorem RtL_app : ∀ (xs ys : List api_Item) (p : Int), RtL p (xs ++ ys) ↔ RtL p xs ∧ RtL (endI p xs) ys
 | [], ys, p => ⟨fun h => ⟨trivial, h⟩, fun h => h.2⟩
 | x :: r, ys, p => by
  rw [List.cons_append, RtL, RtL, endI, RtL_app r ys]
  exact ⟨fun ⟨a, b, c, d⟩ => ⟨⟨a, b, c⟩, d⟩, fun ⟨⟨a, b, c⟩, d⟩ => ⟨a, b, c, d⟩⟩
def wsum : List api_Item → Int
 | [] => 0
 | x :: r => (if x.1 = 3 then 0 else x.2.1) + wsum r
theorem wsum_app : ∀ xs ys : List api_Item, wsum (xs ++ ys) = wsum xs + wsum ys
 | [], ys => (Int.zero_add _).symm
 | x :: r, ys => by rw [List.cons_append, wsum, wsum, wsum_app r ys, Int.add_assoc]
def WInv (q : List api_Item × Int) (p W : Int) : Prop := RtL 0 q.1 ∧ endI 0 q.1 = p ∧ wsum q.1 = W ∧ (q.2 ≠ -1 → ∃ ys x, q.1 = ys ++ [x] ∧ x.1 = 1)
theorem okBox {w a b : Int} (h : 0 ≤ w ∧ w ≤ 68719476736) : OkI (1, w, 0, 0, false, 0, false, a, b) := ⟨h, ⟨by simp, by simp⟩, ⟨by simp, by simp⟩, h.1, .inl ⟨rfl, rfl, rfl, rfl, rfl, rfl⟩⟩
theorem okPen {w c a b : Int} {f : Bool} (h : 0 ≤ w ∧ w ≤ 68719476736) (hc : -10000 ≤ c ∧ c ≤ 10000) : OkI (3, w, 0, 0, false, c, f, a, b) := ⟨h, ⟨by simp, by simp⟩, ⟨by simp, by simp⟩, h.1, .inr (.inr ⟨rfl, rfl, rfl, rfl, hc.1, hc.2⟩)⟩
theorem okGlue {w m s a b : Int} (h : 0 ≤ w ∧ w ≤ 68719476736) (hm : 0 ≤ m ∧ m ≤ 68719476736) (hs : 0 ≤ s ∧ s ≤ 68719476736) (hw : s ≤ w) : OkI (2, w, m, s, false, 0, false, a, b) := ⟨h, hm, hs, hw, .inr (.inl ⟨rfl, rfl, rfl, fun z => by cases z⟩)⟩
theorem okFill {a b : Int} : OkI (2, 0, 0, 0, true, 0, false, a, b) := ⟨⟨by simp, by simp⟩, ⟨by simp, by simp⟩, ⟨by simp, by simp⟩, by simp, .inr (.inl ⟨rfl, rfl, rfl, fun _ => ⟨rfl, rfl⟩⟩)⟩
theorem RtL_one {p b : Int} {x : api_Item} (hf : x.2.2.2.2.2.2.2.1 = p) (ht : x.2.2.2.2.2.2.2.2 = b) (h1 : p ≤ b) (h2 : b ≤ 65536) (ho : OkI x) : RtL p [x] := ⟨⟨hf, by omega, by omega⟩, ho, trivial⟩
theorem RtL_fill {p b : Int} (h1 : p ≤ b) (h2 : b ≤ 65536) : RtL p (fillI p b) :=
 ⟨⟨rfl, Int.le_refl _, show p ≤ 65536 by omega⟩, okFill, ⟨rfl, h1, h2⟩, okPen ⟨by simp, by simp⟩ ⟨by simp, by simp⟩, trivial⟩
theorem stepB_inv {l : List Styl} (hl : ∀ s ∈ l, styC s = 0) (r s : Int) (q : List api_Item × Int) (p p' : Nat) (W : Int) (hpp : p < p') (hp : p' ≤ 2000) (hs : 0 ≤ s) (h : BOk q p) (hi : WInv q (p : Int) W) :
 WInv (stepB (ofS l s) s r (p : Int) (p' : Int) q) (p' : Int) (W + widthS (ofS l s) r) := by
 obtain ⟨i1, i2, i3, i4⟩ := hi
 have hw := widthS_ok hl s r
 obtain ⟨_, _, o1, o2, o3, o4, _, o5⟩ := ofS_ok hl s
 have k9 := kindOf_in r
 have bx : RtL 0 (boxB s (widthS (ofS l s) r) (p : Int) (p' : Int) q) ∧ endI 0 (boxB s (widthS (ofS l s) r) (p : Int) (p' : Int) q) = (p' : Int) ∧ wsum (boxB s (widthS (ofS l s) r) (p : Int) (p' : Int) q) = W + widthS (ofS l s) r ∧ ∃ ys x, boxB s (widthS (ofS l s) r) (p : Int) (p' : Int) q = ys ++ [x] ∧ x.1 = 1 := by
  generalize widthS (ofS l s) r = w at *
  unfold boxB
  by_cases c : q.2 = s
  · rw [if_pos c]
    obtain ⟨ys, x, e, x1⟩ := i4 (by omega)
    have hx := h.2.1 x (by rw [e]; simp)
    rw [e] at i1 i2 i3 ⊢
    rw [grow_concat]
    rw [RtL_app] at i1
    rw [wsum_app] at i3
    rw [endI_app] at i2
    obtain ⟨j1, ⟨k1, k2, k3⟩, k4, _⟩ := i1
    have i2 : x.2.2.2.2.2.2.2.2 = (p : Int) := i2
    have i3 : wsum ys + ((if x.1 = 3 then 0 else x.2.1) + 0) = W := i3
    rw [if_neg (by omega)] at i3
    refine ⟨(RtL_app _ _ _).2 ⟨j1, RtL_one (b := (p' : Int)) k1 rfl (by omega) (by omega) ?_⟩, ?_, ?_, ys, _, rfl, x1⟩
    · obtain ⟨m1, m2, m3, m4, m5⟩ := k4
      refine ⟨⟨?_, ?_⟩, m2, m3, ?_, ?_⟩
      · show 0 ≤ x.2.1 + w; omega
      · show x.2.1 + w ≤ _; omega
      · show x.2.2.2.1 ≤ x.2.1 + w; omega
      · rcases m5 with z | z | z
        · exact .inl z
        · omega
        · omega
    · rw [endI_app]; rfl
    · rw [wsum_app]
      show wsum ys + ((if x.1 = 3 then 0 else x.2.1 + w) + 0) = _
      rw [if_neg (by omega)]; omega
  · rw [if_neg c]
    refine ⟨(RtL_app _ _ _).2 ⟨i1, RtL_one (b := (p' : Int)) i2.symm rfl (by omega) (by omega) (okBox (by omega))⟩, ?_, ?_, _, _, rfl, rfl⟩
    · rw [endI_app]; rfl
    · rw [wsum_app, i3]
      show W + ((if (1 : Int) = 3 then 0 else w) + 0) = _
      rw [if_neg (by omega)]; omega
 have app : ∀ (y : api_Item) (w : Int), y.2.2.2.2.2.2.2.1 = (p : Int) → y.2.2.2.2.2.2.2.2 = (p' : Int) → OkI y → (if y.1 = 3 then 0 else y.2.1) = w → WInv (q.1 ++ [y], -1) (p' : Int) (W + w) := fun y w e1 e2 e3 e4 => by
  refine ⟨(RtL_app _ _ _).2 ⟨i1, RtL_one (b := (p' : Int)) (by rw [i2]; exact e1) e2 (by rw [i2]; omega) (by omega) e3⟩, ?_, ?_, fun z => absurd rfl z⟩
  · rw [endI_app]; exact e2
  · rw [wsum_app, i3]
    show W + ((if y.1 = 3 then 0 else y.2.1) + 0) = _
    rw [e4]; omega
 unfold stepB
 by_cases c : kindOf r = 0 ∨ kindOf r = 2
 · rw [if_pos c]
   exact ⟨bx.1, bx.2.1, bx.2.2.1, fun _ => bx.2.2.2⟩
 rw [if_neg c]
 by_cases c6 : kindOf r = 6
 · rw [if_pos c6]
   refine ⟨(RtL_app _ _ _).2 ⟨bx.1, ?_⟩, ?_, ?_, fun z => absurd rfl z⟩
   · rw [bx.2.1]
     exact RtL_one (b := (p' : Int)) rfl rfl (Int.le_refl _) (by omega) (okPen ⟨by simp, by simp⟩ ⟨by simp, by simp⟩)
   · rw [endI_app]; rfl
   · rw [wsum_app, bx.2.2.1]; simp [wsum]
 rw [if_neg c6]
 unfold UnitOk at o1 o2 o3 o4
 by_cases c1 : kindOf r = 1
 · rw [if_pos c1]
   refine app _ _ rfl rfl (okGlue (by omega) (by omega) (by omega) o5) ?_
   have e : widthS (ofS l s) r = (ofS l s).2.1 := if_pos (.inl c1)
   rw [e]; exact if_neg (show ¬ (2 : Int) = 3 by decide)
 rw [if_neg c1]
 have w0 : widthS (ofS l s) r = 0 := by
  unfold widthS
  rw [if_neg (by omega), if_pos (by omega)]
 rw [w0]
 by_cases c : kindOf r = 3
 · rw [if_pos c]
   exact app _ _ rfl rfl (okPen (by omega) ⟨by simp, by simp⟩) rfl
 rw [if_neg c]
 by_cases c : kindOf r = 4
 · rw [if_pos c]
   exact app _ _ rfl rfl (okPen ⟨by simp, by simp⟩ ⟨by simp, by simp⟩) rfl
 rw [if_neg c]
 by_cases c : kindOf r = 5
 · rw [if_pos c]
   exact app _ _ rfl rfl (okPen ⟨by simp, by simp⟩ ⟨by simp, by simp⟩) rfl
 rw [if_neg c]
 refine ⟨(RtL_app _ _ _).2 ⟨i1, by rw [i2]; exact RtL_fill (by omega) (by omega)⟩, ?_, ?_, fun z => absurd rfl z⟩
 · rw [endI_app]; rfl
 · rw [wsum_app, i3]; simp [fillI, wsum]
def rsum (l : List Styl) (R : List (Int × Int)) : List Int → List Int → Int
 | r :: L, a :: A => widthS (ofS l (styAt R a)) r + rsum l R L A
 | _, _ => 0
theorem kind8 {r : Int} (h : kindOf r = 8) : r = 10 := by
 unfold kindOf at h
 by_cases c : r = 32 ∨ r = 9
 · rw [if_pos c] at h; omega
 rw [if_neg c] at h
 by_cases c : r = 160 ∨ r = 8239
 · rw [if_pos c] at h; omega
 rw [if_neg c] at h
 unfold kind1 kind2 kind3 at h
 repeat' (first | omega | split at h)
theorem bld_right {l : List Styl} (hl : ∀ s ∈ l, styC s = 0) {s : ByteArray} (hs : s.size ≤ 2000) {R : List (Int × Int)} (hr : runC l.length s 0 R = 0) (no : ¬ NlBad s) {pos : Nat} {L A : List Int} (D : Dec s s.size pos L A) :
 ∀ (q : List api_Item × Int) (W : Int), BOk q pos → WInv q (pos : Int) W → RtL 0 (bld l R (s.size : Int) L A q) ∧ endI 0 (bld l R (s.size : Int) L A q) = (s.size : Int) ∧ wsum (bld l R (s.size : Int) L A q) = W + rsum l R L A ∧ ∃ ys x, bld l R (s.size : Int) L A q = ys ++ [x] ∧ Fc x := by
 generalize he : s.size = e at D
 induction D with
 | done =>
  intro q W hb hi
  obtain ⟨i1, i2, i3, _⟩ := hi
  refine ⟨(RtL_app _ _ _).2 ⟨i1, by rw [i2]; exact RtL_fill (Int.le_refl _) (by omega)⟩, ?_, ?_, ?_⟩
  · show endI 0 (q.1 ++ fillI _ _) = _
    rw [endI_app]; rfl
  · show wsum (q.1 ++ fillI _ _) = _
    rw [wsum_app, i3]; simp [fillI, wsum, rsum]
  · refine ⟨q.1 ++ [_], _, (List.append_assoc q.1 [_] [_]).symm, rfl, ?_⟩
    simp
 | @step pos r n L A hE hD ih =>
  intro q W hb hi
  subst he
  have p1 := hE.pos1
  have p2 := hE.1
  have st := (styAt_ok R 0 pos hr (by omega)).1
  have nb := stepB_ok hl (r : Int) (styAt R (pos : Int)) (pos : Int) ((pos + n : Nat) : Int) q pos (pos + n) (by omega) st hb
  have ni := stepB_inv hl (r : Int) (styAt R (pos : Int)) q pos (pos + n) W (by omega) (by omega) st hb hi
  rw [bld, hD.nxt, rsum]
  by_cases c : kindOf (r : Int) = 8
  · rw [if_pos c]
    have r10 := kind8 c
    have e : pos + n = s.size := by
     by_cases z : pos + 1 < s.size
     · exact absurd ⟨pos, z, by have := hE.2; omega⟩ no
     · omega
    have e0 : rsum l R L A = 0 := by
     rw [e] at hD
     generalize hz : s.size = z at hD
     have hle := hD.le
     cases L with
     | nil => rfl
     | cons _ _ => simp only [List.length_cons] at hle; omega
    have es : stepB (ofS l (styAt R (pos : Int))) (styAt R (pos : Int)) (r : Int) (pos : Int) ((pos + n : Nat) : Int) q = (q.1 ++ fillI (pos : Int) ((pos + n : Nat) : Int), -1) := by
     unfold stepB
     rw [if_neg (by omega), if_neg (by omega), if_neg (by omega), if_neg (by omega), if_neg (by omega), if_neg (by omega)]
    obtain ⟨n1, n2, n3, _⟩ := ni
    rw [e0, Int.add_zero]
    refine ⟨n1, by rw [n2, e], n3, ?_⟩
    rw [es]
    refine ⟨q.1 ++ [_], _, (List.append_assoc q.1 [_] [_]).symm, rfl, ?_⟩
    simp
  · rw [if_neg c, ← Int.add_assoc]
    exact ih _ _ nb ni
theorem rd_last {α : Type} [Inhabited α] (ys : List α) (x : α) : rd (ys ++ [x]) (((ys ++ [x]).length : Int) - 1) = x := by
 rw [show ((ys ++ [x]).length : Int) - 1 = (ys.length : Int) by simp, rd_nat, List.getD_eq_getElem?_getD]; simp
theorem bad_build {l : List Styl} {s : ByteArray} (hs : s.size ≤ 1000000) {R : List (Int × Int)} (hR : R.length ≤ 1000000) (hc : chkC l s R ≠ 0) : Ev (fun k => items_Build.f k l s R) ([], chkC l s R) ∧ Ev (fun k => regletref07_Build.f k l s R) ([], chkC l s R) :=
 ⟨Ev.bind (iChk07_ev l s hs R hR) (Ev.xp hc (Ev.now _)), Ev.bind (rChk07_ev l s hs R hR) (Ev.xp hc (Ev.now _))⟩
end Go.Proofs.YtjbobaeggdafpaaGreat.Vm
