/- Items by a builder: what the program makes of a rune. -/
import Derived.Test.YtjbobaeggdafpaaGreatTq
namespace Go.Proofs.YtjbobaeggdafpaaGreat.Vm
open Go
open _root_.Go.RowKit (wrap64)
theorem findR_ok (r o : Int) (ho : UnitOk o 0) : ∀ (l : List Rng) (above : Int), rngC above l = 0 → UnitOk (findR r o l) 0
 | [], _, _ => ho
 | x :: xs, above, h => by
  unfold rngC at h
  by_cases q : x.1 ≤ above ∨ x.2.1 < x.1 ∨ 1114111 < x.2.1
  · rw [if_pos q] at h; omega
  rw [if_neg q] at h
  by_cases u : UnitOk x.2.2 0
  · rw [if_pos u] at h
    unfold findR
    by_cases c : x.1 ≤ r ∧ r ≤ x.2.1
    · rw [if_pos c]; exact u
    · rw [if_neg c]; exact findR_ok r o ho xs _ h
  · rw [if_neg u] at h; omega
theorem widthS_ok {l : List Styl} (h : ∀ s ∈ l, styC s = 0) (n r : Int) : 0 ≤ widthS (ofS l n) r ∧ widthS (ofS l n) r ≤ 1048576 := by
 obtain ⟨_, h2, h3, _, _, _, h7, _⟩ := ofS_ok h n
 unfold widthS
 by_cases c : kindOf r = 1 ∨ kindOf r = 2
 · rw [if_pos c]; exact h3
 rw [if_neg c]
 by_cases c : kindOf r = 3 ∨ kindOf r = 4 ∨ kindOf r = 5 ∨ kindOf r = 7 ∨ kindOf r = 8
 · rw [if_pos c]; omega
 rw [if_neg c]
 exact findR_ok r _ h7 _ _ h2
theorem sAdd_ev (a b : Int) (ha : 0 ≤ a ∧ a ≤ 1000000000000000) (hb : 0 ≤ b ∧ b ≤ 1000000000000000) : Ev (fun k => scaled_Add.f k a b) (a + b) := by
 have cl : ∀ x : Int, 0 ≤ x → x ≤ 2000000000000000 → Ev (fun k => scaled_Clamp.f k x) x := fun x h0 h1 => Ev.some_ (by
  rw [if_pos (show x < 1152921504606846976 by omega), if_pos (by omega)])
 refine Ev.bind (cl a (by omega) (by omega)) (Ev.bind (cl b (by omega) (by omega)) ?_)
 rw [w64 (by omega) (by omega)]
 exact Ev.bind (cl _ (by omega) (by omega)) (Ev.now _)
theorem rAdd_ev (a b : Int) (ha : 0 ≤ a ∧ a ≤ 1000000000000000) (hb : 0 ≤ b ∧ b ≤ 1000000000000000) : Ev (fun k => regletref01_Add.f k a b) (a + b) := by
 have cl : ∀ x : Int, 0 ≤ x → x ≤ 2000000000000000 → Ev (fun k => regletref01_Clamp.f k x) x := fun x h0 h1 => Ev.dn (by omega) (Ev.dn (by omega) (Ev.now _))
 refine Ev.bind (cl a (by omega) (by omega)) (Ev.bind (cl b (by omega) (by omega)) ?_)
 rw [w64 (by omega) (by omega)]
 exact Ev.bind (cl _ (by omega) (by omega)) (Ev.now _)
def fillI (a b : Int) : List api_Item := [(2, 0, 0, 0, true, 0, false, a, a), (3, 0, 0, 0, false, -10000, false, a, b)]
def wider (x : api_Item) (w b : Int) : api_Item := (x.1, x.2.1 + w, x.2.2.1, x.2.2.2.1, x.2.2.2.2.1, x.2.2.2.2.2.1, x.2.2.2.2.2.2.1, x.2.2.2.2.2.2.2.1, b)
def grow (out : List api_Item) (w b : Int) : List api_Item := match out.getLast? with
 | some x => out.dropLast ++ [wider x w b]
 | none => []
theorem grow_concat (ys : List api_Item) (x : api_Item) (w b : Int) : grow (ys ++ [x]) w b = ys ++ [wider x w b] := by simp [grow]
def boxB (s w a b : Int) (q : List api_Item × Int) : List api_Item := if q.2 = s then grow q.1 w b else q.1 ++ [(1, w, 0, 0, false, 0, false, a, b)]
def stepB (st : Styl) (s r a b : Int) (q : List api_Item × Int) : List api_Item × Int :=
 if kindOf r = 0 ∨ kindOf r = 2 then (boxB s (widthS st r) a b q, s)
 else if kindOf r = 6 then (boxB s (widthS st r) a b q ++ [(3, 0, 0, 0, false, 50, true, b, b)], -1)
 else if kindOf r = 1 then (q.1 ++ [(2, st.2.1, st.2.2.1, st.2.2.2.1, false, 0, false, a, b)], -1)
 else if kindOf r = 3 then (q.1 ++ [(3, st.2.2.2.2.1, 0, 0, false, 50, true, a, b)], -1)
 else if kindOf r = 4 then (q.1 ++ [(3, 0, 0, 0, false, 0, false, a, b)], -1)
 else if kindOf r = 5 then (q.1 ++ [(3, 0, 0, 0, false, 10000, false, a, b)], -1)
 else (q.1 ++ fillI a b, -1)
def BOk (q : List api_Item × Int) (p : Nat) : Prop := q.1.length ≤ 3 * p ∧ (∀ x ∈ q.1, 0 ≤ x.2.1 ∧ x.2.1 ≤ 1048576 * (p : Int)) ∧ (q.2 ≠ -1 → q.1 ≠ [])
def wordOf (st : Int) (w : Bool) : Int := if w = true then st else -1
theorem kindOf_in (r : Int) : 0 ≤ kindOf r ∧ kindOf r ≤ 8 := by
 unfold kindOf kind1 kind2 kind3
 repeat' (first | (constructor <;> omega) | split)
theorem put_ev (l : List Styl) (out : List api_Item) (st : Int) (w : Bool) (x : api_Item) (h : out.length ≤ 100000000) : Ev (fun k => items_builder_put.f k (l, out, st, w) x) (l, out ++ [x], st, false) :=
 Ev.ifp (by simp only [List.length_singleton]; omega) (Ev.now _)
theorem end_ev (l : List Styl) (out : List api_Item) (st : Int) (w : Bool) (a b : Int) (h : out.length ≤ 10000000) : Ev (fun k => items_builder_end.f k (l, out, st, w) a b) (l, out ++ fillI a b, st, false) := by
 refine Ev.bind (put_ev l out st w _ (by omega)) ?_
 refine Ev.bind (put_ev l _ st false _ (by simp only [List.length_append, List.length_singleton]; omega)) ?_
 exact Ev.some_ (by rw [List.append_assoc]; rfl)
theorem concat_of {α : Type} {l : List α} (h : l ≠ []) : ∃ ys x, l = ys ++ [x] := ⟨l.dropLast, l.getLast h, (List.dropLast_concat_getLast h).symm⟩
theorem last_get {α : Type} (ys : List α) (x : α) : (ys ++ [x])[((ys.length : Int)).toNat]? = some x := by simp
theorem last_set {α : Type} (ys : List α) (x y : α) : (ys ++ [x]).set ys.length y = ys ++ [y] := by simp
theorem box_ev (l : List Styl) (out : List api_Item) (st : Int) (wd : Bool) (w s a b : Int) (p : Nat) (hp : p ≤ 1000000) (hs : 0 ≤ s) (hw : 0 ≤ w ∧ w ≤ 1048576) (h : BOk (out, wordOf st wd) p) :
 ∃ st', Ev (fun k => items_builder_box.f k (l, out, st, wd) w s a b) (l, boxB s w a b (out, wordOf st wd), st', true) ∧ st' = s := by
 obtain ⟨h1, h2, h3⟩ := h
 dsimp only at h1 h2 h3
 have new : wordOf st wd ≠ s → Ev (fun k => items_builder_box.j1 k w s a b (l, out, st, wd)) (l, boxB s w a b (out, wordOf st wd), s, true) := fun ne => by
  refine Ev.st (fun k => by rw [items_builder_box.j1]) ?_
  refine Ev.bind (put_ev l out st wd _ (by omega)) (Ev.some_ ?_)
  unfold boxB; rw [if_neg ne]
 refine ⟨s, ?_, rfl⟩
 refine Ev.bc (fun q => ?_) (fun q => ?_)
 · have q0 : wd = true := q
   have e : wordOf st wd = st := by unfold wordOf; rw [if_pos q0]
   refine Ev.dc (fun c => ?_) (fun c => ?_)
   · have c0 : st = s := c
     obtain ⟨ys, x, rfl⟩ := concat_of (h3 (by omega))
     have len : (ys ++ [x]).length = ys.length + 1 := by simp
     have hx := h2 x (by simp)
     have idx : wrap64 (((ys ++ [x]).length : Int) - 1) = (ys.length : Int) := by rw [len, w64 (by omega) (by omega)]; omega
     dsimp only
     rw [idx]
     refine Ev.ifp (by rw [len]; omega) ?_
     refine Ev.ix (last_get ys x) ?_
     refine Ev.bind (sAdd_ev _ _ (by omega) (by omega)) ?_
     refine Ev.ifp (by rw [len]; omega) ?_
     refine Ev.ix (last_get ys x) ?_
     refine Ev.st (fun k => by rw [items_builder_box.j0]) ?_
     dsimp only
     rw [Int.toNat_natCast, last_set]
     refine Ev.ifp (by rw [List.length_append, List.length_singleton]; omega) ?_
     refine Ev.ix (last_get ys _) (Ev.some_ ?_)
     rw [last_set]
     unfold boxB; rw [e, if_pos c0, grow_concat, ← c0, q0]; rfl
   · exact new (by rw [e]; exact c)
 · have q : wd = false := q
   exact new (by unfold wordOf; rw [q]; simp; omega)
theorem rune_ev {l : List Styl} (hl : ∀ s ∈ l, styC s = 0) (out : List api_Item) (st : Int) (wd : Bool) (r s a b : Int) (p : Nat) (hp : p ≤ 1000000) (hs : 0 ≤ s) (hr : 0 ≤ r ∧ r ≤ 1114111) (h : BOk (out, wordOf st wd) p) (h8 : kindOf r ≠ 8) :
 ∃ st' wd', Ev (fun k => items_builder_rune.f k (l, out, st, wd) r s a b) (l, (stepB (ofS l s) s r a b (out, wordOf st wd)).1, st', wd') ∧ wordOf st' wd' = (stepB (ofS l s) s r a b (out, wordOf st wd)).2 := by
 have hlen : out.length ≤ 3 * p := h.1
 have K := kind_ev r
 have k9 := kindOf_in r
 obtain ⟨s', B, hs'⟩ := box_ev l out st wd (widthS (ofS l s) r) s a b p hp hs (widthS_ok hl s r) h
 subst hs'
 have W := Width_ev hl s' (r := r) (by omega)
 have lenB : (boxB s' (widthS (ofS l s') r) a b (out, wordOf st wd)).length ≤ 4 * p + 1 := by
  unfold boxB
  by_cases c : wordOf st wd = s'
  · rw [if_pos c]
    obtain ⟨ys, x, e⟩ := concat_of (h.2.2 (show wordOf st wd ≠ -1 by omega))
    have e : out = ys ++ [x] := e
    subst e
    rw [grow_concat]
    simp only [List.length_append, List.length_singleton] at hlen ⊢; omega
  · rw [if_neg c]
    simp only [List.length_append, List.length_singleton]; omega
 unfold stepB
 by_cases c : kindOf r = 0 ∨ kindOf r = 2
 · rw [if_pos c]
   refine ⟨s', true, Ev.bind K ?_, rfl⟩
   refine Ev.dn (by omega) (Ev.dn (by omega) (Ev.dn (by omega) (Ev.dn (by omega) (Ev.dn (by omega) (Ev.dn (by omega) ?_)))))
   exact Ev.bind W (Ev.bind B (Ev.now _))
 rw [if_neg c]
 by_cases c : kindOf r = 6
 · rw [if_pos c]
   refine ⟨s', false, Ev.bind K ?_, rfl⟩
   refine Ev.dn (by omega) (Ev.dn (by omega) (Ev.dn (by omega) (Ev.dn (by omega) (Ev.dn (by omega) (Ev.dp (by omega) ?_)))))
   exact Ev.bind W (Ev.bind B (Ev.bind (put_ev l _ s' true _ (by omega)) (Ev.now _)))
 rw [if_neg c]
 by_cases c : kindOf r = 1
 · rw [if_pos c]
   refine ⟨st, false, Ev.bind K (Ev.dp (by omega) ?_), rfl⟩
   exact Ev.bind (Space_ev l s') (Ev.bind (put_ev l out st wd _ (by omega)) (Ev.now _))
 rw [if_neg c]
 by_cases c3 : kindOf r = 3
 · rw [if_pos c3]
   refine ⟨st, false, Ev.bind K (Ev.dn (by omega) (Ev.dp (by omega) ?_)), rfl⟩
   exact Ev.bind (Hyphen_ev l s') (Ev.bind (put_ev l out st wd _ (by omega)) (Ev.now _))
 rw [if_neg c3]
 by_cases c4 : kindOf r = 4
 · rw [if_pos c4]
   refine ⟨st, false, Ev.bind K (Ev.dn (by omega) (Ev.dn (by omega) (Ev.dp (by omega) ?_))), rfl⟩
   exact Ev.bind (put_ev l out st wd _ (by omega)) (Ev.now _)
 rw [if_neg c4]
 by_cases c5 : kindOf r = 5
 · rw [if_pos c5]
   refine ⟨st, false, Ev.bind K (Ev.dn (by omega) (Ev.dn (by omega) (Ev.dn (by omega) (Ev.dp (by omega) ?_)))), rfl⟩
   exact Ev.bind (put_ev l out st wd _ (by omega)) (Ev.now _)
 rw [if_neg c5]
 refine ⟨st, false, Ev.bind K (Ev.dn (by omega) (Ev.dn (by omega) (Ev.dn (by omega) (Ev.dn (by omega) (Ev.dp (by omega) ?_))))), rfl⟩
 exact Ev.bind (end_ev l out st wd a b (by omega)) (Ev.now _)
theorem stepB_ok {l : List Styl} (hl : ∀ s ∈ l, styC s = 0) (r s a b : Int) (q : List api_Item × Int) (p p' : Nat) (hpp : p < p') (hs : 0 ≤ s) (h : BOk q p) : BOk (stepB (ofS l s) s r a b q) p' := by
 obtain ⟨h1, h2, h3⟩ := h
 have hw := widthS_ok hl s r
 obtain ⟨_, _, o1, o2, o3, o4, _⟩ := ofS_ok hl s
 have old : ∀ x ∈ q.1, 0 ≤ x.2.1 ∧ x.2.1 ≤ 1048576 * (p' : Int) := fun x hx => by have := h2 x hx; omega
 have app : ∀ ys : List api_Item, ys.length ≤ 2 → (∀ x ∈ ys, 0 ≤ x.2.1 ∧ x.2.1 ≤ 1048576) → BOk (q.1 ++ ys, -1) p' := fun ys hy hx => by
  refine ⟨by rw [List.length_append]; omega, fun x hm => ?_, fun z => absurd rfl z⟩
  rcases List.mem_append.1 hm with hm | hm
  · exact old x hm
  · have := hx x hm; omega
 have app1 : ∀ y : api_Item, 0 ≤ y.2.1 ∧ y.2.1 ≤ 1048576 → BOk (q.1 ++ [y], -1) p' := fun y hy => app [y] (by simp) (fun x hx => by rw [List.mem_singleton.1 hx]; exact hy)
 have bx : (boxB s (widthS (ofS l s) r) a b q).length ≤ q.1.length + 1 ∧ (∀ x ∈ boxB s (widthS (ofS l s) r) a b q, 0 ≤ x.2.1 ∧ x.2.1 ≤ 1048576 * (p' : Int)) ∧ boxB s (widthS (ofS l s) r) a b q ≠ [] := by
  unfold boxB
  by_cases c : q.2 = s
  · rw [if_pos c]
    obtain ⟨ys, x, e⟩ := concat_of (h3 (by omega))
    rw [e] at old h2 ⊢
    rw [grow_concat]
    refine ⟨by simp, fun y hy => ?_, by simp⟩
    rcases List.mem_append.1 hy with hy | hy
    · exact old y (List.mem_append_left _ hy)
    · rw [List.mem_singleton.1 hy]
      have := h2 x (by simp)
      show 0 ≤ x.2.1 + _ ∧ x.2.1 + _ ≤ _
      omega
  · rw [if_neg c]
    refine ⟨by simp, fun y hy => ?_, by simp⟩
    rcases List.mem_append.1 hy with hy | hy
    · exact old y hy
    · rw [List.mem_singleton.1 hy]
      show 0 ≤ widthS _ _ ∧ widthS _ _ ≤ _
      omega
 unfold stepB
 by_cases c : kindOf r = 0 ∨ kindOf r = 2
 · rw [if_pos c]
   exact ⟨by dsimp only; omega, bx.2.1, fun _ => bx.2.2⟩
 rw [if_neg c]
 by_cases c : kindOf r = 6
 · rw [if_pos c]
   refine ⟨by rw [List.length_append, List.length_singleton]; omega, fun x hm => ?_, fun z => absurd rfl z⟩
   rcases List.mem_append.1 hm with hm | hm
   · exact bx.2.1 x hm
   · rw [List.mem_singleton.1 hm]; dsimp only; omega
 rw [if_neg c]
 by_cases c : kindOf r = 1
 · rw [if_pos c]; exact app1 _ o1
 rw [if_neg c]
 by_cases c : kindOf r = 3
 · rw [if_pos c]; exact app1 _ o4
 rw [if_neg c]
 by_cases c : kindOf r = 4
 · rw [if_pos c]; exact app1 _ (by dsimp only; omega)
 rw [if_neg c]
 by_cases c : kindOf r = 5
 · rw [if_pos c]; exact app1 _ (by dsimp only; omega)
 rw [if_neg c]
 refine app _ (by simp [fillI]) (fun x hx => ?_)
 simp only [fillI, List.mem_cons, List.not_mem_nil, or_false] at hx
 rcases hx with rfl | rfl <;> (dsimp only; omega)
end Go.Proofs.YtjbobaeggdafpaaGreat.Vm
