/- A heap that a function has made, told in one fact: variables in blocks of their own, and rows of its own, none of which shares a block with another one. -/
import Derived.Test.YtdkmmddakidieaaWs
namespace Go.Proofs.Ytdkmmddakidieaa.P
open Go.RowKit Go.Proofs.YtdkmmddakidieaaW.PrintWords Go.Proofs.YtdkmmddakidieaaW.PrintLast Go.Proofs.YtdkmmddakidieaaW.PrintMore
/-- a row: how its elements lie, their type, the slice, the elements -/
structure Rw where
  {α : Type}
  d : Kd α
  e : Nat
  v : Value
  xs : List α
/-- a row of no elements -/
def Rw.nil {α : Type} (d : Kd α) (e : Nat) : Rw := ⟨d, e, .slice none 0 0, ([] : List α)⟩
/-- W is w0 with variables bs and rows rs besides -/
structure Hp (w0 : World) (bs : List (Nat × Obj)) (rs : List Rw) (W : World) : Prop where
  below : Below w0.heap.size w0 W
  blk : ∀ (i : Nat) (b : Nat × Obj), bs[i]? = some b → W.heap[b.1]? = some b.2 ∧ w0.heap.size ≤ b.1
  nodup : ∀ (i j : Nat) (b c : Nat × Obj), bs[i]? = some b → bs[j]? = some c → b.1 = c.1 → i = j
  col : ∃ col : Nat → Option Nat, (∀ (i : Nat) (r : Rw), rs[i]? = some r → r.d.R r.e W w0.heap.size (fun k => col k = some i) r.v r.xs) ∧ (∀ (i : Nat) (b : Nat × Obj), bs[i]? = some b → col b.1 = none)
theorem get_snoc {α : Type _} {l : List α} {x y : α} {i : Nat} (h : (l ++ [x])[i]? = some y) : (l[i]? = some y ∧ i < l.length) ∨ (i = l.length ∧ y = x) := by
  by_cases c : i < l.length
  · rw [List.getElem?_append_left c] at h; exact .inl ⟨h, c⟩
  · rw [List.getElem?_append_right (by omega)] at h
    by_cases q : i - l.length = 0
    · rw [q] at h; exact .inr ⟨by omega, by simpa using h.symm⟩
    · rw [List.getElem?_eq_none (by simp; omega)] at h; cases h
theorem get_set {α : Type _} {l : List α} {x y : α} {i j : Nat} (h : (l.set i x)[j]? = some y) : (i = j ∧ y = x ∧ i < l.length) ∨ (i ≠ j ∧ l[j]? = some y) := by
  rw [List.getElem?_set] at h
  by_cases c : i = j
  · rw [if_pos c] at h
    by_cases q : i < l.length
    · rw [if_pos q] at h; exact .inl ⟨c, by simpa using h.symm, q⟩
    · rw [if_neg q] at h; cases h
  · rw [if_neg c] at h; exact .inr ⟨c, h⟩
theorem get_lt {α : Type _} {l : List α} {y : α} {i : Nat} (h : l[i]? = some y) : i < l.length := (List.getElem?_eq_some_iff.1 h).1
namespace Hp
variable {w0 W W1 : World} {bs : List (Nat × Obj)} {rs : List Rw}
theorem le (h : Hp w0 bs rs W) : w0.heap.size ≤ W.heap.size := h.below.size
theorem start (w : World) : Hp w [] [] w := ⟨Below.refl _ _, fun i b h => by simp at h, fun i j b c h => by simp at h, fun _ => none, fun i r h => by simp at h, fun i b h => by simp at h⟩
/-- what changes nothing that is told -/
theorem step (h : Hp w0 bs rs W) (hb : Below W.heap.size W W1) : Hp w0 bs rs W1 := by
  obtain ⟨h1, h2, h3, col, h4, h5⟩ := h; exact ⟨below_step h1 hb, fun i b hi => ⟨blk_below (h2 i b hi).1 hb, (h2 i b hi).2⟩, h3, col, fun i r hi => Kd.R_below (h4 i r hi) hb, h5⟩
theorem drew (h : Hp w0 bs rs W) : Hp w0 bs rs W.drew := h.step (below_drew (Below.refl _ _))
theorem drewN (h : Hp w0 bs rs W) (n : Nat) : Hp w0 bs rs (W.drewN n) := h.step (pw_below_drewN (Below.refl _ _) n)
theorem alloc (h : Hp w0 bs rs W) (o : Obj) : Hp w0 bs rs (W.alloc o) := h.step (below_alloc (Below.refl _ _) o)
theorem var (h : Hp w0 bs rs W) {i : Nat} {g : Nat} {o : Obj} (hi : bs[i]? = some (g, o)) : W.heap[g]? = some o := (h.blk i _ hi).1
theorem reads (h : Hp w0 bs rs W) {i : Nat} {α : Type} {d : Kd α} {e : Nat} {v : Value} {xs : List α} (hi : rs[i]? = some ⟨d, e, v, xs⟩) : ∃ A c, v = .slice A xs.length c ∧ xs.length ≤ c ∧ d.C W A xs.length xs := by
  obtain ⟨_, _, _, col, h4, _⟩ := h; exact Kd.R_reads (h4 i _ hi)
/-- a new variable -/
theorem new (h : Hp w0 bs rs W) {g : Nat} {o : Obj} (hg : g = W.heap.size) (ho : W1.heap[g]? = some o) (hb : Below W.heap.size W W1) : Hp w0 (bs ++ [(g, o)]) rs W1 := by
  obtain ⟨h1, h2, h3, col, h4, h5⟩ := h; have hlt : ∀ (i : Nat) (b : Nat × Obj), bs[i]? = some b → b.1 < W.heap.size := fun i b hi => blk_lt (h2 i b hi).1
  refine ⟨below_step h1 hb, fun i b hi => ?_, fun i j b c hi hj e => ?_, fun k => if k = g then none else col k, fun i r hi => ?_, fun i b hi => ?_⟩
  · rcases get_snoc hi with ⟨q, _⟩ | ⟨_, rfl⟩
    · exact ⟨blk_below (h2 i b q).1 hb, (h2 i b q).2⟩
    · exact ⟨ho, by have := h1.size; rw [hg]; exact this⟩
  · rcases get_snoc hi with ⟨q, _⟩ | ⟨z, rfl⟩ <;> rcases get_snoc hj with ⟨q', _⟩ | ⟨z', rfl⟩
    · exact h3 i j b c q q' e
    · have := hlt i b q; simp only at e; omega
    · have := hlt j c q'; simp only at e; omega
    · omega
  · refine Kd.R_below (Kd.R_mono (Kd.R_bound (h4 i r hi)) (fun k hk => ?_)) hb
    have := hk.2.2.1
    show (if k = g then none else col k) = some i
    rw [if_neg (by omega)]; exact hk.1
  · rcases get_snoc hi with ⟨q, _⟩ | ⟨_, rfl⟩
    · have := hlt i b q
      show (if b.1 = g then none else col b.1) = none
      rw [if_neg (by omega)]; exact h5 i b q
    · show (if g = g then none else col g) = none
      rw [if_pos rfl]
/-- a variable's cell is written -/
theorem set (h : Hp w0 bs rs W) {i g t : Nat} {cs : Array Value} (hi : bs[i]? = some (g, .cells cs t (0, 0))) (j : Nat) (v : Value) : Hp w0 (bs.set i (g, .cells (cs.setIfInBounds j v) t (0, 0))) rs (W.setCell ⟨g, j, none⟩ v) := by
  obtain ⟨h1, h2, h3, col, h4, h5⟩ := h; have hcol : col g = none := h5 i _ hi
  refine ⟨h1.setCell (h2 i _ hi).2 _, fun k b hk => ?_, fun k l b c hk hl e => ?_, col, fun k r hk => ?_, fun k b hk => ?_⟩
  · rcases get_set hk with ⟨rfl, rfl, _⟩ | ⟨hne, q⟩
    · exact ⟨blk_set (h2 i _ hi).1 j v, (h2 i _ hi).2⟩
    · have hne' : b.1 ≠ g := fun e => hne (h3 i k _ _ hi q e.symm)
      exact ⟨(Below.heap_setCell W ⟨g, j, none⟩ v b.1 hne').trans (h2 k b q).1, (h2 k b q).2⟩
  · rcases get_set hk with ⟨rfl, rfl, _⟩ | ⟨hne, q⟩ <;> rcases get_set hl with ⟨rfl, rfl, _⟩ | ⟨hne', q'⟩
    · rfl
    · exact h3 i l _ c hi q' e
    · exact h3 k i b _ q hi e
    · exact h3 k l b c q q' e
  · refine Kd.R_far (h4 k r hk) (fun m hm e => ?_) _
    have e : m = g := e
    rw [e, hcol] at hm; cases hm
  · rcases get_set hk with ⟨rfl, rfl, _⟩ | ⟨_, q⟩
    · exact hcol
    · exact h5 k b q
/-- a row laid open: its fact, and how what becomes of it goes back -/
theorem open_ (h : Hp w0 bs rs W) {i : Nat} {α : Type} {d : Kd α} {e : Nat} {v : Value} {xs : List α} (hi : rs[i]? = some ⟨d, e, v, xs⟩) :
    ∃ ok : Nat → Prop, d.R e W w0.heap.size ok v xs ∧ (∀ k, W.heap.size ≤ k → ok k) ∧ ∀ {v1 : Value} {w1 : World} {ys : List α}, d.R e w1 w0.heap.size ok v1 ys → Below w0.heap.size w0 w1 → W.grownBy w1 v.ownBlock → Hp w0 bs (rs.set i ⟨d, e, v1, ys⟩) w1 := by
  obtain ⟨h1, h2, h3, col, h4, h5⟩ := h; have hR := h4 i _ hi; have own : ∀ k, v.ownBlock = some k → col k = some i := fun k hk => hR.1 k hk
  refine ⟨fun k => col k = some i ∨ W.heap.size ≤ k, Kd.R_mono hR (fun k hk => .inl hk), fun k hk => .inr hk, fun {v1 w1 ys} hr hb hg => ?_⟩
  refine ⟨hb, fun k b hk => ?_, h3, fun k => if k < W.heap.size then col k else some i, fun k r hk => ?_, fun k b hk => ?_⟩
  · have hlt := blk_lt (h2 k b hk).1
    refine ⟨(hg.block b.1 hlt (fun e => ?_)).trans (h2 k b hk).1, (h2 k b hk).2⟩
    have := own b.1 e.symm
    rw [h5 k b hk] at this; cases this
  · rcases get_set hk with ⟨rfl, rfl, _⟩ | ⟨hne, q⟩
    · refine Kd.R_mono hr (fun m hm => ?_)
      show (if m < W.heap.size then col m else some i) = some i
      by_cases c : m < W.heap.size
      · rw [if_pos c]
        rcases hm with hm | hm
        · exact hm
        · omega
      · rw [if_neg c]
    · refine Kd.R_mono (Kd.R_move (Kd.R_bound (h4 k r q)) (fun m hm => hg.block m hm.2.2.1 (fun e => ?_))) (fun m hm => by
        show (if m < W.heap.size then col m else some i) = some k
        rw [if_pos hm.2.2.1]; exact hm.1)
      have := own m e.symm
      rw [hm.1] at this
      injection this with this
      exact hne this.symm
  · have hlt := blk_lt (h2 k b hk).1
    show (if b.1 < W.heap.size then col b.1 else some i) = none
    rw [if_pos hlt]; exact h5 k b hk
/-- a new row -/
theorem row (h : Hp w0 bs rs W) {α : Type} {d : Kd α} {e : Nat} {v : Value} {xs : List α} (hr : d.R e W1 W.heap.size (fun _ => True) v xs) (hb : Below W.heap.size W W1) : Hp w0 bs (rs ++ [⟨d, e, v, xs⟩]) W1 := by
  obtain ⟨h1, h2, h3, col, h4, h5⟩ := h; refine ⟨below_step h1 hb, fun i b hi => ⟨blk_below (h2 i b hi).1 hb, (h2 i b hi).2⟩, h3, fun k => if k < W.heap.size then col k else some rs.length, fun i r hi => ?_, fun i b hi => ?_⟩
  · rcases get_snoc hi with ⟨q, _⟩ | ⟨rfl, rfl⟩
    · exact Kd.R_below (Kd.R_mono (Kd.R_bound (h4 i r q)) (fun k hk => by
        show (if k < W.heap.size then col k else some rs.length) = some i
        rw [if_pos hk.2.2.1]; exact hk.1)) hb
    · refine Kd.R_mono (Kd.R_lower (Kd.R_bound hr) h1.size) (fun k hk => ?_)
      show (if k < W.heap.size then col k else some rs.length) = some rs.length
      rw [if_neg (by have := hk.2.1; omega)]
  · show (if b.1 < W.heap.size then col b.1 else some rs.length) = none
    rw [if_pos (blk_lt (h2 i b hi).1)]; exact h5 i b hi
/-- a new row in an elder one's place -/
theorem row_at (h : Hp w0 bs rs W) (i : Nat) {α : Type} {d : Kd α} {e : Nat} {v : Value} {xs : List α} (hr : d.R e W1 W.heap.size (fun _ => True) v xs) (hb : Below W.heap.size W W1) : Hp w0 bs (rs.set i ⟨d, e, v, xs⟩) W1 := by
  obtain ⟨h1, h2, h3, col, h4, h5⟩ := h; refine ⟨below_step h1 hb, fun i b hi => ⟨blk_below (h2 i b hi).1 hb, (h2 i b hi).2⟩, h3, fun k => if k < W.heap.size then col k else some i, fun j r hj => ?_, fun j b hj => ?_⟩
  · rcases get_set hj with ⟨rfl, rfl, _⟩ | ⟨_, q⟩
    · refine Kd.R_mono (Kd.R_lower (Kd.R_bound hr) h1.size) (fun k hk => ?_)
      show (if k < W.heap.size then col k else some i) = some i
      rw [if_neg (by have := hk.2.1; omega)]
    · exact Kd.R_below (Kd.R_mono (Kd.R_bound (h4 j r q)) (fun k hk => by
        show (if k < W.heap.size then col k else some i) = some j
        rw [if_pos hk.2.2.1]; exact hk.1)) hb
  · show (if b.1 < W.heap.size then col b.1 else some i) = none
    rw [if_pos (blk_lt (h2 j b hj).1)]; exact h5 j b hj
/-- a row is let go -/
theorem gone (h : Hp w0 bs rs W) (i : Nat) {α : Type} (d : Kd α) (e : Nat) : Hp w0 bs (rs.set i (Rw.nil d e)) W := by
  obtain ⟨h1, h2, h3, col, h4, h5⟩ := h; refine ⟨h1, h2, h3, col, fun j r hj => ?_, h5⟩
  rcases get_set hj with ⟨rfl, rfl, _⟩ | ⟨_, q⟩
  · exact Kd.R_nil _ _ _ _ _
  · exact h4 j r q
theorem rows (h : Hp w0 bs rs W) (n : Nat) : Hp w0 bs (rs.take n) W := by
  obtain ⟨h1, h2, h3, col, h4, h5⟩ := h; refine ⟨h1, h2, h3, col, fun j r hj => h4 j r ?_, h5⟩
  rw [List.getElem?_take] at hj
  split at hj
  · exact hj
  · cases hj
theorem vars (h : Hp w0 bs rs W) (n : Nat) : Hp w0 (bs.take n) rs W := by
  have sub : ∀ (j : Nat) (b : Nat × Obj), (bs.take n)[j]? = some b → bs[j]? = some b := fun j b hj => by
    rw [List.getElem?_take] at hj
    split at hj
    · exact hj
    · cases hj
  obtain ⟨h1, h2, h3, col, h4, h5⟩ := h; exact ⟨h1, fun j b hj => h2 j b (sub j b hj), fun j k b c hj hk => h3 j k b c (sub j b hj) (sub k c hk), col, h4, fun j b hj => h5 j b (sub j b hj)⟩
end Hp
/-- a row of whole numbers -/
abbrev rI (e : Nat) (v : Value) (xs : List Int) : Rw := ⟨Kd.int .i64, e, v, xs⟩
abbrev rN (e : Nat) : Rw := rI e (.slice none 0 0) []
section
variable {P : Program} {ops : Array Oper} {o : Oper} {a : Act} {Q : Exit → Act → World → Prop} {Kc : Act → World → Prop} {w0 W : World} {bs : List (Nat × Obj)} {rs : List Rw}
/-- a number's row of its own, in a region that draws its order -/
theorem Hp.lit_step (H : Hp w0 bs rs W) (i e : Nat) (hw : Region.wanted o (yielded ops a.tmps) = true) {N : Tmp} (hd : o.dst = some N) {n : Int}
    (hrun : (execOp a.eval o).run P W = .ok (.value (.slice (some ⟨W.heap.size, 0, none⟩) 1 1)) (W.alloc (.cells #[.int .i64 n] e)))
    (h : ∀ v1 w1, Hp w0 bs (rs.set i (rI e v1 [n])) w1 → Kc (a.put (some N) v1) w1) : if Region.wanted o (yielded ops a.tmps) = true then Oper.wp P o a W Kc Q else Kc (a.put (some N) undef) W := by
  subst_vars
  have := Kd.R_lit_step (P := P) (ops := ops) (o := o) (a := a) (Q := Q) (Kc := Kc) (Kd.int .i64) (w0 := W) (W := W) W.heap.size e hw hd (xs := [n]) (inner := [.int .i64 n]) (ok := fun _ => True) (okp := fun _ => True) hrun (Reps.one (show Kd.M (Kd.int .i64) _ _ _ n [.int .i64 n] from rfl) (Reps.none _ _)) (fun _ hk => hk) trivial (Below.refl _ _) (Nat.le_refl _) (by simp)
    (fun v1 w1 ho hb _ _ => by rw [hd]; exact h v1 w1 (H.row_at i ho hb))
  rw [hd] at this; exact this
/-- a row appended to another one, in a region that draws its order -/
theorem Hp.app_step (H : Hp w0 bs rs W) {i j e : Nat} {v u : Value} {X Y : List Int} (hi : rs[i]? = some (rI e v X)) (hj : rs[j]? = some (rI e u Y)) (hw : Region.wanted o (yielded ops a.tmps) = true) (s x : Operand) (t : TypeId)
    (ho : o.op = .call { callee := .builtin .append, args := #[s, x], argTypes := #[t, t] }) (ht : P.underlying t = some (.slice e)) (hinfo : (P.info? e).map (fun i => (i.zero, i.size, i.bytes)) = some (some (.int .i64 0), 1, 8))
    (hs : a.eval s = v) (hx : a.eval x = u) (hl : (X.length + Y.length) * 8 ≤ 140737488355328) {N : Tmp} (hd : o.dst = some N)
    (h : ∀ v1 w1, Hp w0 bs (rs.set i (rI e v1 (X ++ Y))) w1 → Kc (a.put (some N) v1) w1) : if Region.wanted o (yielded ops a.tmps) = true then Oper.wp P o a W Kc Q else Kc (a.put (some N) undef) W := by
  obtain ⟨A, c, hu, _, hC⟩ := H.reads hj; obtain ⟨ok, hR, hf, hclose⟩ := H.open_ hi
  have := Kd.R_append_rows_step (P := P) (ops := ops) (o := o) (a := a) (Q := Q) (Kc := Kc) (Kd.int .i64) (w0 := w0) (W := W) w0.heap.size hw s x t e (.int .i64 0) 8 ho ht hinfo rfl (by decide) (by omega) v X Y A Y.length c ok (fun _ => False) hs (hx.trans hu) hR hC (fun _ _ h => h) (fun _ h => h.elim) hf H.below H.le hl
    (fun v1 w1 ho hb hg _ => by rw [hd]; exact h v1 w1 (hclose ho hb hg))
  rw [hd] at this; exact this
end
end Go.Proofs.Ytdkmmddakidieaa.P
