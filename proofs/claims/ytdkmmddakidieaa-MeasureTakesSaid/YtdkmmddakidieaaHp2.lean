/- A heap that a function has made (Hp), in plain regions: rows made, appended to, written and read; variables read. -/
import Derived.Test.YtdkmmddakidieaaHp
import Derived.Test.YtdkmmddakidieaaWe
namespace Go.Proofs.Ytdkmmddakidieaa.P
open Go.RowKit Go.Proofs.YtdkmmddakidieaaW.PrintWords Go.Proofs.YtdkmmddakidieaaW.PrintLast Go.Proofs.YtdkmmddakidieaaW.PrintMore
namespace Hp
variable {w0 W W1 : World} {bs : List (Nat × Obj)} {rs : List Rw}
theorem form (H : Hp w0 bs rs W) {i e : Nat} {v : Value} {X : List Int} (hi : rs[i]? = some (rI e v X)) (hX : 0 < X.length) : ∃ g c, v = .slice (some ⟨g, 0, none⟩) X.length c := by
  obtain ⟨_, _, _, col, h4, _⟩ := H; obtain ⟨g, c, h, _⟩ := Kd.R_form (h4 i _ hi) hX
  exact ⟨g, c, h⟩
theorem cell (H : Hp w0 bs rs W) {i e g n c : Nat} {X : List Int} (hi : rs[i]? = some (rI e (.slice (some ⟨g, 0, none⟩) n c) X)) (j : Int) (h0 : 0 ≤ j) (h1 : j < X.length) : W.cell? ⟨g, j.toNat, none⟩ = some (.int .i64 (rd X j)) ∧ W.frozen? ⟨g, j.toNat, none⟩ = false := by
  obtain ⟨_, _, _, col, h4, _⟩ := H; have h := h4 i _ hi; have hn : n = X.length := (Kd.R_reads' h).1
  exact Kd.R_celln (enc := Value.int .i64) (h1 := fun _ => rfl) (0 : Int) h j h0 (by omega)
/-- an element of a row is written -/
theorem put (H : Hp w0 bs rs W) {i e g n c : Nat} {X : List Int} (hi : rs[i]? = some (rI e (.slice (some ⟨g, 0, none⟩) n c) X)) (j x : Int) :
    Hp w0 bs (rs.set i (rI e (.slice (some ⟨g, 0, none⟩) n c) (X.set j.toNat x))) (W.setCell ⟨g, j.toNat, none⟩ (.int .i64 x)) := by
  obtain ⟨ok, hR, _, hclose⟩ := H.open_ hi; have hp := Kd.R_putg (enc := Value.int .i64) (h1 := fun _ => rfl) hR j x
  exact hclose hp.1 (H.below.setCell (Kd.R_base hR g rfl) _) hp.2
theorem cellN (H : Hp w0 bs rs W) {i e g n c : Nat} {X : List Int} (hi : rs[i]? = some (rI e (.slice (some ⟨g, 0, none⟩) n c) X)) (j : Nat) (h : j < X.length) : W.cell? ⟨g, j, none⟩ = some (.int .i64 (rd X (j : Int))) ∧ W.frozen? ⟨g, j, none⟩ = false := by
  have := H.cell hi (j : Int) (by omega) (by omega)
  rwa [Int.toNat_natCast] at this
theorem putN (H : Hp w0 bs rs W) {i e g n c : Nat} {X : List Int} (hi : rs[i]? = some (rI e (.slice (some ⟨g, 0, none⟩) n c) X)) (j : Nat) (x : Int) :
    Hp w0 bs (rs.set i (rI e (.slice (some ⟨g, 0, none⟩) n c) (X.set j x))) (W.setCell ⟨g, j, none⟩ (.int .i64 x)) := by
  have := H.put hi (j : Int) x
  rwa [Int.toNat_natCast] at this
theorem nil_row (h : Hp w0 bs rs W) {α : Type} (d : Kd α) (e : Nat) : Hp w0 bs (rs ++ [Rw.nil d e]) W := h.row (Kd.R_nil _ _ _ _ _) (Below.refl _ _)
end Hp
section
variable {P : Program} {ops : Array Oper} {rest : List Oper} {o : Oper} {a : Act} {Q : Exit → Act → World → Prop} {w0 W : World} {bs : List (Nat × Obj)} {rs : List Rw}
theorem Hp.lit_ev (H : Hp w0 bs rs W) (i e : Nat) (hg : o.guard = none) {N : Tmp} (hd : o.dst = some N) {n : Int}
    (hrun : (execOp a.eval o).run P W = .ok (.value (.slice (some ⟨W.heap.size, 0, none⟩) 1 1)) (W.alloc (.cells #[.int .i64 n] e)))
    (h : ∀ v1 w1, Hp w0 bs (rs.set i (rI e v1 [n])) w1 → wpList P ops Q rest (a.put (some N) v1) w1) : wpList P ops Q (o :: rest) a W :=
  Kd.R_lit (Kd.int .i64) (w0 := W) W.heap.size e hg hd (xs := [n]) (inner := [.int .i64 n]) (ok := fun _ => True) (okp := fun _ => True) hrun (Reps.one (show Kd.M (Kd.int .i64) _ _ _ n [.int .i64 n] from rfl) (Reps.none _ _)) (fun _ hk => hk) trivial (Below.refl _ _) (Nat.le_refl _) (by simp)
    (fun v1 w1 ho hb _ _ => by rw [hd]; exact h v1 w1 (H.row_at i ho hb))
theorem Hp.app_ev (H : Hp w0 bs rs W) {i j e : Nat} {v u : Value} {X Y : List Int} (hi : rs[i]? = some (rI e v X)) (hj : rs[j]? = some (rI e u Y)) (hg : o.guard = none) (s x : Operand) (t : TypeId)
    (ho : o.op = .call { callee := .builtin .append, args := #[s, x], argTypes := #[t, t] }) (ht : P.underlying t = some (.slice e)) (hinfo : (P.info? e).map (fun i => (i.zero, i.size, i.bytes)) = some (some (.int .i64 0), 1, 8))
    (hs : a.eval s = v) (hx : a.eval x = u) (hl : (X.length + Y.length) * 8 ≤ 140737488355328) {N : Tmp} (hd : o.dst = some N)
    (h : ∀ v1 w1, Hp w0 bs (rs.set i (rI e v1 (X ++ Y))) w1 → wpList P ops Q rest (a.put (some N) v1) w1) : wpList P ops Q (o :: rest) a W := by
  obtain ⟨A, c, hu, _, hC⟩ := H.reads hj; obtain ⟨ok, hR, hf, hclose⟩ := H.open_ hi
  exact Kd.R_append_rows (Kd.int .i64) (w0 := w0) w0.heap.size hg s x t e (.int .i64 0) 8 ho ht hinfo rfl (by decide) (by omega) v X Y A Y.length c ok (fun _ => False) hs (hx.trans hu) hR hC (fun _ _ h => h) (fun _ h => h.elim) hf H.below H.le hl
    (fun v1 w1 ho hb hg _ => by rw [hd]; exact h v1 w1 (hclose ho hb hg))
theorem Hp.make_ev (H : Hp w0 bs rs W) (i e : Nat) (hg : o.guard = none) {N : Tmp} (hd : o.dst = some N) (t : TypeId) (x y : Operand) (ho : o.op = .makeSlice t x y) (n : Int) (hx : a.eval x = .int .i64 n) (hy : a.eval y = .int .i64 n)
    (ht : P.underlying t = some (.slice e)) (hinfo : (P.info? e).map (fun i => (i.zero, i.size, i.bytes)) = some (some (.int .i64 0), 1, 8)) (h0 : 0 ≤ n) (hl : n.toNat * 8 ≤ 281474976710656)
    (h : ∀ v1 w1, Hp w0 bs (rs.set i (rI e v1 (List.replicate n.toNat 0))) w1 → wpList P ops Q rest (a.put (some N) v1) w1) : wpList P ops Q (o :: rest) a W :=
  Kd.R_make (Kd.int .i64) (w0 := W) W.heap.size e hg hd t x y ho n hx hy ht (.int .i64 0) 8 hinfo rfl (by decide) (by omega) 0 (ok := fun _ => True) (okp := fun _ => True) (show Kd.M (Kd.int .i64) _ _ _ 0 [.int .i64 0] from rfl) (fun _ hk => hk) trivial h0 hl (Below.refl _ _) (Nat.le_refl _)
    (fun v1 w1 ho hb _ _ => by rw [hd]; exact h v1 w1 (H.row_at i ho hb))
end
end Go.Proofs.Ytdkmmddakidieaa.P
