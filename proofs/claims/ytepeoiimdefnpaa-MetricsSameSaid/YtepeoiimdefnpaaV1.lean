/- A machine of values over the given machine, and its calculus: part 1. -/
import Derived.Below
import Derived.Laws.Build
import Derived.Laws.IdiomCopy
import Derived.Laws.MakeOwn
import Derived.Laws.RangeAny
import Derived.Laws.Slices
import Derived.LoopN
import Derived.Orders
namespace Go.Proofs.Ytepeoiimdefnpaa.Vm
open Go
/-- Cells, by block and place. -/
abbrev Foot := Nat → Nat → Prop
/-- A value without addresses. row: a slice that is read (b: only as long as the call lasts); own: a slice of one's own; box: a pointer to what is read; obx: a pointer to cells of one's own, on its way;
at_: a pointer to the cells of slots; al: a slice that is a slot's own row; ref: a pointer into such a row; vw: a part of it;
alp: a row within a slot's own row, by its path; refp: a pointer into such a row; cap: a record of which one cell is another name of such a row (or of the slot's own); cpr: a row of one such record. -/
inductive V where
  | dead
  | no
  | sc (v : Value)
  | agg (cs : List V)
  | tup (cs : List V)
  | row (b : Bool) (sz : Nat) (es : List (List V))
  | own (E sz : Nat) (es : List (List V))
  | box (b : Bool) (cs : List V)
  | obx (cs : List V)
  | iter (s : ByteArray) (pos : Nat)
  | at_ (k : Nat)
  | al (r g : Nat)
  | ref (r g sz i o : Nat)
  | vw (r g sz lo n : Nat)
  | alp (r g : Nat) (pa : List (Nat × Nat × Nat))
  | refp (r g : Nat) (pa : List (Nat × Nat × Nat)) (sz j o : Nat)
  | cap (r g : Nat) (pa : List (Nat × Nat × Nat)) (i : Nat) (ws : List Value)
  | cpr (r g : Nat) (pa : List (Nat × Nat × Nat)) (i : Nat) (ws : List Value)
/-- Two worlds agree on cells: blocks that lie in it whole are the same; its cells, and whether they may be written. -/
structure Agree (w w' : World) (A : Foot) : Prop where
  block : ∀ b, (∀ o, A b o) → w'.heap[b]? = w.heap[b]?
  cell : ∀ b o, A b o → w'.cell? ⟨b, o, none⟩ = w.cell? ⟨b, o, none⟩
  frozen : ∀ b o, A b o → w'.frozen? ⟨b, o, none⟩ = w.frozen? ⟨b, o, none⟩
theorem Agree.refl (w : World) (A : Foot) : Agree w w A := ⟨fun _ _ => rfl, fun _ _ _ => rfl, fun _ _ _ => rfl⟩
theorem Agree.mono {w w' : World} {A B : Foot} (h : Agree w w' A) (hs : ∀ b o, B b o → A b o) : Agree w w' B :=
  ⟨fun b hb => h.block b (fun o => hs b o (hb o)), fun b o hb => h.cell b o (hs b o hb), fun b o hb => h.frozen b o (hs b o hb)⟩
theorem Agree.trans {w w' w'' : World} {A : Foot} (h : Agree w w' A) (k : Agree w' w'' A) : Agree w w'' A :=
  ⟨fun b hb => (k.block b hb).trans (h.block b hb), fun b o hb => (k.cell b o hb).trans (h.cell b o hb), fun b o hb => (k.frozen b o hb).trans (h.frozen b o hb)⟩
theorem Agree.alloc (w : World) (x : Obj) (A : Foot) (h : ∀ b o, A b o → b < w.heap.size) : Agree w (w.alloc x) A :=
  ⟨fun b hb => RowKit.Below.heap_alloc w x b (h b 0 (hb 0)), fun b o hb => World.cell?_alloc_lt w x _ (h b o hb), fun b o hb => World.frozen?_of_block (RowKit.Below.heap_alloc w x b (h b o hb))⟩
theorem Agree.drew (w : World) (A : Foot) : Agree w w.drew A := ⟨fun _ _ => rfl, fun _ _ _ => rfl, fun _ _ _ => rfl⟩
theorem Agree.setCell (w : World) (p : Addr) (u : Value) (A : Foot) (hp : p.spot = none) (h : ¬ A p.block p.off) : Agree w (w.setCell p u) A := by
  refine ⟨fun b hb => RowKit.Below.heap_setCell w p u b (fun e => h (e ▸ hb p.off)), fun b o hb => World.cell?_setCell_other w _ _ u (fun e => h ?_), fun b o _ => World.frozen?_setCell w _ _ u⟩
  subst e
  exact hb
theorem Agree.grown {w w' : World} {r : Option Nat} (hg : w.grownBy w' r) (A : Foot) (h : ∀ b o, A b o → b < w.heap.size ∧ some b ≠ r) : Agree w w' A :=
  ⟨fun b hb => hg.block b (h b 0 (hb 0)).1 (h b 0 (hb 0)).2, fun b o hb => World.cell?_of_block (hg.block b (h b o hb).1 (h b o hb).2), fun b o hb => World.frozen?_of_block (hg.block b (h b o hb).1 (h b o hb).2)⟩
/-- Of n parts each lies in F, and no two overlap. -/
structure Split (F : Foot) (G : Nat → Foot) : Prop where
  sub : ∀ k b o, G k b o → F b o
  apart : ∀ k l, k ≠ l → ∀ b o, G k b o → ¬ G l b o
def Foot.none : Foot := fun _ _ => False
/-- How a value is held: S: the cells that are read and stay; B: those that stay as long as the call lasts; F: the cells of its own. -/
inductive Hold (w : World) (S : Foot) : (B : Foot) → Foot → Value → V → Prop
  | dead (B F v) : Hold w S B F v .dead
  | sc (B F v) : Hold w S B F v (.sc v)
  | agg (B F) (vs : Array Value) (cs : List V) (G : Nat → Foot) (hn : vs.size = cs.length) (hs : Split F G)
      (h1 : ∀ (i : Nat) (u : Value) (c : V), vs[i]? = some u → cs[i]? = some c → u.oneCell' = true)
      (hi : ∀ (i : Nat) (u : Value) (c : V), vs[i]? = some u → cs[i]? = some c → Hold w S B (G i) u c) : Hold w S B F (.agg vs) (.agg cs)
  | tup (B F) (vs : Array Value) (cs : List V) (G : Nat → Foot) (hn : vs.size = cs.length) (hs : Split F G)
      (hi : ∀ (i : Nat) (u : Value) (c : V), vs[i]? = some u → cs[i]? = some c → Hold w S B (G i) u c) : Hold w S B F (.tuple vs) (.tup cs)
  | row (B : Foot) (F) (x : Bool) (sz : Nat) (es : List (List V)) (A : Option Addr) (cap : Nat) (U : Nat → Value) (hz : ∀ e, e ∈ es → e.length = sz) (hc : es.length ≤ cap) (hm : es.length ≤ 9223372036854775807)
      (ha : 0 < es.length → ∃ a, A = some a)
      (h1 : ∀ a j i e c, A = some a → es[j]? = some e → e[i]? = some c → w.cell? (a.add (j * sz + i)) = some (U (j * sz + i)) ∧ (U (j * sz + i)).oneCell' = true ∧ (S (a.add (j * sz + i)).block (a.add (j * sz + i)).off ∨ (x = true ∧ B (a.add (j * sz + i)).block (a.add (j * sz + i)).off)))
      (hi : ∀ j i e c, es[j]? = some e → e[i]? = some c → Hold w S (fun b o => x = true ∧ B b o) Foot.none (U (j * sz + i)) c) : Hold w S B F (.slice A es.length cap) (.row x sz es)
  | own (B F) (E sz : Nat) (v : Value) (es : List (List V)) (us : List Value) (G : Nat → Foot) (hz : ∀ e, e ∈ es → e.length = sz) (hp : 0 < sz) (ho : w.ownsRow 0 E sz v es.length us) (hF : ∀ b, v.ownBlock = some b → ∀ o, F b o)
      (hs : Split F G) (hG : ∀ k b o, v.ownBlock = some b → ¬ G k b o) (h1 : ∀ u, u ∈ us → u.oneCell' = true)
      (hi : ∀ j i e c u, es[j]? = some e → e[i]? = some c → us[j * sz + i]? = some u → Hold w S Foot.none (G (j * sz + i)) u c) : Hold w S B F v (.own E sz es)
  | box (B : Foot) (F) (x : Bool) (cs : List V) (a : Addr) (U : Nat → Value)
      (h1 : ∀ i c, cs[i]? = some c → w.cell? (a.add i) = some (U i) ∧ (U i).oneCell' = true ∧ (S (a.add i).block (a.add i).off ∨ (x = true ∧ B (a.add i).block (a.add i).off)))
      (hi : ∀ i c, cs[i]? = some c → Hold w S (fun b o => x = true ∧ B b o) Foot.none (U i) c) : Hold w S B F (.pointer (some a)) (.box x cs)
  | obx (B F) (cs : List V) (b o : Nat) (U : Nat → Value) (G : Nat → Foot) (hs : Split F G) (hF : ∀ i, i < cs.length → F b (o + i)) (hG : ∀ k i, i < cs.length → ¬ G k b (o + i))
      (h1 : ∀ i c, cs[i]? = some c → w.cell? ⟨b, o + i, none⟩ = some (U i) ∧ w.frozen? ⟨b, o + i, none⟩ = false ∧ (U i).oneCell' = true)
      (hi : ∀ i c, cs[i]? = some c → Hold w S Foot.none (G i) (U i) c) : Hold w S B F (.pointer (some ⟨b, o, none⟩)) (.obx cs)
  | iter (B F) (s : ByteArray) (pos b : Nat) (hb : w.heap[b]? = some (.stringIter s pos)) (hF : ∀ o, F b o) : Hold w S B F (.pointer (some ⟨b, 0, none⟩)) (.iter s pos)
theorem Split.mono {F F' : Foot} {G : Nat → Foot} (h : Split F G) (hs : ∀ b o, F b o → F' b o) : Split F' G := ⟨fun k b o hg => hs b o (h.sub k b o hg), h.apart⟩
theorem addr_add_block (a : Addr) (n : Nat) : (a.add n).block = a.block := by unfold Addr.add; split <;> rfl
theorem addr_add_of (b o n : Nat) : (⟨b, o, none⟩ : Addr).add n = ⟨b, o + n, none⟩ := by unfold Addr.add; split <;> simp_all
/-- What is read lies in blocks that stay. -/
theorem cell_stays {w w' : World} {a : Addr} {u : Value} (h : w.cell? a = some u) (hb : w'.heap[a.block]? = w.heap[a.block]?) : w'.cell? a = some u := (World.cell?_of_block hb).trans h
/-- Where two worlds agree on a cell that's there. -/
theorem Agree.cell_at {w w' : World} {A : Foot} (h : Agree w w' A) {a : Addr} {u : Value} (hc : w.cell? a = some u) (hA : A a.block a.off) : w'.cell? a = some u := by
  have hs : a.spot = none := by
    unfold World.cell? at hc
    split at hc
    · cases hsp : a.spot with
      | none => rfl
      | some q => rw [hsp] at hc; simp at hc
    · cases hc
  have e : a = ⟨a.block, a.off, none⟩ := by
    cases a
    simp only at hs
    rw [hs]
  have := h.cell _ _ hA
  rw [← e] at this
  rw [this, hc]
theorem Hold.mono {w : World} {S B : Foot} {F : Foot} {v : Value} {x : V} (h : Hold w S B F v x) : ∀ {S' B' : Foot} {F' : Foot}, (∀ b o, S b o → S' b o) → (∀ b o, B b o → B' b o) → (∀ b o, F b o → F' b o) → Hold w S' B' F' v x := by
  induction h with
  | dead => intros; exact .dead ..
  | sc => intros; exact .sc ..
  | agg B F vs cs G hn hs h1 hi ih => intro S' B' F' s1 s2 s3; exact .agg _ _ vs cs G hn (hs.mono s3) h1 fun i u c hu hc => ih i u c hu hc s1 s2 fun _ _ h => h
  | tup B F vs cs G hn hs hi ih => intro S' B' F' s1 s2 s3; exact .tup _ _ vs cs G hn (hs.mono s3) fun i u c hu hc => ih i u c hu hc s1 s2 fun _ _ h => h
  | row B F x sz es A cap U hz hc hm ha h1 hi ih =>
    intro S' B' F' s1 s2 s3
    refine .row _ _ x sz es A cap U hz hc hm ha (fun a j i e c hA he hc => ?_) fun j i e c he hc => ih j i e c he hc s1 (fun b o hb => ⟨hb.1, s2 b o hb.2⟩) fun _ _ h => h
    obtain ⟨e1, e2, e3⟩ := h1 a j i e c hA he hc
    exact ⟨e1, e2, e3.imp (s1 _ _) fun e => ⟨e.1, s2 _ _ e.2⟩⟩
  | own B F E sz v es us G hz hp ho hF hs hG h1 hi ih => intro S' B' F' s1 s2 s3; exact .own _ _ E sz v es us G hz hp ho (fun b hb o => s3 _ _ (hF b hb o)) (hs.mono s3) hG h1 fun j i e c u he hc hu => ih j i e c u he hc hu s1 (fun _ _ h => h) fun _ _ h => h
  | box B F x cs a U h1 hi ih =>
    intro S' B' F' s1 s2 s3
    refine .box _ _ x cs a U (fun i c hc => ?_) fun i c hc => ih i c hc s1 (fun b o hb => ⟨hb.1, s2 b o hb.2⟩) fun _ _ h => h
    obtain ⟨e1, e2, e3⟩ := h1 i c hc
    exact ⟨e1, e2, e3.imp (s1 _ _) fun e => ⟨e.1, s2 _ _ e.2⟩⟩
  | obx B F cs b o U G hs hF hG h1 hi ih => intro S' B' F' s1 s2 s3; exact .obx _ _ cs b o U G (hs.mono s3) (fun i hi => s3 _ _ (hF i hi)) hG h1 fun i c hc => ih i c hc s1 (fun _ _ h => h) fun _ _ h => h
  | iter B F s pos b hb hF => intro S' B' F' s1 s2 s3; exact .iter _ _ s pos b hb fun o => s3 _ _ (hF o)
/-- Where two worlds agree on what a value is held by, it's held as it was. -/
theorem Hold.frame {w w' : World} {S B : Foot} {F : Foot} {v : Value} {x : V} (h : Hold w S B F v x) : Agree w w' (fun b o => S b o ∨ B b o ∨ F b o) → Hold w' S B F v x := by
  induction h with
  | dead => intros; exact .dead ..
  | sc => intros; exact .sc ..
  | agg B F vs cs G hn hs h1 hi ih => intro ha; exact .agg _ _ vs cs G hn hs h1 fun i u c hu hc => ih i u c hu hc (ha.mono fun b o h => h.imp id (Or.imp id (hs.sub i b o)))
  | tup B F vs cs G hn hs hi ih => intro ha; exact .tup _ _ vs cs G hn hs fun i u c hu hc => ih i u c hu hc (ha.mono fun b o h => h.imp id (Or.imp id (hs.sub i b o)))
  | row B F x sz es A cap U hz hc hm ha h1 hi ih =>
    intro hag
    refine .row _ _ x sz es A cap U hz hc hm ha (fun a j i e c hA he hc => ?_) fun j i e c he hc => ih j i e c he hc (hag.mono fun b o h => ?_)
    · obtain ⟨h1, h2, h3⟩ := h1 a j i e c hA he hc
      exact ⟨hag.cell_at h1 (h3.imp id fun e => .inl e.2), h2, h3⟩
    · rcases h with h | h | h
      · exact .inl h
      · exact .inr (.inl h.2)
      · exact h.elim
  | own B F E sz v es us G hz hp ho hF hs hG h1 hi ih =>
    intro hag
    refine .own _ _ E sz v es us G hz hp ?_ hF hs hG h1 fun j i e c u he hc hu => ih j i e c u he hc hu (hag.mono fun b o h => ?_)
    · refine ⟨ho.1, ho.2.imp id ?_⟩
      rintro ⟨g, cap, cur, hv, h1, hh, r⟩
      exact ⟨g, cap, cur, hv, h1, (hag.block g fun o => .inr (.inr (hF g (by rw [hv]; rfl) o))).trans hh, r⟩
    · rcases h with h | h | h
      · exact .inl h
      · exact h.elim
      · exact .inr (.inr (hs.sub _ _ _ h))
  | box B F x cs a U h1 hi ih =>
    intro hag
    refine .box _ _ x cs a U (fun i c hc => ?_) fun i c hc => ih i c hc (hag.mono fun b o h => ?_)
    · obtain ⟨h1, h2, h3⟩ := h1 i c hc
      exact ⟨hag.cell_at h1 (h3.imp id fun e => .inl e.2), h2, h3⟩
    · rcases h with h | h | h
      · exact .inl h
      · exact .inr (.inl h.2)
      · exact h.elim
  | obx B F cs b o U G hs hF hG h1 hi ih =>
    intro hag
    refine .obx _ _ cs b o U G hs hF hG (fun i c hc => ?_) fun i c hc => ih i c hc (hag.mono fun b o h => ?_)
    · have hl : i < cs.length := (List.getElem?_eq_some_iff.1 hc).1
      exact ⟨(hag.cell _ _ (.inr (.inr (hF i hl)))).trans (h1 i c hc).1, (hag.frozen _ _ (.inr (.inr (hF i hl)))).trans (h1 i c hc).2.1, (h1 i c hc).2.2⟩
    · rcases h with h | h | h
      · exact .inl h
      · exact h.elim
      · exact .inr (.inr (hs.sub _ _ _ h))
  | iter B F s pos b hb hF => intro hag; exact .iter _ _ s pos b ((hag.block b fun o => .inr (.inr (hF o))).trans hb) hF
/-- What was lent is read all the same where it's read that lies in it. -/
theorem Hold.rebase {w : World} {S B0 : Foot} {F : Foot} {v : Value} {x : V} (h : Hold w S B0 F v x) : ∀ {B : Foot}, (∀ b o, B0 b o → S b o ∨ B b o) → Hold w S B F v x := by
  induction h with
  | dead => intros; exact .dead ..
  | sc => intros; exact .sc ..
  | agg B F vs cs G hn hs h1 hi ih => intro B' hb; exact .agg _ _ vs cs G hn hs h1 fun i u c hu hc => ih i u c hu hc hb
  | tup B F vs cs G hn hs hi ih => intro B' hb; exact .tup _ _ vs cs G hn hs fun i u c hu hc => ih i u c hu hc hb
  | row B F x sz es A cap U hz hc hm ha h1 hi ih =>
    intro B' hb
    refine .row _ _ x sz es A cap U hz hc hm ha (fun a j i e c hA he hc => ?_) fun j i e c he hc => ih j i e c he hc fun b o h => (hb b o h.2).imp id fun e => ⟨h.1, e⟩
    obtain ⟨e1, e2, e3⟩ := h1 a j i e c hA he hc
    exact ⟨e1, e2, e3.elim .inl fun e => (hb _ _ e.2).imp id fun q => ⟨e.1, q⟩⟩
  | own B F E sz v es us G hz hp ho hF hs hG h1 hi ih => intro B' hb; exact .own _ _ E sz v es us G hz hp ho hF hs hG h1 fun j i e c u he hc hu => hi j i e c u he hc hu
  | box B F x cs a U h1 hi ih =>
    intro B' hb
    refine .box _ _ x cs a U (fun i c hc => ?_) fun i c hc => ih i c hc fun b o h => (hb b o h.2).imp id fun e => ⟨h.1, e⟩
    obtain ⟨e1, e2, e3⟩ := h1 i c hc
    exact ⟨e1, e2, e3.elim .inl fun e => (hb _ _ e.2).imp id fun q => ⟨e.1, q⟩⟩
  | obx B F cs b o U G hs hF hG h1 hi ih => intro B' hb; exact .obx _ _ cs b o U G hs hF hG h1 fun i c hc => hi i c hc
  | iter B F s pos b hb hF => intro B' _; exact .iter _ _ s pos b hb hF
end Go.Proofs.Ytepeoiimdefnpaa.Vm
namespace Go.Proofs.Ytepeoiimdefnpaa.Vm
open Go
/-- Slots: a frame's own, and behind them the cells of boxes; each with a number that tells of which row of its own it is the handle. -/
abbrev St := List (Nat × V)
def St.at (T : St) (s : Nat) : V := (T.getD s (0, .no)).2
def St.gen (T : St) (s : Nat) : Nat := (T.getD s (0, .no)).1
/-- What an operation writes: slots, each with whether the handle stays. -/
abbrev Eff := List (Nat × Bool × V)
def St.app (T : St) (E : Eff) : St := E.foldl (fun T e => T.set e.1 ((if e.2.1 then T.gen e.1 else T.gen e.1 + 1), e.2.2)) T
structure Ctx where
  nt : Nat
  w0 : World
  S : Foot
  B : Foot
  may : Foot
  base : Nat → Nat
  pin : Nat → Option Value
structure Worlds (C : Ctx) (w : World) : Prop where
  os : w.os = C.w0.os
  tape : w.tape = C.w0.tape
  output : w.output = C.w0.output
  size : C.w0.heap.size ≤ w.heap.size
  keep : Agree C.w0 w (fun b o => b < C.w0.heap.size ∧ ¬ C.may b o)
def conc (C : Ctx) (a : Act) (w : World) (loc : Nat → Addr) (s : Nat) : Option Value := if s < C.nt then a.tmps[s]? else w.cell? (loc s)
def inner (C : Ctx) (F : Foot) (loc : Nat → Addr) (s : Nat) : Foot := fun b o => F b o ∧ ¬ (C.nt ≤ s ∧ b = (loc s).block ∧ o = (loc s).off)
/-- The slot, and its row's number, in which a value lies. -/
def V.root : V → Option (Nat × Nat)
  | .al r g => some (r, g)
  | .ref r g _ _ _ => some (r, g)
  | .vw r g _ _ _ => some (r, g)
  | .alp r g _ => some (r, g)
  | .refp r g _ _ _ _ => some (r, g)
  | .cap r g _ _ _ => some (r, g)
  | .cpr r g _ _ _ => some (r, g)
  | _ => none
/-- How a value that lies in a row stands to the row: u: the row, v: the value. -/
def Link (u v : Value) : V → Prop
  | .al _ _ => v = u
  | .ref _ _ sz i o => ∃ b n cap, u = .slice (some ⟨b, 0, none⟩) n cap ∧ v = .pointer (some ⟨b, i * sz + o, none⟩)
  | .alp _ _ _ => True
  | .refp _ _ _ _ _ _ => True
  | .cap _ _ _ _ _ => True
  | .cpr _ _ _ _ _ => True
  | .vw _ _ sz lo n => ∃ A c, v = .slice A n c ∧ n ≤ c ∧ (0 < n → ∃ b m cap, u = .slice (some ⟨b, 0, none⟩) m cap ∧ lo + n ≤ m ∧ A = some ⟨b, lo * sz, none⟩)
  | _ => False
def SlotOk (C : Ctx) (T : St) (a : Act) (w : World) (S : Foot) (F : Foot) (loc : Nat → Addr) (s : Nat) (x : V) : Prop :=
  match x with
  | .no => True
  | .at_ k => conc C a w loc s = some (.pointer (some (loc k))) ∧ C.nt ≤ k ∧ T.at k ≠ .no
  | x => match x.root with
    | some (r, g) => T.gen r = g → ∃ u v, conc C a w loc r = some u ∧ conc C a w loc s = some v ∧ Link u v x
    | none => ∃ v, conc C a w loc s = some v ∧ Hold w S C.B (inner C F loc s) v x
/-- Names that lead into a row: by a path. -/
def V.isDeep : V → Bool
  | .alp _ _ _ | .refp _ _ _ _ _ _ | .cap _ _ _ _ _ | .cpr _ _ _ _ _ => true
  | _ => false
def V.path : V → List (Nat × Nat × Nat)
  | .alp _ _ pa | .refp _ _ pa _ _ _ | .cap _ _ pa _ _ | .cpr _ _ pa _ _ => pa
  | _ => []
def V.isOwn : V → Bool
  | .own _ _ _ => true
  | _ => false
/-- What lies behind a path: cells' sizes, an element's place, a cell's in it. -/
def V.getp : V → List (Nat × Nat × Nat) → Option V
  | x, [] => some x
  | .own _ sz es, q :: pa => if q.1 = sz ∧ q.2.2 < sz then (es[q.2.1]?).bind fun e => (e[q.2.2]?).bind fun c => c.getp pa else none
  | _, _ :: _ => none
abbrev fl (q : Nat × Nat × Nat) : Nat := q.2.1 * q.1 + q.2.2
/-- A path, in memory. -/
def Path (w : World) (A : Foot) : Value → List (Nat × Nat × Nat) → Value → Prop
  | u, [], v => v = u
  | u, q :: pa, v => ∃ b n cap u', u = .slice (some ⟨b, 0, none⟩) n cap ∧ A b (fl q) ∧ w.cell? ⟨b, fl q, none⟩ = some u' ∧ Path w A u' pa v
theorem Path.frame {w w' : World} {A A' : Foot} : ∀ {pa : List (Nat × Nat × Nat)} {u v : Value}, Path w A u pa v → Agree w w' A → (∀ b o, A b o → A' b o) → Path w' A' u pa v
  | [], _, _, h, _, _ => h
  | _ :: _, _, _, ⟨b, n, cap, u', h1, h2, h3, h4⟩, hk, hA => ⟨b, n, cap, u', h1, hA _ _ h2, (hk.cell _ _ h2).trans h3, h4.frame hk hA⟩
/-- How such a name stands to the row: u: the row, v: the name's value. -/
def DL (w : World) (S A : Foot) (u v : Value) : V → Prop
  | .alp _ _ pa => Path w A u pa v
  | .refp _ _ pa sz j o => ∃ b n cap, Path w A u pa (.slice (some ⟨b, 0, none⟩) n cap) ∧ v = .pointer (some ⟨b, j * sz + o, none⟩)
  | .cap _ _ pa i ws => ∃ v', Path w A u pa v' ∧ i < ws.length ∧ v'.oneCell' = true ∧ (∀ x, x ∈ ws → x.oneCell' = true) ∧ v = .agg (ws.set i v').toArray
  | .cpr _ _ pa i ws => ∃ v' b cap, Path w A u pa v' ∧ i < ws.length ∧ v'.oneCell' = true ∧ (∀ x, x ∈ ws → x.oneCell' = true) ∧ v = .slice (some ⟨b, 0, none⟩) 1 cap ∧ 1 ≤ cap ∧ ∀ j x, (ws.set i v')[j]? = some x → w.cell? ⟨b, j, none⟩ = some x ∧ S b j
  | _ => False
theorem DL.frame {w w' : World} {S S' A A' : Foot} {u v : Value} {x : V} (h : DL w S A u v x) (hk : Agree w w' (fun b o => A b o ∨ S b o)) (hA : ∀ b o, A b o → A' b o) (hS : ∀ b o, S b o → S' b o) : DL w' S' A' u v x := by
  have hk' : Agree w w' A := hk.mono fun _ _ h => .inl h
  cases x <;> first
    | exact h.elim
    | exact Path.frame h hk' hA
    | (obtain ⟨b, n, cap, h1, h2⟩ := h; exact ⟨b, n, cap, h1.frame hk' hA, h2⟩)
    | (obtain ⟨v', b, cap, h1, h2, h3, h4, h5, h6, h7⟩ := h; exact ⟨v', b, cap, h1.frame hk' hA, h2, h3, h4, h5, h6, fun j x hx => ⟨(hk.cell _ _ (.inr (h7 j x hx).2)).trans (h7 j x hx).1, hS _ _ (h7 j x hx).2⟩⟩)
    | (obtain ⟨v', h1, h2⟩ := h; exact ⟨v', h1.frame hk' hA, h2⟩)
theorem DL.nil {w w' : World} {S A A' : Foot} {u v : Value} {x : V} (h : DL w S A u v x) (hp : x.path = []) (hk : Agree w w' S) : DL w' S A' u v x := by
  cases x <;> first
    | exact h.elim
    | (simp only [V.path] at hp
       subst hp
       first
         | (obtain ⟨v', b, cap, h1, h2, h3, h4, h5, h6, h7⟩ := h; exact ⟨v', b, cap, h1, h2, h3, h4, h5, h6, fun j x hx => ⟨(hk.cell _ _ (h7 j x hx).2).trans (h7 j x hx).1, (h7 j x hx).2⟩⟩)
         | exact h)
def DeepAt (C : Ctx) (T : St) (a : Act) (w : World) (S : Foot) (F : Nat → Foot) (loc : Nat → Addr) (s r : Nat) : Prop :=
  ∃ u v y, conc C a w loc r = some u ∧ conc C a w loc s = some v ∧ (T.at r).getp (T.at s).path = some y ∧ y.isOwn = true ∧ DL w S (F r) u v (T.at s)
structure SimB (C : Ctx) (T : St) (a : Act) (w : World) (S : Foot) (F : Nat → Foot) (loc : Nat → Addr) : Prop where
  size : a.tmps.size = C.nt
  defers : a.defers = []
  pins : ∀ s v, C.pin s = some v → a.tmps[s]? = some v
  world : Worlds C w
  sub : ∀ b o, C.S b o → S b o
  from_ : ∀ b o, S b o → C.S b o ∨ C.w0.heap.size ≤ b ∨ C.may b o
  stay : ∀ b o, S b o ∨ C.B b o → b < w.heap.size
  apart : ∀ s t, s ≠ t → ∀ b o, F s b o → ¬ F t b o
  mine : ∀ s b o, F s b o → ¬ S b o ∧ ¬ C.B b o ∧ b < w.heap.size ∧ (C.w0.heap.size ≤ b ∨ C.may b o)
  ages : ∀ s r g, (T.at s).root = some (r, g) → g ≤ T.gen r ∧ (r < C.nt ∨ T.at r ≠ .no)
  slot : ∀ s, SlotOk C T a w S (F s) loc s (T.at s)
  cells : ∀ s, C.nt ≤ s → T.at s ≠ .no → F s (loc s).block (loc s).off ∧ w.frozen? (loc s) = false ∧ (∃ u, w.cell? (loc s) = some u ∧ u.oneCell' = true) ∧ loc s = ⟨(loc (C.base s)).block, (loc (C.base s)).off + (s - C.base s), none⟩
  deep : ∀ s r, (T.at s).isDeep = true → (T.at s).root = some (r, T.gen r) → DeepAt C T a w S F loc s r
def Sim (C : Ctx) (T : St) (a : Act) (w : World) : Prop := ∃ S F loc, SimB C T a w S F loc
/-- A step of memory that leaves alone what the function must leave alone. -/
structure Moves (w w' : World) (A : Foot) : Prop where
  os : w'.os = w.os
  tape : w'.tape = w.tape
  output : w'.output = w.output
  size : w.heap.size ≤ w'.heap.size
  keep : Agree w w' A
theorem Moves.refl (w : World) (A : Foot) : Moves w w A := ⟨rfl, rfl, rfl, Nat.le_refl _, .refl _ _⟩
theorem Worlds.moves {C : Ctx} {w w' : World} {A : Foot} (h : Worlds C w) (m : Moves w w' A) (hA : ∀ b o, b < C.w0.heap.size → ¬ C.may b o → A b o) : Worlds C w' :=
  ⟨m.os.trans h.os, m.tape.trans h.tape, m.output.trans h.output, Nat.le_trans h.size m.size, h.keep.trans (m.keep.mono fun b o hb => hA b o hb.1 hb.2)⟩
theorem SlotOk.plain {C : Ctx} {T : St} {a : Act} {w : World} {S : Foot} {F : Foot} {loc : Nat → Addr} {s : Nat} {x : V} (h : ∃ v, conc C a w loc s = some v ∧ Hold w S C.B (inner C F loc s) v x) : SlotOk C T a w S F loc s x := by
  cases x <;> first
    | exact trivial
    | exact h
    | (obtain ⟨v, _, hh⟩ := h; cases hh)
theorem SlotOk.held {C : Ctx} {T : St} {a : Act} {w : World} {S : Foot} {F : Foot} {loc : Nat → Addr} {s : Nat} {x : V} (h : SlotOk C T a w S F loc s x) (hn : x ≠ .no) (ha : ∀ k, x ≠ .at_ k) (hr : x.root = none) : ∃ v, conc C a w loc s = some v ∧ Hold w S C.B (inner C F loc s) v x := by
  cases x <;> first
    | exact absurd rfl hn
    | exact absurd rfl (ha _)
    | exact h
    | simp [V.root] at hr
theorem SlotOk.linked {C : Ctx} {T : St} {a : Act} {w : World} {S : Foot} {F : Foot} {loc : Nat → Addr} {s : Nat} {x : V} (h : SlotOk C T a w S F loc s x) {r g : Nat} (hr : x.root = some (r, g)) (hg : T.gen r = g) : ∃ u v, conc C a w loc r = some u ∧ conc C a w loc s = some v ∧ Link u v x := by
  cases x <;> first
    | (simp [V.root] at hr; done)
    | (simp only [V.root, Option.some.injEq, Prod.mk.injEq] at hr; obtain ⟨rfl, rfl⟩ := hr; exact h hg)
theorem SlotOk.of_link {C : Ctx} {T : St} {a : Act} {w : World} {S : Foot} {F : Foot} {loc : Nat → Addr} {s : Nat} {x : V} {r g : Nat} (hr : x.root = some (r, g)) (h : T.gen r = g → ∃ u v, conc C a w loc r = some u ∧ conc C a w loc s = some v ∧ Link u v x) : SlotOk C T a w S F loc s x := by
  cases x <;> first
    | (simp [V.root] at hr; done)
    | (simp only [V.root, Option.some.injEq, Prod.mk.injEq] at hr; obtain ⟨rfl, rfl⟩ := hr; exact h)
/-- What a step must leave alone: what is read, what is others' own, what the call may not write. -/
def others (C : Ctx) (w : World) (S : Foot) (F : Nat → Foot) (W : List Nat) : Foot := fun b o => b < w.heap.size ∧ (S b o ∨ C.B b o ∨ (∃ s, s ∉ W ∧ F s b o) ∨ (b < C.w0.heap.size ∧ ¬ C.may b o))
theorem SimB.conc_same {C : Ctx} {T : St} {a a' : Act} {w w' : World} {S : Foot} {F : Nat → Foot} {loc loc' : Nat → Addr} (h : SimB C T a w S F loc) {s : Nat} {A : Foot}
    (hk : Agree w w' A) (hA : ∀ b o, F s b o → A b o) (hl : T.at s ≠ .no → loc' s = loc s) (ha : s < C.nt → a'.tmps[s]? = a.tmps[s]?) (hn : s < C.nt ∨ T.at s ≠ .no) : conc C a' w' loc' s = conc C a w loc s := by
  unfold conc
  split
  · rename_i hs
    exact ha hs
  · rename_i hs
    have hx := hn.resolve_left hs
    obtain ⟨h1, _, _, h4⟩ := h.cells s (by omega) hx
    rw [hl hx]
    have := hk.cell _ _ (hA _ _ h1)
    rw [h4] at this ⊢
    exact this
theorem SimB.nodeep {C : Ctx} {T T' : St} {a a' : Act} {w w' : World} {S S' : Foot} {F F' : Nat → Foot} {loc loc' : Nat → Addr} (h : SimB C T a w S F loc) {W : List Nat}
    (hT : ∀ s, s ∉ W → T'.getD s (0, .no) = T.getD s (0, .no)) (hg : ∀ r, r ∈ W → T.gen r < T'.gen r) (hn : ∀ s, s ∈ W → (T'.at s).isDeep = false) : ∀ s r, (T'.at s).isDeep = true → (T'.at s).root = some (r, T'.gen r) → s ∈ W ∨ r ∈ W → DeepAt C T' a' w' S' F' loc' s r := by
  intro s r hd hr hw
  by_cases hs : s ∈ W
  · rw [hn s hs] at hd; cases hd
  · have hr' := hw.resolve_left hs
    have e : T'.at s = T.at s := congrArg Prod.snd (hT s hs)
    rw [e] at hr
    have := (h.ages s _ _ hr).1
    have := hg r hr'
    omega
theorem V.not_deep {x : V} (h : x.root = none) : x.isDeep = false := by cases x <;> first | rfl | cases h
/-- A step's new state: what is told of the slots that it writes, and that all others are as they were. -/
theorem SimB.upd {C : Ctx} {T T' : St} {a a' : Act} {w w' : World} {S S' : Foot} {F F' : Nat → Foot} {loc loc' : Nat → Addr} (h : SimB C T a w S F loc) (W : List Nat)
    (hT : ∀ s, s ∉ W → T'.getD s (0, .no) = T.getD s (0, .no)) (hsize : a'.tmps.size = a.tmps.size) (hdef : a'.defers = []) (hpin : ∀ s v, C.pin s = some v → a'.tmps[s]? = some v)
    (hm : Moves w w' (others C w S F W)) (hS : ∀ b o, S b o → S' b o) (hS' : ∀ b o, S' b o → S b o ∨ (w.heap.size ≤ b ∧ b < w'.heap.size) ∨ ∃ s, s ∈ W ∧ F s b o)
    (hF : ∀ s, s ∉ W → F' s = F s) (hal : ∀ k, T.at k ≠ .no → loc' k = loc k ∧ T'.at k ≠ .no) (hlb : ∀ s, C.nt ≤ s → s ∉ W → T.at s ≠ .no → loc' (C.base s) = loc (C.base s))
    (ha : ∀ s, s ∉ W → s < C.nt → a'.tmps[s]? = a.tmps[s]?)
    (hg : ∀ r, r ∈ W → T'.gen r = T.gen r → (r < C.nt ∨ T.at r ≠ .no) → conc C a' w' loc' r = conc C a w loc r)
    (hgen : ∀ r, r ∈ W → T.gen r ≤ T'.gen r)
    (hap : ∀ s t, s ∈ W → s ≠ t → ∀ b o, F' s b o → ¬ F' t b o)
    (hmi : ∀ s, s ∈ W → ∀ b o, F' s b o → ¬ S' b o ∧ ¬ C.B b o ∧ b < w'.heap.size ∧ (C.w0.heap.size ≤ b ∨ C.may b o))
    (hages : ∀ s, s ∈ W → ∀ r g, (T'.at s).root = some (r, g) → g ≤ T'.gen r ∧ (r < C.nt ∨ T'.at r ≠ .no))
    (hslot : ∀ s, s ∈ W → SlotOk C T' a' w' S' (F' s) loc' s (T'.at s))
    (hcells : ∀ s, s ∈ W → C.nt ≤ s → T'.at s ≠ .no → F' s (loc' s).block (loc' s).off ∧ w'.frozen? (loc' s) = false ∧ (∃ u, w'.cell? (loc' s) = some u ∧ u.oneCell' = true) ∧ loc' s = ⟨(loc' (C.base s)).block, (loc' (C.base s)).off + (s - C.base s), none⟩)
    (hdeep : ∀ s r, (T'.at s).isDeep = true → (T'.at s).root = some (r, T'.gen r) → s ∈ W ∨ r ∈ W → DeepAt C T' a' w' S' F' loc' s r) :
    SimB C T' a' w' S' F' loc' := by
  have hroot := fun s r g hx => (h.ages s r g hx).2
  have hat : ∀ s, s ∉ W → T'.at s = T.at s := fun s hs => congrArg Prod.snd (hT s hs)
  have hge : ∀ s, s ∉ W → T'.gen s = T.gen s := fun s hs => congrArg Prod.fst (hT s hs)
  have hgm : ∀ r, T.gen r ≤ T'.gen r := fun r => by
    by_cases hr : r ∈ W
    · exact hgen r hr
    · rw [hge r hr]; exact Nat.le_refl _
  have hoth : ∀ s, s ∉ W → ∀ b o, F s b o → others C w S F W b o := fun s hs b o hb => ⟨(h.mine s b o hb).2.2.1, .inr (.inr (.inl ⟨s, hs, hb⟩))⟩
  have hcs : ∀ s, s ∉ W → (s < C.nt ∨ T.at s ≠ .no) → conc C a' w' loc' s = conc C a w loc s := fun s hs hn =>
    h.conc_same hm.keep (hoth s hs) (fun hx => (hal s hx).1) (fun hlt => ha s hs hlt) hn
  have hcr : ∀ r, T'.gen r = T.gen r → (r < C.nt ∨ T.at r ≠ .no) → conc C a' w' loc' r = conc C a w loc r := fun r hr hn => by
    by_cases hw : r ∈ W
    · exact hg r hw hr hn
    · exact hcs r hw hn
  refine ⟨hsize.trans h.size, hdef, hpin, h.world.moves hm fun b o hb hnm => ⟨Nat.lt_of_lt_of_le hb h.world.size, .inr (.inr (.inr ⟨hb, hnm⟩))⟩, fun b o hb => hS b o (h.sub b o hb), fun b o hb => ?_, fun b o hb => ?_, fun s t hst b o hb hb' => ?_, fun s b o hb => ?_, fun s r g hx => ?_, fun s => ?_, fun s hs hx => ?_, fun s r hd hr => ?_⟩
  · rcases hS' b o hb with h1 | ⟨h1, _⟩ | ⟨s, _, h1⟩
    · exact h.from_ b o h1
    · exact .inr (.inl (Nat.le_trans h.world.size h1))
    · exact .inr (h.mine s b o h1).2.2.2
  · rcases hb with hb | hb
    · rcases hS' b o hb with h1 | ⟨_, h1⟩ | ⟨s, _, h1⟩
      · exact Nat.lt_of_lt_of_le (h.stay b o (.inl h1)) hm.size
      · exact h1
      · exact Nat.lt_of_lt_of_le (h.mine s b o h1).2.2.1 hm.size
    · exact Nat.lt_of_lt_of_le (h.stay b o (.inr hb)) hm.size
  · by_cases hs : s ∈ W
    · exact hap s t hs hst b o hb hb'
    · by_cases ht : t ∈ W
      · exact hap t s ht (Ne.symm hst) b o hb' hb
      · rw [hF s hs] at hb
        rw [hF t ht] at hb'
        exact h.apart s t hst b o hb hb'
  · by_cases hs : s ∈ W
    · exact hmi s hs b o hb
    · rw [hF s hs] at hb
      obtain ⟨h1, h2, h3, h4⟩ := h.mine s b o hb
      refine ⟨fun hx => ?_, h2, Nat.lt_of_lt_of_le h3 hm.size, h4⟩
      rcases hS' b o hx with hx | ⟨hx, _⟩ | ⟨t, ht, hx⟩
      · exact h1 hx
      · omega
      · exact h.apart t s (fun e => hs (e ▸ ht)) b o hx hb
  · by_cases hs : s ∈ W
    · exact hages s hs r g hx
    · rw [hat s hs] at hx
      exact ⟨Nat.le_trans (h.ages s r g hx).1 (hgm r), (h.ages s r g hx).2.imp id fun hn => (hal r hn).2⟩
  · by_cases hs : s ∈ W
    · exact hslot s hs
    · have hk := h.slot s
      rw [hat s hs, hF s hs]
      have hold : ∀ x, T.at s = x → x ≠ .no → (∃ v, conc C a w loc s = some v ∧ Hold w S C.B (inner C (F s) loc s) v x) → ∃ v, conc C a' w' loc' s = some v ∧ Hold w' S' C.B (inner C (F s) loc' s) v x := by
        rintro x hx hn ⟨v, h1, h2⟩
        refine ⟨v, (hcs s hs (.inr (by rw [hx]; exact hn))).trans h1, ?_⟩
        refine (h2.frame (hm.keep.mono fun b o hb => ?_)).mono hS (fun _ _ h => h) fun b o hb => ?_
        · rcases hb with hb | hb | hb
          · exact ⟨h.stay b o (.inl hb), .inl hb⟩
          · exact ⟨h.stay b o (.inr hb), .inr (.inl hb)⟩
          · exact hoth s hs b o hb.1
        · refine ⟨hb.1, fun hc => hb.2 ?_⟩
          rw [(hal s (by rw [hx]; exact hn)).1] at hc
          exact hc
      have link : ∀ x r g, T.at s = x → x ≠ .no → x.root = some (r, g) → (T.gen r = g → ∃ u v, conc C a w loc r = some u ∧ conc C a w loc s = some v ∧ Link u v x) → T'.gen r = g → ∃ u v, conc C a' w' loc' r = some u ∧ conc C a' w' loc' s = some v ∧ Link u v x := by
        intro x r g hx hn hr hk hgr
        have hle := (h.ages s r g (by rw [hx]; exact hr)).1
        have hgr' : T.gen r = g := Nat.le_antisymm (by rw [← hgr]; exact hgm r) hle
        obtain ⟨u, v, h1, h2, h3⟩ := hk hgr'
        exact ⟨u, v, (hcr r (by rw [hgr, hgr']) (hroot s r g (by rw [hx]; exact hr))).trans h1, (hcs s hs (.inr (by rw [hx]; exact hn))).trans h2, h3⟩
      generalize hx : T.at s = x at hk ⊢
      cases x with
      | no => trivial
      | at_ k =>
        obtain ⟨h1, h2, h3⟩ := hk
        refine ⟨?_, h2, (hal k h3).2⟩
        rw [(hal k h3).1]
        exact (hcs s hs (.inr (by rw [hx]; simp))).trans h1
      | al r g => exact link _ r g hx (by simp) rfl hk
      | ref r g sz i o => exact link _ r g hx (by simp) rfl hk
      | vw r g sz lo n => exact link _ r g hx (by simp) rfl hk
      | alp r g pa => exact link _ r g hx (by simp) rfl hk
      | refp r g pa sz j o => exact link _ r g hx (by simp) rfl hk
      | cap r g pa i ws => exact link _ r g hx (by simp) rfl hk
      | cpr r g pa i ws => exact link _ r g hx (by simp) rfl hk
      | dead => exact hold _ hx (by simp) hk
      | sc _ => exact hold _ hx (by simp) hk
      | agg _ => exact hold _ hx (by simp) hk
      | tup _ => exact hold _ hx (by simp) hk
      | row _ _ _ => exact hold _ hx (by simp) hk
      | own _ _ _ => exact hold _ hx (by simp) hk
      | box _ _ => exact hold _ hx (by simp) hk
      | obx _ => exact hold _ hx (by simp) hk
      | iter _ _ => exact hold _ hx (by simp) hk
  · by_cases hw : s ∈ W
    · exact hcells s hw hs hx
    · rw [hat s hw] at hx
      obtain ⟨h1, h2, ⟨u, h3, h3'⟩, h4⟩ := h.cells s hs hx
      have ho := hoth s hw _ _ h1
      rw [(hal s hx).1, hF s hw, hlb s hs hw hx]
      refine ⟨h1, ?_, ⟨u, ?_, h3'⟩, h4⟩
      · rw [h4] at h2 ho ⊢
        exact (hm.keep.frozen _ _ ho).trans h2
      · rw [h4] at h3 ho ⊢
        exact (hm.keep.cell _ _ ho).trans h3
  · by_cases hw : s ∈ W ∨ r ∈ W
    · exact hdeep s r hd hr hw
    · have hs : s ∉ W := fun e => hw (.inl e)
      have hrw : r ∉ W := fun e => hw (.inr e)
      have e := hat s hs
      rw [e] at hd hr
      rw [hge r hrw] at hr
      obtain ⟨u, v, y, h1, h2, h3, h4, h5⟩ := h.deep s r hd hr
      have hsn : T.at s ≠ .no := fun e => by rw [e] at hd; cases hd
      refine ⟨u, v, y, (hcs r hrw (h.ages s _ _ hr).2).trans h1, (hcs s hs (.inr hsn)).trans h2, by rw [e, hat r hrw]; exact h3, h4, ?_⟩
      rw [e, hF r hrw]
      exact h5.frame (hm.keep.mono fun b o hb => hb.elim (hoth r hrw b o) fun hb => ⟨h.stay b o (.inl hb), .inl hb⟩) (fun _ _ h => h) hS
end Go.Proofs.Ytepeoiimdefnpaa.Vm
namespace Go.Proofs.Ytepeoiimdefnpaa.Vm
open Go
theorem St.length_app (T : St) (E : Eff) : (T.app E).length = T.length := by
  unfold St.app
  induction E generalizing T with
  | nil => rfl
  | cons e E ih => rw [List.foldl_cons, ih]; simp
theorem St.app_not (T : St) (E : Eff) (s : Nat) (h : s ∉ E.map (·.1)) : (T.app E).getD s (0, .no) = T.getD s (0, .no) := by
  unfold St.app
  induction E generalizing T with
  | nil => rfl
  | cons e E ih =>
    rw [List.foldl_cons, ih _ (fun hm => h (List.mem_cons_of_mem _ hm))]
    have hne : e.1 ≠ s := fun he => h (by simp [he])
    simp [List.getD_eq_getElem?_getD, List.getElem?_set_ne hne]
theorem St.gen_set (T : St) (s t : Nat) (x : V) (k : Bool) : T.gen t ≤ St.gen (T.set s ((if k then T.gen s else T.gen s + 1), x)) t := by
  unfold St.gen
  by_cases h : s = t
  · subst h
    by_cases hl : s < T.length
    · cases k <;> simp [List.getD_eq_getElem?_getD, List.getElem?_set_self hl]
    · simp [List.getD_eq_getElem?_getD, List.getElem?_eq_none (by omega : T.length ≤ s), List.set_eq_of_length_le (by omega : T.length ≤ s)]
  · simp [List.getD_eq_getElem?_getD, List.getElem?_set_ne h]
theorem St.gen_app (T : St) (E : Eff) (t : Nat) : T.gen t ≤ St.gen (T.app E) t := by
  unfold St.app
  induction E generalizing T with
  | nil => exact Nat.le_refl _
  | cons e E ih => rw [List.foldl_cons]; exact Nat.le_trans (T.gen_set e.1 t e.2.2 e.2.1) (ih _)
/-- A slot that is written so that the handle goes gets a new number. -/
theorem St.gen_lt (T : St) (E : Eff) (t : Nat) (hl : t < T.length) (h : ∃ x, (t, false, x) ∈ E) : T.gen t < St.gen (T.app E) t := by
  unfold St.app
  induction E generalizing T with
  | nil => simp at h
  | cons e E ih =>
    rw [List.foldl_cons]
    obtain ⟨x, hx⟩ := h
    rcases List.mem_cons.1 hx with rfl | hx
    · refine Nat.lt_of_lt_of_le ?_ (St.gen_app _ E t)
      simp [St.gen, List.getD_eq_getElem?_getD, List.getElem?_set_self hl]
    · exact Nat.lt_of_le_of_lt (T.gen_set e.1 t e.2.2 e.2.1) (ih _ (by simpa using hl) ⟨x, hx⟩)
/-- What is written last stands there. -/
theorem St.at_last (T : St) (E : Eff) (t : Nat) (k : Bool) (x : V) (hl : t < T.length) : (T.app (E ++ [(t, k, x)])).at t = x := by
  unfold St.app St.at
  rw [List.foldl_append]
  have hl' : t < (List.foldl (fun T e => T.set e.1 ((if e.2.1 then St.gen T e.1 else St.gen T e.1 + 1), e.2.2)) T E).length := by
    have := St.length_app T E
    unfold St.app at this
    rw [this]
    exact hl
  simp [List.getD_eq_getElem?_getD, List.getElem?_set_self hl']
theorem St.at_mid (T : St) (E : Eff) (t d : Nat) (k : Bool) (x : V) (hne : d ≠ t) : (T.app (E ++ [(d, k, x)])).at t = (T.app E).at t := by
  unfold St.app St.at
  rw [List.foldl_append]
  simp [List.getD_eq_getElem?_getD, List.getElem?_set_ne hne]
def deads (src : List Nat) : Eff := src.map fun s => (s, false, .dead)
theorem St.at_deads (T : St) (src : List Nat) (t : Nat) (h : t ∈ src) (hl : t < T.length) : (T.app (deads src)).at t = .dead := by
  unfold St.app deads
  induction src generalizing T with
  | nil => simp at h
  | cons s src ih =>
    rw [List.map_cons, List.foldl_cons]
    by_cases ht : t ∈ src
    · exact ih _ ht (by simpa using hl)
    · have hs : t = s := by simpa [ht] using h
      subst hs
      have := St.app_not (T.set t ((if false then T.gen t else T.gen t + 1), .dead)) (src.map fun s => (s, false, .dead)) t (by simpa [Function.comp_def] using ht)
      unfold St.app at this
      unfold St.at
      rw [this]
      simp [List.getD_eq_getElem?_getD, List.getElem?_set_self hl]
def Same (T T' : St) (rd : List Nat) : Prop := T'.length = T.length ∧ ∀ s, s ∈ rd → T'.getD s (0, .no) = T.getD s (0, .no)
theorem Same.at_ {T T' : St} {rd : List Nat} (h : Same T T' rd) {s : Nat} (hs : s ∈ rd) : T'.at s = T.at s := congrArg Prod.snd (h.2 s hs)
theorem Same.gen_ {T T' : St} {rd : List Nat} (h : Same T T' rd) {s : Nat} (hs : s ∈ rd) : T'.gen s = T.gen s := congrArg Prod.fst (h.2 s hs)
/-- An operation that is carried out. -/
def Exec (P : Program) (C : Ctx) (o : Oper) (rd : List Nat) (T : St) (E : Eff) : Prop :=
  ∀ T' a w, Same T T' rd → Sim C T' a w → ∀ (Q : Exit → Act → World → Prop) (K : Act → World → Prop), (∀ a' w', Sim C (T'.app E) a' w' → K a' w') → o.wp P a w K Q
/-- What may change where the rows of some slots are used up. -/
def spare (C : Ctx) (w : World) (F : Nat → Foot) (loc : Nat → Addr) (src : List Nat) : Foot := fun b o => b < w.heap.size ∧ ∀ s, s ∈ src → ¬ inner C (F s) loc s b o
theorem put_get {a : Act} {d s : Nat} {v : Value} (h : d ≠ s) : (a.put (some d) v).tmps[s]? = a.tmps[s]? := by simp [Act.put, Array.getElem?_setIfInBounds_ne h]
theorem put_self {a : Act} {d : Nat} {v : Value} (h : d < a.tmps.size) : (a.put (some d) v).tmps[d]? = some v := by simp [Act.put, h]
/-- A value is laid into a slot; the rows of some slots may be used up for it. -/
theorem SimB.put {C : Ctx} {T : St} {a : Act} {w w' : World} {S S' : Foot} {F : Nat → Foot} {loc : Nat → Addr} (h : SimB C T a w S F loc) (src : List Nat) (d : Nat) (x : V) (v : Value) (Fx : Foot)
    (hd : d < C.nt) (hdl : d < T.length) (hdp : C.pin d = none) (hsl : ∀ s, s ∈ src → s < T.length) (hm : Moves w w' (spare C w F loc src)) (hS : ∀ b o, S b o → S' b o) (hS' : ∀ b o, S' b o → S b o ∨ (w.heap.size ≤ b ∧ b < w'.heap.size) ∨ ∃ s, s ∈ src ∧ inner C (F s) loc s b o ∧ ¬ Fx b o)
    (hFx : ∀ b o, Fx b o → (∃ s, s ∈ src ∧ inner C (F s) loc s b o) ∨ w.heap.size ≤ b ∧ b < w'.heap.size ∧ ¬ S' b o)
    (hno : ∀ s, s ∈ src → T.at s ≠ .no)
    (hx : Hold w' S' C.B Fx v x ∨ (∃ k, x = .at_ k ∧ v = .pointer (some (loc k)) ∧ C.nt ≤ k ∧ T.at k ≠ .no) ∨
      (∃ r u, x.root = some (r, T.gen r) ∧ r ≠ d ∧ r ∉ src ∧ conc C a w loc r = some u ∧ Link u v x ∧ (r < C.nt ∨ T.at r ≠ .no) ∧ (x.isDeep = true → (∃ y, (T.at r).getp x.path = some y ∧ y.isOwn = true) ∧ DL w' S' (F r) u v x))) :
    Sim C (T.app (deads src ++ [(d, false, x)])) (a.put (some d) v) w' := by
  have hE : (deads src ++ [(d, false, x)]).map (·.1) = src ++ [d] := by simp [deads, Function.comp_def]
  have hmemd : ∀ s, s ∈ d :: src → s ∈ (deads src ++ [(d, false, x)]).map (·.1) := fun s hs => by rw [hE]; simpa [or_comm] using hs
  have hsize : (a.put (some d) v).tmps.size = a.tmps.size := by simp [Act.put]
  have hlt : ∀ s, s ∈ d :: src → s < T.length := fun s hs => by
    rcases List.mem_cons.1 hs with rfl | hs
    · exact hdl
    · exact hsl s hs
  have hgl : ∀ s, s ∈ d :: src → T.gen s < St.gen (T.app (deads src ++ [(d, false, x)])) s := fun s hs => St.gen_lt T _ s (hlt s hs) (by
    rcases List.mem_cons.1 hs with rfl | hs
    · exact ⟨x, by simp⟩
    · exact ⟨.dead, by simp [deads, hs]⟩)
  have hatd : (T.app (deads src ++ [(d, false, x)])).at d = x := St.at_last T _ d false x hdl
  have hats : ∀ s, s ∈ src → s ≠ d → (T.app (deads src ++ [(d, false, x)])).at s = .dead := fun s hs hne => by
    rw [St.at_mid T _ s d false x (Ne.symm hne)]
    exact St.at_deads T src s hs (hsl s hs)
  have hnot : ∀ s, s ∉ d :: src → (T.app (deads src ++ [(d, false, x)])).getD s (0, .no) = T.getD s (0, .no) := fun s hs => St.app_not T _ s (by rw [hE]; simpa [or_comm] using hs)
  have hxno : x ≠ .no := by
    rcases hx with hh | ⟨k, rfl, _⟩ | ⟨r, u, hr, _⟩
    · rintro rfl; cases hh
    · simp
    · rintro rfl; simp [V.root] at hr
  have hatn : ∀ k, T.at k ≠ .no → (T.app (deads src ++ [(d, false, x)])).at k ≠ .no := fun k hk => by
    by_cases hkd : k = d
    · subst hkd; rw [hatd]; exact hxno
    · by_cases hks : k ∈ src
      · rw [hats k hks hkd]; simp
      · have := hnot k (by simp [hkd, hks])
        unfold St.at
        rw [this]
        exact hk
  have hcell : ∀ s, s ∈ src → C.nt ≤ s → F s (loc s).block (loc s).off ∧ w.frozen? (loc s) = false ∧ (∃ u, w.cell? (loc s) = some u ∧ u.oneCell' = true) ∧ loc s = ⟨(loc (C.base s)).block, (loc (C.base s)).off + (s - C.base s), none⟩ := fun s hs hn => h.cells s hn (hno s hs)
  have hkc : ∀ s, C.nt ≤ s → T.at s ≠ .no → spare C w F loc src (loc s).block (loc s).off := fun s hn hx => by
    obtain ⟨h1, _, _, _⟩ := h.cells s hn hx
    refine ⟨(h.mine _ _ _ h1).2.2.1, fun t ht hi => ?_⟩
    by_cases hst : s = t
    · subst hst; exact hi.2 ⟨hn, rfl, rfl⟩
    · exact h.apart s t hst _ _ h1 hi.1
  have hcsame : ∀ s, C.nt ≤ s → T.at s ≠ .no → w'.cell? (loc s) = w.cell? (loc s) ∧ w'.frozen? (loc s) = w.frozen? (loc s) := fun s hn hx => by
    have hk := hkc s hn hx
    obtain ⟨_, _, _, h4⟩ := h.cells s hn hx
    rw [h4] at hk ⊢
    exact ⟨hm.keep.cell _ _ hk, hm.keep.frozen _ _ hk⟩
  have hconc : ∀ s, s ≠ d → (s < C.nt ∨ T.at s ≠ .no) → conc C (a.put (some d) v) w' loc s = conc C a w loc s := fun s hsd hn => by
    unfold conc
    split
    · exact put_get (Ne.symm hsd)
    · rename_i hs
      exact (hcsame s (by omega) (hn.resolve_left hs)).1
  have hcd : conc C (a.put (some d) v) w' loc d = some v := by
    unfold conc
    rw [if_pos hd]
    exact put_self (by rw [h.size]; exact hd)
  refine ⟨S', fun s => if s = d then Fx else if s ∈ src then (fun b o => C.nt ≤ s ∧ b = (loc s).block ∧ o = (loc s).off) else F s, loc, h.upd (d :: src) hnot hsize (by simpa [Act.put] using h.defers) (fun s v hv => by
      rw [put_get (fun e => by rw [← e, hdp] at hv; cases hv)]
      exact h.pins s v hv)
    ⟨hm.os, hm.tape, hm.output, hm.size, hm.keep.mono fun b o hb => ⟨hb.1, fun s hs hi => ?_⟩⟩ hS (fun b o hb => (hS' b o hb).imp id (Or.imp id fun ⟨s, hs, hi, _⟩ => ⟨s, List.mem_cons_of_mem _ hs, hi.1⟩)) (fun s hs => ?_) (fun k hk => ⟨rfl, hatn k hk⟩) (fun _ _ _ _ => rfl) (fun s hs _ => put_get (fun e => hs (by simp [e])))
    (fun r hr he _ => absurd he (by have := hgl r hr; omega)) (fun r hr => Nat.le_of_lt (hgl r hr)) (fun s t hs hst b o hb hb' => ?_) (fun s hs b o hb => ?_) (fun s hs r g hx' => ?_) (fun s hs => ?_) (fun s hs hn hx' => ?_) (fun s r' hd hr hw => ?_)⟩
  · -- what others have isn't used up
    rcases hb.2 with hb | hb | ⟨t, ht, hb⟩ | ⟨hb, hb'⟩
    · exact (h.mine s b o hi.1).1 hb
    · exact (h.mine s b o hi.1).2.1 hb
    · exact h.apart t s (fun e => ht (by subst e; simp [hs])) b o hb hi.1
    · rcases (h.mine s b o hi.1).2.2.2 with h1 | h1
      · omega
      · exact hb' h1
  · have h1 : s ≠ d := fun e => hs (by simp [e])
    have h2 : s ∉ src := fun e => hs (by simp [e])
    simp [h1, h2]
  · -- apart
    have key : ∀ t, t ≠ d → ∀ b o, Fx b o → ¬ (if t ∈ src then (fun b o => C.nt ≤ t ∧ b = (loc t).block ∧ o = (loc t).off) else F t : Foot) b o := by
      intro t htd b o hf ht
      rcases hFx b o hf with ⟨s, hs, hi⟩ | ⟨hi, hi', _⟩
      · by_cases hts : t ∈ src
        · rw [if_pos hts] at ht
          obtain ⟨hn, rfl, rfl⟩ := ht
          exact (hkc t hn (hno t hts)).2 s hs hi
        · rw [if_neg hts] at ht
          exact h.apart t s (fun e => hts (e ▸ hs)) b o ht hi.1
      · by_cases hts : t ∈ src
        · rw [if_pos hts] at ht
          obtain ⟨hn, rfl, rfl⟩ := ht
          have := (h.mine _ _ _ (hcell t hts hn).1).2.2.1
          omega
        · rw [if_neg hts] at ht
          have := (h.mine t b o ht).2.2.1
          omega
    by_cases hsd : s = d
    · subst hsd
      simp only [↓reduceIte] at hb
      rw [if_neg (Ne.symm hst)] at hb'
      exact key t (Ne.symm hst) b o hb hb'
    · rw [if_neg hsd] at hb
      have hss : s ∈ src := by simpa [hsd] using hs
      by_cases htd : t = d
      · subst htd
        simp only [↓reduceIte] at hb'
        exact key s hsd b o hb' hb
      · rw [if_neg htd] at hb'
        rw [if_pos hss] at hb
        obtain ⟨hn, rfl, rfl⟩ := hb
        by_cases hts : t ∈ src
        · rw [if_pos hts] at hb'
          obtain ⟨hn', e1, e2⟩ := hb'
          have := (hcell t hts hn').1
          rw [← e1, ← e2] at this
          exact h.apart s t hst _ _ (hcell s hss hn).1 this
        · rw [if_neg hts] at hb'
          exact h.apart s t hst _ _ (hcell s hss hn).1 hb'
  · -- one's own
    have hme : ∀ s b o, F s b o → (∀ t, t ∈ src → inner C (F t) loc t b o → Fx b o) → ¬ S' b o ∧ ¬ C.B b o ∧ b < w'.heap.size ∧ (C.w0.heap.size ≤ b ∨ C.may b o) := fun s b o hf hns => by
      obtain ⟨h1, h2, h3, h4⟩ := h.mine s b o hf
      refine ⟨fun hx => ?_, h2, Nat.lt_of_lt_of_le h3 hm.size, h4⟩
      rcases hS' b o hx with hx | hx | ⟨t, ht, hi, hnf⟩
      · exact h1 hx
      · omega
      · exact hnf (hns t ht hi)
    by_cases hsd : s = d
    · subst hsd
      simp only [↓reduceIte] at hb
      rcases hFx b o hb with ⟨s, _, hi⟩ | ⟨hi, hi', hi''⟩
      · exact hme s b o hi.1 fun _ _ _ => hb
      · exact ⟨hi'', fun hB => by have := h.stay b o (.inr hB); omega, hi', .inl (Nat.le_trans h.world.size hi)⟩
    · have hss : s ∈ src := by simpa [hsd] using hs
      rw [if_neg hsd, if_pos hss] at hb
      obtain ⟨hn, rfl, rfl⟩ := hb
      exact hme s _ _ (hcell s hss hn).1 fun t _ hi => by
        by_cases hst : s = t
        · subst hst; exact absurd ⟨hn, rfl, rfl⟩ hi.2
        · exact absurd hi.1 (h.apart s t hst _ _ (hcell s hss hn).1)
  · by_cases hsd : s = d
    · subst hsd
      rw [hatd] at hx'
      rcases hx with hh | ⟨k, rfl, _⟩ | ⟨r', u, hr, hrd, hrs, _, _, hrn, _⟩
      · cases hh <;> simp [V.root] at hx'
      · simp [V.root] at hx'
      · rw [hr] at hx'
        simp only [Option.some.injEq, Prod.mk.injEq] at hx'
        obtain ⟨rfl, rfl⟩ := hx'
        exact ⟨St.gen_app _ _ _, hrn.imp id (hatn r')⟩
    · have hss : s ∈ src := by simpa [hsd] using hs
      rw [hats s hss hsd] at hx'
      simp [V.root] at hx'
  · by_cases hsd : s = d
    · subst hsd
      rw [hatd]
      rcases hx with hh | ⟨k, rfl, hv, hn, hk⟩ | ⟨r', u, hr, hrd, hrs, hc, hl, hrn, _⟩
      · exact SlotOk.plain ⟨v, hcd, hh.mono (fun _ _ h => h) (fun _ _ h => h) fun b o hb => ⟨by simpa using hb, fun hc => by omega⟩⟩
      · exact ⟨by rw [hcd, hv], hn, hatn k hk⟩
      · exact SlotOk.of_link hr fun _ => ⟨u, v, (hconc r' hrd hrn).trans hc, hcd, hl⟩
    · have hss : s ∈ src := by simpa [hsd] using hs
      rw [hats s hss hsd]
      have hv : ∃ v, conc C a w loc s = some v := by
        unfold conc
        split
        · rename_i hlt'
          exact ⟨_, Array.getElem?_eq_getElem (by rw [h.size]; exact hlt')⟩
        · rename_i hn
          obtain ⟨u, hu, _⟩ := (hcell s hss (by omega)).2.2.1
          exact ⟨u, hu⟩
      obtain ⟨v1, hv1⟩ := hv
      exact SlotOk.plain ⟨v1, (hconc s hsd (.inr (hno s hss))).trans hv1, .dead _ _ _⟩
  · by_cases hsd : s = d
    · omega
    · have hss : s ∈ src := by simpa [hsd] using hs
      obtain ⟨h1, h2, ⟨u, h3, h3'⟩, h4⟩ := hcell s hss hn
      obtain ⟨e1, e2⟩ := hcsame s hn (hno s hss)
      exact ⟨by simp [hsd, hss, hn], e2.trans h2, ⟨u, e1.trans h3, h3'⟩, h4⟩
  · by_cases hsd : s = d
    · subst hsd
      rw [hatd] at hd hr
      rcases hx with hh | ⟨k, rfl, _⟩ | ⟨r, u, hr2, hrd, hrs, hc, hl, hrn, hdp'⟩
      · cases hh <;> cases hd
      · cases hd
      · rw [hr2] at hr
        injection hr with hr
        injection hr with hr _
        subst hr
        obtain ⟨⟨y, e1, e2⟩, e3⟩ := hdp' hd
        have hrW : r ∉ s :: src := by simp [hrd, hrs]
        refine ⟨u, v, y, (hconc r hrd hrn).trans hc, hcd, ?_, e2, ?_⟩
        · rw [hatd]
          have e : (T.app (deads src ++ [(s, false, x)])).at r = T.at r := congrArg Prod.snd (hnot r hrW)
          rw [e]
          exact e1
        · rw [hatd]
          refine e3.frame (.refl _ _) (fun b o hb => ?_) fun _ _ h => h
          simp only [if_neg hrd, if_neg hrs]
          exact hb
    · by_cases hss : s ∈ src
      · rw [hats s hss hsd] at hd; cases hd
      · have hsW : s ∉ d :: src := by simp [hsd, hss]
        have e : (T.app (deads src ++ [(d, false, x)])).at s = T.at s := congrArg Prod.snd (hnot s hsW)
        rw [e] at hr
        have h1 := (h.ages s _ _ hr).1
        have h2 := hgl r' (hw.resolve_left hsW)
        omega
end Go.Proofs.Ytepeoiimdefnpaa.Vm
namespace Go.Proofs.Ytepeoiimdefnpaa.Vm
open Go
/-- Nothing of one's own is in it, and nothing that lies in a slot's row. -/
def V.free : V → Bool
  | .sc _ | .row _ _ _ | .box _ _ | .dead => true
  | .agg cs | .tup cs => go cs
  | _ => false
where go : List V → Bool
  | [] => true
  | c :: cs => V.free c && go cs
theorem V.free_go {cs : List V} (h : V.free.go cs = true) : ∀ c, c ∈ cs → c.free = true := by
  induction cs with
  | nil => intro c hc; simp at hc
  | cons x cs ih =>
    simp only [V.free.go, Bool.and_eq_true] at h
    intro c hc
    rcases List.mem_cons.1 hc with rfl | hc
    · exact h.1
    · exact ih h.2 c hc
theorem Split.none (F : Foot) : Split F (fun _ => Foot.none) := ⟨fun _ _ _ h => h.elim, fun _ _ _ _ _ h => h.elim⟩
theorem Hold.unfoot {w : World} {S B : Foot} {F : Foot} {v : Value} {x : V} (h : Hold w S B F v x) : x.free = true → Hold w S B Foot.none v x := by
  induction h with
  | dead => intro _; exact .dead ..
  | sc => intro _; exact .sc ..
  | agg B F vs cs G hn hs h1 hi ih =>
    intro hf
    exact .agg _ _ vs cs (fun _ => Foot.none) hn (Split.none _) h1 fun i u c hu hc => ih i u c hu hc (V.free_go (by simpa [V.free] using hf) c (List.mem_of_getElem? hc))
  | tup B F vs cs G hn hs hi ih =>
    intro hf
    exact .tup _ _ vs cs (fun _ => Foot.none) hn (Split.none _) fun i u c hu hc => ih i u c hu hc (V.free_go (by simpa [V.free] using hf) c (List.mem_of_getElem? hc))
  | row B F x sz es A cap U hz hc hm ha h1 hi ih => intro _; exact .row _ _ x sz es A cap U hz hc hm ha h1 hi
  | own => intro h; simp [V.free] at h
  | box B F x cs a U h1 hi ih => intro _; exact .box _ _ x cs a U h1 hi
  | obx => intro h; simp [V.free] at h
  | iter => intro h; simp [V.free] at h
/-- What a value is in memory, if no memory is in it. -/
def V.val : V → Option Value
  | .sc v => some v
  | .agg cs => (go cs).map fun l => .agg l.toArray
  | .tup cs => (go cs).map fun l => .tuple l.toArray
  | _ => none
where go : List V → Option (List Value)
  | [] => some []
  | c :: cs => (V.val c).bind fun v => (go cs).map (v :: ·)
theorem V.val_go {cs : List V} : ∀ {l : List Value}, V.val.go cs = some l → l.length = cs.length ∧ ∀ (i : Nat) (c : V) (u : Value), cs[i]? = some c → l[i]? = some u → V.val c = some u := by
  induction cs with
  | nil => intro l h; simp [V.val.go] at h; subst h; exact ⟨rfl, fun i c u h => by simp at h⟩
  | cons x cs ih =>
    intro l h
    simp only [V.val.go, Option.bind_eq_some_iff, Option.map_eq_some_iff] at h
    obtain ⟨v, hv, l', hl', rfl⟩ := h
    obtain ⟨h1, h2⟩ := ih hl'
    refine ⟨by simp [h1], fun i c u hc hu => ?_⟩
    cases i with
    | zero => simp at hc hu; subst hc hu; exact hv
    | succ i => exact h2 i c u (by simpa using hc) (by simpa using hu)
theorem Hold.val_eq {w : World} {S B : Foot} {F : Foot} {v : Value} {x : V} (h : Hold w S B F v x) : ∀ {u}, x.val = some u → v = u := by
  induction h with
  | sc => intro u hu; simpa [V.val] using hu
  | agg B F vs cs G hn hs h1 hi ih =>
    intro u hu
    simp only [V.val, Option.map_eq_some_iff] at hu
    obtain ⟨l, hl, rfl⟩ := hu
    obtain ⟨h2, h3⟩ := V.val_go hl
    have hvs : vs.toList = l := by
      refine List.ext_getElem? fun i => ?_
      by_cases hi' : i < cs.length
      · obtain ⟨u, hu⟩ : ∃ u, l[i]? = some u := ⟨_, List.getElem?_eq_getElem (by omega)⟩
        obtain ⟨x, hx⟩ : ∃ x, vs[i]? = some x := ⟨_, Array.getElem?_eq_getElem (by omega)⟩
        obtain ⟨c, hc⟩ : ∃ c, cs[i]? = some c := ⟨_, List.getElem?_eq_getElem hi'⟩
        rw [hu, Array.getElem?_toList, hx, ih i x c hx hc (h3 i c u hc hu)]
      · rw [List.getElem?_eq_none (by simp; omega), List.getElem?_eq_none (by omega)]
    rw [← hvs]
  | tup B F vs cs G hn hs hi ih =>
    intro u hu
    simp only [V.val, Option.map_eq_some_iff] at hu
    obtain ⟨l, hl, rfl⟩ := hu
    obtain ⟨h2, h3⟩ := V.val_go hl
    have hvs : vs.toList = l := by
      refine List.ext_getElem? fun i => ?_
      by_cases hi' : i < cs.length
      · obtain ⟨u, hu⟩ : ∃ u, l[i]? = some u := ⟨_, List.getElem?_eq_getElem (by omega)⟩
        obtain ⟨x, hx⟩ : ∃ x, vs[i]? = some x := ⟨_, Array.getElem?_eq_getElem (by omega)⟩
        obtain ⟨c, hc⟩ : ∃ c, cs[i]? = some c := ⟨_, List.getElem?_eq_getElem hi'⟩
        rw [hu, Array.getElem?_toList, hx, ih i x c hx hc (h3 i c u hc hu)]
      · rw [List.getElem?_eq_none (by simp; omega), List.getElem?_eq_none (by omega)]
    rw [← hvs]
  | dead => intro u hu; simp [V.val] at hu
  | row => intro u hu; simp [V.val] at hu
  | own => intro u hu; simp [V.val] at hu
  | box => intro u hu; simp [V.val] at hu
  | obx => intro u hu; simp [V.val] at hu
  | iter => intro u hu; simp [V.val] at hu
section
variable {P : Program} {C : Ctx} {T T' : St} {a : Act} {w : World} {S : Foot} {F : Nat → Foot} {loc : Nat → Addr} {rd : List Nat} {o : Oper} {d : Nat}
/-- A frame's own slot that has a value of memory. -/
theorem SimB.held (h : SimB C T a w S F loc) (s : Nat) (hs : s < C.nt) {x : V} (hx : T.at s = x) (hn : x ≠ .no) (ha : ∀ k, x ≠ .at_ k) (hr : x.root = none) : Hold w S C.B (F s) (a.tmps.getD s undef) x := by
  have h1 := h.slot s
  rw [hx] at h1
  obtain ⟨v, h2, h3⟩ := h1.held hn ha hr
  unfold conc at h2
  rw [if_pos hs] at h2
  rw [Array.getD_eq_getD_getElem?, h2]
  exact h3.mono (fun _ _ h => h) (fun _ _ h => h) fun b o h => h.1
theorem SimB.value (h : SimB C T a w S F loc) (s : Nat) (hs : s < C.nt) {v : Value} (hx : (T.at s).val = some v) : a.eval (.tmp s) = v := by
  have hh := h.held s hs rfl (fun e => by rw [e] at hx; simp [V.val] at hx) (fun k e => by rw [e] at hx; simp [V.val] at hx) (by revert hx; cases T.at s <;> simp [V.val, V.root])
  exact hh.val_eq hx
/-- Out of an operation's run. -/
theorem exec_of (src : List Nat) (x : V) (hd : o.dst = some d) (hdn : d < C.nt) (hdl : d < T.length) (hdp : C.pin d = none) (hsl : ∀ s, s ∈ src → s < T.length)
    (h : ∀ T' a w S F loc, Same T T' rd → SimB C T' a w S F loc → ∃ v w' S' Fx, (execOp a.eval o).run P w = .ok (.value v) w' ∧ Moves w w' (spare C w F loc src) ∧ (∀ b o, S b o → S' b o) ∧ (∀ b o, S' b o → S b o ∨ (w.heap.size ≤ b ∧ b < w'.heap.size) ∨ ∃ s, s ∈ src ∧ inner C (F s) loc s b o ∧ ¬ Fx b o) ∧
      (∀ b o, Fx b o → (∃ s, s ∈ src ∧ inner C (F s) loc s b o) ∨ w.heap.size ≤ b ∧ b < w'.heap.size ∧ ¬ S' b o) ∧ (∀ s, s ∈ src → T'.at s ≠ .no) ∧
      (Hold w' S' C.B Fx v x ∨ (∃ k, x = .at_ k ∧ v = .pointer (some (loc k)) ∧ C.nt ≤ k ∧ T'.at k ≠ .no) ∨
      (∃ r u, x.root = some (r, T'.gen r) ∧ r ≠ d ∧ r ∉ src ∧ conc C a w loc r = some u ∧ Link u v x ∧ (r < C.nt ∨ T'.at r ≠ .no) ∧ (x.isDeep = true → (∃ y, (T'.at r).getp x.path = some y ∧ y.isOwn = true) ∧ DL w' S' (F r) u v x)))) :
    Exec P C o rd T (deads src ++ [(d, false, x)]) := by
  intro T' a w hsame ⟨S, F, loc, hsim⟩ Q K hK
  obtain ⟨v, w', S', Fx, hrun, hm, hS, hS', hFx, hno, hx⟩ := h T' a w S F loc hsame hsim
  unfold Oper.wp
  rw [hrun]
  show K (a.put o.dst v) w'
  rw [hd]
  exact hK _ _ (hsim.put src d x v Fx hdn (by rw [hsame.1]; exact hdl) hdp (fun s hs => by rw [hsame.1]; exact hsl s hs) hm hS hS' hFx hno hx)
/-- A result that no memory is held by. -/
theorem exec_free (x : V) (hd : o.dst = some d) (hdn : d < C.nt) (hdl : d < T.length) (hdp : C.pin d = none)
    (h : ∀ T' a w S F loc, Same T T' rd → SimB C T' a w S F loc → ∃ v, (execOp a.eval o).run P w = .ok (.value v) w ∧ Hold w S C.B Foot.none v x) : Exec P C o rd T [(d, false, x)] :=
  exec_of [] x hd hdn hdl hdp (fun s hs => by simp at hs) fun T' a w S F loc hs hsim => by
    obtain ⟨v, hr, hh⟩ := h T' a w S F loc hs hsim
    exact ⟨v, w, S, Foot.none, hr, .refl _ _, fun _ _ h => h, fun _ _ h => .inl h, fun _ _ h => h.elim, fun s hs => by simp at hs, .inl hh⟩
/-- Operands that no memory is in. -/
def vals (C : Ctx) (T : St) (rd : List Nat) (ρ : Operand → Value) : List Operand → Prop
  | [] => True
  | .tmp t :: xs => ((t ∈ rd ∧ t < C.nt ∧ (T.at t).val = some (ρ (.tmp t)))) ∧ vals C T rd ρ xs
  | .const v :: xs => ρ (.const v) = v ∧ vals C T rd ρ xs
  | .func f :: xs => ρ (.func f) = .func (.func f) #[] #[] ∧ vals C T rd ρ xs
  | .global _ :: _ => False
theorem vals_eval {ρ : Operand → Value} {xs : List Operand} (h : vals C T rd ρ xs) (hs : Same T T' rd) (hsim : SimB C T' a w S F loc) : ∀ x, x ∈ xs → a.eval x = ρ x := by
  induction xs with
  | nil => intro x hx; simp at hx
  | cons y xs ih =>
    intro x hx
    cases y with
    | tmp t =>
      obtain ⟨⟨h1, h2, h3⟩, h4⟩ := h
      rcases List.mem_cons.1 hx with rfl | hx
      · exact hsim.value t h2 (by rw [hs.at_ h1]; exact h3)
      · exact ih h4 x hx
    | const v =>
      rcases List.mem_cons.1 hx with rfl | hx
      · exact h.1.symm
      · exact ih h.2 x hx
    | func f =>
      rcases List.mem_cons.1 hx with rfl | hx
      · exact h.1.symm
      · exact ih h.2 x hx
    | global g => exact h.elim
/-- An operation on numbers, bools, strings. -/
theorem exec_pure (ρ : Operand → Value) (v : Value) (hd : o.dst = some d) (hdn : d < C.nt) (hdl : d < T.length) (hdp : C.pin d = none) (hns : ∀ cs b, o.op ≠ .select cs b) (hv : vals C T rd ρ o.op.operands.toList)
    (hr : ∀ w, (execOp ρ o).run P w = .ok (.value v) w) : Exec P C o rd T [(d, false, .sc v)] :=
  exec_free (.sc v) hd hdn hdl hdp fun T' a w S F loc hs hsim => by
    refine ⟨v, ?_, .sc ..⟩
    rw [execOp_congr o hns fun x hx => vals_eval hv hs hsim x (by simpa using hx)]
    exact hr w
/-- A copy. -/
theorem exec_copy (s : Nat) (x : V) (hop : o.op = .move (.tmp s) ∨ o.op = .assign (.tmp s)) (hd : o.dst = some d) (hdn : d < C.nt) (hdl : d < T.length) (hdp : C.pin d = none) (hsr : s ∈ rd) (hs : s < C.nt) (hx : T.at s = x) (hf : x.free = true) : Exec P C o rd T [(d, false, x)] :=
  exec_free x hd hdn hdl hdp fun T' a w S F loc hsm hsim => by
    have hh := hsim.held s hs ((hsm.at_ hsr).trans hx) (fun e => by simp [e, V.free] at hf) (fun _ e => by simp [e, V.free] at hf) (by revert hf; cases x <;> simp [V.free, V.root])
    refine ⟨a.tmps.getD s undef, ?_, hh.unfoot hf⟩
    rcases hop with hop | hop <;> simp [execOp, hop, pure, Act.eval]
/-- What leaves a pointer as it is. -/
def sameOp (o : Oper) (s : Nat) : Prop := o.op = .move (.tmp s) ∨ o.op = .assign (.tmp s) ∨ o.op = .nilCheck (.tmp s)
theorem sameOp_run {s : Nat} (hop : sameOp o s) {v : Value} (hv : a.eval (.tmp s) = v) (hp : ∃ p, v = .pointer (some p) ∨ ∃ n c, v = .slice p n c ∧ o.op ≠ .nilCheck (.tmp s)) : (execOp a.eval o).run P w = .ok (.value v) w := by
  obtain ⟨p, rfl | ⟨n, c, rfl, hne⟩⟩ := hp
  · rcases hop with hop | hop | hop <;> simp [execOp, hop, pure, hv]
  · rcases hop with hop | hop | hop
    · simp [execOp, hop, pure, hv]
    · simp [execOp, hop, pure, hv]
    · exact absurd hop hne
theorem conc_eval {s : Nat} (hs : s < C.nt) {v : Value} (h : conc C a w loc s = some v) : a.eval (.tmp s) = v := by
  unfold conc at h
  rw [if_pos hs] at h
  simp [Act.eval, h]
theorem exec_ptr (s k : Nat) (hop : sameOp o s) (hd : o.dst = some d) (hdn : d < C.nt) (hdl : d < T.length) (hdp : C.pin d = none) (hsr : s ∈ rd) (hs : s < C.nt) (hx : T.at s = .at_ k) : Exec P C o rd T [(d, false, .at_ k)] :=
  exec_of [] (.at_ k) hd hdn hdl hdp (fun s hs => by simp at hs) fun T' a w S F loc hsm hsim => by
    have h1 := hsim.slot s
    rw [(hsm.at_ hsr).trans hx] at h1
    obtain ⟨h2, h3, h5⟩ := h1
    refine ⟨_, w, S, Foot.none, sameOp_run hop (conc_eval hs h2) ⟨some (loc k) |>.getD default, .inl rfl⟩, .refl _ _, fun _ _ h => h, fun _ _ h => .inl h, fun _ _ h => h.elim, fun s hs => by simp at hs, .inr (.inl ⟨k, rfl, rfl, h3, h5⟩)⟩
end
end Go.Proofs.Ytepeoiimdefnpaa.Vm
namespace Go.Proofs.Ytepeoiimdefnpaa.Vm
open Go
section
variable {P : Program} {C : Ctx} {T T' : St} {a : Act} {w : World} {S : Foot} {F : Nat → Foot} {loc : Nat → Addr} {rd : List Nat} {o : Oper} {d : Nat}
/-- A number, or another value without memory, as an operand. -/
def opv (C : Ctx) (T : St) (rd : List Nat) (u : Value) : Operand → Prop
  | .const v => v = u
  | .tmp t => t ∈ rd ∧ t < C.nt ∧ (T.at t).val = some u
  | _ => False
theorem opv_eval {x : Operand} {u : Value} (h : opv C T rd u x) (hs : Same T T' rd) (hsim : SimB C T' a w S F loc) : a.eval x = u := by
  cases x with
  | const v => exact h
  | tmp t => exact hsim.value t h.2.1 (by rw [hs.at_ h.1]; exact h.2.2)
  | global g => exact h.elim
  | func f => exact h.elim
/-- Slot s is the row that slot r has. -/
def Own1 (C : Ctx) (T : St) (rd : List Nat) (s r E sz : Nat) (es : List (List V)) : Prop := s < C.nt ∧ s ∈ rd ∧ r ∈ rd ∧ T.at r = .own E sz es ∧ (s = r ∨ T.at s = .al r (T.gen r))
theorem V.own_plain {E sz : Nat} {es : List (List V)} : V.own E sz es ≠ .no ∧ (∀ k, V.own E sz es ≠ .at_ k) ∧ (V.own E sz es).root = none := ⟨by simp, fun _ => by simp, rfl⟩
theorem Own1.get {s r E sz : Nat} {es : List (List V)} (h : Own1 C T rd s r E sz es) (hs : Same T T' rd) (hsim : SimB C T' a w S F loc) :
    T'.at r = .own E sz es ∧ T'.gen r = T.gen r ∧ (r < C.nt ∨ T'.at r ≠ .no) ∧ ∃ v, a.eval (.tmp s) = v ∧ conc C a w loc r = some v ∧ Hold w S C.B (inner C (F r) loc r) v (.own E sz es) := by
  obtain ⟨h1, h2, h3, h4, h5⟩ := h
  have hr : T'.at r = .own E sz es := (hs.at_ h3).trans h4
  refine ⟨hr, hs.gen_ h3, .inr (by rw [hr]; simp), ?_⟩
  have hsl := hsim.slot r
  rw [hr] at hsl
  obtain ⟨v, hv, hh⟩ := hsl.held (by simp) (fun _ => by simp) rfl
  refine ⟨v, ?_, hv, hh⟩
  rcases h5 with rfl | h5
  · exact conc_eval h1 hv
  · have hx := hsim.slot s
    rw [hs.at_ h2, h5] at hx
    obtain ⟨u, v', e1, e2, e3⟩ := hx.linked rfl (hs.gen_ h3)
    rw [hv] at e1
    injection e1 with e1
    subst e1
    exact conc_eval h1 (by rw [e2, e3])
/-- Slot s is a row that can be read. -/
def Rowy (C : Ctx) (T : St) (rd : List Nat) (s sz : Nat) (es : List (List V)) : Prop := s < C.nt ∧ s ∈ rd ∧ ((∃ b, T.at s = .row b sz es) ∨ (∃ r E, Own1 C T rd s r E sz es) ∨
  (∃ r E es0 lo n, r ∈ rd ∧ T.at r = .own E sz es0 ∧ T.at s = .vw r (T.gen r) sz lo n ∧ es = (es0.drop lo).take n ∧ es.length = n))
/-- A row in memory, read. -/
structure ReadsV (w : World) (S B : Foot) (v : Value) (sz : Nat) (es : List (List V)) (A : Option Addr) (cap : Nat) : Prop where
  eq : v = .slice A es.length cap
  le : es.length ≤ cap
  max : es.length ≤ 9223372036854775807
  len : ∀ e, e ∈ es → e.length = sz
  cell : ∀ j i e c, es[j]? = some e → e[i]? = some c → ∃ ad u, A = some ad ∧ w.cell? (ad.add (j * sz + i)) = some u ∧ u.oneCell' = true ∧ (c.free = true → Hold w S B Foot.none u c)
theorem own_cells {w : World} {S B : Foot} {F : Foot} {v : Value} {E sz : Nat} {es : List (List V)} (h : Hold w S B F v (.own E sz es)) : ∃ A cap, ReadsV w S B v sz es A cap ∧ (0 < es.length → ∃ b, A = some ⟨b, 0, none⟩) := by
  cases h with
  | own B F E sz v es us G hz hp ho hF hs hG h1 hi =>
    rcases ho.2 with ⟨rfl, hn⟩ | ⟨g, cap, cur, rfl, hb, hg, hnc, hcm, hcs, htake⟩
    · refine ⟨none, 0, ⟨by rw [hn], by omega, by omega, hz, fun j i e c he _ => ?_⟩, fun h => by omega⟩
      have := (List.getElem?_eq_some_iff.1 he).1
      omega
    · refine ⟨some ⟨g, 0, none⟩, cap, ⟨rfl, hnc, by simp only [maxLen] at hcm; omega, hz, fun j i e c he hc => ?_⟩, fun _ => ⟨g, rfl⟩⟩
      have hj := (List.getElem?_eq_some_iff.1 he).1
      have hil := (List.getElem?_eq_some_iff.1 hc).1
      have hel := hz e (List.mem_of_getElem? he)
      have hlt : j * sz + i < us.length := by
        rw [ho.1]
        calc j * sz + i < j * sz + sz := by omega
          _ = (j + 1) * sz := by rw [Nat.succ_mul]
          _ ≤ es.length * sz := Nat.mul_le_mul_right _ hj
      have hu : us[j * sz + i]? = some us[j * sz + i] := List.getElem?_eq_getElem hlt
      refine ⟨_, _, rfl, ho.cells (g := g) rfl _ _ hu, h1 _ (List.mem_of_getElem? hu), fun hf => ?_⟩
      exact ((hi j i e c _ he hc hu).unfoot hf).mono (fun _ _ h => h) (fun _ _ h => h.elim) fun _ _ h => h
theorem getp_own {X y : V} {q : Nat × Nat × Nat} {pa : List (Nat × Nat × Nat)} (h : X.getp (q :: pa) = some y) : ∃ E es e c, X = .own E q.1 es ∧ q.2.2 < q.1 ∧ es[q.2.1]? = some e ∧ e[q.2.2]? = some c ∧ c.getp pa = some y := by
  cases X with
  | own E sz es =>
    simp only [V.getp] at h
    split at h
    · rename_i hq
      obtain ⟨rfl, h1⟩ := hq
      obtain ⟨e, h2, h⟩ := Option.bind_eq_some_iff.1 h
      obtain ⟨c, h3, h⟩ := Option.bind_eq_some_iff.1 h
      exact ⟨E, es, e, c, rfl, h1, h2, h3, h⟩
    · cases h
  | _ => simp [V.getp] at h
theorem getp_snoc : ∀ {pa : List (Nat × Nat × Nat)} {X : V} {E sz : Nat} {es : List (List V)} {j i : Nat} {e : List V} {c : V}, X.getp pa = some (.own E sz es) → i < sz → es[j]? = some e → e[i]? = some c → X.getp (pa ++ [(sz, j, i)]) = some c
  | [], X, E, sz, es, j, i, e, c, h, hi, he, hc => by
    simp only [V.getp, Option.some.injEq] at h
    subst h
    simp [V.getp, hi, he, hc]
  | q :: pa, X, E, sz, es, j, i, e, c, h, hi, he, hc => by
    obtain ⟨E', es', e', c', rfl, h1, h2, h3, h4⟩ := getp_own h
    simp only [List.cons_append, V.getp, h1, and_self, ↓reduceIte, h2, h3, Option.bind_some]
    exact getp_snoc h4 hi he hc
theorem Path.snoc {w : World} {A : Foot} {b n cap : Nat} {q : Nat × Nat × Nat} {v : Value} : ∀ {pa : List (Nat × Nat × Nat)} {u : Value}, Path w A u pa (.slice (some ⟨b, 0, none⟩) n cap) → A b (fl q) → w.cell? ⟨b, fl q, none⟩ = some v → Path w A u (pa ++ [q]) v
  | [], _, h, h1, h2 => ⟨b, n, cap, v, h.symm, h1, h2, rfl⟩
  | _ :: _, _, ⟨b', n', cap', u', e1, e2, e3, e4⟩, h1, h2 => ⟨b', n', cap', u', e1, e2, e3, e4.snoc h1 h2⟩
/-- An own row's cell: its value in memory, and what is held there. -/
theorem own_at {w : World} {S B F : Foot} {E sz : Nat} {es : List (List V)} {b n cap : Nat} (h : Hold w S B F (.slice (some ⟨b, 0, none⟩) n cap) (.own E sz es)) {j i : Nat} {e : List V} {c : V} (he : es[j]? = some e) (hc : e[i]? = some c) :
    ∃ (G : Nat → Foot) (u : Value), Split F G ∧ (∀ k o, ¬ G k b o) ∧ (∀ o, F b o) ∧ w.cell? ⟨b, j * sz + i, none⟩ = some u ∧ u.oneCell' = true ∧ i < sz ∧ Hold w S Foot.none (G (j * sz + i)) u c := by
  cases h with
  | own _ _ _ _ _ _ us G hz hp ho hF hs hG h1 hi =>
    have hj := (List.getElem?_eq_some_iff.1 he).1
    have hil := (List.getElem?_eq_some_iff.1 hc).1
    rw [hz e (List.mem_of_getElem? he)] at hil
    have hlt : j * sz + i < us.length := by
      rw [ho.1]
      calc j * sz + i < j * sz + sz := by omega
        _ = (j + 1) * sz := by rw [Nat.succ_mul]
        _ ≤ es.length * sz := Nat.mul_le_mul_right _ hj
    have hu : us[j * sz + i]? = some us[j * sz + i] := List.getElem?_eq_getElem hlt
    rcases ho.2 with ⟨e0, _⟩ | ⟨g, cap', cur, e0, _⟩
    · cases e0
    · have eg : b = g := by injection e0 with e0; injection e0 with e0; injection e0
      subst eg
      have hcell := ho.cells (g := b) (by rw [e0]; rfl) _ _ hu
      rw [addr_add_of, Nat.zero_add] at hcell
      exact ⟨G, _, hs, fun k o => hG k b o rfl, hF b rfl, hcell, h1 _ (List.mem_of_getElem? hu), hil, hi j i e c _ he hc hu⟩
/-- What a path leads to is held. -/
theorem Hold.getp {w : World} {S A : Foot} : ∀ {pa : List (Nat × Nat × Nat)} {B F : Foot} {u v : Value} {X y : V}, Hold w S B F u X → Path w A u pa v → X.getp pa = some y → Path w F u pa v ∧ ∃ F', (∀ b o, F' b o → F b o) ∧ Hold w S B F' v y
  | [], B, F, u, v, X, y, h, hp, hy => by
    simp only [V.getp, Option.some.injEq] at hy
    subst hy
    obtain rfl : v = u := hp
    exact ⟨rfl, F, fun _ _ h => h, h⟩
  | q :: pa, B, F, u, v, X, y, h, hp, hy => by
    obtain ⟨E, es, e, c, rfl, h1, h2, h3, h4⟩ := getp_own hy
    obtain ⟨b, n, cap, u', rfl, _, hcell, hp'⟩ := hp
    obtain ⟨G, u2, hs, hG, hF, hc2, _, _, hh⟩ := own_at h h2 h3
    have : u' = u2 := by
      have : fl q = q.2.1 * q.1 + q.2.2 := rfl
      rw [this, hc2] at hcell
      injection hcell with hcell
      exact hcell.symm
    subst this
    obtain ⟨r1, F', r2, r3⟩ := hh.getp hp' h4
    refine ⟨⟨b, n, cap, u', rfl, hF _, hcell, r1.frame ⟨fun _ _ => rfl, fun _ _ _ => rfl, fun _ _ _ => rfl⟩ fun b o hb => hs.sub _ b o hb⟩, F', fun b o hb => hs.sub _ b o (r2 b o hb), r3.mono (fun _ _ h => h) (fun _ _ h => h.elim) fun _ _ h => h⟩
theorem Rowy.get {s sz : Nat} {es : List (List V)} (h : Rowy C T rd s sz es) (hs : Same T T' rd) (hsim : SimB C T' a w S F loc) : ∃ v A cap, a.eval (.tmp s) = v ∧ ReadsV w S C.B v sz es A cap := by
  obtain ⟨h1, h2, ⟨b, h3⟩ | ⟨r, E, h3⟩ | ⟨r, E, es0, lo, n, h3, h4, h5, rfl, h6⟩⟩ := h
  · have hh := hsim.held s h1 ((hs.at_ h2).trans h3) (by simp) (fun _ => by simp) rfl
    have he : a.eval (.tmp s) = a.tmps.getD s undef := rfl
    generalize a.tmps.getD s undef = v at hh he
    refine ⟨v, ?_⟩
    cases hh with
    | row _ _ _ _ _ A cap U hz hc hm ha hcell hi =>
      refine ⟨A, cap, he, rfl, hc, hm, hz, fun j i e c hj hci => ?_⟩
      obtain ⟨ad, hA⟩ := ha (by have := (List.getElem?_eq_some_iff.1 hj).1; omega)
      obtain ⟨e1, e2, _⟩ := hcell ad j i e c hA hj hci
      exact ⟨ad, _, hA, e1, e2, fun _ => (hi j i e c hj hci).mono (fun _ _ h => h) (fun _ _ h => h.2) fun _ _ h => h⟩
  · obtain ⟨_, _, _, v, e1, _, hh⟩ := h3.get hs hsim
    obtain ⟨A, cap, hr, _⟩ := own_cells hh
    exact ⟨v, A, cap, e1, hr⟩
  · have hr : T'.at r = .own E sz es0 := (hs.at_ h3).trans h4
    have hsl := hsim.slot r
    rw [hr] at hsl
    obtain ⟨v, hv, hh⟩ := hsl.held (by simp) (fun _ => by simp) rfl
    obtain ⟨A, cap, hrd, _⟩ := own_cells hh
    have hx := hsim.slot s
    rw [hs.at_ h2, h5] at hx
    obtain ⟨u, v', e1, e2, A', c', rfl, hle, hsub⟩ := hx.linked rfl (hs.gen_ h3)
    rw [hv] at e1
    injection e1 with e1
    subst e1
    refine ⟨_, A', c', conc_eval h1 e2, by rw [h6], by rw [h6]; exact hle, ?_, fun e he => hrd.len e (List.mem_of_mem_drop (List.mem_of_mem_take he)), fun j i e c hj hci => ?_⟩
    · have := hrd.max
      simp only [List.length_take, List.length_drop]
      omega
    · have hjn : j < n := by have := (List.getElem?_eq_some_iff.1 hj).1; omega
      obtain ⟨b, m, cap', rfl, hlm, rfl⟩ := hsub (by omega)
      rw [List.getElem?_take_of_lt hjn, List.getElem?_drop] at hj
      obtain ⟨ad, u, hA, hu, h7, h8⟩ := hrd.cell (lo + j) i e c hj hci
      have heq := hrd.eq
      simp only [Value.slice.injEq] at heq
      rw [← heq.1] at hA
      injection hA with hA
      subst hA
      refine ⟨_, u, rfl, ?_, h7, h8⟩
      rw [addr_add_of] at hu ⊢
      rw [← hu]
      congr 2
      simp only [Nat.add_mul, Nat.zero_add]
      omega
theorem size_run {e sz : Nat} (h : (P.info? e).map (·.size) = some sz) (w : World) : (sizeOf e).run P w = .ok sz w := by
  obtain ⟨i, hi, rfl⟩ := Option.map_eq_some_iff.1 h
  simp [sizeOf, typeInfo, hi]
/-- len of a row. -/
theorem exec_len (s sz t : Nat) (es : List (List V)) (hop : o.op = .call { callee := .builtin .len, args := #[.tmp s], argTypes := #[t] }) (hd : o.dst = some d) (hdn : d < C.nt) (hdl : d < T.length) (hdp : C.pin d = none) (e : Nat) (ht : P.underlying t = some (.slice e)) (hr : Rowy C T rd s sz es) :
    Exec P C o rd T [(d, false, .sc (.int .i64 es.length))] :=
  exec_free _ hd hdn hdl hdp fun T' a w S F loc hsm hsim => by
    obtain ⟨v, A, cap, he, hrd⟩ := hr.get hsm hsim
    refine ⟨.int .i64 es.length, ?_, .sc ..⟩
    simp [execOp, hop, resolve, invoke, builtin, Builtin.len_, run_underlying ht, he, hrd.eq, goInt]
/-- The address of an element of a row that is read. -/
theorem exec_index_row (s sz t e : Nat) (b : Bool) (es : List (List V)) (ix : Operand) (k : IntKind) (n : Int) (el : List V) (hop : o.op = .indexAddr t (.tmp s) ix) (hd : o.dst = some d) (hdn : d < C.nt) (hdl : d < T.length) (hdp : C.pin d = none) (hs : s < C.nt) (hsr : s ∈ rd)
    (ht : P.underlying t = some (.slice e)) (hsz : (P.info? e).map (·.size) = some sz) (hx : T.at s = .row b sz es) (hi : opv C T rd (.int k n) ix) (h0 : 0 ≤ n) (hel : es[n.toNat]? = some el) :
    Exec P C o rd T [(d, false, .box b el)] :=
  exec_free _ hd hdn hdl hdp fun T' a w S F loc hsm hsim => by
    have hh := hsim.held s hs ((hsm.at_ hsr).trans hx) (by simp) (fun _ => by simp) rfl
    have hie := opv_eval hi hsm hsim
    have hlt := (List.getElem?_eq_some_iff.1 hel).1
    have he : a.eval (.tmp s) = a.tmps.getD s undef := rfl
    generalize a.tmps.getD s undef = v at hh he
    cases hh with
    | row _ _ _ _ _ A cap U hz hc hm ha hcell hi' =>
      obtain ⟨ad, rfl⟩ := ha (by omega)
      refine ⟨.pointer (some (ad.add (n.toNat * sz))), ?_, .box _ _ b el _ (fun i => U (n.toNat * sz + i)) (fun i c hci => ?_) fun i c hci => hi' _ i el c hel hci⟩
      · simp [execOp, hop, Instr.indexAt, run_underlying ht, he, hie, asIntOf, size_run hsz, h0, show n < (es.length : Int) by omega]
      · have := hcell ad _ i el c rfl hel hci
        have e : (ad.add (n.toNat * sz)).add i = ad.add (n.toNat * sz + i) := by
          unfold Addr.add
          by_cases h1 : n.toNat * sz = 0 <;> by_cases h2 : i = 0 <;> simp_all [Nat.add_assoc]
        rw [e]
        exact this
end
end Go.Proofs.Ytepeoiimdefnpaa.Vm
namespace Go.Proofs.Ytepeoiimdefnpaa.Vm
open Go
section
variable {P : Program} {C : Ctx} {T T' : St} {a : Act} {w : World} {S : Foot} {F : Nat → Foot} {loc : Nat → Addr} {rd : List Nat} {o : Oper} {d : Nat}
/-- A result that lies in a slot's row. -/
theorem exec_link (x : V) (r : Nat) (hr : x.root = some (r, T.gen r)) (hrr : r ∈ rd) (hne : r ≠ d) (hd : o.dst = some d) (hdn : d < C.nt) (hdl : d < T.length) (hdp : C.pin d = none)
    (h : ∀ T' a w S F loc, Same T T' rd → SimB C T' a w S F loc → ∃ u v, (execOp a.eval o).run P w = .ok (.value v) w ∧ conc C a w loc r = some u ∧ Link u v x ∧ (r < C.nt ∨ T'.at r ≠ .no)) (hnd : x.isDeep = false := by rfl) : Exec P C o rd T [(d, false, x)] :=
  exec_of [] x hd hdn hdl hdp (fun s hs => by simp at hs) fun T' a w S F loc hsm hsim => by
    obtain ⟨u, v, h1, h2, h3, h4⟩ := h T' a w S F loc hsm hsim
    exact ⟨v, w, S, Foot.none, h1, .refl _ _, fun _ _ h => h, fun _ _ h => .inl h, fun _ _ h => h.elim, fun s hs => by simp at hs, .inr (.inr ⟨r, u, by rw [hr, hsm.gen_ hrr], hne, by simp, h2, h3, h4, fun e => by rw [hnd] at e; cases e⟩)⟩
theorem getp_root : ∀ {pa : List (Nat × Nat × Nat)} {X y : V}, X.getp pa = some y → y.isOwn = true → X.isOwn = true
  | [], _, _, h, hy => by simp only [V.getp, Option.some.injEq] at h; subst h; exact hy
  | _ :: _, _, _, h, _ => by obtain ⟨_, _, _, _, rfl, _⟩ := getp_own h; rfl
/-- A result that names a row within a slot's row. -/
theorem exec_deep (x : V) (r : Nat) (hr : x.root = some (r, T.gen r)) (hnd : x.isDeep = true) (hrr : r ∈ rd) (hne : r ≠ d) (hd : o.dst = some d) (hdn : d < C.nt) (hdl : d < T.length) (hdp : C.pin d = none)
    (h : ∀ T' a w S F loc, Same T T' rd → SimB C T' a w S F loc → ∃ u v y, (execOp a.eval o).run P w = .ok (.value v) w ∧ conc C a w loc r = some u ∧ (T'.at r).getp x.path = some y ∧ y.isOwn = true ∧ DL w S (F r) u v x) : Exec P C o rd T [(d, false, x)] :=
  exec_of [] x hd hdn hdl hdp (fun s hs => by simp at hs) fun T' a w S F loc hsm hsim => by
    obtain ⟨u, v, y, h1, h2, h3, h4, h5⟩ := h T' a w S F loc hsm hsim
    have hl : Link u v x := by cases x <;> first | exact trivial | cases hnd
    have hno : T'.at r ≠ .no := fun e => by have := getp_root h3 h4; rw [e] at this; cases this
    exact ⟨v, w, S, Foot.none, h1, .refl _ _, fun _ _ h => h, fun _ _ h => .inl h, fun _ _ h => h.elim, fun s hs => by simp at hs, .inr (.inr ⟨r, u, by rw [hr, hsm.gen_ hrr], hne, by simp, h2, hl, .inr hno, fun _ => ⟨⟨y, h3, h4⟩, h5⟩⟩)⟩
/-- A handle, read: the copy is an alias. -/
theorem exec_alias (s r E sz : Nat) (es : List (List V)) (hop : o.op = .move (.tmp s) ∨ o.op = .assign (.tmp s)) (hd : o.dst = some d) (hdn : d < C.nt) (hdl : d < T.length) (hdp : C.pin d = none) (hne : r ≠ d) (ho : Own1 C T rd s r E sz es) : Exec P C o rd T [(d, false, .al r (T.gen r))] :=
  exec_link _ r rfl ho.2.2.1 hne hd hdn hdl hdp fun T' a w S F loc hsm hsim => by
    obtain ⟨_, _, h3, v, h4, h5, hh⟩ := ho.get hsm hsim
    refine ⟨v, v, ?_, h5, rfl, h3⟩
    rcases hop with hop | hop <;> simp [execOp, hop, pure, h4]
theorem Split.sum_self {C : Ctx} {F : Nat → Foot} {loc : Nat → Addr} {r : Nat} : ∀ b o, inner C (F r) loc r b o → (∃ s, s ∈ [r] ∧ inner C (F s) loc s b o) := fun b o h => ⟨r, by simp, h⟩
/-- A handle, handed on: it goes over. -/
theorem exec_take (s r E sz : Nat) (es : List (List V)) (hop : o.op = .move (.tmp s) ∨ o.op = .assign (.tmp s)) (hd : o.dst = some d) (hdn : d < C.nt) (hdl : d < T.length) (hdp : C.pin d = none) (hrl : r < T.length) (ho : Own1 C T rd s r E sz es) : Exec P C o rd T [(r, false, .dead), (d, false, .own E sz es)] :=
  exec_of [r] _ hd hdn hdl hdp (fun s hs => by simp at hs; omega) fun T' a w S F loc hsm hsim => by
    obtain ⟨h1, _, h3, v, h4, h5, hh⟩ := ho.get hsm hsim
    refine ⟨v, w, S, inner C (F r) loc r, ?_, .refl _ _, fun _ _ h => h, fun _ _ h => .inl h, fun b o hb => .inl ⟨r, by simp, hb⟩, fun s hs => by simp at hs; subst hs; rw [h1]; simp, .inl hh⟩
    rcases hop with hop | hop <;> simp [execOp, hop, pure, h4]
/-- A value with rows of one's own inside, handed on. -/
theorem exec_take_val (s : Nat) (x : V) (hop : o.op = .move (.tmp s) ∨ o.op = .assign (.tmp s)) (hd : o.dst = some d) (hdn : d < C.nt) (hdl : d < T.length) (hdp : C.pin d = none) (hsr : s ∈ rd) (hs : s < C.nt) (hsl : s < T.length) (hx : T.at s = x) (hn : x ≠ .no) (ha : ∀ k, x ≠ .at_ k) (hr : x.root = none) : Exec P C o rd T [(s, false, .dead), (d, false, x)] :=
  exec_of [s] _ hd hdn hdl hdp (fun s hs => by simp at hs; omega) fun T' a w S F loc hsm hsim => by
    have hsl := hsim.slot s
    rw [hsm.at_ hsr, hx] at hsl
    obtain ⟨v, h5, hh⟩ := hsl.held hn ha hr
    refine ⟨v, w, S, inner C (F s) loc s, ?_, .refl _ _, fun _ _ h => h, fun _ _ h => .inl h, fun b o hb => .inl ⟨s, by simp, hb⟩, fun s' hs' => by simp at hs'; subst hs'; rw [hsm.at_ hsr, hx]; exact hn, .inl hh⟩
    rcases hop with hop | hop <;> simp [execOp, hop, pure, conc_eval hs h5]
/-- A handle's copy, a pointer into a row, a part of a row: copied. -/
theorem exec_relink (s r : Nat) (x : V) (hop : sameOp o s) (hp : o.op = .nilCheck (.tmp s) → ∃ sz i o, x = .ref r (T.gen r) sz i o) (hd : o.dst = some d) (hdn : d < C.nt) (hdl : d < T.length) (hdp : C.pin d = none) (hsr : s ∈ rd) (hrr : r ∈ rd) (hs : s < C.nt) (hx : T.at s = x) (hr : x.root = some (r, T.gen r)) (hne : r ≠ d) (hnd : x.isDeep = false := by rfl) : Exec P C o rd T [(d, false, x)] :=
  exec_link x r hr hrr hne hd hdn hdl hdp (hnd := hnd) fun T' a w S F loc hsm hsim => by
    have h1 := hsim.slot s
    have hxs : T'.at s = x := (hsm.at_ hsr).trans hx
    rw [hxs] at h1
    have hg := hsm.gen_ hrr
    obtain ⟨u, v, e1, e2, e3⟩ := h1.linked hr hg
    refine ⟨u, v, ?_, e1, e3, (hsim.ages s r _ (by rw [hxs]; exact hr)).2⟩
    have hv := conc_eval hs e2
    rcases hop with hop | hop | hop
    · simp [execOp, hop, pure, hv]
    · simp [execOp, hop, pure, hv]
    · obtain ⟨sz, i, o, rfl⟩ := hp hop
      obtain ⟨b, n, cap, _, rfl⟩ := e3
      simp [execOp, hop, pure, hv]
/-- nil may not be: of a pointer to what is read. -/
theorem exec_nilCheck_box (s : Nat) (b : Bool) (cs : List V) (hop : o.op = .nilCheck (.tmp s)) (hd : o.dst = some d) (hdn : d < C.nt) (hdl : d < T.length) (hdp : C.pin d = none) (hsr : s ∈ rd) (hs : s < C.nt) (hx : T.at s = .box b cs) : Exec P C o rd T [(d, false, .box b cs)] :=
  exec_free _ hd hdn hdl hdp fun T' a w S F loc hsm hsim => by
    have hh := hsim.held s hs ((hsm.at_ hsr).trans hx) (by simp) (fun _ => by simp) rfl
    have he : a.eval (.tmp s) = a.tmps.getD s undef := rfl
    generalize a.tmps.getD s undef = v at hh he
    refine ⟨v, ?_, hh.unfoot rfl⟩
    cases hh with
    | box => simp [execOp, hop, pure, he]
/-- The address of an element of a row of one's own. -/
theorem exec_index_own (s r E sz t e : Nat) (es : List (List V)) (ix : Operand) (k : IntKind) (n : Int) (hop : o.op = .indexAddr t (.tmp s) ix) (hd : o.dst = some d) (hdn : d < C.nt) (hdl : d < T.length) (hdp : C.pin d = none) (hne : r ≠ d)
    (ht : P.underlying t = some (.slice e)) (hsz : (P.info? e).map (·.size) = some sz) (ho : Own1 C T rd s r E sz es) (hi : opv C T rd (.int k n) ix) (h0 : 0 ≤ n) (hlt : n.toNat < es.length) :
    Exec P C o rd T [(d, false, .ref r (T.gen r) sz n.toNat 0)] :=
  exec_link _ r rfl ho.2.2.1 hne hd hdn hdl hdp fun T' a w S F loc hsm hsim => by
    obtain ⟨_, _, h3, v, h4, h5, hh⟩ := ho.get hsm hsim
    obtain ⟨A, cap, hrd, hA⟩ := own_cells hh
    obtain ⟨b, rfl⟩ := hA (by omega)
    have hie := opv_eval hi hsm hsim
    refine ⟨v, .pointer (some ⟨b, n.toNat * sz + 0, none⟩), ?_, h5, ⟨b, es.length, cap, hrd.eq, rfl⟩, h3⟩
    simp [execOp, hop, Instr.indexAt, run_underlying ht, h4, hrd.eq, hie, asIntOf, size_run hsz, h0, show n < (es.length : Int) by omega, addr_add_of]
theorem exec_index_vw (s r E sz t e lo m : Nat) (es : List (List V)) (ix : Operand) (k : IntKind) (n : Int) (hop : o.op = .indexAddr t (.tmp s) ix) (hd : o.dst = some d) (hdn : d < C.nt) (hdl : d < T.length) (hdp : C.pin d = none) (hne : r ≠ d) (hs : s < C.nt) (hsr : s ∈ rd) (hrr : r ∈ rd)
    (ht : P.underlying t = some (.slice e)) (hsz : (P.info? e).map (·.size) = some sz) (hx : T.at s = .vw r (T.gen r) sz lo m) (hxr : T.at r = .own E sz es) (hi : opv C T rd (.int k n) ix) (h0 : 0 ≤ n) (hlt : n.toNat < m) :
    Exec P C o rd T [(d, false, .ref r (T.gen r) sz (lo + n.toNat) 0)] :=
  exec_link _ r rfl hrr hne hd hdn hdl hdp fun T' a w S F loc hsm hsim => by
    have h1 := hsim.slot s
    rw [hsm.at_ hsr, hx] at h1
    obtain ⟨u, v, e1, e2, A, c, rfl, hc, hsub⟩ := h1.linked rfl (hsm.gen_ hrr)
    obtain ⟨b, m', cap, rfl, hle, rfl⟩ := hsub (by omega)
    have hie := opv_eval hi hsm hsim
    refine ⟨_, .pointer (some ⟨b, (lo + n.toNat) * sz + 0, none⟩), ?_, e1, ⟨b, m', cap, rfl, rfl⟩, .inr (by rw [hsm.at_ hrr, hxr]; simp)⟩
    simp [execOp, hop, Instr.indexAt, run_underlying ht, conc_eval hs e2, hie, asIntOf, size_run hsz, h0, show n < (m : Int) by omega, addr_add_of, Nat.add_mul]
/-- A struct's field: where it lies. -/
def fieldAt (P : Program) (t f : Nat) : Option (Nat × Bool) := match P.underlying t with
  | some (.struct fs) => (fs[f]?).bind fun fd => (P.info? fd.type).map fun i => (fd.offset, i.size == 0)
  | _ => none
theorem field_run {t f off : Nat} (h : fieldAt P t f = some (off, false)) (ad : Addr) (w : World) : (Instr.fieldAt t (.pointer (some ad)) f).run P w = .ok (.pointer (some (ad.add off))) w := by
  unfold fieldAt at h
  split at h
  · rename_i fs hu
    obtain ⟨fd, h1, h2⟩ := Option.bind_eq_some_iff.1 h
    obtain ⟨i, h3, h4⟩ := Option.map_eq_some_iff.1 h2
    simp only [Prod.mk.injEq] at h4
    have hz : i.size ≠ 0 := by simpa using h4.2
    simp [Instr.fieldAt, run_underlying hu, h1, Instr.sureAddr, fieldPlace, sizeOf, typeInfo, h3, hz, h4.1]
  · simp at h
theorem exec_field_box (s t f off : Nat) (b : Bool) (cs : List V) (hop : o.op = .fieldAddr t (.tmp s) f) (hd : o.dst = some d) (hdn : d < C.nt) (hdl : d < T.length) (hdp : C.pin d = none) (hsr : s ∈ rd) (hs : s < C.nt) (hf : fieldAt P t f = some (off, false)) (hx : T.at s = .box b cs) : Exec P C o rd T [(d, false, .box b (cs.drop off))] :=
  exec_free _ hd hdn hdl hdp fun T' a w S F loc hsm hsim => by
    have hh := hsim.held s hs ((hsm.at_ hsr).trans hx) (by simp) (fun _ => by simp) rfl
    have he : a.eval (.tmp s) = a.tmps.getD s undef := rfl
    generalize a.tmps.getD s undef = v at hh he
    cases hh with
    | box _ _ _ _ ad U h1 hi =>
      refine ⟨.pointer (some (ad.add off)), ?_, .box _ _ b _ _ (fun i => U (off + i)) (fun i c hc => ?_) fun i c hc => hi _ c (by simpa [List.getElem?_drop] using hc)⟩
      · simp [execOp, hop, he, field_run hf]
      · have := h1 (off + i) c (by simpa [List.getElem?_drop] using hc)
        have e : (ad.add off).add i = ad.add (off + i) := by
          unfold Addr.add
          by_cases h1 : off = 0 <;> by_cases h2 : i = 0 <;> simp_all [Nat.add_assoc]
        rw [e]
        exact this
theorem exec_field_ref (s r t f off sz i p : Nat) (hop : o.op = .fieldAddr t (.tmp s) f) (hd : o.dst = some d) (hdn : d < C.nt) (hdl : d < T.length) (hdp : C.pin d = none) (hne : r ≠ d) (hsr : s ∈ rd) (hrr : r ∈ rd) (hs : s < C.nt) (hf : fieldAt P t f = some (off, false)) (hx : T.at s = .ref r (T.gen r) sz i p) : Exec P C o rd T [(d, false, .ref r (T.gen r) sz i (p + off))] :=
  exec_link _ r rfl hrr hne hd hdn hdl hdp fun T' a w S F loc hsm hsim => by
    have h1 := hsim.slot s
    rw [hsm.at_ hsr, hx] at h1
    obtain ⟨u, v, e1, e2, b, n, cap, rfl, rfl⟩ := h1.linked rfl (hsm.gen_ hrr)
    refine ⟨_, .pointer (some ⟨b, i * sz + (p + off), none⟩), ?_, e1, ⟨b, n, cap, rfl, rfl⟩, (hsim.ages s r _ (by rw [hsm.at_ hsr, hx]; rfl)).2⟩
    simp [execOp, hop, conc_eval hs e2, field_run hf, addr_add_of, Nat.add_assoc]
/-- A slot of a box: its group, and how far in it lies. -/
theorem SimB.loc_add (h : SimB C T a w S F loc) {k n : Nat} (hk : C.nt ≤ k) (h1 : T.at k ≠ .no) (h2 : T.at (k + n) ≠ .no) (hb : C.base (k + n) = C.base k) (hle : C.base k ≤ k) : loc (k + n) = (loc k).add n := by
  obtain ⟨_, _, _, e1⟩ := h.cells k hk h1
  obtain ⟨_, _, _, e2⟩ := h.cells (k + n) (by omega) h2
  rw [e2, hb]
  generalize loc (C.base k) = q at e1 ⊢
  rw [e1, addr_add_of]
  congr 1
  omega
theorem exec_field_at (s t f off k : Nat) (hop : o.op = .fieldAddr t (.tmp s) f) (hd : o.dst = some d) (hdn : d < C.nt) (hdl : d < T.length) (hdp : C.pin d = none) (hsr : s ∈ rd) (hkr : k + off ∈ rd) (hs : s < C.nt) (hf : fieldAt P t f = some (off, false)) (hx : T.at s = .at_ k) (hk : T.at (k + off) ≠ .no) (hb : C.base (k + off) = C.base k) (hle : C.base k ≤ k) : Exec P C o rd T [(d, false, .at_ (k + off))] :=
  exec_of [] (.at_ (k + off)) hd hdn hdl hdp (fun s hs => by simp at hs) fun T' a w S F loc hsm hsim => by
    have h1 := hsim.slot s
    rw [hsm.at_ hsr, hx] at h1
    obtain ⟨h2, h3, h5⟩ := h1
    have hk' : T'.at (k + off) ≠ .no := by rw [hsm.at_ hkr]; exact hk
    refine ⟨_, w, S, Foot.none, ?_, .refl _ _, fun _ _ h => h, fun _ _ h => .inl h, fun _ _ h => h.elim, fun s hs => by simp at hs, .inr (.inl ⟨k + off, rfl, rfl, by omega, hk'⟩)⟩
    rw [hsim.loc_add h3 h5 hk' hb hle]
    simp [execOp, hop, conc_eval hs h2, field_run hf]
end
end Go.Proofs.Ytepeoiimdefnpaa.Vm
namespace Go.Proofs.Ytepeoiimdefnpaa.Vm
open Go
/-- Is a type a struct or an array? -/
def aggT (P : Program) (t : Nat) : Option Bool := match P.underlying t with
  | some (.struct _) => some true
  | some (.array _ _) => some true
  | some _ => some false
  | none => none
section
variable {P : Program} {C : Ctx} {T T' : St} {a : Act} {w : World} {S : Foot} {F : Nat → Foot} {loc : Nat → Addr} {rd : List Nat} {o : Oper} {d : Nat}
theorem isAgg_run {t : Nat} {b : Bool} (h : aggT P t = some b) (w : World) : (isAgg t).run P w = .ok b w := by
  unfold aggT at h
  unfold isAgg
  split at h <;> simp_all [run_underlying]
theorem load_plain {t : Nat} (h : aggT P t = some false) {ad : Addr} {u : Value} {w : World} (hc : w.cell? ad = some u) : (Instr.loadAt t (.pointer (some ad))).run P w = .ok u w := by
  simp [Instr.loadAt, Instr.sureAddr, loadVar, isAgg_run h, load, Sem.run, hc]
theorem load_agg {t n : Nat} (h : aggT P t = some true) (hsz : (P.info? t).map (·.size) = some n) {ad : Addr} {w : World} (hc : ∀ j, j < n → ∃ u, w.cell? (ad.add j) = some u) :
    (Instr.loadAt t (.pointer (some ad))).run P w = .ok (.agg ((List.range n).map fun j => (w.cell? (ad.add j)).getD undef).toArray) w := by
  have hl := run_loadCells_list (P := P) (w := w) ad ((List.range n).map fun j => (w.cell? (ad.add j)).getD undef) (fun j v hv => by
    have hj : j < n := by have := (List.getElem?_eq_some_iff.1 hv).1; simpa using this
    obtain ⟨u, hu⟩ := hc j hj
    simp [hj] at hv
    rw [← hv, hu]
    rfl)
  simp only [List.length_map, List.length_range] at hl
  simp [Instr.loadAt, Instr.sureAddr, loadVar, isAgg_run h, size_run hsz, hl]
/-- Cells, side by side, as one value. -/
theorem Hold.agg_of {B : Foot} {Fx : Foot} {ad : Addr} {cs : List V} (G : Nat → Foot) (hs : Split Fx G) (h : ∀ j c, cs[j]? = some c → ∃ u, w.cell? (ad.add j) = some u ∧ u.oneCell' = true ∧ Hold w S B (G j) u c) :
    Hold w S B Fx (.agg ((List.range cs.length).map fun j => (w.cell? (ad.add j)).getD undef).toArray) (.agg cs) := by
  have key : ∀ (i : Nat) (u : Value) (c : V), (((List.range cs.length).map fun j => (w.cell? (ad.add j)).getD undef).toArray)[i]? = some u → cs[i]? = some c → u.oneCell' = true ∧ Hold w S B (G i) u c := by
    intro i u c hu hc
    have hi := (List.getElem?_eq_some_iff.1 hc).1
    obtain ⟨u', h1, h2, h3⟩ := h i c hc
    simp [hi, h1] at hu
    subst hu
    exact ⟨h2, h3⟩
  exact .agg _ _ _ cs G (by simp) hs (fun i u c hu hc => (key i u c hu hc).1) fun i u c hu hc => (key i u c hu hc).2
theorem exec_load_box (s t : Nat) (b : Bool) (c : V) (cs : List V) (hop : o.op = .load t (.tmp s)) (hd : o.dst = some d) (hdn : d < C.nt) (hdl : d < T.length) (hdp : C.pin d = none) (hsr : s ∈ rd) (hs : s < C.nt) (ht : aggT P t = some false) (hx : T.at s = .box b (c :: cs)) : Exec P C o rd T [(d, false, c)] :=
  exec_free _ hd hdn hdl hdp fun T' a w S F loc hsm hsim => by
    have hh := hsim.held s hs ((hsm.at_ hsr).trans hx) (by simp) (fun _ => by simp) rfl
    have he : a.eval (.tmp s) = a.tmps.getD s undef := rfl
    generalize a.tmps.getD s undef = v at hh he
    cases hh with
    | box _ _ _ _ ad U h1 hi =>
      have h0 := (h1 0 c rfl).1
      have ha0 : ad.add 0 = ad := by simp [Addr.add]
      rw [ha0] at h0
      refine ⟨_, ?_, (hi 0 c rfl).mono (fun _ _ h => h) (fun _ _ h => h.2) fun _ _ h => h⟩
      simp [execOp, hop, he, load_plain ht h0]
theorem exec_load_box_agg (s t n : Nat) (b : Bool) (cs cs' : List V) (hop : o.op = .load t (.tmp s)) (hd : o.dst = some d) (hdn : d < C.nt) (hdl : d < T.length) (hdp : C.pin d = none) (hsr : s ∈ rd) (hs : s < C.nt) (ht : aggT P t = some true) (hsz : (P.info? t).map (·.size) = some n) (hx : T.at s = .box b cs') (htk : cs'.take n = cs) (hn : cs.length = n) : Exec P C o rd T [(d, false, .agg cs)] :=
  exec_free _ hd hdn hdl hdp fun T' a w S F loc hsm hsim => by
    have hh := hsim.held s hs ((hsm.at_ hsr).trans hx) (by simp) (fun _ => by simp) rfl
    have he : a.eval (.tmp s) = a.tmps.getD s undef := rfl
    generalize a.tmps.getD s undef = v at hh he
    have hget : ∀ j c, cs[j]? = some c → cs'[j]? = some c := fun j c hc => by
      have hj := (List.getElem?_eq_some_iff.1 hc).1
      rw [← htk, List.getElem?_take_of_lt (by omega)] at hc
      exact hc
    cases hh with
    | box _ _ _ _ ad U h1 hi =>
      refine ⟨_, ?_, Hold.agg_of (ad := ad) (fun _ => Foot.none) (Split.none _) fun j c hc => ⟨_, (h1 j c (hget j c hc)).1, (h1 j c (hget j c hc)).2.1, (hi j c (hget j c hc)).mono (fun _ _ h => h) (fun _ _ h => h.2) fun _ _ h => h⟩⟩
      rw [hn]
      simp [execOp, hop, he, load_agg ht hsz fun j hj => ⟨_, (h1 j _ (hget j _ (List.getElem?_eq_getElem (by omega)))).1⟩]
/-- A cell of a row of one's own. -/
theorem ref_cell (hsm : Same T T' rd) (hsim : SimB C T' a w S F loc) {s r E sz i p : Nat} {es : List (List V)} (hsr : s ∈ rd) (hrr : r ∈ rd) (hx : T.at s = .ref r (T.gen r) sz i p) (hxr : T.at r = .own E sz es) {e : List V} (he : es[i]? = some e) :
    ∃ ad, conc C a w loc s = some (.pointer (some ad)) ∧ ∀ j c, e[p + j]? = some c → ∃ u, w.cell? (ad.add j) = some u ∧ u.oneCell' = true ∧ (c.free = true → Hold w S C.B Foot.none u c) := by
  have h1 := hsim.slot s
  rw [hsm.at_ hsr, hx] at h1
  obtain ⟨u, v, e1, e2, b, n, cap, rfl, rfl⟩ := h1.linked rfl (hsm.gen_ hrr)
  have hsl := hsim.slot r
  rw [hsm.at_ hrr, hxr] at hsl
  obtain ⟨v, hv, hh⟩ := hsl.held (by simp) (fun _ => by simp) rfl
  rw [e1] at hv
  injection hv with hv
  subst hv
  obtain ⟨A, cap', hrd, _⟩ := own_cells hh
  refine ⟨_, e2, fun j c hc => ?_⟩
  obtain ⟨ad, u, hA, h2, h3, h4⟩ := hrd.cell i (p + j) e c he hc
  have heq := hrd.eq
  simp only [Value.slice.injEq] at heq
  rw [← heq.1] at hA
  injection hA with hA
  subst hA
  refine ⟨u, ?_, h3, h4⟩
  rw [addr_add_of] at h2 ⊢
  rw [← h2]
  congr 2
  omega
theorem exec_load_ref (s r t E sz i p : Nat) (es : List (List V)) (e : List V) (c : V) (hop : o.op = .load t (.tmp s)) (hd : o.dst = some d) (hdn : d < C.nt) (hdl : d < T.length) (hdp : C.pin d = none) (hsr : s ∈ rd) (hrr : r ∈ rd) (hs : s < C.nt) (ht : aggT P t = some false) (hx : T.at s = .ref r (T.gen r) sz i p) (hxr : T.at r = .own E sz es) (he : es[i]? = some e) (hc : e[p]? = some c) (hf : c.free = true) : Exec P C o rd T [(d, false, c)] :=
  exec_free _ hd hdn hdl hdp fun T' a w S F loc hsm hsim => by
    obtain ⟨ad, h1, h2⟩ := ref_cell hsm hsim hsr hrr hx hxr he
    obtain ⟨u, h3, h4, h5⟩ := h2 0 c (by simpa using hc)
    have ha0 : ad.add 0 = ad := by simp [Addr.add]
    rw [ha0] at h3
    refine ⟨u, ?_, h5 hf⟩
    simp [execOp, hop, conc_eval hs h1, load_plain ht h3]
theorem exec_load_ref_agg (s r t n E sz i p : Nat) (es : List (List V)) (e cs : List V) (hop : o.op = .load t (.tmp s)) (hd : o.dst = some d) (hdn : d < C.nt) (hdl : d < T.length) (hdp : C.pin d = none) (hsr : s ∈ rd) (hrr : r ∈ rd) (hs : s < C.nt) (ht : aggT P t = some true) (hsz : (P.info? t).map (·.size) = some n) (hx : T.at s = .ref r (T.gen r) sz i p) (hxr : T.at r = .own E sz es) (he : es[i]? = some e) (htk : (e.drop p).take n = cs) (hn : cs.length = n) (hf : (V.agg cs).free = true) : Exec P C o rd T [(d, false, .agg cs)] :=
  exec_free _ hd hdn hdl hdp fun T' a w S F loc hsm hsim => by
    obtain ⟨ad, h1, h2⟩ := ref_cell hsm hsim hsr hrr hx hxr he
    have hget : ∀ j c, cs[j]? = some c → e[p + j]? = some c := fun j c hc => by
      have hj := (List.getElem?_eq_some_iff.1 hc).1
      rw [← htk, List.getElem?_take_of_lt (by omega), List.getElem?_drop] at hc
      exact hc
    refine ⟨_, ?_, Hold.agg_of (ad := ad) (fun _ => Foot.none) (Split.none _) fun j c hc => ?_⟩
    · rw [hn]
      simp [execOp, hop, conc_eval hs h1, load_agg ht hsz fun j hj => by
        obtain ⟨u, h3, _⟩ := h2 j _ (hget j _ (List.getElem?_eq_getElem (by omega)))
        exact ⟨u, h3⟩]
    · obtain ⟨u, h3, h4, h5⟩ := h2 j c (hget j c hc)
      exact ⟨u, h3, h4, h5 (V.free_go (by simpa [V.free] using hf) c (List.mem_of_getElem? hc))⟩
/-- A box's cell. -/
theorem at_cell (hsim : SimB C T a w S F loc) {k : Nat} (hk : C.nt ≤ k) {x : V} (hx : T.at k = x) (hn : x ≠ .no) (ha : ∀ j, x ≠ .at_ j) (hr : x.root = none) : ∃ u, w.cell? (loc k) = some u ∧ Hold w S C.B (inner C (F k) loc k) u x ∧ u.oneCell' = true := by
  have h1 := hsim.slot k
  rw [hx] at h1
  obtain ⟨v, h2, h3⟩ := h1.held hn ha hr
  unfold conc at h2
  rw [if_neg (by omega)] at h2
  obtain ⟨_, _, ⟨u, h4, h5⟩, _⟩ := hsim.cells k hk (by rw [hx]; exact hn)
  rw [h2] at h4
  injection h4 with h4
  subst h4
  exact ⟨v, h2, h3, h5⟩
theorem exec_load_at (s k t : Nat) (x : V) (hop : o.op = .load t (.tmp s)) (hd : o.dst = some d) (hdn : d < C.nt) (hdl : d < T.length) (hdp : C.pin d = none) (hsr : s ∈ rd) (hkr : k ∈ rd) (hs : s < C.nt) (ht : aggT P t = some false) (hx : T.at s = .at_ k) (hk : T.at k = x) (hf : x.free = true) : Exec P C o rd T [(d, false, x)] :=
  exec_free _ hd hdn hdl hdp fun T' a w S F loc hsm hsim => by
    have h1 := hsim.slot s
    rw [hsm.at_ hsr, hx] at h1
    obtain ⟨h2, h3, h5⟩ := h1
    obtain ⟨u, h6, h7, _⟩ := at_cell hsim h3 ((hsm.at_ hkr).trans hk) (fun e => by simp [e, V.free] at hf) (fun _ e => by simp [e, V.free] at hf) (by revert hf; cases x <;> simp [V.free, V.root])
    refine ⟨u, ?_, h7.unfoot hf⟩
    simp [execOp, hop, conc_eval hs h2, load_plain ht h6]
/-- A box's row: its copy is an alias. -/
theorem exec_load_alias (s k t E sz : Nat) (es : List (List V)) (hop : o.op = .load t (.tmp s)) (hd : o.dst = some d) (hdn : d < C.nt) (hdl : d < T.length) (hdp : C.pin d = none) (hsr : s ∈ rd) (hkr : k ∈ rd) (hs : s < C.nt) (hkd : k ≠ d) (ht : aggT P t = some false) (hx : T.at s = .at_ k) (hk : T.at k = .own E sz es) : Exec P C o rd T [(d, false, .al k (T.gen k))] :=
  exec_link _ k rfl hkr hkd hd hdn hdl hdp fun T' a w S F loc hsm hsim => by
    have h1 := hsim.slot s
    rw [hsm.at_ hsr, hx] at h1
    obtain ⟨h2, h3, h5⟩ := h1
    obtain ⟨u, h6, h7, _⟩ := at_cell hsim h3 ((hsm.at_ hkr).trans hk) (by simp) (fun _ => by simp) rfl
    refine ⟨u, u, ?_, ?_, rfl, .inr h5⟩
    · simp [execOp, hop, conc_eval hs h2, load_plain ht h6]
    · unfold conc
      rw [if_neg (by omega), h6]
theorem exec_load_ptr (s k j t : Nat) (hop : o.op = .load t (.tmp s)) (hd : o.dst = some d) (hdn : d < C.nt) (hdl : d < T.length) (hdp : C.pin d = none) (hsr : s ∈ rd) (hkr : k ∈ rd) (hs : s < C.nt) (ht : aggT P t = some false) (hx : T.at s = .at_ k) (hk : T.at k = .at_ j) : Exec P C o rd T [(d, false, .at_ j)] :=
  exec_of [] (.at_ j) hd hdn hdl hdp (fun s hs => by simp at hs) fun T' a w S F loc hsm hsim => by
    have h1 := hsim.slot s
    rw [hsm.at_ hsr, hx] at h1
    obtain ⟨h2, h3, h5⟩ := h1
    have h6 := hsim.slot k
    rw [hsm.at_ hkr, hk] at h6
    obtain ⟨h7, h8, h9⟩ := h6
    unfold conc at h7
    rw [if_neg (by omega)] at h7
    refine ⟨_, w, S, Foot.none, ?_, .refl _ _, fun _ _ h => h, fun _ _ h => .inl h, fun _ _ h => h.elim, fun s hs => by simp at hs, .inr (.inl ⟨j, rfl, rfl, h8, h9⟩)⟩
    simp [execOp, hop, conc_eval hs h2, load_plain ht h7]
/-- The cells of a box. -/
def cellsAt (T : St) (k n : Nat) : List V := (List.range n).map fun j => T.at (k + j)
/-- A box's cells as one value; what rows of one's own are in it goes over (src: their slots). -/
theorem exec_load_at_agg (src : List Nat) (s k t n : Nat) (hop : o.op = .load t (.tmp s)) (hd : o.dst = some d) (hdn : d < C.nt) (hdl : d < T.length) (hdp : C.pin d = none) (hsr : s ∈ rd) (hkr : ∀ j, j < n → k + j ∈ rd) (hs : s < C.nt) (ht : aggT P t = some true) (hsz : (P.info? t).map (·.size) = some n) (hx : T.at s = .at_ k)
    (hb : ∀ j, j < n → C.base (k + j) = C.base k) (hle : C.base k ≤ k) (hp : ∀ j, j < n → T.at (k + j) ≠ .no ∧ (∀ i, T.at (k + j) ≠ .at_ i) ∧ (T.at (k + j)).root = none)
    (hsrc : ∀ j, j < n → k + j ∈ src ∨ (T.at (k + j)).free = true) (hsl : ∀ s, s ∈ src → s < T.length) (hsn : ∀ s, s ∈ src → T.at s ≠ .no ∧ s ∈ rd) :
    Exec P C o rd T (deads src ++ [(d, false, .agg (cellsAt T k n))]) :=
  exec_of src _ hd hdn hdl hdp hsl fun T' a w S F loc hsm hsim => by
    have h1 := hsim.slot s
    rw [hsm.at_ hsr, hx] at h1
    obtain ⟨h2, h3, h5⟩ := h1
    have hcell : ∀ j, j < n → ∃ u, w.cell? ((loc k).add j) = some u ∧ Hold w S C.B (inner C (F (k + j)) loc (k + j)) u (T.at (k + j)) ∧ u.oneCell' = true := fun j hj => by
      have he := hsm.at_ (hkr j hj)
      have hl := hsim.loc_add h3 h5 (by rw [he]; exact (hp j hj).1) (hb j hj) hle
      rw [← hl]
      exact at_cell hsim (by omega) he (hp j hj).1 (hp j hj).2.1 (hp j hj).2.2
    have hcs : (cellsAt T k n).length = n := by simp [cellsAt]
    have hget : ∀ j c, (cellsAt T k n)[j]? = some c → j < n ∧ c = T.at (k + j) := fun j c hc => by
      have hj : j < n := by have := (List.getElem?_eq_some_iff.1 hc).1; omega
      simp [cellsAt, hj] at hc
      exact ⟨hj, hc.symm⟩
    refine ⟨_, w, S, fun b o => ∃ s, s ∈ src ∧ inner C (F s) loc s b o, ?_, .refl _ _, fun _ _ h => h, fun _ _ h => .inl h, fun b o h => .inl h, fun s hs => by rw [hsm.at_ (hsn s hs).2]; exact (hsn s hs).1,
      .inl (Hold.agg_of (ad := loc k) (fun j b o => k + j ∈ src ∧ inner C (F (k + j)) loc (k + j) b o) ⟨fun j b o h => ⟨k + j, h.1, h.2⟩, fun i j hij b o h1 h2 => hsim.apart (k + i) (k + j) (by omega) b o h1.2.1 h2.2.1⟩ fun j c hc => ?_)⟩
    · rw [hcs]
      simp [execOp, hop, conc_eval hs h2, load_agg ht hsz fun j hj => ⟨_, (hcell j hj).choose_spec.1⟩]
    · obtain ⟨hj, rfl⟩ := hget j c hc
      obtain ⟨u, h6, h7, h8⟩ := hcell j hj
      refine ⟨u, h6, h8, ?_⟩
      rcases hsrc j hj with hin | hfree
      · exact h7.mono (fun _ _ h => h) (fun _ _ h => h) fun b o h => ⟨hin, h⟩
      · exact (h7.unfoot hfree).mono (fun _ _ h => h) (fun _ _ h => h) fun b o h => h.elim
end
end Go.Proofs.Ytepeoiimdefnpaa.Vm
namespace Go.Proofs.Ytepeoiimdefnpaa.Vm
open Go
def stores (k : Nat) : List V → Eff
  | [] => []
  | c :: cs => (k, false, c) :: stores (k + 1) cs
theorem stores_fst (k : Nat) (cs : List V) : (stores k cs).map (·.1) = (List.range cs.length).map (k + ·) := by
  induction cs generalizing k with
  | nil => rfl
  | cons c cs ih =>
    simp only [stores, List.map_cons, ih, List.length_cons, List.range_succ_eq_map, List.map_map, Nat.add_zero, List.cons.injEq, true_and]
    refine List.map_congr_left fun j _ => ?_
    simp only [Function.comp]
    omega
theorem St.app_append (T : St) (E E' : Eff) : T.app (E ++ E') = (T.app E).app E' := by unfold St.app; rw [List.foldl_append]
theorem St.app_cons (T : St) (e : Nat × Bool × V) (E : Eff) : T.app (e :: E) = (T.app [e]).app E := rfl
theorem St.at_stores (T : St) (k : Nat) (cs : List V) (j : Nat) (c : V) (hc : cs[j]? = some c) (hl : k + cs.length ≤ T.length) : (T.app (stores k cs)).at (k + j) = c := by
  induction cs generalizing T k j with
  | nil => simp at hc
  | cons x cs ih =>
    simp only [stores]
    rw [St.app_cons]
    cases j with
    | zero =>
      simp at hc
      subst hc
      have h1 := St.app_not (T.app [(k, false, x)]) (stores (k + 1) cs) k (by rw [stores_fst]; simp; omega)
      have h2 := St.at_last T [] k false x (by simp at hl; omega)
      show ((T.app [(k, false, x)]).app (stores (k + 1) cs)).at k = x
      unfold St.at at h2 ⊢
      rw [h1]
      exact h2
    | succ j =>
      have := ih (T.app [(k, false, x)]) (k + 1) j (by simpa using hc) (by rw [St.length_app]; simp at hl; omega)
      rw [show k + (j + 1) = k + 1 + j by omega]
      exact this
theorem mem_stores (k : Nat) (cs : List V) (j : Nat) (hj : j < cs.length) : ∃ x, (k + j, false, x) ∈ stores k cs := by
  induction cs generalizing k j with
  | nil => simp at hj
  | cons c cs ih =>
    cases j with
    | zero => exact ⟨c, by simp [stores]⟩
    | succ j =>
      obtain ⟨x, hx⟩ := ih (k + 1) j (by simpa using hj)
      exact ⟨x, by rw [show k + (j + 1) = k + 1 + j by omega]; simp [stores, hx]⟩
theorem Agree.setCells (b o : Nat) (us : List Value) (w : World) (A : Foot) (h : ∀ j, j < us.length → ¬ A b (o + j)) : Agree w (w.setCells b o us) A := by
  induction us generalizing o w with
  | nil => exact .refl _ _
  | cons u us ih =>
    simp only [World.setCells]
    refine (Agree.setCell w ⟨b, o, none⟩ u A rfl (by simpa using h 0 (by simp))).trans (ih (o + 1) _ fun j hj => ?_)
    have := h (j + 1) (by simp; omega)
    rwa [show o + (j + 1) = o + 1 + j by omega] at this
theorem setCells_moves (b o : Nat) (us : List Value) (w : World) : (w.setCells b o us).os = w.os ∧ (w.setCells b o us).tape = w.tape ∧ (w.setCells b o us).output = w.output ∧ (w.setCells b o us).heap.size = w.heap.size := by
  induction us generalizing o w with
  | nil => exact ⟨rfl, rfl, rfl, rfl⟩
  | cons u us ih =>
    obtain ⟨h1, h2, h3, h4⟩ := ih (o + 1) (w.setCell ⟨b, o, none⟩ u)
    simp only [World.setCells]
    exact ⟨h1, h2, h3, h4.trans (by simp)⟩
section
variable {P : Program} {C : Ctx} {T T' : St} {a : Act} {w : World} {S : Foot} {F : Nat → Foot} {loc : Nat → Addr} {rd : List Nat} {o : Oper} {d : Nat}
/-- Cells of a box are written. -/
theorem SimB.storeAt (h : SimB C T a w S F loc) (src : List Nat) (k : Nat) (cs : List V) (us : List Value) (Gx : Nat → Foot) (hk : C.nt ≤ k) (hlen : us.length = cs.length) (hkl : k + cs.length ≤ T.length)
    (hn : ∀ j, j < cs.length → T.at (k + j) ≠ .no ∧ C.base (k + j) = C.base k) (hle : C.base k ≤ k) (h1 : ∀ u, u ∈ us → u.oneCell' = true)
    (hG : ∀ j b o, Gx j b o → ∃ s, s ∈ src ∧ inner C (F s) loc s b o) (hGa : ∀ i j, i ≠ j → ∀ b o, Gx i b o → ¬ Gx j b o) (hsrc : ∀ s, s ∈ src → s < T.length ∧ T.at s ≠ .no ∧ (s < k ∨ k + cs.length ≤ s))
    (hx : ∀ j u c, us[j]? = some u → cs[j]? = some c → Hold w S C.B (Gx j) u c) :
    Sim C (T.app (deads src ++ stores k cs)) a (w.setCells (loc k).block (loc k).off us) := by
  have hloc : ∀ j, j < cs.length → loc (k + j) = ⟨(loc k).block, (loc k).off + j, none⟩ := fun j hj => by
    have h0 := (hn 0 (by omega)).1
    rw [Nat.add_zero] at h0
    have e := h.loc_add hk h0 (hn j hj).1 (hn j hj).2 hle
    obtain ⟨_, _, _, e1⟩ := h.cells k hk h0
    rw [e]
    generalize loc k = q at e1 ⊢
    generalize loc (C.base k) = q0 at e1
    rw [e1, addr_add_of]
  obtain ⟨m1, m2, m3, m4⟩ := setCells_moves (loc k).block (loc k).off us w
  have hW : ∀ s, s ∈ (deads src ++ stores k cs).map (·.1) ↔ s ∈ src ∨ ∃ j, j < cs.length ∧ s = k + j := fun s => by
    rw [List.map_append, List.mem_append, stores_fst]
    have : (deads src).map (·.1) = src := by simp [deads, Function.comp_def]
    rw [this]
    simp [eq_comm]
  have hatk : ∀ j c, cs[j]? = some c → (T.app (deads src ++ stores k cs)).at (k + j) = c := fun j c hc => by
    rw [St.app_append]
    exact St.at_stores _ k cs j c hc (by rw [St.length_app]; exact hkl)
  have hats : ∀ s, s ∈ src → (T.app (deads src ++ stores k cs)).at s = .dead := fun s hs => by
    rw [St.app_append]
    have := St.app_not (T.app (deads src)) (stores k cs) s (by rw [stores_fst]; simp; intro x hx e; have := (hsrc s hs).2.2; omega)
    have h2 := St.at_deads T src s hs (hsrc s hs).1
    unfold St.at at h2 ⊢
    rw [this]
    exact h2
  have hnot : ∀ s, s ∉ (deads src ++ stores k cs).map (·.1) → (T.app (deads src ++ stores k cs)).getD s (0, .no) = T.getD s (0, .no) := fun s hs => St.app_not T _ s hs
  have hgl : ∀ s, s ∈ (deads src ++ stores k cs).map (·.1) → T.gen s < St.gen (T.app (deads src ++ stores k cs)) s := fun s hs => by
    rcases (hW s).1 hs with hs | ⟨j, hj, rfl⟩
    · exact St.gen_lt T _ s (hsrc s hs).1 ⟨.dead, by simp [deads, hs]⟩
    · obtain ⟨x, hx⟩ := mem_stores k cs j hj
      exact St.gen_lt T _ _ (by omega) ⟨x, by simp [hx]⟩
  have hcget : ∀ j, j < cs.length → ∃ c u, cs[j]? = some c ∧ us[j]? = some u := fun j hj => ⟨_, _, List.getElem?_eq_getElem hj, List.getElem?_eq_getElem (by omega)⟩
  have hcno : ∀ (j : Nat) (c : V), cs[j]? = some c → c ≠ .no := fun j c hc e => by
    have hj := (List.getElem?_eq_some_iff.1 hc).1
    obtain ⟨c', u, hc', hu⟩ := hcget j hj
    rw [hc] at hc'
    injection hc' with hc'
    subst hc' e
    have := hx j u _ hu hc
    cases this
  have hatn : ∀ s, T.at s ≠ .no → (T.app (deads src ++ stores k cs)).at s ≠ .no := fun s hs => by
    by_cases hw : s ∈ (deads src ++ stores k cs).map (·.1)
    · rcases (hW s).1 hw with hw | ⟨j, hj, rfl⟩
      · rw [hats s hw]; simp
      · obtain ⟨c, u, hc, _⟩ := hcget j hj
        rw [hatk j c hc]
        exact hcno j c hc
    · have := hnot s hw
      unfold St.at
      rw [this]
      exact hs
  have hFk : ∀ j, j < cs.length → F (k + j) (loc k).block ((loc k).off + j) := fun j hj => by
    have := (h.cells (k + j) (by omega) (hn j hj).1).1
    rw [hloc j hj] at this
    exact this
  -- a cell that isn't one of those written
  have hcell : ∀ s, C.nt ≤ s → T.at s ≠ .no → (∀ j, j < cs.length → s ≠ k + j) → (w.setCells (loc k).block (loc k).off us).cell? (loc s) = w.cell? (loc s) := fun s hs hns hne => by
    refine World.cell?_setCells_out _ us _ w _ fun hb _ => ?_
    rw [hlen]
    by_cases hlt : (loc s).off < (loc k).off ∨ (loc k).off + cs.length ≤ (loc s).off
    · exact hlt
    · exfalso
      have hj : (loc s).off - (loc k).off < cs.length := by omega
      have h2 := hFk _ hj
      have h3 := (h.cells s hs hns).1
      rw [hb] at h3
      rw [show (loc k).off + ((loc s).off - (loc k).off) = (loc s).off by omega] at h2
      exact h.apart s _ (hne _ hj) _ _ h3 h2
  have hfar : ∀ s, (∀ j, j < cs.length → s ≠ k + j) → ∀ j, j < us.length → ¬ F s (loc k).block ((loc k).off + j) := fun s hs j hj hf => h.apart s (k + j) (hs j (by omega)) _ _ hf (hFk j (by omega))
  have hmine := fun j (hj : j < cs.length) => h.mine (k + j) _ _ (hFk j hj)
  have hin : ∀ j (hj : j < cs.length), (w.setCells (loc k).block (loc k).off us).cell? (loc (k + j)) = us[j]? := fun j hj => by
    rw [hloc j hj, List.getElem?_eq_getElem (by omega : j < us.length)]
    refine World.cell?_setCells_in _ us _ w (fun i hi => ?_) j (by omega)
    obtain ⟨_, _, ⟨u, hu, _⟩, _⟩ := h.cells (k + i) (by omega) (hn i (by omega)).1
    rw [hloc i (by omega)] at hu
    rw [hu]
    rfl
  have hGfar : ∀ i, ∀ j, j < us.length → ¬ Gx i (loc k).block ((loc k).off + j) := fun i j hj hg => by
    obtain ⟨s, hs, hi⟩ := hG i _ _ hg
    exact hfar s (fun j' hj' e => by have := (hsrc s hs).2.2; omega) j hj hi.1
  refine ⟨S, fun s => if s ∈ src then (fun b o => C.nt ≤ s ∧ b = (loc s).block ∧ o = (loc s).off) else if k ≤ s ∧ s < k + cs.length then (fun b o => (b = (loc s).block ∧ o = (loc s).off) ∨ Gx (s - k) b o) else F s, loc,
    h.upd ((deads src ++ stores k cs).map (·.1)) hnot rfl h.defers h.pins ⟨m1, m2, m3, by omega, Agree.setCells _ _ us w _ fun j hj hA => ?_⟩ (fun _ _ h => h) (fun _ _ h => .inl h) (fun s hs => ?_) (fun s hs => ⟨rfl, hatn s hs⟩) (fun _ _ _ _ => rfl) (fun _ _ _ => rfl)
    (fun r hr he _ => absurd he (by have := hgl r hr; omega)) (fun r hr => Nat.le_of_lt (hgl r hr)) (fun s t hs hst b o hb hb' => ?_) (fun s hs b o hb => ?_) (fun s hs r g hr => ?_) (fun s hs => ?_) (fun s hs hns hx' => ?_) (h.nodeep hnot hgl fun s hs => ?_)⟩
  · -- nobody else's cells
    have hj' : j < cs.length := by omega
    obtain ⟨h2, h3, h4, h5⟩ := hmine j hj'
    rcases hA.2 with hA | hA | ⟨s, hs, hA⟩ | ⟨hA, hA'⟩
    · exact h2 hA
    · exact h3 hA
    · exact hfar s (fun i hi e => hs ((hW s).2 (.inr ⟨i, hi, e⟩))) j hj hA
    · rcases h5 with h5 | h5
      · omega
      · exact hA' h5
  · have hs' := fun hh => hs ((hW s).2 hh)
    have h2 : s ∉ src := fun e => hs' (.inl e)
    have h3 : ¬ (k ≤ s ∧ s < k + cs.length) := fun e => hs' (.inr ⟨s - k, by omega, by omega⟩)
    simp [h2, h3]
  · -- apart: every part is in some slot's old part
    have part : ∀ s b o, (if s ∈ src then (fun b o => C.nt ≤ s ∧ b = (loc s).block ∧ o = (loc s).off) else if k ≤ s ∧ s < k + cs.length then (fun b o => (b = (loc s).block ∧ o = (loc s).off) ∨ Gx (s - k) b o) else F s : Foot) b o →
        (F s b o ∧ ∀ t, t ∈ src → ¬ inner C (F t) loc t b o) ∨ (k ≤ s ∧ s < k + cs.length ∧ Gx (s - k) b o) := by
      intro s b o hb
      have cell : ∀ s, C.nt ≤ s → T.at s ≠ .no → F s (loc s).block (loc s).off ∧ ∀ t, t ∈ src → ¬ inner C (F t) loc t (loc s).block (loc s).off := fun s hs hns => by
        have h2 := (h.cells s hs hns).1
        refine ⟨h2, fun t _ hi => ?_⟩
        by_cases hst : s = t
        · subst hst; exact hi.2 ⟨hs, rfl, rfl⟩
        · exact h.apart s t hst _ _ h2 hi.1
      by_cases h2 : s ∈ src
      · rw [if_pos h2] at hb
        obtain ⟨hs, rfl, rfl⟩ := hb
        exact .inl (cell s hs (hsrc s h2).2.1)
      · rw [if_neg h2] at hb
        by_cases h3 : k ≤ s ∧ s < k + cs.length
        · rw [if_pos h3] at hb
          rcases hb with ⟨rfl, rfl⟩ | hb
          · have := (hn (s - k) (by omega)).1
            rw [show k + (s - k) = s by omega] at this
            exact .inl (cell s (by omega) this)
          · exact .inr ⟨h3.1, h3.2, hb⟩
        · rw [if_neg h3] at hb
          exact .inl ⟨hb, fun t ht hi => h.apart s t (fun e => h2 (e ▸ ht)) _ _ hb hi.1⟩
    rcases part s b o hb with ⟨p1, p2⟩ | ⟨p1, p2, p3⟩ <;> rcases part t b o hb' with ⟨q1, q2⟩ | ⟨q1, q2, q3⟩
    · exact h.apart s t hst _ _ p1 q1
    · obtain ⟨s', hs', hi⟩ := hG _ _ _ q3
      exact p2 s' hs' hi
    · obtain ⟨s', hs', hi⟩ := hG _ _ _ p3
      exact q2 s' hs' hi
    · exact hGa (s - k) (t - k) (by omega) _ _ p3 q3
  · have hme : ∀ s b o, F s b o → ¬ S b o ∧ ¬ C.B b o ∧ b < (w.setCells (loc k).block (loc k).off us).heap.size ∧ (C.w0.heap.size ≤ b ∨ C.may b o) := fun s b o hf => by
      rw [m4]; exact h.mine s b o hf
    by_cases h2 : s ∈ src
    · rw [if_pos h2] at hb
      obtain ⟨hns, rfl, rfl⟩ := hb
      exact hme s _ _ (h.cells s hns (hsrc s h2).2.1).1
    · rw [if_neg h2] at hb
      by_cases h3 : k ≤ s ∧ s < k + cs.length
      · rw [if_pos h3] at hb
        rcases hb with ⟨rfl, rfl⟩ | hb
        · have := (hn (s - k) (by omega)).1
          rw [show k + (s - k) = s by omega] at this
          exact hme s _ _ (h.cells s (by omega) this).1
        · obtain ⟨s', _, hi⟩ := hG _ _ _ hb
          exact hme s' _ _ hi.1
      · rw [if_neg h3] at hb
        exact hme s _ _ hb
  · rcases (hW s).1 hs with hs | ⟨j, hj, rfl⟩
    · rw [hats s hs] at hr; simp [V.root] at hr
    · obtain ⟨c, u, hc, hu⟩ := hcget j hj
      rw [hatk j c hc] at hr
      have := hx j u c hu hc
      cases this <;> simp [V.root] at hr
  · rcases (hW s).1 hs with hs | ⟨j, hj, rfl⟩
    · rw [hats s hs]
      have hv : ∃ v, conc C a (w.setCells (loc k).block (loc k).off us) loc s = some v := by
        unfold conc
        split
        · rename_i hlt
          exact ⟨_, Array.getElem?_eq_getElem (by rw [h.size]; exact hlt)⟩
        · rename_i hns
          obtain ⟨_, _, ⟨u, hu, _⟩, _⟩ := h.cells s (by omega) (hsrc s hs).2.1
          exact ⟨u, by rw [hcell s (by omega) (hsrc s hs).2.1 fun j hj e => by have := (hsrc s hs).2.2; omega]; exact hu⟩
      obtain ⟨v, hv⟩ := hv
      exact SlotOk.plain ⟨v, hv, .dead _ _ _⟩
    · obtain ⟨c, u, hc, hu⟩ := hcget j hj
      rw [hatk j c hc]
      have hns : k + j ∉ src := fun e => by have := (hsrc _ e).2.2; omega
      refine SlotOk.plain ⟨u, ?_, ?_⟩
      · unfold conc
        rw [if_neg (by omega), hin j hj, hu]
      · refine ((hx j u c hu hc).frame (Agree.setCells _ _ us w _ fun i hi hA => ?_)).mono (fun _ _ h => h) (fun _ _ h => h) fun b o hg => ⟨?_, fun hcl => ?_⟩
        · obtain ⟨h2, h3, _, _⟩ := hmine i (by omega)
          rcases hA with hA | hA | hA
          · exact h2 hA
          · exact h3 hA
          · exact hGfar j i hi hA
        · rw [if_neg hns, if_pos (by omega)]
          exact .inr (by rw [show k + j - k = j by omega]; exact hg)
        · rw [hloc j hj] at hcl
          obtain ⟨_, rfl, rfl⟩ := hcl
          exact hGfar j j (by omega) hg
  · rcases (hW s).1 hs with hs | ⟨j, hj, rfl⟩
    · obtain ⟨e1, e2, ⟨u, e3, e3'⟩, e4⟩ := h.cells s hns (hsrc s hs).2.1
      refine ⟨by rw [if_pos hs]; exact ⟨hns, rfl, rfl⟩, by rw [World.frozen?_setCells]; exact e2, ⟨u, ?_, e3'⟩, e4⟩
      rw [hcell s hns (hsrc s hs).2.1 fun j hj e => by have := (hsrc s hs).2.2; omega]
      exact e3
    · obtain ⟨c, u, hc, hu⟩ := hcget j hj
      obtain ⟨e1, e2, _, e4⟩ := h.cells (k + j) hns (hn j hj).1
      have hnot : k + j ∉ src := fun e => by have := (hsrc _ e).2.2; omega
      exact ⟨by rw [if_neg hnot, if_pos (by omega)]; exact .inl ⟨rfl, rfl⟩, by rw [World.frozen?_setCells]; exact e2, ⟨u, by rw [hin j hj, hu], h1 u (List.mem_of_getElem? hu)⟩, e4⟩
  · rcases (hW s).1 hs with hs | ⟨j, hj, rfl⟩
    · rw [hats s hs]; rfl
    · obtain ⟨c, u, hc, hu⟩ := hcget j hj
      rw [hatk j c hc]
      have := hx j u c hu hc
      cases this <;> rfl
end
end Go.Proofs.Ytepeoiimdefnpaa.Vm
namespace Go.Proofs.Ytepeoiimdefnpaa.Vm
open Go
/-- A value's cells. -/
def V.cells : V → List V
  | .agg cs => cs
  | .sc (.agg vs) => vs.toList.map .sc
  | x => [x]
/-- Its cells can be told. -/
def V.okc : V → Bool
  | .sc (.agg vs) => vs.toList.all (·.oneCell')
  | .sc (.tuple _) => false
  | .tup _ | .dead | .no | .at_ _ | .al _ _ | .ref _ _ _ _ _ | .vw _ _ _ _ _ | .alp _ _ _ | .refp _ _ _ _ _ _ | .cap _ _ _ _ _ | .cpr _ _ _ _ _ => false
  | _ => true
/-- It may lie in a row of one's own: nothing in it ends with the call. -/
def V.shr : V → Bool
  | .sc _ | .dead | .row false _ _ | .box false _ | .own _ _ _ | .obx _ | .iter _ _ => true
  | _ => false
theorem Hold.unborrow {w : World} {S B : Foot} {F : Foot} {v : Value} {x : V} (h : Hold w S B F v x) (hx : x.shr = true) : Hold w S Foot.none F v x := by
  cases h with
  | dead => exact .dead ..
  | sc => exact .sc ..
  | agg => simp [V.shr] at hx
  | tup => simp [V.shr] at hx
  | row B F x sz es A cap U hz hc hm ha h1 hi =>
    cases x
    · exact .row _ _ false sz es A cap U hz hc hm ha (fun a j i e c hA he hc => by simpa using h1 a j i e c hA he hc) fun j i e c he hc => (hi j i e c he hc).mono (fun _ _ h => h) (fun _ _ h => by simp at h) fun _ _ h => h
    · simp [V.shr] at hx
  | own B F E sz v es us G hz hp ho hF hs hG h1 hi => exact .own _ _ E sz v es us G hz hp ho hF hs hG h1 hi
  | box B F x cs a U h1 hi =>
    cases x
    · exact .box _ _ false cs a U (fun i c hc => by simpa using h1 i c hc) fun i c hc => (hi i c hc).mono (fun _ _ h => h) (fun _ _ h => by simp at h) fun _ _ h => h
    · simp [V.shr] at hx
  | obx B F cs b o U G hs hF hG h1 hi => exact .obx _ _ cs b o U G hs hF hG h1 hi
  | iter B F s pos b hb hF => exact .iter _ _ s pos b hb hF
/-- The cells of what is held. -/
theorem Hold.cells {w : World} {S B : Foot} {F : Foot} {v : Value} {x : V} (h : Hold w S B F v x) (hx : x.okc = true) :
    v.cells.size = x.cells.length ∧ ∃ G, Split F G ∧ ∀ (j : Nat) (u : Value) (c : V), v.cells[j]? = some u → x.cells[j]? = some c → u.oneCell' = true ∧ Hold w S B (G j) u c := by
  have one : ∀ {v : Value} {x : V}, v.oneCell' = true → Hold w S B F v x → v.cells = #[v] → x.cells = [x] → v.cells.size = x.cells.length ∧ ∃ G, Split F G ∧ ∀ (j : Nat) (u : Value) (c : V), v.cells[j]? = some u → x.cells[j]? = some c → u.oneCell' = true ∧ Hold w S B (G j) u c := by
    intro v x h1 hh hv hxc
    rw [hv, hxc]
    refine ⟨rfl, fun j b o => j = 0 ∧ F b o, ⟨fun _ _ _ h => h.2, fun i j hij b o h1 h2 => hij (h1.1.trans h2.1.symm)⟩, fun j u c hu hc => ?_⟩
    cases j with
    | zero =>
      simp at hu hc
      subst hu hc
      exact ⟨h1, hh.mono (fun _ _ h => h) (fun _ _ h => h) fun b o h => ⟨rfl, h⟩⟩
    | succ j => simp at hc
  cases h with
  | dead => simp [V.okc] at hx
  | sc =>
    cases v with
    | agg vs =>
      simp only [V.okc, List.all_eq_true] at hx
      refine ⟨by simp [Value.cells, V.cells], fun _ => Foot.none, Split.none _, fun j u c hu hc => ?_⟩
      simp only [Value.cells, V.cells, List.getElem?_map, Array.getElem?_toList] at hu hc
      rw [hu] at hc
      simp at hc
      subst hc
      exact ⟨hx u (List.mem_of_getElem? (by rw [Array.getElem?_toList]; exact hu)), .sc ..⟩
    | tuple vs => simp [V.okc] at hx
    | _ => exact one rfl (.sc ..) rfl rfl
  | agg _ _ vs cs G hn hs h1 hi => exact ⟨hn, G, hs, fun j u c hu hc => ⟨h1 j u c hu hc, hi j u c hu hc⟩⟩
  | tup => simp [V.okc] at hx
  | row B F x sz es A cap U hz hc hm ha h1 hi => exact one rfl (.row _ _ x sz es A cap U hz hc hm ha h1 hi) rfl rfl
  | own B F E sz v es us G hz hp ho hF hs hG h1 hi =>
    have hv : v.oneCell' = true ∧ v.cells = #[v] := by
      rcases ho.2 with ⟨rfl, _⟩ | ⟨g, cap, cur, rfl, _⟩ <;> exact ⟨rfl, rfl⟩
    exact one hv.1 (.own _ _ E sz v es us G hz hp ho hF hs hG h1 hi) hv.2 rfl
  | box B F x cs a U h1 hi => exact one rfl (.box _ _ x cs a U h1 hi) rfl rfl
  | obx B F cs b o U G hs hF hG h1 hi => exact one rfl (.obx _ _ cs b o U G hs hF hG h1 hi) rfl rfl
  | iter B F s pos b hb hF => exact one rfl (.iter _ _ s pos b hb hF) rfl rfl
section
variable {P : Program} {C : Ctx} {T T' : St} {a : Act} {w : World} {S : Foot} {F : Nat → Foot} {loc : Nat → Addr} {rd : List Nat} {o : Oper} {d : Nat}
/-- An operand that is handed on: its value, and the slot (if any) whose rows go with it. -/
def opV (C : Ctx) (T : St) (rd : List Nat) (x : V) (src : List Nat) : Operand → Prop
  | .const v => x = .sc v ∧ src = []
  | .tmp t => t ∈ rd ∧ t < C.nt ∧ ((T.at t = x ∧ x.free = true ∧ src = []) ∨ (T.at t = x ∧ x ≠ .no ∧ (∀ k, x ≠ .at_ k) ∧ x.root = none ∧ src = [t]) ∨ (∃ r E sz es, x = .own E sz es ∧ Own1 C T rd t r E sz es ∧ src = [r]))
  | _ => False
theorem opV_get {x : V} {src : List Nat} {y : Operand} (h : opV C T rd x src y) (hs : Same T T' rd) (hsim : SimB C T' a w S F loc) :
    ∃ G, Hold w S C.B G (a.eval y) x ∧ (∀ b o, G b o → ∃ s, s ∈ src ∧ inner C (F s) loc s b o) ∧ ∀ s, s ∈ src → T'.at s ≠ .no := by
  cases y with
  | const v => obtain ⟨rfl, rfl⟩ := h; exact ⟨Foot.none, .sc .., fun _ _ h => h.elim, fun s hs => by simp at hs⟩
  | tmp t =>
    obtain ⟨h1, h2, ⟨h3, h4, rfl⟩ | ⟨h3, h4, h5, h6, rfl⟩ | ⟨r, E, sz, es, rfl, h3, rfl⟩⟩ := h
    · have hh := hsim.held t h2 ((hs.at_ h1).trans h3) (fun e => by simp [e, V.free] at h4) (fun _ e => by simp [e, V.free] at h4) (by revert h4; cases x <;> simp [V.free, V.root])
      exact ⟨Foot.none, hh.unfoot h4, fun _ _ h => h.elim, fun s hs => by simp at hs⟩
    · have hsl := hsim.slot t
      rw [hs.at_ h1, h3] at hsl
      obtain ⟨v, h7, hh⟩ := hsl.held h4 h5 h6
      exact ⟨_, by rw [conc_eval h2 h7]; exact hh, fun b o h => ⟨t, by simp, h⟩, fun s hs' => by simp at hs'; subst hs'; rw [hs.at_ h1, h3]; exact h4⟩
    · obtain ⟨e1, _, _, v, e2, _, hh⟩ := h3.get hs hsim
      exact ⟨_, by rw [e2]; exact hh, fun b o h => ⟨r, by simp, h⟩, fun s hs' => by simp at hs'; subst hs'; rw [e1]; simp⟩
  | global g => exact h.elim
  | func f => exact h.elim
theorem store_run {t n b o' : Nat} {v : Value} (hsz : (P.info? t).map (·.size) = some n) (hn : v.cells.size = n) (hc : ∀ j, j < n → (w.cell? ⟨b, o' + j, none⟩).isSome = true) (hf : ∀ j, j < n → w.frozen? ⟨b, o' + j, none⟩ = false) (h1 : ∀ u, u ∈ v.cells.toList → u.oneCell' = true) :
    (Instr.storeAt t (.pointer (some ⟨b, o', none⟩)) v).run P w = .ok () (w.setCells b o' v.cells.toList) := by
  have h := run_storeCells_cells (P := P) b o' v.cells.toList 0 w (fun j hj => by simpa using hc j (by simpa [hn] using hj)) (fun j hj => by simpa using hf j (by simpa [hn] using hj)) h1
  simp only [Nat.add_zero] at h
  simp [Instr.storeAt, Instr.sureAddr, storeVar, size_run hsz, hn, h]
/-- A store into a box. -/
theorem exec_store_at (s k t n : Nat) (y : Operand) (x : V) (src : List Nat) (hop : o.op = .store t (.tmp s) y) (hd : o.dst = none) (hsr : s ∈ rd) (hs : s < C.nt) (hx : T.at s = .at_ k) (hsz : (P.info? t).map (·.size) = some n) (hy : opV C T rd x src y) (hok : x.okc = true) (hn : x.cells.length = n)
    (hkr : ∀ j, j < n → k + j ∈ rd ∧ T.at (k + j) ≠ .no ∧ C.base (k + j) = C.base k) (hle : C.base k ≤ k) (hkl : k + n ≤ T.length) (hsrc : ∀ s, s ∈ src → s < T.length ∧ (s < k ∨ k + n ≤ s)) : Exec P C o rd T (deads src ++ stores k x.cells) := by
  intro T' a w hsm ⟨S, F, loc, hsim⟩ Q K hK
  have h1 := hsim.slot s
  rw [hsm.at_ hsr, hx] at h1
  obtain ⟨h2, h3, h5⟩ := h1
  obtain ⟨G, hh, hG, hno⟩ := opV_get hy hsm hsim
  obtain ⟨hlen, G', hs', hi⟩ := hh.cells hok
  have hlt : ∀ j, j < n → T'.at (k + j) ≠ .no ∧ C.base (k + j) = C.base k := fun j hj => ⟨by rw [hsm.at_ (hkr j hj).1]; exact (hkr j hj).2.1, (hkr j hj).2.2⟩
  have hone : ∀ u, u ∈ (a.eval y).cells.toList → u.oneCell' = true := fun u hu => by
    obtain ⟨j, hj⟩ := List.getElem?_of_mem hu
    rw [Array.getElem?_toList] at hj
    have hjl := (Array.getElem?_eq_some_iff.1 hj).1
    exact (hi j u _ hj (List.getElem?_eq_getElem (by omega))).1
  have hloc : ∀ j, j < n → loc (k + j) = ⟨(loc k).block, (loc k).off + j, none⟩ := fun j hj => by
    have e := hsim.loc_add h3 h5 (hlt j hj).1 (hlt j hj).2 hle
    obtain ⟨_, _, _, e1⟩ := hsim.cells k h3 h5
    rw [e]
    generalize loc k = q at e1 ⊢
    generalize loc (C.base k) = q0 at e1
    rw [e1, addr_add_of]
  have hq : loc k = ⟨(loc k).block, (loc k).off, none⟩ := by
    obtain ⟨_, _, _, e1⟩ := hsim.cells k h3 h5
    rw [e1]
  have hrun : (Instr.storeAt t (.pointer (some (loc k))) (a.eval y)).run P w = .ok () (w.setCells (loc k).block (loc k).off (a.eval y).cells.toList) := by
    have := store_run (P := P) (w := w) (b := (loc k).block) (o' := (loc k).off) (v := a.eval y) hsz (by omega) (fun j hj => ?_) (fun j hj => ?_) hone
    · rwa [← hq] at this
    · obtain ⟨_, _, ⟨u, hu, _⟩, _⟩ := hsim.cells (k + j) (by omega) (hlt j hj).1
      rw [← hloc j hj, hu]; rfl
    · obtain ⟨_, hfz, _, _⟩ := hsim.cells (k + j) (by omega) (hlt j hj).1
      rw [← hloc j hj]; exact hfz
  unfold Oper.wp
  have hr : (execOp a.eval o).run P w = .ok .skip (w.setCells (loc k).block (loc k).off (a.eval y).cells.toList) := by simp [execOp, hop, conc_eval hs h2, hrun]
  rw [hr]
  show K (a.put o.dst undef) _
  rw [hd]
  refine hK _ _ (hsim.storeAt src k x.cells (a.eval y).cells.toList G' h3 (by simpa using hlen) (by rw [hn, hsm.1]; exact hkl) (fun j hj => hlt j (by omega)) hle hone (fun j b o h => hG b o (hs'.sub j b o h)) (fun i j hij b o => hs'.apart i j hij b o)
    (fun s hs => ⟨by rw [hsm.1]; exact (hsrc s hs).1, hno s hs, by rw [hn]; exact (hsrc s hs).2⟩) fun j u c hu hc => (hi j u c (by rw [Array.getElem?_toList] at hu; exact hu) hc).2)
end
end Go.Proofs.Ytepeoiimdefnpaa.Vm
namespace Go.Proofs.Ytepeoiimdefnpaa.Vm
open Go
/-- What is known of an element's type: its zero value, how many cells and bytes. -/
def elemT (P : Program) (e : Nat) (z : Value) (sz bytes : Nat) : Prop := (P.info? e).map (fun i => (i.zero, i.size, i.bytes)) = some (some z, sz, bytes) ∧ z.cells.size = sz ∧ 0 < sz
theorem elemT.get {P : Program} {e : Nat} {z : Value} {sz bytes : Nat} (h : elemT P e z sz bytes) : ∃ i, P.info? e = some i ∧ i.zero = some z ∧ i.size = sz ∧ i.bytes = bytes := by
  obtain ⟨i, hi, h2⟩ := Option.map_eq_some_iff.1 h.1
  simp only [Prod.mk.injEq] at h2
  exact ⟨i, hi, h2.1, h2.2.1, h2.2.2⟩
/-- append: where the new row lies. -/
theorem append_run {P : Program} {w : World} {t ty e : Nat} {z : Value} {sz bytes : Nat} (ht : P.underlying t = some (.slice e)) (he : elemT P e z sz bytes) {v : Value} {n : Nat} {xs : List Value} (hown : w.ownsRow 0 e sz v n xs)
    (A : Option Addr) (m c : Nat) (news : List Value) (hl : news.length = m * sz) (hnews : ∀ j u, news[j]? = some u → ∃ ad, A = some ad ∧ w.cell? (ad.add j) = some u) (h1 : ∀ u, u ∈ news → u.oneCell' = true) (hb : (n + m) * bytes ≤ 140737488355328) (h63 : n + m ≤ maxLen) :
    ∃ v' w', (Builtin.append_ #[t, t] ty #[v, .slice A m c]).run P w = .ok v' w' ∧ w'.ownsRow 0 e sz v' (n + m) (xs ++ news) ∧ w.grownBy w' v.ownBlock ∧ (v'.ownBlock = v.ownBlock ∨ v'.ownBlock = some w.heap.size ∧ w.heap.size < w'.heap.size) := by
  obtain ⟨i, hi, hz, hs, hby⟩ := he.get
  obtain ⟨_, hzs, hsz⟩ := he
  by_cases hm : m = 0
  · subst hm
    have hn : news = [] := List.eq_nil_of_length_eq_zero (by simpa using hl)
    subst hn
    rcases hown.2 with ⟨rfl, rfl⟩ | ⟨g, cap, cur, rfl, hbg, hg, hnc, hcm, hcs, htake⟩
    · refine ⟨_, w, ?_, by simpa using hown, ⟨rfl, rfl, rfl, Nat.le_refl _, fun _ _ _ => rfl⟩, .inl rfl⟩
      cases A <;> simp [Builtin.append_, run_underlying ht, sizeOf, typeInfo, hi, Builtin.lenOf, Builtin.firstCells, loadCells, loadCellsFrom]
    · refine ⟨_, w, ?_, by simpa using hown, ⟨rfl, rfl, rfl, Nat.le_refl _, fun _ _ _ => rfl⟩, .inl rfl⟩
      cases A <;> simp [Builtin.append_, run_underlying ht, sizeOf, typeInfo, hi, Builtin.lenOf, Builtin.firstCells, loadCells, loadCellsFrom, hnc, storeCells]
  · have hpos : 0 < news.length := by rw [hl]; exact Nat.mul_pos (by omega) hsz
    obtain ⟨ad, rfl, _⟩ := hnews 0 _ (List.getElem?_eq_getElem hpos)
    have hnews' : ∀ j u, news[j]? = some u → w.cell? (ad.add j) = some u := fun j u hu => by
      obtain ⟨ad', e1, e2⟩ := hnews j u hu
      injection e1 with e1
      rw [e1]; exact e2
    obtain ⟨v', w', hr, h2, h3, _⟩ := run_append_own (P := P) w 0 t ty e i z sz bytes ht hi hz hs hby hzs hsz v n xs hown ad m c news hl hnews' h1 h63 hb (Nat.zero_le _)
    refine ⟨v', w', hr, h2, h3, ?_⟩
    subst hs hby
    simp only [maxLen] at h63
    rcases hown.2 with ⟨rfl, rfl⟩ | ⟨g, cap, cur, rfl, hbg, hg, hnc, hcm, hcs, htake⟩
    · have := run_append_nil (P := P) w t ty e i z ht hi hz ad m c news hl hnews' (by omega) (by omega) (by simp only [Nat.zero_add] at hb; omega)
      rw [this] at hr
      injection hr with e1 e2
      subst e1 e2
      exact .inr ⟨rfl, by simp⟩
    · by_cases hroom : n + m ≤ cap
      · have := run_append_room (P := P) w t ty e i ht hi g n cap cur hg ad m c news hl hnews' h1 hroom (by rw [hl, hcs, ← Nat.add_mul]; exact Nat.mul_le_mul_right _ hroom)
        rw [this] at hr
        injection hr with e1 e2
        subst e1
        exact .inl rfl
      · have := run_append_grow (P := P) w t ty e i z ht hi hz ⟨g, 0, none⟩ n cap xs hown.1 (hown.cells (g := g) rfl) ad m c news hl hnews' (by omega) (by omega) (growslice_fits (by omega) hb)
        rw [this] at hr
        injection hr with e1 e2
        subst e1 e2
        exact .inr ⟨rfl, by simp⟩
/-- Elements' cells, side by side. -/
def flat (sz : Nat) (us : Nat → Nat → Value) : List (List V) → Nat → List Value
  | [], _ => []
  | _ :: es, j => (List.range sz).map (us j) ++ flat sz us es (j + 1)
theorem flat_length (sz : Nat) (us : Nat → Nat → Value) (es : List (List V)) (j : Nat) : (flat sz us es j).length = es.length * sz := by
  induction es generalizing j with
  | nil => simp [flat]
  | cons e es ih => simp only [flat, List.length_append, List.length_map, List.length_range, ih, List.length_cons, Nat.succ_mul]; omega
theorem flat_get (sz : Nat) (us : Nat → Nat → Value) (es : List (List V)) (j0 j i : Nat) (hj : j < es.length) (hi : i < sz) : (flat sz us es j0)[j * sz + i]? = some (us (j0 + j) i) := by
  induction es generalizing j0 j with
  | nil => simp at hj
  | cons e es ih =>
    simp only [flat]
    cases j with
    | zero => rw [List.getElem?_append_left (by simp; omega)]; simp [hi]
    | succ j =>
      have hge : sz ≤ (j + 1) * sz + i := by rw [Nat.succ_mul]; omega
      rw [List.getElem?_append_right (by simpa using hge)]
      simp only [List.length_map, List.length_range]
      rw [show (j + 1) * sz + i - sz = j * sz + i by rw [Nat.succ_mul]; omega, ih (j0 + 1) j (by simpa using hj)]
      congr 2
      omega
theorem index_split {sz k n : Nat} (hsz : 0 < sz) (hk : k < n * sz) : ∃ j i, j < n ∧ i < sz ∧ k = j * sz + i := by
  refine ⟨k / sz, k % sz, (Nat.div_lt_iff_lt_mul hsz).2 hk, Nat.mod_lt _ hsz, ?_⟩
  have := Nat.div_add_mod k sz
  rw [Nat.mul_comm] at this
  omega
section
variable {P : Program} {C : Ctx} {T T' : St} {a : Act} {w : World} {S : Foot} {F : Nat → Foot} {loc : Nat → Addr} {rd : List Nat} {o : Oper} {d : Nat}
/-- A row of one's own, longer by what another row has. -/
theorem Hold.append {w w' : World} {S B : Foot} {F Fx : Foot} {v v' : Value} {E sz : Nat} {es es2 : List (List V)} {news : List Value} (hv : Hold w S B F v (.own E sz es))
    (hr : ∀ us, w.ownsRow 0 E sz v es.length us → w'.ownsRow 0 E sz v' (es.length + es2.length) (us ++ news) ∧ w.grownBy w' v.ownBlock ∧ (v'.ownBlock = v.ownBlock ∨ v'.ownBlock = some w.heap.size ∧ w.heap.size < w'.heap.size))
    (h2 : ∀ e, e ∈ es2 → e.length = sz) (h1 : ∀ u, u ∈ news → u.oneCell' = true) (G2 : Nat → Foot) (hG2 : ∀ i j, i ≠ j → ∀ b o, G2 i b o → ¬ G2 j b o)
    (hi2 : ∀ j i e c u, es2[j]? = some e → e[i]? = some c → news[j * sz + i]? = some u → Hold w' S Foot.none (G2 (j * sz + i)) u c)
    (hF : ∀ b o, F b o → Fx b o) (hF2 : ∀ k b o, G2 k b o → Fx b o ∧ ¬ F b o ∧ b < w.heap.size) (hFn : w.heap.size < w'.heap.size → ∀ o, Fx w.heap.size o) (hFlt : ∀ b o, F b o → b < w.heap.size) (hSF : ∀ b o, S b o → ¬ F b o) (hSlt : ∀ b o, S b o → b < w.heap.size) :
    Hold w' S B Fx v' (.own E sz (es ++ es2)) := by
  cases hv with
  | own _ _ _ _ _ _ us G hz hp ho hFv hs hG hone hi =>
    obtain ⟨hr1, hr2, hr3⟩ := hr us ho
    have hblk : ∀ b, v'.ownBlock = some b → v.ownBlock = some b ∨ b = w.heap.size ∧ w.heap.size < w'.heap.size := fun b hb => by
      rcases hr3 with h | ⟨h, h'⟩
      · exact .inl (by rw [← h]; exact hb)
      · rw [h] at hb; injection hb with hb; exact .inr ⟨hb.symm, h'⟩
    have hlt : ∀ k b o, G k b o → b < w.heap.size := fun k b o h => hFlt b o (hs.sub k b o h)
    refine .own _ _ E sz v' _ (us ++ news) (fun k => if k < us.length then G k else G2 (k - us.length)) (fun e he => ?_) hp (by rw [List.length_append]; exact hr1) (fun b hb o => ?_) ⟨fun k b o h => ?_, fun i j hij b o h h' => ?_⟩ (fun k b o hb h => ?_) (fun u hu => ?_) fun j i e c u he hc hu => ?_
    · rcases List.mem_append.1 he with he | he
      · exact hz e he
      · exact h2 e he
    · rcases hblk b hb with h | ⟨rfl, h⟩
      · exact hF _ _ (hFv b h o)
      · exact hFn h o
    · split at h
      · exact hF _ _ (hs.sub _ _ _ h)
      · exact (hF2 _ _ _ h).1
    · split at h <;> split at h'
      · exact hs.apart i j hij _ _ h h'
      · exact (hF2 _ _ _ h').2.1 (hs.sub _ _ _ h)
      · exact (hF2 _ _ _ h).2.1 (hs.sub _ _ _ h')
      · exact hG2 _ _ (by omega) _ _ h h'
    · rcases hblk b hb with hv | ⟨rfl, _⟩
      · split at h
        · exact hG _ _ _ hv h
        · exact (hF2 _ _ _ h).2.1 (hFv b hv o)
      · split at h
        · exact absurd (hlt _ _ _ h) (by omega)
        · exact absurd (hF2 _ _ _ h).2.2 (by omega)
    · rcases List.mem_append.1 hu with hu | hu
      · exact hone u hu
      · exact h1 u hu
    · have hus : us.length = es.length * sz := ho.1
      by_cases hj : j < es.length
      · rw [List.getElem?_append_left hj] at he
        have hil : i < sz := by have := (List.getElem?_eq_some_iff.1 hc).1; rw [hz e (List.mem_of_getElem? he)] at this; exact this
        have hk : j * sz + i < us.length := by
          rw [hus]
          calc j * sz + i < j * sz + sz := by omega
            _ = (j + 1) * sz := by rw [Nat.succ_mul]
            _ ≤ es.length * sz := Nat.mul_le_mul_right _ hj
        rw [List.getElem?_append_left hk] at hu
        rw [if_pos hk]
        refine (hi j i e c u he hc hu).frame (Agree.grown hr2 _ fun b o hb => ?_)
        rcases hb with hb | hb | hb
        · refine ⟨hSlt b o hb, fun e => ?_⟩
          exact hSF b o hb (hFv b e.symm o)
        · exact hb.elim
        · exact ⟨hlt _ _ _ hb, fun e => hG _ _ _ e.symm hb⟩
      · rw [List.getElem?_append_right (by omega)] at he
        have hk : ¬ j * sz + i < us.length := by
          rw [hus]
          have := Nat.mul_le_mul_right sz (Nat.le_of_not_lt hj)
          omega
        rw [List.getElem?_append_right (by omega)] at hu
        have e1 : j * sz + i - us.length = (j - es.length) * sz + i := by
          rw [hus, Nat.sub_mul]
          have := Nat.mul_le_mul_right sz (Nat.le_of_not_lt hj)
          omega
        rw [e1] at hu
        rw [if_neg hk, e1]
        exact hi2 _ i e c u he hc hu
theorem owns_unique {w : World} {e sz n : Nat} {v : Value} {us us' : List Value} (h : w.ownsRow 0 e sz v n us) (h' : w.ownsRow 0 e sz v n us') : us' = us := by
  rcases h.2 with ⟨rfl, h0⟩ | ⟨g, cp, cur, rfl, _, hg, _, _, _, ht1⟩
  · have e5 : us = [] := List.eq_nil_of_length_eq_zero (by rw [h.1, h0]; simp)
    have e6 : us' = [] := List.eq_nil_of_length_eq_zero (by rw [h'.1, h0]; simp)
    rw [e5, e6]
  · rcases h'.2 with ⟨hv, _⟩ | ⟨g', cp', cur', hv', _, hg', _, _, _, ht2⟩
    · simp at hv
    · simp only [Value.slice.injEq, Option.some.injEq, Addr.mk.injEq] at hv'
      obtain ⟨⟨rfl, _⟩, _⟩ := hv'
      rw [hg] at hg'
      simp only [Option.some.injEq, Obj.cells.injEq] at hg'
      rw [← ht1, ← ht2, hg'.1]
/-- append: the step, whatever the other row is (src2: the slots whose rows go with its elements). -/
theorem append_core (s s2 r t e sz bytes : Nat) (z : Value) (es es2 : List (List V)) (src2 : List Nat) (hop : o.op = .call { callee := .builtin .append, args := #[.tmp s, .tmp s2], argTypes := #[t, t] }) (hd : o.dst = some d) (hdn : d < C.nt) (hdl : d < T.length) (hdp : C.pin d = none) (hrl : r < T.length)
    (ht : P.underlying t = some (.slice e)) (he : elemT P e z sz bytes) (ho : Own1 C T rd s r e sz es) (hsl : ∀ s, s ∈ src2 → s < T.length) (hz2 : ∀ el, el ∈ es2 → el.length = sz) (hb : (es.length + es2.length) * bytes ≤ 140737488355328) (h63 : es.length + es2.length ≤ maxLen)
    (h2 : ∀ T' a w S F loc, Same T T' rd → SimB C T' a w S F loc → ∃ (A : Option Addr) (cap : Nat) (news : List Value) (G2 : Nat → Foot), a.eval (.tmp s2) = .slice A es2.length cap ∧ news.length = es2.length * sz ∧ (∀ j u, news[j]? = some u → ∃ ad, A = some ad ∧ w.cell? (ad.add j) = some u) ∧ (∀ u, u ∈ news → u.oneCell' = true) ∧
      (∀ i j, i ≠ j → ∀ b o, G2 i b o → ¬ G2 j b o) ∧ (∀ k b o, G2 k b o → ∃ s', s' ∈ src2 ∧ s' ≠ r ∧ inner C (F s') loc s' b o) ∧ (∀ s, s ∈ src2 → T'.at s ≠ .no) ∧
      ∀ j i el c u, es2[j]? = some el → el[i]? = some c → news[j * sz + i]? = some u → Hold w S Foot.none (G2 (j * sz + i)) u c) :
    Exec P C o rd T (deads (r :: src2) ++ [(d, false, .own e sz (es ++ es2))]) :=
  exec_of (r :: src2) _ hd hdn hdl hdp (fun s hs => by rcases List.mem_cons.1 hs with rfl | hs; exact hrl; exact hsl s hs) fun T' a w S F loc hsm hsim => by
    obtain ⟨e1, _, _, v, e2, _, hh⟩ := ho.get hsm hsim
    obtain ⟨A, cap, news, G2, e3, hnl, hnews, hone2, hGa, hGs, hno2, hi2⟩ := h2 T' a w S F loc hsm hsim
    have hmine : ∀ s b o', inner C (F s) loc s b o' → b < w.heap.size := fun s b o' h => (hsim.mine s b o' h.1).2.2.1
    have hown : ∃ us, w.ownsRow 0 e sz v es.length us ∧ ∀ b, v.ownBlock = some b → ∀ o', inner C (F r) loc r b o' := by
      cases hh with
      | own _ _ _ _ _ _ us G hz hp how hFv hs hG hone hi => exact ⟨us, how, hFv⟩
    obtain ⟨us, how, hFv⟩ := hown
    obtain ⟨v', w', hrun, hr1, hr2, hr3⟩ := append_run (P := P) (ty := o.type) ht he how A es2.length cap _ hnl hnews hone2 hb h63
    have hmv : Agree w w' (spare C w F loc (r :: src2)) := Agree.grown hr2 _ fun b o' h => ⟨h.1, fun e' => h.2 r (by simp) (hFv b e'.symm o')⟩
    refine ⟨v', w', S, fun b o' => (∃ s, s ∈ r :: src2 ∧ inner C (F s) loc s b o') ∨ b = w.heap.size ∧ w.heap.size < w'.heap.size, ?_, ⟨hr2.os, hr2.tape, hr2.output, hr2.size, hmv⟩, fun _ _ h => h, fun _ _ h => .inl h, fun b o' h => ?_, fun s hs => ?_, .inl ?_⟩
    · simp only [execOp, hop, resolve, invoke, builtin, Sem.run_bind, Sem.run_pure, Result.andThen_ok, List.map_toArray, List.map_cons, List.map_nil, e2, e3, hrun]
    · rcases h with h | ⟨rfl, h⟩
      · exact .inl h
      · exact .inr ⟨Nat.le_refl _, h, fun hS => by have := hsim.stay _ _ (.inl hS); omega⟩
    · rcases List.mem_cons.1 hs with rfl | hs
      · rw [e1]; simp
      · exact hno2 s hs
    · refine hh.append (news := news) (fun us' hus' => by rw [owns_unique how hus']; exact ⟨hr1, hr2, hr3⟩) hz2 hone2 G2 hGa (fun j i el c u hel hc hu => (hi2 j i el c u hel hc hu).frame (Agree.grown hr2 _ fun b o' hbo => ?_)) (fun b o' h => .inl ⟨r, by simp, h⟩) (fun k b o' h => ?_) (fun h o' => .inr ⟨rfl, h⟩) (fun b o' h => hmine r b o' h) (fun b o' hS h => (hsim.mine r b o' h.1).1 hS) (fun b o' hS => hsim.stay b o' (.inl hS))
      · rcases hbo with hbo | hbo | hbo
        · exact ⟨hsim.stay b o' (.inl hbo), fun e' => (hsim.mine r b o' (hFv b e'.symm o').1).1 hbo⟩
        · exact hbo.elim
        · obtain ⟨s', hs', hne, hin⟩ := hGs _ _ _ hbo
          exact ⟨hmine s' _ _ hin, fun e' => hsim.apart s' r hne b o' hin.1 (hFv b e'.symm o').1⟩
      · obtain ⟨s', hs', hne, hin⟩ := hGs _ _ _ h
        exact ⟨.inl ⟨s', List.mem_cons_of_mem _ hs', hin⟩, fun hr => hsim.apart s' r hne b o' hin.1 hr.1, hmine s' _ _ hin⟩
/-- append of what another row has: its elements are copied. -/
theorem exec_append (s s2 r t e sz bytes : Nat) (z : Value) (es es2 : List (List V)) (hop : o.op = .call { callee := .builtin .append, args := #[.tmp s, .tmp s2], argTypes := #[t, t] }) (hd : o.dst = some d) (hdn : d < C.nt) (hdl : d < T.length) (hdp : C.pin d = none) (hrl : r < T.length)
    (ht : P.underlying t = some (.slice e)) (he : elemT P e z sz bytes) (ho : Own1 C T rd s r e sz es) (h2 : Rowy C T rd s2 sz es2) (hz2 : ∀ el, el ∈ es2 → el.length = sz) (hf : ∀ el, el ∈ es2 → ∀ c, c ∈ el → c.free = true ∧ c.shr = true) (hb : (es.length + es2.length) * bytes ≤ 140737488355328) (h63 : es.length + es2.length ≤ maxLen) :
    Exec P C o rd T [(r, false, .dead), (d, false, .own e sz (es ++ es2))] :=
  append_core s s2 r t e sz bytes z es es2 [] hop hd hdn hdl hdp hrl ht he ho (fun s hs => by simp at hs) hz2 hb h63 fun T' a w S F loc hsm hsim => by
    obtain ⟨v2, A, cap, e3, hrd⟩ := h2.get hsm hsim
    have hnl := flat_length sz (fun j i => ((A.bind fun ad => w.cell? (ad.add (j * sz + i)))).getD undef) es2 0
    have hc2 : ∀ j i el c, es2[j]? = some el → el[i]? = some c → ∃ ad u, (flat sz (fun j i => ((A.bind fun ad => w.cell? (ad.add (j * sz + i)))).getD undef) es2 0)[j * sz + i]? = some u ∧ A = some ad ∧ w.cell? (ad.add (j * sz + i)) = some u ∧ u.oneCell' = true ∧ (c.free = true → Hold w S C.B Foot.none u c) := fun j i el c hel hc => by
      have hj := (List.getElem?_eq_some_iff.1 hel).1
      have hi : i < sz := by have := (List.getElem?_eq_some_iff.1 hc).1; rw [hz2 el (List.mem_of_getElem? hel)] at this; exact this
      obtain ⟨ad, u, hA, h3, h4, h5⟩ := hrd.cell j i _ _ hel hc
      refine ⟨ad, u, ?_, hA, h3, h4, h5⟩
      rw [flat_get _ _ _ _ _ _ hj hi]
      simp [hA, h3]
    have hcell : ∀ k u, (flat sz (fun j i => ((A.bind fun ad => w.cell? (ad.add (j * sz + i)))).getD undef) es2 0)[k]? = some u → ∃ ad, A = some ad ∧ w.cell? (ad.add k) = some u ∧ u.oneCell' = true := fun k u hu => by
      have hk := (List.getElem?_eq_some_iff.1 hu).1
      rw [hnl] at hk
      obtain ⟨j, i, hj, hi, rfl⟩ := index_split he.2.2 hk
      have hel : es2[j]? = some es2[j] := List.getElem?_eq_getElem hj
      have hlen := hz2 _ (List.mem_of_getElem? hel)
      obtain ⟨ad, u', h3, h4, h5, h6, _⟩ := hc2 j i _ _ hel (List.getElem?_eq_getElem (by omega))
      rw [hu] at h3
      injection h3 with h3
      subst h3
      exact ⟨ad, h4, h5, h6⟩
    refine ⟨A, cap, _, fun _ => Foot.none, e3.trans hrd.eq, hnl, fun k u hu => ?_, fun u hu => ?_, fun _ _ _ _ _ h => h.elim, fun _ _ _ h => h.elim, fun s hs => by simp at hs, fun j i el c u hel hc hu => ?_⟩
    · obtain ⟨ad, h4, h5, _⟩ := hcell k u hu
      exact ⟨ad, h4, h5⟩
    · obtain ⟨k, hk⟩ := List.getElem?_of_mem hu
      obtain ⟨_, _, _, h⟩ := hcell k u hk
      exact h
    · obtain ⟨ad, u', h3, _, _, _, h7⟩ := hc2 j i el c hel hc
      rw [hu] at h3
      injection h3 with h3
      subst h3
      obtain ⟨f1, f2⟩ := hf el (List.mem_of_getElem? hel) c (List.mem_of_getElem? hc)
      exact (h7 f1).unborrow f2
/-- append of what a row of one's own has: it is used up. -/
theorem exec_append_take (s s2 r r2 t e sz bytes : Nat) (z : Value) (es es2 : List (List V)) (hop : o.op = .call { callee := .builtin .append, args := #[.tmp s, .tmp s2], argTypes := #[t, t] }) (hd : o.dst = some d) (hdn : d < C.nt) (hdl : d < T.length) (hdp : C.pin d = none) (hrl : r < T.length) (hr2l : r2 < T.length) (hne : r2 ≠ r)
    (ht : P.underlying t = some (.slice e)) (he : elemT P e z sz bytes) (ho : Own1 C T rd s r e sz es) (h2 : Own1 C T rd s2 r2 e sz es2) (hz2 : ∀ el, el ∈ es2 → el.length = sz) (hb : (es.length + es2.length) * bytes ≤ 140737488355328) (h63 : es.length + es2.length ≤ maxLen) :
    Exec P C o rd T [(r, false, .dead), (r2, false, .dead), (d, false, .own e sz (es ++ es2))] :=
  append_core s s2 r t e sz bytes z es es2 [r2] hop hd hdn hdl hdp hrl ht he ho (fun s hs => by simp at hs; omega) hz2 hb h63 fun T' a w S F loc hsm hsim => by
    obtain ⟨e1, _, _, v2, e2, _, hh⟩ := h2.get hsm hsim
    cases hh with
    | own _ _ _ _ _ _ us G hz hp how hFv hs hG hone hi =>
      have hvs : ∃ A cap, v2 = .slice A es2.length cap ∧ ∀ j u, us[j]? = some u → ∃ ad, A = some ad ∧ w.cell? (ad.add j) = some u := by
        rcases how.2 with ⟨rfl, h0⟩ | ⟨g, cp, cur, rfl, _, hg, _, _, _, ht1⟩
        · refine ⟨none, 0, by rw [h0], fun j u hu => ?_⟩
          have : us = [] := List.eq_nil_of_length_eq_zero (by rw [how.1, h0]; simp)
          rw [this] at hu
          simp at hu
        · exact ⟨_, _, rfl, fun j u hu => ⟨_, rfl, how.cells (g := g) rfl j u hu⟩⟩
      obtain ⟨A, cap, rfl, hcl⟩ := hvs
      exact ⟨A, cap, us, G, e2, how.1, hcl, hone, hs.apart, fun k b o' h => ⟨r2, by simp, hne, hs.sub k b o' h⟩, fun s hs => by simp at hs; subst hs; rw [e1]; simp, hi⟩
end
end Go.Proofs.Ytepeoiimdefnpaa.Vm
namespace Go.Proofs.Ytepeoiimdefnpaa.Vm
open Go
/-- The group that a box's slot lies in. -/
def baseOf : List (Nat × Nat) → Nat → Nat
  | [], s => s
  | q :: g, s => if q.1 ≤ s ∧ s < q.1 + q.2 then q.1 else baseOf g s
theorem baseOf_in {g : List (Nat × Nat)} {k n s : Nat} (h : ∀ q, q ∈ g → q = (k, n) ∨ q.1 < k ∨ k + n ≤ q.1) (h1 : k ≤ baseOf g s) (h2 : baseOf g s < k + n) : k ≤ s ∧ s < k + n := by
  induction g with
  | nil => exact ⟨h1, h2⟩
  | cons q g ih =>
    simp only [baseOf] at h1 h2
    split at h1
    · rename_i hq
      rw [if_pos hq] at h2
      rcases h q (by simp) with rfl | h3 | h3
      · exact hq
      · omega
      · omega
    · rename_i hq
      rw [if_neg hq] at h2
      exact ih (fun q hq => h q (by simp [hq])) h1 h2
section
variable {P : Program} {C : Ctx} {T T' : St} {a : Act} {w : World} {S : Foot} {F : Nat → Foot} {loc : Nat → Addr} {rd : List Nat} {o : Oper} {d : Nat}
/-- A box is made: its cells are slots. -/
theorem SimB.allocBox (h : SimB C T a w S F loc) (src : List Nat) (d k : Nat) (cs : List V) (us : Array Value) (t : Nat) (Gx : Nat → Foot) (hd : d < C.nt) (hk : C.nt ≤ k) (hdl : d < T.length) (hdp : C.pin d = none) (hlen : us.size = cs.length) (hkl : k + cs.length ≤ T.length) (hpos : 0 < cs.length)
    (hno : ∀ j, j < cs.length → T.at (k + j) = .no ∧ C.base (k + j) = k) (hgrp : ∀ s, k ≤ C.base s → C.base s < k + cs.length → k ≤ s ∧ s < k + cs.length) (h1 : ∀ u, u ∈ us.toList → u.oneCell' = true)
    (hG : ∀ j b o, Gx j b o → ∃ s, s ∈ src ∧ inner C (F s) loc s b o) (hGa : ∀ i j, i ≠ j → ∀ b o, Gx i b o → ¬ Gx j b o) (hsrc : ∀ s, s ∈ src → s < T.length ∧ T.at s ≠ .no ∧ s ≠ d)
    (hx : ∀ j u c, us[j]? = some u → cs[j]? = some c → Hold w S C.B (Gx j) u c) :
    Sim C (T.app (deads src ++ stores k cs ++ [(d, false, .at_ k)])) (a.put (some d) (.pointer (some ⟨w.heap.size, 0, none⟩))) (w.alloc (.cells us t)) := by
  have hdk : ¬ (k ≤ d ∧ d < k + cs.length) := fun e => by omega
  have hW : ∀ s, s ∈ (deads src ++ stores k cs ++ [(d, false, V.at_ k)]).map (·.1) ↔ s ∈ src ∨ (k ≤ s ∧ s < k + cs.length) ∨ s = d := fun s => by
    rw [List.map_append, List.map_append, List.mem_append, List.mem_append, stores_fst]
    have : (deads src).map (·.1) = src := by simp [deads, Function.comp_def]
    rw [this]
    simp only [List.mem_map, List.mem_range, List.map_cons, List.map_nil, List.mem_singleton, or_assoc]
    constructor
    · rintro (h | ⟨j, hj, rfl⟩ | h)
      · exact .inl h
      · exact .inr (.inl (by omega))
      · exact .inr (.inr h)
    · rintro (h | h | h)
      · exact .inl h
      · exact .inr (.inl ⟨s - k, by omega, by omega⟩)
      · exact .inr (.inr h)
  have hatd : (T.app (deads src ++ stores k cs ++ [(d, false, V.at_ k)])).at d = .at_ k := St.at_last T _ d false _ hdl
  have hatk : ∀ j c, cs[j]? = some c → (T.app (deads src ++ stores k cs ++ [(d, false, V.at_ k)])).at (k + j) = c := fun j c hc => by
    have hj := (List.getElem?_eq_some_iff.1 hc).1
    rw [St.at_mid T _ _ _ _ _ (by omega : d ≠ k + j), St.app_append]
    exact St.at_stores _ k cs j c hc (by rw [St.length_app]; exact hkl)
  have hsk : ∀ s, s ∈ src → ¬ (k ≤ s ∧ s < k + cs.length) := fun s hs e => (hsrc s hs).2.1 (by have := (hno (s - k) (by omega)).1; rwa [show k + (s - k) = s by omega] at this)
  have hats : ∀ s, s ∈ src → (T.app (deads src ++ stores k cs ++ [(d, false, V.at_ k)])).at s = .dead := fun s hs => by
    rw [St.at_mid T _ _ _ _ _ (Ne.symm (hsrc s hs).2.2), St.app_append]
    have := St.app_not (T.app (deads src)) (stores k cs) s (by rw [stores_fst]; simp; intro x hx e; exact hsk s hs (by omega))
    have h2 := St.at_deads T src s hs (hsrc s hs).1
    unfold St.at at h2 ⊢
    rw [this]
    exact h2
  have hnot : ∀ s, s ∉ (deads src ++ stores k cs ++ [(d, false, V.at_ k)]).map (·.1) → (T.app (deads src ++ stores k cs ++ [(d, false, V.at_ k)])).getD s (0, .no) = T.getD s (0, .no) := fun s hs => St.app_not T _ s hs
  have hgl : ∀ s, s ∈ (deads src ++ stores k cs ++ [(d, false, V.at_ k)]).map (·.1) → T.gen s < St.gen (T.app (deads src ++ stores k cs ++ [(d, false, V.at_ k)])) s := fun s hs => by
    rcases (hW s).1 hs with hs | hs | rfl
    · exact St.gen_lt T _ s (hsrc s hs).1 ⟨.dead, by simp [deads, hs]⟩
    · obtain ⟨x, hx⟩ := mem_stores k cs (s - k) (by omega)
      rw [show k + (s - k) = s by omega] at hx
      exact St.gen_lt T _ _ (by omega) ⟨x, by simp [hx]⟩
    · exact St.gen_lt T _ _ hdl ⟨.at_ k, by simp⟩
  have hcget : ∀ j, j < cs.length → ∃ c u, cs[j]? = some c ∧ us[j]? = some u := fun j hj => ⟨_, _, List.getElem?_eq_getElem hj, Array.getElem?_eq_getElem (by omega)⟩
  have hcno : ∀ (j : Nat) (c : V), cs[j]? = some c → c ≠ .no ∧ (∀ i, c ≠ .at_ i) ∧ c.root = none := fun j c hc => by
    have hj := (List.getElem?_eq_some_iff.1 hc).1
    obtain ⟨c', u, hc', hu⟩ := hcget j hj
    rw [hc] at hc'
    injection hc' with hc'
    subst hc'
    have := hx j u _ hu hc
    cases this <;> exact ⟨by simp, fun _ => by simp, rfl⟩
  have hal : ∀ s, T.at s ≠ .no → ¬ (k ≤ s ∧ s < k + cs.length) := fun s hs e => hs (by have := (hno (s - k) (by omega)).1; rwa [show k + (s - k) = s by omega] at this)
  have hatn : ∀ s, T.at s ≠ .no → (T.app (deads src ++ stores k cs ++ [(d, false, V.at_ k)])).at s ≠ .no := fun s hs => by
    by_cases hw : s ∈ (deads src ++ stores k cs ++ [(d, false, V.at_ k)]).map (·.1)
    · rcases (hW s).1 hw with hw | hw | rfl
      · rw [hats s hw]; simp
      · exact absurd hw (hal s hs)
      · rw [hatd]; simp
    · have := hnot s hw
      unfold St.at
      rw [this]
      exact hs
  have hold : ∀ b, b < w.heap.size → (w.alloc (.cells us t)).heap[b]? = w.heap[b]? := fun b hb => RowKit.Below.heap_alloc w _ b hb
  have hcell : ∀ s, C.nt ≤ s → T.at s ≠ .no → (w.alloc (.cells us t)).cell? (loc s) = w.cell? (loc s) ∧ (w.alloc (.cells us t)).frozen? (loc s) = w.frozen? (loc s) := fun s hs hns => by
    have := (h.mine s _ _ (h.cells s hs hns).1).2.2.1
    exact ⟨World.cell?_of_block (hold _ this), World.frozen?_of_block (hold _ this)⟩
  have hmine : ∀ s b o, F s b o → ¬ S b o ∧ ¬ C.B b o ∧ b < (w.alloc (.cells us t)).heap.size ∧ (C.w0.heap.size ≤ b ∨ C.may b o) := fun s b o hf => by
    obtain ⟨h2, h3, h4, h5⟩ := h.mine s b o hf
    exact ⟨h2, h3, by simp; omega, h5⟩
  have hlock : ∀ j, j < cs.length → (if k ≤ k + j ∧ k + j < k + cs.length then (⟨w.heap.size, k + j - k, none⟩ : Addr) else loc (k + j)) = ⟨w.heap.size, j, none⟩ := fun j hj => by
    rw [if_pos (by omega)]
    congr 1
    omega
  have hlo : ∀ s, T.at s ≠ .no → (if k ≤ s ∧ s < k + cs.length then (⟨w.heap.size, s - k, none⟩ : Addr) else loc s) = loc s := fun s hs => if_neg (hal s hs)
  refine ⟨S, fun s => if s = d then Foot.none else if s ∈ src then (fun b o => C.nt ≤ s ∧ b = (loc s).block ∧ o = (loc s).off) else if k ≤ s ∧ s < k + cs.length then (fun b o => (b = w.heap.size ∧ o = s - k) ∨ Gx (s - k) b o) else F s,
    fun s => if k ≤ s ∧ s < k + cs.length then ⟨w.heap.size, s - k, none⟩ else loc s,
    h.upd ((deads src ++ stores k cs ++ [(d, false, V.at_ k)]).map (·.1)) hnot (by simp [Act.put]) (by simpa [Act.put] using h.defers) (fun s v hv => by
      rw [put_get (fun e => by rw [← e, hdp] at hv; cases hv)]
      exact h.pins s v hv) ⟨rfl, rfl, rfl, by simp, Agree.alloc w _ _ fun b o hA => hA.1⟩ (fun _ _ h => h) (fun _ _ h => .inl h) (fun s hs => ?_) (fun s hs => ⟨hlo s hs, hatn s hs⟩) (fun s hns hs hx' => ?_) (fun s hs _ => put_get fun e => hs ((hW s).2 (.inr (.inr e.symm))))
    (fun r hr he _ => absurd he (by have := hgl r hr; omega)) (fun r hr => Nat.le_of_lt (hgl r hr)) (fun s t' hs hst b o hb hb' => ?_) (fun s hs b o hb => ?_) (fun s hs r g hr => ?_) (fun s hs => ?_) (fun s hs hns hx' => ?_) (h.nodeep hnot hgl fun s hs => ?_)⟩
  · have hs' := fun hh => hs ((hW s).2 hh)
    have e1 : s ≠ d := fun e => hs' (.inr (.inr e))
    have e2 : s ∉ src := fun e => hs' (.inl e)
    have e3 : ¬ (k ≤ s ∧ s < k + cs.length) := fun e => hs' (.inr (.inl e))
    simp [e1, e2, e3]
  · refine if_neg fun e => ?_
    exact hal s hx' (hgrp s e.1 e.2)
  · have part : ∀ s b o, (if s = d then Foot.none else if s ∈ src then (fun b o => C.nt ≤ s ∧ b = (loc s).block ∧ o = (loc s).off) else if k ≤ s ∧ s < k + cs.length then (fun b o => (b = w.heap.size ∧ o = s - k) ∨ Gx (s - k) b o) else F s : Foot) b o →
        (F s b o ∧ ∀ t, t ∈ src → ¬ inner C (F t) loc t b o) ∨ (k ≤ s ∧ s < k + cs.length ∧ (b = w.heap.size ∧ o = s - k ∨ Gx (s - k) b o)) := by
      intro s b o hb
      by_cases h0 : s = d
      · rw [if_pos h0] at hb; exact hb.elim
      rw [if_neg h0] at hb
      by_cases h2 : s ∈ src
      · rw [if_pos h2] at hb
        obtain ⟨hs, rfl, rfl⟩ := hb
        have h3 := (h.cells s hs (hsrc s h2).2.1).1
        refine .inl ⟨h3, fun t _ hi => ?_⟩
        by_cases hst : s = t
        · subst hst; exact hi.2 ⟨hs, rfl, rfl⟩
        · exact h.apart s t hst _ _ h3 hi.1
      · rw [if_neg h2] at hb
        by_cases h3 : k ≤ s ∧ s < k + cs.length
        · rw [if_pos h3] at hb
          exact .inr ⟨h3.1, h3.2, hb⟩
        · rw [if_neg h3] at hb
          exact .inl ⟨hb, fun t ht hi => h.apart s t (fun e => h2 (e ▸ ht)) _ _ hb hi.1⟩
    have lt : ∀ s b o, F s b o → b ≠ w.heap.size := fun s b o hf e => by have := (h.mine s b o hf).2.2.1; omega
    rcases part s b o hb with ⟨p1, p2⟩ | ⟨p1, p2, p3⟩ <;> rcases part t' b o hb' with ⟨q1, q2⟩ | ⟨q1, q2, q3⟩
    · exact h.apart s t' hst _ _ p1 q1
    · rcases q3 with ⟨rfl, _⟩ | q3
      · exact lt _ _ _ p1 rfl
      · obtain ⟨s', hs', hi⟩ := hG _ _ _ q3
        exact p2 s' hs' hi
    · rcases p3 with ⟨rfl, _⟩ | p3
      · exact lt _ _ _ q1 rfl
      · obtain ⟨s', hs', hi⟩ := hG _ _ _ p3
        exact q2 s' hs' hi
    · rcases p3 with ⟨rfl, rfl⟩ | p3 <;> rcases q3 with ⟨e1, e2⟩ | q3
      · omega
      · obtain ⟨s', _, hi⟩ := hG _ _ _ q3
        exact lt _ _ _ hi.1 rfl
      · obtain ⟨s', _, hi⟩ := hG _ _ _ p3
        exact lt _ _ _ hi.1 e1
      · exact hGa (s - k) (t' - k) (by omega) _ _ p3 q3
  · by_cases h0 : s = d
    · rw [if_pos h0] at hb; exact hb.elim
    rw [if_neg h0] at hb
    by_cases h2 : s ∈ src
    · rw [if_pos h2] at hb
      obtain ⟨hns, rfl, rfl⟩ := hb
      exact hmine s _ _ (h.cells s hns (hsrc s h2).2.1).1
    · rw [if_neg h2] at hb
      by_cases h3 : k ≤ s ∧ s < k + cs.length
      · rw [if_pos h3] at hb
        rcases hb with ⟨rfl, rfl⟩ | hb
        · exact ⟨fun hS => by have := h.stay _ _ (.inl hS); omega, fun hB => by have := h.stay _ _ (.inr hB); omega, by simp, .inl h.world.size⟩
        · obtain ⟨s', _, hi⟩ := hG _ _ _ hb
          exact hmine s' _ _ hi.1
      · rw [if_neg h3] at hb
        exact hmine s _ _ hb
  · rcases (hW s).1 hs with hs | hs | rfl
    · rw [hats s hs] at hr; simp [V.root] at hr
    · obtain ⟨c, u, hc, hu⟩ := hcget (s - k) (by omega)
      have := hatk _ c hc
      rw [show k + (s - k) = s by omega] at this
      rw [this, (hcno _ c hc).2.2] at hr
      simp at hr
    · rw [hatd] at hr; simp [V.root] at hr
  · rcases (hW s).1 hs with hs | hs | rfl
    · rw [hats s hs]
      have hsd := (hsrc s hs).2.2
      have hv : ∃ v, conc C (a.put (some d) (.pointer (some ⟨w.heap.size, 0, none⟩))) (w.alloc (.cells us t)) (fun s => if k ≤ s ∧ s < k + cs.length then ⟨w.heap.size, s - k, none⟩ else loc s) s = some v := by
        unfold conc
        split
        · rename_i hlt
          rw [put_get (Ne.symm hsd)]
          exact ⟨_, Array.getElem?_eq_getElem (by rw [h.size]; exact hlt)⟩
        · rename_i hns
          obtain ⟨_, _, ⟨u, hu, _⟩, _⟩ := h.cells s (by omega) (hsrc s hs).2.1
          refine ⟨u, ?_⟩
          show (w.alloc (.cells us t)).cell? (if _ then _ else _) = _
          rw [hlo s (hsrc s hs).2.1, (hcell s (by omega) (hsrc s hs).2.1).1]
          exact hu
      obtain ⟨v, hv⟩ := hv
      exact SlotOk.plain ⟨v, hv, .dead _ _ _⟩
    · obtain ⟨j, rfl⟩ : ∃ j, s = k + j := ⟨s - k, by omega⟩
      have hj : j < cs.length := by omega
      obtain ⟨c, u, hc, hu⟩ := hcget j hj
      rw [hatk j c hc]
      have hns : k + j ∉ src := fun e => hsk _ e ⟨by omega, by omega⟩
      refine SlotOk.plain ⟨u, ?_, ?_⟩
      · unfold conc
        rw [if_neg (by omega)]
        show (w.alloc (.cells us t)).cell? (if _ then _ else _) = _
        rw [hlock j hj, World.cell?_alloc_new, hu]
      · refine ((hx j u c hu hc).frame (Agree.alloc w _ _ fun b o hA => ?_)).mono (fun _ _ h => h) (fun _ _ h => h) fun b o hg => ⟨?_, fun hcl => ?_⟩
        · rcases hA with hA | hA | hA
          · exact h.stay b o (.inl hA)
          · exact h.stay b o (.inr hA)
          · obtain ⟨s', _, hi⟩ := hG _ _ _ hA
            exact (h.mine s' _ _ hi.1).2.2.1
        · rw [if_neg (by omega), if_neg hns, if_pos (by omega)]
          exact .inr (by rw [show k + j - k = j by omega]; exact hg)
        · simp only [hlock j hj] at hcl
          obtain ⟨_, rfl, rfl⟩ := hcl
          obtain ⟨s', _, hi⟩ := hG _ _ _ hg
          have := (h.mine s' _ _ hi.1).2.2.1
          omega
    · rw [hatd]
      refine ⟨?_, hk, ?_⟩
      · unfold conc
        rw [if_pos hd, put_self (by rw [h.size]; exact hd)]
        have := hlock 0 hpos
        simp only [Nat.add_zero] at this
        show _ = some (Value.pointer (some (if _ then _ else _)))
        rw [this]
      · obtain ⟨c, u, hc, _⟩ := hcget 0 hpos
        have := hatk 0 c hc
        rw [Nat.add_zero] at this
        rw [this]
        exact (hcno 0 c hc).1
  · rcases (hW s).1 hs with hs | hs | rfl
    · obtain ⟨e1, e2, ⟨u, e3, e3'⟩, e4⟩ := h.cells s hns (hsrc s hs).2.1
      have hl := hlo s (hsrc s hs).2.1
      have hb : (if k ≤ C.base s ∧ C.base s < k + cs.length then (⟨w.heap.size, C.base s - k, none⟩ : Addr) else loc (C.base s)) = loc (C.base s) := if_neg fun e => hal s (hsrc s hs).2.1 (hgrp s e.1 e.2)
      simp only [hl, hb]
      exact ⟨by rw [if_neg (hsrc s hs).2.2, if_pos hs]; exact ⟨hns, rfl, rfl⟩, (hcell s hns (hsrc s hs).2.1).2.trans e2, ⟨u, (hcell s hns (hsrc s hs).2.1).1.trans e3, e3'⟩, e4⟩
    · obtain ⟨j, rfl⟩ : ∃ j, s = k + j := ⟨s - k, by omega⟩
      have hj : j < cs.length := by omega
      obtain ⟨c, u, hc, hu⟩ := hcget j hj
      have hns' : k + j ∉ src := fun e => hsk _ e ⟨by omega, by omega⟩
      have h0 := hlock 0 hpos
      simp only [Nat.add_zero] at h0
      simp only [hlock j hj, (hno j hj).2, h0]
      refine ⟨by rw [if_neg (by omega), if_neg hns', if_pos (by omega)]; exact .inl ⟨rfl, by omega⟩, World.frozen?_alloc_new .., ⟨u, ?_, h1 u (List.mem_of_getElem? (by rw [Array.getElem?_toList]; exact hu))⟩, by congr 1; omega⟩
      rw [World.cell?_alloc_new, hu]
    · omega
  · rcases (hW s).1 hs with hs | hs | rfl
    · rw [hats s hs]; rfl
    · obtain ⟨c, u, hc, hu⟩ := hcget (s - k) (by omega)
      have := hatk _ c hc
      rw [show k + (s - k) = s by omega] at this
      rw [this]
      exact V.not_deep (hcno _ c hc).2.2
    · rw [hatd]; rfl
end
end Go.Proofs.Ytepeoiimdefnpaa.Vm
namespace Go.Proofs.Ytepeoiimdefnpaa.Vm
open Go
theorem owns_nil (w : World) (E sz : Nat) : w.ownsRow 0 E sz (.slice none 0 0) 0 [] := ⟨by simp, .inl ⟨rfl, rfl⟩⟩
theorem Hold.nil_own (w : World) (S B : Foot) (F : Foot) (E sz : Nat) (h : 0 < sz) : Hold w S B F (.slice none 0 0) (.own E sz []) :=
  .own _ _ E sz _ [] [] (fun _ => Foot.none) (by simp) h (owns_nil w E sz) (fun b hb => by simp [Value.ownBlock] at hb) (Split.none _) (fun _ _ _ _ h => h.elim) (by simp) fun j i e c u he => by simp at he
theorem Hold.nil_row (w : World) (S B : Foot) (F : Foot) (b : Bool) (sz : Nat) : Hold w S B F (.slice none 0 0) (.row b sz []) := by
  have := Hold.row (w := w) (S := S) B F b sz [] none 0 (fun _ => undef) (by simp) (by simp) (by simp) (by simp) (fun a j i e c _ he => by simp at he) fun j i e c he => by simp at he
  simpa using this
/-- What a literal value is. -/
def lit : Value → V → Prop
  | v, .sc u => v = u
  | .slice none 0 0, .own _ sz [] => 0 < sz
  | .slice none 0 0, .row _ _ [] => True
  | _, .dead => True
  | _, _ => False
theorem lit.hold {v : Value} {x : V} (h : lit v x) (w : World) (S B : Foot) (F : Foot) : Hold w S B F v x := by
  unfold lit at h
  split at h
  · subst h; exact .sc ..
  · exact .nil_own _ _ _ _ _ _ h
  · exact .nil_row ..
  · exact .dead ..
  · exact h.elim
/-- A literal's cells. -/
def lits : List Value → List V → Prop
  | [], [] => True
  | v :: vs, x :: xs => lit v x ∧ v.oneCell' = true ∧ lits vs xs
  | _, _ => False
theorem lits.get {vs : List Value} {xs : List V} (h : lits vs xs) : vs.length = xs.length ∧ ∀ (j : Nat) (u : Value) (c : V), vs[j]? = some u → xs[j]? = some c → lit u c ∧ u.oneCell' = true := by
  induction vs generalizing xs with
  | nil => cases xs with
    | nil => exact ⟨rfl, fun j u c hu => by simp at hu⟩
    | cons => exact h.elim
  | cons v vs ih => cases xs with
    | nil => exact h.elim
    | cons x xs =>
      obtain ⟨h1, h2, h3⟩ := h
      obtain ⟨h4, h5⟩ := ih h3
      refine ⟨by simp [h4], fun j u c hu hc => ?_⟩
      cases j with
      | zero => simp at hu hc; subst hu hc; exact ⟨h1, h2⟩
      | succ j => exact h5 j u c (by simpa using hu) (by simpa using hc)
section
variable {P : Program} {C : Ctx} {T T' : St} {a : Act} {w : World} {S : Foot} {F : Nat → Foot} {loc : Nat → Addr} {rd : List Nat} {o : Oper} {d : Nat}
/-- A literal is laid into a slot. -/
theorem exec_lit (v : Value) (x : V) (hop : o.op = .move (.const v) ∨ o.op = .assign (.const v)) (hd : o.dst = some d) (hdn : d < C.nt) (hdl : d < T.length) (hdp : C.pin d = none) (hl : lit v x) : Exec P C o rd T [(d, false, x)] :=
  exec_free x hd hdn hdl hdp fun T' a w S F loc hsm hsim => ⟨v, by rcases hop with hop | hop <;> simp [execOp, hop, pure, Act.eval], hl.hold _ _ _ _⟩
/-- A variable's box: with its type's zero value. -/
theorem exec_alloc (t k : Nat) (z : Value) (cs : List V) (hop : o.op = .alloc t) (hd : o.dst = some d) (hdn : d < C.nt) (hdl : d < T.length) (hdp : C.pin d = none) (hz : (P.info? t).bind (·.zero) = some z) (hl : lits z.cells.toList cs) (hk : C.nt ≤ k) (hkl : k + cs.length ≤ T.length) (hpos : 0 < cs.length)
    (hno : ∀ j, j < cs.length → k + j ∈ rd ∧ T.at (k + j) = .no ∧ C.base (k + j) = k) (hgrp : ∀ s, k ≤ C.base s → C.base s < k + cs.length → k ≤ s ∧ s < k + cs.length) : Exec P C o rd T (stores k cs ++ [(d, false, .at_ k)]) := by
  intro T' a w hsm ⟨S, F, loc, hsim⟩ Q K hK
  obtain ⟨i, hi, hz'⟩ := Option.bind_eq_some_iff.1 hz
  obtain ⟨h1, h2⟩ := hl.get
  have hr : (execOp a.eval o).run P w = .ok (.value (.pointer (some ⟨w.heap.size, 0, none⟩))) (w.alloc (.cells z.cells t)) := by
    simp [execOp, hop, Instr.alloc, zeroValue, typeInfo, hi, hz', newVar, newRow, newObj]; rfl
  unfold Oper.wp
  rw [hr]
  show K (a.put o.dst _) _
  rw [hd]
  refine hK _ _ (hsim.allocBox [] d k cs z.cells t (fun _ => Foot.none) hdn hk (by rw [hsm.1]; exact hdl) hdp (by simpa using h1) (by rw [hsm.1]; exact hkl) hpos (fun j hj => ⟨by rw [hsm.at_ (hno j hj).1]; exact (hno j hj).2.1, (hno j hj).2.2⟩) hgrp (fun u hu => ?_) (fun _ _ _ h => h.elim) (fun _ _ _ _ _ h => h.elim) (fun s hs => by simp at hs) fun j u c hu hc => ?_)
  · obtain ⟨j, hj⟩ := List.getElem?_of_mem hu
    have hjl := (List.getElem?_eq_some_iff.1 hj).1
    exact (h2 j u _ hj (List.getElem?_eq_getElem (by omega))).2
  · exact (h2 j u c (by rw [Array.getElem?_toList]; exact hu) hc).1.hold _ _ _ _
/-- A value is boxed. -/
theorem exec_box (t k : Nat) (y : Operand) (x : V) (src : List Nat) (hop : o.op = .box t y) (hd : o.dst = some d) (hdn : d < C.nt) (hdl : d < T.length) (hdp : C.pin d = none) (hy : opV C T rd x src y) (hok : x.okc = true) (hk : C.nt ≤ k) (hkl : k + x.cells.length ≤ T.length) (hpos : 0 < x.cells.length)
    (hno : ∀ j, j < x.cells.length → k + j ∈ rd ∧ T.at (k + j) = .no ∧ C.base (k + j) = k) (hgrp : ∀ s, k ≤ C.base s → C.base s < k + x.cells.length → k ≤ s ∧ s < k + x.cells.length) (hsrc : ∀ s, s ∈ src → s < T.length ∧ s ≠ d) : Exec P C o rd T (deads src ++ stores k x.cells ++ [(d, false, .at_ k)]) := by
  intro T' a w hsm ⟨S, F, loc, hsim⟩ Q K hK
  obtain ⟨G, hh, hG, hns⟩ := opV_get hy hsm hsim
  obtain ⟨hlen, G', hs', hi⟩ := hh.cells hok
  have hr : (execOp a.eval o).run P w = .ok (.value (.pointer (some ⟨w.heap.size, 0, none⟩))) (w.alloc (.cells (a.eval y).cells t)) := by
    simp [execOp, hop, Instr.box, newVar, newRow, newObj]; rfl
  unfold Oper.wp
  rw [hr]
  show K (a.put o.dst _) _
  rw [hd]
  refine hK _ _ (hsim.allocBox src d k x.cells (a.eval y).cells t G' hdn hk (by rw [hsm.1]; exact hdl) hdp hlen (by rw [hsm.1]; exact hkl) hpos (fun j hj => ⟨by rw [hsm.at_ (hno j hj).1]; exact (hno j hj).2.1, (hno j hj).2.2⟩) hgrp (fun u hu => ?_) (fun j b o' h => hG b o' (hs'.sub j b o' h)) (fun i j hij b o' => hs'.apart i j hij b o') (fun s hs => ⟨by rw [hsm.1]; exact (hsrc s hs).1, hns s hs, (hsrc s hs).2⟩) fun j u c hu hc => (hi j u c hu hc).2)
  obtain ⟨j, hj⟩ := List.getElem?_of_mem hu
  rw [Array.getElem?_toList] at hj
  have hjl := (Array.getElem?_eq_some_iff.1 hj).1
  exact (hi j u _ hj (List.getElem?_eq_getElem (by omega))).1
end
end Go.Proofs.Ytepeoiimdefnpaa.Vm
namespace Go.Proofs.Ytepeoiimdefnpaa.Vm
open Go
/-- Cells laid over cells. -/
def lay (cs : List V) (off : Nat) : List V → List V
  | [] => cs
  | x :: xs => lay (cs.set off x) (off + 1) xs
theorem lay_length (cs : List V) (off : Nat) (xs : List V) : (lay cs off xs).length = cs.length := by
  induction xs generalizing cs off with
  | nil => rfl
  | cons x xs ih => simp only [lay, ih, List.length_set]
theorem lay_get (cs : List V) (off : Nat) (xs : List V) (h : off + xs.length ≤ cs.length) (i : Nat) : (lay cs off xs)[i]? = if off ≤ i ∧ i < off + xs.length then xs[i - off]? else cs[i]? := by
  induction xs generalizing cs off with
  | nil => simp only [lay, List.length_nil, Nat.add_zero]; rw [if_neg (by omega)]
  | cons x xs ih =>
    simp only [List.length_cons] at h
    simp only [lay, List.length_cons]
    rw [ih _ _ (by simp; omega)]
    by_cases h1 : off + 1 ≤ i ∧ i < off + 1 + xs.length
    · rw [if_pos h1, if_pos (by omega), show i - off = (i - (off + 1)) + 1 by omega]
      rfl
    · rw [if_neg h1]
      by_cases h2 : i = off
      · subst h2
        rw [if_pos (by omega), List.getElem?_set_self (by omega)]
        simp
      · rw [if_neg (by omega), List.getElem?_set_ne (by omega)]
/-- The same of values. -/
theorem fold_get (off : Nat) (us : List Value) (k : Nat) (vs : Array Value) (h : off + k + us.length ≤ vs.size) :
    ((us.zipIdx k).foldl (fun cs (p : Value × Nat) => cs.setIfInBounds (off + p.2) p.1) vs).size = vs.size ∧ ∀ i, ((us.zipIdx k).foldl (fun cs (p : Value × Nat) => cs.setIfInBounds (off + p.2) p.1) vs)[i]? = if off + k ≤ i ∧ i < off + k + us.length then us[i - (off + k)]? else vs[i]? := by
  induction us generalizing vs k with
  | nil => exact ⟨rfl, fun i => by simp only [List.zipIdx_nil, List.foldl_nil, List.length_nil, Nat.add_zero]; rw [if_neg (by omega)]⟩
  | cons u us ih =>
    simp only [List.length_cons] at h
    simp only [List.zipIdx_cons, List.foldl_cons, List.length_cons]
    obtain ⟨h1, h2⟩ := ih (k + 1) (vs.setIfInBounds (off + k) u) (by simp; omega)
    refine ⟨by simpa using h1, fun i => ?_⟩
    rw [h2]
    by_cases h3 : off + (k + 1) ≤ i ∧ i < off + (k + 1) + us.length
    · rw [if_pos h3, if_pos (by omega), show i - (off + k) = (i - (off + (k + 1))) + 1 by omega]
      rfl
    · rw [if_neg h3]
      by_cases h4 : i = off + k
      · subst h4
        rw [if_pos (by omega)]
        simp [Array.getElem?_setIfInBounds_self_of_lt (by omega : off + k < vs.size)]
      · rw [if_neg (by omega), Array.getElem?_setIfInBounds_ne (by omega)]
/-- Cells that are held. -/
def CellsHold (w : World) (S B : Foot) (vs : Array Value) (cs : List V) (Fx : Foot) : Prop :=
  vs.size = cs.length ∧ ∃ G, Split Fx G ∧ ∀ (j : Nat) (u : Value) (c : V), vs[j]? = some u → cs[j]? = some c → u.oneCell' = true ∧ Hold w S B (G j) u c
theorem CellsHold.lay {w : World} {S B : Foot} {vs : Array Value} {cs : List V} {Fx Fp : Foot} {v : Value} {x : V} {off : Nat} (h : CellsHold w S B vs cs Fx) (hx : Hold w S B Fp v x) (hok : x.okc = true) (hd : ∀ b o, Fp b o → ¬ Fx b o) (hoff : off + x.cells.length ≤ cs.length) :
    CellsHold w S B (v.cells.zipIdx.foldl (fun cs (p : Value × Nat) => cs.setIfInBounds (off + p.2) p.1) vs) (lay cs off x.cells) (fun b o => Fx b o ∨ Fp b o) := by
  obtain ⟨hn, G, hs, hi⟩ := h
  obtain ⟨hvl, G', hs', hi'⟩ := hx.cells hok
  have hf := fold_get off v.cells.toList 0 vs (by simp; omega)
  have e : v.cells.zipIdx.foldl (fun cs (p : Value × Nat) => cs.setIfInBounds (off + p.2) p.1) vs = (v.cells.toList.zipIdx 0).foldl (fun cs (p : Value × Nat) => cs.setIfInBounds (off + p.2) p.1) vs := by
    rw [← Array.foldl_toList, Array.toList_zipIdx]
  rw [e]
  obtain ⟨h1, h2⟩ := hf
  simp only [Nat.add_zero, Array.length_toList, Array.getElem?_toList] at h2
  refine ⟨by rw [h1, lay_length]; exact hn, fun j => if off ≤ j ∧ j < off + x.cells.length then G' (j - off) else G j, ⟨fun j b o hg => ?_, fun i j hij b o hg hg' => ?_⟩, fun j u c hu hc => ?_⟩
  · split at hg
    · exact .inr (hs'.sub _ _ _ hg)
    · exact .inl (hs.sub _ _ _ hg)
  · split at hg <;> split at hg'
    · exact hs'.apart _ _ (by omega) _ _ hg hg'
    · exact hd _ _ (hs'.sub _ _ _ hg) (hs.sub _ _ _ hg')
    · exact hd _ _ (hs'.sub _ _ _ hg') (hs.sub _ _ _ hg)
    · exact hs.apart _ _ hij _ _ hg hg'
  · rw [h2] at hu
    rw [lay_get _ _ _ hoff] at hc
    by_cases hj : off ≤ j ∧ j < off + x.cells.length
    · rw [if_pos hj] at hc
      rw [if_pos (by omega)] at hu
      dsimp only
      rw [if_pos hj]
      exact hi' _ u c hu hc
    · rw [if_neg hj] at hc
      rw [if_neg (by omega)] at hu
      dsimp only
      rw [if_neg hj]
      exact hi j u c hu hc
/-- A struct's places: where each field begins, how many cells it has. -/
def places (P : Program) (t : Nat) : Option (Array (Nat × Nat)) := match P.underlying t with
  | some (.struct fs) => fs.mapM fun f => (P.info? f.type).map fun i => (f.offset, i.size)
  | _ => none
section
variable {P : Program} {C : Ctx} {T T' : St} {a : Act} {w : World} {S : Foot} {F : Nat → Foot} {loc : Nat → Addr} {rd : List Nat} {o : Oper} {d : Nat}
/-- The parts of what is built: field, value, the slots whose rows go with it. -/
def parts (C : Ctx) (T : St) (rd : List Nat) (pl : Nat → Option (Nat × Nat)) (n : Nat) : List Nat → List V → List (Nat × Operand) → List (V × List Nat) → Prop
  | _, _, [], [] => True
  | used, cs, (i, y) :: ps, (x, src) :: xs => (∃ off, pl i = some (off, x.cells.length) ∧ off + x.cells.length ≤ n) ∧ opV C T rd x src y ∧ x.okc = true ∧ (∀ s, s ∈ src → s ∉ used ∧ s < T.length) ∧ parts C T rd pl n (src ++ used) cs ps xs
  | _, _, _, _ => False
def layAll (pl : Nat → Option (Nat × Nat)) (cs : List V) : List (Nat × Operand) → List (V × List Nat) → List V
  | (i, _) :: ps, (x, _) :: xs => layAll pl (lay cs ((pl i).getD (0, 0)).1 x.cells) ps xs
  | _, _ => cs
def srcs : List (V × List Nat) → List Nat
  | [] => []
  | (_, src) :: xs => src ++ srcs xs
theorem parts_fill {pl : Nat → Option (Nat × Nat)} {n : Nat} (hsm : Same T T' rd) (hsim : SimB C T' a w S F loc) (ps : List (Nat × Operand)) : ∀ (xs : List (V × List Nat)) (used : List Nat) (vs : Array Value) (cs : List V) (Fx : Foot),
    cs.length = n → CellsHold w S C.B vs cs Fx → (∀ b o, Fx b o → ∃ s, s ∈ used ∧ inner C (F s) loc s b o) → parts C T rd pl n used cs ps xs →
    ∃ vs', Instr.fill pl vs (ps.map fun p => (p.1, a.eval p.2)) = some vs' ∧ CellsHold w S C.B vs' (layAll pl cs ps xs) (fun b o => Fx b o ∨ ∃ s, s ∈ srcs xs ∧ inner C (F s) loc s b o) ∧ ∀ s, s ∈ srcs xs → T'.at s ≠ .no ∧ s < T.length := by
  induction ps with
  | nil =>
    intro xs used vs cs Fx hn hc _ hp
    cases xs with
    | nil => exact ⟨vs, rfl, ⟨hc.1, hc.2.choose, hc.2.choose_spec.1.mono fun b o h => .inl h, hc.2.choose_spec.2⟩, fun s hs => by simp [srcs] at hs⟩
    | cons => exact hp.elim
  | cons p ps ih =>
    intro xs used vs cs Fx hn hc hu hp
    cases xs with
    | nil => exact hp.elim
    | cons x xs =>
      obtain ⟨i, y⟩ := p
      obtain ⟨x, src⟩ := x
      obtain ⟨⟨off, h1, h2⟩, h3, h4, h5, h6⟩ := hp
      obtain ⟨G, hh, hG, hno⟩ := opV_get h3 hsm hsim
      obtain ⟨hlen, _⟩ := hh.cells h4
      have hl := hc.lay (off := off) hh h4 (fun b o hg hf => by
        obtain ⟨s, hs, hi⟩ := hG b o hg
        obtain ⟨s', hs', hi'⟩ := hu b o hf
        exact hsim.apart s s' (fun e => (h5 s hs).1 (e ▸ hs')) b o hi.1 hi'.1) (by rw [hn]; exact h2)
      have hfold := fold_get off (a.eval y).cells.toList 0 vs (by have := hc.1; simp; omega)
      obtain ⟨vs', e1, e2, e3⟩ := ih xs (src ++ used) _ (lay cs off x.cells) (fun b o => Fx b o ∨ G b o) (by rw [lay_length]; exact hn) hl (fun b o h => by
        rcases h with h | h
        · obtain ⟨s, hs, hi⟩ := hu b o h
          exact ⟨s, List.mem_append_right _ hs, hi⟩
        · obtain ⟨s, hs, hi⟩ := hG b o h
          exact ⟨s, List.mem_append_left _ hs, hi⟩) (by
        clear ih
        revert h6
        generalize src ++ used = u'
        intro h6
        have : ∀ (ps : List (Nat × Operand)) (xs : List (V × List Nat)) (u' : List Nat) (c1 c2 : List V), parts C T rd pl n u' c1 ps xs → parts C T rd pl n u' c2 ps xs := by
          intro ps
          induction ps with
          | nil => intro xs u' c1 c2 h; cases xs <;> exact h
          | cons p ps ih =>
            intro xs u' c1 c2 h
            cases xs with
            | nil => exact h
            | cons x xs => obtain ⟨a1, a2, a3, a4, a5⟩ := h; exact ⟨a1, a2, a3, a4, ih _ _ _ _ a5⟩
        exact this _ _ _ _ _ h6)
      refine ⟨vs', ?_, ?_, fun s hs => ?_⟩
      · simp only [List.map_cons, Instr.fill, h1]
        rw [if_neg (by have := hc.1; simp; omega)]
        exact e1
      · simp only [layAll, h1, Option.getD_some]
        obtain ⟨z1, G', z2, z3⟩ := e2
        refine ⟨z1, G', z2.mono fun b o h => ?_, z3⟩
        rcases h with (h | h) | ⟨s, hs, hi⟩
        · exact .inl h
        · obtain ⟨s, hs, hi⟩ := hG b o h
          exact .inr ⟨s, List.mem_append_left _ hs, hi⟩
        · exact .inr ⟨s, List.mem_append_right _ hs, hi⟩
      · rcases List.mem_append.1 hs with hs | hs
        · exact ⟨hno s hs, (h5 s hs).2⟩
        · exact e3 s hs
theorem places_run {t : Nat} {pl : Array (Nat × Nat)} (h : places P t = some pl) (w : World) : ∃ fs, P.underlying t = some (.struct fs) ∧ (fs.mapM fun f => do pure (f.offset, ← sizeOf f.type) : Sem (Array (Nat × Nat))).run P w = .ok pl w := by
  unfold places at h
  split at h
  · rename_i fs hu
    refine ⟨fs, hu, ?_⟩
    rw [Array.mapM_eq_mapM_toList, Option.map_eq_map, Option.map_eq_some_iff] at h
    obtain ⟨l, hl, rfl⟩ := h
    rw [Array.mapM_eq_mapM_toList]
    have key : ∀ (fs : List Field) (l : List (Nat × Nat)), (fs.mapM fun f => (P.info? f.type).map fun i => (f.offset, i.size)) = some l → ((fs.mapM fun f => do pure (f.offset, ← sizeOf f.type)) : Sem (List (Nat × Nat))).run P w = .ok l w := by
      intro fs
      induction fs with
      | nil => intro l h; simp at h; subst h; rfl
      | cons f fs ih =>
        intro l h
        simp only [List.mapM_cons, Option.bind_eq_bind, Option.bind_eq_some_iff, Option.map_eq_some_iff] at h
        obtain ⟨p, ⟨i, hi, rfl⟩, l', hl', h⟩ := h
        simp at h
        subst h
        have := ih l' hl'
        rw [List.mapM_cons]
        have hs : (sizeOf f.type).run P w = .ok i.size w := size_run (by rw [hi]; rfl) w
        simp only [Sem.run_bind, hs, Result.andThen_ok, Sem.run_pure, this]
    have e : ∀ (X : Sem (List (Nat × Nat))), (List.toArray <$> X).run P w = (X.run P w).andThen fun a w' => .ok a.toArray w' := fun X => Sem.run_map ..
    rw [e, key fs.toList l hl]
    rfl
  · simp at h
end
end Go.Proofs.Ytepeoiimdefnpaa.Vm
namespace Go.Proofs.Ytepeoiimdefnpaa.Vm
open Go
theorem lits.cells {vs : Array Value} {cs : List V} (h : lits vs.toList cs) (w : World) (S B : Foot) : CellsHold w S B vs cs Foot.none := by
  obtain ⟨h1, h2⟩ := h.get
  exact ⟨by simpa using h1, fun _ => Foot.none, Split.none _, fun j u c hu hc => ⟨(h2 j u c (by rw [Array.getElem?_toList]; exact hu) hc).2, (h2 j u c (by rw [Array.getElem?_toList]; exact hu) hc).1.hold _ _ _ _⟩⟩
theorem flatten_get {es : List (List V)} {sz : Nat} (hz : ∀ e, e ∈ es → e.length = sz) {j i : Nat} {e : List V} {c : V} (he : es[j]? = some e) (hc : e[i]? = some c) : es.flatten[j * sz + i]? = some c := by
  induction es generalizing j with
  | nil => simp at he
  | cons x es ih =>
    have hx := hz x (by simp)
    cases j with
    | zero =>
      simp at he
      subst he
      have hi := (List.getElem?_eq_some_iff.1 hc).1
      simp only [List.flatten_cons, Nat.zero_mul, Nat.zero_add]
      rw [List.getElem?_append_left hi, hc]
    | succ j =>
      simp only [List.flatten_cons]
      rw [List.getElem?_append_right (by rw [hx, Nat.succ_mul]; omega), hx, show (j + 1) * sz + i - sz = j * sz + i by rw [Nat.succ_mul]; omega]
      exact ih (fun e he => hz e (by simp [he])) (by simpa using he)
theorem flatten_length {es : List (List V)} {sz : Nat} (hz : ∀ e, e ∈ es → e.length = sz) : es.flatten.length = es.length * sz := by
  induction es with
  | nil => simp
  | cons x es ih =>
    simp only [List.flatten_cons, List.length_append, List.length_cons, Nat.succ_mul]
    rw [ih fun e he => hz e (by simp [he]), hz x (by simp)]
    omega
/-- A new block is a row of one's own. -/
theorem CellsHold.own {w : World} {S B : Foot} {vs : Array Value} {Fx : Foot} {e sz : Nat} {es : List (List V)} (h : CellsHold w S Foot.none vs es.flatten Fx) (hz : ∀ e, e ∈ es → e.length = sz) (hp : 0 < sz) (hm : es.length ≤ maxLen) (hS : ∀ b o, S b o → b < w.heap.size) (hF : ∀ b o, Fx b o → b < w.heap.size) :
    Hold (w.alloc (.cells vs e)) S B (fun b o => Fx b o ∨ b = w.heap.size) (.slice (some ⟨w.heap.size, 0, none⟩) es.length es.length) (.own e sz es) := by
  obtain ⟨hn, G, hs, hi⟩ := h
  rw [flatten_length hz] at hn
  refine .own _ _ e sz _ es vs.toList G hz hp ⟨by simpa using hn, .inr ⟨w.heap.size, es.length, vs, rfl, Nat.zero_le _, heap_alloc_new w _, Nat.le_refl _, hm, hn, List.take_of_length_le (by rw [Array.length_toList, hn]; exact Nat.le_refl _)⟩⟩ (fun b hb o => .inr (Option.some.inj (show some w.heap.size = some b from hb)).symm) (hs.mono fun b o h => .inl h) (fun k b o hb hg => ?_) (fun u hu => ?_) fun j i e c u he hc hu => ?_
  · have := hF _ _ (hs.sub _ _ _ hg)
    simp [Value.ownBlock] at hb
    omega
  · obtain ⟨k, hk⟩ := List.getElem?_of_mem hu
    rw [Array.getElem?_toList] at hk
    have hl := (Array.getElem?_eq_some_iff.1 hk).1
    exact (hi k u _ hk (List.getElem?_eq_getElem (by rw [flatten_length hz]; omega))).1
  · rw [Array.getElem?_toList] at hu
    refine (hi _ u c hu (flatten_get hz he hc)).2.frame (Agree.alloc w _ _ fun b o hbo => ?_)
    rcases hbo with hbo | hbo | hbo
    · exact hS b o hbo
    · exact hbo.elim
    · exact hF _ _ (hs.sub _ _ _ hbo)
section
variable {P : Program} {C : Ctx} {T T' : St} {a : Act} {w : World} {S : Foot} {F : Nat → Foot} {loc : Nat → Addr} {rd : List Nat} {o : Oper} {d : Nat}
/-- A struct's value is built. -/
theorem exec_build (t : Nat) (ps : Array (Nat × Operand)) (pl : Array (Nat × Nat)) (z : Value) (cs0 : List V) (xs : List (V × List Nat)) (hop : o.op = .build t ps) (hd : o.dst = some d) (hdn : d < C.nt) (hdl : d < T.length) (hdp : C.pin d = none) (hz : (P.info? t).bind (·.zero) = some z) (hl : lits z.cells.toList cs0) (hpl : places P t = some pl)
    (hp : parts C T rd (pl[·]?) cs0.length [] cs0 ps.toList xs) : Exec P C o rd T (deads (srcs xs) ++ [(d, false, .agg (layAll (pl[·]?) cs0 ps.toList xs))]) := by
  have hlen : ∀ s, s ∈ srcs xs → s < T.length := by
    have : ∀ (ps : List (Nat × Operand)) (xs : List (V × List Nat)) (u : List Nat) (c : List V), parts C T rd (pl[·]?) cs0.length u c ps xs → ∀ s, s ∈ srcs xs → s < T.length := by
      intro ps
      induction ps with
      | nil => intro xs u c h s hs; cases xs with
        | nil => simp [srcs] at hs
        | cons => exact h.elim
      | cons p ps ih => intro xs u c h s hs; cases xs with
        | nil => exact h.elim
        | cons x xs =>
          obtain ⟨_, _, _, h4, h5⟩ := h
          rcases List.mem_append.1 hs with hs | hs
          · exact (h4 s hs).2
          · exact ih xs _ _ h5 s hs
    exact this _ _ _ _ hp
  refine exec_of (srcs xs) _ hd hdn hdl hdp hlen fun T' a w S F loc hsm hsim => ?_
  obtain ⟨i, hi, hz'⟩ := Option.bind_eq_some_iff.1 hz
  obtain ⟨vs', e1, ⟨z1, G, z2, z3⟩, e3⟩ := parts_fill hsm hsim ps.toList xs [] z.cells cs0 Foot.none rfl (hl.cells _ _ _) (fun _ _ h => h.elim) hp
  obtain ⟨fs, hu, hr⟩ := places_run hpl w
  refine ⟨.agg vs', w, S, _, ?_, .refl _ _, fun _ _ h => h, fun _ _ h => .inl h, fun b o' h => .inl h, fun s hs => (e3 s hs).1, .inl (.agg _ _ vs' _ G z1 (z2.mono fun b o' h => h.resolve_left id) (fun i u c hu hc => (z3 i u c hu hc).1) fun i u c hu hc => (z3 i u c hu hc).2)⟩
  have hmap : (ps.map fun (x : Nat × Operand) => (x.1, a.eval x.2)).toList = ps.toList.map fun p => (p.1, a.eval p.2) := by simp
  have hzr : (zeroValue t).run P w = .ok z w := by simp [zeroValue, typeInfo, hi, hz']
  simp only [execOp, hop, Instr.build, Sem.run_bind, hzr, run_underlying hu, Result.andThen_ok]
  rw [hr]
  simp only [Result.andThen_ok, hmap, e1, Sem.run_pure]
/-- What an own row that is made takes. -/
theorem exec_newrow (src : List Nat) (e sz : Nat) (es : List (List V)) (hd : o.dst = some d) (hdn : d < C.nt) (hdl : d < T.length) (hdp : C.pin d = none) (hsl : ∀ s, s ∈ src → s < T.length) (hz : ∀ e, e ∈ es → e.length = sz) (hp : 0 < sz) (hm : es.length ≤ maxLen)
    (h : ∀ T' a w S F loc, Same T T' rd → SimB C T' a w S F loc → ∃ vs Fx, (execOp a.eval o).run P w = .ok (.value (.slice (some ⟨w.heap.size, 0, none⟩) es.length es.length)) (w.alloc (.cells vs e)) ∧ CellsHold w S Foot.none vs es.flatten Fx ∧ (∀ b o, Fx b o → ∃ s, s ∈ src ∧ inner C (F s) loc s b o) ∧ ∀ s, s ∈ src → T'.at s ≠ .no) :
    Exec P C o rd T (deads src ++ [(d, false, .own e sz es)]) :=
  exec_of src _ hd hdn hdl hdp hsl fun T' a w S F loc hsm hsim => by
    obtain ⟨vs, Fx, h1, h2, h3, h4⟩ := h T' a w S F loc hsm hsim
    have hFx : ∀ b o', Fx b o' → b < w.heap.size := fun b o' hf => by
      obtain ⟨s, _, hi⟩ := h3 b o' hf
      exact (hsim.mine s b o' hi.1).2.2.1
    refine ⟨_, _, S, fun b o' => Fx b o' ∨ b = w.heap.size, h1, ⟨rfl, rfl, rfl, by simp, Agree.alloc w _ _ fun b o' hb => hb.1⟩, fun _ _ h => h, fun _ _ h => .inl h, fun b o' hb => ?_, h4, .inl (h2.own hz hp hm (fun b o' hS => hsim.stay b o' (.inl hS)) hFx)⟩
    rcases hb with hb | rfl
    · exact .inl (h3 b o' hb)
    · exact .inr ⟨Nat.le_refl _, by simp, fun hS => by have := hsim.stay _ _ (.inl hS); omega⟩
/-- make: a row of zero values. -/
theorem exec_make (t e sz bytes : Nat) (z : Value) (zs : List V) (y1 y2 : Operand) (k1 k2 : IntKind) (n : Nat) (hop : o.op = .makeSlice t y1 y2) (hd : o.dst = some d) (hdn : d < C.nt) (hdl : d < T.length) (hdp : C.pin d = none) (ht : P.underlying t = some (.slice e)) (he : elemT P e z sz bytes) (hl : lits z.cells.toList zs)
    (h1 : opv C T rd (.int k1 n) y1) (h2 : opv C T rd (.int k2 n) y2) (hb : bytes * n ≤ 281474976710656) (h63 : n ≤ maxLen) : Exec P C o rd T [(d, false, .own e sz (List.replicate n zs))] := by
  obtain ⟨hlz, hlg⟩ := hl.get
  have hzl : zs.length = sz := by rw [← hlz]; simpa using he.2.1
  have hrep : ∀ el, el ∈ List.replicate n zs → el.length = sz := fun el hel => by rw [(List.mem_replicate.1 hel).2]; exact hzl
  refine exec_newrow [] e sz _ hd hdn hdl hdp (fun s hs => by simp at hs) hrep he.2.2 (by simpa using h63) fun T' a w S F loc hsm hsim => ?_
  obtain ⟨i, hi, hz, hs, hby⟩ := he.get
  have hbi : (i.bytes : Int) * (n : Int) ≤ 281474976710656 := by
    rw [hby, ← Int.natCast_mul]
    omega
  have hr := run_make (P := P) w t e i z ht hi hz k1 k2 n n (by omega) (by omega) hbi (by simp only [maxLen] at h63; omega)
  refine ⟨madeCells z.cells (n * sz), Foot.none, ?_, ?_, fun _ _ h => h.elim, fun s hs => by simp at hs⟩
  · rw [hs] at hr
    simp only [Int.toNat_natCast] at hr
    simp only [execOp, hop, opv_eval h1 hsm hsim, opv_eval h2 hsm hsim, Sem.run_bind, hr, Result.andThen_ok, Sem.run_pure, List.length_replicate]
  · refine ⟨by rw [size_madeCells, flatten_length hrep]; simp, fun _ => Foot.none, Split.none _, fun k u c hu hc => ?_⟩
    have hk := (List.getElem?_eq_some_iff.1 hc).1
    rw [flatten_length hrep, List.length_replicate] at hk
    obtain ⟨j, i, hj, hi', rfl⟩ := index_split he.2.2 hk
    have hel : (List.replicate n zs)[j]? = some zs := by simp [hj]
    have hci : zs[i]? = some (zs[i]'(by omega)) := List.getElem?_eq_getElem (by omega)
    rw [flatten_get hrep hel hci] at hc
    injection hc with hc
    have hu' : z.cells.toList[i]? = some u := by
      have hzs := he.2.1
      simp only [madeCells, Array.getElem?_map, Array.getElem?_range, hk, ↓reduceIte, Option.map_some, Option.some.injEq] at hu
      rw [Array.getElem?_toList, ← hu, hzs]
      have : (j * sz + i) % sz = i := by rw [Nat.mul_comm, Nat.mul_add_mod]; exact Nat.mod_eq_of_lt hi'
      rw [this, getElem!_pos z.cells i (by omega), Array.getElem?_eq_getElem (by omega)]
    obtain ⟨e1, e2⟩ := hlg i u _ hu' hci
    subst hc
    exact ⟨e2, ((e1.hold w S Foot.none Foot.none))⟩
/-- A slice that is written out. -/
theorem exec_buildSlice (t e sz bytes n : Nat) (z : Value) (ps : Array (Nat × Operand)) (zs : List V) (cs0 : List V) (xs : List (V × List Nat)) (es : List (List V)) (hop : o.op = .buildSlice t n ps) (hd : o.dst = some d) (hdn : d < C.nt) (hdl : d < T.length) (hdp : C.pin d = none) (ht : P.underlying t = some (.slice e)) (he : elemT P e z sz bytes)
    (hl : lits z.cells.toList zs) (hc0 : cs0 = (List.replicate n zs).flatten) (hp : parts C T rd (fun i => some (i * sz, sz)) cs0.length [] cs0 ps.toList xs) (hes : layAll (fun i => some (i * sz, sz)) cs0 ps.toList xs = es.flatten) (hz : ∀ e, e ∈ es → e.length = sz) (hn : es.length = n) (hshr : ∀ c, c ∈ es.flatten → c.shr = true) (hsmall : n * sz ≤ 16777216) :
    Exec P C o rd T (deads (srcs xs) ++ [(d, false, .own e sz es)]) := by
  have hlen : ∀ s, s ∈ srcs xs → s < T.length := by
    have : ∀ (ps : List (Nat × Operand)) (xs : List (V × List Nat)) (u : List Nat) (c : List V), parts C T rd (fun i => some (i * sz, sz)) cs0.length u c ps xs → ∀ s, s ∈ srcs xs → s < T.length := by
      intro ps
      induction ps with
      | nil => intro xs u c h s hs; cases xs with
        | nil => simp [srcs] at hs
        | cons => exact h.elim
      | cons p ps ih => intro xs u c h s hs; cases xs with
        | nil => exact h.elim
        | cons x xs =>
          obtain ⟨_, _, _, h4, h5⟩ := h
          rcases List.mem_append.1 hs with hs | hs
          · exact (h4 s hs).2
          · exact ih xs _ _ h5 s hs
    exact this _ _ _ _ hp
  obtain ⟨hlz, hlg⟩ := hl.get
  have hzl : zs.length = sz := by rw [← hlz]; simpa using he.2.1
  have hrep : ∀ el, el ∈ List.replicate n zs → el.length = sz := fun el hel => by rw [(List.mem_replicate.1 hel).2]; exact hzl
  have hm : es.length ≤ maxLen := by
    rw [hn]
    have := Nat.le_mul_of_pos_right n he.2.2
    simp only [maxLen]
    omega
  refine exec_newrow (srcs xs) e sz es hd hdn hdl hdp hlen hz he.2.2 hm fun T' a w S F loc hsm hsim => ?_
  obtain ⟨i, hi, hzz, hs, hby⟩ := he.get
  have hzs := he.2.1
  have hstart : CellsHold w S C.B ((Array.range (n * sz)).map (z.cells[· % z.cells.size]!)) cs0 Foot.none := by
    rw [hc0]
    refine ⟨by rw [flatten_length hrep]; simp, fun _ => Foot.none, Split.none _, fun k u c hu hc => ?_⟩
    have hk := (List.getElem?_eq_some_iff.1 hc).1
    rw [flatten_length hrep, List.length_replicate] at hk
    obtain ⟨j, i, hj, hi', rfl⟩ := index_split he.2.2 hk
    have hel : (List.replicate n zs)[j]? = some zs := by simp [hj]
    have hci : zs[i]? = some (zs[i]'(by omega)) := List.getElem?_eq_getElem (by omega)
    rw [flatten_get hrep hel hci] at hc
    injection hc with hc
    have hu' : z.cells.toList[i]? = some u := by
      simp only [Array.getElem?_map, Array.getElem?_range, hk, ↓reduceIte, Option.map_some, Option.some.injEq] at hu
      rw [Array.getElem?_toList, ← hu, hzs]
      have : (j * sz + i) % sz = i := by rw [Nat.mul_comm, Nat.mul_add_mod]; exact Nat.mod_eq_of_lt hi'
      rw [this, getElem!_pos z.cells i (by omega), Array.getElem?_eq_getElem (by omega)]
    obtain ⟨e1, e2⟩ := hlg i u _ hu' hci
    subst hc
    exact ⟨e2, e1.hold w S C.B Foot.none⟩
  obtain ⟨vs', e1, ⟨z1, G, z2, z3⟩, e3⟩ := parts_fill hsm hsim ps.toList xs [] _ cs0 Foot.none rfl hstart (fun _ _ h => h.elim) hp
  rw [hes] at z1 z3
  refine ⟨vs', fun b o' => ∃ s, s ∈ srcs xs ∧ inner C (F s) loc s b o', ?_, ⟨z1, G, z2.mono fun b o' h => h.resolve_left id, fun k u c hu hc => ?_⟩, fun b o' h => h, fun s hs => (e3 s hs).1⟩
  · have hmap : (ps.map fun (x : Nat × Operand) => (x.1, a.eval x.2)).toList = ps.toList.map fun p => (p.1, a.eval p.2) := by simp
    have hzr : (zeroValue e).run P w = .ok z w := by simp [zeroValue, typeInfo, hi, hzz]
    have hsr : (sizeOf e).run P w = .ok sz w := size_run (by rw [hi]; simp [hs]) w
    have hbig : ¬ n * sz > 2 ^ 24 := by omega
    by_cases h0 : n * sz = 0
    · simp only [h0] at e1
      have e1' : Instr.fill (fun i => some (i * sz, sz)) ((Array.range 0).map ((#[] : Array Value)[· % (#[] : Array Value).size]!)) (ps.toList.map fun p => (p.1, a.eval p.2)) = some vs' := by
        have hr0 : ∀ (f : Nat → Value), (Array.range 0).map f = #[] := fun f => by simp
        rw [hr0] at e1 ⊢
        exact e1
      have hbig0 : ¬ (0 : Nat) > 2 ^ 24 := by omega
      simp only [execOp, hop, Instr.buildSlice, Sem.run_bind, run_underlying ht, Result.andThen_ok, hsr, h0, hbig0, ↓reduceIte, Sem.run_pure, newRow, newObj, hmap, e1']
      simp only [hn]
      rfl
    · simp only [execOp, hop, Instr.buildSlice, Sem.run_bind, run_underlying ht, Result.andThen_ok, hsr, hbig, h0, ↓reduceIte, Sem.run_pure, hzr, newRow, newObj, hmap, e1]
      simp only [hn]
      rfl
  · obtain ⟨h1, h2⟩ := z3 k u c hu hc
    refine ⟨h1, h2.unborrow ?_⟩
    exact hshr c (List.mem_of_getElem? hc)
end
end Go.Proofs.Ytepeoiimdefnpaa.Vm
namespace Go.Proofs.Ytepeoiimdefnpaa.Vm
open Go
theorem setRow_agree (w : World) (g : Nat) (cs : Array Value) (A : Foot) (h : ∀ o, ¬ A g o) : Agree w (w.setRow g cs) A := by
  have hb : ∀ b o, A b o → (w.setRow g cs).heap[b]? = w.heap[b]? := fun b o hA => setRow_other w g b cs (fun e => h o (e ▸ hA))
  exact ⟨fun b hA => hb b 0 (hA 0), fun b o hA => World.cell?_of_block (hb b o hA), fun b o hA => World.frozen?_of_block (hb b o hA)⟩
/-- Cells of one element are others. -/
theorem Hold.set {w : World} {S B : Foot} {F Fx : Foot} {v : Value} {E sz : Nat} {es : List (List V)} (hv : Hold w S B F v (.own E sz es)) {i p b n cap : Nat} {e cs : List V} {vs : List Value} (hve : v = .slice (some ⟨b, 0, none⟩) n cap)
    (he : es[i]? = some e) (hp : p + cs.length ≤ sz) (hl : vs.length = cs.length) (h1 : ∀ u, u ∈ vs → u.oneCell' = true) (Gx : Nat → Foot) (hGa : ∀ i j, i ≠ j → ∀ b o, Gx i b o → ¬ Gx j b o) (hGF : ∀ k b o, Gx k b o → ¬ F b o)
    (hx : ∀ j u c, vs[j]? = some u → cs[j]? = some c → Hold w S Foot.none (Gx j) u c) (hF : ∀ b o, F b o → Fx b o) (hFx : ∀ k b o, Gx k b o → Fx b o) (hSF : ∀ b o, S b o → ¬ F b o) :
    ∃ cur t, w.heap[b]? = some (.cells cur t (0, 0)) ∧ i * sz + p + vs.length ≤ cur.size ∧ Hold (w.setRow b (cur.toList.take (i * sz + p) ++ vs ++ cur.toList.drop (i * sz + p + vs.length)).toArray) S B Fx v (.own E sz (es.set i (lay e p cs))) := by
  cases hv with
  | own _ _ _ _ _ _ us G hz hpos ho hFv hs hG hone hi =>
    have hil := (List.getElem?_eq_some_iff.1 he).1
    have hel := hz e (List.mem_of_getElem? he)
    have hio : i * sz + sz ≤ es.length * sz := by
      calc i * sz + sz = (i + 1) * sz := by rw [Nat.succ_mul]
        _ ≤ es.length * sz := Nat.mul_le_mul_right _ hil
    rcases ho.2 with ⟨h0, h0'⟩ | ⟨g, cap', cur, hv', _, hg, hnc, hcm, hcs, htake⟩
    · omega
    · rw [hve] at hv'
      simp only [Value.slice.injEq, Option.some.injEq, Addr.mk.injEq, and_true] at hv'
      obtain ⟨rfl, rfl, rfl⟩ := hv'
      have hcl : es.length * sz ≤ cur.size := by rw [hcs]; exact Nat.mul_le_mul_right _ hnc
      refine ⟨cur, E, hg, by omega, ?_⟩
      have hFb : ∀ o, F b o := hFv b (by rw [hve]; rfl)
      have hset := setRow_heap w b cur (cur.toList.take (i * sz + p) ++ vs ++ cur.toList.drop (i * sz + p + vs.length)).toArray E (0, 0) hg
      have hus : us.length = es.length * sz := ho.1
      -- the new row, cell by cell
      have hget : ∀ k, k < us.length → (us.take (i * sz + p) ++ vs ++ us.drop (i * sz + p + vs.length))[k]? = if i * sz + p ≤ k ∧ k < i * sz + p + vs.length then vs[k - (i * sz + p)]? else us[k]? := by
        intro k hk
        rw [List.append_assoc]
        by_cases h2 : k < i * sz + p
        · rw [List.getElem?_append_left (by simp; omega), List.getElem?_take_of_lt h2, if_neg (by omega)]
        · rw [List.getElem?_append_right (by simp; omega)]
          have hlt : (us.take (i * sz + p)).length = i * sz + p := by simp; omega
          rw [hlt]
          by_cases h3 : k < i * sz + p + vs.length
          · rw [List.getElem?_append_left (by omega), if_pos (by omega)]
          · rw [List.getElem?_append_right (by omega), List.getElem?_drop, if_neg (by omega)]
            congr 1
            omega
      have hown : (w.setRow b (cur.toList.take (i * sz + p) ++ vs ++ cur.toList.drop (i * sz + p + vs.length)).toArray).ownsRow 0 E sz v (es.set i (lay e p cs)).length (us.take (i * sz + p) ++ vs ++ us.drop (i * sz + p + vs.length)) := by
        refine ⟨by simp; omega, .inr ⟨b, cap, _, by rw [hve]; simp, Nat.zero_le _, hset, by simpa using hnc, hcm, by simp; omega, ?_⟩⟩
        refine List.ext_getElem? fun k => ?_
        rw [List.length_set]
        by_cases hk : k < es.length * sz
        · rw [List.getElem?_take_of_lt hk, hget k (by omega)]
          simp only [List.append_assoc]
          by_cases h2 : k < i * sz + p
          · rw [List.getElem?_append_left (by simp; omega), List.getElem?_take_of_lt h2, if_neg (by omega), ← htake, List.getElem?_take_of_lt hk]
          · rw [List.getElem?_append_right (by simp; omega)]
            have hlt : (cur.toList.take (i * sz + p)).length = i * sz + p := by simp; omega
            rw [hlt]
            by_cases h3 : k < i * sz + p + vs.length
            · rw [List.getElem?_append_left (by omega), if_pos (by omega)]
            · rw [List.getElem?_append_right (by omega), List.getElem?_drop, if_neg (by omega), ← htake, List.getElem?_take_of_lt hk]
              congr 1
              omega
        · rw [List.getElem?_eq_none (by simp; omega), List.getElem?_eq_none (by simp; omega)]
      refine .own _ _ E sz v _ _ (fun k => if i * sz + p ≤ k ∧ k < i * sz + p + vs.length then Gx (k - (i * sz + p)) else G k) (fun e' he' => ?_) hpos hown (fun b' hb' o => hF _ _ (hFv b' hb' o)) ⟨fun k b' o h => ?_, fun k k' hkk b' o h h' => ?_⟩ (fun k b' o hb' h => ?_) (fun u hu => ?_) fun j i' e' c u he' hc hu => ?_
      · rcases List.mem_or_eq_of_mem_set he' with h | rfl
        · exact hz e' h
        · rw [lay_length]; exact hel
      · split at h
        · exact hFx _ _ _ h
        · exact hF _ _ (hs.sub _ _ _ h)
      · split at h <;> split at h'
        · exact hGa _ _ (by omega) _ _ h h'
        · exact hGF _ _ _ h (hs.sub _ _ _ h')
        · exact hGF _ _ _ h' (hs.sub _ _ _ h)
        · exact hs.apart _ _ hkk _ _ h h'
      · split at h
        · exact hGF _ _ _ h (hFv b' hb' o)
        · exact hG _ _ _ hb' h
      · rcases List.mem_append.1 hu with hu | hu
        · rcases List.mem_append.1 hu with hu | hu
          · exact hone u (List.mem_of_mem_take hu)
          · exact h1 u hu
        · exact hone u (List.mem_of_mem_drop hu)
      · have hil' : i' < sz := by
          have h2 := (List.getElem?_eq_some_iff.1 hc).1
          have h3 : e'.length = sz := by
            rcases List.mem_or_eq_of_mem_set (List.mem_of_getElem? he') with h | rfl
            · exact hz e' h
            · rw [lay_length]; exact hel
          omega
        have hj : j < es.length := by have := (List.getElem?_eq_some_iff.1 he').1; simpa using this
        have hk : j * sz + i' < us.length := by
          rw [hus]
          calc j * sz + i' < j * sz + sz := by omega
            _ = (j + 1) * sz := by rw [Nat.succ_mul]
            _ ≤ es.length * sz := Nat.mul_le_mul_right _ hj
        rw [hget _ hk] at hu
        have hagr : ∀ k, (∀ o, ¬ (fun b' o => S b' o ∨ False ∨ G k b' o) b o) := fun k o hA => by
          rcases hA with hA | hA | hA
          · exact hSF b o hA (hFb o)
          · exact hA
          · exact hG k b o (by rw [hve]; rfl) hA
        have hagx : ∀ k, (∀ o, ¬ (fun b' o => S b' o ∨ False ∨ Gx k b' o) b o) := fun k o hA => by
          rcases hA with hA | hA | hA
          · exact hSF b o hA (hFb o)
          · exact hA
          · exact hGF k b o hA (hFb o)
        by_cases hji : j = i
        · subst hji
          rw [List.getElem?_set_self hj] at he'
          injection he' with he'
          subst he'
          rw [lay_get _ _ _ (by omega)] at hc
          by_cases hr : p ≤ i' ∧ i' < p + cs.length
          · rw [if_pos hr] at hc
            rw [if_pos (by omega)] at hu ⊢
            have e1 : j * sz + i' - (j * sz + p) = i' - p := by omega
            rw [e1] at hu ⊢
            exact (hx _ u c hu hc).frame (setRow_agree w b _ _ (hagx _))
          · rw [if_neg hr] at hc
            rw [if_neg (by omega)] at hu ⊢
            exact (hi j i' e c u he hc hu).frame (setRow_agree w b _ _ (hagr _))
        · rw [List.getElem?_set_ne (Ne.symm hji)] at he'
          have hout : ¬ (i * sz + p ≤ j * sz + i' ∧ j * sz + i' < i * sz + p + vs.length) := fun hh => by
            rcases Nat.lt_or_gt_of_ne hji with h2 | h2
            · have : (j + 1) * sz ≤ i * sz := Nat.mul_le_mul_right _ h2
              rw [Nat.succ_mul] at this
              omega
            · have : (i + 1) * sz ≤ j * sz := Nat.mul_le_mul_right _ h2
              rw [Nat.succ_mul] at this
              omega
          rw [if_neg hout] at hu ⊢
          exact (hi j i' e' c u he' hc hu).frame (setRow_agree w b _ _ (hagr _))
section
variable {P : Program} {C : Ctx} {T T' : St} {a : Act} {w : World} {S : Foot} {F : Nat → Foot} {loc : Nat → Addr} {rd : List Nat} {o : Oper} {d : Nat}
theorem St.gen_keep1 (T : St) (r : Nat) (x : V) : St.gen (T.app [(r, true, x)]) r = T.gen r := by
  by_cases hl : r < T.length
  · simp [St.gen, St.app, hl]
  · simp [St.gen, St.app, List.set_eq_of_length_le (by omega : T.length ≤ r)]
theorem St.gen_keep (T : St) (src : List Nat) (r : Nat) (x : V) (h : r ∉ src) : St.gen (T.app (deads src ++ [(r, true, x)])) r = T.gen r := by
  have h1 := St.app_not T (deads src) r (by simpa [deads, Function.comp_def] using h)
  have e : T.app (deads src ++ [(r, true, x)]) = St.app (T.app (deads src)) [(r, true, x)] := by unfold St.app; rw [List.foldl_append]
  rw [e, St.gen_keep1]
  exact congrArg Prod.fst h1
/-- A store into a row of one's own. -/
theorem exec_store_ref (s r t n E sz i p : Nat) (y : Operand) (x : V) (src : List Nat) (es : List (List V)) (e : List V) (kp : Bool) (hkp : kp = true → ∀ e, e ∈ es → V.free.go e = true) (hop : o.op = .store t (.tmp s) y) (hd : o.dst = none) (hsr : s ∈ rd) (hrr : r ∈ rd) (hs : s < C.nt) (hx : T.at s = .ref r (T.gen r) sz i p) (hxr : T.at r = .own E sz es) (hrl : r < T.length) (he : es[i]? = some e)
    (hsz : (P.info? t).map (·.size) = some n) (hy : opV C T rd x src y) (hok : x.okc = true) (hsh : ∀ c, c ∈ x.cells → c.shr = true) (hn : x.cells.length = n) (hpn : p + n ≤ sz) (hsrc : ∀ s, s ∈ src → s < T.length ∧ s ≠ r) : Exec P C o rd T (deads src ++ [(r, kp, .own E sz (es.set i (lay e p x.cells)))]) := by
  intro T' a w hsm ⟨S, F, loc, hsim⟩ Q K hK
  have h1 := hsim.slot s
  rw [hsm.at_ hsr, hx] at h1
  obtain ⟨u, v, e1, e2, b, m, cap, rfl, rfl⟩ := h1.linked rfl (hsm.gen_ hrr)
  have hxr' : T'.at r = .own E sz es := (hsm.at_ hrr).trans hxr
  have hsl := hsim.slot r
  rw [hxr'] at hsl
  obtain ⟨v', hv', hh⟩ := hsl.held (by simp) (fun _ => by simp) rfl
  rw [e1] at hv'
  injection hv' with hv'
  subst hv'
  obtain ⟨G, hyh, hG, hno⟩ := opV_get hy hsm hsim
  obtain ⟨hlen, Gx, hs', hi⟩ := hyh.cells hok
  have hone : ∀ u, u ∈ (a.eval y).cells.toList → u.oneCell' = true := fun u hu => by
    obtain ⟨j, hj⟩ := List.getElem?_of_mem hu
    rw [Array.getElem?_toList] at hj
    have hjl := (Array.getElem?_eq_some_iff.1 hj).1
    exact (hi j u _ hj (List.getElem?_eq_getElem (by omega))).1
  have hGx : ∀ k b o', Gx k b o' → ∃ s, s ∈ src ∧ inner C (F s) loc s b o' := fun k b o' h => hG b o' (hs'.sub k b o' h)
  obtain ⟨cur, t', hg, hfit, hnew⟩ := hh.set (Fx := fun b o' => inner C (F r) loc r b o' ∨ ∃ k, Gx k b o') (cs := x.cells) (vs := (a.eval y).cells.toList) rfl he (by rw [hn]; exact hpn) (by simpa using hlen) hone Gx (fun i j hij b o' => hs'.apart i j hij b o') (fun k b o' h hF => by
      obtain ⟨s', hs'', hin⟩ := hGx k b o' h
      exact hsim.apart s' r (hsrc s' hs'').2 b o' hin.1 hF.1) (fun j u c hu hc => by
      rw [Array.getElem?_toList] at hu
      exact (hi j u c hu hc).2.unborrow (hsh c (List.mem_of_getElem? hc))) (fun b o' h => .inl h) (fun k b o' h => .inr ⟨k, h⟩) (fun b o' hS h => (hsim.mine r b o' h.1).1 hS)
  have hFb : ∀ o', inner C (F r) loc r b o' := by
    cases hh with
    | own _ _ _ _ _ _ us G hz hp how hFv hs hG hone hi => exact hFv b rfl
  have hst := run_storeCells_at P b (i * sz + p) t' (a.eval y).cells.toList 0 cur w hg (by simpa using hfit) hone
  simp only [Nat.add_zero] at hst
  have hr : (execOp a.eval o).run P w = .ok .skip (w.setRow b (cur.toList.take (i * sz + p) ++ (a.eval y).cells.toList ++ cur.toList.drop (i * sz + p + (a.eval y).cells.toList.length)).toArray) := by
    have hsc : (a.eval y).cells.size = n := by omega
    simp [execOp, hop, conc_eval hs e2, Instr.storeAt, Instr.sureAddr, storeVar, size_run hsz, hsc, hst]
  unfold Oper.wp
  rw [hr]
  show K (a.put o.dst undef) _
  rw [hd]
  refine hK _ _ ?_
  have hE : (deads src ++ [(r, kp, V.own E sz (es.set i (lay e p x.cells)))]).map (·.1) = src ++ [r] := by simp [deads, Function.comp_def]
  have hrs : r ∉ src := fun h => (hsrc r h).2 rfl
  have hlenT : ∀ s, s ∈ src → s < T'.length := fun s hs => by rw [hsm.1]; exact (hsrc s hs).1
  have hatr : (T'.app (deads src ++ [(r, kp, V.own E sz (es.set i (lay e p x.cells)))])).at r = .own E sz (es.set i (lay e p x.cells)) := St.at_last T' _ r kp _ (by rw [hsm.1]; exact hrl)
  have hats : ∀ s, s ∈ src → (T'.app (deads src ++ [(r, kp, V.own E sz (es.set i (lay e p x.cells)))])).at s = .dead := fun s hs => by
    rw [St.at_mid T' _ s r kp _ (Ne.symm (hsrc s hs).2)]
    exact St.at_deads T' src s hs (hlenT s hs)
  have hnot : ∀ s, s ∉ src ++ [r] → (T'.app (deads src ++ [(r, kp, V.own E sz (es.set i (lay e p x.cells)))])).getD s (0, .no) = T'.getD s (0, .no) := fun s hs => St.app_not T' _ s (by rw [hE]; exact hs)
  have hgs : ∀ s, s ∈ src → T'.gen s < St.gen (T'.app (deads src ++ [(r, kp, V.own E sz (es.set i (lay e p x.cells)))])) s := fun s hs => St.gen_lt T' _ s (hlenT s hs) ⟨.dead, by simp [deads, hs]⟩
  have hatn : ∀ k, T'.at k ≠ .no → (T'.app (deads src ++ [(r, kp, V.own E sz (es.set i (lay e p x.cells)))])).at k ≠ .no := fun k hk => by
    by_cases hkr : k = r
    · subst hkr; rw [hatr]; simp
    · by_cases hks : k ∈ src
      · rw [hats k hks]; simp
      · have := hnot k (by simp [hkr, hks])
        unfold St.at
        rw [this]
        exact hk
  -- cells of boxes are elsewhere
  have hbox : ∀ s, C.nt ≤ s → T'.at s ≠ .no → (loc s).block ≠ b := fun s hns hx' heq => by
    have h3 := (hsim.cells s hns hx').1
    rw [heq] at h3
    have h4 := hFb (loc s).off
    by_cases hsr' : s = r
    · subst hsr'; exact h4.2 ⟨hns, heq.symm, rfl⟩
    · exact hsim.apart s r hsr' _ _ h3 h4.1
  have hcs : ∀ s, C.nt ≤ s → T'.at s ≠ .no → (w.setRow b (cur.toList.take (i * sz + p) ++ (a.eval y).cells.toList ++ cur.toList.drop (i * sz + p + (a.eval y).cells.toList.length)).toArray).cell? (loc s) = w.cell? (loc s) ∧ (w.setRow b (cur.toList.take (i * sz + p) ++ (a.eval y).cells.toList ++ cur.toList.drop (i * sz + p + (a.eval y).cells.toList.length)).toArray).frozen? (loc s) = w.frozen? (loc s) := fun s hns hx' =>
    ⟨World.cell?_of_block (setRow_other w b _ _ (hbox s hns hx')), World.frozen?_of_block (setRow_other w b _ _ (hbox s hns hx'))⟩
  have hconc : ∀ s, (s < C.nt ∨ T'.at s ≠ .no) → conc C a (w.setRow b (cur.toList.take (i * sz + p) ++ (a.eval y).cells.toList ++ cur.toList.drop (i * sz + p + (a.eval y).cells.toList.length)).toArray) loc s = conc C a w loc s := fun s hns => by
    unfold conc
    split
    · rfl
    · rename_i hlt
      exact (hcs s (by omega) (hns.resolve_left hlt)).1
  refine ⟨S, fun s => if s ∈ src then (fun b o' => C.nt ≤ s ∧ b = (loc s).block ∧ o' = (loc s).off) else if s = r then (fun b o' => F r b o' ∨ ∃ k, Gx k b o') else F s, loc,
    hsim.upd (src ++ [r]) hnot rfl hsim.defers hsim.pins ⟨by simp, by simp, by simp, by simp, setRow_agree w b _ _ fun o' hA => ?_⟩ (fun _ _ h => h) (fun _ _ h => .inl h) (fun s hs => ?_) (fun k hk => ⟨rfl, hatn k hk⟩) (fun _ _ _ _ => rfl) (fun _ _ _ => rfl) (fun r' hr' hg' hn' => hconc r' hn') (fun r' hr' => St.gen_app _ _ _) (fun s t hs hst b' o' hb hb' => ?_) (fun s hs b' o' hb => ?_) (fun s hs r' g' hr' => ?_) (fun s hs => ?_) (fun s hs hns hx' => ?_) (fun s' r' hd' hr' hw => ?_)⟩
  · have h4 := hFb o'
    rcases hA.2 with hA | hA | ⟨s', hs'', hA⟩ | ⟨hA, hA'⟩
    · exact (hsim.mine r b o' h4.1).1 hA
    · exact (hsim.mine r b o' h4.1).2.1 hA
    · exact hsim.apart s' r (fun e => hs'' (by simp [e])) b o' hA h4.1
    · rcases (hsim.mine r b o' h4.1).2.2.2 with h5 | h5
      · omega
      · exact hA' h5
  · have e3 : s ∉ src := fun h => hs (by simp [h])
    have e4 : s ≠ r := fun h => hs (by simp [h])
    simp [e3, e4]
  · have part : ∀ s b o', (if s ∈ src then (fun b o' => C.nt ≤ s ∧ b = (loc s).block ∧ o' = (loc s).off) else if s = r then (fun b o' => F r b o' ∨ ∃ k, Gx k b o') else F s : Foot) b o' →
        (F s b o' ∧ ∀ t, t ∈ src → ¬ inner C (F t) loc t b o') ∨ (s = r ∧ ∃ k, Gx k b o') := by
      intro s b o' hb
      by_cases h2 : s ∈ src
      · rw [if_pos h2] at hb
        obtain ⟨hns, rfl, rfl⟩ := hb
        have h3 := (hsim.cells s hns (hno s h2)).1
        refine .inl ⟨h3, fun t _ hin => ?_⟩
        by_cases hst : s = t
        · subst hst; exact hin.2 ⟨hns, rfl, rfl⟩
        · exact hsim.apart s t hst _ _ h3 hin.1
      · rw [if_neg h2] at hb
        by_cases h3 : s = r
        · subst h3
          rw [if_pos rfl] at hb
          rcases hb with hb | hb
          · exact .inl ⟨hb, fun t ht hin => hsim.apart s t (fun e => h2 (e ▸ ht)) _ _ hb hin.1⟩
          · exact .inr ⟨rfl, hb⟩
        · rw [if_neg h3] at hb
          exact .inl ⟨hb, fun t ht hin => hsim.apart s t (fun e => h2 (e ▸ ht)) _ _ hb hin.1⟩
    rcases part s b' o' hb with ⟨p1, p2⟩ | ⟨rfl, k, p2⟩ <;> rcases part t b' o' hb' with ⟨q1, q2⟩ | ⟨rfl, k', q2⟩
    · exact hsim.apart s t hst _ _ p1 q1
    · obtain ⟨s', hs'', hin⟩ := hGx _ _ _ q2
      exact p2 s' hs'' hin
    · obtain ⟨s', hs'', hin⟩ := hGx _ _ _ p2
      exact q2 s' hs'' hin
    · exact hst rfl
  · rw [setRow_size]
    have hme := hsim.mine
    by_cases h2 : s ∈ src
    · rw [if_pos h2] at hb
      obtain ⟨hns, rfl, rfl⟩ := hb
      exact hme s _ _ (hsim.cells s hns (hno s h2)).1
    · rw [if_neg h2] at hb
      by_cases h3 : s = r
      · rw [if_pos h3] at hb
        rcases hb with hb | ⟨k, hb⟩
        · exact hme r _ _ hb
        · obtain ⟨s', _, hin⟩ := hGx _ _ _ hb
          exact hme s' _ _ hin.1
      · rw [if_neg h3] at hb
        exact hme s _ _ hb
  · rcases List.mem_append.1 hs with h2 | h2
    · rw [hats s h2] at hr'; simp [V.root] at hr'
    · simp at h2; subst h2; rw [hatr] at hr'; simp [V.root] at hr'
  · rcases List.mem_append.1 hs with h2 | h2
    · rw [hats s h2]
      have hv : ∃ v, conc C a w loc s = some v := by
        unfold conc
        split
        · rename_i hlt
          exact ⟨_, Array.getElem?_eq_getElem (by rw [hsim.size]; exact hlt)⟩
        · rename_i hns
          obtain ⟨_, _, ⟨u, hu, _⟩, _⟩ := hsim.cells s (by omega) (hno s h2)
          exact ⟨u, hu⟩
      obtain ⟨v, hv⟩ := hv
      exact SlotOk.plain ⟨v, (hconc s (.inr (hno s h2))).trans hv, .dead ..⟩
    · simp at h2
      subst h2
      rw [hatr]
      refine SlotOk.plain ⟨_, (hconc s (.inr (by rw [hxr']; simp))).trans e1, hnew.mono (fun _ _ h => h) (fun _ _ h => h) fun b' o' hb => ?_⟩
      rw [if_neg hrs, if_pos rfl]
      rcases hb with hb | ⟨k, hb⟩
      · exact ⟨.inl hb.1, hb.2⟩
      · refine ⟨.inr ⟨k, hb⟩, fun hc => ?_⟩
        obtain ⟨s', hs'', hin⟩ := hGx _ _ _ hb
        have h3 := (hsim.cells s hc.1 (by rw [hxr']; simp)).1
        rw [← hc.2.1, ← hc.2.2] at h3
        exact hsim.apart s' s (hsrc s' hs'').2 _ _ hin.1 h3
  · rcases List.mem_append.1 hs with h2 | h2
    · obtain ⟨c1, c2, ⟨u, c3, c3'⟩, c4⟩ := hsim.cells s hns (hno s h2)
      obtain ⟨d1, d2⟩ := hcs s hns (hno s h2)
      exact ⟨by rw [if_pos h2]; exact ⟨hns, rfl, rfl⟩, d2.trans c2, ⟨u, d1.trans c3, c3'⟩, c4⟩
    · simp at h2
      subst h2
      have hno' : T'.at s ≠ .no := by rw [hxr']; simp
      obtain ⟨c1, c2, ⟨u, c3, c3'⟩, c4⟩ := hsim.cells s hns hno'
      obtain ⟨d1, d2⟩ := hcs s hns hno'
      exact ⟨by rw [if_neg hrs, if_pos rfl]; exact .inl c1, d2.trans c2, ⟨u, d1.trans c3, c3'⟩, c4⟩
  · by_cases hs' : s' ∈ src ++ [r]
    · rcases List.mem_append.1 hs' with h2 | h2
      · rw [hats s' h2] at hd'; cases hd'
      · simp at h2; subst h2; rw [hatr] at hd'; cases hd'
    · have hr2 := hw.resolve_left hs'
      have e5 : (T'.app (deads src ++ [(r, kp, V.own E sz (es.set i (lay e p x.cells)))])).at s' = T'.at s' := congrArg Prod.snd (hnot s' hs')
      rw [e5] at hd' hr'
      have hage := (hsim.ages s' _ _ hr').1
      rcases List.mem_append.1 hr2 with h2 | h2
      · have := hgs r' h2
        omega
      · simp at h2
        subst h2
        cases kp with
        | false =>
          have := St.gen_lt T' (deads src ++ [(r', false, V.own E sz (es.set i (lay e p x.cells)))]) r' (by rw [hsm.1]; exact hrl) ⟨_, List.mem_append_right _ (List.mem_singleton.2 rfl)⟩
          omega
        | true =>
          rw [St.gen_keep T' src r' _ hrs] at hr'
          obtain ⟨u', v', y', f1, f2, f3, f4, f5⟩ := hsim.deep s' r' hd' hr'
          rw [hxr'] at f3
          have hp : (T'.at s').path = [] := by
            cases hp : (T'.at s').path with
            | nil => rfl
            | cons q pa =>
              rw [hp] at f3
              obtain ⟨_, _, e', c, g1, _, g2, g3, g4⟩ := getp_own f3
              injection g1 with _ _ g1
              subst g1
              have hf := V.free_go (hkp rfl e' (List.mem_of_getElem? g2)) c (List.mem_of_getElem? g3)
              cases pa with
              | nil => injection g4 with g4; subst g4; cases c <;> first | (cases f4; done) | (cases hf; done)
              | cons q' pa' =>
                obtain ⟨_, _, _, _, g5, _⟩ := getp_own g4
                subst g5
                cases hf
          refine ⟨u', v', _, (hconc r' (.inr (by rw [hxr']; simp))).trans f1, (hconc s' (.inr (fun e => by rw [e] at hd'; cases hd'))).trans f2, by rw [e5, hp]; rfl, by rw [hatr]; rfl, ?_⟩
          rw [e5]
          exact f5.nil hp (setRow_agree w b _ _ fun o' hS => (hsim.mine r' b o' (hFb o').1).1 hS)
end
end Go.Proofs.Ytepeoiimdefnpaa.Vm
namespace Go.Proofs.Ytepeoiimdefnpaa.Vm
open Go
section
variable {P : Program} {C : Ctx} {T T' : St} {a : Act} {w : World} {S : Foot} {F : Nat → Foot} {loc : Nat → Addr} {rd : List Nat} {o : Oper} {d : Nat}
/-- A bound of a part: written, or the one that is meant. -/
def bnd (C : Ctx) (T : St) (rd : List Nat) (m0 m : Nat) : Option Operand → Prop
  | none => m = m0
  | some y => ∃ k, opv C T rd (.int k m) y
theorem bound_run (k : IntKind) (m y : Nat) (code : BoundsCode) (h : m ≤ y) (w : World) : (Instr.sliceBound (.int k (m : Int)) y code).run P w = .ok m w := by
  have h' : (m : Int) ≤ y := by omega
  simp [Instr.sliceBound, asIntOf, h']
theorem slice_run {t e sz n cap l h : Nat} {A : Option Addr} {lo hi : Option Operand} (ht : P.underlying t = some (.slice e)) (hsz : (P.info? e).map (·.size) = some sz) (hl : bnd C T rd 0 l lo) (hh : bnd C T rd n h hi) (hs : Same T T' rd) (hsim : SimB C T' a w S F loc) (h1 : l ≤ h) (h2 : h ≤ n) (h3 : n ≤ cap) :
    (Instr.sliceAt t (.slice A n cap) (lo.map a.eval) (hi.map a.eval) none).run P w = .ok (.slice (if cap = l then A else A.map (·.add (l * sz))) (h - l) (cap - l)) w := by
  have hsr := size_run (P := P) hsz w
  cases lo with
  | none =>
    have hl' : l = 0 := hl
    subst hl'
    cases hi with
    | none =>
      have hh' : h = n := hh
      subst hh'
      simp [Instr.sliceAt, Instr.slice, run_underlying ht, Instr.sliceBounds, hsr]
    | some y =>
      obtain ⟨k, hy⟩ := hh
      have hb : (Instr.sliceBound (.int k (h : Int)) cap .sliceAcap).run P w = .ok h w := bound_run _ _ _ _ (by omega) w
      simp [Instr.sliceAt, Instr.slice, run_underlying ht, Instr.sliceBounds, opv_eval hy hs hsim, hb, hsr]
  | some x =>
    obtain ⟨k, hx⟩ := hl
    cases hi with
    | none =>
      have hh' : h = n := hh
      subst hh'
      have hb : (Instr.sliceBound (.int k (l : Int)) h .sliceB).run P w = .ok l w := bound_run _ _ _ _ (by omega) w
      simp [Instr.sliceAt, Instr.slice, run_underlying ht, Instr.sliceBounds, opv_eval hx hs hsim, hb, hsr]
    | some y =>
      obtain ⟨k', hy⟩ := hh
      have hb : (Instr.sliceBound (.int k' (h : Int)) cap .sliceAcap).run P w = .ok h w := bound_run _ _ _ _ (by omega) w
      have hb' : (Instr.sliceBound (.int k (l : Int)) h .sliceB).run P w = .ok l w := bound_run _ _ _ _ (by omega) w
      simp [Instr.sliceAt, Instr.slice, run_underlying ht, Instr.sliceBounds, opv_eval hx hs hsim, opv_eval hy hs hsim, hb, hb', hsr]
/-- A part of a row that is read. -/
theorem exec_slice_row (s t e sz l h : Nat) (b : Bool) (es : List (List V)) (lo hi : Option Operand) (hop : o.op = .slice t (.tmp s) lo hi none) (hd : o.dst = some d) (hdn : d < C.nt) (hdl : d < T.length) (hdp : C.pin d = none) (hsr : s ∈ rd) (hs : s < C.nt)
    (ht : P.underlying t = some (.slice e)) (hsz : (P.info? e).map (·.size) = some sz) (hx : T.at s = .row b sz es) (hl : bnd C T rd 0 l lo) (hh : bnd C T rd es.length h hi) (h1 : l ≤ h) (h2 : h ≤ es.length) :
    Exec P C o rd T [(d, false, .row b sz ((es.drop l).take (h - l)))] :=
  exec_free _ hd hdn hdl hdp fun T' a w S F loc hsm hsim => by
    have hhld := hsim.held s hs ((hsm.at_ hsr).trans hx) (by simp) (fun _ => by simp) rfl
    have he : a.eval (.tmp s) = a.tmps.getD s undef := rfl
    generalize a.tmps.getD s undef = v at hhld he
    cases hhld with
    | row _ _ _ _ _ A cap U hz hc hm ha hcell hi' =>
      have hlen : ((es.drop l).take (h - l)).length = h - l := by simp; omega
      have hget : ∀ j e, ((es.drop l).take (h - l))[j]? = some e → es[l + j]? = some e := fun j e hj => by
        have hjl := (List.getElem?_eq_some_iff.1 hj).1
        rw [List.getElem?_take_of_lt (by omega), List.getElem?_drop] at hj
        exact hj
      refine ⟨.slice (if cap = l then A else A.map (·.add (l * sz))) (h - l) (cap - l), ?_, ?_⟩
      · simp only [execOp, hop, he, Sem.run_bind, slice_run (A := A) ht hsz hl hh hsm hsim h1 h2 hc, Option.map_none, Result.andThen_ok, Sem.run_pure]
      · have := Hold.row (w := w) (S := S) C.B Foot.none b sz ((es.drop l).take (h - l)) (if cap = l then A else A.map (·.add (l * sz))) (cap - l) (fun k => U (l * sz + k)) (fun e he => hz e (List.mem_of_mem_drop (List.mem_of_mem_take he))) (by omega) (by omega) (fun hp => by
            obtain ⟨ad, rfl⟩ := ha (by omega)
            rw [if_neg (by omega)]
            exact ⟨_, rfl⟩) (fun ad j i e c hA hj hc' => by
            have hjl := (List.getElem?_eq_some_iff.1 hj).1
            rw [if_neg (by omega)] at hA
            obtain ⟨ad0, rfl⟩ := ha (by omega)
            simp only [Option.map_some, Option.some.injEq] at hA
            subst hA
            have h4 := hcell ad0 (l + j) i e c rfl (hget j e hj) hc'
            have e4 : (l + j) * sz + i = l * sz + (j * sz + i) := by rw [Nat.add_mul]; omega
            rw [e4] at h4
            have e5 : (ad0.add (l * sz)).add (j * sz + i) = ad0.add (l * sz + (j * sz + i)) := by
              unfold Addr.add
              by_cases q1 : l * sz = 0 <;> by_cases q2 : j * sz + i = 0 <;> simp_all [Nat.add_assoc]
            rw [e5]
            exact h4) fun j i e c hj hc' => by
            have h4 := hi' (l + j) i e c (hget j e hj) hc'
            have e4 : (l + j) * sz + i = l * sz + (j * sz + i) := by rw [Nat.add_mul]; omega
            rw [e4] at h4
            exact h4
        rw [hlen] at this
        exact this
/-- A part of a row of one's own: it lies in it. -/
theorem exec_slice_own (s r t e E sz l h : Nat) (es : List (List V)) (lo hi : Option Operand) (hop : o.op = .slice t (.tmp s) lo hi none) (hd : o.dst = some d) (hdn : d < C.nt) (hdl : d < T.length) (hdp : C.pin d = none) (hne : r ≠ d)
    (ht : P.underlying t = some (.slice e)) (hsz : (P.info? e).map (·.size) = some sz) (ho : Own1 C T rd s r E sz es) (hl : bnd C T rd 0 l lo) (hh : bnd C T rd es.length h hi) (h1 : l ≤ h) (h2 : h ≤ es.length) :
    Exec P C o rd T [(d, false, .vw r (T.gen r) sz l (h - l))] :=
  exec_link _ r rfl ho.2.2.1 hne hd hdn hdl hdp fun T' a w S F loc hsm hsim => by
    obtain ⟨_, _, h3, v, h4, h5, hhld⟩ := ho.get hsm hsim
    obtain ⟨A, cap, hrd, hA⟩ := own_cells hhld
    refine ⟨v, .slice (if cap = l then A else A.map (·.add (l * sz))) (h - l) (cap - l), ?_, h5, ⟨_, _, rfl, by have := hrd.le; omega, fun hp => ?_⟩, h3⟩
    · have hle := hrd.le
      simp only [execOp, hop, h4, hrd.eq, Sem.run_bind, slice_run (A := A) ht hsz hl hh hsm hsim h1 h2 hle, Option.map_none, Result.andThen_ok, Sem.run_pure]
    · obtain ⟨b, rfl⟩ := hA (by omega)
      refine ⟨b, es.length, cap, hrd.eq, by omega, ?_⟩
      have hle := hrd.le
      rw [if_neg (by omega)]
      simp [addr_add_of]
/-- A row of one's own is cut: what is behind isn't told any more. -/
theorem exec_cut (s r t e E sz h : Nat) (es : List (List V)) (lo hi : Option Operand) (hop : o.op = .slice t (.tmp s) lo hi none) (hd : o.dst = some d) (hdn : d < C.nt) (hdl : d < T.length) (hdp : C.pin d = none) (hrl : r < T.length)
    (ht : P.underlying t = some (.slice e)) (hsz : (P.info? e).map (·.size) = some sz) (ho : Own1 C T rd s r E sz es) (hl : bnd C T rd 0 0 lo) (hh : bnd C T rd es.length h hi) (h2 : h ≤ es.length) :
    Exec P C o rd T [(r, false, .dead), (d, false, .own E sz (es.take h))] :=
  exec_of [r] _ hd hdn hdl hdp (fun s hs => by simp at hs; omega) fun T' a w S F loc hsm hsim => by
    obtain ⟨e1, _, h3, v, h4, h5, hhld⟩ := ho.get hsm hsim
    cases hhld with
    | own _ _ _ _ _ _ us G hz hp how hFv hs hG hone hi =>
      have hsl : ∃ A cap, v = .slice A es.length cap ∧ es.length ≤ cap ∧ w.ownsRow 0 E sz (.slice A h cap) h (us.take (h * sz)) ∧ (Value.slice A h cap).ownBlock = v.ownBlock := by
        have hlen : (us.take (h * sz)).length = h * sz := by
          rw [List.length_take, how.1]
          exact Nat.min_eq_left (Nat.mul_le_mul_right _ h2)
        rcases how.2 with ⟨rfl, h0⟩ | ⟨g, cap, cur, rfl, _, hg, hnc, hcm, hcs, htake⟩
        · have hh0 : h = 0 := by omega
          subst hh0
          exact ⟨none, 0, by rw [h0], by omega, ⟨by simp, .inl ⟨rfl, rfl⟩⟩, rfl⟩
        · refine ⟨_, cap, rfl, hnc, ⟨hlen, .inr ⟨g, cap, cur, rfl, Nat.zero_le _, hg, by omega, hcm, hcs, ?_⟩⟩, rfl⟩
          rw [← htake, List.take_take, Nat.min_eq_left (Nat.mul_le_mul_right _ h2)]
      obtain ⟨A, cap, rfl, hcap, how', hob⟩ := hsl
      have hlt : (es.take h).length = h := by simp; omega
      refine ⟨.slice A h cap, w, S, inner C (F r) loc r, ?_, .refl _ _, fun _ _ h => h, fun _ _ h => .inl h, fun b o' hb => .inl ⟨r, by simp, hb⟩, fun s hs => by simp at hs; subst hs; rw [e1]; simp, .inl ?_⟩
      · simp only [execOp, hop, h4, Sem.run_bind, slice_run (A := A) ht hsz hl hh hsm hsim (Nat.zero_le _) h2 hcap, Option.map_none, Result.andThen_ok, Sem.run_pure, Nat.sub_zero, Nat.zero_mul]
        congr 3
        by_cases hc0 : cap = 0
        · simp [hc0]
        · rw [if_neg hc0]
          cases A <;> simp [Addr.add]
      · refine .own _ _ E sz _ (es.take h) (us.take (h * sz)) G (fun e he => hz e (List.mem_of_mem_take he)) hp (by rw [hlt]; exact how') (fun b hb o' => hFv b (by rw [← hob]; exact hb) o') hs (fun k b o' hb => hG k b o' (by rw [← hob]; exact hb)) (fun u hu => hone u (List.mem_of_mem_take hu)) fun j i e c u hj hc hu => ?_
        have hjl := (List.getElem?_eq_some_iff.1 hj).1
        rw [List.getElem?_take_of_lt (by omega)] at hj
        refine hi j i e c u hj hc ?_
        have hul := (List.getElem?_eq_some_iff.1 hu).1
        rw [List.getElem?_take_of_lt (by simp at hul; omega)] at hu
        exact hu
/-- A part of a value that a call brought, or of a struct: it's taken out. -/
theorem exec_extract (s ix : Nat) (cs : List V) (c : V) (hop : o.op = .extract (.tmp s) ix) (hd : o.dst = some d) (hdn : d < C.nt) (hdl : d < T.length) (hdp : C.pin d = none) (hsr : s ∈ rd) (hs : s < C.nt) (hx : T.at s = .tup cs) (hc : cs[ix]? = some c) (hf : c.free = true) : Exec P C o rd T [(d, false, c)] :=
  exec_free _ hd hdn hdl hdp fun T' a w S F loc hsm hsim => by
    have hh := hsim.held s hs ((hsm.at_ hsr).trans hx) (by simp) (fun _ => by simp) rfl
    have he : a.eval (.tmp s) = a.tmps.getD s undef := rfl
    generalize a.tmps.getD s undef = v at hh he
    cases hh with
    | tup _ _ vs _ G hn hs' hi =>
      have hix := (List.getElem?_eq_some_iff.1 hc).1
      have hv : vs[ix]? = some vs[ix] := Array.getElem?_eq_getElem (by omega)
      exact ⟨vs[ix], by simp [execOp, hop, he, Instr.extract, hv], (hi ix _ c hv hc).unfoot hf⟩
/-- The same where rows of one's own go with it. -/
theorem exec_extract_take (s ix : Nat) (cs : List V) (c : V) (hop : o.op = .extract (.tmp s) ix) (hd : o.dst = some d) (hdn : d < C.nt) (hdl : d < T.length) (hdp : C.pin d = none) (hsr : s ∈ rd) (hs : s < C.nt) (hsl : s < T.length) (hx : T.at s = .tup cs) (hc : cs[ix]? = some c) : Exec P C o rd T [(s, false, .dead), (d, false, c)] :=
  exec_of [s] _ hd hdn hdl hdp (fun s hs => by simp at hs; omega) fun T' a w S F loc hsm hsim => by
    have hxs : T'.at s = .tup cs := (hsm.at_ hsr).trans hx
    have hsl' := hsim.slot s
    rw [hxs] at hsl'
    obtain ⟨v, h5, hh⟩ := hsl'.held (by simp) (fun _ => by simp) rfl
    cases hh with
    | tup _ _ vs _ G hn hs' hi =>
      have hix := (List.getElem?_eq_some_iff.1 hc).1
      have hv : vs[ix]? = some vs[ix] := Array.getElem?_eq_getElem (by omega)
      refine ⟨vs[ix], w, S, G ix, by simp [execOp, hop, conc_eval hs h5, Instr.extract, hv], .refl _ _, fun _ _ h => h, fun _ _ h => .inl h, fun b o' hb => .inl ⟨s, by simp, hs'.sub _ _ _ hb⟩, fun s' hs'' => by simp at hs''; subst hs''; rw [hxs]; simp, .inl (hi ix _ c hv hc)⟩
/-- A struct's field, of a value. -/
def fieldOf (P : Program) (t f : Nat) : Option (Nat × Bool × Nat) := match P.underlying t with
  | some (.struct fs) => (fs[f]?).bind fun fd => (aggT P fd.type).bind fun b => (P.info? fd.type).map fun i => (fd.offset, b, i.size)
  | _ => none
theorem exec_field (s t f off sz : Nat) (cs : List V) (c : V) (hop : o.op = .field t (.tmp s) f) (hd : o.dst = some d) (hdn : d < C.nt) (hdl : d < T.length) (hdp : C.pin d = none) (hsr : s ∈ rd) (hs : s < C.nt) (hf : fieldOf P t f = some (off, false, sz)) (hx : T.at s = .agg cs) (hc : cs[off]? = some c) (hfr : c.free = true) : Exec P C o rd T [(d, false, c)] :=
  exec_free _ hd hdn hdl hdp fun T' a w S F loc hsm hsim => by
    have hh := hsim.held s hs ((hsm.at_ hsr).trans hx) (by simp) (fun _ => by simp) rfl
    have he : a.eval (.tmp s) = a.tmps.getD s undef := rfl
    generalize a.tmps.getD s undef = v at hh he
    cases hh with
    | agg _ _ vs _ G hn hs' h1 hi =>
      have hix := (List.getElem?_eq_some_iff.1 hc).1
      have hv : vs[off]? = some vs[off] := Array.getElem?_eq_getElem (by omega)
      refine ⟨vs[off], ?_, (hi off _ c hv hc).unfoot hfr⟩
      unfold fieldOf at hf
      split at hf
      · rename_i fs hu
        obtain ⟨fd, q1, q2⟩ := Option.bind_eq_some_iff.1 hf
        obtain ⟨b, q3, q4⟩ := Option.bind_eq_some_iff.1 q2
        obtain ⟨i, q5, q6⟩ := Option.map_eq_some_iff.1 q4
        simp only [Prod.mk.injEq] at q6
        obtain ⟨rfl, rfl, rfl⟩ := q6
        simp [execOp, hop, he, Instr.field, run_underlying hu, q1, asAgg, part, isAgg_run q3, hv]
      · simp at hf
theorem exec_field_agg (s t f off sz : Nat) (cs ds : List V) (hop : o.op = .field t (.tmp s) f) (hd : o.dst = some d) (hdn : d < C.nt) (hdl : d < T.length) (hdp : C.pin d = none) (hsr : s ∈ rd) (hs : s < C.nt) (hf : fieldOf P t f = some (off, true, sz)) (hx : T.at s = .agg cs) (hc : (cs.drop off).take sz = ds) (hfr : (V.agg ds).free = true) : Exec P C o rd T [(d, false, .agg ds)] :=
  exec_free _ hd hdn hdl hdp fun T' a w S F loc hsm hsim => by
    have hh := hsim.held s hs ((hsm.at_ hsr).trans hx) (by simp) (fun _ => by simp) rfl
    have he : a.eval (.tmp s) = a.tmps.getD s undef := rfl
    generalize a.tmps.getD s undef = v at hh he
    cases hh with
    | agg _ _ vs _ G hn hs' h1 hi =>
      have hrel : ∀ (i : Nat) (u : Value) (c : V), (vs.extract off (off + sz))[i]? = some u → ds[i]? = some c → vs[off + i]? = some u ∧ cs[off + i]? = some c := fun i u c hu hci => by
        have hil := (List.getElem?_eq_some_iff.1 hci).1
        rw [← hc] at hci hil
        simp only [List.length_take, List.length_drop] at hil
        rw [List.getElem?_take_of_lt (by omega), List.getElem?_drop] at hci
        refine ⟨?_, hci⟩
        rw [Array.getElem?_extract] at hu
        split at hu
        · exact hu
        · cases hu
      refine ⟨.agg (vs.extract off (off + sz)), ?_, .agg _ _ _ ds (fun _ => Foot.none) ?_ (Split.none _) (fun i u c hu hci => h1 _ u c (hrel i u c hu hci).1 (hrel i u c hu hci).2) fun i u c hu hci => (hi _ u c (hrel i u c hu hci).1 (hrel i u c hu hci).2).unfoot (V.free_go (by simpa [V.free] using hfr) c (List.mem_of_getElem? hci))⟩
      · unfold fieldOf at hf
        split at hf
        · rename_i fs hu
          obtain ⟨fd, q1, q2⟩ := Option.bind_eq_some_iff.1 hf
          obtain ⟨b, q3, q4⟩ := Option.bind_eq_some_iff.1 q2
          obtain ⟨i, q5, q6⟩ := Option.map_eq_some_iff.1 q4
          simp only [Prod.mk.injEq] at q6
          obtain ⟨rfl, rfl, rfl⟩ := q6
          simp [execOp, hop, he, Instr.field, run_underlying hu, q1, asAgg, part, isAgg_run q3, size_run (P := P) (show (P.info? fd.type).map (·.size) = some i.size by rw [q5]; rfl)]
        · simp at hf
      · rw [← hc]
        simp
        omega
end
end Go.Proofs.Ytepeoiimdefnpaa.Vm
namespace Go.Proofs.Ytepeoiimdefnpaa.Vm
open Go
/-- What a list of effects does to one slot. -/
def act (E : Eff) (s : Nat) (x : Nat × V) : Nat × V := E.foldl (fun x e => if e.1 = s then ((if e.2.1 then x.1 else x.1 + 1), e.2.2) else x) x
theorem St.app_get (T : St) (E : Eff) (s : Nat) : (T.app E)[s]? = T[s]?.map (act E s) := by
  induction E generalizing T with
  | nil => show T[s]? = T[s]?.map id; simp
  | cons e E ih =>
    have h1 : T.app (e :: E) = St.app (T.set e.1 ((if e.2.1 then T.gen e.1 else T.gen e.1 + 1), e.2.2)) E := rfl
    rw [h1, ih]
    by_cases he : e.1 = s
    · subst he
      by_cases hl : e.1 < T.length
      · rw [List.getElem?_set_self hl, List.getElem?_eq_getElem hl]
        simp [act, St.gen, hl]
      · rw [List.getElem?_eq_none (by simpa using hl), List.getElem?_eq_none (by omega)]
        rfl
    · rw [List.getElem?_set_ne he]
      congr 1
      funext x
      simp [act, he]
theorem act_not {E : Eff} {s : Nat} (h : s ∉ E.map (·.1)) (x : Nat × V) : act E s x = x := by
  unfold act
  induction E generalizing x with
  | nil => rfl
  | cons e E ih =>
    have h1 : e.1 ≠ s := fun e' => h (by simp [e'])
    rw [List.foldl_cons, if_neg h1]
    exact ih (fun hm => h (List.mem_cons_of_mem _ hm)) x
/-- A region's text: of each operation the slots that it reads and what it writes. -/
abbrev Steps := List (List Nat × Eff)
def appD (D : Nat → Bool) : Nat → Steps → St → St
  | _, [], T => T
  | i, p :: l, T => appD D (i + 1) l (if D i then T.app p.2 else T)
def actD (D : Nat → Bool) : Nat → Steps → Nat → Nat × V → Nat × V
  | _, [], _, x => x
  | i, p :: l, s, x => actD D (i + 1) l s (if D i then act p.2 s x else x)
theorem appD_get (D : Nat → Bool) (i : Nat) (l : Steps) (T : St) (s : Nat) : (appD D i l T)[s]? = T[s]?.map (actD D i l s) := by
  induction l generalizing i T with
  | nil => show T[s]? = T[s]?.map id; simp
  | cons p l ih =>
    simp only [appD, actD]
    rw [ih]
    by_cases h : D i = true
    · simp only [h, if_true, St.app_get, Option.map_map]
      rfl
    · simp only [h]
      rfl
theorem appD_length (D : Nat → Bool) (i : Nat) (l : Steps) (T : St) : (appD D i l T).length = T.length := by
  induction l generalizing i T with
  | nil => rfl
  | cons p l ih =>
    simp only [appD]
    rw [ih]
    split
    · exact St.length_app _ _
    · rfl
theorem actD_congr {D D' : Nat → Bool} {i : Nat} {l : Steps} {s : Nat} (h : ∀ k p, l[k]? = some p → s ∈ p.2.map (·.1) → D (i + k) = D' (i + k)) (x : Nat × V) : actD D i l s x = actD D' i l s x := by
  induction l generalizing i x with
  | nil => rfl
  | cons p l ih =>
    simp only [actD]
    have h0 : (if D i = true then act p.2 s x else x) = (if D' i = true then act p.2 s x else x) := by
      by_cases hs : s ∈ p.2.map (·.1)
      · have := h 0 p rfl hs
        rw [Nat.add_zero] at this
        rw [this]
      · rw [act_not hs]; simp
    rw [h0]
    exact ih (fun k q hq hs => by
      have := h (k + 1) q (by simpa using hq) hs
      rwa [show i + (k + 1) = i + 1 + k by omega] at this) _
theorem actD_id {D : Nat → Bool} {i : Nat} {l : Steps} {s : Nat} (h : ∀ k p, l[k]? = some p → s ∈ p.2.map (·.1) → D (i + k) = false) (x : Nat × V) : actD D i l s x = x := by
  induction l generalizing i x with
  | nil => rfl
  | cons p l ih =>
    simp only [actD]
    have h0 : (if D i = true then act p.2 s x else x) = x := by
      by_cases hs : s ∈ p.2.map (·.1)
      · have := h 0 p rfl hs
        rw [Nat.add_zero] at this
        rw [this]; rfl
      · rw [act_not hs]; simp
    rw [h0]
    exact ih (fun k q hq hs => by
      have := h (k + 1) q (by simpa using hq) hs
      rwa [show i + (k + 1) = i + 1 + k by omega] at this) _
/-- One more: it comes last among those that write a slot. -/
theorem actD_last {D : Nat → Bool} {i m : Nat} {l : Steps} {s : Nat} {p : List Nat × Eff} (hp : l[m]? = some p) (hD : D (i + m) = false) (h : ∀ k q, l[k]? = some q → s ∈ q.2.map (·.1) → m < k → D (i + k) = false) (x : Nat × V) :
    actD (fun k => D k || k == i + m) i l s x = act p.2 s (actD D i l s x) := by
  induction l generalizing i m x with
  | nil => simp at hp
  | cons q l ih =>
    simp only [actD]
    cases m with
    | zero =>
      simp at hp
      subst hp
      rw [Nat.add_zero] at hD
      simp only [hD, Nat.add_zero, BEq.rfl, Bool.or_true, if_true]
      have e1 : ∀ y, actD (fun k => D k || k == i) (i + 1) l s y = y := fun y => actD_id (fun k q hq hs => by
        have := h (k + 1) q (by simpa using hq) hs (by omega)
        rw [show i + 1 + k = i + (k + 1) by omega, this]
        simp) y
      have e2 : ∀ y, actD D (i + 1) l s y = y := fun y => actD_id (fun k q hq hs => by
        have := h (k + 1) q (by simpa using hq) hs (by omega)
        rw [show i + 1 + k = i + (k + 1) by omega, this]) y
      rw [e1, e2]
      rfl
    | succ m =>
      have hne : (i == i + (m + 1)) = false := by simp
      simp only [hne, Bool.or_false]
      have := ih (i := i + 1) (m := m) (by simpa using hp) (by rw [show i + 1 + m = i + (m + 1) by omega]; exact hD) (fun k q hq hs hk => by
        have := h (k + 1) q (by simpa using hq) hs (by omega)
        rwa [show i + (k + 1) = i + 1 + k by omega] at this) (if D i = true then act q.2 s x else x)
      rw [show i + (m + 1) = i + 1 + m by omega]
      exact this
/-- Which operations come ahead of each, as bits. -/
def befs (ops : List Oper) : List Nat := ops.foldl (fun acc o => acc ++ [o.after.toList.foldl (fun s e => if Region.binds .any e then s ||| 2 ^ e.on ||| acc.getD e.on 0 else s) 0]) []
theorem fold_bit {acc : List Nat} {l : List Edge} {s0 i : Nat} (h : (l.foldl (fun s e => if Region.binds .any e then s ||| 2 ^ e.on ||| acc.getD e.on 0 else s) s0).testBit i = true) :
    s0.testBit i = true ∨ ∃ e, e ∈ l ∧ Region.binds .any e = true ∧ (e.on = i ∨ (acc.getD e.on 0).testBit i = true) := by
  induction l generalizing s0 with
  | nil => exact .inl h
  | cons e l ih =>
    rw [List.foldl_cons] at h
    rcases ih h with h | ⟨e', h1, h2⟩
    · split at h
      · rename_i hb
        simp only [Nat.testBit_or, Bool.or_eq_true] at h
        rcases h with (h | h) | h
        · exact .inl h
        · rw [Nat.testBit_two_pow] at h
          exact .inr ⟨e, by simp, hb, .inl (of_decide_eq_true h)⟩
        · exact .inr ⟨e, by simp, hb, .inr h⟩
      · exact .inl h
    · exact .inr ⟨e', List.mem_cons_of_mem _ h1, h2⟩
theorem befs_closed {ops : List Oper} {D : Nat → Bool} (hD : ∀ k o, ops[k]? = some o → D k = true → ∀ e, e ∈ o.after.toList → Region.binds .any e = true → D e.on = true) :
    ∀ k i, ((befs ops).getD k 0).testBit i = true → D k = true → D i = true := by
  have key : ∀ (l : List Oper) (acc : List Nat), (∀ k o, l[k]? = some o → ops[acc.length + k]? = some o) → (∀ k i, (acc.getD k 0).testBit i = true → D k = true → D i = true) →
      ∀ k i, ((l.foldl (fun acc o => acc ++ [o.after.toList.foldl (fun s e => if Region.binds .any e then s ||| 2 ^ e.on ||| acc.getD e.on 0 else s) 0]) acc).getD k 0).testBit i = true → D k = true → D i = true := by
    intro l
    induction l with
    | nil => intro acc _ h; exact h
    | cons o l ih =>
      intro acc hl hacc
      rw [List.foldl_cons]
      refine ih _ (fun k o' ho => ?_) fun k i hb hk => ?_
      · have := hl (k + 1) o' (by simpa using ho)
        simp only [List.length_append, List.length_singleton]
        rwa [show acc.length + 1 + k = acc.length + (k + 1) by omega]
      · rw [List.getD_eq_getElem?_getD] at hb
        by_cases h1 : k < acc.length
        · rw [List.getElem?_append_left h1, ← List.getD_eq_getElem?_getD] at hb
          exact hacc k i hb hk
        · by_cases h2 : k = acc.length
          · subst h2
            simp only [List.getElem?_append_right (Nat.le_refl _), Nat.sub_self, List.getElem?_cons_zero, Option.getD_some] at hb
            rcases fold_bit hb with hb | ⟨e, h3, h4, h5⟩
            · simp at hb
            · have ho := hl 0 o rfl
              rw [Nat.add_zero] at ho
              have hde := hD _ o ho hk e h3 h4
              rcases h5 with rfl | h5
              · exact hde
              · exact hacc _ _ h5 hde
          · rw [List.getElem?_eq_none (by simp; omega)] at hb
            simp at hb
  exact fun k i => key ops [] (fun k o h => by simpa using h) (fun k i h => by simp at h) k i
/-- Two operations that may not change places. -/
def clash (p q : List Nat × Eff) : Bool := (p.2.any fun e => q.1.contains e.1 || q.2.any fun f => f.1 == e.1) || (p.1.any fun s => q.2.any fun f => f.1 == s)
def okFrom (b : List Nat) (p : List Nat × Eff) (i : Nat) : Nat → Steps → Bool
  | _, [] => true
  | j, q :: l => (!clash p q || (b.getD j 0).testBit i) && okFrom b p i (j + 1) l
def okAll (b : List Nat) : Nat → Steps → Bool
  | _, [] => true
  | i, p :: l => okFrom b p i (i + 1) l && okAll b (i + 1) l
theorem okFrom_get {b : List Nat} {p : List Nat × Eff} {i j k : Nat} {l : Steps} {q : List Nat × Eff} (h : okFrom b p i j l = true) (hq : l[k]? = some q) (hc : clash p q = true) : (b.getD (j + k) 0).testBit i = true := by
  induction l generalizing j k with
  | nil => simp at hq
  | cons r l ih =>
    simp only [okFrom, Bool.and_eq_true, Bool.or_eq_true, Bool.not_eq_true'] at h
    cases k with
    | zero =>
      simp at hq
      subst hq
      rw [hc] at h
      simpa using h.1
    | succ k =>
      have := ih h.2 (k := k) (by simpa using hq)
      rwa [show j + 1 + k = j + (k + 1) by omega] at this
theorem okAll_get {b : List Nat} {i m n : Nat} {l : Steps} {p q : List Nat × Eff} (h : okAll b i l = true) (hp : l[m]? = some p) (hq : l[n]? = some q) (hlt : m < n) (hc : clash p q = true) : (b.getD (i + n) 0).testBit (i + m) = true := by
  induction l generalizing i m n with
  | nil => simp at hp
  | cons r l ih =>
    simp only [okAll, Bool.and_eq_true] at h
    cases n with
    | zero => omega
    | succ n =>
      cases m with
      | zero =>
        simp at hp
        subst hp
        have := okFrom_get h.1 (k := n) (by simpa using hq) hc
        rwa [show i + 1 + n = i + (n + 1) by omega] at this
      | succ m =>
        have := ih h.2 (m := m) (n := n) (by simpa using hp) (by simpa using hq) (by omega)
        rwa [show i + 1 + n = i + (n + 1) by omega, show i + 1 + m = i + (m + 1) by omega] at this
theorem clash_rw {p q : List Nat × Eff} {s : Nat} (h1 : s ∈ p.1) (h2 : s ∈ q.2.map (·.1)) : clash p q = true := by
  unfold clash
  simp only [Bool.or_eq_true, List.any_eq_true]
  obtain ⟨f, hf, rfl⟩ := List.mem_map.1 h2
  exact .inr ⟨f.1, h1, f, hf, by simp⟩
theorem clash_wr {p q : List Nat × Eff} {s : Nat} (h1 : s ∈ p.2.map (·.1)) (h2 : s ∈ q.1) : clash p q = true := by
  unfold clash
  simp only [Bool.or_eq_true, List.any_eq_true]
  obtain ⟨e, he, rfl⟩ := List.mem_map.1 h1
  exact .inl ⟨e, he, .inl (by simpa using h2)⟩
theorem clash_ww {p q : List Nat × Eff} {s : Nat} (h1 : s ∈ p.2.map (·.1)) (h2 : s ∈ q.2.map (·.1)) : clash p q = true := by
  unfold clash
  simp only [Bool.or_eq_true, List.any_eq_true]
  obtain ⟨e, he, rfl⟩ := List.mem_map.1 h1
  obtain ⟨f, hf, hfe⟩ := List.mem_map.1 h2
  exact .inl ⟨e, he, .inr ⟨f, hf, by simp [hfe]⟩⟩
/-- No operation waits for a later one of the text. -/
def back (ops : List Oper) : Bool := ops.zipIdx.all fun (o, j) => o.after.toList.all fun e => !Region.binds .any e || e.on < j
theorem back_get {ops : List Oper} (h : back ops = true) {k : Nat} {o : Oper} (ho : ops[k]? = some o) {e : Edge} (he : e ∈ o.after.toList) (hb : Region.binds .any e = true) : e.on < k := by
  unfold back at h
  rw [List.all_eq_true] at h
  have h1 := h (o, k) (by rw [List.mem_iff_getElem?]; exact ⟨k, by simp [ho]⟩)
  rw [List.all_eq_true] at h1
  have h2 := h1 e he
  simpa [hb] using h2
/-- Several results, two at least. -/
def V.pr2 : V → Bool
  | .tup cs => Nat.ble 2 cs.length
  | _ => false
/-- What is read of a slot's shape alone (a number behind the slots): it holds several results. -/
def Shp (T' : St) (rd : List Nat) : Prop := ∀ s, T'.length + s ∈ rd → (T'.at s).pr2 = true
/-- A shape that is read: all that write the slot write several results, and one of them is ahead. -/
def shAt (b N j : Nat) (l : Steps) (c : Nat) : Bool := c.blt N || ((c - N).blt N && (l.all fun q => q.2.all fun e => !Nat.beq e.1 (c - N) || e.2.2.pr2) && l.zipIdx.any fun q => !Nat.beq q.2 j && b.testBit q.2 && q.1.2.any fun e => Nat.beq e.1 (c - N))
def shAll (bs : List Nat) (N : Nat) (l : Steps) : Bool := l.zipIdx.all fun p => p.1.1.all fun c => shAt (bs.getD p.2 0) N p.2 l c
theorem act_pr2 {E : Eff} {s : Nat} (hE : ∀ e, e ∈ E → e.1 = s → e.2.2.pr2 = true) {x : Nat × V} (hx : x.2.pr2 = true ∨ ∃ e, e ∈ E ∧ e.1 = s) : (act E s x).2.pr2 = true := by
  unfold act
  induction E generalizing x with
  | nil =>
    rcases hx with h | ⟨e, h, _⟩
    · exact h
    · simp at h
  | cons e E ih =>
    rw [List.foldl_cons]
    refine ih (fun f hf => hE f (List.mem_cons_of_mem _ hf)) ?_
    by_cases he : e.1 = s
    · rw [if_pos he]; exact .inl (hE e (by simp) he)
    · rw [if_neg he]
      rcases hx with h | ⟨f, h, h'⟩
      · exact .inl h
      · rcases List.mem_cons.1 h with rfl | h
        · exact absurd h' he
        · exact .inr ⟨f, h, h'⟩
theorem actD_pr2 {D : Nat → Bool} {s : Nat} : ∀ {l : Steps} {i : Nat} {x : Nat × V}, (∀ q, q ∈ l → ∀ e, e ∈ q.2 → e.1 = s → e.2.2.pr2 = true) → (x.2.pr2 = true ∨ ∃ m q, l[m]? = some q ∧ D (i + m) = true ∧ ∃ e, e ∈ q.2 ∧ e.1 = s) → (actD D i l s x).2.pr2 = true
  | [], i, x, _, h => by
    rcases h with h | ⟨m, q, h, _⟩
    · exact h
    · simp at h
  | p :: l, i, x, hE, h => by
    simp only [actD]
    refine actD_pr2 (fun q hq => hE q (List.mem_cons_of_mem _ hq)) ?_
    rcases h with h | ⟨m, q, h1, h2, h3⟩
    · refine .inl ?_
      split
      · exact act_pr2 (hE p (by simp)) (.inl h)
      · exact h
    · cases m with
      | zero =>
        simp at h1
        subst h1
        rw [Nat.add_zero] at h2
        rw [if_pos h2]
        exact .inl (act_pr2 (hE p (by simp)) (.inr h3))
      | succ m => exact .inr ⟨m, q, by simpa using h1, by rw [show i + 1 + m = i + (m + 1) by omega]; exact h2, h3⟩
theorem shAt_of {b N j : Nat} {l : Steps} {s : Nat} (h : shAt b N j l (N + s) = true) : s < N ∧ (∀ q, q ∈ l → ∀ e, e ∈ q.2 → e.1 = s → e.2.2.pr2 = true) ∧ ∃ m q, l[m]? = some q ∧ m ≠ j ∧ b.testBit m = true ∧ ∃ e, e ∈ q.2 ∧ e.1 = s := by
  have h0 : (N + s).blt N = false := by
    cases hb : (N + s).blt N with
    | false => rfl
    | true => have := Nat.le_of_ble_eq_true hb; omega
  unfold shAt at h
  rw [h0, Bool.false_or, show N + s - N = s by omega] at h
  simp only [Bool.and_eq_true, List.all_eq_true, List.any_eq_true, Bool.or_eq_true, Bool.not_eq_true'] at h
  obtain ⟨⟨h1, h2⟩, ⟨q, m⟩, h3, ⟨h3', h4⟩, e, h5, h6⟩ := h
  refine ⟨Nat.le_of_ble_eq_true h1, fun q hq e he hs => ?_, m, q, ?_, (fun hm => by subst hm; rw [Nat.beq_refl] at h3'; cases h3'), h4, e, h5, Nat.eq_of_beq_eq_true h6⟩
  · rcases h2 q hq e he with h | h
    · rw [hs, Nat.beq_refl] at h; cases h
    · exact h
  · rw [List.mem_iff_getElem?] at h3
    obtain ⟨k, h3⟩ := h3
    rw [List.getElem?_zipIdx] at h3
    cases hk : l[k]? with
    | none => rw [hk] at h3; simp at h3
    | some y => rw [hk] at h3; simp at h3; obtain ⟨rfl, rfl⟩ := h3; exact hk
theorem shAll_get {bs : List Nat} {N : Nat} {l : Steps} (h : shAll bs N l = true) {j : Nat} {p : List Nat × Eff} (hp : l[j]? = some p) {c : Nat} (hc : c ∈ p.1) : shAt (bs.getD j 0) N j l c = true := by
  unfold shAll at h
  rw [List.all_eq_true] at h
  have := h (p, j) (by rw [List.mem_iff_getElem?]; exact ⟨j, by simp [hp]⟩)
  rw [List.all_eq_true] at this
  exact this c hc
/-- A step of a region's text. -/
def StepI (P : Program) (C : Ctx) (ops : Array Oper) (i : Nat) (rd : List Nat) (T : St) (E : Eff) : Prop :=
  ∀ T' a w, Same T T' rd → Sim C T' a w → ∀ (Q : Exit → Act → World → Prop) (K : Act → World → Prop), (∀ a' w', Sim C (T'.app E) a' w' → K a' w') → wpOp P ops Q i K a w
/-- The same where a slot's shape is read too. -/
def StepJ (P : Program) (C : Ctx) (ops : Array Oper) (i : Nat) (rd : List Nat) (T : St) (E : Eff) : Prop :=
  ∀ T' a w, Same T T' rd → Shp T' rd → Sim C T' a w → ∀ (Q : Exit → Act → World → Prop) (K : Act → World → Prop), (∀ a' w', Sim C (T'.app E) a' w' → K a' w') → wpOp P ops Q i K a w
theorem StepI.j {P : Program} {C : Ctx} {ops : Array Oper} {i : Nat} {rd : List Nat} {T : St} {E : Eff} (h : StepI P C ops i rd T E) : StepJ P C ops i rd T E := fun T' a w h1 _ => h T' a w h1
/-- A region's text, walked. -/
inductive Run (P : Program) (C : Ctx) (ops : Array Oper) : Nat → St → Steps → St → Prop
  | nil (T) : Run P C ops ops.size T [] T
  | cons {i T rd E l T'} (h : StepI P C ops i rd T E) (hr : Run P C ops (i + 1) (T.app E) l T') : Run P C ops i T ((rd, E) :: l) T'
  | consS {i T rd E l T'} (h : StepJ P C ops i rd T E) (hp : Shp T rd) (hr : Run P C ops (i + 1) (T.app E) l T') : Run P C ops i T ((rd, E) :: l) T'
theorem Run.len {P : Program} {C : Ctx} {ops : Array Oper} {i : Nat} {T T' : St} {l : Steps} (h : Run P C ops i T l T') : i + l.length = ops.size := by
  induction h with
  | nil => simp
  | cons h hr ih => simp only [List.length_cons]; omega
  | consS h hsp hr ih => simp only [List.length_cons]; omega
theorem Run.last {P : Program} {C : Ctx} {ops : Array Oper} {i : Nat} {T T' : St} {l : Steps} (h : Run P C ops i T l T') : T' = appD (fun _ => true) i l T := by
  induction h with
  | nil => rfl
  | cons h hr ih => simpa [appD] using ih
  | consS h hsp hr ih => simpa [appD] using ih
theorem Run.step {P : Program} {C : Ctx} {ops : Array Oper} {i : Nat} {T T' : St} {l : Steps} (h : Run P C ops i T l T') {k : Nat} {p : List Nat × Eff} (hp : l[k]? = some p) : StepJ P C ops (i + k) p.1 (appD (fun j => decide (j < i + k)) i l T) p.2 := by
  induction h generalizing k with
  | nil => simp at hp
  | cons h hr ih =>
    rename_i i T rd E l T'
    cases k with
    | zero =>
      simp at hp
      subst hp
      have e : appD (fun j => decide (j < i + 0)) i ((rd, E) :: l) T = T := by
        refine List.ext_getElem? fun s => ?_
        rw [appD_get]
        have : ∀ x, actD (fun j => decide (j < i + 0)) i ((rd, E) :: l) s x = x := fun x => actD_id (fun k q _ _ => by simp) x
        cases hT : T[s]? with
        | none => rfl
        | some x => rw [Option.map_some, this]
      rw [e]
      exact h.j
    | succ k =>
      have := ih (k := k) (by simpa using hp)
      rw [show i + 1 + k = i + (k + 1) by omega] at this
      have e : appD (fun j => decide (j < i + (k + 1))) i ((rd, E) :: l) T = appD (fun j => decide (j < i + (k + 1))) (i + 1) l (T.app E) := by
        simp only [appD]
        rw [if_pos (by simp)]
      rw [e]
      exact this
  | consS h hsp hr ih =>
    rename_i i T rd E l T'
    cases k with
    | zero =>
      simp at hp
      subst hp
      have e : appD (fun j => decide (j < i + 0)) i ((rd, E) :: l) T = T := by
        refine List.ext_getElem? fun s => ?_
        rw [appD_get]
        have : ∀ x, actD (fun j => decide (j < i + 0)) i ((rd, E) :: l) s x = x := fun x => actD_id (fun k q _ _ => by simp) x
        cases hT : T[s]? with
        | none => rfl
        | some x => rw [Option.map_some, this]
      rw [e]
      exact h
    | succ k =>
      have := ih (k := k) (by simpa using hp)
      rw [show i + 1 + k = i + (k + 1) by omega] at this
      have e : appD (fun j => decide (j < i + (k + 1))) i ((rd, E) :: l) T = appD (fun j => decide (j < i + (k + 1))) (i + 1) l (T.app E) := by
        simp only [appD]
        rw [if_pos (by simp)]
      rw [e]
      exact this
theorem run_any {P : Program} {C : Ctx} {ops : Array Oper} {T T' : St} {l : Steps} (h : Run P C ops 0 T l T') (hok : okAll (befs ops.toList) 0 l = true) (hsh : shAll (befs ops.toList) T.length l = true) (hback : back ops.toList = true) {Q : Exit → Act → World → Prop} (hQ : ∀ a w, Sim C T' a w → Q .normal a w) :
    ∀ (fuel : Nat) (listed : Array Bool) (a : Act) (w : World), listed.size = ops.size → (List.range ops.size).countP (fun i => !listed.getD i false) ≤ fuel →
      (∀ k o, ops[k]? = some o → listed.getD k false = true → ∀ e, e ∈ o.after → Region.binds .any e = true → listed.getD e.on false = true) →
      Sim C (appD (fun i => listed.getD i false) 0 l T) a w → wpAny P .any ops Q fuel listed a w := by
  have hlen := h.len
  rw [Nat.zero_add] at hlen
  -- all are listed
  have hdone : ∀ (listed : Array Bool) (a : Act) (w : World), listed.size = ops.size → (∀ i, i < ops.size → listed.getD i false = true) → Sim C (appD (fun i => listed.getD i false) 0 l T) a w → Q .normal a w := by
    intro listed a w hs hall hsim
    refine hQ a w ?_
    rw [h.last]
    have e : appD (fun _ => true) 0 l T = appD (fun i => listed.getD i false) 0 l T := by
      refine List.ext_getElem? fun s => ?_
      rw [appD_get, appD_get]
      congr 1
      funext x
      refine actD_congr (fun k p hp _ => ?_) x
      have := (List.getElem?_eq_some_iff.1 hp).1
      rw [Nat.zero_add, hall k (by omega)]
    rw [e]
    exact hsim
  have hready : ∀ (listed : Array Bool), listed.size = ops.size → Region.ready .any ops listed = [] → ∀ i, i < ops.size → listed.getD i false = true := by
    intro listed hs hr i
    induction i using Nat.strongRecOn with
    | _ i ih =>
      intro hi
      cases hli : listed.getD i false with
      | true => rfl
      | false =>
        exfalso
        have hmem : i ∈ Region.ready .any ops listed := mem_ready.2 ⟨by
          rw [Array.getD_eq_getD_getElem?, Array.getElem?_eq_getElem (by omega)] at hli ⊢
          simpa using hli, ops[i], Array.getElem?_eq_getElem hi, fun e he hb => by
          have hlt := back_get hback (k := i) (o := ops[i]) (by rw [Array.getElem?_toList]; exact Array.getElem?_eq_getElem hi) (by simpa using he) hb
          exact ih e.on hlt (by omega)⟩
        rw [hr] at hmem
        simp at hmem
  intro fuel
  induction fuel with
  | zero =>
    intro listed a w hs hc hcl hsim
    have hall : ∀ i, i < ops.size → listed.getD i false = true := fun i hi => by
      have := List.countP_eq_zero.1 (Nat.le_zero.1 hc) i (by simpa using hi)
      simpa using this
    refine ⟨?_, hdone listed a w hs hall hsim⟩
    cases hr : Region.ready .any ops listed with
    | nil => rfl
    | cons i t =>
      exfalso
      obtain ⟨h1, o, h2, _⟩ := mem_ready.1 (show i ∈ Region.ready .any ops listed by rw [hr]; simp)
      have hi := (Array.getElem?_eq_some_iff.1 h2).1
      have := hall i hi
      rw [Array.getD_eq_getD_getElem?, Array.getElem?_eq_getElem (by omega)] at h1 this
      simp at h1 this
      rw [h1] at this
      cases this
  | succ fuel ih =>
    intro listed a w hs hc hcl hsim
    refine ⟨fun hr => hdone listed a w hs (hready listed hs hr) hsim, fun j hj => ?_⟩
    obtain ⟨h1, o, h2, h3⟩ := mem_ready.1 hj
    have hjl := (Array.getElem?_eq_some_iff.1 h2).1
    have h1' : listed.getD j false = false := by
      rw [Array.getD_eq_getD_getElem?, Array.getElem?_eq_getElem (by omega)] at h1 ⊢
      simpa using h1
    obtain ⟨p, hp⟩ : ∃ p, l[j]? = some p := ⟨_, List.getElem?_eq_getElem (by omega)⟩
    have hclosed := befs_closed (ops := ops.toList) (D := fun i => listed.getD i false) (fun k o ho hk e he hb => hcl k o (by rwa [Array.getElem?_toList] at ho) hk e (by simpa using he) hb)
    -- what comes ahead of j is listed
    have hclosed' := befs_closed (ops := ops.toList) (D := fun i => listed.getD i false || i == j) (fun k o' ho hk e he hb => by
      rw [Array.getElem?_toList] at ho
      simp only [Bool.or_eq_true, beq_iff_eq] at hk ⊢
      rcases hk with hk | rfl
      · exact .inl (hcl k o' ho hk e (by simpa using he) hb)
      · rw [h2] at ho
        injection ho with ho
        subst ho
        exact .inl (h3 e (by simpa using he) hb))
    have hahead : ∀ i, ((befs ops.toList).getD j 0).testBit i = true → i ≠ j → listed.getD i false = true := fun i hb hne => by
      have := hclosed' j i hb (by simp)
      simpa [hne] using this
    have hstep := h.step hp
    rw [Nat.zero_add] at hstep
    have hsame : ∀ s, s ∈ p.1 → (appD (fun i => listed.getD i false) 0 l T)[s]? = (appD (fun i => decide (i < j)) 0 l T)[s]? := fun s hs' => by
      rw [appD_get, appD_get]
      congr 1
      funext x
      refine actD_congr (fun k q hq hw => ?_) x
      rw [Nat.zero_add]
      rcases Nat.lt_trichotomy k j with hkj | rfl | hkj
      · have hb := okAll_get hok hq hp hkj (clash_wr hw hs')
        simp only [Nat.zero_add] at hb
        rw [hahead k hb (by omega)]
        simp [hkj]
      · rw [h1']; simp
      · have hb := okAll_get hok hp hq hkj (clash_rw hs' hw)
        simp only [Nat.zero_add] at hb
        cases hk : listed.getD k false with
        | false => simp; omega
        | true =>
          have := hclosed k j hb hk
          rw [h1'] at this
          cases this
    refine hstep _ a w ⟨by rw [appD_length, appD_length], fun s hs' => by rw [List.getD_eq_getElem?_getD, List.getD_eq_getElem?_getD, hsame s hs']⟩ (fun s hs' => ?_) hsim Q _ fun a' w' hsim' => ?_
    · rw [appD_length] at hs'
      obtain ⟨q1, q2, m, q, q3, q4, q5, q6⟩ := shAt_of (shAll_get hsh hp hs')
      show ((appD (fun i => listed.getD i false) 0 l T).getD s (0, .no)).2.pr2 = true
      rw [List.getD_eq_getElem?_getD, appD_get, List.getElem?_eq_getElem q1, Option.map_some, Option.getD_some]
      exact actD_pr2 q2 (.inr ⟨m, q, q3, by rw [Nat.zero_add]; exact hahead m q5 q4, q6⟩)
    have hnew : ∀ i, (listed.setIfInBounds j true).getD i false = (listed.getD i false || i == j) := fun i => by
      by_cases hij : i = j
      · subst hij
        simp [Array.getElem?_setIfInBounds_self_of_lt (by omega : i < listed.size)]
      · simp [Array.getElem?_setIfInBounds_ne (Ne.symm hij), hij]
    refine ih _ a' w' (by simpa using hs) ?_ (fun k o' ho hk e he hb => ?_) ?_
    · have hlt : (List.range ops.size).countP (fun i => !(listed.setIfInBounds j true).getD i false) < (List.range ops.size).countP (fun i => !listed.getD i false) := by
        have e1 : (List.range ops.size).countP (fun i => !listed.getD i false) = (List.range ops.size).countP (fun i => !(listed.setIfInBounds j true).getD i false) + (List.range ops.size).countP (fun i => i == j) := by
          clear hc hsim' hstep hsame hclosed hclosed' hahead
          induction (List.range ops.size) with
          | nil => rfl
          | cons i t iht =>
            simp only [List.countP_cons, iht, hnew]
            by_cases hij : i = j
            · subst hij; simp [h1']; omega
            · simp [hij]; omega
        have e2 : 0 < (List.range ops.size).countP (fun i => i == j) := List.countP_pos_iff.2 ⟨j, by simpa using hjl, by simp⟩
        omega
      omega
    · rw [hnew] at hk ⊢
      simp only [Bool.or_eq_true, beq_iff_eq] at hk ⊢
      rcases hk with hk | rfl
      · exact .inl (hcl k o' ho hk e he hb)
      · rw [h2] at ho
        injection ho with ho
        subst ho
        exact .inl (h3 e he hb)
    · have e : appD (fun i => (listed.setIfInBounds j true).getD i false) 0 l T = (appD (fun i => listed.getD i false) 0 l T).app p.2 := by
        refine List.ext_getElem? fun s => ?_
        rw [St.app_get, appD_get, appD_get, Option.map_map]
        congr 1
        funext x
        have e1 : (fun i => (listed.setIfInBounds j true).getD i false) = fun i => listed.getD i false || i == 0 + j := by funext i; rw [hnew, Nat.zero_add]
        rw [e1]
        by_cases hw : s ∈ p.2.map (·.1)
        · refine actD_last hp (by rw [Nat.zero_add]; exact h1') (fun k q hq hwq hk => ?_) x
          rw [Nat.zero_add]
          have hb := okAll_get hok hp hq hk (clash_ww hw hwq)
          simp only [Nat.zero_add] at hb
          cases hkk : listed.getD k false with
          | false => rfl
          | true =>
            have := hclosed k j hb hkk
            rw [h1'] at this
            cases this
        · simp only [Function.comp, act_not hw]
          refine actD_congr (fun k q hq hwq => ?_) x
          by_cases hkj : k = j
          · subst hkj
            rw [hp] at hq
            injection hq with hq
            subst hq
            exact absurd hwq hw
          · simp [hkj]
      rw [e]
      exact hsim'
end Go.Proofs.Ytepeoiimdefnpaa.Vm
namespace Go.Proofs.Ytepeoiimdefnpaa.Vm
open Go
/-- A code's walk: from a state to states. -/
def VW (P : Program) (C : Ctx) (c : Code) (T : St) (Q : Exit → St → Prop) : Prop :=
  ∀ a w, Sim C T a w → c.wp P (fun e a' w' => ∃ T', Q e T' ∧ Sim C T' a' w') a w
section
variable {P : Program} {C : Ctx} {T T' : St} {Q Q' : Exit → St → Prop}
theorem VW.mono {c : Code} (h : VW P C c T Q) (hq : ∀ e T, Q e T → Q' e T) : VW P C c T Q' := fun a w hs => wp_mono (h a w hs) fun _ _ _ ⟨T', h1, h2⟩ => ⟨T', hq _ _ h1, h2⟩
/-- Less is told of a state. -/
def Weak (C : Ctx) (T T' : St) : Prop := ∀ a w, Sim C T a w → Sim C T' a w
theorem VW.weak {c : Code} (hw : Weak C T T') (h : VW P C c T' Q) : VW P C c T Q := fun a w hs => h a w (hw a w hs)
def andThen (next : St → Prop) (Q : Exit → St → Prop) : Exit → St → Prop
  | .normal, T => next T
  | e, T => Q e T
theorem vw_seq {x y : Code} (h : VW P C x T (andThen (fun T' => VW P C y T' Q) Q)) : VW P C (.seq x y) T Q := fun a w hs =>
  wp_seq (wp_mono (h a w hs) fun e a' w' ⟨T', h1, h2⟩ => by
    cases e with
    | normal => exact h1 a' w' h2
    | _ => exact ⟨T', h1, h2⟩)
theorem vw_skip (h : Q .normal T) : VW P C .skip T Q := fun _ _ hs => wp_skip ⟨T, h, hs⟩
theorem vw_label {l : Nat} (h : Q .normal T) : VW P C (.label l) T Q := fun _ _ hs => wp_label ⟨T, h, hs⟩
theorem vw_exit {id : Nat} (h : Q (.exit id) T) : VW P C (.exit id) T Q := fun _ _ hs => wp_exit ⟨T, h, hs⟩
theorem vw_goto {l : Nat} (h : Q (.goto l) T) : VW P C (.goto l) T Q := fun _ _ hs => wp_goto ⟨T, h, hs⟩
theorem vw_ret (h : Q .ret T) : VW P C .ret T Q := fun _ _ hs => wp_ret ⟨T, h, hs⟩
theorem cond_eval {c : Nat} {b : Bool} {a : Act} {w : World} (hc : c < C.nt) (hx : (T.at c).val = some (.bool b)) (hs : Sim C T a w) : a.eval (.tmp c) = .bool b := by
  obtain ⟨S, F, loc, h⟩ := hs
  exact h.value c hc hx
theorem vw_cond {c : Nat} {x y : Code} (b : Bool) (hc : c < C.nt) (hx : (T.at c).val = some (.bool b)) (h : VW P C (if b then x else y) T Q) : VW P C (.cond (.tmp c) x y) T Q := fun a w hs => wp_cond (cond_eval hc hx hs) (h a w hs)
theorem vw_true {c : Nat} {x y : Code} {b : Bool} (hc : c < C.nt) (hx : (T.at c).val = some (.bool b)) (hb : b = true) (h : VW P C x T Q) : VW P C (.cond (.tmp c) x y) T Q := vw_cond b hc hx (by rw [hb]; exact h)
theorem vw_false {c : Nat} {x y : Code} {b : Bool} (hc : c < C.nt) (hx : (T.at c).val = some (.bool b)) (hb : b = false) (h : VW P C y T Q) : VW P C (.cond (.tmp c) x y) T Q := vw_cond b hc hx (by rw [hb]; exact h)
def inBlock (id : Nat) (Q : Exit → St → Prop) : Exit → St → Prop
  | .exit id', T => if id' = id then Q .normal T else Q (.exit id') T
  | e, T => Q e T
theorem vw_block {id : Nat} {c : Code} (h : VW P C c T (inBlock id Q)) : VW P C (.block id c) T Q := fun a w hs =>
  wp_block (wp_mono (h a w hs) fun e a' w' ⟨T', h1, h2⟩ => by
    cases e with
    | exit id' =>
      unfold inBlock at h1
      unfold Exit.inBlock
      dsimp only at h1 ⊢
      split <;> rename_i hid
      · rw [if_pos hid] at h1; exact ⟨T', h1, h2⟩
      · rw [if_neg hid] at h1; exact ⟨T', h1, h2⟩
    | _ => exact ⟨T', h1, h2⟩)
/-- So many rounds of a loop. -/
def VL (P : Program) (C : Ctx) (c : Code) (n : Nat) (T : St) (Q : Exit → St → Prop) : Prop := ∀ a w, Sim C T a w → Code.rounds P c (fun e a' w' => ∃ T', Q e T' ∧ Sim C T' a' w') n a w
theorem vl_succ {c : Code} {n : Nat} (h : VW P C c T (andThen (fun T' => VL P C c n T' Q) Q)) : VL P C c (n + 1) T Q := fun a w hs => by
  rw [rounds_succ]
  refine wp_mono (h a w hs) fun e a' w' ⟨T', h1, h2⟩ => ?_
  cases e with
  | normal => exact h1 a' w' h2
  | _ => exact ⟨T', h1, h2⟩
theorem VL.weak {c : Code} {n : Nat} (hw : Weak C T T') (h : VL P C c n T' Q) : VL P C c n T Q := fun a w hs => h a w (hw a w hs)
theorem vw_loop {c : Code} (n : Nat) (h : VL P C c n T Q) : VW P C (.loop c) T Q := fun a w hs => wp_loop_rounds n (h a w hs)
theorem Sim.drew {a : Act} {w : World} (h : Sim C T a w) : Sim C T a w.drew := by
  obtain ⟨S, F, loc, h⟩ := h
  exact ⟨S, F, loc, h.upd [] (fun _ _ => rfl) rfl h.defers h.pins ⟨rfl, rfl, rfl, Nat.le_refl _, .drew _ _⟩ (fun _ _ h => h) (fun _ _ h => .inl h) (fun _ _ => rfl) (fun _ hk => ⟨rfl, hk⟩) (fun _ _ _ _ => rfl) (fun _ _ _ => rfl) (fun _ hr => by simp at hr) (fun _ hr => by simp at hr) (fun _ _ hs => by simp at hs) (fun _ hs => by simp at hs) (fun _ hs => by simp at hs) (fun _ hs => by simp at hs) (fun _ hs => by simp at hs) (fun _ _ _ _ hs => by simp at hs)⟩
theorem run_text {ops : Array Oper} {l : Steps} {i : Nat} {T : St} (h : Run P C ops i T l T') {R : Exit → Act → World → Prop} (hR : ∀ a w, Sim C T' a w → R .normal a w) : ∀ a w, Sim C T a w → wpOps P ops R (List.range' i (ops.size - i)) a w := by
  induction h with
  | nil => intro a w hs; simp [wpOps]; exact hR a w hs
  | cons h hr ih =>
    rename_i i T rd E l T'
    intro a w hs
    have hl := hr.len
    rw [show ops.size - i = (ops.size - (i + 1)) + 1 by omega, List.range'_succ, wpOps_cons]
    exact h T a w ⟨rfl, fun _ _ => rfl⟩ hs R _ fun a' w' hs' => ih hR a' w' hs'
  | consS h hsp hr ih =>
    rename_i i T rd E l T'
    intro a w hs
    have hl := hr.len
    rw [show ops.size - i = (ops.size - (i + 1)) + 1 by omega, List.range'_succ, wpOps_cons]
    exact h T a w ⟨rfl, fun _ _ => rfl⟩ hsp hs R _ fun a' w' hs' => ih hR a' w' hs'
theorem vw_region {id : Nat} {ops : Array Oper} {l : Steps} (h : Run P C ops 0 T l T') (hQ : Q .normal T') : VW P C (.region id ops false) T Q := fun a w hs =>
  wp_region (by
    have := run_text h (R := fun e a' w' => ∃ T', Q e T' ∧ Sim C T' a' w') (fun a w hs => ⟨T', hQ, hs⟩) a w hs
    rw [Nat.sub_zero, ← List.range_eq_range'] at this
    exact this)
theorem vw_region_draw {id : Nat} {ops : Array Oper} {l : Steps} (h : Run P C ops 0 T l T') (hm : P.follows .mixedOrders = true) (hok : (okAll (befs ops.toList) 0 l && back ops.toList) = true) (hsh : shAll (befs ops.toList) T.length l = true) (hQ : Q .normal T') : VW P C (.region id ops true) T Q := fun a w hs => by
  simp only [Bool.and_eq_true] at hok
  refine wp_region_any hm (run_any h hok.1 hsh hok.2 (Q := fun e a' w' => ∃ T', Q e T' ∧ Sim C T' a' w') (fun a w hs => ⟨T', hQ, hs⟩) _ _ a w.drew (by simp) ?_ (fun k o _ hk => ?_) ?_)
  · exact Nat.le_trans (List.countP_le_length) (by simp)
  · simp only [Array.getD_eq_getD_getElem?, Array.getElem?_replicate] at hk
    split at hk <;> simp at hk
  · have e : appD (fun i => (Array.replicate ops.size false).getD i false) 0 l T = T := by
      refine List.ext_getElem? fun s => ?_
      rw [appD_get]
      have : ∀ x, actD (fun i => (Array.replicate ops.size false).getD i false) 0 l s x = x := fun x => actD_id (fun k q _ _ => by
        simp only [Array.getD_eq_getD_getElem?, Array.getElem?_replicate]
        split <;> simp) x
      cases hT : T[s]? with
      | none => rfl
      | some x => rw [Option.map_some, this]
    rw [e]
    exact hs.drew
/-- An operation without a guard. -/
theorem step_exec {ops : Array Oper} {i : Nat} {o : Oper} {rd : List Nat} {E : Eff} (ho : ops[i]? = some o) (hg : o.guard = none) (h : Exec P C o rd T E) : StepI P C ops i rd T E := fun T' a w hsm hs Q K hK => by
  unfold wpOp
  simp only [ho, Region.wanted, hg, if_true]
  exact .inl (h T' a w hsm hs Q K hK)
theorem yielded_eq {ops : Array Oper} {j t : Nat} {b : Bool} {rd : List Nat} {T' : St} {a : Act} {w : World} (hd : (ops[j]?).bind (·.dst) = some t) (ht : t < C.nt) (htr : t ∈ rd) (hx : (T.at t).val = some (.bool b)) (hsm : Same T T' rd) (hs : Sim C T' a w) : yielded ops a.tmps j = some b := by
  have h := cond_eval (T := T') ht (by rw [hsm.at_ htr]; exact hx) hs
  obtain ⟨S, F, loc, hsim⟩ := hs
  unfold yielded
  rw [hd]
  have hl : t < a.tmps.size := by rw [hsim.size]; exact ht
  simp only [Act.eval, Array.getD_eq_getD_getElem?, Array.getElem?_eq_getElem hl, Option.getD_some] at h
  simp [Array.getElem?_eq_getElem hl, h]
/-- One whose guard lets it be carried out. -/
theorem step_guard {ops : Array Oper} {i j t : Nat} {b b' : Bool} {o : Oper} {rd : List Nat} {E : Eff} (ho : ops[i]? = some o) (hg : o.guard = some (j, b)) (hd : (ops[j]?).bind (·.dst) = some t) (ht : t < C.nt) (htr : t ∈ rd) (hx : (T.at t).val = some (.bool b')) (hb : b' = b) (h : Exec P C o rd T E) : StepI P C ops i rd T E := fun T' a w hsm hs Q K hK => by
  unfold wpOp
  simp only [ho, Region.wanted, hg, yielded_eq hd ht htr hx hsm hs, hb, BEq.rfl, if_true]
  exact .inl (h T' a w hsm hs Q K hK)
/-- One that its guard leaves out. -/
theorem step_left {ops : Array Oper} {i j t d : Nat} {b b' : Bool} {o : Oper} {rd : List Nat} (ho : ops[i]? = some o) (hg : o.guard = some (j, b)) (hd : (ops[j]?).bind (·.dst) = some t) (ht : t < C.nt) (htr : t ∈ rd) (hx : (T.at t).val = some (.bool b')) (hb : b' = !b) (hod : o.dst = some d) (hdn : d < C.nt) (hdl : d < T.length) (hdp : C.pin d = none) : StepI P C ops i rd T [(d, false, .dead)] := fun T' a w hsm hs Q K hK => by
  have hne : (some b' == some b) = false := by rw [hb]; cases b <;> rfl
  unfold wpOp
  simp only [ho, Region.wanted, hg, yielded_eq hd ht htr hx hsm hs, hne, Bool.false_eq_true, if_false, hod]
  obtain ⟨S, F, loc, hsim⟩ := hs
  exact hK _ _ (hsim.put [] d .dead undef Foot.none hdn (by rw [hsm.1]; exact hdl) hdp (fun s hs => by simp at hs) (.refl _ _) (fun _ _ h => h) (fun _ _ h => .inl h) (fun _ _ h => h.elim) (fun s hs => by simp at hs) (.inl (.dead ..)))
theorem step_left0 {ops : Array Oper} {i j t : Nat} {b b' : Bool} {o : Oper} {rd : List Nat} (ho : ops[i]? = some o) (hg : o.guard = some (j, b)) (hd : (ops[j]?).bind (·.dst) = some t) (ht : t < C.nt) (htr : t ∈ rd) (hx : (T.at t).val = some (.bool b')) (hb : b' = !b) (hod : o.dst = none) : StepI P C ops i rd T [] := fun T' a w hsm hs Q K hK => by
  have hne : (some b' == some b) = false := by rw [hb]; cases b <;> rfl
  unfold wpOp
  simp only [ho, Region.wanted, hg, yielded_eq hd ht htr hx hsm hs, hne, Bool.false_eq_true, if_false, hod]
  exact hK _ _ hs
end
end Go.Proofs.Ytepeoiimdefnpaa.Vm
namespace Go.Proofs.Ytepeoiimdefnpaa.Vm
open Go
def look : List (Nat × V) → Nat → V → V
  | [], _, d => d
  | p :: l, s, d => if p.1 = s then p.2 else look l s d
/-- n slots, nt of them the frame's own; what l doesn't name isn't known (a frame's slot), or not there (a box's). -/
def mkT (n nt : Nat) (l : List (Nat × V)) : St := (List.range n).map fun s => (0, look l s (if s < nt then .dead else .no))
theorem mkT_length (n nt : Nat) (l : List (Nat × V)) : (mkT n nt l).length = n := by simp [mkT]
theorem mkT_at {n nt : Nat} {l : List (Nat × V)} {s : Nat} : (mkT n nt l).at s = if s < n then look l s (if s < nt then .dead else .no) else .no := by
  unfold St.at mkT
  by_cases h : s < n
  · simp [h]
  · simp [h]
theorem mkT_gen {n nt : Nat} {l : List (Nat × V)} {s : Nat} : (mkT n nt l).gen s = 0 := by
  unfold St.gen mkT
  by_cases h : s < n
  · simp [h]
  · simp [h]
/-- What a slot is, its handle's number set back. -/
def nrm (T : St) (s : Nat) : V := match T.at s with
  | .al r g => if T.gen r = g then .al r 0 else .dead
  | .ref r g sz i o => if T.gen r = g then .ref r 0 sz i o else .dead
  | .vw r g sz lo n => if T.gen r = g then .vw r 0 sz lo n else .dead
  | .alp r g pa => if T.gen r = g then .alp r 0 pa else .dead
  | .refp r g pa sz j o => if T.gen r = g then .refp r 0 pa sz j o else .dead
  | .cap r g pa i ws => if T.gen r = g then .cap r 0 pa i ws else .dead
  | .cpr r g pa i ws => if T.gen r = g then .cpr r 0 pa i ws else .dead
  | x => x
def subT (T : St) : List (Nat × V) → Prop
  | [] => True
  | p :: l => nrm T p.1 = p.2 ∧ subT T l
def V.isNo : V → Bool
  | .no => true
  | _ => false
/-- What entries point to is there. -/
def ptrsOk (nt : Nat) (l : List (Nat × V)) : Bool := l.all fun p => match p.2 with
  | .at_ k => !(look l k .no).isNo
  | .al r _ => r < nt || !(look l r .no).isNo
  | .ref r _ _ _ _ => r < nt || !(look l r .no).isNo
  | .vw r _ _ _ _ => r < nt || !(look l r .no).isNo
  | .alp _ _ _ | .refp _ _ _ _ _ _ | .cap _ _ _ _ _ | .cpr _ _ _ _ _ => false
  | .no => false
  | _ => true
theorem look_mem {l : List (Nat × V)} {s : Nat} {d : V} : look l s d = d ∨ (s, look l s d) ∈ l := by
  induction l with
  | nil => exact .inl rfl
  | cons p l ih =>
    simp only [look]
    split
    · rename_i h; subst h; exact .inr (by simp)
    · exact ih.imp id (List.mem_cons_of_mem _)
theorem look_ne {l : List (Nat × V)} {s : Nat} {d d' : V} (h : look l s d ≠ d) : look l s d' = look l s d := by
  induction l with
  | nil => exact absurd rfl h
  | cons p l ih =>
    simp only [look] at h ⊢
    split
    · rfl
    · rename_i hp
      rw [if_neg hp] at h
      exact ih h
theorem subT_mem {T : St} {l : List (Nat × V)} (h : subT T l) {p : Nat × V} (hp : p ∈ l) : nrm T p.1 = p.2 := by
  induction l with
  | nil => simp at hp
  | cons q l ih =>
    rcases List.mem_cons.1 hp with rfl | hp
    · exact h.1
    · exact ih h.2 hp
section
variable {P : Program} {C : Ctx} {T T' : St} {Q Q' : Exit → St → Prop}
theorem nrm_cases (T : St) (s : Nat) : nrm T s = T.at s ∧ (T.at s).root = none ∨ (∃ r g, (T.at s).root = some (r, g) ∧ (T.gen r ≠ g ∧ nrm T s = .dead ∨ T.gen r = g ∧ (nrm T s).root = some (r, 0) ∧ ∀ u v, Link u v (T.at s) → Link u v (nrm T s))) := by
  unfold nrm
  cases hx : T.at s with
  | al r g =>
    refine .inr ⟨r, g, rfl, ?_⟩
    dsimp only
    by_cases hg : T.gen r = g
    · rw [if_pos hg]; exact .inr ⟨hg, rfl, fun _ _ h => h⟩
    · rw [if_neg hg]; exact .inl ⟨hg, rfl⟩
  | ref r g sz i o =>
    refine .inr ⟨r, g, rfl, ?_⟩
    dsimp only
    by_cases hg : T.gen r = g
    · rw [if_pos hg]; exact .inr ⟨hg, rfl, fun _ _ h => h⟩
    · rw [if_neg hg]; exact .inl ⟨hg, rfl⟩
  | vw r g sz lo n =>
    refine .inr ⟨r, g, rfl, ?_⟩
    dsimp only
    by_cases hg : T.gen r = g
    · rw [if_pos hg]; exact .inr ⟨hg, rfl, fun _ _ h => h⟩
    · rw [if_neg hg]; exact .inl ⟨hg, rfl⟩
  | alp r g pa =>
    refine .inr ⟨r, g, rfl, ?_⟩
    dsimp only
    by_cases hg : T.gen r = g
    · rw [if_pos hg]; exact .inr ⟨hg, rfl, fun _ _ h => h⟩
    · rw [if_neg hg]; exact .inl ⟨hg, rfl⟩
  | refp r g pa sz j o =>
    refine .inr ⟨r, g, rfl, ?_⟩
    dsimp only
    by_cases hg : T.gen r = g
    · rw [if_pos hg]; exact .inr ⟨hg, rfl, fun _ _ h => h⟩
    · rw [if_neg hg]; exact .inl ⟨hg, rfl⟩
  | cap r g pa i ws =>
    refine .inr ⟨r, g, rfl, ?_⟩
    dsimp only
    by_cases hg : T.gen r = g
    · rw [if_pos hg]; exact .inr ⟨hg, rfl, fun _ _ h => h⟩
    · rw [if_neg hg]; exact .inl ⟨hg, rfl⟩
  | cpr r g pa i ws =>
    refine .inr ⟨r, g, rfl, ?_⟩
    dsimp only
    by_cases hg : T.gen r = g
    · rw [if_pos hg]; exact .inr ⟨hg, rfl, fun _ _ h => h⟩
    · rw [if_neg hg]; exact .inl ⟨hg, rfl⟩
  | _ => exact .inl ⟨rfl, rfl⟩
theorem weak_to {n : Nat} {l : List (Nat × V)} (hn : T.length = n) (hs : subT T l) (hp : ptrsOk C.nt l = true) : Weak C T (mkT n C.nt l) := by
  rintro a w ⟨S, F, loc, h⟩
  have hat : ∀ s, (mkT n C.nt l).at s ≠ .dead → (mkT n C.nt l).at s ≠ .no → s < n ∧ (s, (mkT n C.nt l).at s) ∈ l ∧ nrm T s = (mkT n C.nt l).at s := by
    intro s h1 h2
    rw [mkT_at] at h1 h2 ⊢
    by_cases hsn : s < n
    · rw [if_pos hsn] at h1 h2 ⊢
      have hm : (s, look l s (if s < C.nt then .dead else .no)) ∈ l := by
        rcases look_mem (l := l) (s := s) (d := if s < C.nt then .dead else .no) with he | he
        · rw [he] at h1 h2
          split at h1
          · exact absurd rfl h1
          · rename_i hnt
            rw [if_neg hnt] at h2
            exact absurd rfl h2
        · exact he
      exact ⟨hsn, hm, subT_mem hs hm⟩
    · rw [if_neg hsn] at h2
      exact absurd rfl h2
  -- a box's slot that is told is there
  have hvirt : ∀ s, C.nt ≤ s → (mkT n C.nt l).at s ≠ .no → T.at s ≠ .no := by
    intro s hsn h2 e
    rw [mkT_at] at h2
    by_cases hs' : s < n
    · rw [if_pos hs', if_neg (by omega)] at h2
      rcases look_mem (l := l) (s := s) (d := .no) with he | he
      · exact h2 he
      · have := subT_mem hs he
        simp only [nrm, e] at this
        exact h2 this.symm
    · rw [if_neg hs'] at h2
      exact h2 rfl
  have hthere : ∀ r, (r < C.nt ∨ (look l r .no).isNo = false) → r < n → (r < C.nt ∨ (mkT n C.nt l).at r ≠ .no) := by
    intro r hr hrn
    rcases hr with hr | hr
    · exact .inl hr
    · by_cases hlt : r < C.nt
      · exact .inl hlt
      · refine .inr fun e => ?_
        rw [mkT_at, if_pos hrn, if_neg hlt] at e
        rw [e] at hr
        cases hr
  have hlen : ∀ s, T.at s ≠ .no → s < n := fun s hx => by
    refine Nat.lt_of_not_le fun hle => hx ?_
    unfold St.at
    rw [List.getD_eq_getElem?_getD, List.getElem?_eq_none (by omega)]
    rfl
  have hnt : C.nt ≤ n ∨ n < C.nt := by omega
  refine ⟨S, fun s b o => F s b o ∧ ¬ ((mkT n C.nt l).at s = .dead ∧ s < C.nt ∨ (mkT n C.nt l).at s = .no), loc, h.size, h.defers, h.pins, h.world, h.sub, h.from_, h.stay, fun s t hst b o hb hb' => ?_, fun s b o hb => ?_, fun s r g hr => ?_, fun s => ?_, fun s hsn hx => ?_, fun s r hd hr => ?_⟩
  · exact h.apart s t hst b o hb.1 hb'.1
  · exact h.mine s b o hb.1
  · have hne1 : (mkT n C.nt l).at s ≠ .dead := fun e => by rw [e] at hr; simp [V.root] at hr
    have hne2 : (mkT n C.nt l).at s ≠ .no := fun e => by rw [e] at hr; simp [V.root] at hr
    obtain ⟨hsn, hm, hnr⟩ := hat s hne1 hne2
    rw [mkT_gen]
    rcases nrm_cases T s with ⟨h1, h2⟩ | ⟨r', g', h1, ⟨_, h2⟩ | ⟨h2, h3, _⟩⟩
    · rw [← hnr, h1, h2] at hr; cases hr
    · rw [← hnr, h2] at hr; simp [V.root] at hr
    · rw [← hnr, h3] at hr
      injection hr with hr
      injection hr with e1 e2
      subst e1 e2
      refine ⟨Nat.le_refl _, ?_⟩
      have hrn : r' < n ∨ n ≤ r' := by omega
      have hp' := List.all_eq_true.1 hp _ hm
      have hroot : r' < C.nt ∨ (look l r' .no).isNo = false := by
        rw [hnr] at h3
        dsimp only at hp'
        revert h3 hp'
        generalize (mkT n C.nt l).at s = x
        intro h3 hp'
        cases x <;> simp only [V.root, Option.some.injEq, Prod.mk.injEq, reduceCtorEq] at h3
        all_goals
          obtain ⟨rfl, _⟩ := h3
          first
            | cases hp'; done
            | simpa using hp'
      rcases hrn with hrn | hrn
      · exact hthere r' hroot hrn
      · rcases hroot with h4 | h4
        · exact .inl h4
        · rcases (h.ages s r' g' h1).2 with h5 | h5
          · exact .inl h5
          · exact absurd (hlen r' h5) (by omega)
  · by_cases hd : (mkT n C.nt l).at s = .dead
    · rw [hd]
      by_cases hsn : s < C.nt
      · exact SlotOk.plain ⟨_, by unfold conc; rw [if_pos hsn]; exact Array.getElem?_eq_getElem (by rw [h.size]; exact hsn), .dead ..⟩
      · have hx := hvirt s (by omega) (by rw [hd]; simp)
        obtain ⟨_, _, ⟨u, hu, _⟩, _⟩ := h.cells s (by omega) hx
        exact SlotOk.plain ⟨u, by unfold conc; rw [if_neg hsn]; exact hu, .dead ..⟩
    · by_cases hno : (mkT n C.nt l).at s = .no
      · rw [hno]; trivial
      · obtain ⟨hsn, hm, hnr⟩ := hat s hd hno
        have hF : (fun b o => F s b o ∧ ¬ ((mkT n C.nt l).at s = .dead ∧ s < C.nt ∨ (mkT n C.nt l).at s = .no)) = F s := by
          funext b o
          refine propext ⟨fun e => e.1, fun e => ⟨e, fun e' => ?_⟩⟩
          rcases e' with e' | e'
          · exact hd e'.1
          · exact hno e'
        have hk := h.slot s
        show SlotOk _ _ _ _ _ (fun b o => _) _ _ _
        rw [hF]
        rcases nrm_cases T s with ⟨h1, h2⟩ | ⟨r, g, h1, ⟨_, h2⟩ | ⟨h2, h3, h4⟩⟩
        · rw [← hnr, h1] at hno hd ⊢
          cases hx : T.at s with
          | at_ k =>
            rw [hx] at hk
            obtain ⟨e1, e2, e3⟩ := hk
            refine ⟨e1, e2, ?_⟩
            have hp' := List.all_eq_true.1 hp _ hm
            rw [← hnr, h1, hx] at hp'
            simp only [Bool.not_eq_true'] at hp'
            exact (hthere k (.inr hp') (hlen k e3)).resolve_left (by omega)
          | no => exact absurd hx hno
          | al _ _ => rw [hx] at h2; simp [V.root] at h2
          | ref _ _ _ _ _ => rw [hx] at h2; simp [V.root] at h2
          | vw _ _ _ _ _ => rw [hx] at h2; simp [V.root] at h2
          | alp _ _ _ => rw [hx] at h2; simp [V.root] at h2
          | refp _ _ _ _ _ _ => rw [hx] at h2; simp [V.root] at h2
          | cap _ _ _ _ _ => rw [hx] at h2; simp [V.root] at h2
          | cpr _ _ _ _ _ => rw [hx] at h2; simp [V.root] at h2
          | _ =>
            rw [hx] at hk
            exact SlotOk.plain (hk.held (by simp) (fun _ => by simp) rfl)
        · rw [← hnr, h2] at hd; exact absurd rfl hd
        · obtain ⟨u, v, e1, e2, e3⟩ := hk.linked h1 h2
          rw [← hnr]
          exact SlotOk.of_link h3 fun _ => ⟨u, v, e1, e2, h4 u v e3⟩
  · have hx' := hvirt s hsn hx
    obtain ⟨e1, e2, e3, e4⟩ := h.cells s hsn hx'
    refine ⟨⟨e1, fun e => ?_⟩, e2, e3, e4⟩
    rcases e with e | e
    · omega
    · exact hx e
  · exfalso
    obtain ⟨_, hm, _⟩ := hat s (fun e => by rw [e] at hd; cases hd) (fun e => by rw [e] at hd; cases hd)
    have hp' := List.all_eq_true.1 hp _ hm
    dsimp only at hp'
    revert hd hp'
    generalize (mkT n C.nt l).at s = x
    intro hd hp'
    cases x <;> first | (cases hd; done) | (cases hp'; done)
/-- A region, and what is told behind it. -/
theorem vw_region_to {id n : Nat} {ops : Array Oper} {l : Steps} {l' : List (Nat × V)} (h : Run P C ops 0 T l T') (hn : T'.length = n) (hs : subT T' l') (hp : ptrsOk C.nt l' = true) (hQ : ∀ T', T' = mkT n C.nt l' → Q .normal T') : VW P C (.region id ops false) T Q := fun a w hsim =>
  wp_region (by
    have := run_text h (R := fun e a' w' => ∃ T', Q e T' ∧ Sim C T' a' w') (fun a w hs' => ⟨_, hQ _ rfl, weak_to hn hs hp a w hs'⟩) a w hsim
    rw [Nat.sub_zero, ← List.range_eq_range'] at this
    exact this)
end
end Go.Proofs.Ytepeoiimdefnpaa.Vm
