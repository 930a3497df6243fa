/- Whatever cells read as data say a value of its kind: struct by struct, slice by slice, for the rows of laws. -/
import Derived.Test.YtdkmmddakidieaaWs
import Derived.Deep.Slices
import Derived.OpenShut
import Derived.SizedLaws
namespace Go.Proofs.Ytdkmmddakidieaa.KdOpen
open Go.RowKit Go.Proofs.YtdkmmddakidieaaW.PrintWords Go.ChangeShapes Go.WideShapes

/-- Whatever cells of type t read as data, they say a value of the kind d that meets ok. -/
def Opens {α : Type} (P : Program) (t : TypeId) (d : Kd α) (ok : α → Prop) : Prop :=
  ∀ {H : Type} {enc : TypeId × Value → H} {w : World} {base : Nat} {spare : Nat → Bool} {held : Bool} {fuel : Nat} {cs : List Value} {x : DataW H × List MemPlace},
    DataW.trod enc P w base spare held fuel t cs = some x → (∀ n ∈ x.1.weights P t, n ≤ 140737488351232) → ∃ y, d.K w y cs ∧ ok y

theorem opens_int {P : Program} {t : TypeId} {k : IntKind} (hu : P.underlying t = some (.int k)) : Opens P t (Kd.int k) (fun n => (Lit.int k n).wf = true) := by
  intro H enc w base spare held fuel cs x h _
  obtain ⟨n, rfl, _, hw⟩ := DataW.trod_int hu h
  exact ⟨n, rfl, hw⟩
theorem opens_bool {P : Program} {t : TypeId} (hu : P.underlying t = some .bool) : Opens P t Kd.bool (fun _ => True) := by
  intro H enc w base spare held fuel cs x h _
  obtain ⟨n, rfl, _⟩ := DataW.trod_bool hu h
  exact ⟨n, rfl, trivial⟩
theorem opens_string {P : Program} {t : TypeId} (hu : P.underlying t = some .string) : Opens P t Kd.string (fun s => s.size ≤ 140737488351232) := by
  intro H enc w base spare held fuel cs x h hz
  obtain ⟨s, rfl, rfl, _⟩ := DataW.trod_string hu h
  refine ⟨s, rfl, ?_⟩
  have := hz s.data.toList.length (by simp [DataW.weights])
  simpa using this
theorem weights_all {H : Type} {P : Program} {e : TypeId} : ∀ {l : List (DataW H)} {d : DataW H}, d ∈ l → ∀ n ∈ d.weights P e, n ∈ DataW.weightsAll P e l
  | [], _, h, _, _ => by simp at h
  | a :: l, d, h, n, hn => by
    simp only [DataW.weightsAll, List.mem_append]
    rcases List.mem_cons.1 h with rfl | h
    · exact .inl hn
    · exact .inr (weights_all h n hn)
theorem opens_slice {α : Type} {P : Program} {t e : TypeId} {d : Kd α} {ok : α → Prop} {B : Nat} (hu : P.underlying t = some (.slice e)) (hc : P.cellsOf e = d.sz) (hB : P.bytesOf e = B) (h : Opens P e d ok) :
    Opens P t (Kd.slice e d) (fun l => l.length * B ≤ 140737488351232 ∧ l.length ≤ maxLen ∧ ∀ y ∈ l, ok y) := by
  intro H enc w base spare held fuel cs x hx hz
  rcases DataW.trod_slice hu hx with ⟨rfl, _⟩ | ⟨a, len, cap, elems, rest, n, _, rfl, rfl, hb, hl, hm, hlen, hel, _, _⟩
  · exact ⟨[], ⟨none, 0, rfl, Nat.le_refl _, rfl, by simp, fun h0 => by simp at h0⟩, by simp, by simp, by simp⟩
  · have each : ∀ i, i < len → ∃ y c, w.cells? base (a.add (i * P.cellsOf e)) (P.cellsOf e) = some c ∧ d.K w y c ∧ ok y := by
      intro i hi
      have hi' : i < elems.length := by omega
      have h1 := hel i hi
      rw [List.getElem?_eq_getElem hi'] at h1
      obtain ⟨c, h2, h3⟩ := Option.bind_eq_some_iff.1 h1
      obtain ⟨y, h4, h5⟩ := h h3 (fun m hm' => hz m (by
        simp only [DataW.weights, hu, List.mem_cons, List.mem_append]
        exact .inr (.inl (weights_all (List.mem_map.2 ⟨_, List.getElem_mem hi', rfl⟩) m hm'))))
      exact ⟨y, c, h2, h4, h5⟩
    have build : ∀ m, m ≤ len → ∃ ys : List α, ys.length = m ∧ ∀ (j : Nat) (y : α), ys[j]? = some y → ∃ c, w.cells? base (a.add (j * P.cellsOf e)) (P.cellsOf e) = some c ∧ d.K w y c ∧ ok y := by
      intro m
      induction m with
      | zero => exact fun _ => ⟨[], rfl, fun j y hj => by simp at hj⟩
      | succ m ih =>
        intro hm'
        obtain ⟨ys, hl', hys⟩ := ih (by omega)
        obtain ⟨y, c, h1, h2, h3⟩ := each m (by omega)
        refine ⟨ys ++ [y], by simp [hl'], fun j z hj => ?_⟩
        rcases Nat.lt_or_ge j ys.length with hlt | hge
        · rw [List.getElem?_append_left hlt] at hj
          exact hys j z hj
        · rw [List.getElem?_append_right hge] at hj
          have hj0 : j - ys.length = 0 := by
            have := (List.getElem?_eq_some_iff.1 hj).1
            simp at this; omega
          rw [hj0] at hj
          have hz' : y = z := by simpa using hj
          subst hz'
          have : j = m := by omega
          subst this
          exact ⟨c, h1, h2, h3⟩
    obtain ⟨ys, hl', hys⟩ := build len (Nat.le_refl _)
    have hle : len * B ≤ 140737488351232 := by
      have := hz ((elems.length + rest.length) * P.bytesOf e) (by simp [DataW.weights, hu])
      rw [hB] at this
      exact Nat.le_trans (Nat.mul_le_mul_right _ (by omega)) this
    refine ⟨ys, ⟨some a, cap, by rw [hl'], by omega, ⟨rfl, ?_, fun _ => ⟨a, rfl, fun j y hj => ?_⟩⟩⟩, by rw [hl']; exact hle, by omega, fun y hy => ?_⟩
    · unfold maxLen at hm; omega
    · obtain ⟨c, h1, h2, _⟩ := hys j y hj
      have hcl := d.K_len h2
      refine ⟨c, hcl, h2, fun i u hi => ?_⟩
      have hi' : i < P.cellsOf e := by rw [hc, ← hcl]; exact (List.getElem?_eq_some_iff.1 hi).1
      have := (World.cells?_some h1).2.2 i hi'
      rw [← Go.Deep.add_add, ← hc, this, hi]
    · obtain ⟨j, hj, rfl⟩ := List.mem_iff_getElem.1 hy
      obtain ⟨c, _, _, h3⟩ := hys j _ (List.getElem?_eq_getElem hj)
      exact h3

/-- Fields in line, each behind the other from cell 'off' on. -/
def OpensFs {α : Type} (P : Program) (fs : List (Nat × TypeId)) (off : Nat) (d : Kd α) (ok : α → Prop) : Prop :=
  ∀ {H : Type} {enc : TypeId × Value → H} {w : World} {base : Nat} {spare : Nat → Bool} {held : Bool} {n : Nat} {cs : List Value} {xs : List (DataW H × List MemPlace)},
    (∀ (i : Nat) (f : Nat × TypeId), fs[i]? = some f → DataW.trod enc P w base spare held n f.2 ((cs.drop f.1).take (P.cellsOf f.2)) = xs[i]?) → xs.length = fs.length →
    (∀ (i : Nat) (f : Nat × TypeId) x, fs[i]? = some f → xs[i]? = some x → ∀ m ∈ x.1.weights P f.2, m ≤ 140737488351232) → ∃ y, d.K w y ((cs.drop off).take d.sz) ∧ ok y
theorem opensFs_one {α : Type} {P : Program} {t : TypeId} {off : Nat} {d : Kd α} {ok : α → Prop} (hc : P.cellsOf t = d.sz) (h : Opens P t d ok) : OpensFs P [(off, t)] off d ok := by
  intro H enc w base spare held n cs xs hx hl hz
  have h0 := hx 0 (off, t) rfl
  match xs, hl with
  | [x], _ =>
    obtain ⟨y, h1, h2⟩ := h (x := x) h0 (hz 0 (off, t) x rfl rfl)
    exact ⟨y, by rw [← hc]; exact h1, h2⟩
theorem opensFs_cons {α β : Type} {P : Program} {t : TypeId} {off : Nat} {fs : List (Nat × TypeId)} {a : Kd α} {b : Kd β} {ok : α → Prop} {ok' : β → Prop} (hc : P.cellsOf t = a.sz)
    (h : Opens P t a ok) (hs : OpensFs P fs (off + a.sz) b ok') : OpensFs P ((off, t) :: fs) off (Kd.pair a b) (fun y => ok y.1 ∧ ok' y.2) := by
  intro H enc w base spare held n cs xs hx hl hz
  have h0 := hx 0 (off, t) rfl
  match xs, hl with
  | x :: xs, hl =>
    obtain ⟨y, h1, h2⟩ := h (x := x) h0 (hz 0 (off, t) x rfl rfl)
    obtain ⟨z, h3, h4⟩ := hs (xs := xs) (cs := cs) (fun i f hf => hx (i + 1) f (by simpa using hf)) (by simpa using hl) (fun i f x hf hx' => hz (i + 1) f x (by simpa using hf) (by simpa using hx'))
    refine ⟨(y, z), ⟨(cs.drop off).take (P.cellsOf t), (cs.drop (off + a.sz)).take b.sz, ?_, h1, h3⟩, h2, h4⟩
    show (cs.drop off).take (a.sz + b.sz) = _
    rw [hc, List.take_add, List.drop_drop]
theorem opens_struct {α β : Type} {P : Program} {t : TypeId} {fs : Array Field} {ts : List (Nat × TypeId)} {d : Kd α} {f : β → α} {g : α → β} {ok : α → Prop} (hu : P.underlying t = some (.struct fs)) (ht : fs.toList.map (fun f => (f.offset, f.type)) = ts)
    (hc : P.cellsOf t = d.sz) (hg : ∀ y, f (g y) = y) (h : OpensFs P ts 0 d ok) : Opens P t (Kd.iso d f) (fun y => ok (f y)) := by
  intro H enc w base spare held fuel cs x hx hz
  obtain ⟨xs, n, _, rfl, hl, hn, hi⟩ := DataW.trod_struct hu hx
  have hts : ts.length = fs.size := by rw [← ht]; simp
  have ew : ∀ m ∈ DataW.weightsEach P (fs.toList.map (·.type)) (xs.map (·.1)), m ≤ 140737488351232 := fun m hm => hz m (by simpa [DataW.weights, hu] using hm)
  have at_ : ∀ (i : Nat) (q : Nat × TypeId), ts[i]? = some q → ∃ f, fs[i]? = some f ∧ q = (f.offset, f.type) := by
    intro i q hq
    rw [← ht, List.getElem?_map] at hq
    rcases hf : fs.toList[i]? with _ | f
    · simp [hf] at hq
    · rw [hf] at hq
      exact ⟨f, by simpa using hf, by simpa using hq.symm⟩
  obtain ⟨y, h1, h2⟩ := h (enc := enc) (w := w) (base := base) (spare := spare) (held := held) (n := n) (cs := cs) (xs := xs) (fun i q hq => by
      obtain ⟨f, hf, rfl⟩ := at_ i q hq
      exact hi i f hf) (by omega) (fun i q x hq hx' m hm => by
      obtain ⟨f, hf, rfl⟩ := at_ i q hq
      refine ew m (DataW.weights_mem_each (j := i) (t := f.type) (d := x.1) ?_ ?_ m hm)
      · rw [List.getElem?_map]; have : fs.toList[i]? = some f := by simpa using hf
        rw [this]; rfl
      · rw [List.getElem?_map, hx']; rfl)
  refine ⟨g y, ?_, by show ok (f (g y)); rw [hg]; exact h2⟩
  show d.K w (f (g y)) cs
  rw [hg]
  rwa [List.drop_zero, List.take_of_length_le (by omega)] at h1
theorem opens_array {α β : Type} {P : Program} {t e : TypeId} {n : Nat} {ts : List (Nat × TypeId)} {d : Kd α} {f : β → α} {g : α → β} {ok : α → Prop} (hu : P.underlying t = some (.array n e)) (ht : (List.range n).map (fun i => (i * P.cellsOf e, e)) = ts)
    (hc : P.cellsOf t = d.sz) (hg : ∀ y, f (g y) = y) (h : OpensFs P ts 0 d ok) : Opens P t (Kd.iso d f) (fun y => ok (f y)) := by
  intro H enc w base spare held fuel cs x hx hz
  obtain ⟨xs, m, _, rfl, hl, hn, hi⟩ := DataW.trod_array hu hx
  have hts : ts.length = n := by rw [← ht]; simp
  have ew : ∀ m ∈ DataW.weightsAll P e (xs.map (·.1)), m ≤ 140737488351232 := fun m hm => hz m (by simpa [DataW.weights, hu] using hm)
  have at_ : ∀ (i : Nat) (q : Nat × TypeId), ts[i]? = some q → i < n ∧ q = (i * P.cellsOf e, e) := by
    intro i q hq
    rw [← ht, List.getElem?_map] at hq
    by_cases hi' : i < n
    · rw [List.getElem?_range hi'] at hq
      exact ⟨hi', by simpa using hq.symm⟩
    · rw [List.getElem?_eq_none (by simpa using hi')] at hq
      simp at hq
  obtain ⟨y, h1, h2⟩ := h (enc := enc) (w := w) (base := base) (spare := spare) (held := held) (n := m) (cs := cs) (xs := xs) (fun i q hq => by
      obtain ⟨hf, rfl⟩ := at_ i q hq
      exact hi i hf) (by omega) (fun i q x hq hx' m hm => by
      obtain ⟨hf, rfl⟩ := at_ i q hq
      exact ew m (weights_all (List.mem_map.2 ⟨x, List.mem_of_getElem? hx', rfl⟩) m hm))
  refine ⟨g y, ?_, by show ok (f (g y)); rw [hg]; exact h2⟩
  show d.K w (f (g y)) cs
  rw [hg]
  rwa [List.drop_zero, List.take_of_length_le (by omega)] at h1
theorem okWide_array_ {P : Program} {w : World} {r : Reach} {base : Nat} {t e : TypeId} {n : Nat} {v : Value} (ht : P.underlying t = some (.array n e)) (h : Value.okWide P w r base t v) : ∃ cs, v = .agg cs ∧ cs.size = P.cellsOf t := by
  simp only [Value.okWide, ht] at h
  obtain ⟨cs, h1, h2, _⟩ := h
  exact ⟨cs, h1, h2⟩
end Go.Proofs.Ytdkmmddakidieaa.KdOpen
