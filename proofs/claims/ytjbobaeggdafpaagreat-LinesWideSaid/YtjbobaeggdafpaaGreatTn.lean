/- A rune's width in a style: the program's and the reference's. -/
import Derived.Test.YtjbobaeggdafpaaGreatTm
namespace Go.Proofs.YtjbobaeggdafpaaGreat.Vm
open Go
open _root_.Go.RowKit (wrap64)
def widthS (s : Styl) (r : Int) : Int := if kindOf r = 1 ∨ kindOf r = 2 then s.2.1 else if kindOf r = 3 ∨ kindOf r = 4 ∨ kindOf r = 5 ∨ kindOf r = 7 ∨ kindOf r = 8 then 0 else findR r s.2.2.2.2.2.1 s.2.2.2.2.2.2.1
theorem Width_ev {l : List Styl} (h : ∀ s ∈ l, styC s = 0) (n : Int) {r : Int} (hr : -2147483648 ≤ r ∧ r ≤ 2147483647) : Ev (fun k => metrics_Table_Width.f k l n r) (widthS (ofS l n) r) := by
 obtain ⟨h1, h2, _⟩ := ofS_ok h n
 refine Ev.bind (sof_ev l n) (Ev.bind (kind_ev r) ?_)
 unfold widthS
 generalize kindOf r = c
 have j1 : ∀ b : Bool, ¬ (c = 1 ∨ c = 2) → (b = true ↔ (c = 3 ∨ c = 4 ∨ c = 5 ∨ c = 7 ∨ c = 8)) → Ev (fun k => metrics_Table_Width.j1 k r b (ofS l n)) (if c = 1 ∨ c = 2 then (ofS l n).2.1 else if c = 3 ∨ c = 4 ∨ c = 5 ∨ c = 7 ∨ c = 8 then 0 else findR r (ofS l n).2.2.2.2.2.1 (ofS l n).2.2.2.2.2.2.1) := by
  intro b hn hb
  rw [if_neg hn]
  refine Ev.st (fun k => by rw [metrics_Table_Width.j1]) (Ev.bc (fun q => Ev.some_ (by rw [if_pos (hb.1 q)])) (fun q => ?_))
  rw [if_neg (fun z => by rw [hb.2 z] at q; cases q), w64 (by omega) (by omega)]
  exact Ev.bind (lookup_ev _ h1 h2 r) (Ev.now _)
 have j0 : ∀ b : Bool, (b = true ↔ (c = 1 ∨ c = 2)) → Ev (fun k => metrics_Table_Width.j0 k r c b (ofS l n)) (if c = 1 ∨ c = 2 then (ofS l n).2.1 else if c = 3 ∨ c = 4 ∨ c = 5 ∨ c = 7 ∨ c = 8 then 0 else findR r (ofS l n).2.2.2.2.2.1 (ofS l n).2.2.2.2.2.2.1) := by
  intro b hb
  refine Ev.st (fun k => by rw [metrics_Table_Width.j0]) (Ev.bc (fun q => Ev.some_ (by rw [if_pos (hb.1 q)])) (fun q => ?_))
  have hn : ¬ (c = 1 ∨ c = 2) := fun z => by rw [hb.2 z] at q; cases q
  refine Ev.dc (fun z => j1 true hn ⟨fun _ => by omega, fun _ => rfl⟩) (fun z1 => ?_)
  refine Ev.dc (fun z => j1 true hn ⟨fun _ => by omega, fun _ => rfl⟩) (fun z2 => ?_)
  refine Ev.dc (fun z => j1 true hn ⟨fun _ => by omega, fun _ => rfl⟩) (fun z3 => ?_)
  refine Ev.dc (fun z => j1 true hn ⟨fun _ => by omega, fun _ => rfl⟩) (fun z4 => ?_)
  exact j1 _ hn (by rw [decide_eq_true_iff]; omega)
 exact Ev.dc (fun q => j0 _ (by simp [q])) (fun q => j0 _ (by simp [q]))
theorem refWidth_ev {l : List Styl} (h : ∀ s ∈ l, styC s = 0) (n r : Int) : Ev (fun k => regletref04_Width.f k l n r) (widthS (ofS l n) r) := by
 obtain ⟨h1, _⟩ := ofS_ok h n
 refine Ev.bind (refOf_ev l n) (Ev.bind (refKind_ev r) ?_)
 unfold widthS
 generalize kindOf r = c
 have j1 : ∀ b : Bool, ¬ (c = 1 ∨ c = 2) → (b = true ↔ (c = 3 ∨ c = 4 ∨ c = 5 ∨ c = 7 ∨ c = 8)) → Ev (fun k => regletref04_Width.j1 k r b (ofS l n)) (if c = 1 ∨ c = 2 then (ofS l n).2.1 else if c = 3 ∨ c = 4 ∨ c = 5 ∨ c = 7 ∨ c = 8 then 0 else findR r (ofS l n).2.2.2.2.2.1 (ofS l n).2.2.2.2.2.2.1) := by
  intro b hn hb
  rw [if_neg hn]
  refine Ev.st (fun k => by rw [regletref04_Width.j1]) (Ev.bc (fun q => Ev.some_ (by rw [if_pos (hb.1 q)])) (fun q => ?_))
  rw [if_neg (fun z => by rw [hb.2 z] at q; cases q)]
  exact refFind_loop r (ofS l n) h1 _ 0 (Nat.zero_add _)
 have j0 : ∀ b : Bool, (b = true ↔ (c = 1 ∨ c = 2)) → Ev (fun k => regletref04_Width.j0 k r c b (ofS l n)) (if c = 1 ∨ c = 2 then (ofS l n).2.1 else if c = 3 ∨ c = 4 ∨ c = 5 ∨ c = 7 ∨ c = 8 then 0 else findR r (ofS l n).2.2.2.2.2.1 (ofS l n).2.2.2.2.2.2.1) := by
  intro b hb
  refine Ev.st (fun k => by rw [regletref04_Width.j0]) (Ev.bc (fun q => Ev.some_ (by rw [if_pos (hb.1 q)])) (fun q => ?_))
  have hn : ¬ (c = 1 ∨ c = 2) := fun z => by rw [hb.2 z] at q; cases q
  refine Ev.dc (fun z => j1 true hn ⟨fun _ => by omega, fun _ => rfl⟩) (fun z1 => ?_)
  refine Ev.dc (fun z => j1 true hn ⟨fun _ => by omega, fun _ => rfl⟩) (fun z2 => ?_)
  refine Ev.dc (fun z => j1 true hn ⟨fun _ => by omega, fun _ => rfl⟩) (fun z3 => ?_)
  refine Ev.dc (fun z => j1 true hn ⟨fun _ => by omega, fun _ => rfl⟩) (fun z4 => ?_)
  exact j1 _ hn (by rw [decide_eq_true_iff]; omega)
 exact Ev.dc (fun q => j0 _ (by simp [q])) (fun q => j0 _ (by simp [q]))
theorem Space_ev (l : List Styl) (n : Int) : Ev (fun k => metrics_Table_Space.f k l n) ((ofS l n).2.1, (ofS l n).2.2.1, (ofS l n).2.2.2.1) := Ev.bind (sof_ev l n) (Ev.now _)
theorem Hyphen_ev (l : List Styl) (n : Int) : Ev (fun k => metrics_Table_Hyphen.f k l n) (ofS l n).2.2.2.2.1 := Ev.bind (sof_ev l n) (Ev.now _)
end Go.Proofs.YtjbobaeggdafpaaGreat.Vm
