/- The reference: all ways one after the other, the best of them. -/
import Derived.Test.YtjbobaeggdafpaaGreatNi
namespace Go.Proofs.YtjbobaeggdafpaaGreat.Vm
open Go
open _root_.Go.RowKit (wrap64)
def Pick (Q : List Nat → Int → Prop) (P : List Nat) (o o' : Option (List Nat × Int)) : Prop :=
 (∀ W u, Q W u → ∃ V v, o' = some (V, v) ∧ v ≤ u) ∧ (o' = o ∨ ∃ W u, Q W u ∧ o' = some (P ++ W, u) ∧ (∀ V v, o = some (V, v) → u < v) ∧ ∀ W' u', Q W' u' → u' = u → ¬ Lx W' W)
theorem Pick.none_ {Q : List Nat → Int → Prop} (P : List Nat) (o : Option (List Nat × Int)) (h : ∀ W u, ¬ Q W u) : Pick Q P o o := ⟨fun W u q => absurd q (h W u), .inl rfl⟩
theorem Pick.le {Q : List Nat → Int → Prop} {P : List Nat} {o o' : Option (List Nat × Int)} (h : Pick Q P o o') {V : List Nat} {v : Int} (e : o = some (V, v)) : ∃ V' v', o' = some (V', v') ∧ v' ≤ v := by
 rcases h.2 with rfl | ⟨W, u, _, e', lt, _⟩
 · exact ⟨V, v, e, Int.le_refl _⟩
 · exact ⟨_, u, e', Int.le_of_lt (lt V v e)⟩
theorem Pick.join {Q1 Q2 Q : List Nat → Int → Prop} {P : List Nat} {o o1 o2 : Option (List Nat × Int)} (h1 : Pick Q1 P o o1) (h2 : Pick Q2 P o1 o2) (hq : ∀ W u, Q W u ↔ Q1 W u ∨ Q2 W u) (lx : ∀ W u W' u', Q1 W u → Q2 W' u' → ¬ Lx W' W) : Pick Q P o o2 := by
 refine ⟨fun W u q => ?_, ?_⟩
 · rcases (hq W u).1 q with q | q
   · obtain ⟨V, v, e, le⟩ := h1.1 W u q
     obtain ⟨V', v', e', le'⟩ := h2.le e
     exact ⟨V', v', e', Int.le_trans le' le⟩
   · exact h2.1 W u q
 · rcases h2.2 with rfl | ⟨W, u, q, e, lt, no⟩
   · rcases h1.2 with rfl | ⟨W, u, q, e, lt, no⟩
     · exact .inl rfl
     · refine .inr ⟨W, u, (hq W u).2 (.inl q), e, lt, fun W' u' q' eq => ?_⟩
       rcases (hq W' u').1 q' with q' | q'
       · exact no W' u' q' eq
       · exact lx W u W' u' q q'
   · refine .inr ⟨W, u, (hq W u).2 (.inr q), e, fun V v ov => ?_, fun W' u' q' eq => ?_⟩
     · obtain ⟨V', v', e', le⟩ := h1.le ov
       have := lt V' v' e'
       omega
     · rcases (hq W' u').1 q' with q' | q'
       · obtain ⟨V, v, e', le⟩ := h1.1 W' u' q'
         have := lt V v e'
         omega
       · exact no W' u' q' eq
theorem Pick.cons {Q Q' : List Nat → Int → Prop} {P : List Nat} {j : Nat} {o o' : Option (List Nat × Int)} (h : Pick Q (P ++ [j]) o o') (hq : ∀ W u, Q' W u ↔ ∃ W', W = j :: W' ∧ Q W' u) : Pick Q' P o o' := by
 refine ⟨fun W u q => ?_, ?_⟩
 · obtain ⟨W', rfl, q1⟩ := (hq W u).1 q
   exact h.1 W' u q1
 · rcases h.2 with e | ⟨W, u, q, e, lt, no⟩
   · exact .inl e
   · refine .inr ⟨j :: W, u, (hq _ _).2 ⟨W, rfl, q⟩, by rw [e, List.append_assoc]; rfl, lt, fun W' u' q' eq => ?_⟩
     obtain ⟨W2, rfl, q2⟩ := (hq _ _).1 q'
     intro lx
     rcases lx with lx | lx
     · omega
     · exact no W2 u' q2 eq lx.2
theorem Pick.one (P : List Nat) (u : Int) (o : Option (List Nat × Int)) : Pick (fun W v => W = [] ∧ v = u) P o (match o with | none => some (P, u) | some (V, v) => if u < v then some (P, u) else some (V, v)) := by
 cases o with
 | none => exact ⟨fun W v q => ⟨P, u, rfl, by rw [q.2]; exact Int.le_refl _⟩, .inr ⟨[], u, ⟨rfl, rfl⟩, by rw [List.append_nil], fun V v e => (by cases e), fun W' u' q _ lx => by rw [q.1] at lx; exact lx⟩⟩
 | some x =>
  obtain ⟨V, v⟩ := x
  dsimp only
  by_cases lt : u < v
  · rw [if_pos lt]
    exact ⟨fun W v q => ⟨P, u, rfl, by rw [q.2]; exact Int.le_refl _⟩, .inr ⟨[], u, ⟨rfl, rfl⟩, by rw [List.append_nil], fun V v e => (by cases e; exact lt), fun W' u' q _ lx => by rw [q.1] at lx; exact lx⟩⟩
  · rw [if_neg lt]
    exact ⟨fun W x q => ⟨V, v, rfl, by rw [q.2]; omega⟩, .inl rfl⟩
def Kept (l : List zA) : Option (List Nat × Int) → zO → Prop
 | none, x => x.2.2 = false
 | some (V, v), x => x = (V.map (endV l), v, true)
section
variable {l : List zA} {p : zE} {w : Int} {s : zD}
theorem all_ev (h : Sit l p w s) (b : Bool) : ∀ (g a : Nat) (c t : Int) (P : List Nat) (o : Option (List Nat × Int)) (x : zO), a + g = (ends l).length → 0 < g → 0 ≤ t → t ≤ 1125899906842624 → P.length ≤ a →
 (∀ W u, (zQ l w s b).Way a c t W u → (zQ l w s b).Way 0 0 0 (P ++ W) u) → Kept l o x →
 ∃ o' x', Pick ((zQ l w s b).Way a c t) P o o' ∧ Kept l o' x' ∧ Ev (fun k => zT.f k l (P.map (endV l)) (a : Int) w s b x) x' := by
 have nl := h.n_le
 intro g
 induction g using Nat.strongRecOn with
 | _ g ih =>
  intro a c t P o x e g0 t0 t1 pl pre kx
  have ha : a < (ends l).length := by omega
  have loop : ∀ (d j : Nat) (o : Option (List Nat × Int)) (x : zO), j + d = (ends l).length → a ≤ j → (∀ i, a ≤ i → i < j → (zQ l w s b).fo i = false) → Kept l o x →
   ∃ o' x', Pick (fun W u => (zQ l w s b).Way a c t W u ∧ ∀ i r, W = i :: r → j ≤ i) P o o' ∧ Kept l o' x' ∧ Ev (fun k => zT.l0 k l (P.map (endV l)) w b (ends l) ((a : Int) - 1) (j : Int) s x (([] : List Int), 0, (false))) x' := by
   intro d
   induction d with
   | zero =>
    intro j o x e0 haj _ kx
    refine ⟨o, x, Pick.none_ _ _ (fun W u q => ?_), kx, Ev.st (fun k => by rw [zT.l0]) (Ev.dn (by omega) (Ev.now _))⟩
    cases W with
    | nil => have : a = (ends l).length := q.1.1; omega
    | cons i r => have := q.2 i r rfl; have : i < (ends l).length := q.1.1.2.1; omega
   | succ d ihd =>
    intro j o x e0 haj hf kx
    have hj : j < (ends l).length := by omega
    have mj := zA6 l hj
    have cr := (zQ l w s b).c0 a j c
    have tc := zBV t0 cr.1
    have split : ∀ W u, ((zQ l w s b).Way a c t W u ∧ ∀ i r, W = i :: r → j ≤ i) ↔ (((zQ l w s b).Way a c t W u ∧ ∃ r, W = j :: r) ∨ ((zQ l w s b).Way a c t W u ∧ ∀ i r, W = i :: r → j + 1 ≤ i)) := by
     intro W u
     constructor
     · rintro ⟨q, m⟩
       cases W with
       | nil => have : a = (ends l).length := q.1; omega
       | cons i r =>
        by_cases z : i = j
        · exact .inl ⟨q, r, by rw [z]⟩
        · exact .inr ⟨q, fun i' r' er => by cases er; have := m i r rfl; omega⟩
     · rintro (⟨q, r, rfl⟩ | ⟨q, m⟩)
       · exact ⟨q, fun i' r' er => by cases er; exact Nat.le_refl _⟩
       · exact ⟨q, fun i' r' er => by have := m i' r' er; omega⟩
    have j1 : ∀ o1 x1, Pick (fun W u => (zQ l w s b).Way a c t W u ∧ ∃ r, W = j :: r) P o o1 → Kept l o1 x1 →
     ∃ o' x', Pick (fun W u => (zQ l w s b).Way a c t W u ∧ ∀ i r, W = i :: r → j ≤ i) P o o' ∧ Kept l o' x' ∧ Ev (fun k => zT.j1 k l (P.map (endV l)) w b (ends l) ((a : Int) - 1) (j : Int) s x1 (([] : List Int), 0, (false))) x' := by
     intro o1 x1 p1 k1
     have lx : ∀ W u W' u', ((zQ l w s b).Way a c t W u ∧ ∃ r, W = j :: r) → ((zQ l w s b).Way a c t W' u' ∧ ∀ i r, W' = i :: r → j + 1 ≤ i) → ¬ Lx W' W := by
      rintro W u W' u' ⟨q, r, rfl⟩ ⟨q', m⟩ lx
      cases W' with
      | nil => have : a = (ends l).length := q'.1; omega
      | cons i r' =>
       have := m i r' rfl
       rcases lx with lx | lx
       · omega
       · omega
     have pre1 : ∀ x', Ev (fun k => if (decide (Fc (rd l (endV l j)))) = true then (some x1) else (zT.l0 k l (P.map (endV l)) w b (ends l) ((a : Int) - 1) ((j + 1 : Nat) : Int) s x1 (([] : List Int), 0, (false)))) x' →
      Ev (fun k => zT.j1 k l (P.map (endV l)) w b (ends l) ((a : Int) - 1) (j : Int) s x1 (([] : List Int), 0, (false))) x' := fun x' v => by
      refine Ev.st (fun k => by rw [zT.j1]) ?_
      refine Ev.gx (xs := ends l) (by omega) (by omega) ?_
      refine Ev.at_ (by exact mj.1) (by exact mj.2.1) ?_
      refine Ev.bind (rfcd_ev _) ?_
      rw [nx j (by omega)]
      exact v
     by_cases f : (zQ l w s b).fo j = true
     · refine ⟨o1, x1, p1.join (Pick.none_ P o1 (Q := fun W u => (zQ l w s b).Way a c t W u ∧ ∀ i r, W = i :: r → j + 1 ≤ i) (fun W u q => ?_)) split lx, k1, pre1 _ (Ev.bp f (Ev.now _))⟩
       cases W with
       | nil => have : a = (ends l).length := q.1.1; omega
       | cons i r =>
        have m := q.2 i r rfl
        have := q.1.1.2.2.2 j haj (by omega)
        rw [f] at this; cases this
     · have f := Bool.eq_false_iff.2 f
       obtain ⟨o2, x2, p2, k2, v2⟩ := ihd (j + 1) o1 x1 (by omega) (by omega) (fun i h1 h2 => by
        by_cases z : i = j
        · rw [z]; exact f
        · exact hf i h1 (by omega)) k1
       exact ⟨o2, x2, p1.join p2 split lx, k2, pre1 _ (Ev.bn f v2)⟩
    have D := rDoes_ev h b a j haj hj
    cases hd : (zQ l w s b).D a j with
    | false =>
     rw [hd] at D
     obtain ⟨o', x', p', k', v'⟩ := j1 o x (Pick.none_ _ _ (fun W u q => by
      obtain ⟨q, r, rfl⟩ := q
      have := q.1.2.2.1
      rw [hd] at this; cases this)) kx
     refine ⟨o', x', p', k', Ev.st (fun k => by rw [zT.l0]) ?_⟩
     refine Ev.dp (by omega) ?_
     refine Ev.bind D ?_
     exact Ev.bn rfl v'
    | true =>
     rw [hd] at D
     have ok : (zQ l w s b).ok a j := ⟨haj, hj, hd, hf⟩
     have pm : (P.map (endV l)).length ≤ 262144 := by rw [List.length_map]; omega
     have wy : (([] : List Int) ++ P.map (endV l)) ++ ([rd (ends l) (j : Int)] : List Int) = (P ++ [j]).map (endV l) := by rw [List.nil_append, List.map_append]; rfl
     have pre0 : ∀ x', Ev (fun k => if (decide ((j : Int) = ((ends l).length : Int) - 1)) = true then ((zN.f k l ((P ++ [j]).map (endV l)) w s b).bind fun r3 => if r3.2 = true then (if (!x.2.2) = true then (zT.j1 k l (P.map (endV l)) w b (ends l) ((a : Int) - 1) (j : Int) s ((P ++ [j]).map (endV l), r3.1, (true)) (([] : List Int), 0, (false))) else (if (decide (r3.1 < x.2.1)) = true then (zT.j1 k l (P.map (endV l)) w b (ends l) ((a : Int) - 1) (j : Int) s ((P ++ [j]).map (endV l), r3.1, (true)) (([] : List Int), 0, (false))) else (zT.j1 k l (P.map (endV l)) w b (ends l) ((a : Int) - 1) (j : Int) s x (([] : List Int), 0, (false))))) else (zT.j1 k l (P.map (endV l)) w b (ends l) ((a : Int) - 1) (j : Int) s x (([] : List Int), 0, (false)))) else ((zT.f k l ((P ++ [j]).map (endV l)) ((j + 1 : Nat) : Int) w s b x).bind fun r4 => zT.j1 k l (P.map (endV l)) w b (ends l) ((a : Int) - 1) (j : Int) s r4 (([] : List Int), 0, (false)))) x' →
      Ev (fun k => zT.l0 k l (P.map (endV l)) w b (ends l) ((a : Int) - 1) (j : Int) s x (([] : List Int), 0, (false))) x' := fun x' v => by
      refine Ev.st (fun k => by rw [zT.l0]) ?_
      refine Ev.dp (by omega) ?_
      refine Ev.bind D ?_
      refine Ev.bp rfl ?_
      refine Ev.ifp (by rw [List.length_nil]; omega) ?_
      refine Ev.gx (xs := ends l) (by omega) (by omega) ?_
      refine Ev.ifp (by rw [List.nil_append, List.length_singleton]; omega) ?_
      rw [wy, w64 (x := ((ends l).length : Int) - 1) (by omega) (by omega), nx j (by omega)]
      exact v
     by_cases last : (j : Int) = ((ends l).length : Int) - 1
     · have jn : j + 1 = (zQ l w s b).n := by show j + 1 = (ends l).length; omega
       have way : (zQ l w s b).Way a c t [j] (tot t ((zQ l w s b).C a j c)) := ⟨ok, jn, rfl⟩
       have PY := Price_yes h b (pre _ _ way)
       have pk := Pick.one (P ++ [j]) (tot t ((zQ l w s b).C a j c)) o
       have qs : ∀ W u, ((zQ l w s b).Way a c t W u ∧ ∃ r, W = j :: r) ↔ ∃ W', W = j :: W' ∧ (W' = [] ∧ u = tot t ((zQ l w s b).C a j c)) := by
        intro W u
        constructor
        · rintro ⟨q, r, rfl⟩
          cases r with
          | nil => exact ⟨[], rfl, rfl, q.uniq way⟩
          | cons i r => have z := q.2.1; have z1 := z.1; have z2 := z.2.1; omega
        · rintro ⟨W', rfl, rfl, rfl⟩
          exact ⟨way, [], rfl⟩
       have pk := pk.cons qs
       cases o with
       | none =>
        have x0 : x.2.2 = false := kx
        obtain ⟨o', x', p', k', v'⟩ := j1 _ ((P ++ [j]).map (endV l), tot t ((zQ l w s b).C a j c), true) pk rfl
        refine ⟨o', x', p', k', pre0 _ (Ev.dp last (Ev.bind PY (Ev.bp rfl (Ev.bp (by rw [x0]; rfl) v'))))⟩
       | some y =>
        obtain ⟨V, v⟩ := y
        have x0 : x = (V.map (endV l), v, true) := kx
        dsimp only at pk
        by_cases lt : tot t ((zQ l w s b).C a j c) < v
        · rw [if_pos lt] at pk
          obtain ⟨o', x', p', k', v'⟩ := j1 _ ((P ++ [j]).map (endV l), tot t ((zQ l w s b).C a j c), true) pk rfl
          refine ⟨o', x', p', k', pre0 _ (Ev.dp last (Ev.bind PY (Ev.bp rfl (Ev.bn (by rw [x0]; rfl) (Ev.dp (by rw [x0]; exact lt) v')))))⟩
        · rw [if_neg lt] at pk
          obtain ⟨o', x', p', k', v'⟩ := j1 _ x pk kx
          refine ⟨o', x', p', k', pre0 _ (Ev.dp last (Ev.bind PY (Ev.bp rfl (Ev.bn (by rw [x0]; rfl) (Ev.dn (by rw [x0]; exact lt) v')))))⟩
     · obtain ⟨o1, x1, p1, k1, v1⟩ := ih ((ends l).length - (j + 1)) (by omega) (j + 1) ((zQ l w s b).K a j) (tot t ((zQ l w s b).C a j c)) (P ++ [j]) o x (by omega) (by omega) tc.1 tc.2 (by simp; omega) (fun W u q => by
        rw [List.append_assoc]
        exact pre (j :: W) u ⟨ok, q⟩) kx
       obtain ⟨o', x', p', k', v'⟩ := j1 o1 x1 (p1.cons (fun W u => by
        constructor
        · rintro ⟨q, r, rfl⟩
          exact ⟨r, rfl, q.2⟩
        · rintro ⟨W', rfl, q⟩
          exact ⟨⟨ok, q⟩, W', rfl⟩)) k1
       exact ⟨o', x', p', k', pre0 _ (Ev.dn last (Ev.bind v1 v'))⟩
  obtain ⟨o', x', p', k', v'⟩ := loop ((ends l).length - a) a o x (by omega) (Nat.le_refl _) (fun i h1 h2 => by omega) kx
  refine ⟨o', x', ⟨fun W u q => p'.1 W u ⟨q, fun i r er => by subst er; exact q.1.1⟩, ?_⟩, k', Ev.st (fun k => by rw [zT.f]) ?_⟩
  · rcases p'.2 with z | ⟨W, u, q, e1, lt, no⟩
    · exact .inl z
    · exact .inr ⟨W, u, q.1, e1, lt, fun W' u' q' eq => no W' u' ⟨q', fun i r er => by subst er; exact q'.1.1⟩ eq⟩
  · refine Ev.bind (rLegal_ev h.good) ?_
    rw [w64 (x := (a : Int) - 1) (by omega) (by omega)]
    exact v'
theorem rBreak_ev (h : Sit l p w s) : ∃ W u e, Brk l w s W u e ∧ Ev (fun k => vJ.f k l w s) (W.map (endV l), u, e) := by
 have n0 := h.n_pos
 have top : ∀ b : Bool, ∃ o x, Kept l o x ∧ Ev (fun k => zT.f k l ([] : List Int) 0 w s b (([] : List Int), 0, (false))) x ∧ (o = none → ∀ W u, ¬ (zQ l w s b).Way 0 0 0 W u) ∧ ∀ V v, o = some (V, v) → (zQ l w s b).First 0 0 0 V v := by
  intro b
  obtain ⟨o, x, pk, kx, v⟩ := all_ev h b (ends l).length 0 0 0 [] none (([] : List Int), 0, (false)) (by omega) n0 (Int.le_refl 0) (by omega) (Nat.zero_le _) (fun W u q => q) rfl
  refine ⟨o, x, kx, v, fun z W u q => ?_, fun V v' z => ?_⟩
  · obtain ⟨V, v, e, _⟩ := pk.1 W u q
    rw [z] at e; cases e
  · rcases pk.2 with e | ⟨W, u, q, e, _, no⟩
    · rw [z] at e; cases e
    · rw [z, List.nil_append] at e
      cases e
      refine ⟨q, fun W' u' q' => ?_⟩
      obtain ⟨V2, v2, e2, le⟩ := pk.1 W' u' q'
      rw [z] at e2
      cases e2
      exact ⟨le, fun eq => no W' u' q' eq⟩
 obtain ⟨o, x, kx, v, no, yes⟩ := top false
 cases o with
 | some y =>
  obtain ⟨V, u⟩ := y
  have kx' : x = (V.map (endV l), u, true) := kx
  subst kx'
  refine ⟨V, u, false, ⟨yes V u rfl, fun z => by cases z⟩, Ev.bind v ?_⟩
  refine Ev.bn rfl (Ev.st (fun k => by rw [vJ.j0]) ?_)
  exact Ev.some_ rfl
 | none =>
  have kx' : x.2.2 = false := kx
  obtain ⟨o2, x2, kx2, v2, no2, yes2⟩ := top true
  cases o2 with
  | none =>
   exfalso
   obtain ⟨W, u, q⟩ := h.loose (ends l).length 0 0 0 (by omega)
   exact no2 rfl W u q
  | some y =>
   obtain ⟨V, u⟩ := y
   have kx2' : x2 = (V.map (endV l), u, true) := kx2
   subst kx2'
   refine ⟨V, u, true, ⟨yes2 V u rfl, fun _ => no rfl⟩, Ev.bind v ?_⟩
   refine Ev.bp (by rw [kx']; rfl) (Ev.bind v2 ?_)
   rw [kx']
   refine Ev.st (fun k => by rw [vJ.j0]) ?_
   exact Ev.some_ rfl
end
end Go.Proofs.YtjbobaeggdafpaaGreat.Vm
