/- Two lines are the same just if all that they have is; a copy is the same, and goes its own way. -/
import Derived.Test.YtjbobaeggdafpaaLa
namespace Go.Proofs.Ytjbobaeggdafpaa.Vm
open Go
open _root_.Go.RowKit (wrap64)
abbrev Rn2 := Int × Int
/-- One run more, merged with the last one where their styles are the same. -/
def mst (o : List Rn2) (e : Rn2) : List Rn2 :=
  if e.1 ≤ 0 then o else if 0 < o.length then (if (rd o ((o.length - 1 : Nat) : Int)).2 = e.2 then o.set (o.length - 1) (wrap64 ((rd o ((o.length - 1 : Nat) : Int)).1 + e.1), (rd o ((o.length - 1 : Nat) : Int)).2) else o ++ [e]) else o ++ [e]
def mfo (o l : List Rn2) : List Rn2 := l.foldl mst o
theorem mst_len (o : List Rn2) (e : Rn2) : (mst o e).length ≤ o.length + 1 := by
  unfold mst
  split
  · omega
  · split
    · split
      · simp
      · simp
    · simp
theorem mfo_len : ∀ (l o : List Rn2), (mfo o l).length ≤ o.length + l.length
  | [], o => by simp [mfo]
  | e :: l, o => by
    have h1 := mfo_len l (mst o e)
    have h2 := mst_len o e
    simp only [mfo, List.foldl_cons, List.length_cons] at h1 ⊢
    omega
theorem mfo_drop (l o : List Rn2) (i : Nat) (h : i < l.length) : mfo o (l.drop i) = mfo (mst o (rd l (i : Int))) (l.drop (i + 1)) := by
  rw [drop_rd l i h]; rfl
theorem mfo_end (l o : List Rn2) (i : Nat) (h : l.length ≤ i) : mfo o (l.drop i) = o := by
  rw [List.drop_eq_nil_of_le h]; rfl
theorem last_ix {α : Type} {o : List α} (h : 0 < o.length) (h' : o.length ≤ 1000000) : wrap64 ((o.length : Int) - 1) = ((o.length - 1 : Nat) : Int) := by
  rw [w64 (by omega) (by omega)]; omega
theorem Merged_mfo (l : List Rn2) (hl : l.length ≤ 1000) : ∀ (d i : Nat) (o : List Rn2), i + d = l.length → o.length ≤ i → Ev (fun k => regletref05_Merged.l0 k l o (i : Int)) (mfo o (l.drop i)) := by
  intro d
  induction d with
  | zero => exact fun i o e _ => Ev.st (fun k => by rw [regletref05_Merged.l0]) (Ev.dn (by omega) (Ev.some_ (mfo_end l o i (by omega)).symm))
  | succ d ih =>
    intro i o e ho
    have hnext : ∀ o' : List Rn2, o' = mst o (rd l (i : Int)) → Ev (fun k => regletref05_Merged.j1 k l o' (i : Int)) (mfo o (l.drop i)) := fun o' he => by
      subst he
      refine Ev.st (fun k => by rw [regletref05_Merged.j1]) ?_
      rw [nx i (by omega), mfo_drop l o i (by omega)]
      exact ih (i + 1) _ (by omega) (by have := mst_len o (rd l (i : Int)); omega)
    have happ : mst o (rd l (i : Int)) = o ++ [rd l (i : Int)] → Ev (fun k => regletref05_Merged.j2 k l o (i : Int)) (mfo o (l.drop i)) := fun he => by
      refine Ev.st (fun k => by rw [regletref05_Merged.j2]) ?_
      refine Ev.at_ (by omega) (by omega) ?_
      refine Ev.ifp (by simp only [List.length_cons, List.length_nil]; omega) ?_
      exact hnext _ he.symm
    refine Ev.st (fun k => by rw [regletref05_Merged.l0]) (Ev.dp (by omega) ?_)
    refine Ev.at_ (by omega) (by omega) ?_
    refine Ev.dc (fun h0 => hnext o (by unfold mst; rw [if_pos h0])) fun h0 => ?_
    refine Ev.dc (fun h1 => ?_) fun h1 => happ (by unfold mst; rw [if_neg h0, if_neg (by omega)])
    have h1' : 0 < o.length := by omega
    rw [last_ix h1' (by omega)]
    refine Ev.gx (by omega) (by omega) ?_
    refine Ev.at_ (by omega) (by omega) ?_
    refine Ev.dc (fun h2 => ?_) fun h2 => happ (by unfold mst; rw [if_neg h0, if_pos h1', if_neg h2])
    refine Ev.gx (by omega) (by omega) ?_
    refine Ev.at_ (by omega) (by omega) ?_
    refine Ev.gx (by omega) (by omega) ?_
    rw [Int.toNat_natCast]
    exact hnext _ (by unfold mst; rw [if_neg h0, if_pos h1', if_pos h2])
theorem put_mst (o : List Rn2) (t z n s : Int) (ho : o.length ≤ 1000) : ∃ t', Ev (fun k => runs_List_put.f k (o, t, z) n s) (mst o (n, s), t', z) := by
  by_cases h0 : n ≤ 0
  · exact ⟨t, Ev.congr (fun k => by rw [runs_List_put.f]) (Ev.dp h0 (Ev.some_ (by unfold mst; rw [if_pos h0])))⟩
  · refine ⟨wrap64 (t + n), Ev.congr (fun k => by rw [runs_List_put.f]) (Ev.dn h0 ?_)⟩
    have happ : mst o (n, s) = o ++ [(n, s)] → Ev (fun k => runs_List_put.j0 k n s (o, wrap64 (t + n), z)) (mst o (n, s), wrap64 (t + n), z) := fun he => by
      refine Ev.st (fun k => by rw [runs_List_put.j0]) ?_
      refine Ev.ifp (by simp only [List.length_cons, List.length_nil]; omega) (Ev.some_ ?_)
      rw [he]
    refine Ev.dc (fun h1 => ?_) fun h1 => happ (by unfold mst; rw [if_neg h0, if_neg (by dsimp only at h1; omega)])
    have h1' : 0 < o.length := by dsimp only at h1; omega
    dsimp only
    rw [last_ix h1' (by omega)]
    refine Ev.gx (by omega) (by omega) ?_
    refine Ev.dc (fun h2 => ?_) fun h2 => happ (by unfold mst; rw [if_neg h0, if_pos h1', if_neg h2])
    refine Ev.gx (by omega) (by omega) ?_
    refine Ev.gx (by omega) (by omega) ?_
    rw [Int.toNat_natCast]
    exact Ev.some_ (by unfold mst; rw [if_neg h0, if_pos h1', if_pos h2])
theorem eq_end {a b : List Rn2} (h : a.length = b.length) (e : ∀ j : Nat, j < a.length → rd a (j : Int) = rd b (j : Int)) : decide (a = b) = true := by
  refine decide_eq_true (rd_ext h fun i h0 h1 => ?_)
  have := e i.toNat (by omega)
  rwa [show ((i.toNat : Nat) : Int) = i by omega] at this
theorem ne_at {a b : List Rn2} {i : Nat} (h : rd a (i : Int) ≠ rd b (i : Int)) : decide (a = b) = false := decide_eq_false fun e => h (by rw [e])
theorem pair_dec (x y : Rn2) : (decide (x.1 = y.1) && (decide (x.2 = y.2) && true)) = decide (x = y) := by
  obtain ⟨a, b⟩ := x
  obtain ⟨c, d⟩ := y
  by_cases h1 : a = c <;> by_cases h2 : b = d <;> simp [h1, h2]
theorem ref05_ev (a b : List Rn2) (ha : a.length ≤ 1000) : Ev (fun k => regletref05_Same.f k a b) (decide (a = b)) := by
  refine Ev.congr (fun k => by rw [regletref05_Same.f]) (Ev.xc (fun h => Ev.some_ (decide_eq_false fun e => h (by rw [e])).symm) fun h => ?_)
  have hlen : a.length = b.length := by omega
  have loop : ∀ d i : Nat, i + d = a.length → (∀ j : Nat, j < i → rd a (j : Int) = rd b (j : Int)) → Ev (fun k => regletref05_Same.l0 k a b (i : Int)) (decide (a = b)) := by
    intro d
    induction d with
    | zero => exact fun i e hj => Ev.st (fun k => by rw [regletref05_Same.l0]) (Ev.dn (by omega) (Ev.some_ (eq_end hlen fun j hj' => hj j (by omega)).symm))
    | succ d ih =>
      intro i e hj
      refine Ev.st (fun k => by rw [regletref05_Same.l0]) (Ev.dp (by omega) ?_)
      refine Ev.at_ (by omega) (by omega) ?_
      refine Ev.at_ (by omega) (by omega) ?_
      rw [pair_dec]
      refine Ev.xc (fun hne => Ev.some_ (ne_at hne).symm) fun heq => ?_
      rw [nx i (by omega)]
      exact ih (i + 1) (by omega) fun j hj' => by
        by_cases c : j < i
        · exact hj j c
        · obtain rfl : j = i := by omega
          exact heq
  exact loop a.length 0 (by omega) fun j hj => by omega
theorem runs_Same_ev (a b : List Rn2) (ha : a.length ≤ 400) (hb : b.length ≤ 400) : Ev (fun k => runs_Same.f k a b) (decide (mfo [] a = mfo [] b)) := by
  refine Ev.congr (fun k => by rw [runs_Same.f]) ?_
  -- both, compared
  have cmp : ∀ (x y : List Rn2) (t1 z1 t2 z2 : Int), x.length ≤ 1000 → x.length = y.length → ∀ d i : Nat, i + d = x.length → (∀ j : Nat, j < i → rd x (j : Int) = rd y (j : Int)) → Ev (fun k => runs_Same.l2 k (x.length : Int) (i : Int) (x, t1, z1) (y, t2, z2)) (decide (x = y)) := by
    intro x y t1 z1 t2 z2 hx hlen d
    induction d with
    | zero => exact fun i e hj => Ev.st (fun k => by rw [runs_Same.l2]) (Ev.dn (by omega) (Ev.some_ (eq_end hlen fun j hj' => hj j (by omega)).symm))
    | succ d ih =>
      intro i e hj
      refine Ev.st (fun k => by rw [runs_Same.l2]) (Ev.dp (by omega) ?_)
      dsimp only
      refine Ev.gx (by omega) (by omega) ?_
      refine Ev.gx (by omega) (by omega) ?_
      rw [pair_dec]
      refine Ev.xc (fun hne => Ev.some_ (ne_at hne).symm) fun heq => ?_
      rw [nx i (by omega)]
      exact ih (i + 1) (by omega) fun j hj' => by
        by_cases c : j < i
        · exact hj j c
        · obtain rfl : j = i := by omega
          exact heq
  have la := mfo_len a []
  have second : ∀ (d i : Nat) (x : List Rn2) (t1 z1 : Int) (y : List Rn2) (t2 z2 : Int), x.length ≤ 400 → i + d = b.length → y.length ≤ i → Ev (fun k => runs_Same.l1 k b (b.length : Int) (i : Int) (x, t1, z1) (y, t2, z2)) (decide (x = mfo y (b.drop i))) := by
    intro d
    induction d with
    | zero =>
      intro i x t1 z1 y t2 z2 hx e hy
      rw [mfo_end b y i (by omega)]
      refine Ev.st (fun k => by rw [runs_Same.l1]) (Ev.dn (by omega) ?_)
      refine Ev.xc (fun h => Ev.some_ (decide_eq_false fun e => h (by dsimp only; rw [e])).symm) fun h => ?_
      dsimp only at h
      exact cmp x y t1 z1 t2 z2 (by omega) (by omega) x.length 0 (by omega) fun j hj => by omega
    | succ d ih =>
      intro i x t1 z1 y t2 z2 hx e hy
      refine Ev.st (fun k => by rw [runs_Same.l1]) (Ev.dp (by omega) ?_)
      refine Ev.at_ (by omega) (by omega) ?_
      obtain ⟨t', hput⟩ := put_mst y t2 z2 (rd b (i : Int)).1 (rd b (i : Int)).2 (by omega)
      refine Ev.bind hput ?_
      rw [nx i (by omega), mfo_drop b y i (by omega)]
      exact ih (i + 1) x t1 z1 _ t' z2 hx (by omega) (by have h : (mst y (rd b (i : Int))).length ≤ _ := mst_len y (rd b (i : Int)); show (mst y (rd b (i : Int))).length ≤ i + 1; omega)
  have first : ∀ (d i : Nat) (x : List Rn2) (t1 z1 : Int), i + d = a.length → x.length ≤ i → Ev (fun k => runs_Same.l0 k b a (a.length : Int) (i : Int) (x, t1, z1) (([] : List api_Run), 0, 0)) (decide (mfo x (a.drop i) = mfo [] b)) := by
    intro d
    induction d with
    | zero =>
      intro i x t1 z1 e hx
      rw [mfo_end a x i (by omega)]
      refine Ev.st (fun k => by rw [runs_Same.l0]) (Ev.dn (by omega) ?_)
      exact second b.length 0 x t1 z1 [] 0 0 (by omega) (by omega) (by simp)
    | succ d ih =>
      intro i x t1 z1 e hx
      refine Ev.st (fun k => by rw [runs_Same.l0]) (Ev.dp (by omega) ?_)
      refine Ev.at_ (by omega) (by omega) ?_
      obtain ⟨t', hput⟩ := put_mst x t1 z1 (rd a (i : Int)).1 (rd a (i : Int)).2 (by omega)
      refine Ev.bind hput ?_
      rw [nx i (by omega), mfo_drop a x i (by omega)]
      exact ih (i + 1) _ t' z1 (by omega) (by have h : (mst x (rd a (i : Int))).length ≤ _ := mst_len x (rd a (i : Int)); show (mst x (rd a (i : Int))).length ≤ i + 1; omega)
  exact first a.length 0 [] 0 0 (by omega) (by simp)
/-- All but the runs. -/
def likeL (a b : Lin) (r : Bool) : Bool :=
  decide (a.1 = b.1) && (decide (a.2.2.1 = b.2.2.1) && (decide (a.2.2.2.1 = b.2.2.2.1) && (decide (a.2.2.2.2.1 = b.2.2.2.2.1) && (decide (a.2.2.2.2.2.1 = b.2.2.2.2.2.1) && (decide (a.2.2.2.2.2.2.1 = b.2.2.2.2.2.2.1) && (decide (a.2.2.2.2.2.2.2.1 = b.2.2.2.2.2.2.2.1) && (decide (a.2.2.2.2.2.2.2.2 = b.2.2.2.2.2.2.2.2) && r)))))))
theorem Ev.and_ {c : Prop} [Decidable c] {a : Nat → Option Bool} {r : Bool} (h : Ev a r) : Ev (fun n => if (decide c) = true then a n else some false) (decide c && r) := by
  by_cases hc : c
  · exact Ev.dp hc (Ev.lift h (by simp [hc]))
  · exact Ev.dn hc (Ev.some_ (by simp [hc]))
theorem lines_Same_ev (a b : Lin) (ha : a.2.1.length ≤ 400) (hb : b.2.1.length ≤ 400) : Ev (fun k => lines_Same.f k a b) (likeL a b (decide (mfo [] a.2.1 = mfo [] b.2.1))) := by
  refine Ev.congr (fun k => by rw [lines_Same.f]) ?_
  unfold likeL
  iterate 8 refine Ev.and_ ?_
  exact Ev.bind (runs_Same_ev a.2.1 b.2.1 ha hb) (Ev.now _)
theorem ref10_Same_ev (a b : Lin) (ha : a.2.1.length ≤ 1000) : Ev (fun k => regletref10_Same.f k a b) (likeL a b (decide (a.2.1 = b.2.1))) := by
  refine Ev.congr (fun k => by rw [regletref10_Same.f]) ?_
  unfold likeL
  iterate 8 refine Ev.and_ ?_
  exact Ev.bind (ref05_ev a.2.1 b.2.1 ha) (Ev.now _)
theorem likeL_refl (a : Lin) : likeL a a true = true := by simp [likeL]
theorem Pure.LinesSame (a b : Lin) (_ : okT tLine a) (_ : okT tLine b) : ∃ k, regletlaw10_LinesSame.f k a b = some true := by
  refine Ev.rounds (Ev.congr (fun k => by rw [regletlaw10_LinesSame.f]) (Ev.bind awake10_ev (Ev.bn rfl (Ev.dc (fun _ => Ev.now _) fun ha => Ev.dc (fun _ => Ev.now _) fun hb => ?_))))
  have ha' : a.2.1.length ≤ 50 := by omega
  have hb' : b.2.1.length ≤ 50 := by omega
  refine Ev.st (fun k => by rw [regletlaw10_LinesSame.j0]) ?_
  have main : Ev (fun k => regletlaw10_LinesSame.l2 k ((b.2.1.length : Nat) : Int) a b) true := by
    refine Ev.st (fun k => by rw [regletlaw10_LinesSame.l2]) (Ev.dn (by omega) ?_)
    have l1 := mfo_len a.2.1 []
    have l2 := mfo_len b.2.1 []
    refine Ev.bind (Ev.congr (fun k => by rw [regletref05_Merged.f]; rfl) (Merged_mfo a.2.1 (by omega) a.2.1.length 0 [] (by omega) (by simp))) ?_
    refine Ev.bind (Ev.congr (fun k => by rw [regletref05_Merged.f]; rfl) (Merged_mfo b.2.1 (by omega) b.2.1.length 0 [] (by omega) (by simp))) ?_
    rw [List.drop_zero, List.drop_zero]
    refine Ev.bind (a := (a : Lin)) (Ev.congr (fun k => by rw [lines_Copy.f, if_pos (by simp only [List.length_nil]; omega)]; rfl) (Ev.now _)) ?_
    refine Ev.bind (lines_Same_ev a b (by omega) (by omega)) ?_
    refine Ev.bind (ref10_Same_ev (a.1, mfo [] a.2.1, a.2.2) (b.1, mfo [] b.2.1, b.2.2) (by simp only [List.length_nil] at l1; dsimp only; omega)) ?_
    refine Ev.xn rfl ?_
    have hself : Ev (fun k => lines_Same.f k a a) true := Ev.lift (lines_Same_ev a a (by omega) (by omega)) (by rw [decide_eq_true rfl]; exact likeL_refl a)
    refine Ev.bind hself (Ev.ifn (by simp) ?_)
    refine Ev.bind hself (Ev.ifn (by simp) ?_)
    refine Ev.st (fun k => by rw [regletlaw10_LinesSame.j3]) (Ev.dc (fun h => ?_) fun _ => Ev.now _)
    refine Ev.at_ (by omega) (by omega) ?_
    refine Ev.gx (by omega) (by omega) ?_
    refine Ev.at_ (by omega) (by omega) ?_
    exact Ev.bn (by simp) (Ev.now _)
  have second : ∀ d i : Nat, i + d = b.2.1.length → Ev (fun k => regletlaw10_LinesSame.l2 k (i : Int) a b) true := by
    intro d
    induction d with
    | zero =>
      intro i e
      obtain rfl : i = b.2.1.length := by omega
      exact main
    | succ d ih =>
      intro i e
      refine Ev.st (fun k => by rw [regletlaw10_LinesSame.l2]) (Ev.dp (by omega) ?_)
      refine Ev.at_ (by omega) (by omega) (Ev.dc (fun _ => Ev.now _) fun _ => ?_)
      rw [nx i (by omega)]
      exact ih (i + 1) (by omega)
  have first : ∀ d i : Nat, i + d = a.2.1.length → Ev (fun k => regletlaw10_LinesSame.l1 k (i : Int) a b) true := by
    intro d
    induction d with
    | zero =>
      intro i e
      refine Ev.st (fun k => by rw [regletlaw10_LinesSame.l1]) (Ev.dn (by omega) ?_)
      exact second b.2.1.length 0 (by omega)
    | succ d ih =>
      intro i e
      refine Ev.st (fun k => by rw [regletlaw10_LinesSame.l1]) (Ev.dp (by omega) ?_)
      refine Ev.at_ (by omega) (by omega) (Ev.dc (fun _ => Ev.now _) fun _ => ?_)
      rw [nx i (by omega)]
      exact ih (i + 1) (by omega)
  exact first a.2.1.length 0 (by omega)
end Go.Proofs.Ytjbobaeggdafpaa.Vm
