/- What is seen of any line is what the page says. -/
import Derived.Test.YtjbobaeggdafpaaLb
namespace Go.Proofs.Ytjbobaeggdafpaa.Vm
open Go
open _root_.Go.RowKit (wrap64)
/-- a rune that isn't seen -/
def unseen (r : Int) : Bool := decide (kindOf r = 3 ∨ kindOf r = 4 ∨ kindOf r = 5 ∨ kindOf r = 7 ∨ kindOf r = 8)
def seenOf (L : List Int) : List Int := L.filter fun r => !unseen r
def bsL : List Int → List Int
  | [] => []
  | r :: F => runeL r.toNat ++ bsL F
theorem bsL_app : ∀ F G : List Int, bsL (F ++ G) = bsL F ++ bsL G
  | [], _ => rfl
  | r :: F, G => by rw [List.cons_append, bsL, bsL, bsL_app F G, List.append_assoc]
theorem bsL_len : ∀ F : List Int, (bsL F).length ≤ 4 * F.length
  | [] => by simp [bsL]
  | r :: F => by
    have := runeL_len r.toNat
    have := bsL_len F
    rw [bsL, List.length_append, List.length_cons]; omega
/-- without the spaces at the end -/
def trim (F : List Int) : List Int := (F.reverse.dropWhile fun r => decide (kindOf r = 1)).reverse
theorem trim_app (F : List Int) (r : Int) : trim (F ++ [r]) = if kindOf r = 1 then trim F else F ++ [r] := by
  unfold trim
  rw [List.reverse_append, List.reverse_singleton, List.singleton_append, List.dropWhile_cons]
  by_cases c : kindOf r = 1
  · rw [if_pos (decide_eq_true c), if_pos c]
  · rw [if_neg (by simpa using c), if_neg c, List.reverse_cons, List.reverse_reverse]
theorem trim_pre (F : List Int) : ∃ G, F = trim F ++ G := by
  refine ⟨(F.reverse.takeWhile fun r => decide (kindOf r = 1)).reverse, ?_⟩
  unfold trim
  rw [← List.reverse_append, List.takeWhile_append_dropWhile, List.reverse_reverse]
def IsR (x : Int) : Prop := ∃ r : Nat, x = (r : Int) ∧ r ≤ 1114111 ∧ (r < 55296 ∨ 57343 < r)
theorem Enc.isR {s : ByteArray} {pos r n : Nat} (h : Enc s pos r n) : IsR (r : Int) := ⟨r, rfl, by have := h.2; omega, by have := h.2; omega⟩
theorem Dec.isR {s : ByteArray} {e pos : Nat} {L A : List Int} (h : Dec s e pos L A) : ∀ x ∈ L, IsR x := by
  induction h with
  | done => intro x hx; cases hx
  | step hE _ ih =>
    intro x hx
    rcases List.mem_cons.1 hx with rfl | hx
    · exact hE.isR
    · exact ih x hx
def finL (l : Lin) (o : List Int) : ByteArray := strOfNums (if l.2.2.2.2.2.1 = true then o ++ [45] else o)
theorem seen_cons (r : Int) (L : List Int) : seenOf (r :: L) = if unseen r = true then seenOf L else r :: seenOf L := by
  unfold seenOf
  rw [List.filter_cons]
  cases unseen r <;> rfl
/-- one of the kinds, as the code asks -/
theorem Ev.kinds {β : Type} {r : Int} {g : Nat → Bool → Option β} {v : β} (K : Ev (fun k => g k (unseen r)) v) : Ev (fun k => if (decide (kindOf r = 3)) = true then g k true else (if (decide (kindOf r = 4)) = true then g k true else (if (decide (kindOf r = 5)) = true then g k true else (if (decide (kindOf r = 7)) = true then g k true else g k (decide (kindOf r = 8)))))) v := by
  unfold unseen at K
  refine Ev.dc (fun c => ?_) (fun c => ?_)
  · rwa [decide_eq_true (by omega)] at K
  refine Ev.dc (fun c => ?_) (fun c => ?_)
  · rwa [decide_eq_true (by omega)] at K
  refine Ev.dc (fun c => ?_) (fun c => ?_)
  · rwa [decide_eq_true (by omega)] at K
  refine Ev.dc (fun c => ?_) (fun c => ?_)
  · rwa [decide_eq_true (by omega)] at K
  have e : decide (kindOf r = 3 ∨ kindOf r = 4 ∨ kindOf r = 5 ∨ kindOf r = 7 ∨ kindOf r = 8) = decide (kindOf r = 8) := by rw [decide_eq_decide]; omega
  rwa [e] at K
theorem iShown_loop (l : Lin) {s : ByteArray} (hs : s.size ≤ 2000) {pos : Nat} {L A : List Int} (D : Dec s s.size pos L A) : ∀ F : List Int, F.length ≤ pos →
    Ev (fun k => lines_Shown.l0 k (bsL F) ((bsL (trim F)).length : Int) (s, pos) l) (finL l (bsL (trim (F ++ seenOf L)))) := by
  generalize he : s.size = e at D
  induction D with
  | done =>
    intro F hF
    subst he
    obtain ⟨G, hG⟩ := trim_pre F
    have hb := bsL_len F
    have e1 : (bsL F).take (((bsL (trim F)).length : Nat) : Int).toNat = bsL (trim F) := by
      rw [Int.toNat_natCast]
      conv => lhs; arg 2; rw [hG]
      rw [bsL_app, List.take_left]
    have e2 : (bsL (trim F)).length ≤ (bsL F).length := by
      conv => rhs; rw [hG]
      rw [bsL_app, List.length_append]; omega
    rw [show seenOf [] = [] from rfl, List.append_nil]
    refine Ev.st (fun k => by rw [lines_Shown.l0]) (Ev.ifn (by dsimp only; omega) (Ev.ifp (by omega) ?_))
    rw [e1]
    unfold finL
    refine Ev.bc (fun c => ?_) (fun c => ?_)
    · rw [if_pos c]
      refine Ev.ifp (by simp only [List.length_cons, List.length_nil]; omega) ?_
      exact Ev.st (fun k => by rw [lines_Shown.j2]) (Ev.now _)
    · rw [if_neg (by rw [c]; exact Bool.false_ne_true)]
      exact Ev.st (fun k => by rw [lines_Shown.j2]) (Ev.now _)
  | @step pos r n L A hE hD ih =>
    intro F hF
    subst he
    have p1 := hE.pos1
    have p2 := hE.1
    obtain ⟨q, hq, q1, q2⟩ := hE.isR
    refine Ev.st (fun k => by rw [lines_Shown.l0]) (Ev.ifp (by dsimp only; omega) ?_)
    dsimp only
    rw [decode_enc hE]
    refine Ev.bind (kind_ev _) ?_
    refine Ev.kinds (g := fun k b => lines_Shown.j1 k (bsL F) ((bsL (trim F)).length : Int) (r : Int) (s, pos + n) b l) ?_
    refine Ev.st (fun k => by rw [lines_Shown.j1]) ?_
    rw [seen_cons]
    refine Ev.bc (fun c => ?_) (fun c => ?_)
    · rw [if_pos c]
      exact ih F (by omega)
    · rw [if_neg (by rw [c]; exact Bool.false_ne_true)]
      have hb := bsL_len F
      have A := Append_ev (bsL F) (by omega) r (by omega)
      have e : bsL F ++ runeL r = bsL (F ++ [(r : Int)]) := by rw [bsL_app, bsL, bsL, List.append_nil, Int.toNat_natCast]
      rw [e] at A
      have z := ih (F ++ [(r : Int)]) (by rw [List.length_append, List.length_singleton]; omega)
      rw [List.append_assoc, List.singleton_append] at z
      refine Ev.bind A (Ev.bind (kind_ev _) ?_)
      rw [trim_app] at z
      refine Ev.xc (fun c => ?_) (fun c => ?_)
      · rw [if_neg c] at z; exact z
      · rw [if_pos c] at z; exact z
theorem rBytes_loop (F : List Int) (n i : Nat) (l : Lin) {v : ByteArray} (B : List Int) (hB : B.length ≤ 4) (h8 : ∀ x ∈ B, 0 ≤ x ∧ x < 256) : ∀ (d j : Nat) (o : List Int), j + d = B.length → o.length + d ≤ 100000000 →
    Ev (fun k => regletref10_Shown.l6 k F (n : Int) (o ++ B.drop j) ((i + 1 : Nat) : Int) l) v → i < 1000000 → Ev (fun k => regletref10_Shown.l7 k F (n : Int) o (i : Int) B (j : Int) l) v := by
  intro d
  induction d with
  | zero =>
    intro j o e ho K hi
    rw [List.drop_of_length_le (by omega), List.append_nil] at K
    refine Ev.st (fun k => by rw [regletref10_Shown.l7]) (Ev.dn (by omega) ?_)
    rw [nx i (by omega)]
    exact K
  | succ d ih =>
    intro j o e ho K hi
    have hx := h8 _ (rd_in B (i := j) (by omega))
    rw [drop_rd B j (by omega)] at K
    refine Ev.st (fun k => by rw [regletref10_Shown.l7]) (Ev.dp (by omega) ?_)
    refine Ev.gx (by omega) (by omega) ?_
    refine Ev.ifp (by simp only [List.length_cons, List.length_nil]; omega) ?_
    rw [nx j (by omega), u8w, show rd B (j : Int) % 256 = rd B (j : Int) by omega]
    refine ih (j + 1) _ (by omega) (by rw [List.length_append, List.length_singleton]; omega) ?_ hi
    rw [List.append_assoc]
    exact K
theorem runeL_8 (r : Nat) (h : r ≤ 1114111) : ∀ x ∈ runeL r, 0 ≤ x ∧ x < 256 := by
  unfold runeL
  intro x hx
  by_cases c : 1114111 < r ∨ (55296 ≤ r ∧ r ≤ 57343)
  · rw [if_pos c] at hx; cases hx
  rw [if_neg c] at hx
  by_cases c1 : r < 128
  · rw [if_pos c1] at hx; simp at hx; omega
  rw [if_neg c1] at hx
  by_cases c2 : r < 2048
  · rw [if_pos c2] at hx; simp at hx; omega
  rw [if_neg c2] at hx
  by_cases c3 : r < 65536
  · rw [if_pos c3] at hx; simp at hx; omega
  rw [if_neg c3] at hx
  simp at hx; omega
theorem rOut_loop (F : List Int) (hF : ∀ x ∈ F, IsR x) (l : Lin) (n : Nat) (hn : n ≤ F.length) (hn2 : n ≤ 100000) : ∀ (d i : Nat), i + d = n → Ev (fun k => regletref10_Shown.l6 k F (n : Int) (bsL (F.take i)) (i : Int) l) (finL l (bsL (F.take n))) := by
  intro d
  induction d with
  | zero =>
    intro i e
    obtain rfl : i = n := by omega
    have hb := bsL_len (F.take i)
    rw [List.length_take] at hb
    refine Ev.st (fun k => by rw [regletref10_Shown.l6]) (Ev.dn (by omega) ?_)
    unfold finL
    refine Ev.bc (fun c => ?_) (fun c => ?_)
    · rw [if_pos c]
      refine Ev.ifp (by simp only [List.length_cons, List.length_nil]; omega) ?_
      exact Ev.st (fun k => by rw [regletref10_Shown.j8]) (Ev.now _)
    · rw [if_neg (by rw [c]; exact Bool.false_ne_true)]
      exact Ev.st (fun k => by rw [regletref10_Shown.j8]) (Ev.now _)
  | succ d ih =>
    intro i e
    have hb := bsL_len (F.take i)
    rw [List.length_take] at hb
    obtain ⟨r, hr, r1, r2⟩ := hF _ (rd_in F (i := i) (by omega))
    refine Ev.st (fun k => by rw [regletref10_Shown.l6]) (Ev.dp (by omega) ?_)
    refine Ev.gx (by omega) (by omega) ?_
    have z := ih (i + 1) (by omega)
    rw [take_rd F i (by omega), bsL_app, bsL, bsL, List.append_nil, hr, Int.toNat_natCast] at z
    rw [hr]
    refine Ev.bind (Bytes_ev r) ?_
    refine rBytes_loop F n i l (runeL r) (runeL_len r) (runeL_8 r r1) (runeL r).length 0 _ (by omega) (by have := runeL_len r; omega) ?_ (by omega)
    rw [List.drop_zero]
    exact z
theorem rTrim_loop (F : List Int) (hF : ∀ x ∈ F, IsR x) (l : Lin) (hn2 : F.length ≤ 100000) : ∀ n : Nat, n ≤ F.length → trim F = trim (F.take n) → Ev (fun k => regletref10_Shown.l2 k F (n : Int) l) (finL l (bsL (trim F))) := by
  have j5 : ∀ n : Nat, n ≤ F.length → trim F = F.take n → Ev (fun k => regletref10_Shown.j5 k F (n : Int) l) (finL l (bsL (trim F))) := fun n h e => by
    rw [e]
    exact Ev.st (fun k => by rw [regletref10_Shown.j5]; rfl) (rOut_loop F hF l n h (by omega) n 0 (by omega))
  intro n
  induction n with
  | zero => exact fun h e => Ev.st (fun k => by rw [regletref10_Shown.l2]) (Ev.dn (by omega) (j5 0 h e))
  | succ n ih =>
    intro h e
    rw [take_rd F n (by omega), trim_app] at e
    refine Ev.st (fun k => by rw [regletref10_Shown.l2]) (Ev.dp (by omega) ?_)
    rw [show wrap64 (((n + 1 : Nat) : Int) - 1) = (n : Int) by rw [w64 (by omega) (by omega)]; omega]
    refine Ev.gx (by omega) (by omega) (Ev.bind (refKind_ev _) (Ev.dc (fun c => ?_) (fun c => ?_)))
    · rw [if_pos c] at e
      refine Ev.st (fun k => by rw [regletref10_Shown.j4]) ?_
      rw [show wrap64 (((n + 1 : Nat) : Int) - 1) = (n : Int) by rw [w64 (by omega) (by omega)]; omega]
      exact ih (by omega) e
    · rw [if_neg c, ← take_rd F n (by omega)] at e
      exact j5 (n + 1) h e
theorem rSeen_loop (X : List Int) (hX : X.length ≤ 100000) (hR : ∀ x ∈ X, IsR x) (l : Lin) : ∀ (d i : Nat), i + d = X.length → Ev (fun k => regletref10_Shown.l0 k X (seenOf (X.take i)) (i : Int) l) (finL l (bsL (trim (seenOf X)))) := by
  have sub : ∀ i, (seenOf (X.take i)).length ≤ 100000 := fun i => by
    have h1 := List.length_filter_le (fun r => !unseen r) (X.take i)
    rw [List.length_take] at h1
    show (List.filter _ _).length ≤ _
    omega
  intro d
  induction d with
  | zero =>
    intro i e
    have s := sub X.length
    obtain rfl : i = X.length := by omega
    rw [List.take_length] at s ⊢
    refine Ev.st (fun k => by rw [regletref10_Shown.l0]) (Ev.dn (by omega) ?_)
    exact rTrim_loop (seenOf X) (fun x hx => hR x (List.mem_filter.1 hx).1) l s _ (Nat.le_refl _) (by rw [List.take_length])
  | succ d ih =>
    intro i e
    refine Ev.st (fun k => by rw [regletref10_Shown.l0]) (Ev.dp (by omega) ?_)
    refine Ev.gx (by omega) (by omega) (Ev.bind (refKind_ev _) ?_)
    refine Ev.kinds (g := fun k b => regletref10_Shown.j1 k X (seenOf (X.take i)) (i : Int) b l) ?_
    have z := ih (i + 1) (by omega)
    have eq : seenOf (X.take (i + 1)) = seenOf (X.take i) ++ (if unseen (rd X (i : Int)) = true then [] else [rd X (i : Int)]) := by
      rw [take_rd X i (by omega)]
      unfold seenOf
      rw [List.filter_append]
      exact congrArg _ (seen_cons _ [])
    rw [eq] at z
    have j3 : ∀ o, Ev (fun k => regletref10_Shown.l0 k X o ((i + 1 : Nat) : Int) l) (finL l (bsL (trim (seenOf X)))) → Ev (fun k => regletref10_Shown.j3 k X o (i : Int) l) (finL l (bsL (trim (seenOf X)))) := fun o h => by
      refine Ev.st (fun k => by rw [regletref10_Shown.j3]) ?_
      rw [nx i (by omega)]; exact h
    refine Ev.st (fun k => by rw [regletref10_Shown.j1]) ?_
    refine Ev.bc (fun c => ?_) (fun c => ?_)
    · rw [if_pos c, List.append_nil] at z
      exact j3 _ z
    · rw [if_neg (by rw [c]; exact Bool.false_ne_true)] at z
      refine Ev.gx (by omega) (by omega) ?_
      refine Ev.ifp (by have := sub i; simp only [List.length_cons, List.length_nil]; omega) ?_
      exact j3 _ z
theorem Pure.LinesShown (l : Lin) (_ : okT tLine l) : ∃ k, regletlaw10_LinesShown.f k l = some true := by
  refine Ev.rounds (Ev.bind awake10_ev (Ev.bn rfl (Ev.dc (fun _ => Ev.now _) (fun h => ?_))))
  refine Ev.bind (rRightS_ev l.1 (by omega)) (Ev.nc (fun _ => Ev.now _) (fun c => ?_))
  obtain ⟨L, A, b, V, Q⟩ := Runes_ev l.1 (by omega)
  have D : Dec l.1 l.1.size 0 L A := by
    rcases Q with ⟨_, q⟩ | ⟨e, _, h1, h2, h3⟩
    · exact q
    · exact absurd (isTrue_iff.1 c) (h2.stop h3 h1)
  have dl := D.le
  have I := iShown_loop l (by omega) D [] (by simp)
  have J := rSeen_loop L (by omega) D.isR l L.length 0 (by omega)
  refine Ev.bind I (Ev.bind (Ev.bind V J) (Ev.some_ ?_))
  exact decide_eq_true rfl
end Go.Proofs.Ytjbobaeggdafpaa.Vm
