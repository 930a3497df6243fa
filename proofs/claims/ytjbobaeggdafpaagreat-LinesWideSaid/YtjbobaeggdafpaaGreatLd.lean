/- Chapter 10: heights; where lines end in the text. -/
import Derived.Test.YtjbobaeggdafpaaGreatLc
import Derived.Test.YtjbobaeggdafpaaGreatNf
namespace Go.Proofs.YtjbobaeggdafpaaGreat.Vm
open Go
open _root_.Go.RowKit (wrap64)
theorem Height_ev (l : List Styl) (n : Int) : Ev (fun k => metrics_Table_Height.f k l n) (ofS l n).1 := Ev.bind (sof_ev l n) (Ev.now _)
def tallF (l : List Styl) : Int → List (Int × Int) → Int
 | m, [] => if m = 0 then (ofS l 0).1 else m
 | m, x :: r => tallF l (if 0 < x.1 then (if m < (ofS l x.2).1 then (ofS l x.2).1 else m) else m) r
theorem Tallest_loop (l : List Styl) (R : List (Int × Int)) (hR : R.length ≤ 4000000000000000000) : ∀ (d i : Nat) (m : Int), i + d = R.length → Ev (fun k => metrics_Table_Tallest.l0 k l m R (R.length : Int) (i : Int)) (tallF l m (R.drop i)) := by
 intro d
 induction d with
 | zero =>
  intro i m e
  rw [List.drop_of_length_le (by omega), tallF]
  refine Ev.st (fun k => by rw [metrics_Table_Tallest.l0]) (Ev.dn (by omega) (Ev.dc (fun c => ?_) (fun c => ?_)))
  · rw [if_pos c]; exact Ev.bind (Height_ev l 0) (Ev.now _)
  · rw [if_neg c]; exact Ev.now _
 | succ d ih =>
  intro i m e
  rw [drop_rd R i (by omega), tallF]
  refine Ev.st (fun k => by rw [metrics_Table_Tallest.l0]) (Ev.dp (by omega) (Ev.at_ (by omega) (by omega) ?_))
  rw [nx i (by omega)]
  refine Ev.dc (fun c => ?_) (fun c => ?_)
  · rw [if_pos c]
    exact Ev.bind (Height_ev l _) (ih (i + 1) _ (by omega))
  · rw [if_neg c]
    exact ih (i + 1) _ (by omega)
theorem Tallest_ev (l : List Styl) (R : List (Int × Int)) (hR : R.length ≤ 4000000000000000000) : Ev (fun k => metrics_Table_Tallest.f k l R) (tallF l 0 R) := Tallest_loop l R hR R.length 0 0 (by omega)
theorem stys_app : ∀ A B : List (Int × Int), stys (A ++ B) = stys A ++ stys B
 | [], _ => rfl
 | x :: A, B => by rw [List.cons_append, stys, stys, stys_app A B, List.append_assoc]
theorem rd_app_last {α : Type} [Inhabited α] (xs : List α) (x : α) : rd (xs ++ [x]) (((xs ++ [x]).length : Int) - 1) = x := rd_last xs x
theorem height_loop (l : List Styl) (R : List (Int × Int)) (hR : R.length ≤ 1000000) : ∀ n : Nat, n ≤ R.length → stys R = stys (R.take n) → stys R ≠ [] → Ev (fun k => lines_height.l0 k l R ((n : Int) - 1)) (ofS l (rd (stys R) (((stys R).length : Int) - 1))).1 := by
 intro n
 induction n with
 | zero => exact fun _ h h' => absurd h h'
 | succ n ih =>
  intro hn h h'
  have e1 : R.take (n + 1) = R.take n ++ [rd R (n : Int)] := take_rd R n (by omega)
  rw [e1, stys_app, stys, stys, List.append_nil] at h
  refine Ev.st (fun k => by rw [lines_height.l0]) (Ev.dp (by omega) ?_)
  rw [show ((n + 1 : Nat) : Int) - 1 = (n : Int) by omega]
  refine Ev.at_ (by omega) (by omega) (Ev.dc (fun c => ?_) (fun c => ?_))
  · refine Ev.at_ (by omega) (by omega) ?_
    have e2 : rd (stys R) (((stys R).length : Int) - 1) = (rd R (n : Int)).2 := by
     obtain ⟨m, hm⟩ : ∃ m, (rd R (n : Int)).1.toNat = m + 1 := ⟨(rd R (n : Int)).1.toNat - 1, by omega⟩
     rw [h, hm, List.replicate_succ', ← List.append_assoc]
     exact rd_app_last _ _
    rw [e2]
    exact Ev.bind (Height_ev l _) (Ev.now _)
  · rw [show (rd R (n : Int)).1.toNat = 0 by omega, List.replicate_zero, List.append_nil] at h
    rw [w64 (x := (n : Int) - 1) (by omega) (by omega)]
    exact ih (by omega) h h'
def hgtV (l : List Styl) (own : List (Int × Int)) (S : List Int) : Int := if own = [] then (ofS l (rd S ((S.length : Int) - 1))).1 else tallF l 0 own
theorem height_ev (l : List Styl) (own R : List (Int × Int)) (hR : R.length ≤ 1000000) (ho : own.length ≤ 1000000) (hs : stys R ≠ []) : Ev (fun k => lines_height.f k l own R) (hgtV l own (stys R)) := by
 unfold hgtV
 refine Ev.dc (fun c => ?_) (fun c => ?_)
 · rw [if_neg (fun z => by rw [z] at c; simp at c)]
   exact Ev.bind (Tallest_ev l own (by omega)) (Ev.now _)
 · rw [if_pos (List.eq_nil_of_length_eq_zero (by omega)), w64 (x := (R.length : Int) - 1) (by omega) (by omega)]
   exact height_loop l R hR R.length (Nat.le_refl _) (by rw [List.take_length]) hs
structure Bks (X : List api_Item) (n : Int) (B : List Int) : Prop where
 good : Good X
 rt : RtL 0 X
 fin : endI 0 X = n
 n1 : n ≤ 65536
 pos : 0 < B.length
 inr : ∀ i : Nat, i < B.length → 0 ≤ rd B (i : Int) ∧ rd B (i : Int) < X.length
 inc : ∀ i : Nat, i + 1 < B.length → rd B (i : Int) < rd B ((i + 1 : Nat) : Int)
 lst : rd B ((B.length : Int) - 1) = (X.length : Int) - 1
theorem RtL_at : ∀ (X : List api_Item) (p : Int), RtL p X → p ≤ endI p X ∧ ∀ i : Nat, i < X.length → p ≤ (rd X (i : Int)).2.2.2.2.2.2.2.1 ∧ (rd X (i : Int)).2.2.2.2.2.2.2.1 ≤ (rd X (i : Int)).2.2.2.2.2.2.2.2 ∧ (rd X (i : Int)).2.2.2.2.2.2.2.2 ≤ endI p X ∧ ∀ j : Nat, i < j → j < X.length → (rd X (i : Int)).2.2.2.2.2.2.2.2 ≤ (rd X (j : Int)).2.2.2.2.2.2.2.1
 | [], _, _ => ⟨Int.le_refl _, fun i h => by simp at h⟩
 | x :: r, p, h => by
  obtain ⟨⟨h1, h2, h3⟩, _, h5⟩ := h
  obtain ⟨k1, k2⟩ := RtL_at r _ h5
  have rs : ∀ i : Nat, rd (x :: r) ((i + 1 : Nat) : Int) = rd r (i : Int) := fun i => by rw [rd_nat, rd_nat, List.getD_cons_succ]
  have r0 : rd (x :: r) ((0 : Nat) : Int) = x := rfl
  refine ⟨by rw [endI]; omega, fun i hi => ?_⟩
  cases i with
  | zero =>
   rw [r0, endI]
   refine ⟨by omega, h2, k1, fun j hj hj2 => ?_⟩
   obtain ⟨j, rfl⟩ : ∃ q, j = q + 1 := ⟨j - 1, by omega⟩
   rw [rs]
   exact (k2 j (by simpa using hj2)).1
  | succ i =>
   rw [rs, endI]
   obtain ⟨m1, m2, m3, m4⟩ := k2 i (by simpa using hi)
   refine ⟨by omega, m2, m3, fun j hj hj2 => ?_⟩
   obtain ⟨j, rfl⟩ : ∃ q, j = q + 1 := ⟨j - 1, by omega⟩
   rw [rs]
   exact m4 j (by omega) (by simpa using hj2)
theorem stB_gt {X : List api_Item} {b : Int} (h0 : 0 ≤ b) (h : b < X.length) : b < stB X b := by
 unfold stB
 rw [if_neg (by omega)]
 split <;> omega
def cutV (X : List api_Item) (n : Int) (B : List Int) (i : Nat) : Int := if i + 1 = B.length then n else (rd X (mn (stB X (rd B (i : Int))) (rd B ((i + 1 : Nat) : Int)))).2.2.2.2.2.2.2.1
def fromV (X : List api_Item) (n : Int) (B : List Int) : Nat → Int
 | 0 => 0
 | i + 1 => cutV X n B i
def lastV (B : List Int) : Nat → Int
 | 0 => -1
 | i + 1 => rd B (i : Int)
section
variable {X : List api_Item} {n : Int} {B : List Int}
theorem Bks.at_ (h : Bks X n B) {i : Nat} (hi : i + 1 < B.length) : rd B (i : Int) < mn (stB X (rd B (i : Int))) (rd B ((i + 1 : Nat) : Int)) ∧ mn (stB X (rd B (i : Int))) (rd B ((i + 1 : Nat) : Int)) ≤ rd B ((i + 1 : Nat) : Int) ∧ mn (stB X (rd B (i : Int))) (rd B ((i + 1 : Nat) : Int)) < X.length := by
 have a := h.inr i (by omega)
 have b := h.inr (i + 1) hi
 have c := h.inc i hi
 have d := stB_gt a.1 a.2
 have e := mn_le (stB X (rd B (i : Int))) (rd B ((i + 1 : Nat) : Int))
 omega
theorem Bks.cut (h : Bks X n B) {i : Nat} (hi : i < B.length) : 0 ≤ cutV X n B i ∧ cutV X n B i ≤ n := by
 have q := RtL_at X 0 h.rt
 rw [h.fin] at q
 unfold cutV
 by_cases c : i + 1 = B.length
 · rw [if_pos c]; omega
 · rw [if_neg c]
   have a := h.inr i hi
   obtain ⟨m1, m2, m3⟩ := h.at_ (i := i) (by omega)
   generalize mn (stB X (rd B (i : Int))) (rd B ((i + 1 : Nat) : Int)) = m at *
   have := q.2 m.toNat (by omega)
   rw [show ((m.toNat : Nat) : Int) = m by omega] at this
   omega
theorem Bks.mono (h : Bks X n B) {i : Nat} (hi : i < B.length) : 0 ≤ fromV X n B i ∧ fromV X n B i ≤ cutV X n B i ∧ cutV X n B i ≤ n := by
 have c1 := h.cut hi
 cases i with
 | zero => exact ⟨Int.le_refl _, c1.1, c1.2⟩
 | succ i =>
  have c0 := h.cut (i := i) (by omega)
  refine ⟨c0.1, ?_, c1.2⟩
  show cutV X n B i ≤ cutV X n B (i + 1)
  by_cases c : i + 1 + 1 = B.length
  · have : cutV X n B (i + 1) = n := by unfold cutV; exact if_pos c
    omega
  · have q := RtL_at X 0 h.rt
    have e0 : cutV X n B i = _ := if_neg (show ¬ i + 1 = B.length by omega)
    have e1 : cutV X n B (i + 1) = _ := if_neg c
    rw [e0, e1]
    have a := h.inr i (by omega)
    have a1 := h.inr (i + 1) (by omega)
    obtain ⟨m1, m2, m3⟩ := h.at_ (i := i) (by omega)
    obtain ⟨k1, k2, k3⟩ := h.at_ (i := i + 1) (by omega)
    generalize mn (stB X (rd B (i : Int))) (rd B ((i + 1 : Nat) : Int)) = m at *
    generalize mn (stB X (rd B ((i + 1 : Nat) : Int))) (rd B ((i + 1 + 1 : Nat) : Int)) = m' at *
    have z := q.2 m.toNat (by omega)
    have z2 := z.2.2.2 m'.toNat (by omega) (by omega)
    rw [show ((m.toNat : Nat) : Int) = m by omega, show ((m'.toNat : Nat) : Int) = m' by omega] at z2
    rw [show ((m.toNat : Nat) : Int) = m by omega] at z
    omega
def cutsV (X : List api_Item) (n : Int) (B : List Int) (i : Nat) : List Int := (List.range i).map (cutV X n B)
theorem cutsV_succ (i : Nat) : cutsV X n B (i + 1) = cutsV X n B i ++ [cutV X n B i] := by unfold cutsV; rw [List.range_succ, List.map_append]; rfl
theorem cutsV_len (i : Nat) : (cutsV X n B i).length = i := by unfold cutsV; rw [List.length_map, List.length_range]
theorem cutsV_rd {i m : Nat} (h : i < m) : rd (cutsV X n B m) (i : Int) = cutV X n B i := by
 rw [rd_get _ i (by rw [cutsV_len]; exact h)]
 unfold cutsV
 rw [List.getElem_map, List.getElem_range]
theorem Cuts_loop (h : Bks X n B) {p : measure_Para} (hp : Par X p) (hB : B.length ≤ 1000000) : ∀ d i : Nat, i + d = B.length → 0 < d → Ev (fun k => lines_Cuts.l0 k p B n (cutsV X n B i) B (B.length : Int) (i : Int)) (cutsV X n B B.length) := by
 intro d
 induction d with
 | zero => exact fun i e h => by omega
 | succ d ih =>
  intro i e _
  have len : (cutsV X n B i).length = i := cutsV_len i
  refine Ev.st (fun k => by rw [lines_Cuts.l0]) (Ev.dp (by omega) (Ev.at_ (by omega) (by omega) ?_))
  rw [w64 (x := (B.length : Int) - 1) (by omega) (by omega)]
  refine Ev.dc (fun c => ?_) (fun c => ?_)
  · refine Ev.ifp (by simp only [List.length_cons, List.length_nil]; omega) (Ev.some_ ?_)
    have ec : cutV X n B i = n := if_pos (show i + 1 = B.length by omega)
    rw [show B.length = i + 1 by omega, cutsV_succ, ec]
  · have ec : cutV X n B i = _ := if_neg (show ¬ i + 1 = B.length by omega)
    have cm := h.cut (i := i) (by omega)
    have z := ih (i + 1) (by omega) (by omega)
    rw [cutsV_succ] at z
    obtain ⟨m1, m2, m3⟩ := h.at_ (i := i) (by omega)
    have a := h.inr i (by omega)
    refine Ev.bind (Start_ev hp h.good _) ?_
    rw [nx i (by omega)]
    refine Ev.at_ (by omega) (by omega) ?_
    have I := Item_ev (p := p) (l := X) (by obtain ⟨_, _, rfl⟩ := hp; rfl) (mn (stB X (rd B (i : Int))) (rd B ((i + 1 : Nat) : Int)))
    rw [if_neg (by omega)] at I
    refine Ev.bind I ?_
    rw [← ec]
    have e3 : (if cutV X n B i < n then cutV X n B i else n) = cutV X n B i := by split <;> omega
    rw [e3]
    refine Ev.ifp (by simp only [List.length_cons, List.length_nil]; omega) ?_
    exact z
theorem Cuts_ev (h : Bks X n B) {p : measure_Para} (hp : Par X p) (hB : B.length ≤ 1000000) : Ev (fun k => lines_Cuts.f k p B n) (cutsV X n B B.length) := Cuts_loop h hp hB B.length 0 (by omega) h.pos
end
end Go.Proofs.YtjbobaeggdafpaaGreat.Vm
