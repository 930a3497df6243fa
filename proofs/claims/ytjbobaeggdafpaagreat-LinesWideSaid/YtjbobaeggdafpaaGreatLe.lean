/- Chapter 10: a paragraph's lines, by the program and by the reference. -/
import Derived.Test.YtjbobaeggdafpaaGreatLd
import Derived.Test.YtjbobaeggdafpaaGreatNg
namespace Go.Proofs.YtjbobaeggdafpaaGreat.Vm
open Go
open _root_.Go.RowKit (wrap64)
def ownV (S : List Int) (X : List api_Item) (n : Int) (B : List Int) (i : Nat) : List (Int × Int) := rle ((S.take (cutV X n B i).toNat).drop (fromV X n B i).toNat)
noncomputable def lineV (l : List Styl) (s : ByteArray) (S : List Int) (X : List api_Item) (w n : Int) (B : List Int) (i : Nat) : Lin :=
 (s.extract (fromV X n B i).toNat (cutV X n B i).toNat, ownV S X n B i, (fitV X (lastV B i) (rd B (i : Int)) w).1, (fitV X (lastV B i) (rd B (i : Int)) w).2.1, hgtV l (ownV S X n B i) S,
  (if (rd X (rd B (i : Int))).2.2.2.2.2.2.1 = true then decide ((rd X (rd B (i : Int))).2.2.2.2.2.2.2.1 < (rd X (rd B (i : Int))).2.2.2.2.2.2.2.2) else false), 0, decide ((i : Int) = 0), decide ((i : Int) = (B.length : Int) - 1))
noncomputable def linesV (l : List Styl) (s : ByteArray) (S : List Int) (X : List api_Item) (w n : Int) (B : List Int) (i : Nat) : List Lin := (List.range i).map (lineV l s S X w n B)
section
variable {l : List Styl} {s : ByteArray} {R : List (Int × Int)} {X : List api_Item} {p : measure_Para} {w : Int} {B : List Int}
theorem linesV_succ {S : List Int} {n : Int} (i : Nat) : linesV l s S X w n B (i + 1) = linesV l s S X w n B i ++ [lineV l s S X w n B i] := by unfold linesV; rw [List.range_succ, List.map_append]; rfl
theorem linesV_len {S : List Int} {n : Int} (i : Nat) : (linesV l s S X w n B i).length = i := by unfold linesV; rw [List.length_map, List.length_range]
theorem linesV_rd {S : List Int} {n : Int} {i m : Nat} (h : i < m) : rd (linesV l s S X w n B m) (i : Int) = lineV l s S X w n B i := by
 rw [rd_get _ i (by rw [linesV_len]; exact h)]
 unfold linesV
 rw [List.getElem_map, List.getElem_range]
theorem lineV_t {S : List Int} {n : Int} {i : Nat} (c : (rd X (rd B (i : Int))).2.2.2.2.2.2.1 = true) : lineV l s S X w n B i = (s.extract (fromV X n B i).toNat (cutV X n B i).toNat, ownV S X n B i, (fitV X (lastV B i) (rd B (i : Int)) w).1, (fitV X (lastV B i) (rd B (i : Int)) w).2.1, hgtV l (ownV S X n B i) S, decide ((rd X (rd B (i : Int))).2.2.2.2.2.2.2.1 < (rd X (rd B (i : Int))).2.2.2.2.2.2.2.2), 0, decide ((i : Int) = 0), decide ((i : Int) = (B.length : Int) - 1)) := by unfold lineV; rw [if_pos c]
theorem lineV_f {S : List Int} {n : Int} {i : Nat} (c : (rd X (rd B (i : Int))).2.2.2.2.2.2.1 = false) : lineV l s S X w n B i = (s.extract (fromV X n B i).toNat (cutV X n B i).toNat, ownV S X n B i, (fitV X (lastV B i) (rd B (i : Int)) w).1, (fitV X (lastV B i) (rd B (i : Int)) w).2.1, hgtV l (ownV S X n B i) S, false, 0, decide ((i : Int) = 0), decide ((i : Int) = (B.length : Int) - 1)) := by unfold lineV; rw [if_neg (by rw [c]; exact Bool.false_ne_true)]
theorem Lay_loop (hs : s.size ≤ 65536) (hR : R.length ≤ 1000000) (hx : ∀ x ∈ R, 0 ≤ x.1 ∧ x.1 ≤ 1000000) (hS : (stys R).length = s.size) (h0 : 0 < s.size) (h : Bks X (s.size : Int) B) (hp : Par X p) (hB : B.length ≤ 1000000) (hw : 1 ≤ w ∧ w ≤ 1073741824) (u : Int) (e : Bool) : ∀ d i : Nat, i + d = B.length →
 Ev (fun k => lines_Lay.l0 k l s R p w (linesV l s (stys R) X w (s.size : Int) B i) (fromV X (s.size : Int) B i) (lastV B i) (cutsV X (s.size : Int) B B.length) ((cutsV X (s.size : Int) B B.length).length : Int) (i : Int) (B, u, e)) (linesV l s (stys R) X w (s.size : Int) B B.length) := by
 have cl : (cutsV X (s.size : Int) B B.length).length = B.length := cutsV_len _
 intro d
 induction d with
 | zero =>
  intro i e
  rw [show i = B.length by omega]
  exact Ev.st (fun k => by rw [lines_Lay.l0]) (Ev.dn (by omega) (Ev.now _))
 | succ d ih =>
  intro i e1
  have len : (linesV l s (stys R) X w (s.size : Int) B i).length = i := linesV_len i
  obtain ⟨f0, f1, f2⟩ := h.mono (i := i) (by omega)
  have bi := h.inr i (by omega)
  have rok := rle_ok (((stys R).take (cutV X (s.size : Int) B i).toNat).drop (fromV X (s.size : Int) B i).toNat)
  rw [List.length_drop, List.length_take] at rok
  obtain ⟨F, _, _⟩ := fitV_ok hp h.good (lastV B i) (rd B (i : Int)) w (by omega)
  refine Ev.st (fun k => by rw [lines_Lay.l0]) (Ev.dp (by omega) ?_)
  refine Ev.gx (by omega) (by omega) ?_
  rw [cutsV_rd (by omega)]
  refine Ev.at_ (xs := B) (by omega) (by omega) ?_
  refine Ev.bind F ?_
  refine Ev.at_ (xs := B) (by omega) (by omega) ?_
  have I := Item_ev (p := p) (l := X) (by obtain ⟨_, _, rfl⟩ := hp; rfl) (rd B (i : Int))
  rw [if_neg (by omega)] at I
  refine Ev.bind I ?_
  have P := part_ev R hR hx (fromV X (s.size : Int) B i).toNat (cutV X (s.size : Int) B i).toNat (by omega) (by omega)
  rw [show (((fromV X (s.size : Int) B i).toNat : Nat) : Int) = fromV X (s.size : Int) B i by omega, show (((cutV X (s.size : Int) B i).toNat : Nat) : Int) = cutV X (s.size : Int) B i by omega] at P
  refine Ev.bind P ?_
  have Q := sSub_ok s (fromV X (s.size : Int) B i).toNat (cutV X (s.size : Int) B i).toNat (by omega) (by omega)
  rw [show (((fromV X (s.size : Int) B i).toNat : Nat) : Int) = fromV X (s.size : Int) B i by omega, show (((cutV X (s.size : Int) B i).toNat : Nat) : Int) = cutV X (s.size : Int) B i by omega] at Q
  refine Ev.bind (Ev.opt Q) ?_
  refine Ev.bind (height_ev l _ R hR (by have := rok.1; omega) (fun z => by rw [z] at hS; simp at hS; omega)) ?_
  have z := ih (i + 1) (by omega)
  rw [linesV_succ] at z
  have j1 : Ev (fun k => lines_Lay.j1 k l s R p w (linesV l s (stys R) X w (s.size : Int) B i ++ [lineV l s (stys R) X w (s.size : Int) B i]) (i : Int) (cutV X (s.size : Int) B i) (cutsV X (s.size : Int) B B.length) ((cutsV X (s.size : Int) B B.length).length : Int) (i : Int) (B, u, e)) (linesV l s (stys R) X w (s.size : Int) B B.length) := by
   refine Ev.st (fun k => by rw [lines_Lay.j1]) ?_
   refine Ev.at_ (xs := B) (by omega) (by omega) ?_
   rw [nx i (by omega)]
   exact z
  rw [w64 (x := (B.length : Int) - 1) (by omega) (by omega)]
  refine Ev.bc (fun c => ?_) (fun c => ?_)
  · refine Ev.ifp (by simp only [List.length_cons, List.length_nil]; omega) ?_
    rw [lineV_t c] at j1
    exact j1
  · refine Ev.ifp (by simp only [List.length_cons, List.length_nil]; omega) ?_
    rw [lineV_f c] at j1
    exact j1
theorem Lay_ev (hs : s.size ≤ 65536) (hR : R.length ≤ 1000000) (hx : ∀ x ∈ R, 0 ≤ x.1 ∧ x.1 ≤ 1000000) (hS : (stys R).length = s.size) (h0 : 0 < s.size) (h : Bks X (s.size : Int) B) (hp : Par X p) (hB : B.length ≤ 1000000) (hw : 1 ≤ w ∧ w ≤ 1073741824) (u : Int) (e : Bool) :
 Ev (fun k => lines_Lay.f k l s R p (B, u, e) w) (linesV l s (stys R) X w (s.size : Int) B B.length) :=
 Ev.bind (Cuts_ev h hp hB) (Lay_loop hs hR hx hS h0 h hp hB hw u e B.length 0 (by omega))
end
theorem Net.Way.rise {N : Net} : ∀ {W : List Nat} {a : Nat} {c t u : Int}, N.Way a c t W u → (a < N.n → 0 < W.length ∧ W.getD (W.length - 1) 0 = N.n - 1) ∧ ∀ i, i < W.length → a ≤ W.getD i 0 ∧ W.getD i 0 < N.n ∧ (i + 1 < W.length → W.getD i 0 < W.getD (i + 1) 0)
 | [], a, _, _, _, h => ⟨fun z => by have := h.1; omega, fun i hi => by simp at hi⟩
 | j :: r, a, _, _, _, h => by
  obtain ⟨q1, q2⟩ := Net.Way.rise h.2
  have o := h.1
  have j1 := o.1
  have j2 := o.2.1
  refine ⟨fun _ => ⟨by simp, ?_⟩, fun i hi => ?_⟩
  · rw [List.length_cons, Nat.add_sub_cancel]
    cases r with
    | nil =>
     have := h.2.1
     simp; omega
    | cons k r =>
     have hj : j + 1 < N.n := by
      have := (q2 0 (by simp)).1
      have := (q2 0 (by simp)).2.1
      omega
     have z := (q1 hj).2
     rw [List.length_cons, Nat.add_sub_cancel] at z
     rw [List.length_cons, List.getD_cons_succ]
     exact z
  · cases i with
    | zero =>
     rw [List.getD_cons_zero, List.getD_cons_succ]
     refine ⟨j1, j2, fun z => ?_⟩
     have := (q2 0 (by simpa using z)).1
     omega
    | succ i =>
     rw [List.getD_cons_succ, List.getD_cons_succ]
     obtain ⟨z1, z2, z3⟩ := q2 i (by simpa using hi)
     exact ⟨by omega, z2, fun z => z3 (by simpa using z)⟩
theorem rd_map_end (X : List api_Item) (W : List Nat) (i : Nat) (h : i < W.length) : rd (W.map (endV X)) (i : Int) = endV X (W.getD i 0) := by
 rw [rd_get _ i (by rw [List.length_map]; exact h), List.getElem_map, List.getD_eq_getElem?_getD, List.getElem?_eq_getElem h]; rfl
theorem Brk.bks {X : List api_Item} {w : Int} {st : api_Settings} {W : List Nat} {u : Int} {e : Bool} (h : Brk X w st W u e) (hr : RightI X) {n : Int} (hn : endI 0 X = n) (hn1 : n ≤ 65536) : Bks X n (W.map (endV X)) := by
 obtain ⟨q1, q2⟩ := h.first.1.rise
 have el := ends_last hr
 obtain ⟨p1, p2⟩ := q1 el.1
 refine ⟨hr.good, hr.2, hn, hn1, by rw [List.length_map]; exact p1, fun i hi => ?_, fun i hi => ?_, ?_⟩
 · rw [List.length_map] at hi
   rw [rd_map_end X W i hi]
   have m := endV_mem X (q2 i hi).2.1
   exact ⟨m.1, m.2.1⟩
 · rw [List.length_map] at hi
   rw [rd_map_end X W i (by omega), rd_map_end X W (i + 1) hi]
   exact endV_lt X ((q2 i (by omega)).2.2 hi) (q2 (i + 1) hi).2.1
 · rw [List.length_map, show ((W.length : Int) - 1) = ((W.length - 1 : Nat) : Int) by omega, rd_map_end X W _ (by omega), p2]
   exact el.2
structure Paid (l : List Styl) (s : ByteArray) (R : List (Int × Int)) (w : Int) (st : api_Settings) (X : List api_Item) (p : measure_Para) (W : List Nat) (u : Int) (e : Bool) (L A : List Int) : Prop where
 build : Ev (fun k => regletref07_Build.f k l s R) (X, 0)
 sit : Sit X p w st
 new : Ev (fun k => measure_New.f k X) (some p, 0)
 brk : Brk X w st W u e
 bks : Bks X (s.size : Int) (W.map (endV X))
 blen : (W.map (endV X)).length ≤ 1000000
 dec : Dec s s.size 0 L A
 run : runC l.length s 0 R = 0
 xs : X = bld l R (s.size : Int) L A ([], -1)
 lens : ∀ x ∈ R, 0 ≤ x.1 ∧ x.1 ≤ 1000000
 sty : (stys R).length = s.size
 some_ : 0 < s.size
 ev : Ev (fun k => lines_Paragraph.f k l s R w st) (linesV l s (stys R) X w (s.size : Int) (W.map (endV X)) (W.map (endV X)).length, (W.map (endV X), u, e), 0)
theorem chkC_cases {l : List Styl} {s : ByteArray} {R : List (Int × Int)} (e : chkC l s R = 0) : ¬ NlBad s ∧ 0 < s.size := by
 unfold chkC at e
 by_cases q : isTrue (RightS s 0) = false
 · rw [if_pos q] at e; omega
 rw [if_neg q] at e
 by_cases q : s = ByteArray.empty
 · rw [if_pos q] at e; omega
 rw [if_neg q] at e
 have h0 : 0 < s.size := by
  rcases Nat.eq_zero_or_pos s.size with z | z
  · exact absurd (empty_size.2 z) q
  · exact z
 by_cases q : isTrue (NlBad s) = true
 · rw [if_pos q] at e; omega
 exact ⟨fun z => q (isTrue_yes z), h0⟩
theorem Para_ev {l : List Styl} (hl : ∀ s ∈ l, styC s = 0) {s : ByteArray} (hs : s.size ≤ 400) {R : List (Int × Int)} (hR : R.length ≤ 100) {w : Int} {st : api_Settings} (hc : chkC l s R = 0) (hw : WS w st) :
 ∃ X p W u e L A, Paid l s R w st X p W u e L A := by
 obtain ⟨L, A, b, V, D, hr, I, J⟩ := Build_ev hl (s := s) (by omega) (R := R) (by omega) hc
 obtain ⟨no, h0⟩ := chkC_cases hc
 have dl := D.le
 have len := bld_len hl (R := R) (n := (s.size : Int)) L A ([], -1) 0 (fun a ha => (D.sty hr a ha).2.2.1) bok0
 obtain ⟨z1, z2, z3, ys, x, z4, z5⟩ := bld_right hl (s := s) (by omega) hr no D ([], -1) 0 bok0 ⟨trivial, rfl, rfl, fun z => absurd rfl z⟩
 have hX : ∃ X, X = bld l R (s.size : Int) L A ([], -1) := ⟨_, rfl⟩
 obtain ⟨X, hX⟩ := hX
 rw [← hX] at z1 z2 z3 z4 I J len
 have ri : RightI X := by
  refine ⟨⟨by rw [z4]; simp, by omega, ?_⟩, z1⟩
  rw [z4, rd_last]; exact z5
 obtain ⟨p, hp, N⟩ := New_yes ri
 have S : Sit X p w st := ⟨hp, ri, hw⟩
 obtain ⟨W, u, e, hb, E⟩ := Break_ev S
 have bk := hb.bks ri z2 (by omega)
 have bl : (W.map (endV X)).length ≤ 1000000 := by
  have := hb.len
  have := S.n_le
  rw [List.length_map]; omega
 have lens : ∀ x ∈ R, 0 ≤ x.1 ∧ x.1 ≤ 1000000 := fun x hx => by have := runC_lens R 0 hr (by omega) x hx; omega
 have sl := runC_stys R 0 hr (by omega)
 rw [Nat.zero_add] at sl
 have hw' := hw
 unfold WS at hw'
 refine ⟨X, p, W, u, e, L, A, J, S, N, hb, bk, bl, D, hr, hX, lens, sl, h0, ?_⟩
 have C := Check9_ev w st
 rw [if_neg (by omega), if_neg (by omega), if_pos hw'.2.2] at C
 refine Ev.bind I (Ev.xn rfl (Ev.bind C (Ev.xn rfl ?_)))
 refine Ev.bind N (Ev.somep rfl (Ev.xn rfl (Ev.bind E (Ev.xn rfl ?_))))
 exact Ev.bind (Lay_ev (by omega) (by omega) lens sl h0 bk hp bl (by omega) u e) (Ev.now _)
end Go.Proofs.YtjbobaeggdafpaaGreat.Vm
