/- Items by a builder: the program's Build and the reference's. -/
import Derived.Test.YtjbobaeggdafpaaGreatTr
namespace Go.Proofs.YtjbobaeggdafpaaGreat.Vm
open Go
open _root_.Go.RowKit (wrap64)
def styAt : List (Int × Int) → Int → Int
 | [], _ => 0
 | x :: R, q => if q < x.1 then x.2 else styAt R (q - x.1)
theorem runC_cons {n p : Nat} {s : ByteArray} {x : Int × Int} {R : List (Int × Int)} (h : runC n s p (x :: R) = 0) :
 0 ≤ x.1 ∧ x.1 ≤ (s.size : Int) - p ∧ (0 ≤ x.2 ∧ x.2 < n) ∧ ¬ (p + x.1.toNat < s.size ∧ 128 ≤ by_ s (p + x.1.toNat) ∧ by_ s (p + x.1.toNat) < 192) ∧ runC n s (p + x.1.toNat) R = 0 := by
 unfold runC at h
 by_cases c : x.1 < 0 ∨ (s.size : Int) - p < x.1
 · rw [if_pos c] at h; omega
 rw [if_neg c] at h
 by_cases c2 : 0 ≤ x.2 ∧ x.2 < n
 · rw [if_neg (fun z => z c2)] at h
   by_cases c3 : p + x.1.toNat < s.size ∧ 128 ≤ by_ s (p + x.1.toNat) ∧ by_ s (p + x.1.toNat) < 192
   · rw [if_pos c3] at h; omega
   · rw [if_neg c3] at h
     exact ⟨by omega, by omega, c2, c3, h⟩
 · rw [if_pos c2] at h; omega
theorem styAt_ok {n : Nat} {s : ByteArray} : ∀ (R : List (Int × Int)) (p q : Nat), runC n s p R = 0 → p + q < s.size → 0 ≤ styAt R q ∧ styAt R q < n
 | [], p, q, h, hq => by
  unfold runC at h
  split at h
  · omega
  · omega
 | x :: R, p, q, h, hq => by
  obtain ⟨h1, h2, h3, _, h5⟩ := runC_cons h
  unfold styAt
  by_cases c : (q : Int) < x.1
  · rw [if_pos c]; exact h3
  · rw [if_neg c, show (q : Int) - x.1 = ((q - x.1.toNat : Nat) : Int) by omega]
    exact styAt_ok R _ _ h5 (by omega)
theorem runC_lens {n : Nat} {s : ByteArray} : ∀ (R : List (Int × Int)) (p : Nat), runC n s p R = 0 → p ≤ s.size → ∀ x ∈ R, 0 ≤ x.1 ∧ x.1 ≤ (s.size : Int)
 | [], _, _, _ => fun x hx => by cases hx
 | y :: R, p, h, hp => fun x hx => by
  obtain ⟨h1, h2, _, _, h5⟩ := runC_cons h
  rcases List.mem_cons.1 hx with rfl | hx
  · omega
  · exact runC_lens R _ h5 (by omega) x hx
theorem styAt_ev (R : List (Int × Int)) (hR : R.length ≤ 1000000) (hx : ∀ x ∈ R, 0 ≤ x.1 ∧ x.1 ≤ 1000000) : ∀ (d i q : Nat), i + d = R.length → q ≤ 1000000 → Ev (fun k => regletref07_StyleAt.l0 k R (q : Int) (i : Int)) (styAt (R.drop i) (q : Int)) := by
 intro d
 induction d with
 | zero =>
  intro i q e hq
  rw [List.drop_of_length_le (by omega)]
  refine Ev.st (fun k => by rw [regletref07_StyleAt.l0]) (Ev.dn (by omega) (Ev.some_ ?_))
  rfl
 | succ d ih =>
  intro i q e hq
  have hm := hx _ (rd_in R (i := i) (by omega))
  rw [drop_rd R i (by omega)]
  refine Ev.st (fun k => by rw [regletref07_StyleAt.l0]) (Ev.dp (by omega) ?_)
  refine Ev.at_ (by omega) (by omega) ?_
  unfold styAt
  refine Ev.dc (fun c => Ev.at_ (by omega) (by omega) (Ev.some_ (by rw [if_pos c]))) (fun c => ?_)
  rw [if_neg c]
  refine Ev.at_ (by omega) (by omega) ?_
  rw [w64 (x := (q : Int) - (rd R (i : Int)).1) (by omega) (by omega), show (q : Int) - (rd R (i : Int)).1 = ((q - (rd R (i : Int)).1.toNat : Nat) : Int) by omega, nx i (by omega)]
  exact ih (i + 1) _ (by omega) (by omega)
def nxt (A : List Int) (n : Int) : Int := match A with
 | [] => n
 | b :: _ => b
def bld (l : List Styl) (R : List (Int × Int)) (n : Int) : List Int → List Int → List api_Item × Int → List api_Item
 | r :: L, a :: A, q => if kindOf r = 8 then (stepB (ofS l (styAt R a)) (styAt R a) r a (nxt A n) q).1 else bld l R n L A (stepB (ofS l (styAt R a)) (styAt R a) r a (nxt A n) q)
 | _, _, q => q.1 ++ fillI n n
theorem Dec.nxt {s : ByteArray} {e pos : Nat} {L A : List Int} (h : Dec s e pos L A) : nxt A (e : Int) = (pos : Int) := by cases h <;> rfl
def RInv (n : Nat) (s : ByteArray) (R : List (Int × Int)) (pos kk left : Nat) : Prop :=
 kk ≤ R.length ∧ pos + left ≤ s.size ∧ runC n s (pos + left) (R.drop kk) = 0 ∧ (∀ q : Nat, styAt R ((pos + left + q : Nat) : Int) = styAt (R.drop kk) (q : Int)) ∧
 (0 < left → 0 < kk ∧ (0 ≤ (rd R ((kk : Int) - 1)).2 ∧ ∀ q : Nat, q < left → styAt R ((pos + q : Nat) : Int) = (rd R ((kk : Int) - 1)).2)) ∧ ¬ (pos + left < s.size ∧ 128 ≤ by_ s (pos + left) ∧ by_ s (pos + left) < 192)
theorem l1_loop {n : Nat} {s : ByteArray} {R : List (Int × Int)} (hR : R.length ≤ 1000000) {pos : Nat} (hp : pos < s.size) (r : Int) (it : ByteArray × Nat) (b : List Styl × List api_Item × Int × Bool) {v : List api_Item × Int}
 (go : ∀ kk left : Nat, RInv n s R pos kk left → 0 < left → Ev (fun k => items_Build.l1 k s R ((kk : Int) - 1) (left : Int) (pos : Int) r it b) v) :
 ∀ (d kk left : Nat), R.length ≤ kk + d → RInv n s R pos kk left → Ev (fun k => items_Build.l1 k s R ((kk : Int) - 1) (left : Int) (pos : Int) r it b) v := by
 intro d
 induction d with
 | zero =>
  intro kk left hd h
  by_cases c : 0 < left
  · exact go kk left h c
  obtain rfl : left = 0 := by omega
  obtain ⟨h1, h2, h3, _⟩ := h
  rw [List.drop_of_length_le (by omega)] at h3
  unfold runC at h3
  split at h3
  · omega
  · omega
 | succ d ih =>
  intro kk left hd h
  by_cases c : 0 < left
  · exact go kk left h c
  obtain rfl : left = 0 := by omega
  obtain ⟨h1, h2, h3, h4, h5, h6⟩ := h
  by_cases hk : kk < R.length
  · have e := drop_rd R kk hk
    have hz : wrap64 ((kk : Int) - 1 + 1) = (kk : Int) := by rw [w64 (by omega) (by omega)]; omega
    refine Ev.st (fun k => by rw [items_Build.l1]) (Ev.dp (show ((0 : Nat) : Int) = 0 from rfl) ?_)
    rw [hz]
    refine Ev.at_ (by omega) (by omega) ?_
    rw [e] at h3 h4
    obtain ⟨a1, a2, a3, a4, a5⟩ := runC_cons h3
    have z := ih (kk + 1) (rd R (kk : Int)).1.toNat (by omega) ⟨by omega, by omega, a5, fun q => ?_, fun hl => ⟨by omega, ?_, fun q hq => ?_⟩, a4⟩
    · rw [show (((kk + 1 : Nat) : Int) - 1) = (kk : Int) by omega, show (((rd R (kk : Int)).1.toNat : Nat) : Int) = (rd R (kk : Int)).1 by omega] at z
      exact z
    · have := h4 ((rd R (kk : Int)).1.toNat + q)
      rw [show pos + 0 + ((rd R (kk : Int)).1.toNat + q) = pos + (rd R (kk : Int)).1.toNat + q by omega] at this
      rw [this, styAt, if_neg (by omega)]
      congr 1; omega
    · rw [show (((kk + 1 : Nat) : Int) - 1) = (kk : Int) by omega]; exact a3.1
    · rw [show (((kk + 1 : Nat) : Int) - 1) = (kk : Int) by omega]
      have := h4 q
      rw [Nat.add_zero] at this
      rw [this, styAt, if_pos (by omega)]
  · rw [List.drop_of_length_le (by omega)] at h3
    unfold runC at h3
    split at h3
    · omega
    · omega
theorem Enc.inner {s : ByteArray} {pos r n : Nat} (h : Enc s pos r n) (q : Nat) (h0 : pos < q) (h1 : q < pos + n) : 128 ≤ by_ s q ∧ by_ s q < 192 := by
 obtain ⟨_, h⟩ := h
 rcases h with ⟨rfl, _⟩ | ⟨rfl, _, _, _, e1⟩ | ⟨rfl, _, _, _, _, e1, e2⟩ | ⟨rfl, _, _, _, e1, e2, e3⟩
 · omega
 · obtain rfl : q = pos + 1 := by omega
   omega
 · rcases (by omega : q = pos + 1 ∨ q = pos + 2) with rfl | rfl <;> omega
 · rcases (by omega : q = pos + 1 ∨ q = pos + 2 ∨ q = pos + 3) with rfl | rfl | rfl <;> omega
theorem iBuild_loop {l : List Styl} (hl : ∀ s ∈ l, styC s = 0) {s : ByteArray} (hs : s.size ≤ 1000000) {R : List (Int × Int)} (hR : R.length ≤ 1000000) {pos : Nat} {L A : List Int} (hd : Dec s s.size pos L A) :
 ∀ (out : List api_Item) (st : Int) (wd : Bool) (kk left : Nat), RInv l.length s R pos kk left → BOk (out, wordOf st wd) pos →
  Ev (fun k => items_Build.l0 k s R (pos : Int) ((kk : Int) - 1) (left : Int) (s, pos) (l, out, st, wd)) (bld l R (s.size : Int) L A (out, wordOf st wd), 0) := by
 generalize he : s.size = e at hd
 induction hd with
 | done =>
  intro out st wd kk left hi hb
  refine Ev.st (fun k => by rw [items_Build.l0]) (Ev.ifn (by dsimp only; omega) ?_)
  have := hb.1
  dsimp only at this
  exact Ev.bind (end_ev l out st wd _ _ (by omega)) (Ev.now _)
 | @step pos r n L A hE hD ih =>
  intro out st wd kk left hi hb
  subst he
  have p1 := hE.pos1
  have p2 := hE.1
  refine Ev.st (fun k => by rw [items_Build.l0]) (Ev.ifp (by dsimp only; omega) ?_)
  dsimp only
  rw [decode_enc hE]
  refine l1_loop hR (by omega) _ _ _ (fun kk left hi hl0 => ?_) R.length kk left (by omega) hi
  obtain ⟨h1, h2, h3, h4, h5, h6⟩ := hi
  obtain ⟨h7, h8, h9⟩ := h5 hl0
  have hn : n ≤ left := by
   by_cases c : n ≤ left
   · exact c
   · exact absurd ⟨by omega, hE.inner (pos + left) (by omega) (by omega)⟩ h6
  obtain ⟨x, F⟩ := First_ev (v := s.extract pos s.size) (by rw [ByteArray.size_extract]; omega) (Enc.extract (pos := 0) hE (by omega) (Nat.le_refl _))
  have sty : styAt R (pos : Int) = (rd R ((kk : Int) - 1)).2 := h9 0 hl0
  have fin : Ev (fun k => items_Build.j2 k s R ((kk : Int) - 1) (left : Int) (pos : Int) (r : Int) (wrap64 ((pos : Int) + (n : Int))) (s, pos + n) (l, out, st, wd)) (bld l R (s.size : Int) ((r : Int) :: L) ((pos : Int) :: A) (out, wordOf st wd), 0) := by
   rw [nx2 pos n (by omega), bld, hD.nxt, sty]
   refine Ev.st (fun k => by rw [items_Build.j2]) (Ev.bind (kind_ev _) ?_)
   have hlen : out.length ≤ 3 * pos := hb.1
   refine Ev.dc (fun c => ?_) (fun c => ?_)
   · refine Ev.bind (end_ev l out st wd _ _ (by omega)) (Ev.some_ ?_)
     rw [if_pos c]
     unfold stepB
     rw [if_neg (by omega), if_neg (by omega), if_neg (by omega), if_neg (by omega), if_neg (by omega), if_neg (by omega)]
   · rw [if_neg c]
     refine Ev.at_ (by omega) (by omega) ?_
     obtain ⟨st', wd', V, W⟩ := rune_ev hl out st wd (r : Int) (rd R ((kk : Int) - 1)).2 (pos : Int) ((pos + n : Nat) : Int) pos (by omega) h8 (by omega) hb c
     refine Ev.bind V ?_
     have nb := stepB_ok hl (r : Int) (rd R ((kk : Int) - 1)).2 (pos : Int) ((pos + n : Nat) : Int) (out, wordOf st wd) pos (pos + n) (by omega) h8 hb
     generalize hq : stepB (ofS l (rd R ((kk : Int) - 1)).2) (rd R ((kk : Int) - 1)).2 (r : Int) (pos : Int) ((pos + n : Nat) : Int) (out, wordOf st wd) = q at *
     obtain ⟨q1, q2⟩ := q
     dsimp only at W ⊢
     subst W
     have z := ih q1 st' wd' kk (left - n) ⟨h1, by omega, by rwa [show pos + n + (left - n) = pos + left by omega], fun q => by rw [show pos + n + (left - n) + q = pos + left + q by omega]; exact h4 q, fun hq => ⟨h7, h8, fun q hq => by rw [Nat.add_assoc]; exact h9 (n + q) (by omega)⟩, by rwa [show pos + n + (left - n) = pos + left by omega]⟩ nb
     rw [show wrap64 ((left : Int) - wrap64 (((pos + n : Nat) : Int) - (pos : Int))) = ((left - n : Nat) : Int) by rw [w64 (x := ((pos + n : Nat) : Int) - (pos : Int)) (by omega) (by omega), w64 (by omega) (by omega)]; omega]
     exact z
  refine Ev.st (fun k => by rw [items_Build.l1]) (Ev.dn (by omega) ?_)
  refine Ev.bind (Ev.opt (sSub_ok s pos s.size (by omega) (Nat.le_refl _))) ?_
  refine Ev.bind F ?_
  exact Ev.dp (by dsimp only; omega) fin
end Go.Proofs.YtjbobaeggdafpaaGreat.Vm
