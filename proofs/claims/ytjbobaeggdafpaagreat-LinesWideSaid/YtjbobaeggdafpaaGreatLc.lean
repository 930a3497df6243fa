/- Chapter 10: runs out of styles byte by byte; the part of runs. -/
import Derived.Test.YtjbobaeggdafpaaGreatLa
import Derived.Test.YtjbobaeggdafpaaGreatTu
namespace Go.Proofs.YtjbobaeggdafpaaGreat.Vm
open Go
open _root_.Go.RowKit (wrap64)
def pushN (o : List (Int × Int)) (n v : Int) : List (Int × Int) := match o.getLast? with
 | some x => if x.2 = v then o.dropLast ++ [(x.1 + n, x.2)] else o ++ [(n, v)]
 | none => [(n, v)]
theorem pushN_nil (n v : Int) : pushN [] n v = [(n, v)] := rfl
theorem pushN_concat (ys : List (Int × Int)) (x : Int × Int) (n v : Int) : pushN (ys ++ [x]) n v = if x.2 = v then ys ++ [(x.1 + n, x.2)] else ys ++ [x] ++ [(n, v)] := by simp [pushN]
def rleF : List (Int × Int) → List Int → List (Int × Int)
 | o, [] => o
 | o, v :: xs => rleF (pushN o 1 v) xs
def rle (xs : List Int) : List (Int × Int) := rleF [] xs
theorem rleF_app : ∀ (xs ys : List Int) (o : List (Int × Int)), rleF o (xs ++ ys) = rleF (rleF o xs) ys
 | [], _, _ => rfl
 | _ :: xs, ys, _ => rleF_app xs ys _
theorem pushN_add (o : List (Int × Int)) (n m v : Int) : pushN (pushN o n v) m v = pushN o (n + m) v := by
 rcases List.eq_nil_or_concat o with rfl | ⟨ys, x, rfl⟩
 · rw [pushN_nil, pushN_nil, show [(n, v)] = ([] : List (Int × Int)) ++ [(n, v)] from rfl, pushN_concat, if_pos rfl]; rfl
 · rw [List.concat_eq_append, pushN_concat, pushN_concat]
   by_cases c : x.2 = v
   · rw [if_pos c, if_pos c, pushN_concat, if_pos c, Int.add_assoc]
   · rw [if_neg c, if_neg c, pushN_concat, if_pos rfl]
theorem rleF_many (o : List (Int × Int)) (v : Int) : ∀ n : Nat, rleF o (List.replicate (n + 1) v) = pushN o ((n + 1 : Nat) : Int) v
 | 0 => rfl
 | n + 1 => by
  have : List.replicate (n + 1 + 1) v = List.replicate (n + 1) v ++ [v] := by rw [List.replicate_succ']
  rw [this, rleF_app, rleF_many o v n]
  show pushN (pushN o _ v) 1 v = _
  rw [pushN_add]; congr 1
def ROk (o : List (Int × Int)) (n : Nat) : Prop := o.length ≤ n ∧ (∀ x ∈ o, 0 < x.1 ∧ x.1 ≤ (n : Int))
theorem ROk.push {o : List (Int × Int)} {n : Nat} (h : ROk o n) (m : Nat) (hm : 0 < m) (v : Int) : ROk (pushN o (m : Int) v) (n + m) := by
 obtain ⟨h1, h2⟩ := h
 rcases List.eq_nil_or_concat o with rfl | ⟨ys, x, rfl⟩
 · rw [pushN_nil]
   exact ⟨by simp; omega, fun y hy => by rw [List.mem_singleton.1 hy]; dsimp only; omega⟩
 · rw [List.concat_eq_append] at h1 h2 ⊢
   rw [pushN_concat]
   have hx := h2 x (by simp)
   by_cases c : x.2 = v
   · rw [if_pos c]
     refine ⟨by simp only [List.length_append, List.length_singleton] at h1 ⊢; omega, fun y hy => ?_⟩
     rcases List.mem_append.1 hy with hy | hy
     · have := h2 y (List.mem_append_left _ hy); omega
     · rw [List.mem_singleton.1 hy]; dsimp only; omega
   · rw [if_neg c]
     refine ⟨by simp only [List.length_append, List.length_singleton] at h1 ⊢; omega, fun y hy => ?_⟩
     rcases List.mem_append.1 hy with hy | hy
     · have := h2 y hy; omega
     · rw [List.mem_singleton.1 hy]; dsimp only; omega
theorem ROk.nil : ROk [] 0 := ⟨by simp, fun x hx => by cases hx⟩
theorem rleF_ok : ∀ (xs : List Int) (o : List (Int × Int)) (n : Nat), ROk o n → ROk (rleF o xs) (n + xs.length)
 | [], _, _, h => h
 | v :: xs, o, n, h => by
  have := rleF_ok xs _ _ (h.push 1 (by omega) v)
  rw [List.length_cons, show n + (xs.length + 1) = n + 1 + xs.length by omega]; exact this
theorem rle_ok (xs : List Int) : ROk (rle xs) xs.length := by
 have := rleF_ok xs [] 0 .nil
 rwa [Nat.zero_add] at this
def stys : List (Int × Int) → List Int
 | [] => []
 | x :: R => List.replicate x.1.toNat x.2 ++ stys R
def seg (f t : Int) : Int → List (Int × Int) → List Int
 | _, [] => []
 | p, x :: R => List.replicate ((if p + x.1 < t then p + x.1 else t) - (if f < p then p else f)).toNat x.2 ++ seg f t (p + x.1) R
theorem seg_eq (f t : Nat) : ∀ (R : List (Int × Int)) (p : Nat), (∀ x ∈ R, 0 ≤ x.1) → seg (f : Int) (t : Int) (p : Int) R = ((stys R).take (t - p)).drop (f - p)
 | [], p, _ => by simp [seg, stys]
 | x :: R, p, h => by
  have h0 := h x (List.mem_cons_self ..)
  have ih := seg_eq f t R (p + x.1.toNat) (fun y hy => h y (List.mem_cons_of_mem _ hy))
  rw [seg, stys, show (p : Int) + x.1 = ((p + x.1.toNat : Nat) : Int) by omega, ih]
  generalize x.1.toNat = a
  rw [List.take_append, List.drop_append, List.length_take, List.length_replicate, List.take_replicate, List.drop_replicate]
  have e1 : ((if ((p + a : Nat) : Int) < (t : Int) then ((p + a : Nat) : Int) else (t : Int)) - (if (f : Int) < (p : Int) then (p : Int) else (f : Int))).toNat = min (t - p) a - (f - p) := by
   split <;> split <;> omega
  rw [e1]
  congr 1
  by_cases c : a ≤ t - p
  · rw [show min (t - p) a = a by omega, show t - (p + a) = t - p - a by omega, show f - (p + a) = f - p - a by omega]
  · rw [show t - (p + a) = 0 by omega, show t - p - a = 0 by omega]; simp
theorem last_i {α : Type} (ys : List α) (x : α) (h : ys.length ≤ 4000000000000000000) : wrap64 (((ys ++ [x]).length : Int) - 1) = (ys.length : Int) := by
 rw [List.length_append, List.length_singleton, w64 (by omega) (by omega)]; omega
theorem part_loop (R : List (Int × Int)) (hR : R.length ≤ 1000000) (f t : Nat) (hf : f ≤ 1000000) (ht : t ≤ 1000000) : ∀ (d i p : Nat) (o : List (Int × Int)) (m : Nat), i + d = R.length → (∀ x ∈ R.drop i, 0 ≤ x.1 ∧ x.1 ≤ 1000000) → p ≤ i * 1000000 → ROk o m → m ≤ p →
 Ev (fun k => lines_part.l0 k (f : Int) (t : Int) o (p : Int) R (R.length : Int) (i : Int)) (rleF o (seg (f : Int) (t : Int) (p : Int) (R.drop i))) := by
 intro d
 induction d with
 | zero =>
  intro i p o m e hx hp ho hm
  rw [List.drop_of_length_le (by omega), seg]
  refine Ev.st (fun k => by rw [lines_part.l0]) (Ev.dn (by omega) (Ev.some_ ?_))
  rfl
 | succ d ih =>
  intro i p o m e hx hp ho hm
  rw [drop_rd R i (by omega)] at hx ⊢
  have hx0 := hx _ (List.mem_cons_self ..)
  have ih' := fun o' m' => ih (i + 1) (p + (rd R (i : Int)).1.toNat) o' m' (by omega) (fun y hy => hx y (List.mem_cons_of_mem _ hy)) (by rw [Nat.succ_mul]; omega)
  rw [show (((p + (rd R (i : Int)).1.toNat : Nat)) : Int) = (p : Int) + (rd R (i : Int)).1 by omega] at ih'
  refine Ev.st (fun k => by rw [lines_part.l0]) (Ev.dp (by omega) ?_)
  refine Ev.at_ (by omega) (by omega) ?_
  have pb : (p : Int) ≤ 1000000000000 := by
   have : i * 1000000 ≤ 1000000 * 1000000 := Nat.mul_le_mul_right _ (by omega)
   omega
  generalize rd R (i : Int) = x at *
  rw [seg, rleF_app, w64 (x := (p : Int) + x.1) (by omega) (by omega)]
  have hq : wrap64 ((if (p : Int) + x.1 < (t : Int) then (p : Int) + x.1 else (t : Int)) - (if (f : Int) < (p : Int) then (p : Int) else (f : Int))) = (if (p : Int) + x.1 < (t : Int) then (p : Int) + x.1 else (t : Int)) - (if (f : Int) < (p : Int) then (p : Int) else (f : Int)) := w64 (by split <;> split <;> omega) (by split <;> split <;> omega)
  rw [hq]
  have hle : (if (p : Int) + x.1 < (t : Int) then (p : Int) + x.1 else (t : Int)) - (if (f : Int) < (p : Int) then (p : Int) else (f : Int)) ≤ x.1 := by split <;> split <;> omega
  generalize (if (p : Int) + x.1 < (t : Int) then (p : Int) + x.1 else (t : Int)) - (if (f : Int) < (p : Int) then (p : Int) else (f : Int)) = q at *
  refine Ev.dc (fun c => ?_) (fun c => ?_)
  · rw [nx i (by omega), show q.toNat = 0 by omega]
    exact ih' o m ho (by omega)
  · obtain ⟨n, hn⟩ : ∃ n : Nat, q = ((n + 1 : Nat) : Int) := ⟨q.toNat - 1, by omega⟩
    subst hn
    rw [Int.toNat_natCast, rleF_many]
    have z := ih' (pushN o ((n + 1 : Nat) : Int) x.2) (m + (n + 1)) (ho.push (n + 1) (by omega) x.2) (by omega)
    have j1 : pushN o ((n + 1 : Nat) : Int) x.2 = o ++ [(((n + 1 : Nat) : Int), x.2)] → Ev (fun k => lines_part.j1 k (f : Int) (t : Int) o ((p : Int) + x.1) ((n + 1 : Nat) : Int) R (R.length : Int) (i : Int) x) (rleF (pushN o ((n + 1 : Nat) : Int) x.2) (seg (f : Int) (t : Int) ((p : Int) + x.1) (R.drop (i + 1)))) := fun h => by
     rw [h] at z ⊢
     refine Ev.st (fun k => by rw [lines_part.j1]) ?_
     refine Ev.ifp (by have := ho.1; simp only [List.length_cons, List.length_nil]; omega) ?_
     rw [nx i (by omega)]
     exact z
    rcases List.eq_nil_or_concat o with rfl | ⟨ys, y, rfl⟩
    · refine Ev.dn (show ¬ 0 ≤ wrap64 ((0 : Int) - 1) by rw [w64 (by omega) (by omega)]; omega) (j1 rfl)
    · rw [List.concat_eq_append] at *
      have len := ho.1
      rw [List.length_append, List.length_singleton] at len
      have hy := ho.2 y (by simp)
      rw [last_i ys y (by omega)]
      refine Ev.dp (by omega) ?_
      refine Ev.ifp (by rw [List.length_append, List.length_singleton]; omega) ?_
      refine Ev.ix (last_get ys y) ?_
      refine Ev.dc (fun c => ?_) (fun c => ?_)
      · rw [pushN_concat, if_pos c] at z ⊢
        refine Ev.ifp (by rw [List.length_append, List.length_singleton]; omega) ?_
        refine Ev.ix (last_get ys y) ?_
        refine Ev.ifp (by rw [List.length_append, List.length_singleton]; omega) ?_
        refine Ev.ix (last_get ys y) ?_
        rw [Int.toNat_natCast, last_set, nx i (by omega), w64 (x := y.1 + _) (by omega) (by omega)]
        exact z
      · exact j1 (by rw [pushN_concat, if_neg c])
theorem part_ev (R : List (Int × Int)) (hR : R.length ≤ 1000000) (hx : ∀ x ∈ R, 0 ≤ x.1 ∧ x.1 ≤ 1000000) (f t : Nat) (hf : f ≤ 1000000) (ht : t ≤ 1000000) : Ev (fun k => lines_part.f k R (f : Int) (t : Int)) (rle (((stys R).take t).drop f)) := by
 have z := part_loop R hR f t hf ht R.length 0 0 [] 0 (by omega) (by rw [List.drop_zero]; exact hx) (by omega) .nil (by omega)
 have e := seg_eq f t R 0 (fun x h => (hx x h).1)
 rw [Nat.sub_zero, Nat.sub_zero] at e
 rw [List.drop_zero, e] at z
 exact z
theorem runC_stys {n : Nat} {s : ByteArray} : ∀ (R : List (Int × Int)) (p : Nat), runC n s p R = 0 → p ≤ s.size → p + (stys R).length = s.size
 | [], p, h, _ => by
  unfold runC at h
  rw [stys, List.length_nil]
  split at h
  · omega
  · omega
 | x :: R, p, h, hp => by
  obtain ⟨h1, h2, _, _, h5⟩ := runC_cons h
  have := runC_stys R _ h5 (by omega)
  rw [stys, List.length_append, List.length_replicate]; omega
end Go.Proofs.YtjbobaeggdafpaaGreat.Vm
