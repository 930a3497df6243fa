/- A paragraph's lines, one behind the other, are its bytes, and their runs its styles. -/
import Derived.Test.YtjbobaeggdafpaaLg
namespace Go.Proofs.Ytjbobaeggdafpaa.Vm
open Go
open _root_.Go.RowKit (wrap64)
theorem sBytes_len (s : ByteArray) : (sBytes s).length = s.size := by unfold sBytes; rw [List.length_map, Array.length_toList]; rfl
theorem sBytes_extract (s : ByteArray) (a b : Nat) : sBytes (s.extract a b) = ((sBytes s).take b).drop a := by
 unfold sBytes
 rw [ByteArray.data_extract, Array.toList_extract, List.extract_eq_take_drop, ← List.map_take, ← List.map_drop, List.drop_take]
theorem str_back (s : ByteArray) : strOfNums (sBytes s) = s := by
 have e : (strOfNums (sBytes s)).data.toList = s.data.toList := by
  rw [strOfNums_data]
  unfold sBytes
  rw [List.map_map]
  conv => rhs; rw [← List.map_id s.data.toList]
  refine List.map_congr_left fun b _ => ?_
  simp
 have e2 : (strOfNums (sBytes s)).data = s.data := by
  have := congrArg List.toArray e
  simpa using this
 cases s
 cases h : strOfNums _
 rw [h] at e2
 exact congrArg ByteArray.mk e2
theorem stepB_from {st : Styl} {s r a b : Int} {q : List api_Item × Int} : ∀ x ∈ (stepB st s r a b q).1, (∃ y ∈ q.1, y.2.2.2.2.2.2.2.1 = x.2.2.2.2.2.2.2.1) ∨ x.2.2.2.2.2.2.2.1 = a ∨ x.2.2.2.2.2.2.2.1 = b := by
 have app : ∀ ys : List api_Item, (∀ x ∈ ys, x.2.2.2.2.2.2.2.1 = a ∨ x.2.2.2.2.2.2.2.1 = b) → ∀ x ∈ q.1 ++ ys, (∃ y ∈ q.1, y.2.2.2.2.2.2.2.1 = x.2.2.2.2.2.2.2.1) ∨ x.2.2.2.2.2.2.2.1 = a ∨ x.2.2.2.2.2.2.2.1 = b := fun ys h x hx => by
  rcases List.mem_append.1 hx with hx | hx
  · exact .inl ⟨x, hx, rfl⟩
  · exact .inr (h x hx)
 have bx : ∀ w, ∀ x ∈ boxB s w a b q, (∃ y ∈ q.1, y.2.2.2.2.2.2.2.1 = x.2.2.2.2.2.2.2.1) ∨ x.2.2.2.2.2.2.2.1 = a ∨ x.2.2.2.2.2.2.2.1 = b := fun w => by
  unfold boxB
  by_cases c : q.2 = s
  · rw [if_pos c]
    intro x hx
    rcases List.eq_nil_or_concat q.1 with h | ⟨ys, z, h⟩
    · rw [h] at hx; simp [grow] at hx
    · rw [h, List.concat_eq_append, grow_concat] at hx
      rw [h, List.concat_eq_append]
      rcases List.mem_append.1 hx with hx | hx
      · exact .inl ⟨x, List.mem_append_left _ hx, rfl⟩
      · rw [List.mem_singleton.1 hx]
        exact .inl ⟨z, by simp, rfl⟩
  · rw [if_neg c]
    exact app _ (fun x hx => by rw [List.mem_singleton.1 hx]; exact .inl rfl)
 unfold stepB
 by_cases c : kindOf r = 0 ∨ kindOf r = 2
 · rw [if_pos c]; exact bx _
 rw [if_neg c]
 by_cases c : kindOf r = 6
 · rw [if_pos c]
   intro x hx
   rcases List.mem_append.1 hx with hx | hx
   · exact bx _ x hx
   · rw [List.mem_singleton.1 hx]; exact .inr (.inr rfl)
 rw [if_neg c]
 by_cases c : kindOf r = 1
 · rw [if_pos c]; exact app _ (fun x hx => by rw [List.mem_singleton.1 hx]; exact .inl rfl)
 rw [if_neg c]
 by_cases c : kindOf r = 3
 · rw [if_pos c]; exact app _ (fun x hx => by rw [List.mem_singleton.1 hx]; exact .inl rfl)
 rw [if_neg c]
 by_cases c : kindOf r = 4
 · rw [if_pos c]; exact app _ (fun x hx => by rw [List.mem_singleton.1 hx]; exact .inl rfl)
 rw [if_neg c]
 by_cases c : kindOf r = 5
 · rw [if_pos c]; exact app _ (fun x hx => by rw [List.mem_singleton.1 hx]; exact .inl rfl)
 rw [if_neg c]
 refine app _ (fun x hx => ?_)
 simp only [fillI, List.mem_cons, List.not_mem_nil, or_false] at hx
 rcases hx with rfl | rfl <;> exact .inl rfl
theorem bld_from {l : List Styl} {R : List (Int × Int)} {n : Int} : ∀ (L A : List Int) (q : List api_Item × Int), ∀ x ∈ bld l R n L A q, (∃ y ∈ q.1, y.2.2.2.2.2.2.2.1 = x.2.2.2.2.2.2.2.1) ∨ x.2.2.2.2.2.2.2.1 = n ∨ x.2.2.2.2.2.2.2.1 ∈ A := by
 have fin : ∀ (A : List Int) (q : List api_Item × Int), ∀ x ∈ q.1 ++ fillI n n, (∃ y ∈ q.1, y.2.2.2.2.2.2.2.1 = x.2.2.2.2.2.2.2.1) ∨ x.2.2.2.2.2.2.2.1 = n ∨ x.2.2.2.2.2.2.2.1 ∈ A := fun A q x hx => by
  rcases List.mem_append.1 hx with hx | hx
  · exact .inl ⟨x, hx, rfl⟩
  · simp only [fillI, List.mem_cons, List.not_mem_nil, or_false] at hx
    rcases hx with rfl | rfl <;> exact .inr (.inl rfl)
 have nx_ : ∀ A : List Int, nxt A n = n ∨ nxt A n ∈ A := fun A => by
  cases A with
  | nil => exact .inl rfl
  | cons b A => exact .inr (List.mem_cons_self ..)
 intro L
 induction L with
 | nil => intro A q; cases A <;> exact fin _ q
 | cons r L ih =>
  intro A q
  cases A with
  | nil => exact fin _ q
  | cons a A =>
   intro x hx
   have one : ∀ x ∈ (stepB (ofS l (styAt R a)) (styAt R a) r a (nxt A n) q).1, (∃ y ∈ q.1, y.2.2.2.2.2.2.2.1 = x.2.2.2.2.2.2.2.1) ∨ x.2.2.2.2.2.2.2.1 = n ∨ x.2.2.2.2.2.2.2.1 ∈ a :: A := fun x hx => by
    rcases stepB_from x hx with h | h | h
    · exact .inl h
    · rw [h]; exact .inr (.inr (List.mem_cons_self ..))
    · rw [h]
      rcases nx_ A with h | h
      · exact .inr (.inl h)
      · exact .inr (.inr (List.mem_cons_of_mem _ h))
   rw [bld] at hx
   by_cases c : kindOf r = 8
   · rw [if_pos c] at hx; exact one x hx
   · rw [if_neg c] at hx
     rcases ih A _ x hx with ⟨y, hy, e⟩ | h | h
     · rw [← e]; exact one y hy
     · exact .inr (.inl h)
     · exact .inr (.inr (List.mem_cons_of_mem _ h))
theorem Dec.upto {s : ByteArray} {e pos : Nat} {L A : List Int} (h : Dec s e pos L A) : ∀ t : Nat, pos ≤ t → t = e ∨ (t : Int) ∈ A → ∃ L' A', Dec s t pos L' A' := by
 induction h with
 | done =>
  intro t h1 h2
  rcases h2 with rfl | h2
  · exact ⟨[], [], .done⟩
  · cases h2
 | @step pos r n L A hE hD ih =>
  intro t h1 h2
  by_cases c : t = pos
  · subst c; exact ⟨[], [], .done⟩
  · have dl := hD.le
    have := hE.pos1
    have h3 : t = _ ∨ (t : Int) ∈ A := h2.imp id fun z => by
     rcases List.mem_cons.1 z with z | z
     · omega
     · exact z
    have h4 : pos + n ≤ t := by
     rcases h3 with h3 | h3
     · omega
     · have := hD.mem_ge _ h3; omega
    obtain ⟨L', A', q⟩ := ih t h4 h3
    exact ⟨_, _, .step hE q⟩
theorem Dec.fromAt {s : ByteArray} {e pos : Nat} {L A : List Int} (h : Dec s e pos L A) : ∀ f : Nat, f = e ∨ (f : Int) ∈ A → ∃ L' A', Dec s e f L' A' ∧ ∀ x ∈ A, (f : Int) ≤ x → x ∈ A' := by
 induction h with
 | done =>
  intro f h2
  rcases h2 with rfl | h2
  · exact ⟨[], [], .done, fun x hx => by cases hx⟩
  · cases h2
 | @step pos r n L A hE hD ih =>
  intro f h2
  by_cases c : f = pos
  · subst c; exact ⟨_, _, .step hE hD, fun x hx _ => hx⟩
  · have := hE.pos1
    have h3 : f = _ ∨ (f : Int) ∈ A := h2.imp id fun z => by
     rcases List.mem_cons.1 z with z | z
     · omega
     · exact z
    obtain ⟨L', A', q1, q2⟩ := ih f h3
    refine ⟨L', A', q1, fun x hx hf => ?_⟩
    rcases List.mem_cons.1 hx with rfl | hx
    · exfalso
      have dl := hD.le
      rcases h3 with h3 | h3
      · omega
      · have := hD.mem_ge _ h3; omega
    · exact q2 x hx hf
theorem Dec.cutOut {s : ByteArray} {t f pos : Nat} {L A : List Int} (h : Dec s t pos L A) (hf : f ≤ pos) (ht : t ≤ s.size) : ∃ A', Dec (s.extract f t) (t - f) (pos - f) L A' := by
 induction h with
 | done => exact ⟨[], .done⟩
 | @step pos r n L A hE hD ih =>
  have dl := hD.le
  have := hE.pos1
  obtain ⟨A', q⟩ := ih (by omega)
  have z : Enc (s.extract f _) (pos - f) r n := Enc.extract (a := f) (by rw [show f + (pos - f) = pos by omega]; exact hE) (by rw [show f + (pos - f) = pos by omega]; exact dl.1) ht
  rw [show pos + n - f = pos - f + n by omega] at q
  exact ⟨_, .step z q⟩
theorem right_part {s : ByteArray} {L A : List Int} (D : Dec s s.size 0 L A) {f t : Nat} (hf : f = s.size ∨ (f : Int) ∈ A) (ht : t = s.size ∨ (t : Int) ∈ A) (hft : f ≤ t) (hts : t ≤ s.size) : RightS (s.extract f t) 0 := by
 obtain ⟨L1, A1, q1, q2⟩ := D.fromAt f hf
 obtain ⟨L2, A2, q3⟩ := q1.upto t hft (ht.imp id fun z => q2 _ z (by omega))
 obtain ⟨A3, q4⟩ := q3.cutOut (f := f) (Nat.le_refl _) hts
 rw [Nat.sub_self] at q4
 refine ⟨L2, A3, ?_⟩
 rw [show (s.extract f t).size = t - f by rw [ByteArray.size_extract]; omega]
 exact q4
theorem stys_push (o : List (Int × Int)) (n : Nat) (v : Int) (ho : ∀ x ∈ o, 0 ≤ x.1) : stys (pushN o (n : Int) v) = stys o ++ List.replicate n v := by
 rcases List.eq_nil_or_concat o with rfl | ⟨ys, x, rfl⟩
 · rw [pushN_nil]; simp [stys]
 · rw [List.concat_eq_append] at *
   rw [pushN_concat]
   have hx := ho x (by simp)
   by_cases c : x.2 = v
   · have one : ∀ y : Int × Int, stys [y] = List.replicate y.1.toNat y.2 := fun y => by rw [stys, stys, List.append_nil]
     rw [if_pos c, stys_app, stys_app, one, one, List.append_assoc, ← c, List.replicate_append_replicate]
     congr 2
     show (x.1 + (n : Int)).toNat = x.1.toNat + n
     omega
   · rw [if_neg c, stys_app (ys ++ [x])]
     simp [stys]
theorem stys_rleF : ∀ (xs : List Int) (o : List (Int × Int)) (n : Nat), ROk o n → stys (rleF o xs) = stys o ++ xs
 | [], o, _, _ => (List.append_nil _).symm
 | v :: xs, o, n, h => by
  have p := stys_push o 1 v (fun x hx => by have := h.2 x hx; omega)
  have h1 := h.push 1 (by omega) v
  have p' : stys (pushN o 1 v) = stys o ++ [v] := p
  have z := stys_rleF xs (pushN o 1 v) (n + 1) h1
  rw [rleF, z, p', List.append_assoc]; rfl
theorem stys_rle (xs : List Int) : stys (rle xs) = xs := by
 unfold rle
 rw [stys_rleF xs [] 0 .nil]; rfl
theorem Merged_loop (l : List (Int × Int)) (hl : l.length ≤ 1000000) (hx : ∀ x ∈ l, 0 ≤ x.1 ∧ x.1 ≤ 1000000) : ∀ (d i : Nat) (o : List (Int × Int)) (m : Nat), i + d = l.length → ROk o m → m ≤ i * 1000000 → Ev (fun k => regletref05_Merged.l0 k l o (i : Int)) (rleF o (stys (l.drop i))) := by
 intro d
 induction d with
 | zero =>
  intro i o m e ho hm
  rw [List.drop_of_length_le (by omega), stys]
  refine Ev.st (fun k => by rw [regletref05_Merged.l0]) (Ev.dn (by omega) (Ev.some_ ?_))
  rfl
 | succ d ih =>
  intro i o m e ho hm
  have h0 := hx _ (rd_in l (i := i) (by omega))
  have mb : m ≤ 1000000000000 := by
   have : i * 1000000 ≤ 1000000 * 1000000 := Nat.mul_le_mul_right _ (by omega)
   omega
  rw [drop_rd l i (by omega), stys, rleF_app]
  have j1 : ∀ o' m', ROk o' m' → m' ≤ (i + 1) * 1000000 → Ev (fun k => regletref05_Merged.j1 k l o' (i : Int)) (rleF o' (stys (l.drop (i + 1)))) := fun o' m' h1 h2 => by
   refine Ev.st (fun k => by rw [regletref05_Merged.j1]) ?_
   rw [nx i (by omega)]
   exact ih (i + 1) o' m' (by omega) h1 h2
  refine Ev.st (fun k => by rw [regletref05_Merged.l0]) (Ev.dp (by omega) (Ev.at_ (by omega) (by omega) ?_))
  refine Ev.dc (fun c => ?_) (fun c => ?_)
  · have hm' : m ≤ (i + 1) * 1000000 := Nat.le_trans hm (Nat.mul_le_mul_right _ (Nat.le_succ i))
    have z := j1 o m ho hm'
    rw [show (rd l (i : Int)).1.toNat = 0 by omega, List.replicate_zero, rleF]
    refine Ev.st (fun k => by rw [regletref05_Merged.j1]) ?_
    rw [nx i (by omega)]
    exact ih (i + 1) o m (by omega) ho hm'
  · obtain ⟨n, hn⟩ : ∃ n : Nat, (rd l (i : Int)).1 = ((n + 1 : Nat) : Int) := ⟨(rd l (i : Int)).1.toNat - 1, by omega⟩
    have z := j1 (pushN o ((n + 1 : Nat) : Int) (rd l (i : Int)).2) (m + (n + 1)) (ho.push (n + 1) (by omega) _) (by rw [Nat.succ_mul]; omega)
    rw [show (rd l (i : Int)).1.toNat = n + 1 by omega, rleF_many]
    have j2 : pushN o ((n + 1 : Nat) : Int) (rd l (i : Int)).2 = o ++ [rd l (i : Int)] → Ev (fun k => regletref05_Merged.j2 k l o (i : Int)) (rleF (pushN o ((n + 1 : Nat) : Int) (rd l (i : Int)).2) (stys (l.drop (i + 1)))) := fun h => by
     rw [h] at z ⊢
     refine Ev.st (fun k => by rw [regletref05_Merged.j2]) (Ev.at_ (by omega) (by omega) ?_)
     exact Ev.ifp (by have := ho.1; simp only [List.length_cons, List.length_nil]; omega) z
    have ex : ((((n + 1 : Nat) : Int)), (rd l (i : Int)).2) = rd l (i : Int) := by rw [← hn]
    rcases List.eq_nil_or_concat o with rfl | ⟨ys, y, rfl⟩
    · exact Ev.dn (show ¬ (0 : Int) < 0 by omega) (j2 (by rw [pushN_nil, ex, List.nil_append]))
    · rw [List.concat_eq_append] at *
      have len := ho.1
      rw [List.length_append, List.length_singleton] at len
      have hy := ho.2 y (by simp)
      rw [last_i ys y (by omega)]
      refine Ev.dp (by rw [List.length_append, List.length_singleton]; omega) ?_
      refine Ev.ifp (by rw [List.length_append, List.length_singleton]; omega) ?_
      refine Ev.ix (last_get ys y) ?_
      refine Ev.at_ (by omega) (by omega) ?_
      refine Ev.dc (fun c => ?_) (fun c => ?_)
      · rw [pushN_concat, if_pos c] at z ⊢
        refine Ev.ifp (by rw [List.length_append, List.length_singleton]; omega) ?_
        refine Ev.ix (last_get ys y) ?_
        refine Ev.at_ (by omega) (by omega) ?_
        refine Ev.ifp (by rw [List.length_append, List.length_singleton]; omega) ?_
        refine Ev.ix (last_get ys y) ?_
        rw [Int.toNat_natCast, last_set, w64 (x := y.1 + _) (by omega) (by omega), hn]
        exact z
      · exact j2 (by rw [pushN_concat, if_neg c, ex])
theorem Merged_ev (l : List (Int × Int)) (hl : l.length ≤ 1000000) (hx : ∀ x ∈ l, 0 ≤ x.1 ∧ x.1 ≤ 1000000) : Ev (fun k => regletref05_Merged.f k l) (rle (stys l)) := by
 have z := Merged_loop l hl hx l.length 0 [] 0 (by omega) .nil (by omega)
 rw [List.drop_zero] at z
 exact z
theorem stys_mem {r : List (Int × Int)} {x : Int × Int} (h : x ∈ r) (h0 : 0 < x.1) : x.2 ∈ stys r := by
 induction r with
 | nil => cases h
 | cons y r ih =>
  rw [stys]
  rcases List.mem_cons.1 h with rfl | h
  · exact List.mem_append_left _ (List.mem_replicate.2 ⟨by omega, rfl⟩)
  · exact List.mem_append_right _ (ih h)
theorem stys_ge : ∀ (r : List (Int × Int)), (∀ x ∈ r, 0 < x.1) → r.length ≤ (stys r).length
 | [], _ => Nat.le_refl _
 | x :: r, h => by
  have h0 := h x (List.mem_cons_self ..)
  have := stys_ge r (fun y hy => h y (List.mem_cons_of_mem _ hy))
  rw [stys, List.length_append, List.length_replicate, List.length_cons]; omega
theorem stys_valid {n : Nat} {s : ByteArray} : ∀ (R : List (Int × Int)) (p : Nat), runC n s p R = 0 → ∀ v ∈ stys R, 0 ≤ v ∧ v < n
 | [], _, _ => fun v hv => by cases hv
 | x :: R, p, h => fun v hv => by
  obtain ⟨_, _, h3, _, h5⟩ := runC_cons h
  rw [stys] at hv
  rcases List.mem_append.1 hv with hv | hv
  · rw [List.eq_of_mem_replicate hv]; exact h3
  · exact stys_valid R _ h5 v hv
theorem ofS_high {l : List Styl} (h : ∀ s ∈ l, styC s = 0) {n : Int} (hn : 0 ≤ n ∧ n < l.length) : 1 ≤ (ofS l n).1 := by
 unfold ofS
 rw [if_pos hn]
 exact (styC_ok (h _ (rd_mem hn.1 hn.2))).1.1.1
theorem tallF_high {l : List Styl} (h : ∀ s ∈ l, styC s = 0) (hl : 0 < l.length) : ∀ (r : List (Int × Int)) (m : Int), 0 ≤ m → (∀ x ∈ r, 0 ≤ x.2 ∧ x.2 < l.length) → 1 ≤ tallF l m r
 | [], m, hm, _ => by
  rw [tallF]
  split
  · exact ofS_high h ⟨Int.le_refl _, by omega⟩
  · omega
 | x :: r, m, hm, hx => by
  have := ofS_high h (hx x (List.mem_cons_self ..))
  rw [tallF]
  refine tallF_high h hl r _ ?_ (fun y hy => hx y (List.mem_cons_of_mem _ hy))
  split
  · split <;> omega
  · exact hm
theorem sum_lens (r : List (Int × Int)) (hr : r.length ≤ 1000000) (hx : ∀ x ∈ r, 0 ≤ x.1 ∧ x.1 ≤ 1000000) (g : List Lin) (a : List (Int × Int)) (i : Int) (b : Prg) (y : Lin) (hy : y.2.1 = r) {v : Bool} (K : Ev (fun k => regletlaw10_LinesWhole.l2 k g a i ((stys r).length : Int) (r.length : Int) b y) v) : ∀ (d j : Nat) (n : Int), j + d = r.length → 0 ≤ n → n ≤ j * 1000000 → n + ((stys (r.drop j)).length : Int) = ((stys r).length : Int) → Ev (fun k => regletlaw10_LinesWhole.l2 k g a i n (j : Int) b y) v := by
 subst hy
 intro d
 induction d with
 | zero =>
  intro j n e h0 h1 hs
  rw [List.drop_of_length_le (by omega), stys, List.length_nil] at hs
  rw [show (j : Int) = (y.2.1.length : Int) by omega, show n = ((stys y.2.1).length : Int) by omega]
  exact K
 | succ d ih =>
  intro j n e h0 h1 hs
  have hm := hx _ (rd_in y.2.1 (i := j) (by omega))
  rw [drop_rd y.2.1 j (by omega), stys, List.length_append, List.length_replicate] at hs
  refine Ev.st (fun k => by rw [regletlaw10_LinesWhole.l2]) (Ev.dp (by omega) (Ev.at_ (by omega) (by omega) ?_))
  rw [nx j (by omega), w64 (x := n + _) (by omega) (by omega)]
  exact ih (j + 1) _ (by omega) (by omega) (by omega) (by omega)
theorem Pure.LinesWhole (l : List Styl) (a : Prg) (_ : okT (.row false tSty) l) (_ : okT tPara a) : ∃ k, regletlaw10_LinesWhole.f k l a = some true := by
 refine Ev.rounds (Ev.bind awake10_ev (Ev.bn rfl ?_))
 rcases tab10 l with ⟨hl, T⟩ | T
 · refine Ev.bind T (Ev.somep rfl (Ev.bind (few10_ev a) (Ev.nc (fun _ => Ev.now _) (fun c => ?_))))
   have c := of_decide_eq_true c
   obtain ⟨s, R, w, st⟩ := a
   dsimp only at c
   refine Ev.st (fun k => by rw [regletlaw10_LinesWhole.j0]) ?_
   by_cases e : chkC l s R = 0
   · by_cases hw : WS w st
     · obtain ⟨X, p, W, u, em, L, A, P⟩ := Para_ev hl c.1 c.2 e hw
       have hw' := hw
       unfold WS at hw'
       have bl := P.blen
       have sl := P.sty
       have lens := P.lens
       have hk := P.bks
       have sv := stys_valid R 0 P.run
       have l0 : 0 < l.length := by
        have := sv _ (rd_in (stys R) (i := 0) (by have := P.some_; omega))
        omega
       refine Ev.bind P.ev (Ev.xn rfl ?_)
       have BB : ∃ B, B = W.map (endV X) := ⟨_, rfl⟩
       obtain ⟨B, hB⟩ := BB
       rw [← hB] at bl hk ⊢
       have ll : (linesV l s (stys R) X w (s.size : Int) B B.length).length = B.length := linesV_len _
       have hfin : fromV X (s.size : Int) B B.length = (s.size : Int) := by
        have := hk.pos
        obtain ⟨m, hm⟩ : ∃ m, B.length = m + 1 := ⟨B.length - 1, by omega⟩
        rw [hm]
        show cutV X (s.size : Int) B m = _
        unfold cutV
        exact if_pos hm.symm
       have txt : ∀ d i : Nat, i + d = B.length → Ev (fun k => lines_Text.l0 k ((sBytes s).take (fromV X (s.size : Int) B i).toNat) (linesV l s (stys R) X w (s.size : Int) B B.length) ((linesV l s (stys R) X w (s.size : Int) B B.length).length : Int) (i : Int)) s := by
        intro d
        induction d with
        | zero =>
         intro i ei
         obtain rfl : i = B.length := by omega
         refine Ev.st (fun k => by rw [lines_Text.l0]) (Ev.dn (by omega) (Ev.some_ ?_))
         rw [hfin, Int.toNat_natCast, ← sBytes_len s, List.take_length, str_back]
        | succ d ih =>
         intro i ei
         obtain ⟨f0, f1, f2⟩ := hk.mono (i := i) (by omega)
         refine Ev.st (fun k => by rw [lines_Text.l0]) (Ev.dp (by omega) (Ev.at_ (by omega) (by omega) ?_))
         rw [linesV_rd (by omega), nx i (by omega)]
         refine Ev.ifp (by
          show _ + (s.extract _ _).size ≤ _
          rw [List.length_take, ByteArray.size_extract]; omega) ?_
         have z := ih (i + 1) (by omega)
         show Ev (fun k => lines_Text.l0 k ((sBytes s).take (fromV X (s.size : Int) B i).toNat ++ sBytes (s.extract (fromV X (s.size : Int) B i).toNat (cutV X (s.size : Int) B i).toNat)) _ _ _) s
         rw [sBytes_extract]
         have ez : (sBytes s).take (fromV X (s.size : Int) B i).toNat ++ ((sBytes s).take (cutV X (s.size : Int) B i).toNat).drop (fromV X (s.size : Int) B i).toNat = (sBytes s).take (cutV X (s.size : Int) B i).toNat := by
          conv => rhs; rw [← List.take_append_drop (fromV X (s.size : Int) B i).toNat ((sBytes s).take (cutV X (s.size : Int) B i).toNat), List.take_take]
          rw [show min (fromV X (s.size : Int) B i).toNat (cutV X (s.size : Int) B i).toNat = (fromV X (s.size : Int) B i).toNat by omega]
         rw [ez]
         exact z
       refine Ev.bind (txt B.length 0 (by omega)) (Ev.xn rfl ?_)
       have bd : ∀ i : Nat, i < B.length → (((cutV X (s.size : Int) B i).toNat = s.size ∨ cutV X (s.size : Int) B i ∈ A) ∧ ((fromV X (s.size : Int) B i).toNat = s.size ∨ fromV X (s.size : Int) B i ∈ A)) := by
        have cb : ∀ i : Nat, i < B.length → (cutV X (s.size : Int) B i).toNat = s.size ∨ cutV X (s.size : Int) B i ∈ A := fun i hi => by
         by_cases cl : i + 1 = B.length
         · have : cutV X (s.size : Int) B i = (s.size : Int) := if_pos cl
           exact .inl (by omega)
         · have ec : cutV X (s.size : Int) B i = _ := if_neg cl
           obtain ⟨m1, m2, m3⟩ := hk.at_ (i := i) (by omega)
           have bi := hk.inr i hi
           rw [ec]
           have mem := rd_mem (xs := X) (i := mn (stB X (rd B (i : Int))) (rd B ((i + 1 : Nat) : Int))) (by omega) (by omega)
           have mem2 := mem
           rw [P.xs] at mem2
           rcases bld_from L A ([], -1) _ mem2 with ⟨y, hy, _⟩ | h | h
           · cases hy
           · rw [← P.xs] at h; exact .inl (by omega)
           · rw [← P.xs] at h; exact .inr h
        intro i hi
        refine ⟨cb i hi, ?_⟩
        cases i with
        | zero =>
         refine .inr ?_
         have D := P.dec
         have s0 := P.some_
         generalize hz : s.size = z at D
         cases D with
         | done => omega
         | step hE hD => exact List.mem_cons_self ..
        | succ i => exact cb i (by omega)
       have all : ∀ d i : Nat, ∀ o : List (Int × Int), i + d = B.length → (∀ x ∈ o, 0 < x.1 ∧ x.1 ≤ 1000000) → stys o = (stys R).take (fromV X (s.size : Int) B i).toNat → Ev (fun k => regletlaw10_LinesWhole.l1 k (linesV l s (stys R) X w (s.size : Int) B B.length) o (i : Int) (s, R, w, st)) true := by
        intro d
        induction d with
        | zero =>
         intro i o ei hx hst
         have ob := stys_ge o (fun x h => (hx x h).1)
         obtain rfl : i = B.length := by omega
         rw [hfin, Int.toNat_natCast, ← sl, List.take_length] at hst
         rw [hst, sl] at ob
         refine Ev.st (fun k => by rw [regletlaw10_LinesWhole.l1]) (Ev.dn (by omega) ?_)
         have M1 := Merged_ev o (by omega) (fun x h => by have := hx x h; omega)
         have M2 := Merged_ev R (by omega) lens
         rw [hst] at M1
         refine Ev.bind M1 (Ev.bind M2 (Ev.bind (RSame_ev _ ?_) (Ev.now _)))
         have := (rle_ok (stys R)).1
         show (rle (stys R)).length ≤ 1000000
         omega
        | succ d ih =>
         intro i o ei hx hst
         have ob := stys_ge o (fun x h => (hx x h).1)
         rw [hst, List.length_take] at ob
         obtain ⟨f0, f1, f2⟩ := hk.mono (i := i) (by omega)
         have bi := hk.inr i (by omega)
         have rok := rle_ok (((stys R).take (cutV X (s.size : Int) B i).toNat).drop (fromV X (s.size : Int) B i).toNat)
         have rst : stys (ownV (stys R) X (s.size : Int) B i) = _ := stys_rle _
         have rlen : (((stys R).take (cutV X (s.size : Int) B i).toNat).drop (fromV X (s.size : Int) B i).toNat).length = (cutV X (s.size : Int) B i).toNat - (fromV X (s.size : Int) B i).toNat := by
          rw [List.length_drop, List.length_take]; omega
         rw [rlen] at rok
         have ro : ROk (ownV (stys R) X (s.size : Int) B i) _ := rok
         refine Ev.st (fun k => by rw [regletlaw10_LinesWhole.l1]) (Ev.dp (by omega) (Ev.at_ (by omega) (by omega) ?_))
         rw [linesV_rd (by omega)]
         refine sum_lens (ownV (stys R) X (s.size : Int) B i) (by have := ro.1; omega) (fun x hx => by have := ro.2 x hx; omega) _ _ _ _ _ rfl ?_ _ 0 0 (Nat.zero_add _) (Int.le_refl _) (by omega) (by rw [List.drop_zero, Int.zero_add])
         refine Ev.st (fun k => by rw [regletlaw10_LinesWhole.l2]) (Ev.dn (by exact Int.lt_irrefl _) ?_)
         refine Ev.xn (by
          show ((stys (ownV (stys R) X (s.size : Int) B i)).length : Int) = ((s.extract _ _).size : Int)
          rw [rst, rlen, ByteArray.size_extract]; omega) ?_
         refine Ev.xn rfl ?_
         refine Ev.xn (by rw [ll, w64 (x := (B.length : Int) - 1) (by omega) (by omega)]; rfl) ?_
         refine Ev.xn rfl ?_
         have F := fit_to P.sit.par P.sit.good (lastV B i) (rd B (i : Int)) w (by omega)
         refine Ev.dn (by
          show ¬ (fitV X (lastV B i) (rd B (i : Int)) w).2.1 < 1
          have := F.1; omega) ?_
         have hh : 1 ≤ hgtV l (ownV (stys R) X (s.size : Int) B i) (stys R) := by
          unfold hgtV
          split
          · exact ofS_high hl (sv _ (rd_mem (by have := P.some_; omega) (by omega)))
          · refine tallF_high hl l0 _ 0 (Int.le_refl _) (fun x hx => ?_)
            have xp := ro.2 x hx
            refine sv _ ?_
            have hm : x.2 ∈ stys (ownV (stys R) X (s.size : Int) B i) := stys_mem hx xp.1
            rw [rst] at hm
            exact List.mem_of_mem_take (List.mem_of_mem_drop hm)
         refine Ev.dn (by
          show ¬ hgtV l (ownV (stys R) X (s.size : Int) B i) (stys R) < 1
          omega) ?_
         obtain ⟨b1, b2⟩ := bd i (by omega)
         have RR := rRightS_ev (s.extract (fromV X (s.size : Int) B i).toNat (cutV X (s.size : Int) B i).toNat) (by rw [ByteArray.size_extract]; omega)
         rw [isTrue_yes (right_part P.dec (f := (fromV X (s.size : Int) B i).toNat) (t := (cutV X (s.size : Int) B i).toNat) (b2.imp id fun z => by rwa [show (((fromV X (s.size : Int) B i).toNat : Nat) : Int) = fromV X (s.size : Int) B i by omega]) (b1.imp id fun z => by rwa [show (((cutV X (s.size : Int) B i).toNat : Nat) : Int) = cutV X (s.size : Int) B i by omega]) (by omega) (by omega))] at RR
         refine Ev.bind RR (Ev.bn rfl (Ev.st (fun k => by rw [regletlaw10_LinesWhole.j3]) ?_))
         have hB2 : B.length ≤ 1000000 := bl
         refine Ev.ifp (by
          show (o.length + (ownV (stys R) X (s.size : Int) B i).length) * 16 ≤ _
          have := ro.1; omega) ?_
         rw [nx i (by omega)]
         refine ih (i + 1) (o ++ ownV (stys R) X (s.size : Int) B i) (by omega) (fun x hx' => ?_) ?_
         · rcases List.mem_append.1 hx' with h | h
           · exact hx x h
           · have := ro.2 x h; omega
         · rw [stys_app, hst, rst]
           show _ = (stys R).take (cutV X (s.size : Int) B i).toNat
           conv => rhs; rw [← List.take_append_drop (fromV X (s.size : Int) B i).toNat ((stys R).take (cutV X (s.size : Int) B i).toNat), List.take_take]
           rw [show min (fromV X (s.size : Int) B i).toNat (cutV X (s.size : Int) B i).toNat = (fromV X (s.size : Int) B i).toNat by omega]
       exact all B.length 0 [] (by omega) (fun x hx => by cases hx) (by show [] = (stys R).take (Int.toNat 0); rfl)
     · refine Ev.bind (bad_para2 hl c.1 c.2 e hw) (Ev.xp ?_ (Ev.some_ rfl))
       dsimp only
       repeat' split
       all_goals decide
   · exact Ev.bind (bad_para c.1 c.2 e) (Ev.xp e (Ev.some_ rfl))
 · exact Ev.bind T (Ev.nilp rfl (Ev.now _))
end Go.Proofs.Ytjbobaeggdafpaa.Vm
