/- The plain law of books: lines are replaced, and only the pages that must are built. -/
import Derived.Test.YtnlocbjojbgdcaaPe
namespace Go.Proofs.Ytnlocbjojbgdcaa.Vm
open Go
open _root_.Go.RowKit (wrap64)
def LastAt (s : List Int) (x v : Int) : Prop := -1 ≤ v ∧ v < s.length ∧ (∀ j, 0 ≤ j → j ≤ v → rd s j ≤ x) ∧ ∀ j, v < j → j < s.length → x < rd s j
theorem find_loop {s : List Int} (hl : (s.length : Int) ≤ 1000000) (up : ∀ i j : Int, 0 ≤ i → i < j → j < s.length → rd s i < rd s j) {x : Int} : ∀ (d : Nat) (lo hi : Int), 0 ≤ lo → lo ≤ hi → hi ≤ s.length → hi - lo ≤ d → (∀ j, 0 ≤ j → j < lo → rd s j ≤ x) → (∀ j, hi ≤ j → j < s.length → x < rd s j) →
 ∃ v, LastAt s x v ∧ Ev (fun k => pages_Find.l0 k s x lo hi) v := by
 intro d
 induction d using Nat.strongRecOn with
 | _ d ih =>
  intro lo hi h0 h1 h2 h3 h4 h5
  by_cases c : lo < hi
  · have m : wrap64 (Int.tdiv (wrap64 (lo + hi)) 2) = (lo + hi) / 2 := by
     rw [w64 (x := lo + hi) (by omega) (by omega), Int.tdiv_eq_ediv_of_nonneg (by omega)]
     exact w64 (by omega) (by omega)
    have b1 : lo ≤ (lo + hi) / 2 := by omega
    have b2 : (lo + hi) / 2 < hi := by omega
    generalize hm : (lo + hi) / 2 = mid at *
    by_cases q : rd s mid ≤ x
    · obtain ⟨v, hv, he⟩ := ih (hi - (mid + 1)).toNat (by omega) (mid + 1) hi (by omega) (by omega) h2 (by omega) (fun j a b => by
       by_cases e : j = mid
       · subst e; exact q
       · have := up j mid a (by omega) (by omega); omega) h5
      refine ⟨v, hv, Ev.st (fun k => by rw [pages_Find.l0]) (Ev.dp c ?_)⟩
      rw [m, w64 (x := mid + 1) (by omega) (by omega)]
      exact Ev.at_ (by omega) (by omega) (Ev.dp q he)
    · obtain ⟨v, hv, he⟩ := ih (mid - lo).toNat (by omega) lo mid h0 b1 (by omega) (by omega) h4 (fun j a b => by
       by_cases e : j = mid
       · subst e; omega
       · have := up mid j (by omega) (by omega) b; omega)
      refine ⟨v, hv, Ev.st (fun k => by rw [pages_Find.l0]) (Ev.dp c ?_)⟩
      rw [m]
      exact Ev.at_ (by omega) (by omega) (Ev.dn q he)
  · have e : lo = hi := by omega
    subst e
    refine ⟨lo - 1, ⟨by omega, by omega, fun j a b => h4 j a (by omega), fun j a b => h5 j (by omega) b⟩, Ev.st (fun k => by rw [pages_Find.l0]) (Ev.dn c (Ev.some_ (w64 (by omega) (by omega))))⟩
theorem find_ev {s : List Int} (hl : (s.length : Int) ≤ 1000000) (up : ∀ i j : Int, 0 ≤ i → i < j → j < s.length → rd s i < rd s j) (x : Int) : ∃ v, LastAt s x v ∧ Ev (fun k => pages_Find.f k s x) v :=
 find_loop hl up s.length 0 s.length (by omega) (by omega) (by omega) (by omega) (fun j a b => by omega) (fun j a b => by omega)
theorem copy_ev {sh built : Int} {rest : List Int} (hs : -1000000 ≤ sh ∧ sh ≤ 1000000) (hr : ∀ x, x ∈ rest → 0 ≤ x ∧ x ≤ 1000000) (hl : rest.length ≤ 1000000) : ∀ (d i : Nat) (out : List Int), i + d = rest.length → out.length + d ≤ 5000000 →
 Ev (fun k => repage_Book_again.l4 k sh out built rest (rest.length : Int) (i : Int)) (out ++ (rest.drop i).map (· + sh), built) := by
 intro d
 induction d with
 | zero =>
  intro i out hi ho
  refine Ev.st (fun k => by rw [repage_Book_again.l4]) (Ev.dn (by omega) (Ev.some_ ?_))
  rw [List.drop_eq_nil_of_le (by omega)]; simp
 | succ d ih =>
  intro i out hi ho
  have hx := hr (rd rest (i : Int)) (rd_mem (by omega) (by omega))
  have e : rest.drop i = rd rest (i : Int) :: rest.drop (i + 1) := by
   rw [List.drop_eq_getElem_cons (by omega)]
   congr 1
   unfold rd
   rw [List.getD_eq_getElem?_getD, show ((i : Int)).toNat = i by omega, List.getElem?_eq_getElem (by omega)]; rfl
  refine Ev.st (fun k => by rw [repage_Book_again.l4]) (Ev.dp (by omega) ?_)
  refine Ev.at_ (by omega) (by omega) ?_
  rw [w64 (x := rd rest (i : Int) + sh) (by omega) (by omega), w64 (x := (i : Int) + 1) (by omega) (by omega)]
  refine Ev.ifp (by simp only [List.length_singleton]; omega) ?_
  have := ih (i + 1) (out ++ [rd rest (i : Int) + sh]) (by omega) (by simp only [List.length_append, List.length_singleton]; omega)
  rw [e]
  simpa using this
structure Again (l : List api_Slot) (come : List api_Slot) (first gone : Int) (b : api_Settings) (hgt : Int) (s : List Int) (frm : Int) (mid tail : List Int) : Prop where
 chain : Chain (spl l come first gone) b hgt frm (mid ++ tail)
 news : ∀ x, x ∈ mid → ¬ (first + gone ≤ x - (come.length - gone) ∧ (x - (come.length - gone)) ∈ s)
 stay : tail = [] ∨ ∃ q : Nat, q < s.length ∧ first + gone ≤ rd s q ∧ tail = (s.drop q).map (· + ((come.length : Int) - gone))
theorem again_loop {B : repage_Book} {come : List api_Slot} {first gone : Int} (hF : Fits B.1 first gone) (hl : (B.1.length : Int) ≤ 1000000) (hc : (come.length : Int) ≤ 1000000)
 (hw : Wf (spl B.1 come first gone)) (hr : RightL (spl B.1 come first gone)) (ch : Chain B.1 B.2.2.2 B.2.2.1 0 B.2.1) : ∀ (d : Nat) (frm built : Int) (out : List Int), 0 ≤ frm → frm + d = (spl B.1 come first gone).length → 0 ≤ built → built + d ≤ 4000000 → out.length + d ≤ 3000000 →
 ∃ mid tail, Again B.1 come first gone B.2.2.2 B.2.2.1 B.2.1 frm mid tail ∧
  Ev (fun k => repage_Book_again.l1 k B (spl B.1 come first gone) (first + gone) ((come.length : Int) - gone) out frm built) (out ++ mid ++ tail, built + mid.length) := by
 have f0 := hF.f0; have g0 := hF.g0; have fl := hF.le
 have len := spl_len (come := come) hF
 have sl := ch.length_le
 have up := ch.up
 have hfew : Few (spl B.1 come first gone) := by unfold Few; omega
 intro d
 induction d using Nat.strongRecOn with
 | _ d ih =>
  intro frm built out h0 h1 h2 h3 h4
  by_cases c : frm < (spl B.1 come first gone).length
  · have sh : wrap64 (frm - ((come.length : Int) - gone)) = frm - (come.length - gone) := w64 (by omega) (by omega)
    have build : ¬ (first + gone ≤ frm - (come.length - gone) ∧ (frm - (come.length - gone)) ∈ B.2.1) →
     ∃ mid tail, Again B.1 come first gone B.2.2.2 B.2.2.1 B.2.1 frm mid tail ∧
      Ev (fun k => repage_Book_again.j3 k B (spl B.1 come first gone) (first + gone) ((come.length : Int) - gone) out frm built) (out ++ mid ++ tail, built + mid.length) := by
     intro hn
     obtain ⟨r, hr1, hr2⟩ := pages_Next_ev hw hfew hr B.2.2.1 h0 c B.2.2.2
     have := hr1.lt; have := hr1.le
     obtain ⟨mid, tail, hA, hE⟩ := ih ((spl B.1 come first gone).length - r).toNat (by omega) r (built + 1) (out ++ [frm]) (by omega) (by omega) (by omega) (by omega) (by simp only [List.length_append, List.length_singleton]; omega)
     refine ⟨frm :: mid, tail, ⟨.more h0 c hr1 hA.chain, fun x hx => ?_, hA.stay⟩, ?_⟩
     · rcases List.mem_cons.1 hx with rfl | hx
       · exact hn
       · exact hA.news x hx
     · refine Ev.st (fun k => by rw [repage_Book_again.j3]) (Ev.ifp (by simp only [List.length_singleton]; omega) ?_)
       refine Ev.bind hr2 ?_
       rw [w64 (x := built + 1) (by omega) (by omega)]
       refine hE.lift ?_
       simp only [List.append_assoc, List.cons_append, List.nil_append, List.length_cons, Prod.mk.injEq, true_and]
       omega
    by_cases c1 : first + gone ≤ frm - (come.length - gone)
    · obtain ⟨v, ⟨v0, v1, v2, v3⟩, he⟩ := find_ev (s := B.2.1) (by omega) up (frm - (come.length - gone))
      by_cases c2 : 0 ≤ v ∧ rd B.2.1 v = frm - (come.length - gone)
      · obtain ⟨c2, c3⟩ := c2
        have hv : v.toNat < B.2.1.length := by omega
        have e : (v.toNat : Int) = v := by omega
        refine ⟨[], (B.2.1.drop v.toNat).map (· + ((come.length : Int) - gone)), ⟨?_, fun x hx => (by cases hx), .inr ⟨v.toNat, hv, by rw [e, c3]; exact c1, rfl⟩⟩, ?_⟩
        · have := chain_ge (come := come) hF (ch.drop v.toNat hv) (by rw [e, c3]; exact c1)
          rw [e, c3, show frm - ((come.length : Int) - gone) + (come.length - gone) = frm by omega] at this
          exact this
        · refine Ev.st (fun k => by rw [repage_Book_again.l1]) (Ev.dp c ?_)
          rw [sh]
          refine Ev.dp c1 (Ev.bind he (Ev.dp c2 ?_))
          refine Ev.at_ c2 v1 (Ev.dp c3 (Ev.ifp ⟨c2, by omega, by omega⟩ (Ev.st (fun k => by rw [repage_Book_again.j2]) ?_)))
          rw [List.take_of_length_le (by simp)]
          have := copy_ev (sh := (come.length : Int) - gone) (built := built) (rest := B.2.1.drop v.toNat) (by omega) (fun x hx => by
           have := ch.ge x (List.mem_of_mem_drop hx); omega) (by simp only [List.length_drop]; omega) (B.2.1.drop v.toNat).length 0 out (by omega) (by simp only [List.length_drop]; omega)
          refine Ev.lift this ?_
          simp
      · obtain ⟨mid, tail, hA, hE⟩ := build (fun ⟨_, hm⟩ => by
         obtain ⟨j, hj, e⟩ := List.mem_iff_getElem.1 hm
         have e' : rd B.2.1 (j : Int) = frm - (come.length - gone) := by
          unfold rd
          rw [List.getD_eq_getElem?_getD, show ((j : Int)).toNat = j by omega, List.getElem?_eq_getElem hj]; exact e
         have hjv : (j : Int) ≤ v := Int.not_lt.1 fun q => by have := v3 j q (by omega); omega
         by_cases q : (j : Int) = v
         · exact c2 ⟨by omega, by rw [← q]; exact e'⟩
         · have := up j v (by omega) (by omega) v1
           have := v2 v (by omega) (Int.le_refl _)
           omega)
        refine ⟨mid, tail, hA, Ev.st (fun k => by rw [repage_Book_again.l1]) (Ev.dp c ?_)⟩
        rw [sh]
        refine Ev.dp c1 (Ev.bind he ?_)
        by_cases q : 0 ≤ v
        · exact Ev.dp q (Ev.at_ q v1 (Ev.dn (fun z => c2 ⟨q, z⟩) hE))
        · exact Ev.dn q hE
    · obtain ⟨mid, tail, hA, hE⟩ := build (fun h => c1 h.1)
      refine ⟨mid, tail, hA, Ev.st (fun k => by rw [repage_Book_again.l1]) (Ev.dp c ?_)⟩
      rw [sh]
      exact Ev.dn c1 hE
  · refine ⟨[], [], ⟨.done (by omega), fun x hx => (by cases hx), .inl rfl⟩, Ev.st (fun k => by rw [repage_Book_again.l1]) (Ev.dn c (Ev.some_ ?_))⟩
    simp
end Go.Proofs.Ytnlocbjojbgdcaa.Vm
