/- Parts of a text; the first rune of a part. -/
import Derived.Test.YtjbobaeggdafpaaGreatTf
namespace Go.Proofs.YtjbobaeggdafpaaGreat.Vm
open Go
open _root_.Go.RowKit (wrap64)
theorem by_extract (s : ByteArray) (a e j : Nat) (h : a + j < e) (he : e ≤ s.size) : by_ (s.extract a e) j = by_ s (a + j) := by
 have hs : (s.extract a e).size = e - a := by rw [ByteArray.size_extract]; omega
 unfold by_
 rw [get!_at _ j (by omega), get!_at _ (a + j) (by omega), ByteArray.getElem_extract]
theorem Enc.extract {s : ByteArray} {a e pos r n : Nat} (h : Enc s (a + pos) r n) (he : a + pos + n ≤ e) (hs : e ≤ s.size) : Enc (s.extract a e) pos r n := by
 have hz : (s.extract a e).size = e - a := by rw [ByteArray.size_extract]; omega
 have p1 := h.pos1
 obtain ⟨_, h⟩ := h
 refine ⟨by omega, ?_⟩
 rcases h with ⟨rfl, h1, h2⟩ | ⟨rfl, h1, h2, h3, h4⟩ | ⟨rfl, h1, h2, h3, h4, h5, h6⟩ | ⟨rfl, h1, h2, h3, h4, h5, h6⟩
 · exact .inl ⟨rfl, h1, by rw [by_extract _ _ _ _ (by omega) hs]; exact h2⟩
 · exact .inr (.inl ⟨rfl, h1, h2, by rw [by_extract _ _ _ _ (by omega) hs]; exact h3, by rw [by_extract _ _ _ _ (by omega) hs, ← Nat.add_assoc]; exact h4⟩)
 · exact .inr (.inr (.inl ⟨rfl, h1, h2, h3, by rw [by_extract _ _ _ _ (by omega) hs]; exact h4, by rw [by_extract _ _ _ _ (by omega) hs, ← Nat.add_assoc]; exact h5, by rw [by_extract _ _ _ _ (by omega) hs, ← Nat.add_assoc]; exact h6⟩))
 · exact .inr (.inr (.inr ⟨rfl, h1, h2, by rw [by_extract _ _ _ _ (by omega) hs]; exact h3, by rw [by_extract _ _ _ _ (by omega) hs, ← Nat.add_assoc]; exact h4, by rw [by_extract _ _ _ _ (by omega) hs, ← Nat.add_assoc]; exact h5, by rw [by_extract _ _ _ _ (by omega) hs, ← Nat.add_assoc]; exact h6⟩))
theorem sSub_ok (s : ByteArray) (l h : Nat) (h1 : l ≤ h) (h2 : h ≤ s.size) : sSub s (l : Int) (h : Int) = some (s.extract l h) := by
 unfold sSub; rw [if_pos (by omega)]; simp
theorem First_ev {v : ByteArray} (hs : v.size ≤ 1000000) {r n : Nat} (h : Enc v 0 r n) : ∃ x : Int, Ev (fun k => runes_First.f k v) (x, (n : Int)) := by
 have p1 := h.pos1
 have p2 := h.1
 rcases size_ev v hs 0 (by omega) with ⟨r', n', he, w⟩ | ⟨no, _⟩
 · obtain ⟨_, rfl⟩ := h.uniq he
   have sz : (v.extract 0 n).size = n := by rw [ByteArray.size_extract]; omega
   refine ⟨((Utf8.decode (v.extract 0 n) 0).1 : Int), Ev.bind w ?_⟩
   refine Ev.bind (Ev.opt (sSub_ok v 0 n (Nat.zero_le _) (by omega))) ?_
   refine Ev.st (fun k => by rw [runes_First.l0]) (Ev.ifp (by dsimp only; omega) ?_)
   exact Ev.now _
 · exact absurd h (no r n)
end Go.Proofs.YtjbobaeggdafpaaGreat.Vm
