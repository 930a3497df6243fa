/- Lines put on their pages: what the program's function comes to. -/
import Derived.Test.YtkkmmbjaeafhmaaKit
import Derived.Test.YtkkmmbjaeafhmaaQ1
import Derived.Test.YtkkmmbjaeafhmaaV4
namespace Go.Proofs.Ytkkmmbjaeafhmaa.Vm
open Go
open _root_.Go.RowKit (wrap64)
abbrev tRun12 : Ty := .cons (.i .i64) (.i .i64)
abbrev tLine12 : Ty := .cons .s (.cons (.row false tRun12) (.cons (.i .i64) (.cons (.i .i64) (.cons (.i .i64) (.cons .b (.cons (.i .i64) (.cons .b .b)))))))
abbrev Lin12 := ByteArray × List (Int × Int) × Int × Int × Int × Bool × Int × Bool × Bool
theorem awake12_ev : Ev (fun k => regletlaw12_awake.f k) true := Ev.far 300 (fun k => by kernel_rfl)
theorem rd_ix {α : Type} [Inhabited α] {xs : List α} {i : Int} (h0 : 0 ≤ i) (h : i < xs.length) : xs[i.toNat]? = some (rd xs i) := by
  unfold rd
  rw [List.getD_eq_getElem?_getD, List.getElem?_eq_getElem (show i.toNat < xs.length by omega)]; rfl
/-- A line, set at a height of its page. -/
def withY (x : Lin12) (y : Int) : Lin12 := (x.1, x.2.1, x.2.2.1, x.2.2.2.1, x.2.2.2.2.1, x.2.2.2.2.2.1, y, x.2.2.2.2.2.2.2.1, x.2.2.2.2.2.2.2.2)
def sumH (l : List Lin12) (a : Nat) : Nat → Int
  | 0 => 0
  | m + 1 => sumH l a m + (rd l ((a + m : Nat) : Int)).2.2.2.2.1
def pgL (l : List Lin12) (a : Nat) : Nat → List Lin12
  | 0 => []
  | m + 1 => pgL l a m ++ [withY (rd l ((a + m : Nat) : Int)) (sumH l a m)]
theorem pgL_len (l : List Lin12) (a m : Nat) : (pgL l a m).length = m := by
  induction m with
  | zero => rfl
  | succ m ih => simp [pgL, ih]
theorem pgL_rd (l : List Lin12) (a : Nat) : ∀ (m j : Nat), j < m → rd (pgL l a m) (j : Int) = withY (rd l ((a + j : Nat) : Int)) (sumH l a j) := by
  intro m
  induction m with
  | zero => exact fun j h => absurd h (by omega)
  | succ m ih =>
    intro j h
    simp only [pgL]
    have hl := pgL_len l a m
    by_cases c : j < m
    · rw [rd_app_lt (by omega) (by omega)]; exact ih j c
    · obtain rfl : j = m := by omega
      rw [rd_app_ge (by omega), hl, Int.sub_self]; rfl
/-- Heights as the law takes them. -/
def Few (l : List Lin12) : Prop := l.length ≤ 100 ∧ ∀ j : Nat, j < l.length → 0 ≤ (rd l (j : Int)).2.2.2.2.1 ∧ (rd l (j : Int)).2.2.2.2.1 ≤ 1099511627776 ∧ (rd l (j : Int)).2.1.length ≤ 50
theorem sumH_in {l : List Lin12} (h : Few l) (a : Nat) : ∀ m : Nat, a + m ≤ l.length → 0 ≤ sumH l a m ∧ sumH l a m ≤ m * 1099511627776 := by
  intro m
  induction m with
  | zero => exact fun _ => ⟨Int.le_refl _, by simp [sumH]⟩
  | succ m ih =>
    intro hm
    obtain ⟨h1, h2⟩ := ih (by omega)
    obtain ⟨h3, h4, _⟩ := h.2 (a + m) (by omega)
    simp only [sumH]
    omega
/-- Where pages begin. -/
structure Sts (st : List Int) (n : Nat) : Prop where
  len : st.length ≤ n
  lo : ∀ j : Nat, j < st.length → 0 ≤ rd st (j : Int) ∧ rd st (j : Int) < n
  up : ∀ j : Nat, j + 1 < st.length → rd st (j : Int) < rd st ((j + 1 : Nat) : Int)
def fromN (st : List Int) (p : Nat) : Nat := (rd st (p : Int)).toNat
def toN (st : List Int) (n p : Nat) : Nat := if p + 1 < st.length then (rd st ((p + 1 : Nat) : Int)).toNat else n
theorem Sts.at_ {st : List Int} {n : Nat} (h : Sts st n) {p : Nat} (hp : p < st.length) : rd st (p : Int) = (fromN st p : Int) ∧ fromN st p < toN st n p ∧ toN st n p ≤ n := by
  obtain ⟨h1, h2⟩ := h.lo p hp
  unfold fromN toN
  by_cases c : p + 1 < st.length
  · obtain ⟨h3, h4⟩ := h.lo (p + 1) c
    have h5 := h.up p c
    rw [if_pos c]
    omega
  · rw [if_neg c]
    omega
theorem End_ev {st : List Int} {n : Nat} (h : Sts st n) (hn : n ≤ 100) {p : Nat} (hp : p < st.length) : Ev (fun k => pages_End.f k st (p : Int) (n : Int)) (toN st n p : Int) ∧ Ev (fun k => regletref12_End.f k st (p : Int) (n : Int)) (toN st n p : Int) := by
  have hl := h.len
  have e1 : wrap64 ((st.length : Int) - 1) = (st.length : Int) - 1 := w64 (by omega) (by omega)
  unfold toN
  by_cases c : p + 1 < st.length
  · obtain ⟨h3, h4⟩ := h.lo (p + 1) c
    rw [if_pos c]
    have e2 : wrap64 ((p : Int) + 1) = ((p + 1 : Nat) : Int) := nx p (by omega)
    constructor
    · refine Ev.congr (fun k => by rw [pages_End.f, e1, e2]) (Ev.dp (by omega) ?_)
      refine Ev.at_ (by omega) (by omega) ?_
      exact Ev.some_ (by omega)
    · refine Ev.congr (fun k => by rw [regletref12_End.f, e1, e2]) (Ev.dp (by omega) ?_)
      refine Ev.at_ (by omega) (by omega) ?_
      exact Ev.some_ (by omega)
  · rw [if_neg c]
    constructor
    · exact Ev.congr (fun k => by rw [pages_End.f, e1]) (Ev.dn (by omega) (Ev.now _))
    · exact Ev.congr (fun k => by rw [regletref12_End.f, e1]) (Ev.dn (by omega) (Ev.now _))
def pgs (l : List Lin12) (st : List Int) : Nat → List (List Lin12)
  | 0 => []
  | p + 1 => pgs l st p ++ [pgL l (fromN st p) (toN st l.length p - fromN st p)]
theorem pgs_len (l : List Lin12) (st : List Int) (p : Nat) : (pgs l st p).length = p := by
  induction p with
  | zero => rfl
  | succ p ih => simp [pgs, ih]
theorem pgs_rd (l : List Lin12) (st : List Int) : ∀ (m j : Nat), j < m → rd (pgs l st m) (j : Int) = pgL l (fromN st j) (toN st l.length j - fromN st j) := by
  intro m
  induction m with
  | zero => exact fun j h => absurd h (by omega)
  | succ m ih =>
    intro j h
    simp only [pgs]
    have hl := pgs_len l st m
    by_cases c : j < m
    · rw [rd_app_lt (by omega) (by omega)]; exact ih j c
    · obtain rfl : j = m := by omega
      rw [rd_app_ge (by omega), hl, Int.sub_self]; rfl
theorem Of_ev {l : List Lin12} (hf : Few l) {st : List Int} (hs : Sts st l.length) : Ev (fun k => pages_Of.f k l st) (pgs l st st.length) := by
  have hn := hf.1
  have hsl := hs.len
  -- a page's lines
  have inner : ∀ (p : Nat) (hp : p < st.length) (q : List (List Lin12)) (hq : Ev (fun k => pages_Of.l0 k l st (q ++ [pgL l (fromN st p) (toN st l.length p - fromN st p)]) st (st.length : Int) ((p + 1 : Nat) : Int)) (pgs l st st.length)) (hql : q.length = p) (d m : Nat), fromN st p + m + d = toN st l.length p →
      Ev (fun k => pages_Of.l1 k l st q (p : Int) (sumH l (fromN st p) m) ((fromN st p + m : Nat) : Int) st (st.length : Int) (p : Int) (pgL l (fromN st p) m)) (pgs l st st.length) := by
    intro p hp q hq hql d
    obtain ⟨a1, a2, a3⟩ := hs.at_ hp
    have hE := (End_ev hs hn hp).1
    induction d with
    | zero =>
      intro m e
      refine Ev.st (fun k => by rw [pages_Of.l1]) (Ev.bind hE ?_)
      refine Ev.dn (by split <;> omega) ?_
      refine Ev.ifp (by simp only [List.length_cons, List.length_nil]; omega) ?_
      rw [nx p (by omega)]
      have : m = toN st l.length p - fromN st p := by omega
      subst this
      exact hq
    | succ d ih =>
      intro m e
      refine Ev.st (fun k => by rw [pages_Of.l1]) (Ev.bind hE ?_)
      refine Ev.dp (by split <;> omega) ?_
      refine Ev.at_ (by omega) (by omega) ?_
      obtain ⟨h3, h4, h5⟩ := hf.2 (fromN st p + m) (by omega)
      obtain ⟨s1, s2⟩ := sumH_in hf (fromN st p) m (by omega)
      refine Ev.ifp (by simp only [List.length_nil]; omega) ?_
      have hpl := pgL_len l (fromN st p) m
      refine Ev.ifp (by simp only [List.length_cons, List.length_nil]; omega) ?_
      have e1 : wrap64 (sumH l (fromN st p) m + (rd l ((fromN st p + m : Nat) : Int)).2.2.2.2.1) = sumH l (fromN st p) (m + 1) := w64 (by omega) (by omega)
      have e2 : wrap64 (((fromN st p + m : Nat) : Int) + 1) = ((fromN st p + (m + 1) : Nat) : Int) := nx _ (by omega)
      rw [e1, e2]
      exact ih (m + 1) (by omega)
  have outer : ∀ d p : Nat, p + d = st.length → Ev (fun k => pages_Of.l0 k l st (pgs l st p) st (st.length : Int) (p : Int)) (pgs l st st.length) := by
    intro d
    induction d with
    | zero =>
      intro p e
      refine Ev.st (fun k => by rw [pages_Of.l0]) (Ev.dn (by omega) (Ev.some_ ?_))
      rw [show p = st.length by omega]
    | succ d ih =>
      intro p e
      obtain ⟨a1, a2, a3⟩ := hs.at_ (p := p) (by omega)
      refine Ev.st (fun k => by rw [pages_Of.l0]) (Ev.dp (by omega) ?_)
      refine Ev.at_ (by omega) (by omega) ?_
      have e1 : (if rd st (p : Int) < 0 then 0 else rd st (p : Int)) = ((fromN st p + 0 : Nat) : Int) := by rw [if_neg (by omega), a1]; rfl
      rw [e1]
      exact inner p (by omega) (pgs l st p) (ih (p + 1) (by omega)) (pgs_len l st p) (toN st l.length p - fromN st p) 0 (by omega)
  exact outer st.length 0 (by omega)
theorem refSame_refl (x : Lin12) (h : x.2.1.length ≤ 50) : Ev (fun k => regletref10_Same.f k x x) true := by
  have loop : ∀ d i : Nat, i + d = x.2.1.length → Ev (fun k => regletref05_Same.l0 k x.2.1 x.2.1 (i : Int)) true := by
    intro d
    induction d with
    | zero => exact fun i e => Ev.st (fun k => by rw [regletref05_Same.l0]) (Ev.dn (by omega) (Ev.now _))
    | succ d ih =>
      intro i e
      refine Ev.st (fun k => by rw [regletref05_Same.l0]) (Ev.dp (by omega) ?_)
      refine Ev.at_ (by omega) (by omega) ?_
      refine Ev.at_ (by omega) (by omega) ?_
      refine Ev.bn (by simp) ?_
      rw [nx i (by omega)]
      exact ih (i + 1) (by omega)
  refine Ev.congr (fun k => by rw [regletref10_Same.f]) ?_
  iterate 8 refine Ev.dp rfl ?_
  refine Ev.bind (Ev.congr (fun k => by rw [regletref05_Same.f]) (Ev.xn rfl ?_)) (Ev.now _)
  exact loop x.2.1.length 0 (by omega)
end Go.Proofs.Ytkkmmbjaeafhmaa.Vm
