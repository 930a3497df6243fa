/- Numbers as digits in the base of a thousand: plain arithmetic. -/
namespace Go.Proofs.YtjbobaeggdafpaaGreat.Big
def ws (B : Int) : List Int → Int
 | [] => 0
 | d :: ds => d + B * ws B ds
theorem ws_append (B : Int) (l m : List Int) : ws B (l ++ m) = ws B l + B ^ l.length * ws B m := by
 induction l with
 | nil => simp [ws]
 | cons d ds ih =>
  simp only [List.cons_append, ws, ih, List.length_cons, Int.pow_succ, Int.mul_add]
  rw [Int.mul_comm (B ^ ds.length) B, Int.mul_assoc]
  omega
theorem ws_set (B : Int) (l : List Int) (i : Nat) (v : Int) (h : i < l.length) :
 ws B (l.set i v) = ws B l + (v - l.getD i 0) * B ^ i := by
 induction l generalizing i with
 | nil => simp at h
 | cons d ds ih =>
  cases i with
  | zero => simp [ws]; omega
  | succ i =>
   simp only [List.length_cons] at h
   simp only [List.set_cons_succ, ws, ih i (by omega), List.getD_cons_succ, Int.pow_succ, Int.mul_add]
   have e : B * ((v - ds.getD i 0) * B ^ i) = (v - ds.getD i 0) * (B ^ i * B) := by
    rw [Int.mul_comm B, Int.mul_assoc]
   rw [e]; omega
theorem ws_replicate_zero (B : Int) (n : Nat) : ws B (List.replicate n 0) = 0 := by
 induction n with
 | zero => rfl
 | succ n ih => simp [List.replicate_succ, ws, ih]
theorem ws_nonneg {B : Int} (hB : 0 ≤ B) : ∀ {l : List Int}, (∀ d ∈ l, 0 ≤ d) → 0 ≤ ws B l
 | [], _ => Int.le_refl _
 | d :: ds, h => by
  have h1 := h d (by simp)
  have h2 := ws_nonneg hB (l := ds) (fun x hx => h x (by simp [hx]))
  have h3 := Int.mul_nonneg hB h2
  simp only [ws]; omega
def Dig (l : List Int) : Prop := ∀ d ∈ l, 0 ≤ d ∧ d ≤ 999
theorem ws_lt : ∀ {l : List Int}, Dig l → 0 ≤ ws 1000 l ∧ ws 1000 l < 1000 ^ l.length
 | [], _ => by simp [ws]
 | d :: ds, h => by
  have h1 := h d (by simp)
  have h2 := ws_lt (l := ds) (fun x hx => h x (by simp [hx]))
  simp only [ws, List.length_cons, Int.pow_succ]
  have : (1000:Int) ^ ds.length * 1000 = 1000 * 1000 ^ ds.length := Int.mul_comm _ _
  omega
theorem ws_entry {B : Int} (hB : 0 ≤ B) : ∀ {l : List Int}, (∀ d ∈ l, 0 ≤ d) → ∀ i, i < l.length → l.getD i 0 * B ^ i ≤ ws B l
 | [], _, i, hi => by simp at hi
 | d :: ds, h, i, hi => by
  have h1 := h d (by simp)
  have h2 : ∀ x ∈ ds, 0 ≤ x := fun x hx => h x (by simp [hx])
  have h3 := ws_nonneg hB h2
  have h5 := Int.mul_nonneg hB h3
  cases i with
  | zero => simp [ws]; omega
  | succ i =>
   have h4 := ws_entry hB h2 i (by simpa using hi)
   have h6 := Int.mul_le_mul_of_nonneg_left h4 hB
   simp only [ws, List.getD_cons_succ, Int.pow_succ]
   have e : ds.getD i 0 * (B ^ i * B) = B * (ds.getD i 0 * B ^ i) := by
    rw [← Int.mul_assoc, Int.mul_comm]
   rw [e]; omega
theorem getD_set_eq (l : List Int) (i : Nat) (v d : Int) (h : i < l.length) : (l.set i v).getD i d = v := by
 simp [List.getD_eq_getElem?_getD, h]
theorem getD_set_ne (l : List Int) (i j : Nat) (v d : Int) (h : i ≠ j) : (l.set i v).getD j d = l.getD j d := by
 simp [List.getD_eq_getElem?_getD, List.getElem?_set_ne h]
theorem getD_mem_nonneg {l : List Int} (h : ∀ d ∈ l, 0 ≤ d) (i : Nat) : 0 ≤ l.getD i 0 := by
 rw [List.getD_eq_getElem?_getD]
 rcases hi : l[i]? with _ | x
 · simp
 · simpa using h x (List.mem_of_getElem? hi)
theorem mem_set_nonneg {l : List Int} (h : ∀ d ∈ l, 0 ≤ d) (i : Nat) (v : Int) (hv : 0 ≤ v) : ∀ d ∈ l.set i v, 0 ≤ d := by
 intro d hd
 rcases List.mem_or_eq_of_mem_set hd with h1 | rfl
 · exact h d h1
 · exact hv
def mulStep (o : List Int) (p : Nat) (c : Int) : List Int :=
 ((o.set p (o.getD p 0 + c)).set (p + 1) (o.getD (p + 1) 0 + (o.getD p 0 + c) / 1000)).set p ((o.getD p 0 + c) % 1000)
theorem mulStep_length (o : List Int) (p : Nat) (c : Int) : (mulStep o p c).length = o.length := by simp [mulStep]
theorem mulStep_nonneg {o : List Int} (h : ∀ d ∈ o, 0 ≤ d) (p : Nat) {c : Int} (hc : 0 ≤ c) : ∀ d ∈ mulStep o p c, 0 ≤ d := by
 have a := getD_mem_nonneg h p
 have b := getD_mem_nonneg h (p + 1)
 unfold mulStep
 exact mem_set_nonneg (mem_set_nonneg (mem_set_nonneg h _ _ (by omega)) _ _ (by omega)) _ _ (by omega)
theorem mulStep_ws (B : Int) {o : List Int} {p : Nat} (hp : p + 1 < o.length) (c : Int) :
 ws B (mulStep o p c) = ws B o + ((o.getD p 0 + c) % 1000 - o.getD p 0) * B ^ p + (o.getD p 0 + c) / 1000 * B ^ (p + 1) := by
 unfold mulStep
 rw [ws_set _ _ _ _ (by simp; omega), ws_set _ _ _ _ (by simp; omega), ws_set _ _ _ _ (by omega)]
 rw [getD_set_ne _ _ _ _ _ (show p + 1 ≠ p by omega), getD_set_eq _ _ _ _ (by omega), getD_set_ne _ _ _ _ _ (show p ≠ p + 1 by omega)]
 generalize o.getD p 0 = x
 generalize o.getD (p + 1) 0 = y
 have e1 : y + (x + c) / 1000 - y = (x + c) / 1000 := by omega
 rw [e1, Int.sub_mul, Int.sub_mul, Int.sub_mul]
 omega
theorem mulStep_value {o : List Int} {p : Nat} (hp : p + 1 < o.length) (c : Int) :
 ws 1000 (mulStep o p c) = ws 1000 o + c * 1000 ^ p := by
 rw [mulStep_ws 1000 hp c, Int.pow_succ]
 generalize o.getD p 0 = x
 generalize (1000 : Int) ^ p = P
 have e : (x + c) / 1000 * (P * 1000) = ((x + c) / 1000 * 1000) * P := by rw [Int.mul_comm P, Int.mul_assoc]
 have e2 : c = (x + c) % 1000 - x + (x + c) / 1000 * 1000 := by omega
 rw [e]
 conv => rhs; rw [e2, Int.add_mul]
 omega
theorem mulStep_sum {o : List Int} (h : ∀ d ∈ o, 0 ≤ d) {p : Nat} (hp : p + 1 < o.length) {c : Int} (hc : 0 ≤ c) :
 ws 1 (mulStep o p c) ≤ ws 1 o + c := by
 rw [mulStep_ws 1 hp c]
 have a := getD_mem_nonneg h p
 simp only [Int.one_pow, Int.mul_one]
 generalize o.getD p 0 = x at *
 omega
theorem le_sum {o : List Int} (h : ∀ d ∈ o, 0 ≤ d) (i : Nat) : o.getD i 0 ≤ ws 1 o := by
 by_cases hi : i < o.length
 · have := ws_entry (B := 1) (by omega) h i hi
   simpa [Int.one_pow] using this
 · have : o.getD i 0 = 0 := by simp [List.getD_eq_getElem?_getD, List.getElem?_eq_none (Nat.le_of_not_lt hi)]
   rw [this]; exact ws_nonneg (by omega) h
def carry (o : List Int) (p : Nat) : List Int :=
 (o.set (p + 1) (o.getD (p + 1) 0 + o.getD p 0 / 1000)).set p (o.getD p 0 % 1000)
theorem carry_length (o : List Int) (p : Nat) : (carry o p).length = o.length := by simp [carry]
theorem carry_nonneg {o : List Int} (h : ∀ d ∈ o, 0 ≤ d) (p : Nat) : ∀ d ∈ carry o p, 0 ≤ d := by
 have a := getD_mem_nonneg h p
 have b := getD_mem_nonneg h (p + 1)
 unfold carry
 exact mem_set_nonneg (mem_set_nonneg h _ _ (by omega)) _ _ (by omega)
theorem carry_ws (B : Int) {o : List Int} {p : Nat} (hp : p + 1 < o.length) :
 ws B (carry o p) = ws B o + (o.getD p 0 % 1000 - o.getD p 0) * B ^ p + o.getD p 0 / 1000 * B ^ (p + 1) := by
 unfold carry
 rw [ws_set _ _ _ _ (by simp; omega), ws_set _ _ _ _ (by omega), getD_set_ne _ _ _ _ _ (show p + 1 ≠ p by omega)]
 generalize o.getD p 0 = x
 generalize o.getD (p + 1) 0 = y
 have e1 : y + x / 1000 - y = x / 1000 := by omega
 rw [e1]; omega
theorem carry_value {o : List Int} {p : Nat} (hp : p + 1 < o.length) : ws 1000 (carry o p) = ws 1000 o := by
 rw [carry_ws 1000 hp, Int.pow_succ]
 generalize o.getD p 0 = x
 generalize (1000 : Int) ^ p = P
 have e : x / 1000 * (P * 1000) = (x / 1000 * 1000) * P := by rw [Int.mul_comm P, Int.mul_assoc]
 rw [e, Int.add_assoc, ← Int.add_mul, show x % 1000 - x + x / 1000 * 1000 = 0 by omega]; omega
theorem carry_sum {o : List Int} (h : ∀ d ∈ o, 0 ≤ d) {p : Nat} (hp : p + 1 < o.length) : ws 1 (carry o p) ≤ ws 1 o := by
 rw [carry_ws 1 hp]
 have a := getD_mem_nonneg h p
 simp only [Int.one_pow, Int.mul_one]
 generalize o.getD p 0 = x at *
 omega
theorem carry_below {o : List Int} {p : Nat} (hp : p + 1 < o.length) (h : ∀ j, j < p → o.getD j 0 ≤ 999) : ∀ j, j < p + 1 → (carry o p).getD j 0 ≤ 999 := by
 intro j hj
 unfold carry
 by_cases e : j = p
 · subst e; rw [getD_set_eq _ _ _ _ (by simp; omega)]; omega
 · rw [getD_set_ne _ _ _ _ _ (by omega), getD_set_ne _ _ _ _ _ (by omega)]; exact h j (by omega)
theorem top_zero {o : List Int} (h : ∀ d ∈ o, 0 ≤ d) {p : Nat} (hp : p < o.length) (hv : ws 1000 o < 1000 ^ p) : o.getD p 0 = 0 := by
 have a := ws_entry (B := 1000) (by omega) h p hp
 have b := getD_mem_nonneg h p
 apply Classical.byContradiction; intro hne
 have c : 1 * (1000:Int) ^ p ≤ o.getD p 0 * 1000 ^ p := Int.mul_le_mul_of_nonneg_right (by omega) (Int.le_of_lt (Int.pow_pos (by omega)))
 omega
theorem ws_split (B : Int) (l : List Int) (i : Nat) (h : i < l.length) :
 ws B l = ws B (l.take i) + B ^ i * (l.getD i 0 + B * ws B (l.drop (i + 1))) := by
 conv => lhs; rw [← List.take_append_drop i l]
 rw [ws_append, List.length_take, Nat.min_eq_left (by omega)]
 rw [List.drop_eq_getElem_cons h]
 simp [ws, List.getD_eq_getElem?_getD, h]
theorem dig_take {l : List Int} (h : Dig l) (i : Nat) : Dig (l.take i) := fun d hd => h d (List.mem_of_mem_take hd)
theorem dig_drop {l : List Int} (h : Dig l) (i : Nat) : Dig (l.drop i) := fun d hd => h d (List.mem_of_mem_drop hd)
theorem dig_getD {l : List Int} (h : Dig l) (i : Nat) : 0 ≤ l.getD i 0 ∧ l.getD i 0 ≤ 999 := by
 rw [List.getD_eq_getElem?_getD]
 rcases hi : l[i]? with _ | x
 · simp
 · simpa using h x (List.mem_of_getElem? hi)
theorem pow_pos (n : Nat) : (0:Int) < 1000 ^ n := Int.pow_pos (by omega)
theorem pow_mono {m n : Nat} (h : m ≤ n) : (1000:Int) ^ m ≤ 1000 ^ n := by
 obtain ⟨k, rfl⟩ := Nat.le.dest h
 rw [Int.pow_add]
 have := Int.mul_le_mul_of_nonneg_left (show (1:Int) ≤ 1000 ^ k from pow_pos k) (Int.le_of_lt (pow_pos m))
 omega
theorem lt_of_place {a b : List Int} (ha : Dig a) (hb : Dig b) (hl : a.length = b.length) {i : Nat} (hi : i < a.length)
 (hd : a.drop (i + 1) = b.drop (i + 1)) (hlt : a.getD i 0 < b.getD i 0) : ws 1000 a < ws 1000 b := by
 rw [ws_split 1000 a i hi, ws_split 1000 b i (by omega), hd]
 have h1 := (ws_lt (dig_take ha i)).2
 rw [List.length_take, Nat.min_eq_left (by omega)] at h1
 have h2 := (ws_lt (dig_take hb i)).1
 have h3 : (1000:Int) ^ i * (a.getD i 0 + 1000 * ws 1000 (b.drop (i + 1))) + 1000 ^ i * 1 ≤ 1000 ^ i * (b.getD i 0 + 1000 * ws 1000 (b.drop (i + 1))) := by
  rw [← Int.mul_add]
  exact Int.mul_le_mul_of_nonneg_left (by omega) (Int.le_of_lt (pow_pos i))
 omega
theorem drop_eq_succ {a b : List Int} {i : Nat} (hi : i < a.length) (hl : a.length = b.length) (hd : a.drop (i + 1) = b.drop (i + 1)) (he : a.getD i 0 = b.getD i 0) : a.drop i = b.drop i := by
 rw [List.drop_eq_getElem_cons hi, List.drop_eq_getElem_cons (show i < b.length by omega), hd]
 simp only [List.getD_eq_getElem?_getD, List.getElem?_eq_getElem hi, List.getElem?_eq_getElem (show i < b.length by omega), Option.getD_some] at he
 rw [he]
def Canon (l : List Int) : Prop := Dig l ∧ (l ≠ [] → l.getD (l.length - 1) 0 ≠ 0)
theorem canon_ge {l : List Int} (h : Canon l) (hn : 0 < l.length) : 1000 ^ (l.length - 1) ≤ ws 1000 l := by
 have e := ws_split 1000 l (l.length - 1) (by omega)
 rw [Nat.sub_add_cancel hn, List.drop_length] at e
 have h1 := (ws_lt (dig_take h.1 (l.length - 1))).1
 have h2 := h.2 (by intro hc; rw [hc] at hn; simp at hn)
 have h3 := (dig_getD h.1 (l.length - 1)).1
 have h4 : (1000:Int) ^ (l.length - 1) * 1 ≤ 1000 ^ (l.length - 1) * l.getD (l.length - 1) 0 := Int.mul_le_mul_of_nonneg_left (by omega) (Int.le_of_lt (pow_pos _))
 simp only [ws, Int.mul_zero, Int.add_zero] at e
 omega
theorem canon_shorter {a b : List Int} (ha : Canon a) (hb : Canon b) (h : a.length < b.length) : ws 1000 a < ws 1000 b := by
 have h1 := (ws_lt ha.1).2
 have h2 := canon_ge hb (by omega)
 have h3 := pow_mono (show a.length ≤ b.length - 1 by omega)
 omega
theorem ws_take_zero {l : List Int} {v : Int} {n : Nat} (hn : n < l.length) (hz : l.getD n 0 = 0) (h : ws 1000 (l.take (n + 1)) = v) : ws 1000 (l.take n) = v := by
 rw [List.take_succ_eq_append_getElem hn, ws_append] at h
 simp only [List.getD_eq_getElem?_getD, List.getElem?_eq_getElem hn, Option.getD_some] at hz
 simp only [hz, ws, Int.mul_zero, Int.add_zero] at h
 exact h
end Go.Proofs.YtjbobaeggdafpaaGreat.Big
