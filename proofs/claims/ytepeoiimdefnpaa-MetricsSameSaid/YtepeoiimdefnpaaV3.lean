/- A machine of values over the given machine, and its calculus: part 3. -/
import Derived.Test.YtepeoiimdefnpaaV2
import Derived.Laws.Externs
import Derived.Laws.Pointers
namespace Go.Proofs.Ytepeoiimdefnpaa.Vm
open Go
open Go.RowKit (wrap64)
/-- What is known of a type. -/
inductive UK where
  | sl (e : Nat)
  | arr (n e : Nat)
  | str
  | bool
  | x
structure TI where
  k : UK := .x
  ag : Bool := false
  sz : Nat := 1
  by_ : Nat
  z : Value
  z0 : List SV
  fs : List (Nat × Bool × Nat) := []
  c : Ty
def fsOk (P : Program) (t : Nat) : Nat → List (Nat × Bool × Nat) → Prop
  | _, [] => True
  | f, q :: l => fieldAt P t f = some (q.1, false) ∧ fieldOf P t f = some q ∧ fsOk P t (f + 1) l
def ukOk (P : Program) (t : Nat) : UK → Prop
  | .sl e => P.underlying t = some (.slice e)
  | .arr n e => P.underlying t = some (.array n e)
  | .str => P.underlying t = some .string
  | .bool => P.underlying t = some .bool
  | .x => True
def TI.sl (i : TI) : Option Nat := match i.k with
  | .sl e => some e
  | _ => none
def plOk (P : Program) (t : Nat) : List (Nat × Bool × Nat) → Prop
  | [] => True
  | l => places P t = some (l.map fun q => (q.1, q.2.2)).toArray
structure TIok (P : Program) (t : Nat) (i : TI) : Prop where
  k : ukOk P t i.k
  ag : aggT P t = some i.ag
  info : (P.info? t).map (fun j => (j.zero, j.size, j.bytes)) = some (some i.z, i.sz, i.by_)
  z : i.z.cells.size = i.sz
  pos : (0 < i.sz) = True
  bpos : (0 < i.by_) = True
  z0 : lits i.z.cells.toList (i.z0.map SV.toV0)
  fs : fsOk P t 0 i.fs
  pl : plOk P t i.fs
/-- A function's signature: its arguments (true: a struct; o: a pointer that may be nil), its results (o: a pointer to what it made, or none). -/
inductive RT where
  | c (ag : Bool) (t : Ty)
  | o (t : Ty)
@[reducible] def RT.den : RT → Type
  | .c _ t => t.den
  | .o t => Option t.den
@[reducible] def denA : List RT → Type
  | [] => Unit
  | p :: l => p.den × denA l
@[reducible] def denR : List RT → Type
  | [] => Unit
  | [r] => r.den
  | r :: r' :: l => r.den × denR (r' :: l)
def SV.of (ag : Bool) (t : Ty) (x : t.den) : SV := bsel ag (.agg t x) <| .v t x
/-- What an argument's slot has. -/
def RT.sv : (r : RT) → r.den → SV
  | .c ag t, x => .of ag t x
  | .o t, x => .optb t x
/-- What a function does; l: its first argument is a box that it may write in. -/
inductive Sig where
  | p (args : List RT) (res : List RT) (F : denA args → Option (denR res))
  | l (t : Ty) (args : List RT) (res : List RT) (F : t.den → denA args → Option (denR (res ++ [.c true t])))
def encA : (l : List RT) → denA l → List V
  | [], _ => []
  | p :: l, x => (p.sv x.1).toV0 :: encA l x.2
def encO : (r : RT) → r.den → V
  | .c ag t, x => (SV.of ag t x).toV0
  | .o _, none => .sc (.pointer none)
  | .o t, some x => .obx (enc t x)
def encR : (l : List RT) → denR l → List V
  | [], _ => []
  | [r], x => [encO r x]
  | r :: r' :: l, x => encO r x.1 :: encR (r' :: l) x.2
def lastR (t : Ty) : (l : List RT) → denR (l ++ [.c true t]) → t.den
  | [], x => x
  | [_], x => x.2
  | _ :: r' :: l, x => lastR t (r' :: l) x.2
def initR (t : Ty) : (l : List RT) → denR (l ++ [.c true t]) → denR l
  | [], _ => ()
  | [_], x => x.1
  | _ :: r' :: l, x => (x.1, initR t (r' :: l) x.2)
def SigOk (P : Program) (f : Nat) : Sig → Prop
  | .p args res F => ∀ x r, F x = some r → VC P f (encA args x) (args.map fun _ => .dead) (resV (encR res r))
  | .l t args res F => ∀ b x r, F b x = some r → VC P f (.obx (enc t b) :: encA args x) (.obx (enc t (lastR t res r)) :: args.map fun _ => .dead) (resV (encR res (initR t res r)))
structure GI where
  P : Program
  tt : List (Nat × TI)
  nt : Nat
  n : Nat
  bx : List (Nat × Nat × Nat)
  ls : List Nat
  cut : List Nat
  ali : List Nat
  env : List (Nat × Sig)
  ad : List Nat := []
/-- The function of Go's library that adds words with a carry. -/
def AddOk (P : Program) (f : Nat) : Prop := ∀ x y c : Int, 0 ≤ x → 0 ≤ y → 0 ≤ c → c ≤ 1 → ∀ w, (callFunc f #[.int .u64 x, .int .u64 y, .int .u64 c]).run P w = .ok (.value (.tuple #[.int .u64 ((x + y + c) % 18446744073709551616), .int .u64 ((x + y + c) / 18446744073709551616)])) w
structure Fit (G : GI) (C : Ctx) : Prop where
  nt : C.nt = G.nt
  le : G.nt ≤ G.n
  base : C.base = baseOf (G.bx.map (·.2))
  pin : ∀ d, G.ls.contains d = false → C.pin d = none
  tt : ∀ p, p ∈ G.tt → TIok G.P p.1 p.2
  env : ∀ p, p ∈ G.env → SigOk G.P p.1 p.2 ∧ goesTo G.P p.1
  ad : ∀ f, f ∈ G.ad → AddOk G.P f
def tiOf : List (Nat × TI) → Nat → Option TI
  | [], _ => none
  | p :: l, t => bsel (p.1.beq t) (some p.2) <| tiOf l t
theorem tiOf_mem {l : List (Nat × TI)} {t : Nat} {i : TI} (h : tiOf l t = some i) : (t, i) ∈ l := by
  induction l with
  | nil => simp [tiOf] at h
  | cons p l ih =>
    simp only [tiOf] at h
    cases hb : p.1.beq t with
    | true =>
      rw [hb] at h
      have := Nat.eq_of_beq_eq_true hb
      injection h with h
      subst this h
      exact List.mem_cons_self
    | false => rw [hb] at h; exact List.mem_cons_of_mem _ (ih h)
abbrev Rn (R : Type) := List Nat → ES → Option R
section
variable {G : GI} {C : Ctx} {T0 : St} {T : TS} {R : Type}
theorem Fit.slice (hF : Fit G C) {t e : Nat} {i : TI} (h : tiOf G.tt t = some i) (h2 : i.sl = some e) : G.P.underlying t = some (.slice e) := by
  have := (hF.tt _ (tiOf_mem h)).k
  unfold TI.sl at h2
  split at h2
  · rename_i e' he
    injection h2 with h2
    subst h2
    rw [he] at this
    exact this
  · cases h2
theorem Fit.ti (hF : Fit G C) {t : Nat} {i : TI} (h : tiOf G.tt t = some i) : TIok G.P t i := hF.tt _ (tiOf_mem h)
def Snd (G : GI) (C : Ctx) (T0 : St) (o : Oper) (f : Rn R → Option R) : Prop := ∀ K r, f K = some r → ∃ rd E, Exec G.P C o rd T0 (E.eff T0) ∧ EOk G.nt G.n T0 E ∧ K rd E = some r
def dOk (G : GI) (o : Oper) : Option Nat := match o.dst with
  | some d => bsel (d.blt G.nt && !G.ls.contains d) (some d) <| none
  | none => none
theorem dOk_of {o : Oper} {d : Nat} (hF : Fit G C) (hT : Tells G.nt G.n T0 T) (h : dOk G o = some d) : o.dst = some d ∧ d < C.nt ∧ d < T0.length ∧ C.pin d = none ∧ d < G.nt ∧ d < G.n := by
  unfold dOk at h
  split at h
  · rename_i d' hd
    cases hb : (d'.blt G.nt && !G.ls.contains d') with
    | true =>
      rw [hb] at h
      injection h with h
      subst h
      simp only [Bool.and_eq_true, Bool.not_eq_true'] at hb
      have h1 : d' < G.nt := Nat.le_of_ble_eq_true hb.1
      have h2 : d' < G.n := Nat.lt_of_lt_of_le h1 hF.le
      exact ⟨hd, by rw [hF.nt]; exact h1, by rw [hT.len]; exact h2, hF.pin _ hb.2, h1, h2⟩
    | false => rw [hb] at h; cases h
  · cases h
theorem EOk.one {d : Nat} {x : SV} {k : Bool} (h : d < G.n) (hr : x.root? = none) : EOk G.nt G.n T0 [(d, k, x)] := .inl fun e he => by simp at he; subst he; exact ⟨h, hr⟩
theorem EOk.two {d d' : Nat} {x x' : SV} {k k' : Bool} (h : d < G.n) (hr : x.root? = none) (h' : d' < G.n) (hr' : x'.root? = none) : EOk G.nt G.n T0 [(d, k, x), (d', k', x')] := .inl fun e he => by simp at he; rcases he with rfl | rfl <;> exact ⟨by assumption, by assumption⟩
theorem EOk.link {d r : Nat} {x : SV} {k : Bool} (h : d < G.nt) (h' : d < G.n) (hr : x.root? = some r) (hne : r ≠ d) (hc : contOk T0 x := by exact trivial) : EOk G.nt G.n T0 [(d, k, x)] := .inr ⟨_, r, rfl, h, h', hr, hne, hc⟩
/-- Operands. -/
def rdO : Operand → List Nat
  | .tmp t => [t]
  | _ => []
def opK (nt : Nat) (T : TS) : Operand → Option SV
  | .tmp t => bsel (t.blt nt) (look? T t) <| none
  | .const (.int k n) => some (.v (.i k) n)
  | .const (.bool b) => some (.kb b)
  | .const (.string s) => some (.v .s s)
  | .const (.pointer none) => some .np
  | _ => none
/-- The same; a bool is told as any other. -/
def opS (nt : Nat) (T : TS) (y : Operand) : Option SV := (opK nt T y).ob fun x => some x.nb
theorem lt_blt {a b : Nat} (h : a.blt b = true) : a < b := Nat.le_of_ble_eq_true h
theorem look_tmp {t : Nat} {x : SV} (h : (bsel (t.blt G.nt) (look? T t) <| none) = some x) : t < G.nt ∧ look? T t = some x := by
  cases hb : t.blt G.nt with
  | true => rw [hb] at h; exact ⟨lt_blt hb, h⟩
  | false => rw [hb] at h; cases h
theorem opK_opnd (hF : Fit G C) (hT : Tells G.nt G.n T0 T) {y : Operand} {x : SV} {v : Value} {rd : List Nat} (h : opK G.nt T y = some x) (hv : (x.toV g0).val = some v) (hrd : ∀ s, s ∈ rdO y → s ∈ rd) : opnd C T0 rd y v := by
  have hd : x.isDead = false := by cases x <;> first | rfl | (simp [SV.toV, SV.toV0, V.val] at hv; done)
  have hr : x.root? = none := by cases x <;> first | rfl | (simp [SV.toV, V.val] at hv; done) | (rename_i x; cases x <;> simp [SV.toV, DV.toV, V.val] at hv; done)
  cases y with
  | tmp t =>
    obtain ⟨h1, h2⟩ := look_tmp h
    exact ⟨hrd t (by simp [rdO]), by rw [hF.nt]; exact h1, by rw [hT.plain h2 hr hd]; exact hv⟩
  | const u =>
    show u = v
    unfold opK at h
    split at h <;> first | (rename_i heq; cases heq; done) | skip
    all_goals first
      | (rename_i heq; injection heq with heq; subst heq; injection h with h; subst h; simp only [SV.toV, SV.toV0, enc, V.val, Option.some.injEq] at hv; exact hv)
      | cases h
  | global => cases h
  | func => cases h
theorem opS_opnd (hF : Fit G C) (hT : Tells G.nt G.n T0 T) {y : Operand} {x : SV} {v : Value} {rd : List Nat} (h : opS G.nt T y = some x) (hv : (x.toV g0).val = some v) (hrd : ∀ s, s ∈ rdO y → s ∈ rd) : opnd C T0 rd y v := by
  obtain ⟨z, hz, h⟩ := of_ob h
  injection h with h
  subst h
  rw [nb_toV] at hv
  exact opK_opnd hF hT hz hv hrd
/-- By what a bool is; one that's known has no other way. -/
def brB (y : SV) (A B : Option R) : Option R := match y with
  | .kb b => bsel b A B
  | .v .b x => if x = true then A else B
  | _ => none
theorem brB_of {y : SV} {A B : Option R} {r : R} (h : brB y A B = some r) : ∃ b, y.toV0 = .sc (.bool b) ∧ (∀ g, y.toV g = y.toV0) ∧ y.root? = none ∧ y.isDead = false ∧ (b = true ∧ A = some r ∨ b = false ∧ B = some r) := by
  unfold brB at h
  split at h
  · rename_i b
    refine ⟨b, rfl, fun _ => rfl, rfl, rfl, ?_⟩
    cases b
    · exact .inr ⟨rfl, h⟩
    · exact .inl ⟨rfl, h⟩
  · rename_i x
    refine ⟨x, rfl, fun _ => rfl, rfl, rfl, ?_⟩
    split at h
    · rename_i hx; exact .inl ⟨hx, h⟩
    · rename_i hx; exact .inr ⟨Bool.eq_false_iff.2 hx, h⟩
  · cases h
def SV.not? : SV → Option SV
  | .kb b => some (.kb (!b))
  | .v .b x => some (.v .b (!x))
  | _ => none
theorem not?_of {y z : SV} (h : y.not? = some z) : ∃ b, y.toV0 = .sc (.bool b) ∧ (∀ g, y.toV g = y.toV0) ∧ z.toV0 = .sc (.bool (!b)) ∧ (∀ g, z.toV g = z.toV0) ∧ z.root? = none := by
  unfold SV.not? at h
  split at h <;> first | (injection h with h; subst h; exact ⟨_, rfl, fun _ => rfl, rfl, fun _ => rfl, rfl⟩) | cases h
def SV.int? : SV → Option (IntKind × Int)
  | .v (.i k) n => some (k, n)
  | _ => none
theorem int?_eq {x : SV} {p : IntKind × Int} (h : x.int? = some p) : x = .v (.i p.1) p.2 := by
  unfold SV.int? at h
  split at h
  · injection h with h; subst h; rfl
  · cases h
def SV.bool? : SV → Option Bool
  | .v .b n => some n
  | _ => none
theorem bool?_eq {x : SV} {p : Bool} (h : x.bool? = some p) : x = .v .b p := by
  unfold SV.bool? at h
  split at h
  · injection h with h; subst h; rfl
  · cases h
def SV.str? : SV → Option ByteArray
  | .v .s n => some n
  | _ => none
theorem str?_eq {x : SV} {p : ByteArray} (h : x.str? = some p) : x = .v .s p := by
  unfold SV.str? at h
  split at h
  · injection h with h; subst h; rfl
  · cases h
def wr : IntKind → Int → Int
  | .i64, n => wrap64 n
  | k, n => k.wrap n
theorem wr_eq (k : IntKind) (n : Int) : wr k n = k.wrap n := by
  cases k <;> first | rfl | exact (wr64 n).symm
/-- Numbers, bit by bit. -/
def bitI (k : IntKind) (f : BitVec k.bits → BitVec k.bits → BitVec k.bits) (m n : Int) : Int := k.wrap (f (BitVec.ofInt k.bits m) (BitVec.ofInt k.bits n)).toNat
def andI (k : IntKind) (m n : Int) : Int := bitI k (· &&& ·) m n
def orI (k : IntKind) (m n : Int) : Int := bitI k (· ||| ·) m n
def xorI (k : IntKind) (m n : Int) : Int := bitI k (· ^^^ ·) m n
def anI (k : IntKind) (m n : Int) : Int := bitI k (fun a b => a &&& ~~~b) m n
def shlI (k : IntKind) (m n : Int) : Int := wr k (m * 2 ^ min n.toNat k.bits)
def shrI (k : IntKind) (m n : Int) : Int := m.fdiv (2 ^ min n.toNat k.bits)
section
variable {P : Program} {xt : TypeId} {x y : Operand} {k yk : IntKind} {m n : Int}
theorem int_and (w : World) : (do eqGuard .and xt x y (.int k m) (.int k n); binOp .and xt (.int k m) (.int k n) : Sem Value).run P w = .ok (.int k (andI k m n)) w := by simp [eqGuard, binOp, Op.intBits, andI, bitI]
theorem int_or (w : World) : (do eqGuard .or xt x y (.int k m) (.int k n); binOp .or xt (.int k m) (.int k n) : Sem Value).run P w = .ok (.int k (orI k m n)) w := by simp [eqGuard, binOp, Op.intBits, orI, bitI]
theorem int_xor (w : World) : (do eqGuard .xor xt x y (.int k m) (.int k n); binOp .xor xt (.int k m) (.int k n) : Sem Value).run P w = .ok (.int k (xorI k m n)) w := by simp [eqGuard, binOp, Op.intBits, xorI, bitI]
theorem int_andNot (w : World) : (do eqGuard .andNot xt x y (.int k m) (.int k n); binOp .andNot xt (.int k m) (.int k n) : Sem Value).run P w = .ok (.int k (anI k m n)) w := by simp [eqGuard, binOp, Op.intBits, anI, bitI]
theorem int_shl (h : 0 ≤ n) (w : World) : (do eqGuard .shl xt x y (.int k m) (.int yk n); binOp .shl xt (.int k m) (.int yk n) : Sem Value).run P w = .ok (.int k (shlI k m n)) w := by
  simp [eqGuard, binOp, Op.shift, shlI, wr_eq, show ¬ n < 0 by omega]
theorem int_shr (h : 0 ≤ n) (w : World) : (do eqGuard .shr xt x y (.int k m) (.int yk n); binOp .shr xt (.int k m) (.int yk n) : Sem Value).run P w = .ok (.int k (shrI k m n)) w := by
  simp [eqGuard, binOp, Op.shift, shrI, show ¬ n < 0 by omega]
theorem conv_int {st dt : TypeId} {u : TypeDesc} (hs : P.underlying st = some u) (hd : P.underlying dt = some (.int k)) (w : World) : (convert st dt (.int yk n)).run P w = .ok (.int k (wr k n)) w := by
  unfold convert
  simp only [Sem.run_bind, run_underlying hs, run_underlying hd, Result.andThen_ok, wr_eq]
  rfl
end
theorem of_lit {z : Bool} {p : Prop} [Decidable p] {A : Option R} {r : R} (hz : z = true → p) (h : bsel z A (if p then A else none) = some r) : p ∧ A = some r := by
  cases z with
  | true => exact ⟨hz rfl, h⟩
  | false => exact of_guard h
/-- Sums of numbers, and how they compare. -/
def binI (k : IntKind) (op : BinOp) (m n : Int) (z : Bool) (K : SV → Option R) : Option R := match op with
  | .add => K (.v (.i k) (wr k (m + n)))
  | .sub => K (.v (.i k) (wr k (m - n)))
  | .mul => K (.v (.i k) (wr k (m * n)))
  | .quo => bsel z (K (.v (.i k) (wr k (m.tdiv n)))) <| if n ≠ 0 then K (.v (.i k) (wr k (m.tdiv n))) else none
  | .rem => bsel z (K (.v (.i k) (m.tmod n))) <| if n ≠ 0 then K (.v (.i k) (m.tmod n)) else none
  | .eql => K (.v .b (decide (m = n)))
  | .neq => K (.v .b (!decide (m = n)))
  | .lss => K (.v .b (decide (m < n)))
  | .leq => K (.v .b (decide (m ≤ n)))
  | .gtr => K (.v .b (decide (n < m)))
  | .geq => K (.v .b (decide (n ≤ m)))
  | .and => K (.v (.i k) (andI k m n))
  | .or => K (.v (.i k) (orI k m n))
  | .xor => K (.v (.i k) (xorI k m n))
  | .andNot => K (.v (.i k) (anI k m n))
  | _ => none
theorem binI_of {k : IntKind} {op : BinOp} {m n : Int} {z : Bool} {K : SV → Option R} {r : R} (hz : z = true → n ≠ 0) (h : binI k op m n z K = some r) : ∃ y v, K y = some r ∧ y.toV0 = .sc v ∧ y.root? = none ∧ (∀ g, y.toV g = y.toV0) ∧ ∀ (P : Program) (xt : TypeId) (x y : Operand) (w : World), (do eqGuard op xt x y (.int k m) (.int k n); binOp op xt (.int k m) (.int k n) : Sem Value).run P w = .ok v w := by
  unfold binI at h
  split at h
  · exact ⟨_, _, h, rfl, rfl, fun _ => rfl, fun P xt x y w => by rw [int_add, wr_eq]⟩
  · exact ⟨_, _, h, rfl, rfl, fun _ => rfl, fun P xt x y w => by rw [int_sub, wr_eq]⟩
  · exact ⟨_, _, h, rfl, rfl, fun _ => rfl, fun P xt x y w => by rw [int_mul, wr_eq]⟩
  · obtain ⟨h1, h⟩ := of_lit hz h
    exact ⟨_, _, h, rfl, rfl, fun _ => rfl, fun P xt x y w => by rw [int_quo h1, wr_eq]⟩
  · obtain ⟨h1, h⟩ := of_lit hz h
    exact ⟨_, _, h, rfl, rfl, fun _ => rfl, fun P xt x y w => by rw [int_rem h1]⟩
  · exact ⟨_, _, h, rfl, rfl, fun _ => rfl, fun P xt x y w => int_eql w⟩
  · exact ⟨_, _, h, rfl, rfl, fun _ => rfl, fun P xt x y w => int_neq w⟩
  · exact ⟨_, _, h, rfl, rfl, fun _ => rfl, fun P xt x y w => int_lss w⟩
  · exact ⟨_, _, h, rfl, rfl, fun _ => rfl, fun P xt x y w => int_leq w⟩
  · exact ⟨_, _, h, rfl, rfl, fun _ => rfl, fun P xt x y w => int_gtr w⟩
  · exact ⟨_, _, h, rfl, rfl, fun _ => rfl, fun P xt x y w => int_geq w⟩
  · exact ⟨_, _, h, rfl, rfl, fun _ => rfl, fun P xt x y w => int_and w⟩
  · exact ⟨_, _, h, rfl, rfl, fun _ => rfl, fun P xt x y w => int_or w⟩
  · exact ⟨_, _, h, rfl, rfl, fun _ => rfl, fun P xt x y w => int_xor w⟩
  · exact ⟨_, _, h, rfl, rfl, fun _ => rfl, fun P xt x y w => int_andNot w⟩
  · cases h
def kEq (a b : IntKind) : Bool := decide (a = b)
/-- A number that is written out, and isn't nothing; or isn't less. -/
def litNz : Operand → Bool
  | .const (.int _ n) => !decide (n = 0)
  | _ => false
def litPos : Operand → Bool
  | .const (.int _ n) => decide (0 ≤ n)
  | _ => false
/-- Structs of numbers and bools, compared cell by cell. -/
def eqC : (t t' : Ty) → t.den → t'.den → Option Bool
  | .i k, .i k', x, y => bsel (kEq k k') (some (decide (x = y))) <| none
  | .b, .b, x, y => some (decide (x = y))
  | .cons a r, .cons a' r', x, y => (eqC a a' x.1 y.1).ob fun p => (eqC r r' x.2 y.2).ob fun q => some (p && q)
  | _, _, _, _ => none
def stBin (G : GI) (o : Oper) (op : BinOp) (_ : TypeId) (x y : Operand) (T : TS) (K : Rn R) : Option R :=
  (dOk G o).ob fun d => (opS G.nt T x).ob fun a => (opS G.nt T y).ob fun b =>
  match a.int?, b.int? with
  | some p, some q => match op with
    | .shl => bsel (litPos y) (K (rdO x ++ rdO y) [(d, false, .v (.i p.1) (shlI p.1 p.2 q.2))]) <| if 0 ≤ q.2 then K (rdO x ++ rdO y) [(d, false, .v (.i p.1) (shlI p.1 p.2 q.2))] else none
    | .shr => bsel (litPos y) (K (rdO x ++ rdO y) [(d, false, .v (.i p.1) (shrI p.1 p.2 q.2))]) <| if 0 ≤ q.2 then K (rdO x ++ rdO y) [(d, false, .v (.i p.1) (shrI p.1 p.2 q.2))] else none
    | op => bsel (kEq p.1 q.1) (binI p.1 op p.2 q.2 (litNz y) fun z => K (rdO x ++ rdO y) [(d, false, z)]) <| none
  | _, _ => none
theorem litPos_of {y : Operand} {b : SV} {q : IntKind × Int} (h : litPos y = true) (hb : opS G.nt T y = some b) (hq : b.int? = some q) : 0 ≤ q.2 := by
  unfold litPos at h
  split at h
  · injection hb with hb
    subst hb
    injection hq with hq
    subst hq
    exact of_decide_eq_true h
  · cases h
theorem litNz_of {y : Operand} {b : SV} {q : IntKind × Int} (h : litNz y = true) (hb : opS G.nt T y = some b) (hq : b.int? = some q) : q.2 ≠ 0 := by
  unfold litNz at h
  split at h
  · injection hb with hb
    subst hb
    injection hq with hq
    subst hq
    simpa using h
  · cases h
theorem stBin_snd (hF : Fit G C) (hT : Tells G.nt G.n T0 T) {o : Oper} {op : BinOp} {xt yt : TypeId} {x y : Operand} (ho : o.op = .binOp op xt x y yt) : Snd (R := R) G C T0 o (stBin G o op xt x y T) := by
  intro K r h
  unfold stBin at h
  obtain ⟨d, hd, h⟩ := of_ob h
  obtain ⟨a, ha, h⟩ := of_ob h
  obtain ⟨b, hb, h⟩ := of_ob h
  obtain ⟨d1, d2, d3, d4, d5, d6⟩ := dOk_of hF hT hd
  split at h
  · rename_i p q hp hq
    have hb0 := hb
    rw [int?_eq hp] at ha
    rw [int?_eq hq] at hb
    have hx := opS_opnd (rd := rdO x ++ rdO y) hF hT ha (v := .int p.1 p.2) rfl fun s hs => List.mem_append_left _ hs
    have hy := opS_opnd (rd := rdO x ++ rdO y) hF hT hb (v := .int q.1 q.2) rfl fun s hs => List.mem_append_right _ hs
    split at h
    · obtain ⟨hk, h⟩ := of_lit (fun e => litPos_of e hb0 hq) h
      exact ⟨_, _, exec_bin (P := G.P) ho d1 d2 d3 d4 hx hy (int_shl hk), EOk.one d6 rfl, h⟩
    · obtain ⟨hk, h⟩ := of_lit (fun e => litPos_of e hb0 hq) h
      exact ⟨_, _, exec_bin (P := G.P) ho d1 d2 d3 d4 hx hy (int_shr hk), EOk.one d6 rfl, h⟩
    · obtain ⟨hk, h⟩ : p.1 = q.1 ∧ binI p.1 op p.2 q.2 (litNz y) (fun z => K (rdO x ++ rdO y) [(d, false, z)]) = some r := by
        cases hb : kEq p.1 q.1 with
        | true => rw [hb] at h; exact ⟨of_decide_eq_true hb, h⟩
        | false => rw [hb] at h; cases h
      obtain ⟨z, v, hKz, hz, hzr, hzg, hrun⟩ := binI_of (fun e => litNz_of e hb0 hq) h
      refine ⟨_, _, ?_, EOk.one d6 hzr, hKz⟩
      have := exec_bin (P := G.P) ho d1 d2 d3 d4 hx hy (v := v) (fun w => by rw [← hk]; exact hrun _ _ _ _ w)
      simp only [ES.eff, List.map_cons, List.map_nil, hzg, hz]
      exact this
  · cases h
end
end Go.Proofs.Ytepeoiimdefnpaa.Vm
namespace Go.Proofs.Ytepeoiimdefnpaa.Vm
open Go
open Go.RowKit (wrap64)
section
variable {G : GI} {C : Ctx} {T0 : St} {T : TS} {R : Type}
def SV.free : SV → Bool
  | .v t _ => t.free
  | .agg t _ => t.free
  | .tup l => go l
  | .np => true
  | .un => true
  | .opt _ _ => true
  | .optb _ _ => true
  | .kb _ => true
  | _ => false
where
  go : List SV → Bool
    | [] => true
    | x :: l => SV.free x && go l
theorem enc_all_free {t : Ty} {x : t.den} (h : t.free = true) : ∀ c, c ∈ enc t x → c.free = true := fun c hc => V.free_go (enc_free t x h) c hc
theorem free_go_of {l : List V} (h : ∀ c, c ∈ l → c.free = true) : V.free.go l = true := by
  induction l with
  | nil => rfl
  | cons c l ih => simp only [V.free.go, Bool.and_eq_true]; exact ⟨h c List.mem_cons_self, ih fun c hc => h c (List.mem_cons_of_mem _ hc)⟩
theorem toV0_v_free {t : Ty} {x : t.den} (h : t.free = true) : (SV.v t x).toV0.free = true := by
  show (match enc t x with | [c] => c | cs => V.agg cs).free = true
  split
  · rename_i c hc; exact enc_all_free h c (by rw [hc]; simp)
  · exact enc_free t x h
mutual
theorem toV0_free : ∀ (x : SV), x.free = true → x.toV0.free = true
  | .v t x, h => toV0_v_free h
  | .agg t x, h => enc_free t x h
  | .tup l, h => toV0_free_go l h
  | .np, _ => rfl
  | .un, _ => rfl
  | .kb _, _ => rfl
  | .opt _ none, _ => rfl
  | .opt _ (some _), _ => rfl
  | .optb _ none, _ => rfl
  | .optb _ (some _), _ => rfl
  | .at_ _, h | .refv _ _ _ _ _, h | .dp _ _, h | .al _, h | .ref _ _ _ _, h | .vw _ _ _ _, h | .obx _ _, h | .iter _ _, h | .u0, h | .dead, h => by simp [SV.free] at h
theorem toV0_free_go : ∀ (l : List SV), SV.free.go l = true → V.free.go (SV.toV0.go l) = true
  | [], _ => rfl
  | x :: l, h => by
    simp only [SV.free.go, Bool.and_eq_true] at h
    simp only [SV.toV0.go, V.free.go, Bool.and_eq_true]
    exact ⟨toV0_free x h.1, toV0_free_go l h.2⟩
end
theorem toV_root {x : SV} (h : x.root? = none) (g : Nat → Nat) : x.toV g = x.toV0 := by
  cases x <;> first | rfl | (simp [SV.root?] at h; done)
theorem free_root {x : SV} (h : x.free = true) : x.root? = none ∧ x.isDead = false := by
  cases x <;> first | exact ⟨rfl, rfl⟩ | (simp [SV.free] at h; done)
/-- A slot of the frame, as it is told. -/
theorem Tells.slot (hT : Tells G.nt G.n T0 T) {s : Nat} {x : SV} (hx : look? T s = some x) (hr : x.root? = none) (hd : x.isDead = false) : T0.at s = x.toV0 := by
  rw [hT.plain hx hr hd, toV_root hr]
/-- A row of one's own: the slot that has it. -/
structure RI where
  r : Nat
  E : Nat
  c : Ty
  xs : List c.den
def rootOf (nt : Nat) (T : TS) (s : Nat) : Option RI := bsel (s.blt nt) (match look? T s with
  | some (.v (.own E c) xs) => some ⟨s, E, c, xs⟩
  | some (.al r) => match look? T r with
    | some (.v (.own E c) xs) => some ⟨r, E, c, xs⟩
    | _ => none
  | _ => none) <| none
theorem own_toV0 {E : Nat} {c : Ty} {xs : List c.den} : (SV.v (.own E c) xs).toV0 = .own E c.n (xs.map (enc c)) := rfl
theorem rootOf_of (hF : Fit G C) (hT : Tells G.nt G.n T0 T) {s : Nat} {w : RI} {rd : List Nat} (h : rootOf G.nt T s = some w) (h1 : s ∈ rd) (h2 : w.r ∈ rd) : Own1 C T0 rd s w.r w.E w.c.n (w.xs.map (enc w.c)) ∧ w.r < T0.length ∧ look? T w.r = some (.v (.own w.E w.c) w.xs) ∧ s < G.nt := by
  unfold rootOf at h
  cases hb : s.blt G.nt with
  | false => rw [hb] at h; cases h
  | true =>
    have hs := lt_blt hb
    rw [hb] at h
    replace h := bsel_t h
    split at h
    · rename_i E c xs hx
      injection h with h
      subst h
      exact ⟨⟨by rw [hF.nt]; exact hs, h1, h2, hT.slot hx rfl rfl, .inl rfl⟩, by rw [hT.len]; exact hT.lt hx, hx, hs⟩
    · rename_i r hx
      split at h
      · rename_i E c xs hy
        injection h with h
        subst h
        exact ⟨⟨by rw [hF.nt]; exact hs, h1, h2, hT.slot hy rfl rfl, .inr (hT.al hx)⟩, by rw [hT.len]; exact hT.lt hy, hy, hs⟩
      · cases h
    · cases h
/-- Literals. -/
def litC : Value → Option SV
  | .int k n => some (.v (.i k) n)
  | .bool b => some (.v .b b)
  | .string s => some (.v .s s)
  | .pointer none => some .np
  | _ => none
/-- Cells, side by side, as one value. -/
structure TV where
  t : Ty
  x : t.den
def packT : List SV → Option TV
  | [] => none
  | [.v t x] => bsel t.leaf (some ⟨t, x⟩) <| none
  | .v t x :: l => bsel t.leaf ((packT l).ob fun y => some ⟨.cons t y.t, (x, y.x)⟩) <| none
  | _ => none
theorem packT_of : ∀ {l : List SV} {y : TV}, packT l = some y → enc y.t y.x = l.map SV.toV0 ∧ l ≠ [] ∧ ∀ x, x ∈ l → x.root? = none ∧ x.isDead = false
  | [], y, h => by cases h
  | [.v t x], y, h => by
    simp only [packT] at h
    cases hl : t.leaf with
    | false => rw [hl] at h; cases h
    | true =>
      rw [hl] at h
      injection h with h
      subst h
      obtain ⟨c, hc⟩ := enc_leaf hl x
      refine ⟨?_, by simp, fun z hz => by simp at hz; subst hz; exact ⟨rfl, rfl⟩⟩
      have hc' : enc (TV.mk t x).t (TV.mk t x).x = [c] := hc
      rw [hc']
      show [c] = [match enc t x with | [c] => c | cs => V.agg cs]
      rw [hc]
  | .v t x :: z :: l, y, h => by
    simp only [packT] at h
    cases hl : t.leaf with
    | false => rw [hl] at h; cases h
    | true =>
      rw [hl] at h
      obtain ⟨y', hy, h⟩ := of_ob h
      injection h with h
      subst h
      obtain ⟨h1, _, h3⟩ := packT_of hy
      obtain ⟨c, hc⟩ := enc_leaf hl x
      refine ⟨?_, by simp, fun z' hz => ?_⟩
      · show enc t x ++ enc y'.t y'.x = _
        rw [h1, hc]
        show c :: _ = (match enc t x with | [c] => c | cs => V.agg cs) :: _
        rw [hc]
        rfl
      · rcases List.mem_cons.1 hz with rfl | hz
        · exact ⟨rfl, rfl⟩
        · exact h3 z' hz
  | .agg _ _ :: _, y, h | .tup _ :: _, y, h | .at_ _ :: _, y, h | .al _ :: _, y, h | .ref _ _ _ _ :: _, y, h | .vw _ _ _ _ :: _, y, h | .obx _ _ :: _, y, h | .iter _ _ :: _, y, h | .np :: _, y, h | .un :: _, y, h | .kb _ :: _, y, h | .refv _ _ _ _ _ :: _, y, h | .dp _ _ :: _, y, h | .optb _ _ :: _, y, h | .dead :: _, y, h => by simp [packT] at h
def litCs : List Value → Option (List SV)
  | [] => some []
  | v :: l => (litC v).ob fun x => (litCs l).ob fun y => some (x :: y)
theorem litC_of {v : Value} {x : SV} (h : litC v = some x) : x.toV0 = .sc v ∧ v.oneCell' = true ∧ x.root? = none := by
  unfold litC at h
  split at h <;> first
    | (injection h with h; subst h; exact ⟨rfl, rfl, rfl⟩)
    | cases h
theorem litCs_of {vs : List Value} {xs : List SV} (h : litCs vs = some xs) : lits vs (xs.map SV.toV0) := by
  induction vs generalizing xs with
  | nil => injection h with h; subst h; trivial
  | cons v vs ih =>
    obtain ⟨x, h1, h⟩ := of_ob h
    obtain ⟨y, h2, h⟩ := of_ob h
    injection h with h
    subst h
    obtain ⟨e1, e2, _⟩ := litC_of h1
    exact ⟨by rw [e1]; rfl, e2, ih h2⟩
def litS (G : GI) (ty : TypeId) : Value → Option SV
  | .slice none 0 0 => (tiOf G.tt ty).ob fun i => i.sl.ob fun e => (tiOf G.tt e).ob fun j => some (.v (.own e j.c) [])
  | .agg vs => (litCs vs.toList).ob fun l => (packT l).ob fun y => some (.agg y.t y.x)
  | .bool b => some (.kb b)
  | v => litC v
theorem exec_lit_agg {P : Program} {o : Oper} {rd : List Nat} {d : Nat} (vs : Array Value) (cs : List V) (hop : o.op = .move (.const (.agg vs)) ∨ o.op = .assign (.const (.agg vs))) (hd : o.dst = some d) (hdn : d < C.nt) (hdl : d < T0.length) (hdp : C.pin d = none) (hl : lits vs.toList cs) : Exec P C o rd T0 [(d, false, .agg cs)] :=
  exec_free _ hd hdn hdl hdp fun T' a w S F loc _ _ => by
    refine ⟨.agg vs, by rcases hop with h | h <;> (obtain ⟨_, op, _, _, _, _⟩ := o; simp only at h; subst h; rfl), ?_⟩
    obtain ⟨h1, h2⟩ := hl.get
    exact .agg _ _ vs cs (fun _ => Foot.none) (by simpa using h1) (Split.none _) (fun i u c hu hc => (h2 i u c (by simpa using hu) hc).2) fun i u c hu hc => (h2 i u c (by simpa using hu) hc).1.hold w S C.B _
theorem litS_exec (_ : Fit G C) {o : Oper} {d : Nat} {v : Value} {x : SV} {ty : TypeId} (h : litS G ty v = some x) (hop : o.op = .move (.const v) ∨ o.op = .assign (.const v)) (hd : o.dst = some d) (hdn : d < C.nt) (hdl : d < T0.length) (hdp : C.pin d = none) : Exec G.P C o [] T0 [(d, false, x.toV0)] ∧ x.root? = none := by
  unfold litS at h
  split at h
  · obtain ⟨i, h1, h⟩ := of_ob h
    obtain ⟨e, h2, h⟩ := of_ob h
    obtain ⟨j, h3, h⟩ := of_ob h
    injection h with h
    subst h
    exact ⟨exec_lit _ _ hop hd hdn hdl hdp (Ty.n_pos _), rfl⟩
  · obtain ⟨l, h1, h⟩ := of_ob h
    obtain ⟨y, h2, h⟩ := of_ob h
    injection h with h
    subst h
    refine ⟨?_, rfl⟩
    have := exec_lit_agg (P := G.P) (rd := []) _ _ hop hd hdn hdl hdp (litCs_of h1)
    rw [← (packT_of h2).1] at this
    exact this
  · injection h with h
    subst h
    exact ⟨exec_lit _ _ hop hd hdn hdl hdp rfl, rfl⟩
  · obtain ⟨e1, e2, e3⟩ := litC_of h
    refine ⟨exec_lit _ _ hop hd hdn hdl hdp ?_, e3⟩
    rw [e1]
    rfl
/-- A copy (asg: a handle goes over). -/
def stMove (G : GI) (o : Oper) (asg tk : Bool) (x : Operand) (T : TS) (K : Rn R) : Option R := (dOk G o).ob fun d => match x with
  | .const v => (litS G o.type v).ob fun y => K [] [(d, false, y)]
  | .tmp s => bsel (s.blt G.nt) (match look? T s with
    | some (.v (.own E c) xs) => bsel asg (K [s] [(s, false, .dead), (d, false, .v (.own E c) xs)]) <| bsel (s.beq d) none <| K [s] [(d, false, .al s)]
    | some (.al r) => match look? T r with
      | some (.v (.own E c) xs) => bsel (asg && (r.blt G.nt || tk)) (K [s, r] [(r, false, .dead), (d, false, .v (.own E c) xs)]) <| bsel (r.beq d) none <| K [s, r] [(d, false, .al r)]
      | _ => none
    | some (.at_ k) => K [s] [(d, false, .at_ k)]
    | some (.ref r sz i o) => bsel (r.beq d) none <| K [s, r] [(d, false, .ref r sz i o)]
    | some (.vw r sz i o) => bsel (r.beq d) none <| K [s, r] [(d, false, .vw r sz i o)]
    | some .dead => none
    | some (.atv _ _ _) => none
    | some (.refv _ _ _ _ _) => none
    | some (.dp r (.alp pa E c xs)) => bsel (r.beq d) none <| K [s, r] [(d, false, .dp r (.alp pa E c xs))]
    | some (.dp _ _) => none
    | some y => bsel y.free (K [s] [(d, false, y)]) <| bsel (s.beq d) none <| K [s] [(s, false, .dead), (d, false, y)]
    | none => none) <| none
  | _ => none
theorem ne_beq {a b : Nat} (h : a.beq b = false) : a ≠ b := fun e => by rw [e, Nat.beq_refl] at h; cases h
theorem of_bif {b : Bool} {x y : Option R} {r : R} (h : (bsel b x <| y) = some r) : b = true ∧ x = some r ∨ b = false ∧ y = some r := by
  cases b
  · exact .inr ⟨rfl, h⟩
  · exact .inl ⟨rfl, h⟩
theorem stMove_snd (hF : Fit G C) (hT : Tells G.nt G.n T0 T) {o : Oper} {asg tk : Bool} {x : Operand} (hop : o.op = .move x ∨ o.op = .assign x) : Snd (R := R) G C T0 o (stMove G o asg tk x T) := by
  intro K r h
  unfold stMove at h
  obtain ⟨d, hd, h⟩ := of_ob h
  obtain ⟨d1, d2, d3, d4, d5, d6⟩ := dOk_of hF hT hd
  cases x with
  | const v =>
    obtain ⟨y, hy, h⟩ := of_ob h
    obtain ⟨e1, e2⟩ := litS_exec (T0 := T0) hF hy hop d1 d2 d3 d4
    refine ⟨_, _, ?_, EOk.one d6 e2, h⟩
    simp only [ES.eff, List.map_cons, List.map_nil, toV_root e2]
    exact e1
  | global => cases h
  | func => cases h
  | tmp s =>
    rcases of_bif h with ⟨hb, h⟩ | ⟨_, h⟩
    · have hs := lt_blt hb
      have hs' : s < C.nt := by rw [hF.nt]; exact hs
      split at h
      · rename_i E c xs hx
        have hsl : s < G.n := hT.lt hx
        rcases of_bif h with ⟨ha, h⟩ | ⟨_, h⟩
        · refine ⟨_, _, ?_, EOk.two hsl rfl d6 rfl, h⟩
          exact exec_take s s E c.n (xs.map (enc c)) hop d1 d2 d3 d4 (by rw [hT.len]; exact hsl) ⟨hs', by simp, by simp, hT.slot hx rfl rfl, .inl rfl⟩
        · rcases of_bif h with ⟨_, h⟩ | ⟨hne, h⟩
          · cases h
          · refine ⟨_, _, ?_, EOk.link d5 d6 rfl (ne_beq hne), h⟩
            exact exec_alias s s E c.n (xs.map (enc c)) hop d1 d2 d3 d4 (ne_beq hne) ⟨hs', by simp, by simp, hT.slot hx rfl rfl, .inl rfl⟩
      · rename_i r hx
        split at h
        · rename_i E c xs hy
          have hrl : r < G.n := hT.lt hy
          rcases of_bif h with ⟨ha, h⟩ | ⟨_, h⟩
          · refine ⟨_, _, ?_, EOk.two hrl rfl d6 rfl, h⟩
            exact exec_take s r E c.n (xs.map (enc c)) hop d1 d2 d3 d4 (by rw [hT.len]; exact hrl) ⟨hs', by simp, by simp, hT.slot hy rfl rfl, .inr (hT.al hx)⟩
          · rcases of_bif h with ⟨_, h⟩ | ⟨hne, h⟩
            · cases h
            · refine ⟨_, _, ?_, EOk.link d5 d6 rfl (ne_beq hne), h⟩
              exact exec_alias s r E c.n (xs.map (enc c)) hop d1 d2 d3 d4 (ne_beq hne) ⟨hs', by simp, by simp, hT.slot hy rfl rfl, .inr (hT.al hx)⟩
        · cases h
      · rename_i k hx
        refine ⟨_, _, ?_, EOk.one d6 rfl, h⟩
        exact exec_ptr s k (hop.imp id .inl) d1 d2 d3 d4 (by simp) hs' (hT.slot hx rfl rfl)
      · rename_i r sz i o' hx
        rcases of_bif h with ⟨_, h⟩ | ⟨hne, h⟩
        · cases h
        · refine ⟨_, _, ?_, EOk.link d5 d6 rfl (ne_beq hne), h⟩
          exact exec_relink s r _ (hop.imp id .inl) (fun _ => ⟨_, _, _, rfl⟩) d1 d2 d3 d4 (by simp) (by simp) hs' (hT.ref hx) rfl (ne_beq hne)
      · rename_i r sz i o' hx
        rcases of_bif h with ⟨_, h⟩ | ⟨hne, h⟩
        · cases h
        · refine ⟨_, _, ?_, EOk.link d5 d6 rfl (ne_beq hne), h⟩
          exact exec_relink s r _ (hop.imp id .inl) (fun e => by rcases hop with h | h <;> rw [h] at e <;> cases e) d1 d2 d3 d4 (by simp) (by simp) hs' (hT.vw hx) rfl (ne_beq hne)
      · cases h
      · cases h
      · cases h
      · rename_i r pa E c xs hx
        rcases of_bif h with ⟨_, h⟩ | ⟨hne, h⟩
        · cases h
        · obtain ⟨hx1, hx2⟩ := hT.alp hx
          refine ⟨_, _, ?_, EOk.link (x := .dp r (.alp pa E c xs)) d5 d6 rfl (ne_beq hne) hx2, h⟩
          exact exec_redeep s r _ hop d1 d2 d3 d4 (by simp) (by simp) hs' hx1 rfl rfl (ne_beq hne)
      · cases h
      · rename_i y q1 q2 q3 q4 q5 q6 q7 q8 q9 q10 hx
        have hroot : y.root? = none ∧ y.isDead = false ∧ (∀ k, y ≠ .at_ k) := by
          cases y with
          | al r => exact (q2 r rfl).elim
          | at_ k => exact (q3 k rfl).elim
          | ref a b c e => exact (q4 _ _ _ _ rfl).elim
          | vw a b c e => exact (q5 _ _ _ _ rfl).elim
          | dead => exact (q6 rfl).elim
          | refv a b c e f => exact (q8 _ _ _ _ _ rfl).elim
          | dp a b => exact (q10 _ _ rfl).elim
          | _ => exact ⟨rfl, rfl, fun _ e => by cases e⟩
        rcases of_bif h with ⟨hf, h⟩ | ⟨_, h⟩
        · obtain ⟨f1, f2⟩ := free_root hf
          refine ⟨_, _, ?_, EOk.one d6 f1, h⟩
          simp only [ES.eff, List.map_cons, List.map_nil, toV_root f1]
          exact exec_copy s _ hop d1 d2 d3 d4 (by simp) hs' (hT.slot hx f1 f2) (toV0_free y hf)
        · rcases of_bif h with ⟨_, h⟩ | ⟨hne, h⟩
          · cases h
          · refine ⟨_, _, ?_, EOk.two (hT.lt hx) rfl d6 hroot.1, h⟩
            simp only [ES.eff, List.map_cons, List.map_nil, toV_root hroot.1]
            have hp := toV_plain g0 y
            rw [toV_root hroot.1] at hp
            refine exec_take_val s _ hop d1 d2 d3 d4 (by simp) hs' (by rw [hT.len]; exact hT.lt hx) (hT.slot hx hroot.1 hroot.2.1) hp.1 (fun k e => ?_) (hp.2.resolve_right fun ⟨r, e, _⟩ => by rw [hroot.1] at e; cases e)
            cases y with
            | v t x =>
              revert e
              show (match enc t x with | [c] => c | cs => V.agg cs) = .at_ k → False
              split
              · rename_i c hc; exact (enc_plain t x c (by rw [hc]; simp)).2.2.1 k
              · intro e; cases e
            | at_ k' => exact hroot.2.2 k' rfl
            | atv a b c => exact q7 _ _ _ rfl
            | opt t x => cases x <;> simp [SV.toV0] at e
            | optb t x => cases x <;> simp [SV.toV0] at e
            | dp a b => cases hroot.1
            | _ => simp [SV.toV0] at e
      · cases h
    · cases h
end
end Go.Proofs.Ytepeoiimdefnpaa.Vm
namespace Go.Proofs.Ytepeoiimdefnpaa.Vm
open Go
open Go.RowKit (wrap64)
section
variable {G : GI} {C : Ctx} {T0 : St} {T : TS} {R : Type}
theorem toList_one {α : Type} {a : Array α} {x : α} (h : a.toList = [x]) : a = #[x] := by cases a; simp_all
theorem toList_three {α : Type} {a : Array α} {x y z : α} (h : a.toList = [x, y, z]) : a = #[x, y, z] := by cases a; simp_all
theorem toList_two {α : Type} {a : Array α} {x y : α} (h : a.toList = [x, y]) : a = #[x, y] := by cases a; simp_all
theorem Fit.size (hF : Fit G C) {t : Nat} {i : TI} (h : tiOf G.tt t = some i) : (G.P.info? t).map (·.size) = some i.sz := by
  have := (hF.ti h).info
  obtain ⟨j, h1, h2⟩ := Option.map_eq_some_iff.1 this
  rw [h1]
  simp only [Prod.mk.injEq] at h2
  simp [h2.2.1]
theorem Fit.elem (hF : Fit G C) {t : Nat} {i : TI} (h : tiOf G.tt t = some i) : elemT G.P t i.z i.sz i.by_ := ⟨(hF.ti h).info, (hF.ti h).z, by rw [(hF.ti h).pos]; trivial⟩
def slotO (nt : Nat) (T : TS) : Operand → Option (Nat × SV)
  | .tmp s => bsel (s.blt nt) ((look? T s).ob fun y => some (s, y)) <| none
  | _ => none
theorem slotO_of {x : Operand} {p : Nat × SV} (h : slotO G.nt T x = some p) : x = .tmp p.1 ∧ p.1 < G.nt ∧ look? T p.1 = some p.2 := by
  cases x with
  | tmp s =>
    replace h := of_bif h
    rcases h with ⟨hb, h⟩ | ⟨_, h⟩
    · replace h := of_ob h
      obtain ⟨y, hy, h⟩ := h
      injection h with h
      subst h
      exact ⟨rfl, lt_blt hb, hy⟩
    · cases h
  | const => cases h
  | global => cases h
  | func => cases h
/-- A row that can be read. -/
structure RW where
  rd : List Nat
  c : Ty
  xs : List c.den
def rowyK (T : TS) (s : Nat) (y : SV) (K : RW → Option R) : Option R := match y with
  | .v (.row _ c) xs => K ⟨[s], c, xs⟩
  | .v (.own _ c) xs => K ⟨[s], c, xs⟩
  | .al r => match look? T r with
    | some (.v (.own _ c) xs) => K ⟨[s, r], c, xs⟩
    | _ => none
  | .vw r sz lo m => match look? T r with
    | some (.v (.own _ c) xs) => bsel (sz.beq c.n) ((if lo + m ≤ xs.length then K ⟨[s, r], c, (xs.drop lo).take m⟩ else none)) <| none
    | _ => none
  | _ => none
theorem rowyK_of (hF : Fit G C) (hT : Tells G.nt G.n T0 T) {s : Nat} {y : SV} {K : RW → Option R} {r : R} (h : rowyK T s y K = some r) (hs : s < G.nt) (hy : look? T s = some y) : ∃ w, K w = some r ∧ ∀ rd, (∀ t, t ∈ w.rd → t ∈ rd) → Rowy C T0 rd s w.c.n (w.xs.map (enc w.c)) := by
  have hs' : s < C.nt := by rw [hF.nt]; exact hs
  unfold rowyK at h
  split at h
  · exact ⟨_, h, fun rd hrd => ⟨hs', hrd s (by simp), .inl ⟨_, hT.slot hy rfl rfl⟩⟩⟩
  · exact ⟨_, h, fun rd hrd => ⟨hs', hrd s (by simp), .inr (.inl ⟨s, _, hs', hrd s (by simp), hrd s (by simp), hT.slot hy rfl rfl, .inl rfl⟩)⟩⟩
  · split at h
    · rename_i hr
      exact ⟨_, h, fun rd hrd => ⟨hs', hrd s (by simp), .inr (.inl ⟨_, _, hs', hrd s (by simp), hrd _ (by simp), hT.slot hr rfl rfl, .inr (hT.al hy)⟩)⟩⟩
    · cases h
  · split at h
    · rename_i hr
      replace h := of_bif h
      rcases h with ⟨hb, h⟩ | ⟨_, h⟩
      · replace h := of_guard h
        obtain ⟨hl, h⟩ := h
        have hsz := Nat.eq_of_beq_eq_true hb
        refine ⟨_, h, fun rd hrd => ⟨hs', hrd s (by simp), .inr (.inr ⟨_, _, _, _, _, hrd _ (by simp), hT.slot hr rfl rfl, by rw [← hsz]; exact hT.vw hy, ?_, ?_⟩)⟩⟩
        · simp [List.map_drop, List.map_take]
        · simp; omega
      · cases h
    · cases h
  · cases h
/-- len. -/
def stLen (G : GI) (o : Oper) (t : TypeId) (x : Operand) (T : TS) (K : Rn R) : Option R := (dOk G o).ob fun d => (tiOf G.tt t).ob fun i => (slotO G.nt T x).ob fun p => match i.k with
  | .str => p.2.str?.ob fun b => K [p.1] [(d, false, .v (.i .i64) (b.size : Int))]
  | .sl _ => match p.2 with
    | .dp r (.alp _ _ _ xs) => K [p.1, r] [(d, false, .v (.i .i64) (xs.length : Int))]
    | y => rowyK T p.1 y fun w => K w.rd [(d, false, .v (.i .i64) (w.xs.length : Int))]
  | _ => none
theorem exec_len_str {o : Oper} {d t s : Nat} {x : ByteArray} {rd : List Nat} (hop : o.op = .call { callee := .builtin .len, args := #[.tmp s], argTypes := #[t] }) (hd : o.dst = some d) (hdn : d < C.nt) (hdl : d < T0.length) (hdp : C.pin d = none) (ht : G.P.underlying t = some .string) (hx : opnd C T0 rd (.tmp s) (.string x)) : Exec G.P C o rd T0 [(d, false, .sc (.int .i64 (x.size : Int)))] :=
  exec_free _ hd hdn hdl hdp fun T' a w S F loc hs hsim => ⟨_, by
    have h1 := opnd_eval hx hs hsim
    simp [execOp, hop, resolve, invoke, builtin, Builtin.len_, run_underlying ht, h1, goInt], .sc ..⟩
theorem stLen_snd (hF : Fit G C) (hT : Tells G.nt G.n T0 T) {o : Oper} {t : TypeId} {x : Operand} (ho : o.op = .call { callee := .builtin .len, args := #[x], argTypes := #[t] }) : Snd (R := R) G C T0 o (stLen G o t x T) := by
  intro K r h
  unfold stLen at h
  replace h := of_ob h
  obtain ⟨d, hd, h⟩ := h
  obtain ⟨d1, d2, d3, d4, d5, d6⟩ := dOk_of hF hT hd
  replace h := of_ob h
  obtain ⟨i, hi, h⟩ := h
  replace h := of_ob h
  obtain ⟨⟨s, y⟩, hp, h⟩ := h
  obtain ⟨rfl, hs, hy⟩ := slotO_of hp
  split at h
  · rename_i hk
    have ht : G.P.underlying t = some .string := by have := (hF.ti hi).k; rw [hk] at this; exact this
    replace h := of_ob h
    obtain ⟨b, hb', h⟩ := h
    have e := str?_eq hb'
    simp only at e
    subst e
    refine ⟨_, _, ?_, EOk.one d6 rfl, h⟩
    exact exec_len_str ho d1 d2 d3 d4 ht ⟨by simp, by rw [hF.nt]; exact hs, by rw [hT.slot hy rfl rfl]; rfl⟩
  · rename_i e hk
    have ht : G.P.underlying t = some (.slice e) := hF.slice hi (by unfold TI.sl; rw [hk])
    split at h
    · rename_i r' pa E c xs hxy
      simp only at hxy
      subst hxy
      obtain ⟨hx1, hx2⟩ := hT.alp hy
      refine ⟨_, _, ?_, EOk.one d6 rfl, h⟩
      have := exec_len_alp (P := G.P) (C := C) (T := T0) (rd := [s, r']) s r' t e E c.n pa _ ho d1 d2 d3 d4 ht (by rw [hF.nt]; exact hs) (by simp) (by simp) hx1 (getp_root hx2 rfl) hx2
      rw [row_len] at this
      exact this
    · replace h := rowyK_of hF hT h hs hy
      obtain ⟨w, h, hw⟩ := h
      refine ⟨_, _, ?_, EOk.one d6 rfl, h⟩
      have := exec_len s w.c.n t _ ho d1 d2 d3 d4 e ht (hw w.rd fun _ h => h)
      rw [row_len] at this
      exact this
  · cases h
/-- Of a struct's cells those from one on. -/
def dropT : Nat → TV → Option TV
  | 0, y => some y
  | n + 1, ⟨.cons a r, x⟩ => bsel a.leaf (dropT n ⟨r, x.2⟩) <| none
  | _ + 1, _ => none
theorem dropT_of : ∀ {n : Nat} {y z : TV}, dropT n y = some z → enc z.t z.x = (enc y.t y.x).drop n
  | 0, y, z, h => by injection h with h; subst h; rfl
  | n + 1, ⟨.cons a r, x⟩, z, h => by
    replace h := of_bif h
    rcases h with ⟨hl, h⟩ | ⟨_, h⟩
    · rw [dropT_of h]
      obtain ⟨c, hc⟩ := enc_leaf hl x.1
      show (enc r x.2).drop n = (enc a x.1 ++ enc r x.2).drop (n + 1)
      rw [hc]; rfl
    · cases h
  | n + 1, ⟨.i _, x⟩, z, h | n + 1, ⟨.b, x⟩, z, h | n + 1, ⟨.s, x⟩, z, h | n + 1, ⟨.row _ _, x⟩, z, h | n + 1, ⟨.own _ _, x⟩, z, h | n + 1, ⟨.ptr _ _, x⟩, z, h => by cases h
/-- The first n + 1 of them. -/
def takeT : Nat → TV → Option TV
  | 0, ⟨.cons a _, x⟩ => bsel a.leaf (some ⟨a, x.1⟩) <| none
  | 0, y => some y
  | n + 1, ⟨.cons a r, x⟩ => bsel a.leaf ((takeT n ⟨r, x.2⟩).ob fun y => some ⟨.cons a y.t, (x.1, y.x)⟩) <| none
  | _ + 1, _ => none
theorem takeT_of : ∀ {n : Nat} {y z : TV}, takeT n y = some z → enc z.t z.x = (enc y.t y.x).take (n + 1) ∧ z.t.n = n + 1
  | 0, ⟨.cons a r, x⟩, z, h => by
    replace h := of_bif h
    rcases h with ⟨hl, h⟩ | ⟨_, h⟩
    · injection h with h
      subst h
      obtain ⟨c, hc⟩ := enc_leaf hl x.1
      refine ⟨?_, by have := enc_length a x.1; rw [hc] at this; exact this.symm⟩
      show enc a x.1 = (enc a x.1 ++ enc r x.2).take 1
      rw [hc]; rfl
    · cases h
  | 0, ⟨.i _, x⟩, z, h | 0, ⟨.b, x⟩, z, h | 0, ⟨.s, x⟩, z, h | 0, ⟨.row _ _, x⟩, z, h | 0, ⟨.own _ _, x⟩, z, h | 0, ⟨.ptr _ _, x⟩, z, h => by injection h with h; subst h; exact ⟨rfl, rfl⟩
  | n + 1, ⟨.cons a r, x⟩, z, h => by
    replace h := of_bif h
    rcases h with ⟨hl, h⟩ | ⟨_, h⟩
    · replace h := of_ob h
      obtain ⟨y, hy, h⟩ := h
      injection h with h
      subst h
      obtain ⟨c, hc⟩ := enc_leaf hl x.1
      obtain ⟨h1, h2⟩ := takeT_of hy
      have hn : a.n = 1 := by have := enc_length a x.1; rw [hc] at this; exact this.symm
      refine ⟨?_, ?_⟩
      · show enc a x.1 ++ enc y.t y.x = (enc a x.1 ++ enc r x.2).take (n + 2)
        rw [h1, hc]; rfl
      · show a.n + y.t.n = n + 2
        rw [hn, h2]; omega
    · cases h
  | n + 1, ⟨.i _, x⟩, z, h | n + 1, ⟨.b, x⟩, z, h | n + 1, ⟨.s, x⟩, z, h | n + 1, ⟨.row _ _, x⟩, z, h | n + 1, ⟨.own _ _, x⟩, z, h | n + 1, ⟨.ptr _ _, x⟩, z, h => by cases h
/-- A pointer to what is read. -/
def SV.ptr? : SV → Option (Bool × TV)
  | .v (.ptr f c) x => some (f, ⟨c, x⟩)
  | _ => none
theorem ptr?_eq {x : SV} {p : Bool × TV} (h : x.ptr? = some p) : x = .v (.ptr p.1 p.2.t) p.2.x := by
  unfold SV.ptr? at h
  split at h
  · injection h with h; subst h; rfl
  · cases h
/-- A row's element. -/
def at? {α : Type} (xs : List α) (n : Int) : Option α := if 0 ≤ n then xs[n.toNat]? else none
theorem at?_of {α : Type} {xs : List α} {n : Int} {x : α} (h : at? xs n = some x) : 0 ≤ n ∧ xs[n.toNat]? = some x := by
  unfold at? at h
  exact of_guard h
/-- The address of an element. -/
def stIndexAddr (G : GI) (o : Oper) (t : TypeId) (x ix : Operand) (T : TS) (K : Rn R) : Option R := (dOk G o).ob fun d => (tiOf G.tt t).ob fun i => (slotO G.nt T x).ob fun p => (opS G.nt T ix).ob fun b => b.int?.ob fun q => match i.k with
  | .sl e => (tiOf G.tt e).ob fun j => match p.2 with
    | .v (.row f c) xs => bsel (j.sz.beq c.n) ((at? xs q.2).bind fun y => K (p.1 :: rdO ix) [(d, false, .v (.ptr f c) y)]) <| none
    | .vw r sz lo m => bsel (j.sz.beq sz && !r.beq d) ((rootOf G.n T r).ob fun w => bsel (w.r.beq r && w.c.n.beq sz) ((if 0 ≤ q.2 ∧ q.2 < (m : Int) then K (p.1 :: r :: rdO ix) [(d, false, .ref r sz (lo + q.2.toNat) 0)] else none)) <| none) <| none
    | .dp r (.alp pa E c xs) => bsel (j.sz.beq c.n && !r.beq d) ((if 0 ≤ q.2 ∧ q.2 < (xs.length : Int) then K (p.1 :: r :: rdO ix) [(d, false, .dp r (.refp pa q.2.toNat 0 E c xs))] else none)) <| none
    | _ => (rootOf G.nt T p.1).ob fun w => bsel (j.sz.beq w.c.n && !w.r.beq d) ((if 0 ≤ q.2 ∧ q.2 < (w.xs.length : Int) then K (p.1 :: w.r :: rdO ix) [(d, false, .ref w.r w.c.n q.2.toNat 0)] else none)) <| none
  | _ => none
theorem opS_opv (hF : Fit G C) (hT : Tells G.nt G.n T0 T) {y : Operand} {x : SV} {k : IntKind} {n : Int} {rd : List Nat} (h : opS G.nt T y = some x) (hv : x = .v (.i k) n) (hrd : ∀ s, s ∈ rdO y → s ∈ rd) : opv C T0 rd (.int k n) y := by
  have := opS_opnd hF hT h (v := .int k n) (by rw [hv]; rfl) hrd
  cases y <;> first | exact this | (simp [opnd] at this; done)
theorem rootOf_own {w : RI} {s : Nat} {n : Nat} (h : rootOf n T s = some w) (he : w.r = s) : look? T s = some (.v (.own w.E w.c) w.xs) := by
  unfold rootOf at h
  replace h := of_bif h
  rcases h with ⟨_, h⟩ | ⟨_, h⟩
  · split at h
    · rename_i hx; injection h with h; subst h; exact hx
    · rename_i r hx
      split at h
      · rename_i hy; injection h with h; subst h; subst he; exact hy
      · cases h
    · cases h
  · cases h
theorem stIndexAddr_snd (hF : Fit G C) (hT : Tells G.nt G.n T0 T) {o : Oper} {t : TypeId} {x ix : Operand} (ho : o.op = .indexAddr t x ix) : Snd (R := R) G C T0 o (stIndexAddr G o t x ix T) := by
  intro K r h
  unfold stIndexAddr at h
  replace h := of_ob h
  obtain ⟨d, hd, h⟩ := h
  obtain ⟨d1, d2, d3, d4, d5, d6⟩ := dOk_of hF hT hd
  replace h := of_ob h
  obtain ⟨i, hi, h⟩ := h
  replace h := of_ob h
  obtain ⟨⟨s, y⟩, hp, h⟩ := h
  obtain ⟨rfl, hs, hy⟩ := slotO_of hp
  have hs' : s < C.nt := by rw [hF.nt]; exact hs
  replace h := of_ob h
  obtain ⟨b, hb, h⟩ := h
  replace h := of_ob h
  obtain ⟨⟨k, n⟩, hq, h⟩ := h
  have hix : ∀ rd : List Nat, (∀ t, t ∈ rdO ix → t ∈ rd) → opv C T0 rd (.int k n) ix := fun rd hrd => opS_opv hF hT hb (int?_eq hq) hrd
  split at h
  · rename_i e hk
    have ht : G.P.underlying t = some (.slice e) := hF.slice hi (by unfold TI.sl; rw [hk])
    replace h := of_ob h
    obtain ⟨j, hj, h⟩ := h
    have hsz := hF.size hj
    split at h
    · rename_i f c xs hxy
      simp only at hxy
      subst hxy
      replace h := of_bif h
      rcases h with ⟨hb', h⟩ | ⟨_, h⟩
      · replace h := of_bind h
        obtain ⟨z, hz, h⟩ := h
        obtain ⟨h0, hz⟩ := at?_of hz
        rw [Nat.eq_of_beq_eq_true hb'] at hsz
        refine ⟨_, _, ?_, EOk.one d6 rfl, h⟩
        exact exec_index_row s c.n t e f (xs.map (enc c)) ix k n (enc c z) ho d1 d2 d3 d4 hs' (by simp) ht hsz (hT.slot hy rfl rfl) (hix _ fun t ht => List.mem_cons_of_mem _ ht) h0 (by rw [List.getElem?_map, hz]; rfl)
      · cases h
    · rename_i r' sz lo m hxy
      simp only at hxy
      subst hxy
      replace h := of_bif h
      rcases h with ⟨hb', h⟩ | ⟨_, h⟩
      · replace h := of_ob h
        obtain ⟨w, hw, h⟩ := h
        replace h := of_bif h
        rcases h with ⟨hb2, h⟩ | ⟨_, h⟩
        · replace h := of_guard h
          obtain ⟨⟨h0, h1⟩, h⟩ := h
          simp only [Bool.and_eq_true, Bool.not_eq_true'] at hb' hb2
          rw [Nat.eq_of_beq_eq_true hb'.1] at hsz
          have hwr := Nat.eq_of_beq_eq_true hb2.1
          have hws := Nat.eq_of_beq_eq_true hb2.2
          refine ⟨_, _, ?_, EOk.link d5 d6 rfl (ne_beq hb'.2), h⟩
          have hro := hT.slot (rootOf_own hw hwr) rfl rfl
          rw [own_toV0, hws] at hro
          exact exec_index_vw s r' w.E sz t e lo m _ ix k n ho d1 d2 d3 d4 (ne_beq hb'.2) hs' (by simp) (by simp) ht hsz (hT.vw hy) hro (hix _ fun t ht => by simp [ht]) h0 (by omega)
        · cases h
      · cases h
    · rename_i r' pa E c xs hxy
      simp only at hxy
      subst hxy
      obtain ⟨hx1, hx2⟩ := hT.alp hy
      replace h := of_bif h
      rcases h with ⟨hb', h⟩ | ⟨_, h⟩
      · replace h := of_guard h
        obtain ⟨⟨h0, h1⟩, h⟩ := h
        simp only [Bool.and_eq_true, Bool.not_eq_true'] at hb'
        rw [Nat.eq_of_beq_eq_true hb'.1] at hsz
        refine ⟨_, _, ?_, EOk.link (x := .dp r' (.refp pa n.toNat 0 E c xs)) d5 d6 rfl (ne_beq hb'.2) hx2, h⟩
        exact exec_index_alp s r' t e E c.n pa _ ix k n ho d1 d2 d3 d4 (ne_beq hb'.2) ht hsz hs' (by simp) (by simp) hx1 (getp_root hx2 rfl) hx2 (hix _ fun t ht => by simp [ht]) h0 (by rw [row_len]; omega)
      · cases h
    · replace h := of_ob h
      obtain ⟨w, hw, h⟩ := h
      replace h := of_bif h
      rcases h with ⟨hb', h⟩ | ⟨_, h⟩
      · replace h := of_guard h
        obtain ⟨⟨h0, h1⟩, h⟩ := h
        simp only [Bool.and_eq_true, Bool.not_eq_true'] at hb'
        rw [Nat.eq_of_beq_eq_true hb'.1] at hsz
        obtain ⟨o1, o2, o3, o4⟩ := rootOf_of hF hT hw (rd := s :: w.r :: rdO ix) (by simp) (by simp)
        refine ⟨_, _, ?_, EOk.link d5 d6 rfl (ne_beq hb'.2), h⟩
        exact exec_index_own s w.r w.E w.c.n t e _ ix k n ho d1 d2 d3 d4 (ne_beq hb'.2) ht hsz o1 (hix _ fun t ht => by simp [ht]) h0 (by rw [row_len]; omega)
      · cases h
  · cases h
end
end Go.Proofs.Ytepeoiimdefnpaa.Vm
namespace Go.Proofs.Ytepeoiimdefnpaa.Vm
open Go
open Go.RowKit (wrap64)
section
variable {G : GI} {C : Ctx} {T0 : St} {T : TS} {R : Type}
def GI.g (G : GI) : List (Nat × Nat) := G.bx.map (·.2)
theorem fsOk_get {P : Program} {t : Nat} : ∀ {l : List (Nat × Bool × Nat)} {f i : Nat} {q : Nat × Bool × Nat}, fsOk P t f l → l[i]? = some q → fieldAt P t (f + i) = some (q.1, false) ∧ fieldOf P t (f + i) = some q
  | [], _, _, _, _, h => by simp at h
  | q :: l, f, 0, q', h, hq => by simp at hq; subst hq; exact ⟨h.1, h.2.1⟩
  | q :: l, f, i + 1, q', h, hq => by
    have := fsOk_get h.2.2 (i := i) (by simpa using hq)
    rwa [show f + 1 + i = f + (i + 1) by omega] at this
theorem Fit.field (hF : Fit G C) {t f : Nat} {i : TI} {q : Nat × Bool × Nat} (h : tiOf G.tt t = some i) (hq : i.fs[f]? = some q) : fieldAt G.P t f = some (q.1, false) ∧ fieldOf G.P t f = some q := by
  have := fsOk_get (hF.ti h).fs hq
  rwa [Nat.zero_add] at this
/-- A box's cell. -/
theorem Tells.cellAt (hT : Tells G.nt G.n T0 T) {s : Nat} {x : SV} (hx : look? T s = some x) (hs : G.nt ≤ s) : T0.at s = x.toV0 ∧ x.root? = none ∧ T0.at s ≠ .no := by
  obtain ⟨h1, h2⟩ := hT.cell _ (look?_mem hx) hs
  simp only at h1 h2
  have h3 := (hT.all _ (look?_mem hx)).2.resolve_left fun e => by have := e.2; simp only at this; omega
  have e : nrm T0 s = T0.at s := by
    rcases nrm_cases T0 s with ⟨h4, _⟩ | ⟨r', g', h4, _⟩
    · exact h4
    · rw [h2] at h4; cases h4
  simp only at h3
  rw [e, toV_root h1] at h3
  refine ⟨h3, h1, ?_⟩
  rw [h3, ← toV_root h1 g0]
  exact (toV_plain g0 x).1
/-- The cells k, k + 1, .. of a box. -/
def cellsO (T : TS) : Nat → Nat → Option (List SV)
  | _, 0 => some []
  | k, m + 1 => (look? T k).ob fun x => (cellsO T (k + 1) m).ob fun l => some (x :: l)
theorem cellsO_of {T : TS} : ∀ {m k : Nat} {l : List SV}, cellsO T k m = some l → l.length = m ∧ ∀ j, j < m → ∃ x, l[j]? = some x ∧ look? T (k + j) = some x
  | 0, k, l, h => by injection h with h; subst h; exact ⟨rfl, fun j hj => by omega⟩
  | m + 1, k, l, h => by
    obtain ⟨x, hx, h⟩ := of_ob h
    obtain ⟨l', hl, h⟩ := of_ob h
    injection h with h
    subst h
    obtain ⟨h1, h2⟩ := cellsO_of hl
    refine ⟨by simp [h1], fun j hj => ?_⟩
    cases j with
    | zero => exact ⟨x, rfl, hx⟩
    | succ j =>
      obtain ⟨y, h3, h4⟩ := h2 j (by omega)
      exact ⟨y, by simpa using h3, by rw [← h4]; congr 1; omega⟩
/-- All of a group's: from k on, m of them, base b. -/
def inGrp (g : List (Nat × Nat)) (k b m : Nat) : Bool := (List.range m).all fun j => (baseOf g (k + j)).beq b
theorem inGrp_of {g : List (Nat × Nat)} {k b m : Nat} (h : inGrp g k b m = true) {j : Nat} (hj : j < m) : baseOf g (k + j) = b := Nat.eq_of_beq_eq_true (range_all h hj)
def atOk (G : GI) (k m : Nat) : Bool := G.nt.ble k && (baseOf G.g k).ble k && inGrp G.g k (baseOf G.g k) m
theorem atOk_of (hF : Fit G C) {k m : Nat} (h : atOk G k m = true) : G.nt ≤ k ∧ C.base k ≤ k ∧ ∀ j, j < m → C.base (k + j) = C.base k := by
  simp only [atOk, Bool.and_eq_true] at h
  rw [hF.base]
  exact ⟨Nat.le_of_ble_eq_true h.1.1, Nat.le_of_ble_eq_true h.1.2, fun j hj => inGrp_of h.2 hj⟩
/-- The address of a field. -/
def stFieldAddr (G : GI) (o : Oper) (t : TypeId) (x : Operand) (f : Nat) (T : TS) (K : Rn R) : Option R := (dOk G o).ob fun d => (tiOf G.tt t).ob fun i => (slotO G.nt T x).ob fun p => (i.fs[f]?).ob fun q => match p.2 with
  | .v (.ptr fl c) e => (dropT q.1 ⟨c, e⟩).ob fun z => K [p.1] [(d, false, .v (.ptr fl z.t) z.x)]
  | .at_ k => (look? T (k + q.1)).ob fun _ => bsel (atOk G k (q.1 + 1)) (K [p.1, k + q.1] [(d, false, .at_ (k + q.1))]) <| none
  | .ref r sz i o => bsel (r.beq d) none <| K [p.1, r] [(d, false, .ref r sz i (o + q.1))]
  | .dp r (.refp pa j o E c xs) => bsel (r.beq d) none <| K [p.1, r] [(d, false, .dp r (.refp pa j (o + q.1) E c xs))]
  | _ => none
theorem stFieldAddr_snd (hF : Fit G C) (hT : Tells G.nt G.n T0 T) {o : Oper} {t : TypeId} {x : Operand} {f : Nat} (ho : o.op = .fieldAddr t x f) : Snd (R := R) G C T0 o (stFieldAddr G o t x f T) := by
  intro K r h
  unfold stFieldAddr at h
  obtain ⟨d, hd, h⟩ := of_ob h
  obtain ⟨d1, d2, d3, d4, d5, d6⟩ := dOk_of hF hT hd
  obtain ⟨i, hi, h⟩ := of_ob h
  obtain ⟨⟨s, y⟩, hp, h⟩ := of_ob h
  obtain ⟨q, hq, h⟩ := of_ob h
  obtain ⟨e1, hs, hy⟩ := slotO_of hp
  rw [e1] at ho
  have hs' : s < C.nt := by rw [hF.nt]; exact hs
  obtain ⟨hf, _⟩ := hF.field hi hq
  split at h
  · rename_i fl c e hxy
    simp only at hxy
    rw [hxy] at hy
    obtain ⟨z, hz, h⟩ := of_ob h
    refine ⟨_, _, ?_, EOk.one d6 rfl, h⟩
    have := exec_field_box (P := G.P) (C := C) (T := T0) (rd := [s]) s t f q.1 fl (enc c e) ho d1 d2 d3 d4 (by simp) hs' hf (hT.slot hy rfl rfl)
    rw [← dropT_of hz] at this
    exact this
  · rename_i k hxy
    simp only at hxy
    rw [hxy] at hy
    obtain ⟨y', hy', h⟩ := of_ob h
    rcases of_bif h with ⟨hb, h⟩ | ⟨_, h⟩
    · obtain ⟨b1, b2, b3⟩ := atOk_of hF hb
      refine ⟨_, _, ?_, EOk.one d6 rfl, h⟩
      exact exec_field_at s t f q.1 k ho d1 d2 d3 d4 (by simp) (by simp) hs' hf (hT.slot hy rfl rfl) (hT.cellAt hy' (by omega)).2.2 (b3 q.1 (by omega)) b2
    · cases h
  · rename_i r' sz i' o' hxy
    simp only at hxy
    rw [hxy] at hy
    rcases of_bif h with ⟨_, h⟩ | ⟨hne, h⟩
    · cases h
    · refine ⟨_, _, ?_, EOk.link d5 d6 rfl (ne_beq hne), h⟩
      exact exec_field_ref s r' t f q.1 sz i' o' ho d1 d2 d3 d4 (ne_beq hne) (by simp) (by simp) hs' hf (hT.ref hy)
  · rename_i r' pa j o' E c xs hxy
    simp only at hxy
    rw [hxy] at hy
    rcases of_bif h with ⟨_, h⟩ | ⟨hne, h⟩
    · cases h
    · obtain ⟨hx1, hx2⟩ := hT.refp hy
      refine ⟨_, _, ?_, EOk.link (x := .dp r' (.refp pa j (o' + q.1) E c xs)) d5 d6 rfl (ne_beq hne) hx2, h⟩
      exact exec_field_refp s r' t f q.1 c.n j o' pa ho d1 d2 d3 d4 (ne_beq hne) (by simp) (by simp) hs' hf hx1
  · cases h
/-- nil may not be. -/
def stNil (G : GI) (o : Oper) (x : Operand) (T : TS) (K : Rn R) : Option R := (dOk G o).ob fun d => (slotO G.nt T x).ob fun p => match p.2 with
  | .v (.ptr fl c) e => K [p.1] [(d, false, .v (.ptr fl c) e)]
  | .at_ k => K [p.1] [(d, false, .at_ k)]
  | .ref r sz i o => bsel (r.beq d) none <| K [p.1, r] [(d, false, .ref r sz i o)]
  | _ => none
theorem stNil_snd (hF : Fit G C) (hT : Tells G.nt G.n T0 T) {o : Oper} {x : Operand} (ho : o.op = .nilCheck x) : Snd (R := R) G C T0 o (stNil G o x T) := by
  intro K r h
  unfold stNil at h
  obtain ⟨d, hd, h⟩ := of_ob h
  obtain ⟨d1, d2, d3, d4, d5, d6⟩ := dOk_of hF hT hd
  obtain ⟨⟨s, y⟩, hp, h⟩ := of_ob h
  obtain ⟨e1, hs, hy⟩ := slotO_of hp
  rw [e1] at ho
  have hs' : s < C.nt := by rw [hF.nt]; exact hs
  split at h
  · rename_i fl c e hxy
    simp only at hxy
    rw [hxy] at hy
    exact ⟨_, _, exec_nilCheck_box s fl (enc c e) ho d1 d2 d3 d4 (by simp) hs' (hT.slot hy rfl rfl), EOk.one d6 rfl, h⟩
  · rename_i k hxy
    simp only at hxy
    rw [hxy] at hy
    exact ⟨_, _, exec_ptr s k (.inr (.inr ho)) d1 d2 d3 d4 (by simp) hs' (hT.slot hy rfl rfl), EOk.one d6 rfl, h⟩
  · rename_i r' sz i' o' hxy
    simp only at hxy
    rw [hxy] at hy
    rcases of_bif h with ⟨_, h⟩ | ⟨hne, h⟩
    · cases h
    · refine ⟨_, _, ?_, EOk.link d5 d6 rfl (ne_beq hne), h⟩
      exact exec_relink s r' _ (.inr (.inr ho)) (fun _ => ⟨_, _, _, rfl⟩) d1 d2 d3 d4 (by simp) (by simp) hs' (hT.ref hy) rfl (ne_beq hne)
  · cases h
def deadE (src : List Nat) : ES := src.map fun s => (s, false, .dead)
def stE (k : Nat) : List SV → ES
  | [] => []
  | x :: l => (k, false, x) :: stE (k + 1) l
theorem eff_dead (src : List Nat) : ES.eff T0 (deadE src) = deads src := by simp [ES.eff, deadE, deads, SV.toV, SV.toV0, Function.comp_def]
theorem eff_app (E E' : ES) : ES.eff T0 (E ++ E') = ES.eff T0 E ++ ES.eff T0 E' := List.map_append
theorem eff_st : ∀ (k : Nat) (l : List SV), (∀ x, x ∈ l → x.root? = none) → ES.eff T0 (stE k l) = stores k (l.map SV.toV0)
  | _, [], _ => rfl
  | k, x :: l, h => by
    have h1 := eff_st (k + 1) l fun x hx => h x (List.mem_cons_of_mem _ hx)
    simp only [ES.eff] at h1
    simp only [stE, ES.eff, List.map_cons, stores, h1, toV_root (h x List.mem_cons_self)]
theorem mem_stE {e : Nat × Bool × SV} : ∀ {k : Nat} {l : List SV}, e ∈ stE k l → k ≤ e.1 ∧ e.1 < k + l.length ∧ e.2.2 ∈ l
  | _, [], h => by simp [stE] at h
  | k, x :: l, h => by
    rcases List.mem_cons.1 h with rfl | h
    · simp
    · obtain ⟨h1, h2, h3⟩ := mem_stE h
      exact ⟨by omega, by simp; omega, List.mem_cons_of_mem _ h3⟩
theorem aggT_of (hF : Fit G C) {t : Nat} {i : TI} (h : tiOf G.tt t = some i) {b : Bool} (hb : i.ag = b) : aggT G.P t = some b := by rw [← hb]; exact (hF.ti h).ag
/-- All cells are numbers, bools, strings; but the i-th, a row of one's own. -/
def scT : Ty → Bool
  | .i _ | .b | .s => true
  | .cons a r => scT a && scT r
  | _ => false
def capT : Ty → Nat → Bool
  | .own _ _, 0 => true
  | .cons (.own _ _) r, 0 => scT r
  | .cons a r, i + 1 => a.leaf && scT a && capT r i
  | _, _ => false
def capI : Ty → Option Nat
  | .own _ _ => some 0
  | .cons (.own _ _) _ => some 0
  | .cons _ r => (capI r).ob fun i => some (i + 1)
  | _ => none
theorem scT_of : ∀ {t : Ty} {x : t.den} {j : Nat} {c : V}, scT t = true → (enc t x)[j]? = some c → ∃ v, c = .sc v ∧ v.oneCell' = true
  | .i _, _, j, c, _, h | .b, _, j, c, _, h | .s, _, j, c, _, h => by
    have := List.mem_of_getElem? h
    simp only [enc, List.mem_singleton] at this
    subst this
    exact ⟨_, rfl, rfl⟩
  | .row _ _, _, _, _, h, _ | .own _ _, _, _, _, h, _ | .ptr _ _, _, _, _, h, _ => by cases h
  | .cons a r, x, j, c, h, hc => by
    simp only [scT, Bool.and_eq_true] at h
    have : (enc a x.1 ++ enc r x.2)[j]? = some c := hc
    by_cases hj : j < (enc a x.1).length
    · rw [List.getElem?_append_left hj] at this
      exact scT_of h.1 this
    · rw [List.getElem?_append_right (by omega)] at this
      exact scT_of h.2 this
theorem capT_of : ∀ {t : Ty} {x : t.den} {i : Nat}, capT t i = true → i < t.n ∧ (∃ E c xs, (enc t x)[i]? = some (.own E c xs)) ∧ ∀ j c, j ≠ i → (enc t x)[j]? = some c → ∃ v, c = .sc v ∧ v.oneCell' = true
  | .own E c, x, 0, _ => ⟨Nat.one_pos, ⟨_, _, _, rfl⟩, fun j c hj h => by
    have := (List.getElem?_eq_some_iff.1 h).1
    simp [enc] at this
    omega⟩
  | .cons (.own E c) r, x, 0, h => ⟨(Ty.cons (.own E c) r).n_pos, ⟨_, _, _, rfl⟩, fun j c' hj hc => by
    cases j with
    | zero => exact absurd rfl hj
    | succ j =>
      have : (enc r x.2)[j]? = some c' := hc
      exact scT_of h this⟩
  | .cons a r, x, i + 1, h => by
    have h' : (a.leaf && scT a && capT r i) = true := by
      cases a <;> exact h
    simp only [Bool.and_eq_true] at h'
    obtain ⟨⟨h1, h2⟩, h3⟩ := h'
    obtain ⟨e1, ⟨E, c, xs, e2⟩, e3⟩ := capT_of (x := x.2) h3
    obtain ⟨c0, hc0⟩ := enc_leaf h1 x.1
    have hen : enc (.cons a r) x = c0 :: enc r x.2 := by show enc a x.1 ++ enc r x.2 = _; rw [hc0]; rfl
    have := a.n_pos
    refine ⟨by simp only [Ty.n]; omega, ⟨E, c, xs, by rw [hen]; exact e2⟩, fun j c' hj hc => ?_⟩
    rw [hen] at hc
    cases j with
    | zero =>
      simp at hc
      subst hc
      exact scT_of (j := 0) h2 (by rw [hc0]; rfl)
    | succ j => exact e3 j c' (by omega) hc
  | .cons (.cons _ _) _, _, 0, h | .cons (.i _) _, _, 0, h | .cons .b _, _, 0, h | .cons .s _, _, 0, h | .cons (.row _ _) _, _, 0, h | .cons (.ptr _ _) _, _, 0, h => by cases h
  | .i _, _, _, h | .b, _, _, h | .s, _, _, h | .row _ _, _, _, h | .ptr _ _, _, _, h | .own _ _, _, _ + 1, h => by cases h
theorem valsV_one {t : Ty} {x : t.den} : ∀ v, v ∈ valsV (enc t x) → v.oneCell' = true := fun v hv => by
  obtain ⟨c, hc, rfl⟩ := List.mem_map.1 hv
  revert hc
  induction t with
  | cons a r iha ihr =>
    intro hc
    rcases List.mem_append.1 hc with hc | hc
    · exact iha (List.mem_map.2 ⟨c, hc, rfl⟩) hc
    · exact ihr (List.mem_map.2 ⟨c, hc, rfl⟩) hc
  | _ => intro hc; simp only [enc, List.mem_singleton] at hc; subst hc; rfl
/-- A load out of a row (within): j: the element, q: the cell; z: its cells from there on. -/
def ldDeep (d s r sz : Nat) (pa : List (Nat × Nat × Nat)) (j q : Nat) (i : TI) (z : TV) (K : Rn R) : Option R := bsel i.ag ((takeT (i.sz - 1) z).ob fun u => bsel u.t.free (K [s, r] [(d, false, .agg u.t u.x)]) <| (capI u.t).ob fun m => bsel (capT u.t m && (q + m).blt sz && !r.beq d) (K [s, r] [(d, false, .dp r (.cap (pa ++ [(sz, j, q + m)]) m u.t u.x))]) <| none)
  <| (takeT 0 z).ob fun u => match u with
    | ⟨.own E c, xs⟩ => bsel (q.blt sz && !r.beq d) (K [s, r] [(d, false, .dp r (.alp (pa ++ [(sz, j, q)]) E c xs))]) <| none
    | u => bsel u.t.free (K [s, r] [(d, false, .v u.t u.x)]) <| none
abbrev memN (d : Nat) : List Nat → Bool
  | [] => false
  | x :: l => x.beq d || memN d l
/-- A load. -/
def stLoad (G : GI) (o : Oper) (t : TypeId) (x : Operand) (T : TS) (K : Rn R) : Option R := (dOk G o).ob fun d => (tiOf G.tt t).ob fun i => (slotO G.nt T x).ob fun p => match p.2 with
  | .v (.ptr _ c) e => bsel i.ag ((takeT (i.sz - 1) ⟨c, e⟩).ob fun z => K [p.1] [(d, false, .agg z.t z.x)]) <| (takeT 0 ⟨c, e⟩).ob fun z => K [p.1] [(d, false, .v z.t z.x)]
  | .at_ k => bsel (atOk G k i.sz) ((bsel i.ag ((cellsO T k i.sz).ob fun l => (packT l).ob fun z => bsel z.t.free (K (p.1 :: (List.range i.sz).map (k + ·)) [(d, false, .agg z.t z.x)]) <| bsel (memN d G.ali) ((capI z.t).ob fun m => bsel (capT z.t m) (K (p.1 :: (List.range i.sz).map (k + ·)) [(d, false, .dp (k + m) (.cap [] m z.t z.x))]) <| none) <| (fun src => K (p.1 :: (List.range i.sz).map (k + ·)) (deadE src ++ [(d, false, .agg z.t z.x)])) (((List.range i.sz).map (k + ·)).filter fun s => match look? T s with | some y => !y.free | none => false)) <| (look? T k).ob fun y => match y with
        | .v (.own _ _) _ => K [p.1, k] [(d, false, .al k)]
        | .at_ j => K [p.1, k] [(d, false, .at_ j)]
        | y => bsel y.free (K [p.1, k] [(d, false, y)]) <| none)) <| none
  | .ref r sz j q => (rootOf G.n T r).ob fun w => bsel (w.r.beq r && w.c.n.beq sz) ((w.xs[j]?).bind fun e => (dropT q ⟨w.c, e⟩).ob fun z => bsel z.t.free ((bsel i.ag ((takeT (i.sz - 1) z).ob fun z => K [p.1, r] [(d, false, .agg z.t z.x)]) <| (takeT 0 z).ob fun z => K [p.1, r] [(d, false, .v z.t z.x)])) <| ldDeep d p.1 r sz [] j q i z K) <| none
  | .dp r (.refp pa j q _ c xs) => (xs[j]?).bind fun e => (dropT q ⟨c, e⟩).ob fun z => ldDeep d p.1 r c.n pa j q i z K
  | _ => none
theorem take0 {y z : TV} (h : takeT 0 y = some z) : ∃ c cs, enc y.t y.x = c :: cs ∧ enc z.t z.x = [c] ∧ (SV.v z.t z.x).toV0 = c := by
  obtain ⟨h1, h2⟩ := takeT_of h
  have h3 := enc_length y.t y.x
  have h4 := y.t.n_pos
  cases he : enc y.t y.x with
  | nil => rw [he] at h3; simp at h3; omega
  | cons c cs =>
    rw [he] at h1
    simp at h1
    refine ⟨c, cs, rfl, h1, ?_⟩
    show (match enc z.t z.x with | [c] => c | cs => V.agg cs) = c
    rw [h1]
theorem enc_drop_free {y : TV} (h : y.t.free = true) : ∀ {n : Nat} {z : TV}, takeT n y = some z → V.free.go (enc z.t z.x) = true := fun {n z} hz => by
  rw [(takeT_of hz).1]
  exact free_go_of fun c hc => enc_all_free h c (List.mem_of_mem_take hc)
theorem ldDeep_snd (hF : Fit G C) (hT : Tells G.nt G.n T0 T) {o : Oper} {t d s r sz E : Nat} {pa : List (Nat × Nat × Nat)} {j q : Nat} {i : TI} {z : TV} {e : List V} {es : List (List V)} (ho : o.op = .load t (.tmp s)) (hd : dOk G o = some d) (hi : tiOf G.tt t = some i) (hs : s < C.nt)
    (hx : PtrP T0 s r pa sz j q) (hg : (T0.at r).getp pa = some (.own E sz es)) (he : es[j]? = some e) (hz : enc z.t z.x = e.drop q) : Snd (R := R) G C T0 o (ldDeep d s r sz pa j q i z) := by
  intro K res h
  obtain ⟨d1, d2, d3, d4, d5, d6⟩ := dOk_of hF hT hd
  have hsz := hF.size hi
  have hpos : 0 < i.sz := by rw [(hF.ti hi).pos]; trivial
  have hro := getp_root hg rfl
  unfold ldDeep at h
  rcases of_bif h with ⟨hb, h⟩ | ⟨hb, h⟩
  · obtain ⟨u, hu, h⟩ := of_ob h
    obtain ⟨t1, t2⟩ := takeT_of hu
    have hget : ∀ m c, (enc u.t u.x)[m]? = some c → e[q + m]? = some c := fun m c hc => by
      have hm := (List.getElem?_eq_some_iff.1 hc).1
      rw [enc_length] at hm
      rw [t1, List.getElem?_take_of_lt (by omega), hz, List.getElem?_drop] at hc
      exact hc
    rcases of_bif h with ⟨hf, h⟩ | ⟨_, h⟩
    · refine ⟨_, _, ?_, EOk.one d6 rfl, h⟩
      exact exec_load_refp_agg s r t i.sz E sz j q pa es e (enc u.t u.x) ho d1 d2 d3 d4 (by simp) (by simp) hs (aggT_of hF hi hb) hsz hx hro hg he hget (by rw [enc_length, t2]; omega) (enc_free _ _ hf)
    · obtain ⟨m, hm, h⟩ := of_ob h
      rcases of_bif h with ⟨hc, h⟩ | ⟨_, h⟩
      · simp only [Bool.and_eq_true, Bool.not_eq_true'] at hc
        obtain ⟨⟨hc1, hc2⟩, hc3⟩ := hc
        obtain ⟨c1, ⟨E2, sz2, es2, c2⟩, c3⟩ := capT_of (x := u.x) hc1
        have hq := lt_blt hc2
        refine ⟨_, _, ?_, EOk.link (x := .dp r (.cap (pa ++ [(sz, j, q + m)]) m u.t u.x)) d5 d6 rfl (ne_beq hc3) ⟨_, c2, getp_snoc hg hq he (hget _ _ c2)⟩, h⟩
        exact exec_load_cap s r t i.sz E sz E2 sz2 j q m pa es es2 e (valsV (enc u.t u.x)) ho d1 d2 d3 d4 (ne_beq hc3) (by simp) (by simp) hs (aggT_of hF hi hb) hsz hx hro hg he (by omega) (by simp only [valsV, List.length_map, enc_length, t2]; omega) valsV_one (fun m' hm' hne => by
          have hl : m' < (enc u.t u.x).length := by rw [enc_length, t2]; omega
          obtain ⟨v, hv, _⟩ := c3 m' _ hne (List.getElem?_eq_getElem hl)
          refine ⟨v, ?_, ?_⟩
          · simp only [valsV, List.getElem?_map, List.getElem?_eq_getElem hl, Option.map_some, hv]
          · exact hget _ _ (by rw [List.getElem?_eq_getElem hl, hv])) (hget _ _ c2) hq
      · cases h
  · obtain ⟨u, hu, h⟩ := of_ob h
    obtain ⟨c', cs, h1, h2, h3⟩ := take0 hu
    have hg0 : e[q]? = some c' := by
      have := congrArg (·[0]?) (hz.symm.trans h1)
      simpa using this
    split at h
    · rename_i E2 c xs
      rcases of_bif h with ⟨hc, h⟩ | ⟨_, h⟩
      · simp only [Bool.and_eq_true, Bool.not_eq_true'] at hc
        have hq := lt_blt hc.1
        have e1 : c' = .own E2 c.n (xs.map (enc c)) := by
          have h2' : [V.own E2 c.n (xs.map (enc c))] = [c'] := h2
          injection h2' with h2'
          exact h2'.symm
        subst e1
        refine ⟨_, _, ?_, EOk.link (x := .dp r (.alp (pa ++ [(sz, j, q)]) E2 c xs)) d5 d6 rfl (ne_beq hc.2) (getp_snoc hg hq he hg0), h⟩
        exact exec_load_alp s r t E sz E2 c.n j q pa es _ e ho d1 d2 d3 d4 (ne_beq hc.2) (by simp) (by simp) hs (aggT_of hF hi hb) hx hro hg he hg0 hq
      · cases h
    · rcases of_bif h with ⟨hf, h⟩ | ⟨_, h⟩
      · refine ⟨_, _, ?_, EOk.one d6 rfl, h⟩
        have := exec_load_refp (P := G.P) (C := C) (T := T0) (rd := [s, r]) s r t E sz j q pa es e c' ho d1 d2 d3 d4 (by simp) (by simp) hs (aggT_of hF hi hb) hx hro hg he hg0 (by have := enc_free _ u.x hf; rw [h2] at this; simpa [V.free.go] using this)
        rw [← h3] at this
        exact this
      · cases h
theorem stLoad_snd (hF : Fit G C) (hT : Tells G.nt G.n T0 T) {o : Oper} {t : TypeId} {x : Operand} (ho : o.op = .load t x) : Snd (R := R) G C T0 o (stLoad G o t x T) := by
  intro K r h
  unfold stLoad at h
  obtain ⟨d, hd, h⟩ := of_ob h
  obtain ⟨d1, d2, d3, d4, d5, d6⟩ := dOk_of hF hT hd
  obtain ⟨i, hi, h⟩ := of_ob h
  obtain ⟨⟨s, y⟩, hp, h⟩ := of_ob h
  obtain ⟨e1, hs, hy⟩ := slotO_of hp
  rw [e1] at ho
  have hs' : s < C.nt := by rw [hF.nt]; exact hs
  have hsz := hF.size hi
  have hpos : 0 < i.sz := by rw [(hF.ti hi).pos]; trivial
  split at h
  · rename_i fl c e hxy
    simp only at hxy
    rw [hxy] at hy
    rcases of_bif h with ⟨hb, h⟩ | ⟨hb, h⟩
    · obtain ⟨z, hz, h⟩ := of_ob h
      obtain ⟨t1, t2⟩ := takeT_of hz
      refine ⟨_, _, ?_, EOk.one d6 rfl, h⟩
      exact exec_load_box_agg s t i.sz fl (enc z.t z.x) (enc c e) ho d1 d2 d3 d4 (by simp) hs' (aggT_of hF hi hb) hsz (hT.slot hy rfl rfl) (by rw [t1]; congr 1; omega) (by rw [enc_length, t2]; omega)
    · obtain ⟨z, hz, h⟩ := of_ob h
      obtain ⟨c', cs, h1, h2, h3⟩ := take0 hz
      refine ⟨_, _, ?_, EOk.one d6 rfl, h⟩
      have hsl := hT.slot hy rfl rfl
      have := exec_load_box (P := G.P) (C := C) (T := T0) (rd := [s]) s t fl c' cs ho d1 d2 d3 d4 (by simp) hs' (aggT_of hF hi hb) (by rw [hsl]; show V.box fl (enc c e) = _; rw [← h1])
      rw [← h3] at this
      exact this
  · rename_i k hxy
    simp only at hxy
    rw [hxy] at hy
    have hsl := hT.slot hy rfl rfl
    rcases of_bif h with ⟨hk, h⟩ | ⟨_, h⟩
    · obtain ⟨b1, b2, b3⟩ := atOk_of hF hk
      rcases of_bif h with ⟨hb, h⟩ | ⟨hb, h⟩
      · obtain ⟨l, hl, h⟩ := of_ob h
        obtain ⟨z, hz, h⟩ := of_ob h
        obtain ⟨l1, l2⟩ := cellsO_of hl
        obtain ⟨z1, z2, z3⟩ := packT_of hz
        have hcs : cellsAt T0 k i.sz = enc z.t z.x := by
          rw [z1]
          refine List.ext_getElem? fun j => ?_
          unfold cellsAt
          by_cases hj : j < i.sz
          · obtain ⟨x, hx1, hx2⟩ := l2 j hj
            rw [List.getElem?_map, List.getElem?_map, hx1, List.getElem?_range hj]
            simp only [Option.map_some, Option.some.injEq]
            exact (hT.cellAt hx2 (by omega)).1
          · rw [List.getElem?_eq_none (by simp; omega), List.getElem?_eq_none (by simp [l1]; omega)]
        have hpl : ∀ j, j < i.sz → T0.at (k + j) ≠ .no ∧ (∀ m, T0.at (k + j) ≠ .at_ m) ∧ (T0.at (k + j)).root = none := fun j hj => by
          obtain ⟨x, hx1, hx2⟩ := l2 j hj
          obtain ⟨q1, q2, q3⟩ := hT.cellAt hx2 (by omega)
          have hm : T0.at (k + j) ∈ enc z.t z.x := by
            rw [← hcs]
            exact List.mem_map.2 ⟨j, by simpa using hj, rfl⟩
          obtain ⟨p1, _, p2, p3⟩ := enc_plain _ _ _ hm
          exact ⟨p1, p2, p3⟩
        rcases of_bif h with ⟨hf, h⟩ | ⟨_, h⟩
        · refine ⟨_, _, ?_, EOk.one d6 rfl, h⟩
          have := exec_load_at_agg (P := G.P) (C := C) (T := T0) (rd := s :: (List.range i.sz).map (k + ·)) [] s k t i.sz ho d1 d2 d3 d4 (by simp) (fun j hj => List.mem_cons_of_mem _ (List.mem_map.2 ⟨j, by simpa using hj, rfl⟩)) hs' (aggT_of hF hi hb) hsz hsl b3 b2 hpl (fun j hj => .inr (enc_all_free hf _ (by rw [← hcs]; exact List.mem_map.2 ⟨j, by simpa using hj, rfl⟩))) (fun s hs => by simp at hs) (fun s hs => by simp at hs)
          rw [hcs] at this
          exact this
        · rcases of_bif h with ⟨_, h⟩ | ⟨_, h⟩
          · obtain ⟨m, hm, h⟩ := of_ob h
            rcases of_bif h with ⟨hc, h⟩ | ⟨_, h⟩
            · obtain ⟨c1, ⟨E2, sz2, es2, c2⟩, c3⟩ := capT_of (x := z.x) hc
              have hen := enc_length z.t z.x
              rw [← hcs] at hen
              simp only [cellsAt, List.length_map, List.length_range] at hen
              have hget : ∀ j, j < i.sz → (enc z.t z.x)[j]? = some (T0.at (k + j)) := fun j hj => by
                rw [← hcs]
                unfold cellsAt
                rw [List.getElem?_map, List.getElem?_range hj]
                rfl
              have hkm : T0.at (k + m) = .own E2 sz2 es2 := by
                have := hget m (by omega)
                rw [c2] at this
                injection this with this
                exact this.symm
              refine ⟨_, _, ?_, EOk.link (x := .dp (k + m) (.cap [] m z.t z.x)) d5 d6 rfl (by omega) ⟨_, c2, by rw [hkm]; rfl⟩, h⟩
              exact exec_load_ca s k m t i.sz E2 sz2 es2 (valsV (enc z.t z.x)) ho d1 d2 d3 d4 (by simp) (fun j hj => List.mem_cons_of_mem _ (List.mem_map.2 ⟨j, by simpa using hj, rfl⟩)) hs' (aggT_of hF hi hb) hsz hsl b3 b2 (by omega) (by omega) (by simp only [valsV, List.length_map, enc_length]; omega) valsV_one (fun j hj hne => by
                obtain ⟨v, hv, _⟩ := c3 j _ hne (hget j hj)
                refine ⟨v, ?_, hv⟩
                simp only [valsV, List.getElem?_map, hget j hj, Option.map_some, hv]) hkm
            · cases h
          have hmem : ∀ s', s' ∈ ((List.range i.sz).map (k + ·)).filter (fun s => match look? T s with | some y => !y.free | none => false) → ∃ j, j < i.sz ∧ s' = k + j := fun s' hs' => by
            obtain ⟨h1, _⟩ := List.mem_filter.1 hs'
            obtain ⟨j, hj, e⟩ := List.mem_map.1 h1
            exact ⟨j, by simpa using hj, e.symm⟩
          refine ⟨_, _, ?_, .inl fun e he => ?_, h⟩
          · have := exec_load_at_agg (P := G.P) (C := C) (T := T0) (rd := s :: (List.range i.sz).map (k + ·)) (((List.range i.sz).map (k + ·)).filter (fun s => match look? T s with | some y => !y.free | none => false)) s k t i.sz ho d1 d2 d3 d4 (by simp) (fun j hj => List.mem_cons_of_mem _ (List.mem_map.2 ⟨j, by simpa using hj, rfl⟩)) hs' (aggT_of hF hi hb) hsz hsl b3 b2 hpl (fun j hj => ?_) (fun s' hs' => ?_) (fun s' hs' => ?_)
            · rw [hcs] at this
              rw [eff_app, eff_dead]
              exact this
            · obtain ⟨x, hx1, hx2⟩ := l2 j hj
              by_cases hxf : x.free = true
              · refine .inr ?_
                rw [(hT.cellAt hx2 (by omega)).1]
                exact toV0_free x hxf
              · exact .inl (List.mem_filter.2 ⟨List.mem_map.2 ⟨j, by simpa using hj, rfl⟩, by rw [hx2]; simpa using hxf⟩)
            · obtain ⟨j, hj, rfl⟩ := hmem s' hs'
              obtain ⟨x, hx1, hx2⟩ := l2 j hj
              rw [hT.len]
              exact hT.lt hx2
            · obtain ⟨j, hj, rfl⟩ := hmem s' hs'
              exact ⟨(hpl j hj).1, List.mem_cons_of_mem _ (List.mem_map.2 ⟨j, by simpa using hj, rfl⟩)⟩
          · rcases List.mem_append.1 he with he | he
            · obtain ⟨s', hs', rfl⟩ := List.mem_map.1 he
              obtain ⟨j, hj, rfl⟩ := hmem s' hs'
              obtain ⟨x, hx1, hx2⟩ := l2 j hj
              exact ⟨hT.lt hx2, rfl⟩
            · simp at he; subst he; exact ⟨d6, rfl⟩
      · obtain ⟨y', hy', h⟩ := of_ob h
        obtain ⟨q1, q2, q3⟩ := hT.cellAt hy' b1
        have hkd : k ≠ d := by omega
        split at h
        · rename_i E c xs
          refine ⟨_, _, ?_, EOk.link d5 d6 rfl hkd, h⟩
          exact exec_load_alias s k t E c.n (xs.map (enc c)) ho d1 d2 d3 d4 (by simp) (by simp) hs' hkd (aggT_of hF hi hb) hsl q1
        · rename_i j
          refine ⟨_, _, ?_, EOk.one d6 rfl, h⟩
          exact exec_load_ptr s k j t ho d1 d2 d3 d4 (by simp) (by simp) hs' (aggT_of hF hi hb) hsl q1
        · rcases of_bif h with ⟨hf, h⟩ | ⟨_, h⟩
          · refine ⟨_, _, ?_, EOk.one d6 q2, h⟩
            simp only [ES.eff, List.map_cons, List.map_nil, toV_root q2]
            exact exec_load_at s k t _ ho d1 d2 d3 d4 (by simp) (by simp) hs' (aggT_of hF hi hb) hsl q1 (toV0_free _ hf)
          · cases h
    · cases h
  · rename_i r' sz j q hxy
    simp only at hxy
    rw [hxy] at hy
    obtain ⟨w, hw, h⟩ := of_ob h
    rcases of_bif h with ⟨hb2, h⟩ | ⟨_, h⟩
    · simp only [Bool.and_eq_true] at hb2
      have hwr := Nat.eq_of_beq_eq_true hb2.1
      have hws := Nat.eq_of_beq_eq_true hb2.2
      have hro := hT.slot (rootOf_own hw hwr) rfl rfl
      rw [own_toV0, hws] at hro
      obtain ⟨e, he, h⟩ := of_bind h
      obtain ⟨z, hz, h⟩ := of_ob h
      have hel : (w.xs.map (enc w.c))[j]? = some (enc w.c e) := by rw [List.getElem?_map, he]; rfl
      have hdr := dropT_of hz
      rcases of_bif h with ⟨hf, h⟩ | ⟨_, h⟩
      · rcases of_bif h with ⟨hb, h⟩ | ⟨hb, h⟩
        · obtain ⟨z', hz', h⟩ := of_ob h
          obtain ⟨t1, t2⟩ := takeT_of hz'
          refine ⟨_, _, ?_, EOk.one d6 rfl, h⟩
          exact exec_load_ref_agg s r' t i.sz w.E sz j q _ (enc w.c e) (enc z'.t z'.x) ho d1 d2 d3 d4 (by simp) (by simp) hs' (aggT_of hF hi hb) hsz (hT.ref hy) hro hel (by simp only at hdr; rw [← hdr, t1]; congr 1; omega) (by rw [enc_length, t2]; omega) (enc_drop_free hf hz')
        · obtain ⟨z', hz', h⟩ := of_ob h
          obtain ⟨c', cs, h1, h2, h3⟩ := take0 hz'
          refine ⟨_, _, ?_, EOk.one d6 rfl, h⟩
          have hg : (enc w.c e)[q]? = some c' := by
            have := congrArg (·[0]?) (hdr.symm.trans h1)
            simpa using this
          have := exec_load_ref (P := G.P) (C := C) (T := T0) (rd := [s, r']) s r' t w.E sz j q _ (enc w.c e) c' ho d1 d2 d3 d4 (by simp) (by simp) hs' (aggT_of hF hi hb) (hT.ref hy) hro hel hg (enc_all_free hf c' (by rw [h1]; simp))
          rw [← h3] at this
          exact this
      · exact ldDeep_snd hF hT ho hd hi hs' (.inl ⟨by rw [← hws]; rw [← hws] at hy; exact hT.ref hy, rfl⟩) (by rw [hro, ← hws]; rfl) (by rw [← hws] at *; exact hel) hdr K r h
    · cases h
  · rename_i r' pa j q E c xs hxy
    simp only at hxy
    rw [hxy] at hy
    obtain ⟨hx1, hx2⟩ := hT.refp hy
    obtain ⟨e, he, h⟩ := of_bind h
    obtain ⟨z, hz, h⟩ := of_ob h
    exact ldDeep_snd hF hT ho hd hi hs' (.inr hx1) hx2 (by rw [List.getElem?_map, he]; rfl) (dropT_of hz) K r h
  · cases h
end
end Go.Proofs.Ytepeoiimdefnpaa.Vm
namespace Go.Proofs.Ytepeoiimdefnpaa.Vm
open Go
open Go.RowKit (wrap64)
section
variable {G : GI} {C : Ctx} {T0 : St} {T : TS} {R : Type}
/-- An operand that is handed on: its value, what is read, the slots whose rows go with it. -/
structure HV where
  x : SV
  rd : List Nat
  src : List Nat
def opH (G : GI) (T : TS) : Operand → Option HV
  | .tmp s => bsel (s.blt G.nt) (match look? T s with
    | some (.v (.own E c) xs) => some ⟨.v (.own E c) xs, [s], [s]⟩
    | some (.al r) => match look? T r with
      | some (.v (.own E c) xs) => some ⟨.v (.own E c) xs, [s, r], [r]⟩
      | _ => none
    | some (.v t x) => bsel t.free (some ⟨.v t x, [s], []⟩) <| none
    | some (.agg t x) => bsel t.free (some ⟨.agg t x, [s], []⟩) <| some ⟨.agg t x, [s], [s]⟩
    | some .np => some ⟨.np, [s], []⟩
    | some (.kb b) => some ⟨.v .b b, [s], []⟩
    | _ => none) <| none
  | .const v => (litC v).ob fun x => some ⟨x, [], []⟩
  | _ => none
theorem opH_of (hF : Fit G C) (hT : Tells G.nt G.n T0 T) {y : Operand} {w : HV} (h : opH G T y = some w) : (∀ rd, (∀ t, t ∈ w.rd → t ∈ rd) → opV C T0 rd w.x.toV0 w.src y) ∧ w.x.root? = none ∧ (∀ s, s ∈ w.src → s < G.n) ∧ w.x.toV0.okc = true := by
  have vplain : ∀ (t : Ty) (x : t.den), (SV.v t x).toV0 ≠ .no ∧ (∀ k, (SV.v t x).toV0 ≠ .at_ k) ∧ (SV.v t x).toV0.root = none ∧ (SV.v t x).toV0.okc = true := fun t x => by
    cases t <;> first | exact ⟨by simp [SV.toV0, enc], fun _ => by simp [SV.toV0, enc], rfl, rfl⟩ | skip
    rename_i a r
    show (match enc (a.cons r) x with | [c] => c | cs => V.agg cs) ≠ .no ∧ (∀ k, (match enc (a.cons r) x with | [c] => c | cs => V.agg cs) ≠ .at_ k) ∧ (match enc (a.cons r) x with | [c] => c | cs => V.agg cs).root = none ∧ (match enc (a.cons r) x with | [c] => c | cs => V.agg cs).okc = true
    have hl := enc_length (a.cons r) x
    have h1 := a.n_pos
    have h2 := r.n_pos
    split
    · rename_i c hc; rw [hc] at hl; simp [Ty.n] at hl; omega
    · exact ⟨by simp, fun _ => by simp, rfl, rfl⟩
  unfold opH at h
  split at h
  · rename_i s
    rcases of_bif h with ⟨hb, h⟩ | ⟨_, h⟩
    · have hs := lt_blt hb
      have hs' : s < C.nt := by rw [hF.nt]; exact hs
      split at h
      · rename_i E c xs hx
        injection h with h
        subst h
        exact ⟨fun rd hrd => ⟨hrd s (by simp), hs', .inr (.inl ⟨hT.slot hx rfl rfl, by simp [own_toV0], fun _ => by simp [own_toV0], rfl, rfl⟩)⟩, rfl, fun t ht => by simp at ht; subst ht; exact hT.lt hx, rfl⟩
      · rename_i r hx
        split at h
        · rename_i E c xs hr
          injection h with h
          subst h
          exact ⟨fun rd hrd => ⟨hrd s (by simp), hs', .inr (.inr ⟨r, E, c.n, _, own_toV0, ⟨hs', hrd s (by simp), hrd r (by simp), hT.slot hr rfl rfl, .inr (hT.al hx)⟩, rfl⟩)⟩, rfl, fun t ht => by simp at ht; subst ht; exact hT.lt hr, rfl⟩
        · cases h
      · rename_i t x _ hx
        rcases of_bif h with ⟨hf, h⟩ | ⟨_, h⟩
        · injection h with h
          subst h
          exact ⟨fun rd hrd => ⟨hrd s (by simp), hs', .inl ⟨hT.slot hx rfl rfl, toV0_v_free hf, rfl⟩⟩, rfl, fun t ht => by simp at ht, (vplain t x).2.2.2⟩
        · cases h
      · rename_i t x hx
        rcases of_bif h with ⟨hf, h⟩ | ⟨_, h⟩
        · injection h with h
          subst h
          exact ⟨fun rd hrd => ⟨hrd s (by simp), hs', .inl ⟨hT.slot hx rfl rfl, enc_free t x hf, rfl⟩⟩, rfl, fun t ht => by simp at ht, rfl⟩
        · injection h with h
          subst h
          exact ⟨fun rd hrd => ⟨hrd s (by simp), hs', .inr (.inl ⟨hT.slot hx rfl rfl, by simp [SV.toV0], fun _ => by simp [SV.toV0], rfl, rfl⟩)⟩, rfl, fun t ht => by simp at ht; subst ht; exact hT.lt hx, rfl⟩
      · rename_i hx
        injection h with h
        subst h
        exact ⟨fun rd hrd => ⟨hrd s (by simp), hs', .inl ⟨hT.slot hx rfl rfl, rfl, rfl⟩⟩, rfl, fun t ht => by simp at ht, rfl⟩
      · rename_i b hx
        injection h with h
        subst h
        exact ⟨fun rd hrd => ⟨hrd s (by simp), hs', .inl ⟨(hT.slot (x := .kb b) hx rfl rfl : T0.at s = (SV.kb b).toV0), rfl, rfl⟩⟩, rfl, fun t ht => by simp at ht, rfl⟩
      · cases h
    · cases h
  · rename_i v
    obtain ⟨x, hx, h⟩ := of_ob h
    injection h with h
    subst h
    obtain ⟨e1, e2, e3⟩ := litC_of hx
    refine ⟨fun rd _ => ⟨e1, rfl⟩, e3, fun t ht => by simp at ht, ?_⟩
    show x.toV0.okc = true
    rw [e1]
    cases v <;> first | rfl | (simp [Value.oneCell'] at e2; done)
  · cases h
/-- A value's cells. -/
def leafs : (t : Ty) → t.den → List SV
  | .cons a r, x => .v a x.1 :: leafs r x.2
  | .i k, x => [.v (.i k) x]
  | .b, x => [.v .b x]
  | .s, x => [.v .s x]
  | .row f c, x => [.v (.row f c) x]
  | .own E c, x => [.v (.own E c) x]
  | .ptr f c, x => [.v (.ptr f c) x]
theorem leafs_of : ∀ {t : Ty} {x : t.den}, t.flat = true → (leafs t x).map SV.toV0 = enc t x ∧ ∀ y, y ∈ leafs t x → y.root? = none
  | .cons a r, x, h => by
    simp only [Ty.flat, Bool.and_eq_true] at h
    obtain ⟨h1, h2⟩ := leafs_of (t := r) (x := x.2) h.2
    obtain ⟨c, hc⟩ := enc_leaf h.1 x.1
    refine ⟨?_, fun y hy => ?_⟩
    · show (SV.v a x.1).toV0 :: (leafs r x.2).map SV.toV0 = enc a x.1 ++ enc r x.2
      rw [h1, hc]
      show (match enc a x.1 with | [c] => c | cs => V.agg cs) :: _ = _
      rw [hc]
      rfl
    · rcases List.mem_cons.1 hy with rfl | hy
      · rfl
      · exact h2 y hy
  | .i _, _, _ | .b, _, _ | .s, _, _ | .row _ _, _, _ | .own _ _, _, _ | .ptr _ _, _, _ => ⟨rfl, fun y hy => by simp [leafs] at hy; subst hy; rfl⟩
def cellsS : SV → Option (List SV)
  | .agg t x => bsel t.flat (some (leafs t x)) <| none
  | .v t x => bsel t.leaf (some [.v t x]) <| none
  | .np => some [.np]
  | _ => none
theorem cellsS_of {x : SV} {l : List SV} (h : cellsS x = some l) : x.toV0.cells = l.map SV.toV0 ∧ ∀ y, y ∈ l → y.root? = none := by
  unfold cellsS at h
  split at h
  · rename_i t x
    rcases of_bif h with ⟨hf, h⟩ | ⟨_, h⟩
    · injection h with h
      subst h
      obtain ⟨h1, h2⟩ := leafs_of (x := x) hf
      exact ⟨h1.symm, h2⟩
    · cases h
  · rename_i t x
    rcases of_bif h with ⟨hl, h⟩ | ⟨_, h⟩
    · injection h with h
      subst h
      refine ⟨?_, fun y hy => by simp at hy; subst hy; rfl⟩
      cases t <;> first | rfl | simp [Ty.leaf] at hl
    · cases h
  · injection h with h
    subst h
    exact ⟨rfl, fun y hy => by simp at hy; subst hy; rfl⟩
  · cases h
/-- One cell of a struct is another. -/
def castV (t : Ty) : SV → Option t.den
  | .v t' x => match decEq t' t with
    | .isTrue h => some (h ▸ x)
    | .isFalse _ => none
  | _ => none
theorem castV_of {t : Ty} {v : SV} {x : t.den} (h : castV t v = some x) : v = .v t x := by
  unfold castV at h
  split at h
  · split at h
    · rename_i e _; subst e; injection h with h; subst h; rfl
    · cases h
  · cases h
def setC : (t : Ty) → t.den → Nat → SV → Option t.den
  | .cons a _, x, 0, v => bsel a.leaf ((castV a v).ob fun u => some (u, x.2)) <| none
  | .cons a r, x, n + 1, v => bsel a.leaf ((setC r x.2 n v).ob fun y => some (x.1, y)) <| none
  | t, _, 0, v => bsel t.leaf (castV t v) <| none
  | _, _, _ + 1, _ => none
theorem enc_v {t : Ty} {x : t.den} (h : t.leaf = true) : enc t x = [(SV.v t x).toV0] := by
  obtain ⟨c, hc⟩ := enc_leaf h x
  rw [hc]
  show [c] = [match enc t x with | [c] => c | cs => V.agg cs]
  rw [hc]
theorem setC_of : ∀ {t : Ty} {x : t.den} {n : Nat} {v : SV} {y : t.den}, setC t x n v = some y → enc t y = (enc t x).set n v.toV0 ∧ n < t.n
  | .cons a r, x, 0, v, y, h => by
    rcases of_bif h with ⟨hl, h⟩ | ⟨_, h⟩
    · obtain ⟨u, hu, h⟩ := of_ob h
      injection h with h
      subst h
      have hv := castV_of hu
      refine ⟨?_, (Ty.cons a r).n_pos⟩
      show enc a u ++ enc r x.2 = (enc a x.1 ++ enc r x.2).set 0 v.toV0
      rw [enc_v hl, enc_v hl, hv]
      rfl
    · cases h
  | .cons a r, x, n + 1, v, y, h => by
    rcases of_bif h with ⟨hl, h⟩ | ⟨_, h⟩
    · obtain ⟨u, hu, h⟩ := of_ob h
      injection h with h
      subst h
      obtain ⟨h1, h2⟩ := setC_of hu
      have := a.n_pos
      refine ⟨?_, by simp only [Ty.n]; omega⟩
      show enc a x.1 ++ enc r u = (enc a x.1 ++ enc r x.2).set (n + 1) v.toV0
      rw [enc_v hl, h1]
      rfl
    · cases h
  | .i _, x, 0, v, y, h | .b, x, 0, v, y, h | .s, x, 0, v, y, h | .row _ _, x, 0, v, y, h | .own _ _, x, 0, v, y, h | .ptr _ _, x, 0, v, y, h => by
    have hv := castV_of (h : castV _ v = some y)
    refine ⟨?_, Ty.n_pos _⟩
    rw [hv]
    rfl
  | .i _, _, n + 1, _, _, h | .b, _, n + 1, _, _, h | .s, _, n + 1, _, _, h | .row _ _, _, n + 1, _, _, h | .own _ _, _, n + 1, _, _, h | .ptr _ _, _, n + 1, _, _, h => by cases h
def setCs (t : Ty) : List SV → t.den → Nat → Option t.den
  | [], x, _ => some x
  | v :: l, x, n => (setC t x n v).ob fun y => setCs t l y (n + 1)
theorem setCs_of {t : Ty} : ∀ {l : List SV} {x y : t.den} {n : Nat}, setCs t l x n = some y → enc t y = lay (enc t x) n (l.map SV.toV0) ∧ (l = [] ∨ n + l.length ≤ t.n)
  | [], x, y, n, h => by injection h with h; subst h; exact ⟨rfl, .inl rfl⟩
  | v :: l, x, y, n, h => by
    obtain ⟨z, hz, h⟩ := of_ob h
    obtain ⟨h1, h2⟩ := setC_of hz
    obtain ⟨h3, h4⟩ := setCs_of h
    refine ⟨by rw [h3, h1]; rfl, .inr ?_⟩
    rcases h4 with rfl | h4
    · simp; omega
    · simp; omega
def apartE (src : List Nat) (k m : Nat) : Bool := src.all fun s => s.blt k || (k + m).ble s
theorem apartE_of {src : List Nat} {k m : Nat} (h : apartE src k m = true) : ∀ s, s ∈ src → s < k ∨ k + m ≤ s := fun s hs => by
  have := List.all_eq_true.1 h s hs
  simp only [Bool.or_eq_true] at this
  exact this.imp lt_blt Nat.le_of_ble_eq_true
/-- Behind a path a row is another. -/
def setS (f : (E : Nat) → (c : Ty) → List c.den → (List c.den → Option R) → Option R) : (E : Nat) → (c : Ty) → List c.den → List (Nat × Nat × Nat) → (List c.den → Option R) → Option R
  | E, c, xs, [], K => f E c xs K
  | _, c, xs, q :: pa, K => bsel (c.n.beq q.1) ((xs[q.2.1]?).bind fun e => (dropT q.2.2 ⟨c, e⟩).ob fun z => (takeT 0 z).ob fun u => match u with
    | ⟨.own E' c', xs'⟩ => setS f E' c' xs' pa fun ys => (setC c e q.2.2 (.v (.own E' c') ys)).ob fun e' => K (xs.set q.2.1 e')
    | _ => none) <| none
theorem setS_of {f : (E : Nat) → (c : Ty) → List c.den → (List c.den → Option R) → Option R} : ∀ {pa : List (Nat × Nat × Nat)} {E : Nat} {c : Ty} {xs : List c.den} {K : List c.den → Option R} {r : R}, setS f E c xs pa K = some r →
    ∃ (E' : Nat) (c' : Ty) (xs' : List c'.den) (K' : List c'.den → Option R), f E' c' xs' K' = some r ∧ (V.own E c.n (xs.map (enc c))).getp pa = some (.own E' c'.n (xs'.map (enc c'))) ∧ ∀ ys r', K' ys = some r' → ∃ zs, K zs = some r' ∧ V.own E c.n (zs.map (enc c)) = (V.own E c.n (xs.map (enc c))).setp pa (.own E' c'.n (ys.map (enc c')))
  | [], E, c, xs, K, r, h => ⟨E, c, xs, K, h, rfl, fun ys r' h' => ⟨ys, h', rfl⟩⟩
  | q :: pa, E, c, xs, K, r, h => by
    rcases of_bif h with ⟨hn, h⟩ | ⟨_, h⟩
    · have hn' := Nat.eq_of_beq_eq_true hn
      obtain ⟨e, he, h⟩ := of_bind h
      obtain ⟨z, hz, h⟩ := of_ob h
      obtain ⟨u, hu, h⟩ := of_ob h
      split at h
      · rename_i E1 c1 xs1
        obtain ⟨c0, cs, h1, h2, h3⟩ := take0 hu
        have hdr := dropT_of hz
        have e0 : c0 = .own E1 c1.n (xs1.map (enc c1)) := by
          have h2' : [V.own E1 c1.n (xs1.map (enc c1))] = [c0] := h2
          injection h2' with h2'
          exact h2'.symm
        have hg0 : (enc c e)[q.2.2]? = some (.own E1 c1.n (xs1.map (enc c1))) := by
          have := congrArg (·[0]?) (hdr.symm.trans h1)
          rw [← e0]
          simpa using this
        have hlt : q.2.2 < c.n := by
          have := (List.getElem?_eq_some_iff.1 hg0).1
          rwa [enc_length] at this
        have hel : (xs.map (enc c))[q.2.1]? = some (enc c e) := by rw [List.getElem?_map, he]; rfl
        obtain ⟨E', c', xs', K', f1, f2, f3⟩ := setS_of h
        refine ⟨E', c', xs', K', f1, ?_, fun ys r' hk => ?_⟩
        · rw [V.getp, if_pos ⟨hn'.symm, hlt⟩, hel, Option.bind_some, hg0, Option.bind_some]
          exact f2
        · obtain ⟨zs, hzs, g2⟩ := f3 ys r' hk
          obtain ⟨e', he', hzs⟩ := of_ob hzs
          obtain ⟨s1, s2⟩ := setC_of he'
          refine ⟨_, hzs, ?_⟩
          simp only [V.setp, hel, hg0]
          rw [← row_set, s1, ← g2]
          rfl
      · cases h
    · cases h
/-- One element's cells are others. -/
def stF (l : List SV) (j q : Nat) (_ : Nat) (c : Ty) (xs : List c.den) (K : List c.den → Option R) : Option R := (xs[j]?).bind fun e => (setCs c l e q).ob fun e' => K (xs.set j e')
/-- A store. -/
def stStore (G : GI) (o : Oper) (t : TypeId) (x y : Operand) (T : TS) (K : Rn R) : Option R := match o.dst with
  | some _ => none
  | none => (tiOf G.tt t).ob fun i => (slotO G.nt T x).ob fun p => (opH G T y).ob fun w => (cellsS w.x).ob fun l => bsel (l.length.beq i.sz) ((match p.2 with
    | .at_ k => (cellsO T k i.sz).ob fun _ => bsel (atOk G k i.sz && apartE w.src k i.sz) (K (p.1 :: (w.rd ++ (List.range i.sz).map (k + ·))) (deadE w.src ++ stE k l)) <| none
    | .ref r sz j q => (rootOf G.n T r).ob fun u => bsel (u.r.beq r && u.c.n.beq sz && apartE w.src r 1 && (l.all fun z => z.toV0.shr)) ((u.xs[j]?).bind fun e => (setCs u.c l e q).ob fun e' => K (p.1 :: r :: w.rd) (deadE w.src ++ [(r, u.c.free, .v (.own u.E u.c) (u.xs.set j e'))])) <| none
    | .dp r (.refp pa j q _ _ _) => (rootOf G.n T r).ob fun u => bsel (u.r.beq r && w.src.isEmpty && (l.all fun z => z.toV0.shr)) (setS (stF l j q) u.E u.c u.xs pa fun zs => K (p.1 :: r :: w.rd) [(r, false, .v (.own u.E u.c) zs)]) <| none
    | _ => none)) <| none
theorem EOk.dead {src : List Nat} {E : ES} (hs : ∀ s, s ∈ src → s < G.n) (hE : ∀ e, e ∈ E → e.1 < G.n ∧ e.2.2.root? = none) : EOk G.nt G.n T0 (deadE src ++ E) := .inl fun e he => by
  rcases List.mem_append.1 he with he | he
  · obtain ⟨s, h, rfl⟩ := List.mem_map.1 he
    exact ⟨hs s h, rfl⟩
  · exact hE e he
theorem stStore_snd (hF : Fit G C) (hT : Tells G.nt G.n T0 T) {o : Oper} {t : TypeId} {x y : Operand} (ho : o.op = .store t x y) : Snd (R := R) G C T0 o (stStore G o t x y T) := by
  intro K r h
  unfold stStore at h
  split at h
  · cases h
  · rename_i hdst
    obtain ⟨i, hi, h⟩ := of_ob h
    obtain ⟨⟨s, z⟩, hp, h⟩ := of_ob h
    obtain ⟨e1, hs, hz⟩ := slotO_of hp
    rw [e1] at ho
    have hs' : s < C.nt := by rw [hF.nt]; exact hs
    obtain ⟨w, hw, h⟩ := of_ob h
    obtain ⟨w1, w2, w3, w4⟩ := opH_of hF hT hw
    obtain ⟨l, hl, h⟩ := of_ob h
    obtain ⟨l1, l2⟩ := cellsS_of hl
    rcases of_bif h with ⟨hlen, h⟩ | ⟨_, h⟩
    · have hlen' := Nat.eq_of_beq_eq_true hlen
      have hsz := hF.size hi
      have hcl : w.x.toV0.cells.length = i.sz := by rw [l1]; simpa using hlen'
      split at h
      · rename_i k hxy
        simp only at hxy
        rw [hxy] at hz
        obtain ⟨l', hl', h⟩ := of_ob h
        obtain ⟨c1, c2⟩ := cellsO_of hl'
        rcases of_bif h with ⟨hb, h⟩ | ⟨_, h⟩
        · simp only [Bool.and_eq_true] at hb
          obtain ⟨b1, b2, b3⟩ := atOk_of hF hb.1
          have hkl : ∀ j, j < i.sz → k + j < G.n := fun j hj => by
            obtain ⟨x, _, hx2⟩ := c2 j hj
            exact hT.lt hx2
          have hpos : 0 < i.sz := by rw [(hF.ti hi).pos]; trivial
          refine ⟨_, _, ?_, EOk.dead w3 fun e he => ?_, h⟩
          · rw [eff_app, eff_dead, eff_st k l l2, ← l1]
            exact exec_store_at s k t i.sz y _ w.src ho hdst (by simp) hs' (hT.slot hz rfl rfl) hsz (w1 _ fun t ht => by simp [ht]) w4 hcl (fun j hj => by
              obtain ⟨x, _, hx2⟩ := c2 j hj
              exact ⟨List.mem_cons_of_mem _ (List.mem_append_right _ (List.mem_map.2 ⟨j, by simpa using hj, rfl⟩)), (hT.cellAt hx2 (by omega)).2.2, b3 j hj⟩) b2 (by rw [hT.len]; have := hkl (i.sz - 1) (by omega); omega) fun s' hs' => ⟨by rw [hT.len]; exact w3 s' hs', apartE_of hb.2 s' hs'⟩
          · obtain ⟨h1, h2, h3⟩ := mem_stE he
            refine ⟨?_, l2 _ h3⟩
            have := hkl (e.1 - k) (by omega)
            omega
        · cases h
      · rename_i r' sz j q hxy
        simp only at hxy
        rw [hxy] at hz
        obtain ⟨u, hu, h⟩ := of_ob h
        rcases of_bif h with ⟨hb, h⟩ | ⟨_, h⟩
        · simp only [Bool.and_eq_true] at hb
          have hwr := Nat.eq_of_beq_eq_true hb.1.1.1
          have hws := Nat.eq_of_beq_eq_true hb.1.1.2
          obtain ⟨e, he, h⟩ := of_bind h
          obtain ⟨e', he', h⟩ := of_ob h
          have hro0 := rootOf_own hu hwr
          have hro := hT.slot hro0 rfl rfl
          rw [own_toV0, hws] at hro
          obtain ⟨s1, s2⟩ := setCs_of he'
          have hne : l ≠ [] := fun e => by
            have hpos : 0 < i.sz := by rw [(hF.ti hi).pos]; trivial
            rw [e] at hlen'
            simp at hlen'
            omega
          refine ⟨_, _, ?_, EOk.dead w3 fun e he => ?_, h⟩
          · rw [eff_app, eff_dead]
            have := exec_store_ref (P := G.P) (C := C) (T := T0) (rd := s :: r' :: w.rd) s r' t i.sz u.E sz j q y _ w.src _ (enc u.c e) u.c.free (fun hf e he => by obtain ⟨x, _, rfl⟩ := List.mem_map.1 he; exact enc_free u.c x hf) ho hdst (by simp) (by simp) hs' (hT.ref hz) hro (by rw [hT.len]; exact hT.lt hro0) (by rw [List.getElem?_map, he]; rfl) hsz (w1 _ fun t ht => by simp [ht]) w4 (fun c hc => by
              rw [l1] at hc
              obtain ⟨z', hz', rfl⟩ := List.mem_map.1 hc
              exact List.all_eq_true.1 hb.2 z' hz') hcl (by have := s2.resolve_left hne; rw [hws, hlen'] at this; exact this) fun s' hs' => ⟨by rw [hT.len]; exact w3 s' hs', by have := apartE_of hb.1.2 s' hs'; omega⟩
            rw [l1, ← s1, row_set] at this
            simp only [ES.eff, List.map_cons, List.map_nil, SV.toV, own_toV0, hws]
            exact this
          · simp at he
            subst he
            exact ⟨hT.lt hro0, rfl⟩
        · cases h
      · rename_i r' pa j q E0 c0 xs0 hxy
        simp only at hxy
        rw [hxy] at hz
        obtain ⟨hx1, hx2⟩ := hT.refp hz
        obtain ⟨u, hu, h⟩ := of_ob h
        rcases of_bif h with ⟨hb, h⟩ | ⟨_, h⟩
        · simp only [Bool.and_eq_true] at hb
          have hwr := Nat.eq_of_beq_eq_true hb.1.1
          have hsrc : w.src = [] := List.isEmpty_iff.1 hb.1.2
          have hro0 := rootOf_own hu hwr
          have hro := hT.slot hro0 rfl rfl
          rw [own_toV0] at hro
          obtain ⟨E', c', xs', K', f1, f2, f3⟩ := setS_of h
          obtain ⟨e, he, f1⟩ := of_bind f1
          obtain ⟨e', he', f1⟩ := of_ob f1
          obtain ⟨zs, g1, g2⟩ := f3 _ _ f1
          obtain ⟨s1, s2⟩ := setCs_of he'
          have hne : l ≠ [] := fun e => by
            have hpos : 0 < i.sz := by rw [(hF.ti hi).pos]; trivial
            rw [e] at hlen'
            simp at hlen'
            omega
          have hcn : c'.n = c0.n ∧ E' = E0 := by
            rw [hro, f2] at hx2
            injection hx2 with hx2
            injection hx2 with a b
            exact ⟨b, a⟩
          refine ⟨_, _, ?_, EOk.one (hT.lt hro0) rfl, g1⟩
          have := exec_store_refp (P := G.P) (C := C) (T := T0) (rd := s :: r' :: w.rd) s r' t i.sz E' c'.n j q pa y w.x.toV0 (xs'.map (enc c')) (enc c' e) ho hdst (by simp) (by simp) hs' (by rw [hcn.1]; exact hx1) (by rw [hro]; rfl) (by rw [hT.len]; exact hT.lt hro0) (by rw [hro]; exact f2) (by rw [List.getElem?_map, he]; rfl) hsz (hsrc ▸ w1 (s :: r' :: w.rd) fun t ht => by simp [ht]) w4 (fun c hc => by
              rw [l1] at hc
              obtain ⟨z', hz', rfl⟩ := List.mem_map.1 hc
              exact List.all_eq_true.1 hb.2 z' hz') hcl (by have := s2.resolve_left hne; rw [hlen'] at this; exact this)
          rw [l1, ← s1, row_set, hro, ← g2] at this
          simp only [ES.eff, List.map_cons, List.map_nil, SV.toV, own_toV0]
          exact this
        · cases h
      · cases h
    · cases h
/-- Where a box's cells are slots. -/
def bxOf : List (Nat × Nat × Nat) → Nat → Option (Nat × Nat)
  | [], _ => none
  | q :: l, d => bsel (q.1.beq d) (some q.2) <| bxOf l d
def noneAt (T : TS) (k m : Nat) : Bool := (List.range m).all fun j => match look? T (k + j) with
  | none => true
  | some _ => false
theorem noneAt_of {T : TS} {k m : Nat} (h : noneAt T k m = true) {j : Nat} (hj : j < m) : look? T (k + j) = none := by
  have := range_all h hj
  split at this
  · assumption
  · cases this
def newOk (G : GI) (T : TS) (k m : Nat) : Bool := G.nt.ble k && (k + m).ble G.n && inGrp G.g k k m && grpOk G.g k m && noneAt T k m && (0).blt m
theorem newOk_of (hF : Fit G C) (hT : Tells G.nt G.n T0 T) {k m : Nat} (h : newOk G T k m = true) : C.nt ≤ k ∧ k + m ≤ T0.length ∧ 0 < m ∧ (∀ j, j < m → T0.at (k + j) = .no ∧ C.base (k + j) = k) ∧ (∀ s, k ≤ C.base s → C.base s < k + m → k ≤ s ∧ s < k + m) ∧ G.nt ≤ k ∧ k + m ≤ G.n := by
  simp only [newOk, Bool.and_eq_true] at h
  obtain ⟨⟨⟨⟨⟨h1, h2⟩, h3⟩, h4⟩, h5⟩, h6⟩ := h
  have h1' := Nat.le_of_ble_eq_true h1
  have h2' := Nat.le_of_ble_eq_true h2
  refine ⟨by rw [hF.nt]; exact h1', by rw [hT.len]; exact h2', lt_blt h6, fun j hj => ⟨hT.no _ (by omega) (by omega) (noneAt_of h5 hj), by rw [hF.base]; exact inGrp_of h3 hj⟩, ?_, h1', h2'⟩
  rw [hF.base]
  exact grp_of (N := 0) (g := G.g) (pin := noPin) (w0 := default) (S := Foot.none) (B := Foot.none) (may := Foot.none) h4
/-- A variable's box. -/
def stAlloc (G : GI) (o : Oper) (t : TypeId) (T : TS) (K : Rn R) : Option R := (dOk G o).ob fun d => (tiOf G.tt t).ob fun i => (bxOf G.bx d).ob fun q => bsel (q.2.beq i.z0.length && newOk G T q.1 q.2 && (i.z0.all fun x => match x.root? with | none => true | some _ => false)) (K ((List.range q.2).map (q.1 + ·)) (stE q.1 i.z0 ++ [(d, false, .at_ q.1)])) <| none
theorem allRoot {l : List SV} (h : (l.all fun x => match x.root? with | none => true | some _ => false) = true) : ∀ x, x ∈ l → x.root? = none := fun x hx => by
  have := List.all_eq_true.1 h x hx
  split at this
  · assumption
  · cases this
theorem stAlloc_snd (hF : Fit G C) (hT : Tells G.nt G.n T0 T) {o : Oper} {t : TypeId} (ho : o.op = .alloc t) : Snd (R := R) G C T0 o (stAlloc G o t T) := by
  intro K r h
  unfold stAlloc at h
  obtain ⟨d, hd, h⟩ := of_ob h
  obtain ⟨d1, d2, d3, d4, d5, d6⟩ := dOk_of hF hT hd
  obtain ⟨i, hi, h⟩ := of_ob h
  obtain ⟨⟨k, m⟩, hq, h⟩ := of_ob h
  rcases of_bif h with ⟨hb, h⟩ | ⟨_, h⟩
  · simp only [Bool.and_eq_true] at hb
    have hm := Nat.eq_of_beq_eq_true hb.1.1
    have hroot := allRoot hb.2
    obtain ⟨b1, b2, b3, b4, b5, b6, b7⟩ := newOk_of hF hT hb.1.2
    have hlen : (i.z0.map SV.toV0).length = m := by simp only [List.length_map]; exact hm.symm
    refine ⟨_, _, ?_, .inl fun e he => ?_, h⟩
    · rw [eff_app, eff_st k _ hroot]
      exact exec_alloc t k i.z (i.z0.map SV.toV0) ho d1 d2 d3 d4 (by
        obtain ⟨j, h1, h2⟩ := Option.map_eq_some_iff.1 (hF.ti hi).info
        rw [h1]
        simp only [Prod.mk.injEq] at h2
        simp [h2.1]) (hF.ti hi).z0 b1 (by rw [hlen]; exact b2) (by rw [hlen]; exact b3) (fun j hj => by
        rw [hlen] at hj
        exact ⟨List.mem_map.2 ⟨j, by simpa using hj, rfl⟩, b4 j hj⟩) (by rw [hlen]; exact b5)
    · rcases List.mem_append.1 he with he | he
      · obtain ⟨h1, h2, h3⟩ := mem_stE he
        have hm' : m = _ := hm
        exact ⟨by omega, hroot _ h3⟩
      · simp at he; subst he; exact ⟨d6, rfl⟩
  · cases h
/-- A value is boxed. -/
def stBox (G : GI) (o : Oper) (y : Operand) (T : TS) (K : Rn R) : Option R := (dOk G o).ob fun d => (opH G T y).ob fun w => (cellsS w.x).ob fun l => (bxOf G.bx d).ob fun q => bsel (q.2.beq l.length && newOk G T q.1 q.2 && apartE w.src d 1) (K (w.rd ++ (List.range q.2).map (q.1 + ·)) (deadE w.src ++ (stE q.1 l ++ [(d, false, .at_ q.1)]))) <| none
theorem stBox_snd (hF : Fit G C) (hT : Tells G.nt G.n T0 T) {o : Oper} {t : TypeId} {y : Operand} (ho : o.op = .box t y) : Snd (R := R) G C T0 o (stBox G o y T) := by
  intro K r h
  unfold stBox at h
  obtain ⟨d, hd, h⟩ := of_ob h
  obtain ⟨d1, d2, d3, d4, d5, d6⟩ := dOk_of hF hT hd
  obtain ⟨w, hw, h⟩ := of_ob h
  obtain ⟨w1, w2, w3, w4⟩ := opH_of hF hT hw
  obtain ⟨l, hl, h⟩ := of_ob h
  obtain ⟨l1, l2⟩ := cellsS_of hl
  obtain ⟨⟨k, m⟩, hq, h⟩ := of_ob h
  rcases of_bif h with ⟨hb, h⟩ | ⟨_, h⟩
  · simp only [Bool.and_eq_true] at hb
    have hm := Nat.eq_of_beq_eq_true hb.1.1
    obtain ⟨b1, b2, b3, b4, b5, b6, b7⟩ := newOk_of hF hT hb.1.2
    have hlen : w.x.toV0.cells.length = m := by rw [l1]; simp only [List.length_map]; exact hm.symm
    refine ⟨_, _, ?_, EOk.dead w3 fun e he => ?_, h⟩
    · rw [eff_app, eff_dead, eff_app, eff_st k _ l2, ← l1, ← List.append_assoc]
      exact exec_box t k y _ w.src ho d1 d2 d3 d4 (w1 _ fun t ht => by simp [ht]) w4 b1 (by rw [hlen]; exact b2) (by rw [hlen]; exact b3) (fun j hj => by
        rw [hlen] at hj
        exact ⟨List.mem_append_right _ (List.mem_map.2 ⟨j, by simpa using hj, rfl⟩), b4 j hj⟩) (by rw [hlen]; exact b5) fun s hs => ⟨by rw [hT.len]; exact w3 s hs, by have := apartE_of hb.2 s hs; omega⟩
    · rcases List.mem_append.1 he with he | he
      · obtain ⟨h1, h2, h3⟩ := mem_stE he
        have hm' : m = _ := hm
        exact ⟨by omega, l2 _ h3⟩
      · simp at he; subst he; exact ⟨d6, rfl⟩
  · cases h
end
end Go.Proofs.Ytepeoiimdefnpaa.Vm
namespace Go.Proofs.Ytepeoiimdefnpaa.Vm
open Go
open Go.RowKit (wrap64)
section
variable {G : GI} {C : Ctx} {T0 : St} {T : TS} {R : Type}
/-- Cells laid over cells. -/
def layS (cs : List SV) (off : Nat) : List SV → List SV
  | [] => cs
  | x :: xs => layS (cs.set off x) (off + 1) xs
theorem layS_of : ∀ (xs cs : List SV) (off : Nat), (layS cs off xs).map SV.toV0 = lay (cs.map SV.toV0) off (xs.map SV.toV0) ∧ (layS cs off xs).length = cs.length
  | [], _, _ => ⟨rfl, rfl⟩
  | x :: xs, cs, off => by
    obtain ⟨h1, h2⟩ := layS_of xs (cs.set off x) (off + 1)
    refine ⟨?_, by show (layS (cs.set off x) (off + 1) xs).length = _; rw [h2, List.length_set]⟩
    show (layS (cs.set off x) (off + 1) xs).map SV.toV0 = lay ((cs.map SV.toV0).set off x.toV0) (off + 1) (xs.map SV.toV0)
    rw [h1]
    congr 1
    exact List.map_set
/-- What is built: its cells, what is read, the slots that go with it, the parts. -/
structure BV where
  cs : List SV
  rd : List Nat
  src : List Nat
  us : List (V × List Nat)
def buildL (G : GI) (T : TS) (pl : Nat → Option (Nat × Nat)) : List (Nat × Operand) → BV → Option BV
  | [], b => some b
  | p :: ps, b => (opH G T p.2).ob fun w => (cellsS w.x).ob fun l => (pl p.1).ob fun q => bsel (q.2.beq l.length && (q.1 + q.2).ble b.cs.length && (w.src.all fun s => !b.src.contains s)) (buildL G T pl ps ⟨layS b.cs q.1 l, b.rd ++ w.rd, b.src ++ w.src, b.us ++ [(w.x.toV0, w.src)]⟩) <| none
theorem buildL_of (hF : Fit G C) (hT : Tells G.nt G.n T0 T) {pl : Nat → Option (Nat × Nat)} : ∀ {ps : List (Nat × Operand)} {b b' : BV}, buildL G T pl ps b = some b' →
    ∃ us, b'.us = b.us ++ us ∧ b'.src = b.src ++ srcs us ∧ (∀ t, t ∈ b.rd → t ∈ b'.rd) ∧ b'.cs.map SV.toV0 = layAll pl (b.cs.map SV.toV0) ps us ∧ b'.cs.length = b.cs.length ∧ (∀ s, s ∈ srcs us → s < G.n) ∧
      ∀ (rd used : List Nat) (cs : List V), (∀ t, t ∈ b'.rd → t ∈ rd) → (∀ s, s ∈ used → s ∈ b.src) → parts C T0 rd pl b.cs.length used cs ps us
  | [], b, b', h => by
    injection h with h
    subst h
    exact ⟨[], by simp, by simp [srcs], fun _ h => h, rfl, rfl, fun s hs => by simp [srcs] at hs, fun _ _ _ _ _ => trivial⟩
  | (i, y) :: ps, b, b', h => by
    obtain ⟨w, hw, h⟩ := of_ob h
    obtain ⟨l, hl, h⟩ := of_ob h
    obtain ⟨⟨off, m⟩, hq, h⟩ := of_ob h
    rcases of_bif h with ⟨hb, h⟩ | ⟨_, h⟩
    · simp only [Bool.and_eq_true] at hb
      obtain ⟨w1, w2, w3, w4⟩ := opH_of hF hT hw
      obtain ⟨l1, l2⟩ := cellsS_of hl
      have hm := Nat.eq_of_beq_eq_true hb.1.1
      have hle := Nat.le_of_ble_eq_true hb.1.2
      obtain ⟨e1, e2⟩ := layS_of l b.cs off
      obtain ⟨us, u1, u2, u3, u4, u5, u6, u7⟩ := buildL_of hF hT h
      have hcl : w.x.toV0.cells.length = m := by rw [l1, List.length_map]; exact hm.symm
      simp only at u1 u2 u3 u4 u5 u7
      rw [e2] at u5 u7
      refine ⟨(w.x.toV0, w.src) :: us, by rw [u1]; simp, by rw [u2]; simp [srcs], fun t ht => u3 t (List.mem_append_left _ ht), ?_, u5, fun s hs => ?_, fun rd used cs hrd hus => ?_⟩
      · rw [u4, e1]
        show layAll pl (lay (b.cs.map SV.toV0) off (l.map SV.toV0)) ps us = layAll pl (lay (b.cs.map SV.toV0) ((pl i).getD (0, 0)).1 w.x.toV0.cells) ps us
        rw [hq, l1]
        rfl
      · simp only [srcs] at hs
        rcases List.mem_append.1 hs with hs | hs
        · exact w3 s hs
        · exact u6 s hs
      · refine ⟨⟨off, by rw [hq, hcl], by rw [hcl]; exact hle⟩, w1 rd fun t ht => hrd t (u3 t (List.mem_append_right _ ht)), w4, fun s hs => ⟨fun hu => ?_, by rw [hT.len]; exact w3 s hs⟩, u7 rd _ cs hrd fun s hs => ?_⟩
        · have := List.all_eq_true.1 hb.2 s hs
          simp only [Bool.not_eq_true'] at this
          have h2 := List.contains_iff_mem.2 (hus s hu)
          rw [h2] at this
          cases this
        · rcases List.mem_append.1 hs with hs | hs
          · exact List.mem_append_right _ hs
          · exact List.mem_append_left _ (hus s hs)
    · cases h
/-- A struct's value is built. -/
def stBuild (G : GI) (o : Oper) (t : TypeId) (ps : Array (Nat × Operand)) (T : TS) (K : Rn R) : Option R := (dOk G o).ob fun d => (tiOf G.tt t).ob fun i => bsel i.fs.isEmpty none <| (buildL G T (fun f => (i.fs[f]?).bind fun q => some (q.1, q.2.2)) ps.toList ⟨i.z0, [], [], []⟩).ob fun b => (packT b.cs).ob fun z => K b.rd (deadE b.src ++ [(d, false, .agg z.t z.x)])
theorem stBuild_snd (hF : Fit G C) (hT : Tells G.nt G.n T0 T) {o : Oper} {t : TypeId} {ps : Array (Nat × Operand)} (ho : o.op = .build t ps) : Snd (R := R) G C T0 o (stBuild G o t ps T) := by
  intro K r h
  unfold stBuild at h
  obtain ⟨d, hd, h⟩ := of_ob h
  obtain ⟨d1, d2, d3, d4, d5, d6⟩ := dOk_of hF hT hd
  obtain ⟨i, hi, h⟩ := of_ob h
  rcases of_bif h with ⟨_, h⟩ | ⟨hfs, h⟩
  · cases h
  · obtain ⟨b, hb, h⟩ := of_ob h
    obtain ⟨z, hz, h⟩ := of_ob h
    obtain ⟨us, u1, u2, u3, u4, u5, u6, u7⟩ := buildL_of hF hT hb
    obtain ⟨z1, z2, z3⟩ := packT_of hz
    simp only [List.nil_append] at u1 u2
    have hpl : places G.P t = some (i.fs.map fun q => (q.1, q.2.2)).toArray := by
      have := (hF.ti hi).pl
      cases hf : i.fs with
      | nil => rw [hf] at hfs; simp at hfs
      | cons q l => rw [hf] at this; exact this
    have hple : (fun f => (i.fs[f]?).bind fun q : Nat × Bool × Nat => some (q.1, q.2.2)) = fun f : Nat => ((i.fs.map fun q => (q.1, q.2.2)).toArray)[f]? := by
      funext f
      rw [List.getElem?_toArray, List.getElem?_map]
      cases i.fs[f]? <;> rfl
    refine ⟨_, _, ?_, EOk.dead (fun s hs => u6 s (by rw [← u2]; exact hs)) fun e he => by simp at he; subst he; exact ⟨d6, rfl⟩, h⟩
    rw [eff_app, eff_dead, u2]
    have := exec_build (P := G.P) (C := C) (T := T0) (rd := b.rd) t ps _ i.z (i.z0.map SV.toV0) us ho d1 d2 d3 d4 (by
      obtain ⟨j, h1, h2⟩ := Option.map_eq_some_iff.1 (hF.ti hi).info
      rw [h1]
      simp only [Prod.mk.injEq] at h2
      simp [h2.1]) (hF.ti hi).z0 hpl (by
        rw [← hple, List.length_map]
        exact u7 b.rd [] _ (fun _ h => h) fun s hs => by simp at hs)
    rw [← hple, ← u4, ← z1] at this
    exact this
/-- Cells, n at a time, as elements. -/
def packAs : (t : Ty) → List SV → Option (t.den × List SV)
  | .cons a r, v :: l => bsel a.leaf ((castV a v).ob fun x => (packAs r l).ob fun y => some ((x, y.1), y.2)) <| none
  | .cons _ _, [] => none
  | t, v :: l => (castV t v).ob fun x => some (x, l)
  | _, [] => none
theorem packAs_of : ∀ {t : Ty} {l : List SV} {p : t.den × List SV}, packAs t l = some p → l.map SV.toV0 = enc t p.1 ++ p.2.map SV.toV0
  | .cons a r, v :: l, p, h => by
    rcases of_bif h with ⟨hl, h⟩ | ⟨_, h⟩
    · obtain ⟨x, hx, h⟩ := of_ob h
      obtain ⟨y, hy, h⟩ := of_ob h
      injection h with h
      subst h
      rw [castV_of hx, List.map_cons, packAs_of hy]
      show _ = (enc a x ++ enc r y.1) ++ _
      rw [enc_v hl]
      rfl
    · cases h
  | .i _, v :: l, p, h | .b, v :: l, p, h | .s, v :: l, p, h | .row _ _, v :: l, p, h | .own _ _, v :: l, p, h | .ptr _ _, v :: l, p, h => by
    obtain ⟨x, hx, h⟩ := of_ob h
    injection h with h
    subst h
    rw [castV_of hx, List.map_cons]
    rfl
  | .cons _ _, [], p, h => by cases h
  | .i _, [], p, h | .b, [], p, h | .s, [], p, h | .row _ _, [], p, h | .own _ _, [], p, h | .ptr _ _, [], p, h => by cases h
def packN (t : Ty) : Nat → List SV → Option (List t.den)
  | 0, [] => some []
  | 0, _ => none
  | n + 1, l => (packAs t l).ob fun p => (packN t n p.2).ob fun xs => some (p.1 :: xs)
theorem packN_of {t : Ty} : ∀ {n : Nat} {l : List SV} {xs : List t.den}, packN t n l = some xs → l.map SV.toV0 = (xs.map (enc t)).flatten ∧ xs.length = n
  | 0, [], xs, h => by injection h with h; subst h; exact ⟨rfl, rfl⟩
  | 0, _ :: _, xs, h => by cases h
  | n + 1, l, xs, h => by
    obtain ⟨p, hp, h⟩ := of_ob h
    obtain ⟨ys, hy, h⟩ := of_ob h
    injection h with h
    subst h
    obtain ⟨h1, h2⟩ := packN_of hy
    exact ⟨by rw [packAs_of hp, h1]; rfl, by simp [h2]⟩
def repL (l : List SV) : Nat → List SV
  | 0 => []
  | n + 1 => l ++ repL l n
theorem repL_of (l : List SV) : ∀ n, (repL l n).map SV.toV0 = (List.replicate n (l.map SV.toV0)).flatten ∧ (repL l n).length = n * l.length
  | 0 => ⟨rfl, by simp [repL]⟩
  | n + 1 => by
    obtain ⟨h1, h2⟩ := repL_of l n
    exact ⟨by simp [repL, h1, List.replicate_succ], by simp [repL, h2, Nat.succ_mul, Nat.add_comm]⟩
/-- What type cells have side by side. -/
def tyC : List SV → Option Ty
  | [] => none
  | x :: l => match x.nb with
    | .v t _ => match l with
      | [] => some t
      | _ => (tyC l).ob fun r => some (.cons t r)
    | _ => none
abbrev tyB (n : Nat) (c : Ty) (sz : Nat) (l : List SV) : Option Ty := bsel (n.beq 0) (some c) <| tyC (l.take sz)
/-- One record's copy that names a row of one's own, as a row. -/
def capOf (T : TS) (n : Nat) (ps : List (Nat × Operand)) : Option (Nat × Nat × DV) := bsel (n.beq 1) (match ps with
  | [(0, .tmp s)] => match look? T s with
    | some (.dp r (.cap pa i t x)) => some (s, r, .cap pa i t x)
    | _ => none
  | _ => none) none
abbrev isCap (T : TS) (n : Nat) (ps : List (Nat × Operand)) : Bool := match capOf T n ps with
  | some _ => true
  | none => false
def stBuildCap (G : GI) (o : Oper) (t : TypeId) (n : Nat) (ps : List (Nat × Operand)) (T : TS) (K : Rn R) : Option R := (dOk G o).ob fun d => (tiOf G.tt t).ob fun i => i.sl.ob fun e => (tiOf G.tt e).ob fun j => (capOf T n ps).ob fun p => match p.2.2 with
  | .cap pa m c x => bsel (p.1.blt G.nt && !p.2.1.beq d && j.sz.beq c.n && c.n.ble 16777216) (K [p.1, p.2.1] [(d, false, .dp p.2.1 (.cpr pa m c x))]) none
  | _ => none
theorem capOf_of {n : Nat} {ps : List (Nat × Operand)} {p : Nat × Nat × DV} (h : capOf T n ps = some p) : n = 1 ∧ ps = [(0, .tmp p.1)] ∧ look? T p.1 = some (.dp p.2.1 p.2.2) := by
  unfold capOf at h
  rcases of_bif h with ⟨hn, h⟩ | ⟨_, h⟩
  · split at h
    · split at h
      · rename_i hx
        injection h with h
        subst h
        exact ⟨Nat.eq_of_beq_eq_true hn, rfl, hx⟩
      · cases h
    · cases h
  · cases h
theorem stBuildCap_snd (hF : Fit G C) (hT : Tells G.nt G.n T0 T) {o : Oper} {t : TypeId} {n : Nat} {ps : Array (Nat × Operand)} (ho : o.op = .buildSlice t n ps) : Snd (R := R) G C T0 o (stBuildCap G o t n ps.toList T) := by
  intro K r h
  unfold stBuildCap at h
  obtain ⟨d, hd, h⟩ := of_ob h
  obtain ⟨d1, d2, d3, d4, d5, d6⟩ := dOk_of hF hT hd
  obtain ⟨i, hi, h⟩ := of_ob h
  obtain ⟨e, he, h⟩ := of_ob h
  obtain ⟨j, hj, h⟩ := of_ob h
  obtain ⟨⟨s, r', z⟩, hp, h⟩ := of_ob h
  obtain ⟨p1, p2, hx⟩ := capOf_of hp
  have hps := toList_one p2
  split at h
  · rename_i pa m c x hz
    simp only at hz hx
    rw [hz] at hx
    obtain ⟨hx1, y, hx2, hx3⟩ := hT.cap hx
    rcases of_bif h with ⟨hb, h⟩ | ⟨_, h⟩
    · simp only [Bool.and_eq_true, Bool.not_eq_true'] at hb
      obtain ⟨⟨⟨b1, b2⟩, b3⟩, b4⟩ := hb
      have hl : (valsV (enc c x)).length = c.n := by simp only [valsV, List.length_map, enc_length]
      refine ⟨_, _, ?_, EOk.link (x := .dp r' (.cpr pa m c x)) d5 d6 rfl (ne_beq b2) ⟨y, hx2, hx3⟩, h⟩
      exact exec_build_cpr s r' t e m j.by_ j.z pa (valsV (enc c x)) (by rw [ho, hps, p1]) d1 d2 d3 d4 (ne_beq b2) (by simp) (by simp) (by rw [hF.nt]; exact lt_blt b1) (hF.slice hi he) (by rw [hl, ← Nat.eq_of_beq_eq_true b3]; exact hF.elem hj) (by rw [hl]; exact Nat.le_of_ble_eq_true b4) hx1
    · cases h
  · cases h
/-- A slice that is written out. -/
def stBuildSlice (G : GI) (o : Oper) (t : TypeId) (n : Nat) (ps : Array (Nat × Operand)) (T : TS) (K : Rn R) : Option R := (dOk G o).ob fun d => (tiOf G.tt t).ob fun i => i.sl.ob fun e => (tiOf G.tt e).ob fun j =>
  bsel (j.c.n.beq j.sz && j.z0.length.beq j.sz && (n * j.sz).ble 16777216) ((buildL G T (fun f => some (f * j.sz, j.sz)) ps.toList ⟨repL j.z0 n, [], [], []⟩).ob fun b => bsel ((b.cs.all fun c => c.toV0.shr)) ((tyB n j.c j.sz b.cs).ob fun c => bsel (c.n.beq j.sz) ((packN c n b.cs).ob fun xs => K b.rd (deadE b.src ++ [(d, false, .v (.own e c) xs)])) <| none) <| none) <| none
theorem stBuildSlice_snd (hF : Fit G C) (hT : Tells G.nt G.n T0 T) {o : Oper} {t : TypeId} {n : Nat} {ps : Array (Nat × Operand)} (ho : o.op = .buildSlice t n ps) : Snd (R := R) G C T0 o (stBuildSlice G o t n ps T) := by
  intro K r h
  unfold stBuildSlice at h
  obtain ⟨d, hd, h⟩ := of_ob h
  obtain ⟨d1, d2, d3, d4, d5, d6⟩ := dOk_of hF hT hd
  obtain ⟨i, hi, h⟩ := of_ob h
  obtain ⟨e, he, h⟩ := of_ob h
  obtain ⟨j, hj, h⟩ := of_ob h
  rcases of_bif h with ⟨hc, h⟩ | ⟨_, h⟩
  · simp only [Bool.and_eq_true] at hc
    have hz0 := Nat.eq_of_beq_eq_true hc.1.2
    obtain ⟨b, hb, h⟩ := of_ob h
    rcases of_bif h with ⟨hsh, h⟩ | ⟨_, h⟩
    · obtain ⟨c, _, h⟩ := of_ob h
      obtain ⟨hcn, h⟩ := of_bsel h
      replace hcn := Nat.eq_of_beq_eq_true hcn
      obtain ⟨xs, hxs, h⟩ := of_ob h
      obtain ⟨us, u1, u2, u3, u4, u5, u6, u7⟩ := buildL_of hF hT hb
      obtain ⟨p1, p2⟩ := packN_of hxs
      obtain ⟨r1, r2⟩ := repL_of j.z0 n
      simp only [List.nil_append] at u1 u2
      refine ⟨_, _, ?_, EOk.dead (fun s hs => u6 s (by rw [← u2]; exact hs)) fun e he => by simp at he; subst he; exact ⟨d6, rfl⟩, h⟩
      rw [eff_app, eff_dead, u2]
      have hlen : (xs.map (enc c)).length = n := by simp [p2]
      have := exec_buildSlice (P := G.P) (C := C) (T := T0) (rd := b.rd) t e j.sz j.by_ n j.z ps (j.z0.map SV.toV0) _ us (xs.map (enc c)) ho d1 d2 d3 d4 (hF.slice hi he) (hF.elem hj) (hF.ti hj).z0 r1 (by
          have := u7 b.rd [] ((repL j.z0 n).map SV.toV0) (fun _ h => h) fun s hs => by simp at hs
          rw [List.length_map]
          exact this) (by rw [← u4, p1]) (fun e he => by
          obtain ⟨x, _, rfl⟩ := List.mem_map.1 he
          rw [enc_length, hcn]) hlen (fun q hc => by
          rw [← p1] at hc
          obtain ⟨z, hz, rfl⟩ := List.mem_map.1 hc
          exact List.all_eq_true.1 hsh z hz) (Nat.le_of_ble_eq_true hc.2)
      simp only [ES.eff, List.map_cons, List.map_nil, SV.toV, own_toV0, hcn]
      exact this
    · cases h
  · cases h
/-- A struct's field, of a value. -/
def stField (G : GI) (o : Oper) (t : TypeId) (x : Operand) (f : Nat) (T : TS) (K : Rn R) : Option R := (dOk G o).ob fun d => (tiOf G.tt t).ob fun i => (slotO G.nt T x).ob fun p => (i.fs[f]?).ob fun q => match p.2 with
  | .agg c e => bsel c.free ((dropT q.1 ⟨c, e⟩).ob fun z => bsel q.2.1 ((bsel ((0).blt q.2.2) ((takeT (q.2.2 - 1) z).ob fun z => K [p.1] [(d, false, .agg z.t z.x)]) <| none)) <| (takeT 0 z).ob fun z => K [p.1] [(d, false, .v z.t z.x)]) <| none
  | _ => none
theorem stField_snd (hF : Fit G C) (hT : Tells G.nt G.n T0 T) {o : Oper} {t : TypeId} {x : Operand} {f : Nat} (ho : o.op = .field t x f) : Snd (R := R) G C T0 o (stField G o t x f T) := by
  intro K r h
  unfold stField at h
  obtain ⟨d, hd, h⟩ := of_ob h
  obtain ⟨d1, d2, d3, d4, d5, d6⟩ := dOk_of hF hT hd
  obtain ⟨i, hi, h⟩ := of_ob h
  obtain ⟨⟨s, y⟩, hp, h⟩ := of_ob h
  obtain ⟨⟨off, ag, sz⟩, hq, h⟩ := of_ob h
  obtain ⟨e1, hs, hy⟩ := slotO_of hp
  rw [e1] at ho
  have hs' : s < C.nt := by rw [hF.nt]; exact hs
  obtain ⟨_, hf⟩ := hF.field hi hq
  split at h
  · rename_i c e hxy
    simp only at hxy
    rw [hxy] at hy
    rcases of_bif h with ⟨hfr, h⟩ | ⟨_, h⟩
    · obtain ⟨z, hz, h⟩ := of_ob h
      have hdr := dropT_of hz
      rcases of_bif h with ⟨hag, h⟩ | ⟨hag, h⟩
      · simp only at hag
        subst hag
        rcases of_bif h with ⟨hpos, h⟩ | ⟨_, h⟩
        · have hpos' := lt_blt hpos
          simp only at hpos'
          obtain ⟨z', hz', h⟩ := of_ob h
          obtain ⟨t1, t2⟩ := takeT_of hz'
          refine ⟨_, _, ?_, EOk.one d6 rfl, h⟩
          have e3 : enc z'.t z'.x = ((enc c e).drop off).take sz := by
            rw [t1, hdr]
            congr 1
            show sz - 1 + 1 = sz
            omega
          exact exec_field_agg s t f off sz (enc c e) (enc z'.t z'.x) ho d1 d2 d3 d4 (by simp) hs' hf (hT.slot hy rfl rfl) e3.symm (by
            rw [e3]
            exact free_go_of fun c' hc => enc_all_free hfr c' (List.mem_of_mem_drop (List.mem_of_mem_take hc)))
        · cases h
      · simp only at hag
        subst hag
        obtain ⟨z', hz', h⟩ := of_ob h
        obtain ⟨c', cs, h1, h2, h3⟩ := take0 hz'
        have hg : (enc c e)[off]? = some c' := by
          have := congrArg (·[0]?) (hdr.symm.trans h1)
          simpa using this
        refine ⟨_, _, ?_, EOk.one d6 rfl, h⟩
        have := exec_field (P := G.P) (C := C) (T := T0) (rd := [s]) s t f off sz (enc c e) c' ho d1 d2 d3 d4 (by simp) hs' hf (hT.slot hy rfl rfl) hg (enc_all_free hfr c' (List.mem_of_getElem? hg))
        rw [← h3] at this
        exact this
    · cases h
  · cases h
def SV.thin (x : SV) : SV := bsel x.free x <| .dead
def SV.plainK : SV → Bool
  | .v _ _ | .agg _ _ | .np | .un | .obx _ _ | .dead | .kb _ => true
  | _ => false
/-- A part of a call's results. -/
def stExtract (G : GI) (o : Oper) (x : Operand) (ix : Nat) (T : TS) (K : Rn R) : Option R := (dOk G o).ob fun d => (slotO G.nt T x).ob fun p => match p.2 with
  | .tup l => (l[ix]?).ob fun c => bsel (c.plainK && !c.isDead) ((bsel c.free (K [p.1] [(d, false, c)]) <| bsel (p.1.beq d) none <| K [p.1] [(p.1, false, .tup (l.set ix .dead)), (d, false, c)])) <| none
  | _ => none
theorem stExtract_snd (hF : Fit G C) (hT : Tells G.nt G.n T0 T) {o : Oper} {x : Operand} {ix : Nat} (ho : o.op = .extract x ix) : Snd (R := R) G C T0 o (stExtract G o x ix T) := by
  intro K r h
  unfold stExtract at h
  obtain ⟨d, hd, h⟩ := of_ob h
  obtain ⟨d1, d2, d3, d4, d5, d6⟩ := dOk_of hF hT hd
  obtain ⟨⟨s, y⟩, hp, h⟩ := of_ob h
  obtain ⟨e1, hs, hy⟩ := slotO_of hp
  rw [e1] at ho
  have hs' : s < C.nt := by rw [hF.nt]; exact hs
  split at h
  · rename_i l hxy
    simp only at hxy
    rw [hxy] at hy
    have hsl := hT.slot hy rfl rfl
    simp only [SV.toV0, toV_go] at hsl
    obtain ⟨c, hc, h⟩ := of_ob h
    have hcg : (l.map SV.toV0)[ix]? = some c.toV0 := by rw [List.getElem?_map, hc]; rfl
    rcases of_bif h with ⟨hpk, h⟩ | ⟨_, h⟩
    · have hroot : c.root? = none := by
        simp only [Bool.and_eq_true] at hpk
        cases c <;> first | rfl | simp [SV.plainK] at hpk
      rcases of_bif h with ⟨hf, h⟩ | ⟨hf, h⟩
      · refine ⟨_, _, ?_, EOk.one d6 hroot, h⟩
        simp only [ES.eff, List.map_cons, List.map_nil, toV_root hroot]
        exact exec_extract s ix _ _ ho d1 d2 d3 d4 (by simp) hs' hsl hcg (toV0_free c hf)
      · rcases of_bif h with ⟨_, h⟩ | ⟨hb, h⟩
        · cases h
        · refine ⟨_, _, ?_, EOk.two (hT.lt hy) rfl d6 hroot, h⟩
          simp only [ES.eff, List.map_cons, List.map_nil, toV_root hroot]
          refine exec_extract_part s ix (l.map SV.toV0) _ c.toV0 ho d1 d2 d3 d4 (by simp) hs' (by rw [hT.len]; exact hT.lt hy) (ne_beq hb) hsl hcg ?_
          simp [SV.toV0, toV_go, List.map_set]
    · cases h
  · cases h
end
end Go.Proofs.Ytepeoiimdefnpaa.Vm
namespace Go.Proofs.Ytepeoiimdefnpaa.Vm
open Go
open Go.RowKit (wrap64)
section
variable {G : GI} {C : Ctx} {T0 : St} {T : TS} {R : Type}
/-- append of a row: own elements are used up, others copied. -/
def stAppend (G : GI) (o : Oper) (t : TypeId) (x y : Operand) (T : TS) (K : Rn R) : Option R := (dOk G o).ob fun d => (tiOf G.tt t).ob fun i => i.sl.ob fun e => (tiOf G.tt e).ob fun j => (slotO G.nt T x).ob fun p => (rootOf G.nt T p.1).ob fun w => (slotO G.nt T y).ob fun q =>
  bsel (w.E.beq e && w.c.n.beq j.sz) ((bsel w.c.free ((bsel w.c.shr (rowyK T q.1 q.2 fun u => decB (decEq u.c w.c) fun h => (if (w.xs.length + u.xs.length) * j.by_ ≤ 140737488355328 then K (p.1 :: w.r :: u.rd) [(w.r, false, .dead), (d, false, .v (.own e w.c) (w.xs ++ (h ▸ u.xs)))] else none)) <| none)) <| (rootOf G.nt T q.1).ob fun u => bsel (u.E.beq e && !u.r.beq w.r) ((decB (decEq u.c w.c) fun h => (if (w.xs.length + u.xs.length) * j.by_ ≤ 140737488355328 then K (p.1 :: w.r :: [q.1, u.r]) [(w.r, false, .dead), (u.r, false, .dead), (d, false, .v (.own e w.c) (w.xs ++ (h ▸ u.xs)))] else none))) <| none)) <| none
theorem rootOf_lt {n : Nat} {s : Nat} {w : RI} (h : rootOf n T s = some w) : look? T w.r = some (.v (.own w.E w.c) w.xs) := by
  unfold rootOf at h
  rcases of_bif h with ⟨_, h⟩ | ⟨_, h⟩
  · split at h
    · rename_i hx; injection h with h; subst h; exact hx
    · split at h
      · rename_i hy; injection h with h; subst h; exact hy
      · cases h
    · cases h
  · cases h
theorem le_max {n m b : Nat} (hb : 0 < b) (h : (n + m) * b ≤ 140737488355328) : n + m ≤ maxLen := by
  have : n + m ≤ (n + m) * b := Nat.le_mul_of_pos_right _ hb
  unfold maxLen
  omega
theorem stAppend_snd (hF : Fit G C) (hT : Tells G.nt G.n T0 T) {o : Oper} {t : TypeId} {x y : Operand} (ho : o.op = .call { callee := .builtin .append, args := #[x, y], argTypes := #[t, t] }) : Snd (R := R) G C T0 o (stAppend G o t x y T) := by
  intro K r h
  unfold stAppend at h
  obtain ⟨d, hd, h⟩ := of_ob h
  obtain ⟨d1, d2, d3, d4, d5, d6⟩ := dOk_of hF hT hd
  obtain ⟨i, hi, h⟩ := of_ob h
  obtain ⟨e, he, h⟩ := of_ob h
  obtain ⟨j, hj, h⟩ := of_ob h
  obtain ⟨⟨s, y1⟩, hp, h⟩ := of_ob h
  obtain ⟨w, hw, h⟩ := of_ob h
  obtain ⟨⟨s2, y2⟩, hq, h⟩ := of_ob h
  obtain ⟨e1, hs, hy1⟩ := slotO_of hp
  obtain ⟨e2, hs2, hy2⟩ := slotO_of hq
  rw [e1, e2] at ho
  have hbp : 0 < j.by_ := by rw [(hF.ti hj).bpos]; trivial
  rcases of_bif h with ⟨hb, h⟩ | ⟨_, h⟩
  · simp only [Bool.and_eq_true] at hb
    have hE := Nat.eq_of_beq_eq_true hb.1
    have hn := Nat.eq_of_beq_eq_true hb.2
    rcases of_bif h with ⟨hf, h⟩ | ⟨_, h⟩
    · rcases of_bif h with ⟨hsh, h⟩ | ⟨_, h⟩
      · replace h := rowyK_of hF hT h hs2 hy2
        obtain ⟨u, h, hu⟩ := h
        obtain ⟨hc, h⟩ := of_decB h
        obtain ⟨hsm, h⟩ := of_guard h
        obtain ⟨urd, uc, ux⟩ := u
        simp only at hc hsm h hu
        subst hc
        obtain ⟨o1, o2, o3, o4⟩ := rootOf_of hF hT hw (rd := s :: w.r :: urd) (by simp) (by simp)
        rw [hE] at o1
        refine ⟨_, _, ?_, EOk.two (hT.lt o3) rfl d6 rfl, h⟩
        have := exec_append (P := G.P) (C := C) (T := T0) (rd := s :: w.r :: urd) s s2 w.r t e j.sz j.by_ j.z _ (ux.map (enc w.c)) ho d1 d2 d3 d4 o2 (hF.slice hi he) (hF.elem hj) (by rw [← hn]; exact o1) (by rw [← hn]; exact hu _ fun t ht => by simp [ht]) (fun el hel => by
            obtain ⟨x, _, rfl⟩ := List.mem_map.1 hel
            rw [enc_length, hn]) (fun el hel c hc => by
            obtain ⟨x, _, rfl⟩ := List.mem_map.1 hel
            exact ⟨enc_all_free hf c hc, enc_shr _ x hsh c hc⟩) (by rw [row_len, row_len]; exact hsm) (by rw [row_len, row_len]; exact le_max hbp hsm)
        rw [row_app] at this
        simp only [ES.eff, List.map_cons, List.map_nil, SV.toV, own_toV0, hn]
        exact this
      · cases h
    · obtain ⟨u, hu, h⟩ := of_ob h
      rcases of_bif h with ⟨hb2, h⟩ | ⟨_, h⟩
      · simp only [Bool.and_eq_true, Bool.not_eq_true'] at hb2
        have hE2 := Nat.eq_of_beq_eq_true hb2.1
        have hne := ne_beq hb2.2
        obtain ⟨hc, h⟩ := of_decB h
        obtain ⟨hsm, h⟩ := of_guard h
        obtain ⟨ur, uE, uc, ux⟩ := u
        simp only at hc hE2 hne hsm h hu
        subst hc
        obtain ⟨o1, o2, o3, o4⟩ := rootOf_of hF hT hw (rd := s :: w.r :: [s2, ur]) (by simp) (by simp)
        obtain ⟨q1, q2, q3, q4⟩ := rootOf_of hF hT hu (rd := s :: w.r :: [s2, ur]) (by simp) (by simp)
        simp only at q1 q2 q3
        rw [hE] at o1
        rw [hE2] at q1
        refine ⟨_, _, ?_, .inl fun e he => ?_, h⟩
        · have := exec_append_take (P := G.P) (C := C) (T := T0) (rd := s :: w.r :: [s2, ur]) s s2 w.r ur t e j.sz j.by_ j.z _ (ux.map (enc w.c)) ho d1 d2 d3 d4 o2 q2 hne (hF.slice hi he) (hF.elem hj) (by rw [← hn]; exact o1) (by rw [← hn]; exact q1) (fun el hel => by
            obtain ⟨x, _, rfl⟩ := List.mem_map.1 hel
            rw [enc_length, hn]) (by rw [row_len, row_len]; exact hsm) (by rw [row_len, row_len]; exact le_max hbp hsm)
          rw [row_app] at this
          simp only [ES.eff, List.map_cons, List.map_nil, SV.toV, own_toV0, hn]
          exact this
        · simp at he
          rcases he with rfl | rfl | rfl
          · exact ⟨hT.lt o3, rfl⟩
          · exact ⟨hT.lt q3, rfl⟩
          · exact ⟨d6, rfl⟩
      · cases h
  · cases h
/-- make. -/
def stMake (G : GI) (o : Oper) (t : TypeId) (x y : Operand) (T : TS) (K : Rn R) : Option R := (dOk G o).ob fun d => (tiOf G.tt t).ob fun i => i.sl.ob fun e => (tiOf G.tt e).ob fun j => (opS G.nt T x).ob fun a => a.int?.ob fun p => (opS G.nt T y).ob fun b => b.int?.ob fun q => (packN j.c 1 j.z0).ob fun zs => match zs with
  | [z] => bsel (j.c.n.beq j.sz) ((if p.2 = q.2 ∧ 0 ≤ p.2 ∧ (j.by_ : Int) * p.2 ≤ 281474976710656 then K (rdO x ++ rdO y) [(d, false, .v (.own e j.c) (List.replicate p.2.toNat z))] else none)) <| none
  | _ => none
theorem stMake_snd (hF : Fit G C) (hT : Tells G.nt G.n T0 T) {o : Oper} {t : TypeId} {x y : Operand} (ho : o.op = .makeSlice t x y) : Snd (R := R) G C T0 o (stMake G o t x y T) := by
  intro K r h
  unfold stMake at h
  obtain ⟨d, hd, h⟩ := of_ob h
  obtain ⟨d1, d2, d3, d4, d5, d6⟩ := dOk_of hF hT hd
  obtain ⟨i, hi, h⟩ := of_ob h
  obtain ⟨e, he, h⟩ := of_ob h
  obtain ⟨j, hj, h⟩ := of_ob h
  obtain ⟨a, ha, h⟩ := of_ob h
  obtain ⟨⟨k, n⟩, hp, h⟩ := of_ob h
  obtain ⟨b, hb, h⟩ := of_ob h
  obtain ⟨⟨k', n'⟩, hq, h⟩ := of_ob h
  obtain ⟨zs, hzs, h⟩ := of_ob h
  split at h
  · rename_i z
    rcases of_bif h with ⟨hn, h⟩ | ⟨_, h⟩
    · obtain ⟨⟨h1, h2, h3⟩, h⟩ := of_guard h
      simp only at h1 h2 h3
      have hn' := Nat.eq_of_beq_eq_true hn
      have hz := (packN_of hzs).1
      simp only [List.map_cons, List.map_nil, List.flatten_cons, List.flatten_nil, List.append_nil] at hz
      refine ⟨_, _, ?_, EOk.one d6 rfl, h⟩
      have hbp : 0 < j.by_ := by rw [(hF.ti hj).bpos]; trivial
      have hcast : ((n.toNat : Nat) : Int) = n := Int.toNat_of_nonneg h2
      have hmul : j.by_ * n.toNat ≤ 281474976710656 := by
        have h4 : ((j.by_ * n.toNat : Nat) : Int) = (j.by_ : Int) * n := by rw [Int.natCast_mul, hcast]
        omega
      have := exec_make (P := G.P) (C := C) (T := T0) (rd := rdO x ++ rdO y) t e j.sz j.by_ j.z (j.z0.map SV.toV0) x y k k' n.toNat ho d1 d2 d3 d4 (hF.slice hi he) (hF.elem hj) (hF.ti hj).z0 (by rw [hcast]; exact opS_opv hF hT ha (int?_eq hp) fun s hs => List.mem_append_left _ hs) (by rw [hcast, h1]; exact opS_opv hF hT hb (int?_eq hq) fun s hs => List.mem_append_right _ hs) hmul (by
        have : n.toNat ≤ j.by_ * n.toNat := Nat.le_mul_of_pos_left _ hbp
        unfold maxLen
        omega)
      rw [hz] at this
      simp only [ES.eff, List.map_cons, List.map_nil, SV.toV, own_toV0, hn', List.map_replicate]
      exact this
    · cases h
  · cases h
/-- A bound of a part. -/
def bndK (nt : Nat) (T : TS) (m0 : Int) : Option Operand → Option (Int × List Nat)
  | none => some (m0, [])
  | some y => (opS nt T y).ob fun a => a.int?.ob fun p => some (p.2, rdO y)
theorem bndK_of (hF : Fit G C) (hT : Tells G.nt G.n T0 T) {m0 : Nat} {b : Option Operand} {p : Int × List Nat} (h : bndK G.nt T m0 b = some p) (h0 : 0 ≤ p.1) : ∀ rd, (∀ t, t ∈ p.2 → t ∈ rd) → bnd C T0 rd m0 p.1.toNat b := by
  intro rd hrd
  cases b with
  | none => injection h with h; subst h; show Int.toNat m0 = m0; simp
  | some y =>
    obtain ⟨a, ha, h⟩ := of_ob h
    obtain ⟨⟨k, n⟩, hq, h⟩ := of_ob h
    injection h with h
    subst h
    have hcast : ((n.toNat : Nat) : Int) = n := Int.toNat_of_nonneg h0
    exact ⟨k, by show opv C T0 rd (.int k (n.toNat : Nat)) y; rw [hcast]; exact opS_opv hF hT ha (int?_eq hq) hrd⟩
/-- A part of a row; cut: of one's own, what is behind isn't told any more. -/
def stSlice (G : GI) (o : Oper) (t : TypeId) (x : Operand) (lo hi : Option Operand) (cut : Bool) (T : TS) (K : Rn R) : Option R := (dOk G o).ob fun d => (tiOf G.tt t).ob fun i => i.sl.ob fun e => (tiOf G.tt e).ob fun j => (slotO G.nt T x).ob fun p => match p.2 with
  | .v (.row f c) xs => bsel (c.n.beq j.sz) ((bndK G.nt T 0 lo).ob fun a => (bndK G.nt T (xs.length : Nat) hi).ob fun b => if 0 ≤ a.1 ∧ a.1 ≤ b.1 ∧ b.1 ≤ (xs.length : Int) then K (p.1 :: (a.2 ++ b.2)) [(d, false, .v (.row f c) ((xs.drop a.1.toNat).take (b.1.toNat - a.1.toNat)))] else none) <| none
  | _ => (rootOf G.nt T p.1).ob fun w => bsel (w.c.n.beq j.sz && !w.r.beq d) ((bndK G.nt T 0 lo).ob fun a => (bndK G.nt T (w.xs.length : Nat) hi).ob fun b => bsel cut ((match lo with
      | none => if 0 ≤ b.1 ∧ b.1 ≤ (w.xs.length : Int) then K (p.1 :: w.r :: (a.2 ++ b.2)) [(w.r, false, .dead), (d, false, .v (.own w.E w.c) (w.xs.take b.1.toNat))] else none
      | some _ => none)) <| if 0 ≤ a.1 ∧ a.1 ≤ b.1 ∧ b.1 ≤ (w.xs.length : Int) then K (p.1 :: w.r :: (a.2 ++ b.2)) [(d, false, .vw w.r w.c.n a.1.toNat (b.1.toNat - a.1.toNat))] else none) <| none
theorem stSlice_snd (hF : Fit G C) (hT : Tells G.nt G.n T0 T) {o : Oper} {t : TypeId} {x : Operand} {lo hi : Option Operand} {cut : Bool} (ho : o.op = .slice t x lo hi none) : Snd (R := R) G C T0 o (stSlice G o t x lo hi cut T) := by
  intro K r h
  unfold stSlice at h
  obtain ⟨d, hd, h⟩ := of_ob h
  obtain ⟨d1, d2, d3, d4, d5, d6⟩ := dOk_of hF hT hd
  obtain ⟨i, hi', h⟩ := of_ob h
  obtain ⟨e, he, h⟩ := of_ob h
  obtain ⟨j, hj, h⟩ := of_ob h
  obtain ⟨⟨s, y⟩, hp, h⟩ := of_ob h
  obtain ⟨e1, hs, hy⟩ := slotO_of hp
  rw [e1] at ho
  have hs' : s < C.nt := by rw [hF.nt]; exact hs
  have ht := hF.slice hi' he
  have hsz := hF.size hj
  split at h
  · rename_i f c xs hxy
    simp only at hxy
    rw [hxy] at hy
    rcases of_bif h with ⟨hn, h⟩ | ⟨_, h⟩
    · have hn' := Nat.eq_of_beq_eq_true hn
      rw [← hn'] at hsz
      obtain ⟨a, ha, h⟩ := of_ob h
      obtain ⟨b, hb, h⟩ := of_ob h
      obtain ⟨⟨h1, h2, h3⟩, h⟩ := of_guard h
      refine ⟨_, _, ?_, EOk.one d6 rfl, h⟩
      have := exec_slice_row (P := G.P) (C := C) (T := T0) (rd := s :: (a.2 ++ b.2)) s t e c.n a.1.toNat b.1.toNat f (xs.map (enc c)) lo hi ho d1 d2 d3 d4 (by simp) hs' ht hsz (hT.slot hy rfl rfl) (bndK_of (m0 := 0) hF hT ha h1 _ fun t ht => by simp [ht]) (by rw [row_len]; exact bndK_of hF hT hb (by omega) _ fun t ht => by simp [ht]) (by omega) (by rw [row_len]; omega)
      rw [← List.map_drop, ← List.map_take] at this
      exact this
    · cases h
  · obtain ⟨w, hw, h⟩ := of_ob h
    rcases of_bif h with ⟨hn, h⟩ | ⟨_, h⟩
    · simp only [Bool.and_eq_true, Bool.not_eq_true'] at hn
      have hn' := Nat.eq_of_beq_eq_true hn.1
      rw [← hn'] at hsz
      obtain ⟨a, ha, h⟩ := of_ob h
      obtain ⟨b, hb, h⟩ := of_ob h
      obtain ⟨o1, o2, o3, o4⟩ := rootOf_of hF hT hw (rd := s :: w.r :: (a.2 ++ b.2)) (by simp) (by simp)
      rcases of_bif h with ⟨_, h⟩ | ⟨_, h⟩
      · split at h
        · obtain ⟨⟨h1, h2⟩, h⟩ := of_guard h
          refine ⟨_, _, ?_, EOk.two (hT.lt o3) rfl d6 rfl, h⟩
          have := exec_cut (P := G.P) (C := C) (T := T0) (rd := s :: w.r :: (a.2 ++ b.2)) s w.r t e w.E w.c.n b.1.toNat _ none hi ho d1 d2 d3 d4 o2 ht hsz o1 rfl (by rw [row_len]; exact bndK_of hF hT hb h1 _ fun t ht => by simp [ht]) (by rw [row_len]; omega)
          rw [← List.map_take] at this
          exact this
        · cases h
      · obtain ⟨⟨h1, h2, h3⟩, h⟩ := of_guard h
        refine ⟨_, _, ?_, EOk.link d5 d6 rfl (ne_beq hn.2), h⟩
        exact exec_slice_own s w.r t e w.E w.c.n a.1.toNat b.1.toNat _ lo hi ho d1 d2 d3 d4 (ne_beq hn.2) ht hsz o1 (bndK_of (m0 := 0) hF hT ha h1 _ fun t ht => by simp [ht]) (by rw [row_len]; exact bndK_of hF hT hb (by omega) _ fun t ht => by simp [ht]) (by omega) (by rw [row_len]; omega)
    · cases h
/-- A value without memory. -/
def SV.sval : SV → Option Value
  | .v (.i k) n => some (.int k n)
  | .v .b n => some (.bool n)
  | .v .s n => some (.string n)
  | .np => some (.pointer none)
  | .kb b => some (.bool b)
  | _ => none
theorem sval_of {x : SV} {v : Value} (h : x.sval = some v) : x.toV0 = .sc v ∧ x.root? = none := by
  unfold SV.sval at h
  split at h <;> first
    | (injection h with h; subst h; exact ⟨rfl, rfl⟩)
    | cases h
/-- One of two, by a bool. -/
def stPick (G : GI) (o : Oper) (c x y : Operand) (T : TS) (K : Rn R) : Option R := (dOk G o).ob fun d => (opK G.nt T c).ob fun a => brB a ((opK G.nt T x).ob fun z => z.sval.ob fun _ => K (rdO c ++ rdO x) [(d, false, z)]) ((opK G.nt T y).ob fun z => z.sval.ob fun _ => K (rdO c ++ rdO y) [(d, false, z)])
theorem stPick_snd (hF : Fit G C) (hT : Tells G.nt G.n T0 T) {o : Oper} {c x y : Operand} (ho : o.op = .pick c x y) : Snd (R := R) G C T0 o (stPick G o c x y T) := by
  intro K r h
  unfold stPick at h
  obtain ⟨d, hd, h⟩ := of_ob h
  obtain ⟨d1, d2, d3, d4, d5, d6⟩ := dOk_of hF hT hd
  obtain ⟨a, ha, h⟩ := of_ob h
  obtain ⟨b, hb0, hbg, _, _, ⟨hbt, h⟩ | ⟨hbf, h⟩⟩ := brB_of h
  · obtain ⟨z, hz, h⟩ := of_ob h
    obtain ⟨v, hv, h⟩ := of_ob h
    obtain ⟨v1, v2⟩ := sval_of hv
    refine ⟨_, _, ?_, EOk.one d6 v2, h⟩
    simp only [ES.eff, List.map_cons, List.map_nil, toV_root v2, v1]
    exact exec_pick_t ho d1 d2 d3 d4 (opK_opnd hF hT ha (v := .bool b) (by rw [hbg, hb0]; rfl) fun s hs => List.mem_append_left _ hs) hbt (opK_opnd hF hT hz (v := v) (by rw [toV_root v2, v1]; rfl) fun s hs => List.mem_append_right _ hs)
  · obtain ⟨z, hz, h⟩ := of_ob h
    obtain ⟨v, hv, h⟩ := of_ob h
    obtain ⟨v1, v2⟩ := sval_of hv
    refine ⟨_, _, ?_, EOk.one d6 v2, h⟩
    simp only [ES.eff, List.map_cons, List.map_nil, toV_root v2, v1]
    exact exec_pick_f ho d1 d2 d3 d4 (opK_opnd hF hT ha (v := .bool b) (by rw [hbg, hb0]; rfl) fun s hs => List.mem_append_left _ hs) hbf (opK_opnd hF hT hz (v := v) (by rw [toV_root v2, v1]; rfl) fun s hs => List.mem_append_right _ hs)
/-- The greatest, the least of two. -/
def stMM (G : GI) (o : Oper) (mx : Bool) (x y : Operand) (T : TS) (K : Rn R) : Option R := (dOk G o).ob fun d => (opS G.nt T x).ob fun a => (opS G.nt T y).ob fun b => a.int?.ob fun p => b.int?.ob fun q => bsel (kEq p.1 q.1) (K (rdO x ++ rdO y) [(d, false, .v (.i p.1) (bsel mx ((if p.2 < q.2 then q.2 else p.2)) <| (if q.2 < p.2 then q.2 else p.2)))]) <| none
theorem stMM_snd (hF : Fit G C) (hT : Tells G.nt G.n T0 T) {o : Oper} {mx : Bool} {x y : Operand} {ats : Array TypeId} (ho : o.op = .call { callee := .builtin (bsel mx .max <| .min), args := #[x, y], argTypes := ats }) : Snd (R := R) G C T0 o (stMM G o mx x y T) := by
  intro K r h
  unfold stMM at h
  obtain ⟨d, hd, h⟩ := of_ob h
  obtain ⟨d1, d2, d3, d4, d5, d6⟩ := dOk_of hF hT hd
  obtain ⟨a, ha, h⟩ := of_ob h
  obtain ⟨b, hb, h⟩ := of_ob h
  obtain ⟨⟨k, m⟩, hp, h⟩ := of_ob h
  obtain ⟨⟨k', n⟩, hq, h⟩ := of_ob h
  obtain ⟨hk, h⟩ := of_bsel h
  replace hk := of_decide_eq_true hk
  simp only at hk
  subst hk
  rw [int?_eq hp] at ha
  rw [int?_eq hq] at hb
  have e1 := opS_opnd hF hT ha (v := .int k m) (rd := rdO x ++ rdO y) rfl fun s hs => List.mem_append_left _ hs
  have e2 := opS_opnd hF hT hb (v := .int k n) (rd := rdO x ++ rdO y) rfl fun s hs => List.mem_append_right _ hs
  refine ⟨_, _, ?_, EOk.one d6 rfl, h⟩
  cases mx
  · exact exec_min2 ho d1 d2 d3 d4 e1 e2
  · exact exec_max2 ho d1 d2 d3 d4 e1 e2
/-- An operation on one value. -/
def stUn (G : GI) (o : Oper) (op : UnOp) (x : Operand) (T : TS) (K : Rn R) : Option R := (dOk G o).ob fun d => (opK G.nt T x).ob fun a => match op with
  | .not => a.not?.ob fun b => K (rdO x) [(d, false, b)]
  | .neg => a.int?.ob fun p => K (rdO x) [(d, false, .v (.i p.1) (wr p.1 (-p.2)))]
  | _ => none
theorem stUn_snd (hF : Fit G C) (hT : Tells G.nt G.n T0 T) {o : Oper} {op : UnOp} {t : TypeId} {x : Operand} (ho : o.op = .unOp op t x) : Snd (R := R) G C T0 o (stUn G o op x T) := by
  intro K r h
  unfold stUn at h
  obtain ⟨d, hd, h⟩ := of_ob h
  obtain ⟨d1, d2, d3, d4, d5, d6⟩ := dOk_of hF hT hd
  obtain ⟨a, ha, h⟩ := of_ob h
  split at h
  · obtain ⟨b, hb, h⟩ := of_ob h
    obtain ⟨x0, q1, q2, q3, q4, q5⟩ := not?_of hb
    refine ⟨_, _, ?_, EOk.one d6 q5, h⟩
    simp only [ES.eff, List.map_cons, List.map_nil, q4, q3]
    exact exec_un ho d1 d2 d3 d4 (opK_opnd hF hT ha (v := .bool x0) (rd := rdO x) (by rw [q2, q1]; rfl) fun s hs => hs) bool_not
  · obtain ⟨⟨k, n⟩, hb, h⟩ := of_ob h
    rw [int?_eq hb] at ha
    refine ⟨_, _, ?_, EOk.one d6 rfl, h⟩
    have := exec_un (P := G.P) ho d1 d2 d3 d4 (opK_opnd hF hT ha (v := .int k n) (rd := rdO x) rfl fun s hs => hs) int_neg
    rw [Int.zero_sub, ← wr_eq] at this
    exact this
  · cases h
/-- A number of another kind. -/
def stConv (G : GI) (o : Oper) (st dt : TypeId) (x : Operand) (T : TS) (K : Rn R) : Option R := (dOk G o).ob fun d => (opS G.nt T x).ob fun a => match G.P.underlying st, G.P.underlying dt with
  | some _, some (.int k) => a.int?.ob fun p => K (rdO x) [(d, false, .v (.i k) (wr k p.2))]
  | _, _ => none
theorem stConv_snd (hF : Fit G C) (hT : Tells G.nt G.n T0 T) {o : Oper} {st dt : TypeId} {x : Operand} (ho : o.op = .convert st dt x) : Snd (R := R) G C T0 o (stConv G o st dt x T) := by
  intro K r h
  unfold stConv at h
  obtain ⟨d, hd, h⟩ := of_ob h
  obtain ⟨d1, d2, d3, d4, d5, d6⟩ := dOk_of hF hT hd
  obtain ⟨a, ha, h⟩ := of_ob h
  split at h
  · rename_i u k hs ht
    obtain ⟨⟨k', n⟩, hb, h⟩ := of_ob h
    rw [int?_eq hb] at ha
    exact ⟨_, _, exec_conv (P := G.P) ho d1 d2 d3 d4 (opS_opnd hF hT ha (v := .int k' n) (rd := rdO x) rfl fun s hs => hs) (conv_int hs ht), EOk.one d6 rfl, h⟩
  · cases h
end
end Go.Proofs.Ytepeoiimdefnpaa.Vm
namespace Go.Proofs.Ytepeoiimdefnpaa.Vm
open Go
section
variable {G : GI} {C : Ctx} {T0 : St} {T : TS} {R : Type}
theorem nb_al {y : SV} {r : Nat} (h : y.nb = .al r) : y = .al r := by
  cases y <;> first | exact h | cases h
theorem nb_dp {y : SV} {r : Nat} {x : DV} (h : y.nb = .dp r x) : y = .dp r x := by
  cases y <;> first | exact h | cases h
theorem Tells.slotN (hT : Tells G.nt G.n T0 T) {s : Nat} {x y : SV} (hy : look? T s = some y) (hn : y.nb = x) (hr : x.root? = none) (hd : x.isDead = false) : T0.at s = x.toV0 := by
  rw [← hn, nb_toV0]
  refine hT.slot hy ?_ ?_
  · rw [← hn, nb_root] at hr; exact hr
  · cases y <;> first | rfl | (subst hn; cases hd)
def envOf : List (Nat × Sig) → Nat → Option Sig
  | [], _ => none
  | p :: l, t => bsel (p.1.beq t) (some p.2) <| envOf l t
theorem envOf_mem {l : List (Nat × Sig)} {t : Nat} {i : Sig} (h : envOf l t = some i) : (t, i) ∈ l := by
  induction l with
  | nil => simp [envOf] at h
  | cons p l ih =>
    simp only [envOf] at h
    cases hb : p.1.beq t with
    | true =>
      rw [hb] at h
      have := Nat.eq_of_beq_eq_true hb
      injection h with h
      subst this h
      exact List.mem_cons_self
    | false => rw [hb] at h; exact List.mem_cons_of_mem _ (ih h)
/-- A value, lent. -/
def castL {t' : Ty} (x : t'.den) (t : Ty) : Option t.den := match decEq t'.lend t with
  | .isTrue h => some (cast (by rw [← h, lend_den]) x)
  | .isFalse _ => none
theorem castL_of {t' t : Ty} {x : t'.den} {y : t.den} (h : castL x t = some y) : enc t y = V.lend.go (enc t' x) ∧ t = t'.lend := by
  unfold castL at h
  split at h
  · rename_i e _
    subst e
    injection h with h
    subst h
    exact ⟨enc_lend t' x, rfl⟩
  · cases h
/-- As it is. -/
def castX {t' : Ty} (x : t'.den) (t : Ty) : Option t.den := match decEq t' t with
  | .isTrue h => some (h ▸ x)
  | .isFalse _ => none
theorem castX_of {t' t : Ty} {x : t'.den} {y : t.den} (h : castX x t = some y) : SV.v t y = SV.v t' x ∧ SV.agg t y = SV.agg t' x := by
  unfold castX at h
  split at h
  · rename_i e _; subst e; injection h with h; subst h; exact ⟨rfl, rfl⟩
  · cases h
/-- One argument: what is read; own: a row of one's own that is lent, or cells of a box. -/
structure AV (t : Ty) where
  rd : List Nat
  own : List Nat
  x : t.den
def argS (G : GI) (T : TS) (ag : Bool) (t : Ty) : Operand → Option (AV t)
  | .const (.slice none 0 0) => match t with
    | .row _ c => bsel ag none <| some ⟨[], [], ([] : List c.den)⟩
    | _ => none
  | .const v => bsel ag none <| (litC v).ob fun y => (castV t y).ob fun x => bsel t.leaf (some ⟨[], [], x⟩) <| none
  | .tmp s => bsel (s.blt G.nt) ((look? T s).ob fun y => match y.nb with
    | .v t' x => bsel ag none <| bsel t'.leaf ((match castL x t with
      | some z => some ⟨[s], bsel t'.free ([]) <| [s], z⟩
      | none => bsel t'.free ((castX x t).ob fun z => some ⟨[s], [s], z⟩) <| none)) <| none
    | .agg t' x => bsel ag ((match castL x t with
      | some z => some ⟨[s], bsel t'.free ([]) <| [s], z⟩
      | none => bsel t'.free ((castX x t).ob fun z => some ⟨[s], [s], z⟩) <| none)) <| none
    | .al r => bsel ag none <| match look? T r with
      | some (.v (.own E c) xs) => (castL (t' := .own E c) xs t).ob fun z => some ⟨[s, r], [r], z⟩
      | _ => none
    | .dp r (.cap _ i t' x) => bsel (ag && capT t' i) ((castL x t).ob fun z => some ⟨[s, r], [r], z⟩) <| none
    | .dp r (.cpr _ i t' x) => bsel (!ag && capT t' i) (match t with
      | .row true c => (castL x c).ob fun z => some ⟨[s, r], [r], [z]⟩
      | _ => none) none
    | .at_ k => bsel ag none <| match t with
      | .ptr true c => bsel (atOk G k c.n && (baseOf G.g k).beq k) ((cellsO T k c.n).ob fun l => (packT l).ob fun z => (castL z.x c).ob fun u => some ⟨s :: (List.range c.n).map (k + ·), (List.range c.n).map (k + ·), u⟩) <| none
      | _ => none
    | _ => none) <| none
  | _ => none
theorem of_toV0 {ag : Bool} {t : Ty} {x : t.den} : (SV.of ag t x).toV0 = bsel ag (V.agg (enc t x)) (SV.v t x).toV0 := by cases ag <;> rfl
theorem v_lend {t' t : Ty} {x : t'.den} {y : t.den} (hl : t'.leaf = true) (h : castL x t = some y) : (SV.v t y).toV0 = (SV.v t' x).toV0.lend := by
  obtain ⟨h1, h2⟩ := castL_of h
  have hl2 : t.leaf = true := by rw [h2]; cases t' <;> first | rfl | simp [Ty.leaf] at hl
  rw [enc_v hl2, enc_v hl] at h1
  simp only [V.lend.go, List.cons.injEq, and_true] at h1
  exact h1
theorem v_lendable {t : Ty} {x : t.den} (hl : t.leaf = true) : (SV.v t x).toV0.lendable = true := by
  have := enc_lendable t x
  rw [enc_v hl] at this
  simpa [V.lendable.go] using this
theorem argS_of (hF : Fit G C) (hT : Tells G.nt G.n T0 T) {ag : Bool} {t : Ty} {y : Operand} {w : AV t} (h : argS G T ag t y = some w) (bad rd : List Nat) (hrd : ∀ s, s ∈ w.rd → s ∈ rd) (hbad : ∀ s, s ∈ w.own → s ∉ bad) (hself : ∀ s, s ∈ w.rd → s < G.nt → s ∉ bad) : argV C T0 rd bad (SV.of ag t w.x).toV0 [] y := by
  unfold argS at h
  split at h
  · split at h
    · rename_i f c
      cases ag
      · injection h with h
        subst h
        exact .inr ⟨rfl, .inl ⟨_, rfl, trivial⟩⟩
      · cases h
    · cases h
  · cases ag
    · replace h := bsel_f h
      replace h := of_ob h
      obtain ⟨z, hz, h⟩ := h
      replace h := of_ob h
      obtain ⟨x, hx, h⟩ := h
      replace h := of_bif h
      rcases h with ⟨_, h⟩ | ⟨_, h⟩
      · injection h with h
        subst h
        obtain ⟨e1, e2, e3⟩ := litC_of hz
        rw [castV_of hx] at e1
        refine .inr ⟨rfl, .inl ⟨_, rfl, ?_⟩⟩
        show lit _ (SV.v t x).toV0
        rw [e1]
        rfl
      · cases h
    · cases h
  · rename_i s
    replace h := of_bif h
    rcases h with ⟨hb, h⟩ | ⟨_, h⟩
    · have hs := lt_blt hb
      have hs' : s < C.nt := by rw [hF.nt]; exact hs
      replace h := of_ob h
      obtain ⟨y, hy, h⟩ := h
      split at h
      · rename_i t' x hyn
        cases ag
        · replace h := bsel_f h
          replace h := of_bif h
          rcases h with ⟨hl, h⟩ | ⟨_, h⟩
          · split at h
            · rename_i z hz
              injection h with h
              subst h
              exact .inr ⟨rfl, .inr (.inl ⟨(SV.v t' x).toV0, s, v_lend hl hz, ⟨hrd s (by simp), hs', .inl ⟨hT.slotN hy hyn rfl rfl, rfl, v_lendable hl⟩⟩, hself s (by simp) hs⟩)⟩
            · replace h := of_bif h
              rcases h with ⟨hf, h⟩ | ⟨_, h⟩
              · replace h := of_ob h
                obtain ⟨z, hz, h⟩ := h
                injection h with h
                subst h
                refine .inl ⟨hrd s (by simp), hs', .inl ⟨?_, ?_, rfl⟩⟩
                · show T0.at s = (SV.v t z).toV0
                  rw [(castX_of hz).1]; exact hT.slotN hy hyn rfl rfl
                · show (SV.v t z).toV0.free = true
                  rw [(castX_of hz).1]; exact toV0_v_free hf
              · cases h
          · cases h
        · cases h
      · rename_i t' x hyn
        cases ag
        · cases h
        · replace h := bsel_t h
          split at h
          · rename_i z hz
            injection h with h
            subst h
            refine .inr ⟨rfl, .inr (.inl ⟨.agg (enc t' x), s, ?_, ⟨hrd s (by simp), hs', .inl ⟨hT.slotN hy hyn rfl rfl, rfl, enc_lendable t' x⟩⟩, hself s (by simp) hs⟩)⟩
            show V.agg (enc t z) = V.agg (V.lend.go (enc t' x))
            rw [(castL_of hz).1]
          · replace h := of_bif h
            rcases h with ⟨hf, h⟩ | ⟨_, h⟩
            · replace h := of_ob h
              obtain ⟨z, hz, h⟩ := h
              injection h with h
              subst h
              refine .inl ⟨hrd s (by simp), hs', .inl ⟨?_, ?_, rfl⟩⟩
              · show T0.at s = (SV.agg t z).toV0
                rw [(castX_of hz).2]; exact hT.slotN hy hyn rfl rfl
              · show (SV.agg t z).toV0.free = true
                rw [(castX_of hz).2]; exact enc_free t' x hf
            · cases h
      · rename_i r hyn
        cases ag
        · replace h := bsel_f h
          split at h
          · rename_i E c xs hr
            replace h := of_ob h
            obtain ⟨z, hz, h⟩ := h
            injection h with h
            subst h
            exact .inr ⟨rfl, .inr (.inl ⟨(SV.v (.own E c) xs).toV0, r, v_lend rfl hz, ⟨hrd s (by simp), hs', .inr ⟨E, c.n, _, own_toV0, ⟨hs', hrd s (by simp), hrd r (by simp), hT.slot hr rfl rfl, .inr (hT.al (by rw [← nb_al hyn]; exact hy))⟩, v_lendable rfl⟩⟩, hbad r (by simp)⟩)⟩
          · cases h
        · cases h
      · rename_i r pa i t' x hyn
        replace h := of_bif h
        rcases h with ⟨hc, h⟩ | ⟨_, h⟩
        · simp only [Bool.and_eq_true] at hc
          obtain ⟨rfl, hc⟩ := hc
          replace h := of_ob h
          obtain ⟨z, hz, h⟩ := h
          injection h with h
          subst h
          obtain ⟨hx1, y0, hy0, hx2⟩ := hT.cap (by rw [← nb_dp hyn]; exact hy)
          obtain ⟨c1, ⟨E, c, xs, c2⟩, c3⟩ := capT_of (x := x) hc
          have hyo : y0.isOwn = true := by rw [hy0] at c2; injection c2 with c2; subst c2; rfl
          refine .inr ⟨rfl, .inr (.inr (.inr (.inl ⟨s, r, i, pa, _, y0, rfl, ⟨hrd s (by simp), hrd r (by simp), hs', hx1, hx2, getp_root hx2 hyo, lendable_go (enc_lendable t' x) hy0, hbad r (by simp)⟩, ?_⟩)))⟩
          show V.agg (enc t z) = _
          rw [(castL_of hz).1, lend_go]
          congr 1
          refine List.ext_getElem? fun j => ?_
          rw [List.getElem?_map]
          by_cases e : j = i
          · subst e
            rw [List.getElem?_set_self (by simp only [valsV, List.length_map, enc_length]; exact c1), hy0]
            rfl
          · rw [List.getElem?_set_ne (Ne.symm e)]
            simp only [valsV, List.getElem?_map]
            cases hj : (enc t' x)[j]? with
            | none => rfl
            | some c =>
              obtain ⟨v, rfl, _⟩ := c3 j c e hj
              rfl
        · cases h
      · rename_i r pa i t' x hyn
        replace h := of_bif h
        rcases h with ⟨hc, h⟩ | ⟨_, h⟩
        · simp only [Bool.and_eq_true, Bool.not_eq_true'] at hc
          obtain ⟨rfl, hc⟩ := hc
          split at h
          · rename_i c
            replace h := of_ob h
            obtain ⟨z, hz, h⟩ := h
            injection h with h
            subst h
            obtain ⟨hx1, y0, hy0, hx2⟩ := hT.cpr (by rw [← nb_dp hyn]; exact hy)
            obtain ⟨c1, ⟨E, c', xs, c2⟩, c3⟩ := capT_of (x := x) hc
            have hyo : y0.isOwn = true := by rw [hy0] at c2; injection c2 with c2; subst c2; rfl
            have hl : (valsV (enc t' x)).length = c.n := by
              simp only [valsV, List.length_map, enc_length]
              rw [(castL_of hz).2, lend_n]
            refine .inr ⟨rfl, .inr (.inr (.inr (.inr ⟨s, r, i, pa, _, y0, rfl, ⟨hrd s (by simp), hrd r (by simp), hs', hx1, hx2, getp_root hx2 hyo, lendable_go (enc_lendable t' x) hy0, hbad r (by simp)⟩, ?_⟩)))⟩
            show V.row true c.n [enc c z] = _
            rw [(castL_of hz).1, lend_go, hl]
            congr 2
            refine List.ext_getElem? fun j => ?_
            rw [List.getElem?_map]
            by_cases e : j = i
            · subst e
              rw [List.getElem?_set_self (by simp only [valsV, List.length_map, enc_length]; exact c1), hy0]
              rfl
            · rw [List.getElem?_set_ne (Ne.symm e)]
              simp only [valsV, List.getElem?_map]
              cases hj : (enc t' x)[j]? with
              | none => rfl
              | some c =>
                obtain ⟨v, rfl, _⟩ := c3 j c e hj
                rfl
          · cases h
        · cases h
      · rename_i k hyn
        cases ag
        · replace h := bsel_f h
          split at h
          · rename_i c
            replace h := of_bif h
            rcases h with ⟨hk, h⟩ | ⟨_, h⟩
            · simp only [Bool.and_eq_true] at hk
              obtain ⟨b1, b2, b3⟩ := atOk_of hF hk.1
              have hbk := Nat.eq_of_beq_eq_true hk.2
              replace h := of_ob h
              obtain ⟨l, hl, h⟩ := h
              replace h := of_ob h
              obtain ⟨z, hz, h⟩ := h
              replace h := of_ob h
              obtain ⟨u, hu, h⟩ := h
              injection h with h
              subst h
              obtain ⟨l1, l2⟩ := cellsO_of hl
              obtain ⟨z1, z2, z3⟩ := packT_of hz
              have hcs : cellsAt T0 k c.n = enc z.t z.x := by
                rw [z1]
                refine List.ext_getElem? fun j => ?_
                unfold cellsAt
                by_cases hj : j < c.n
                · obtain ⟨x, hx1, hx2⟩ := l2 j hj
                  rw [List.getElem?_map, List.getElem?_map, hx1, List.getElem?_range hj]
                  simp only [Option.map_some, Option.some.injEq]
                  exact (hT.cellAt hx2 (by omega)).1
                · rw [List.getElem?_eq_none (by simp; omega), List.getElem?_eq_none (by simp [l1]; omega)]
              refine .inr ⟨rfl, .inr (.inr (.inl ⟨s, k, c.n, rfl, ⟨hrd s (by simp), hs', hT.slotN hy hyn rfl rfl, by rw [hF.nt]; exact b1, ?_, c.n_pos⟩, ?_⟩))⟩
              · refine List.all_eq_true.2 fun j hj => ?_
                have hj' : j < c.n := by simpa using hj
                have hm : k + j ∈ (List.range c.n).map (k + ·) := List.mem_map.2 ⟨j, hj, rfl⟩
                have h1 : rd.contains (k + j) = true := List.contains_iff_mem.2 (hrd _ (List.mem_cons_of_mem _ hm))
                have h2 : bad.contains (k + j) = false := by
                  rw [← Bool.not_eq_true, List.contains_iff_mem]
                  exact hbad _ hm
                have h3 : C.base (k + j) = k := by
                  rw [b3 j hj', hF.base]
                  exact hbk
                have h4 : (T0.at (k + j)).lendable = true := by
                  have hc : (enc z.t z.x)[j]? = some (T0.at (k + j)) := by
                    rw [← hcs]
                    unfold cellsAt
                    rw [List.getElem?_map, List.getElem?_range hj']
                    rfl
                  exact lendable_go (enc_lendable z.t z.x) hc
                simp only [h1, h2, h3, h4, Bool.not_false, Bool.and_true, BEq.rfl]
              · show V.box true (enc c u) = _
                rw [hcs, (castL_of hu).1]
            · cases h
          · cases h
        · cases h
      · cases h
    · cases h
  · cases h
theorem argS_b (hF : Fit G C) (hT : Tells G.nt G.n T0 T) {ag : Bool} {t : Ty} {y : Operand} {w : AV t} (h : argS G T ag t y = some w) (rd : List Nat) (hrd : ∀ s, s ∈ w.rd → s ∈ rd) (how : w.own = []) : argB C T0 rd (SV.of ag t w.x).toV0 y := by
  unfold argS at h
  split at h
  · split at h
    · cases ag
      · injection h with h
        subst h
        exact trivial
      · cases h
    · cases h
  · cases ag
    · replace h := bsel_f h
      replace h := of_ob h
      obtain ⟨z, hz, h⟩ := h
      replace h := of_ob h
      obtain ⟨x, hx, h⟩ := h
      replace h := of_bif h
      rcases h with ⟨_, h⟩ | ⟨_, h⟩
      · injection h with h
        subst h
        obtain ⟨e1, e2, e3⟩ := litC_of hz
        rw [castV_of hx] at e1
        show lit _ (SV.v t x).toV0
        rw [e1]
        rfl
      · cases h
    · cases h
  · rename_i s
    replace h := of_bif h
    rcases h with ⟨hb, h⟩ | ⟨_, h⟩
    · have hs := lt_blt hb
      have hs' : s < C.nt := by rw [hF.nt]; exact hs
      replace h := of_ob h
      obtain ⟨y, hy, h⟩ := h
      split at h
      · rename_i t' x hyn
        cases ag
        · replace h := bsel_f h
          replace h := of_bif h
          rcases h with ⟨hl, h⟩ | ⟨_, h⟩
          · split at h
            · rename_i z hz
              injection h with h
              subst h
              have hf : t'.free = true := by
                cases hf : t'.free with
                | true => rfl
                | false => simp [hf] at how
              exact ⟨hrd s (by simp), hs', (SV.v t' x).toV0, hT.slotN hy hyn rfl rfl, toV0_v_free hf, v_lendable hl, v_lend hl hz⟩
            · replace h := of_bif h
              rcases h with ⟨hf, h⟩ | ⟨_, h⟩
              · replace h := of_ob h
                obtain ⟨z, hz, h⟩ := h
                injection h with h
                subst h
                simp at how
              · cases h
          · cases h
        · cases h
      · rename_i t' x hyn
        cases ag
        · cases h
        · replace h := bsel_t h
          split at h
          · rename_i z hz
            injection h with h
            subst h
            have hf : t'.free = true := by
              cases hf : t'.free with
              | true => rfl
              | false => simp [hf] at how
            refine ⟨hrd s (by simp), hs', .agg (enc t' x), hT.slotN hy hyn rfl rfl, enc_free t' x hf, enc_lendable t' x, ?_⟩
            show V.agg (enc t z) = V.agg (V.lend.go (enc t' x))
            rw [(castL_of hz).1]
          · replace h := of_bif h
            rcases h with ⟨hf, h⟩ | ⟨_, h⟩
            · replace h := of_ob h
              obtain ⟨z, hz, h⟩ := h
              injection h with h
              subst h
              simp at how
            · cases h
      · cases ag
        · replace h := bsel_f h
          split at h
          · replace h := of_ob h
            obtain ⟨z, hz, h⟩ := h
            injection h with h
            subst h
            simp at how
          · cases h
        · cases h
      · replace h := of_bif h
        rcases h with ⟨_, h⟩ | ⟨_, h⟩
        · replace h := of_ob h
          obtain ⟨z, hz, h⟩ := h
          injection h with h
          subst h
          simp at how
        · cases h
      · replace h := of_bif h
        rcases h with ⟨_, h⟩ | ⟨_, h⟩
        · split at h
          · replace h := of_ob h
            obtain ⟨z, hz, h⟩ := h
            injection h with h
            subst h
            simp at how
          · cases h
        · cases h
      · cases ag
        · replace h := bsel_f h
          split at h
          · rename_i c
            replace h := of_bif h
            rcases h with ⟨hk, h⟩ | ⟨_, h⟩
            · replace h := of_ob h
              obtain ⟨l, hl, h⟩ := h
              replace h := of_ob h
              obtain ⟨z, hz, h⟩ := h
              replace h := of_ob h
              obtain ⟨u, hu, h⟩ := h
              injection h with h
              subst h
              have := congrArg List.length how
              simp at this
              have := c.n_pos
              omega
            · cases h
          · cases h
        · cases h
      · cases h
    · cases h
  · cases h
/-- All arguments. -/
structure AR (p : RT) where
  rd : List Nat
  own : List Nat
  x : p.den
/-- Is an operand nil? -/
def isNp (nt : Nat) (T : TS) : Operand → Bool
  | .const (.pointer none) => true
  | .tmp s => bsel (s.blt nt) (match look? T s with
    | some .np => true
    | _ => false) false
  | _ => false
def argR (G : GI) (T : TS) : (p : RT) → Operand → Option (AR p)
  | .c ag t, y => (argS G T ag t y).ob fun w => some ⟨w.rd, w.own, w.x⟩
  | .o t, y => bsel (isNp G.nt T y) (some ⟨rdO y, [], none⟩) ((argS G T false (.ptr true t) y).ob fun w => some ⟨w.rd, w.own, some w.x⟩)
theorem isNp_of (hF : Fit G C) (hT : Tells G.nt G.n T0 T) {y : Operand} (h : isNp G.nt T y = true) : y = .const (.pointer none) ∨ ∃ s, y = .tmp s ∧ s < C.nt ∧ T0.at s = .sc (.pointer none) := by
  unfold isNp at h
  split at h
  · exact .inl rfl
  · rename_i s
    cases hb : s.blt G.nt with
    | false => rw [hb] at h; cases h
    | true =>
      rw [hb] at h
      refine .inr ⟨s, rfl, by rw [hF.nt]; exact lt_blt hb, ?_⟩
      revert h
      cases hx : look? T s with
      | none => intro h; cases h
      | some x =>
        cases x <;> intro h <;> first
          | exact hT.slot hx rfl rfl
          | cases h
  · cases h
theorem argR_of (hF : Fit G C) (hT : Tells G.nt G.n T0 T) {p : RT} {y : Operand} {w : AR p} (h : argR G T p y = some w) (bad rd : List Nat) (hrd : ∀ s, s ∈ w.rd → s ∈ rd) (hbad : ∀ s, s ∈ w.own → s ∉ bad) (hself : ∀ s, s ∈ w.rd → s < G.nt → s ∉ bad) : argV C T0 rd bad (p.sv w.x).toV0 [] y := by
  cases p with
  | c ag t =>
    replace h := of_ob h
    obtain ⟨u, hu, h⟩ := h
    injection h with h
    subst h
    exact argS_of hF hT hu bad rd hrd hbad hself
  | o t =>
    replace h := of_bif h
    rcases h with ⟨hn, h⟩ | ⟨_, h⟩
    · injection h with h
      subst h
      rcases isNp_of hF hT hn with rfl | ⟨s, rfl, hs, hx⟩
      · exact .inr ⟨rfl, .inl ⟨_, rfl, rfl⟩⟩
      · exact .inl ⟨hrd s (by simp [rdO]), hs, .inl ⟨hx, rfl, rfl⟩⟩
    · replace h := of_ob h
      obtain ⟨u, hu, h⟩ := h
      injection h with h
      subst h
      exact argS_of hF hT hu bad rd hrd hbad hself
theorem argR_b (hF : Fit G C) (hT : Tells G.nt G.n T0 T) {p : RT} {y : Operand} {w : AR p} (h : argR G T p y = some w) (rd : List Nat) (hrd : ∀ s, s ∈ w.rd → s ∈ rd) (how : w.own = []) : argB C T0 rd (p.sv w.x).toV0 y := by
  cases p with
  | c ag t =>
    replace h := of_ob h
    obtain ⟨u, hu, h⟩ := h
    injection h with h
    subst h
    exact argS_b hF hT hu rd hrd how
  | o t =>
    replace h := of_bif h
    rcases h with ⟨hn, h⟩ | ⟨_, h⟩
    · injection h with h
      subst h
      rcases isNp_of hF hT hn with rfl | ⟨s, rfl, hs, hx⟩
      · exact (rfl : Value.pointer none = .pointer none)
      · exact ⟨hrd s (by simp [rdO]), hs, _, hx, rfl, rfl, rfl⟩
    · replace h := of_ob h
      obtain ⟨u, hu, h⟩ := h
      injection h with h
      subst h
      exact argS_b hF hT hu rd hrd how
structure AL (l : List RT) where
  rd : List Nat
  own : List Nat
  x : denA l
def argL (G : GI) (T : TS) : (l : List RT) → List Operand → Option (AL l)
  | [], [] => some ⟨[], [], ()⟩
  | p :: l, y :: ys => (argR G T p y).ob fun w => (argL G T l ys).ob fun u => some ⟨w.rd ++ u.rd, w.own ++ u.own, (w.x, u.x)⟩
  | _, _ => none
theorem argL_of (hF : Fit G C) (hT : Tells G.nt G.n T0 T) (bad rd : List Nat) : ∀ {l : List RT} {ys : List Operand} {u : AL l}, argL G T l ys = some u → (∀ s, s ∈ u.rd → s ∈ rd) → (∀ s, s ∈ u.own → s ∉ bad) → (∀ s, s < G.nt → s ∉ bad) →
    ∀ used, argsV C T0 rd bad used ys (encA l u.x) (ys.map fun _ => [])
  | [], [], u, h, _, _, _, _ => trivial
  | p :: l, y :: ys, u, h, h1, h2, h3, used => by
    replace h := of_ob h
    obtain ⟨w, hw, h⟩ := h
    replace h := of_ob h
    obtain ⟨u', hu, h⟩ := h
    injection h with h
    subst h
    exact ⟨argR_of hF hT hw bad rd (fun s hs => h1 s (List.mem_append_left _ hs)) (fun s hs => h2 s (List.mem_append_left _ hs)) fun s _ hs => h3 s hs, fun t ht => by simp at ht, argL_of hF hT bad rd hu (fun s hs => h1 s (List.mem_append_right _ hs)) (fun s hs => h2 s (List.mem_append_right _ hs)) h3 _⟩
  | [], _ :: _, u, h, _, _, _, _ => by cases h
  | _ :: _, [], u, h, _, _, _, _ => by cases h
theorem argL_b (hF : Fit G C) (hT : Tells G.nt G.n T0 T) (rd : List Nat) : ∀ {l : List RT} {ys : List Operand} {u : AL l}, argL G T l ys = some u → (∀ s, s ∈ u.rd → s ∈ rd) → u.own = [] → argsB C T0 rd ys (encA l u.x)
  | [], [], u, h, _, _ => trivial
  | p :: l, y :: ys, u, h, h1, h2 => by
    replace h := of_ob h
    obtain ⟨w, hw, h⟩ := h
    replace h := of_ob h
    obtain ⟨u', hu, h⟩ := h
    injection h with h
    subst h
    obtain ⟨h3, h4⟩ := List.append_eq_nil_iff.1 h2
    exact ⟨argR_b hF hT hw rd (fun s hs => h1 s (List.mem_append_left _ hs)) h3, argL_b hF hT rd hu (fun s hs => h1 s (List.mem_append_right _ hs)) h4⟩
  | [], _ :: _, u, h, _, _ => by cases h
  | _ :: _, [], u, h, _, _ => by cases h
/-- By what a pointer to what was made is, or isn't. -/
def optK {α : Type} (x : Option α) (a : Option R) (f : α → Option R) : Option R := match x with
  | none => a
  | some y => f y
def resO : (r : RT) → r.den → (SV → Option R) → Option R
  | .c ag t, x, K => K (.of ag t x)
  | .o t, x, K => optK x (K .np) fun y => K (.obx t y)
def resK : (l : List RT) → denR l → (List SV → Option R) → Option R
  | [], _, K => K []
  | [r], x, K => resO r x fun s => K [s]
  | r :: r' :: l, x, K => resO r x.1 fun s => resK (r' :: l) x.2 fun ss => K (s :: ss)
theorem resO_of : ∀ {r : RT} {x : r.den} {K : SV → Option R} {q : R}, resO r x K = some q → ∃ s, K s = some q ∧ s.toV0 = encO r x ∧ s.root? = none
  | .c ag t, x, K, q, h => ⟨_, h, rfl, by cases ag <;> rfl⟩
  | .o t, none, K, q, h => ⟨_, h, rfl, rfl⟩
  | .o t, some y, K, q, h => ⟨_, h, rfl, rfl⟩
theorem resK_of : ∀ {l : List RT} {x : denR l} {K : List SV → Option R} {q : R}, resK l x K = some q → ∃ ss, K ss = some q ∧ ss.map SV.toV0 = encR l x ∧ ∀ s, s ∈ ss → s.root? = none
  | [], x, K, q, h => ⟨_, h, rfl, fun s hs => by simp at hs⟩
  | [r], x, K, q, h => by
    obtain ⟨s, h1, h2, h3⟩ := resO_of h
    exact ⟨[s], h1, by simp [encR, h2], fun s' hs => by simp at hs; subst hs; exact h3⟩
  | r :: r' :: l, x, K, q, h => by
    obtain ⟨s, h1, h2, h3⟩ := resO_of h
    obtain ⟨ss, h4, h5, h6⟩ := resK_of h1
    exact ⟨s :: ss, h4, by rw [List.map_cons, h5, h2]; rfl, fun s' hs => by
      rcases List.mem_cons.1 hs with rfl | hs
      · exact h3
      · exact h6 s' hs⟩
def tupS : List SV → SV
  | [] => .u0
  | [x] => x
  | l => .tup l
theorem tupS_of {l : List SV} (h : ∀ s, s ∈ l → s.root? = none) : (tupS l).toV0 = resV (l.map SV.toV0) ∧ (tupS l).root? = none := by
  match l, h with
  | [], _ => exact ⟨rfl, rfl⟩
  | [x], h => exact ⟨rfl, h x (by simp)⟩
  | x :: y :: l, _ => exact ⟨by simp [tupS, SV.toV0, toV_go, resV], rfl⟩
/-- A call. -/
def stCall (G : GI) (o : Oper) (f : Nat) (ys : List Operand) (T : TS) (K : Rn R) : Option R := (dOk G o).ob fun d => (envOf G.env f).ob fun s => match s with
  | .p args res F => (argL G T args ys).ob fun u => (F u.x).bind fun r => resK res r fun ss => bsel ((tupS ss).toV0.shrD || u.own.isEmpty) (K u.rd [(d, false, tupS ss)]) <| none
  | .l t args res F => match ys with
    | .tmp q :: yr => bsel (q.blt G.nt) ((look? T q).ob fun y => match y with
      | .at_ k => bsel (atOk G k t.n && (baseOf G.g k).beq k && t.flat && t.shr) ((cellsO T k t.n).ob fun l => (packAs t l).ob fun b => (argL G T args yr).ob fun u => bsel (u.own.all (fun s => s.blt k || (k + t.n).ble s)) ((F b.1 u.x).bind fun r => resK res (initR t res r) fun ss => bsel ((tupS ss).toV0.shrD) (K (q :: ((List.range t.n).map (k + ·) ++ u.rd)) (stE k (leafs t (lastR t res r)) ++ [(d, false, tupS ss)])) <| none) <| none) <| none
      | _ => none) <| none
    | _ => none
theorem flat_nil {α : Type} {β : Type} (l : List α) : (l.map fun _ => ([] : List β)).flatten = [] := by
  induction l with
  | nil => rfl
  | cons _ _ ih => simp
theorem stCall_snd (hF : Fit G C) (hT : Tells G.nt G.n T0 T) {o : Oper} {f : Nat} {ys : Array Operand} {ats : Array TypeId} (ho : o.op = .call { callee := .value (.func f), args := ys, argTypes := ats }) : Snd (R := R) G C T0 o (stCall G o f ys.toList T) := by
  intro K r h
  unfold stCall at h
  replace h := of_ob h
  obtain ⟨d, hd, h⟩ := h
  obtain ⟨d1, d2, d3, d4, d5, d6⟩ := dOk_of hF hT hd
  replace h := of_ob h
  obtain ⟨s, hs, h⟩ := h
  obtain ⟨hok, hgo⟩ := hF.env _ (envOf_mem hs)
  split at h
  · rename_i args res F
    replace h := of_ob h
    obtain ⟨u, hu, h⟩ := h
    replace h := of_bind h
    obtain ⟨q, hq, h⟩ := h
    replace h := resK_of h
    obtain ⟨ss, h, e1, e2⟩ := h
    obtain ⟨t1, t2⟩ := tupS_of e2
    rw [e1] at t1
    replace h := of_bif h
    rcases h with ⟨hsh, h⟩ | ⟨_, h⟩
    · refine ⟨_, _, ?_, EOk.one d6 t2, h⟩
      simp only [ES.eff, List.map_cons, List.map_nil, toV_root t2]
      by_cases hown : u.own = []
      · rw [t1]
        exact exec_call_b f ys ats _ _ _ ho hgo d1 d2 d3 d4 (hok u.x q hq) (argL_b hF hT u.rd hu (fun _ h => h) hown)
      · have hsh' : (tupS ss).toV0.shrD = true := by
          simp only [Bool.or_eq_true, List.isEmpty_iff] at hsh
          exact hsh.resolve_right hown
        rw [t1] at hsh' ⊢
        have := exec_call (P := G.P) (C := C) (T := T0) (rd := u.rd) f ys ats _ (ys.toList.map fun _ => []) _ _ ho hgo d1 d2 d3 d4 (hok u.x q hq) hsh' (by rw [flat_nil]; exact argL_of hF hT [] u.rd hu (fun _ h => h) (fun _ _ => by simp) (fun _ _ => by simp) []) (by rw [flat_nil]; simp)
        rw [flat_nil] at this
        exact this
    · cases h
  · rename_i t args res F
    split at h
    · rename_i q yr hys
      replace h := of_bif h
      rcases h with ⟨hb, h⟩ | ⟨_, h⟩
      · have hqn := lt_blt hb
        replace h := of_ob h
        obtain ⟨y, hy, h⟩ := h
        split at h
        · rename_i k
          replace h := of_bif h
          rcases h with ⟨hk, h⟩ | ⟨_, h⟩
          · simp only [Bool.and_eq_true] at hk
            obtain ⟨b1, b2, b3⟩ := atOk_of hF hk.1.1.1
            have hbk := Nat.eq_of_beq_eq_true hk.1.1.2
            have hflat := hk.1.2
            replace h := of_ob h
            obtain ⟨l, hl, h⟩ := h
            replace h := of_ob h
            obtain ⟨b, hb', h⟩ := h
            replace h := of_ob h
            obtain ⟨u, hu, h⟩ := h
            replace h := of_bif h
            rcases h with ⟨hap, h⟩ | ⟨_, h⟩
            · replace h := of_bind h
              obtain ⟨w, hw, h⟩ := h
              replace h := resK_of h
              obtain ⟨ss, h, e1, e2⟩ := h
              obtain ⟨t1, t2⟩ := tupS_of e2
              rw [e1] at t1
              replace h := of_bif h
              rcases h with ⟨hsh, h⟩ | ⟨_, h⟩
              · obtain ⟨l1, l2⟩ := cellsO_of hl
                have hpk := packAs_of hb'
                have hbl : b.2 = [] := by
                  have := congrArg List.length hpk
                  simp only [List.length_map, List.length_append, enc_length, l1] at this
                  exact List.eq_nil_of_length_eq_zero (by omega)
                rw [hbl, List.map_nil, List.append_nil] at hpk
                have hcs : cellsAt T0 k t.n = enc t b.1 := by
                  rw [← hpk]
                  refine List.ext_getElem? fun j => ?_
                  unfold cellsAt
                  by_cases hj : j < t.n
                  · obtain ⟨x, hx1, hx2⟩ := l2 j hj
                    rw [List.getElem?_map, List.getElem?_map, hx1, List.getElem?_range hj]
                    simp only [Option.map_some, Option.some.injEq]
                    exact (hT.cellAt hx2 (by omega)).1
                  · rw [List.getElem?_eq_none (by simp; omega), List.getElem?_eq_none (by simp [l1]; omega)]
                obtain ⟨f1, f2⟩ := leafs_of (x := lastR t res w) hflat
                have hcell : ∀ j, j < t.n → T0.at (k + j) ∈ enc t b.1 := fun j hj => by
                  rw [← hcs]
                  exact List.mem_map.2 ⟨j, by simpa using hj, rfl⟩
                have hkl : k + t.n ≤ G.n := by
                  have hp := t.n_pos
                  obtain ⟨x, hx1, hx2⟩ := l2 (t.n - 1) (by omega)
                  have := hT.lt hx2
                  omega
                have hbase : ∀ j, j < t.n → C.base (k + j) = k := fun j hj => by rw [b3 j hj, hF.base]; exact hbk
                have hll : (leafs t (lastR t res w)).length = t.n := by
                  have := congrArg List.length f1
                  simpa [enc_length] using this
                refine ⟨_, _, ?_, .inl fun e he => ?_, h⟩
                · rw [eff_app, eff_st k _ f2, f1]
                  simp only [ES.eff, List.map_cons, List.map_nil, toV_root t2]
                  have := exec_call_lent (P := G.P) (C := C) (T := T0) (rd := q :: ((List.range t.n).map (k + ·) ++ u.rd)) f ys ats q k t.n yr (encA args u.x) (yr.map fun _ => []) (enc t (lastR t res w)) _ _ ho hgo hys (by simp) (by rw [hF.nt]; exact hqn) (hT.slot hy rfl rfl) d1 d2 d3 d4 (by rw [hF.nt]; exact b1) (by rw [hT.len]; exact hkl) hbase t.n_pos (fun j hj => List.mem_cons_of_mem _ (List.mem_append_left _ (List.mem_map.2 ⟨j, by simpa using hj, rfl⟩))) (fun j hj => ⟨by
                      obtain ⟨p1, p2, p3, p4⟩ := enc_plain t b.1 _ (hcell j hj)
                      revert p1 p3 p4
                      generalize T0.at (k + j) = z
                      intro p1 p3 p4
                      cases z <;> first | rfl | exact absurd rfl p1 | exact absurd rfl (p3 _) | simp [V.root] at p4, enc_shr t b.1 hk.2 _ (hcell j hj)⟩) (enc_length t _) (by rw [hcs]; exact hok b.1 u.x w hw) (by rw [← t1]; exact hsh) (by
                      rw [flat_nil, List.append_nil]
                      refine argL_of hF hT _ _ hu (fun s hs => List.mem_cons_of_mem _ (List.mem_append_right _ hs)) (fun s hs => ?_) (fun s hs hm => ?_) _
                      · intro hm
                        obtain ⟨j, hj, rfl⟩ := List.mem_map.1 hm
                        have := List.all_eq_true.1 hap _ hs
                        simp only [Bool.or_eq_true] at this
                        have hj' : j < t.n := by simpa using hj
                        rcases this with this | this
                        · have := lt_blt this; omega
                        · have := Nat.le_of_ble_eq_true this; omega
                      · obtain ⟨j, hj, rfl⟩ := List.mem_map.1 hm
                        omega) (by rw [flat_nil]; simp)
                  rw [flat_nil] at this
                  rw [t1]
                  exact this
                · rcases List.mem_append.1 he with he | he
                  · obtain ⟨h1, h2, h3⟩ := mem_stE he
                    exact ⟨by omega, f2 _ h3⟩
                  · simp at he; subst he; exact ⟨d6, t2⟩
              · cases h
            · cases h
          · cases h
        · cases h
      · cases h
    · cases h
end
end Go.Proofs.Ytepeoiimdefnpaa.Vm
namespace Go.Proofs.Ytepeoiimdefnpaa.Vm
open Go
section
variable {G : GI} {C : Ctx} {T0 : St} {T : TS} {R : Type}
/-- A struct's cells as values of numbers and bools. -/
def valsC : (t : Ty) → t.den → Option (List Value)
  | .i k, x => some [.int k x]
  | .b, x => some [.bool x]
  | .cons a r, x => (valsC a x.1).ob fun p => (valsC r x.2).ob fun q => some (p ++ q)
  | _, _ => none
theorem valsC_of : ∀ {t : Ty} {x : t.den} {l : List Value}, valsC t x = some l → enc t x = l.map V.sc
  | .i k, x, l, h => by injection h with h; subst h; rfl
  | .b, x, l, h => by injection h with h; subst h; rfl
  | .cons a r, x, l, h => by
    replace h := of_ob h
    obtain ⟨p, hp, h⟩ := h
    replace h := of_ob h
    obtain ⟨q, hq, h⟩ := h
    injection h with h
    subst h
    show enc a x.1 ++ enc r x.2 = _
    rw [valsC_of hp, valsC_of hq, List.map_append]
  | .s, _, _, h | .row _ _, _, _, h | .own _ _, _, _, h | .ptr _ _, _, _, h => by cases h
theorem val_go_sc (l : List Value) : V.val.go (l.map V.sc) = some l := by
  induction l with
  | nil => rfl
  | cons v l ih => simp [V.val.go, V.val, ih]
def SV.vals? : SV → Option (List Value)
  | .agg t x => valsC t x
  | _ => none
theorem vals?_of {x : SV} {l : List Value} (h : x.vals? = some l) : (x.toV g0).val = some (.agg l.toArray) := by
  unfold SV.vals? at h
  split at h
  · rename_i t x
    show (V.agg (enc t x)).val = _
    rw [valsC_of h]
    simp [V.val, val_go_sc]
  · cases h
/-- Is it a pointer, and is it nil? -/
def SV.nil? : SV → Option Bool
  | .np => some true
  | .v (.ptr _ _) _ => some false
  | .at_ _ => some false
  | .obx _ _ => some false
  | _ => none
theorem nil?_of (hF : Fit G C) (hT : Tells G.nt G.n T0 T) {s : Nat} {y : SV} {b : Bool} (hs : s < G.nt) (hy : look? T s = some y) (h : y.nil? = some b) {T' : St} {a : Act} {w : World} {S : Foot} {F : Nat → Foot} {loc : Nat → Addr} (hsm : Same T0 T' [s]) (hsim : SimB C T' a w S F loc) : ∃ p, a.eval (.tmp s) = .pointer p ∧ p.isNone = b := by
  have hs' : s < C.nt := by rw [hF.nt]; exact hs
  have he : a.eval (.tmp s) = a.tmps.getD s undef := rfl
  unfold SV.nil? at h
  split at h
  · injection h with h
    subst h
    have := hsim.value s hs' (v := .pointer none) (by rw [hsm.at_ (by simp), hT.slot hy rfl rfl]; rfl)
    exact ⟨none, this, rfl⟩
  · injection h with h
    subst h
    have hh := hsim.held s hs' ((hsm.at_ (by simp)).trans (hT.slot hy rfl rfl)) (by simp [SV.toV0, enc]) (fun _ => by simp [SV.toV0, enc]) rfl
    rw [he]
    generalize a.tmps.getD s undef = v at hh
    cases hh with
    | box => exact ⟨_, rfl, rfl⟩
  · injection h with h
    subst h
    have hk := hsim.slot s
    rw [(hsm.at_ (by simp)).trans (hT.slot hy rfl rfl)] at hk
    exact ⟨_, conc_eval hs' hk.1, rfl⟩
  · injection h with h
    subst h
    have hh := hsim.held s hs' ((hsm.at_ (by simp)).trans (hT.slot hy rfl rfl)) (by simp [SV.toV0]) (fun _ => by simp [SV.toV0]) rfl
    rw [he]
    generalize a.tmps.getD s undef = v at hh
    cases hh with
    | obx => exact ⟨_, rfl, rfl⟩
  · cases h
theorem nil_eql {P : Program} {xt e : TypeId} {x y : Operand} {p : Option Addr} (hu : P.underlying xt = some (.pointer e)) (w : World) : (do eqGuard .eql xt x y (.pointer p) (.pointer none); binOp .eql xt (.pointer p) (.pointer none) : Sem Value).run P w = .ok (.bool p.isNone) w := by
  have h := run_eql_pointer_nil (w := w) xt p (by unfold Program.pointee; rw [hu])
  rw [Sem.run_bind]
  simp only [eqGuard]
  exact h
theorem nil_neq {P : Program} {xt e : TypeId} {x y : Operand} {p : Option Addr} (hu : P.underlying xt = some (.pointer e)) (w : World) : (do eqGuard .neq xt x y (.pointer p) (.pointer none); binOp .neq xt (.pointer p) (.pointer none) : Sem Value).run P w = .ok (.bool (!p.isNone)) w := by
  have h := run_neq_pointer_nil (w := w) xt p (by unfold Program.pointee; rw [hu])
  rw [Sem.run_bind]
  simp only [eqGuard]
  exact h
theorem str_eq_dec (s t : ByteArray) : (s.toList == t.toList) = decide (s = t) := by
  by_cases h : s = t
  · subst h; simp
  · have : s.toList ≠ t.toList := fun e => h (by
      rw [ByteArray.toList_eq, ByteArray.toList_eq] at e
      cases s; cases t
      simp_all)
    simp [this, h]
def ptrT (P : Program) (t : Nat) : Bool := match P.underlying t with
  | some (.pointer _) => true
  | _ => false
theorem run_equalIn_nil_pointer {P : Program} {t e : TypeId} {q : Option Addr} (d : Nat) (w : World) (h : P.underlying t = some (.pointer e)) : (Op.equalIn (d + 1) t (.pointer none) (.pointer q)).run P w = .ok q.isNone w := by
  cases q <;> simp [Op.equalIn, run_underlying h]
theorem run_equal_nil_pointer {P : Program} {t e : TypeId} {q : Option Addr} (w : World) (h : P.underlying t = some (.pointer e)) : (Op.equal t (.pointer none) (.pointer q)).run P w = .ok q.isNone w := run_equalIn_nil_pointer 9999 w h
/-- Two pointers, of which one at least is nil: are they the same? -/
theorem ptr_eql {P : Program} {xt e : TypeId} {x y : Operand} {p q : Option Addr} (hu : P.underlying xt = some (.pointer e)) (hn : (p.isNone || q.isNone) = true) (w : World) : (do eqGuard .eql xt x y (.pointer p) (.pointer q); binOp .eql xt (.pointer p) (.pointer q) : Sem Value).run P w = .ok (.bool (p.isNone && q.isNone)) w := by
  cases q with
  | none => rw [nil_eql hu w]; simp
  | some b =>
    cases p with
    | some a => simp at hn
    | none =>
      rw [Sem.run_bind]
      simp only [eqGuard]
      show (binOp .eql xt (.pointer none) (.pointer (some b))).run P w = _
      simp only [binOp]
      simp [run_equal_nil_pointer w hu]
theorem ptr_neq {P : Program} {xt e : TypeId} {x y : Operand} {p q : Option Addr} (hu : P.underlying xt = some (.pointer e)) (hn : (p.isNone || q.isNone) = true) (w : World) : (do eqGuard .neq xt x y (.pointer p) (.pointer q); binOp .neq xt (.pointer p) (.pointer q) : Sem Value).run P w = .ok (.bool (!(p.isNone && q.isNone))) w := by
  cases q with
  | none => rw [nil_neq hu w]; simp
  | some b =>
    cases p with
    | some a => simp at hn
    | none =>
      rw [Sem.run_bind]
      simp only [eqGuard]
      show (binOp .neq xt (.pointer none) (.pointer (some b))).run P w = _
      simp only [binOp]
      simp [run_equal_nil_pointer w hu]
def ptrCmp (nt : Nat) (T : TS) (x y : Operand) : Option ((Nat × SV × Bool) × (Nat × SV × Bool)) := (slotO nt T x).ob fun p => (slotO nt T y).ob fun q => p.2.nil?.ob fun a => q.2.nil?.ob fun b => bsel (a || b) (some ((p.1, p.2, a), (q.1, q.2, b))) none
abbrev isPtrCmp (nt : Nat) (T : TS) (x y : Operand) : Bool := match ptrCmp nt T x y with
  | some _ => true
  | none => false
def stPtrCmp (G : GI) (o : Oper) (op : BinOp) (xt : TypeId) (x y : Operand) (T : TS) (K : Rn R) : Option R :=
  (dOk G o).ob fun d => (ptrCmp G.nt T x y).ob fun p => bsel (ptrT G.P xt) ((match op with
    | .eql => K [p.1.1, p.2.1] [(d, false, .kb (p.1.2.2 && p.2.2.2))]
    | .neq => K [p.1.1, p.2.1] [(d, false, .kb (!(p.1.2.2 && p.2.2.2)))]
    | _ => none)) none
theorem ptrCmp_of {nt : Nat} {x y : Operand} {p : (Nat × SV × Bool) × (Nat × SV × Bool)} (h : ptrCmp nt T x y = some p) : slotO nt T x = some (p.1.1, p.1.2.1) ∧ slotO nt T y = some (p.2.1, p.2.2.1) ∧ p.1.2.1.nil? = some p.1.2.2 ∧ p.2.2.1.nil? = some p.2.2.2 ∧ (p.1.2.2 || p.2.2.2) = true := by
  obtain ⟨q1, h1, h⟩ := of_ob h
  obtain ⟨q2, h2, h⟩ := of_ob h
  obtain ⟨a, h3, h⟩ := of_ob h
  obtain ⟨b, h4, h⟩ := of_ob h
  rcases of_bif h with ⟨h5, h⟩ | ⟨_, h⟩
  · injection h with h
    subst h
    exact ⟨h1, h2, h3, h4, h5⟩
  · cases h
theorem stPtrCmp_snd (hF : Fit G C) (hT : Tells G.nt G.n T0 T) {o : Oper} {op : BinOp} {xt yt : TypeId} {x y : Operand} (ho : o.op = .binOp op xt x y yt) : Snd (R := R) G C T0 o (stPtrCmp G o op xt x y T) := by
  intro K r h
  unfold stPtrCmp at h
  obtain ⟨d, hd, h⟩ := of_ob h
  obtain ⟨d1, d2, d3, d4, d5, d6⟩ := dOk_of hF hT hd
  obtain ⟨p, hp, h⟩ := of_ob h
  obtain ⟨p1, p2, p3, p4, p5⟩ := ptrCmp_of hp
  obtain ⟨e1, hs, hz⟩ := slotO_of p1
  obtain ⟨e2, hs2, hz2⟩ := slotO_of p2
  rw [e1, e2] at ho
  rcases of_bif h with ⟨ht, h⟩ | ⟨_, h⟩
  · obtain ⟨e, hu⟩ : ∃ e, G.P.underlying xt = some (.pointer e) := by
      unfold ptrT at ht
      split at ht
      · exact ⟨_, by assumption⟩
      · cases ht
    have get : ∀ {T' : St} {a : Act} {w : World} {S : Foot} {F : Nat → Foot} {loc : Nat → Addr}, Same T0 T' [p.1.1, p.2.1] → SimB C T' a w S F loc → ∃ u v, a.eval (.tmp p.1.1) = .pointer u ∧ u.isNone = p.1.2.2 ∧ a.eval (.tmp p.2.1) = .pointer v ∧ v.isNone = p.2.2.2 := fun hsm hsim => by
      obtain ⟨u, h1, h2⟩ := nil?_of hF hT hs hz p3 ⟨hsm.1, fun s hs => hsm.2 s (by simp at hs; simp [hs])⟩ hsim
      obtain ⟨v, h3, h4⟩ := nil?_of hF hT hs2 hz2 p4 ⟨hsm.1, fun s hs => hsm.2 s (by simp at hs; simp [hs])⟩ hsim
      exact ⟨u, v, h1, h2, h3, h4⟩
    split at h
    · refine ⟨_, _, ?_, EOk.one d6 rfl, h⟩
      refine exec_free (.sc (.bool (p.1.2.2 && p.2.2.2))) d1 d2 d3 d4 fun T' a w S F loc hsm hsim => ?_
      obtain ⟨u, v, h1, h2, h3, h4⟩ := get hsm hsim
      refine ⟨.bool (p.1.2.2 && p.2.2.2), ?_, .sc ..⟩
      simp only [execOp, ho, h1, h3]
      rw [Sem.run_bind]
      have := ptr_eql (P := G.P) (xt := xt) (x := .tmp p.1.1) (y := .tmp p.2.1) (p := u) (q := v) hu (by rw [h2, h4]; exact p5) w
      rw [this, h2, h4]
      rfl
    · refine ⟨_, _, ?_, EOk.one d6 rfl, h⟩
      refine exec_free (.sc (.bool (!(p.1.2.2 && p.2.2.2)))) d1 d2 d3 d4 fun T' a w S F loc hsm hsim => ?_
      obtain ⟨u, v, h1, h2, h3, h4⟩ := get hsm hsim
      refine ⟨.bool (!(p.1.2.2 && p.2.2.2)), ?_, .sc ..⟩
      simp only [execOp, ho, h1, h3]
      rw [Sem.run_bind]
      have := ptr_neq (P := G.P) (xt := xt) (x := .tmp p.1.1) (y := .tmp p.2.1) (p := u) (q := v) hu (by rw [h2, h4]; exact p5) w
      rw [this, h2, h4]
      rfl
    · cases h
  · cases h
/-- Two values, compared or put together. -/
def stBin2 (G : GI) (o : Oper) (op : BinOp) (xt : TypeId) (x y : Operand) (T : TS) (K : Rn R) : Option R :=
  (dOk G o).ob fun d => (opS G.nt T x).ob fun a => match y with
  | .const (.pointer none) => (slotO G.nt T x).ob fun p => p.2.nil?.ob fun b => bsel (ptrT G.P xt) ((match op with
    | .eql => K [p.1] [(d, false, .kb b)]
    | .neq => K [p.1] [(d, false, .kb (!b))]
    | _ => none)) <| none
  | y => match a.int? with
    | some _ => stBin G o op xt x y T K
    | none => (opS G.nt T y).ob fun b => match a.bool? with
      | some p => b.bool?.ob fun q => (tiOf G.tt xt).ob fun i => match i.k, op with
        | .bool, .eql => K (rdO x ++ rdO y) [(d, false, .v .b (decide (p = q)))]
        | .bool, .neq => K (rdO x ++ rdO y) [(d, false, .v .b (!decide (p = q)))]
        | _, _ => none
      | none => match a.str? with
        | some p => b.str?.ob fun q => match op with
          | .eql => K (rdO x ++ rdO y) [(d, false, .v .b (decide (p = q)))]
          | .neq => K (rdO x ++ rdO y) [(d, false, .v .b (!decide (p = q)))]
          | .add => if (p.size + q.size : Nat) ≤ 9223372036854775807 then K (rdO x ++ rdO y) [(d, false, .v .s (p ++ q))] else none
          | _ => none
        | none => a.vals?.ob fun p => b.vals?.ob fun q => match G.P.underlying xt with
          | some (.struct fs) => bsel (!G.P.stoodInHeld xt && !G.P.eqGuardType G.P.depth xt) ((eqFlat G.P p.toArray q.toArray fs.toList).ob fun e => match op with
            | .eql => K (rdO x ++ rdO y) [(d, false, .v .b e)]
            | .neq => K (rdO x ++ rdO y) [(d, false, .v .b (!e))]
            | _ => none) <| none
          | _ => none
theorem str_add {P : Program} {xt : TypeId} {x y : Operand} {s t : ByteArray} (h : s.size + t.size ≤ 9223372036854775807) (w : World) : (do eqGuard .add xt x y (.string s) (.string t); binOp .add xt (.string s) (.string t) : Sem Value).run P w = .ok (.string (s ++ t)) w := by
  have h' : ¬ (((s.size + t.size : Nat) : Int) > IntKind.i64.max) := by
    have : IntKind.i64.max = 9223372036854775807 := by decide
    rw [this]; omega
  simp only [eqGuard, binOp, Op.stringOp]
  rw [if_neg h']
  rfl
theorem stBin2_snd (hF : Fit G C) (hT : Tells G.nt G.n T0 T) {o : Oper} {op : BinOp} {xt yt : TypeId} {x y : Operand} (ho : o.op = .binOp op xt x y yt) : Snd (R := R) G C T0 o (stBin2 G o op xt x y T) := by
  intro K r h
  unfold stBin2 at h
  replace h := of_ob h
  obtain ⟨d, hd, h⟩ := h
  obtain ⟨d1, d2, d3, d4, d5, d6⟩ := dOk_of hF hT hd
  replace h := of_ob h
  obtain ⟨a, ha, h⟩ := h
  split at h
  · replace h := of_ob h
    obtain ⟨⟨s, z⟩, hp, h⟩ := h
    obtain ⟨e1, hs, hz⟩ := slotO_of hp
    rw [e1] at ho
    replace h := of_ob h
    obtain ⟨b, hb, h⟩ := h
    replace h := of_bif h
    rcases h with ⟨ht, h⟩ | ⟨_, h⟩
    · obtain ⟨e, hu⟩ : ∃ e, G.P.underlying xt = some (.pointer e) := by
        unfold ptrT at ht
        split at ht
        · exact ⟨_, by assumption⟩
        · cases ht
      split at h
      · refine ⟨_, _, ?_, EOk.one d6 rfl, h⟩
        refine exec_free (.sc (.bool b)) d1 d2 d3 d4 fun T' a w S F loc hsm hsim => ?_
        obtain ⟨p, h1, h2⟩ := nil?_of hF hT hs hz hb hsm hsim
        refine ⟨.bool b, ?_, .sc ..⟩
        simp only [execOp, ho, h1]
        rw [Sem.run_bind]
        have := nil_eql (P := G.P) (xt := xt) (x := .tmp s) (y := .const (.pointer none)) (p := p) hu w
        simp only [Act.eval] at this ⊢
        rw [this, h2]
        rfl
      · refine ⟨_, _, ?_, EOk.one d6 rfl, h⟩
        refine exec_free (.sc (.bool (!b))) d1 d2 d3 d4 fun T' a w S F loc hsm hsim => ?_
        obtain ⟨p, h1, h2⟩ := nil?_of hF hT hs hz hb hsm hsim
        refine ⟨.bool (!b), ?_, .sc ..⟩
        simp only [execOp, ho, h1]
        rw [Sem.run_bind]
        have := nil_neq (P := G.P) (xt := xt) (x := .tmp s) (y := .const (.pointer none)) (p := p) hu w
        simp only [Act.eval] at this ⊢
        rw [this, h2]
        rfl
      · cases h
    · cases h
  · split at h
    · have h2 : stBin G o op xt x y T K = some r := h
      exact stBin_snd hF hT ho K r h2
    · replace h := of_ob h
      obtain ⟨b, hb, h⟩ := h
      split at h
      · rename_i p hp
        replace h := of_ob h
        obtain ⟨q, hq, h⟩ := h
        replace h := of_ob h
        obtain ⟨i, hi, h⟩ := h
        rw [bool?_eq hp] at ha
        rw [bool?_eq hq] at hb
        have e1 := opS_opnd hF hT ha (v := .bool p) (rd := rdO x ++ rdO y) rfl fun s hs => List.mem_append_left _ hs
        have e2 := opS_opnd hF hT hb (v := .bool q) (rd := rdO x ++ rdO y) rfl fun s hs => List.mem_append_right _ hs
        split at h
        · rename_i hk
          have hu : G.P.underlying xt = some .bool := by have := (hF.ti hi).k; rw [hk] at this; exact this
          exact ⟨_, _, exec_bin ho d1 d2 d3 d4 e1 e2 (bool_eql hu), EOk.one d6 rfl, h⟩
        · rename_i hk
          have hu : G.P.underlying xt = some .bool := by have := (hF.ti hi).k; rw [hk] at this; exact this
          exact ⟨_, _, exec_bin ho d1 d2 d3 d4 e1 e2 (bool_neq hu), EOk.one d6 rfl, h⟩
        · cases h
      · split at h
        · rename_i p hp
          replace h := of_ob h
          obtain ⟨q, hq, h⟩ := h
          rw [str?_eq hp] at ha
          rw [str?_eq hq] at hb
          have e1 := opS_opnd hF hT ha (v := .string p) (rd := rdO x ++ rdO y) rfl fun s hs => List.mem_append_left _ hs
          have e2 := opS_opnd hF hT hb (v := .string q) (rd := rdO x ++ rdO y) rfl fun s hs => List.mem_append_right _ hs
          split at h
          · exact ⟨_, _, exec_bin ho d1 d2 d3 d4 e1 e2 (fun w => by rw [str_eql, str_eq_dec]), EOk.one d6 rfl, h⟩
          · exact ⟨_, _, exec_bin ho d1 d2 d3 d4 e1 e2 (fun w => by rw [str_neq, str_eq_dec]), EOk.one d6 rfl, h⟩
          · replace h := of_guard h
            obtain ⟨hl, h⟩ := h
            exact ⟨_, _, exec_bin ho d1 d2 d3 d4 e1 e2 (str_add hl), EOk.one d6 rfl, h⟩
          · cases h
        · replace h := of_ob h
          obtain ⟨p, hp, h⟩ := h
          replace h := of_ob h
          obtain ⟨q, hq, h⟩ := h
          have e1 := opS_opnd hF hT ha (rd := rdO x ++ rdO y) (vals?_of hp) fun s hs => List.mem_append_left _ hs
          have e2 := opS_opnd hF hT hb (rd := rdO x ++ rdO y) (vals?_of hq) fun s hs => List.mem_append_right _ hs
          split at h
          · rename_i fs hu
            replace h := of_bif h
            rcases h with ⟨hg, h⟩ | ⟨_, h⟩
            · simp only [Bool.and_eq_true, Bool.not_eq_true'] at hg
              replace h := of_ob h
              obtain ⟨e, he, h⟩ := h
              split at h
              · exact ⟨_, _, exec_bin ho d1 d2 d3 d4 e1 e2 (struct_eql hu hg.1 hg.2 he), EOk.one d6 rfl, h⟩
              · exact ⟨_, _, exec_bin ho d1 d2 d3 d4 e1 e2 (struct_neq hu hg.1 hg.2 he), EOk.one d6 rfl, h⟩
              · cases h
            · cases h
          · cases h
end
end Go.Proofs.Ytepeoiimdefnpaa.Vm
namespace Go.Proofs.Ytepeoiimdefnpaa.Vm
open Go
/-- Numbers of one kind. -/
def intsK (k : IntKind) : List SV → Option (List Int)
  | [] => some []
  | .v (.i k') x :: l => bsel (kEq k k') ((intsK k l).ob fun xs => some (x :: xs)) <| none
  | _ => none
def intsS : List SV → Option (IntKind × List Int)
  | .v (.i k) x :: l => (intsK k l).ob fun xs => some (k, x :: xs)
  | _ => none
theorem intsK_of {k : IntKind} : ∀ {l : List SV} {xs : List Int}, intsK k l = some xs → l = xs.map fun x => .v (.i k) x
  | [], xs, h => by injection h with h; subst h; rfl
  | .v (.i k') x :: l, xs, h => by
    obtain ⟨hk, h⟩ := of_bsel h
    obtain rfl := of_decide_eq_true hk
    replace h := of_ob h
    obtain ⟨ys, hy, h⟩ := h
    injection h with h
    subst h
    rw [intsK_of hy]; rfl
  | .v .b _ :: _, _, h | .v .s _ :: _, _, h | .v (.row _ _) _ :: _, _, h | .v (.own _ _) _ :: _, _, h | .v (.ptr _ _) _ :: _, _, h | .v (.cons _ _) _ :: _, _, h => by cases h
  | .agg _ _ :: _, _, h | .tup _ :: _, _, h | .at_ _ :: _, _, h | .atv _ _ _ :: _, _, h | .al _ :: _, _, h | .ref _ _ _ _ :: _, _, h | .vw _ _ _ _ :: _, _, h | .obx _ _ :: _, _, h | .iter _ _ :: _, _, h | .np :: _, _, h | .u0 :: _, _, h | .un :: _, _, h | .dead :: _, _, h | .opt _ _ :: _, _, h | .kb _ :: _, _, h | .refv _ _ _ _ _ :: _, _, h | .dp _ _ :: _, _, h | .optb _ _ :: _, _, h => by cases h
theorem intsS_of : ∀ {l : List SV} {p : IntKind × List Int}, intsS l = some p → l = p.2.map fun x => .v (.i p.1) x
  | .v (.i k) x :: l, p, h => by
    replace h := of_ob h
    obtain ⟨ys, hy, h⟩ := h
    injection h with h
    subst h
    rw [intsK_of hy]; rfl
  | [], _, h => by cases h
  | .v .b _ :: _, _, h | .v .s _ :: _, _, h | .v (.row _ _) _ :: _, _, h | .v (.own _ _) _ :: _, _, h | .v (.ptr _ _) _ :: _, _, h | .v (.cons _ _) _ :: _, _, h => by cases h
  | .agg _ _ :: _, _, h | .tup _ :: _, _, h | .at_ _ :: _, _, h | .atv _ _ _ :: _, _, h | .al _ :: _, _, h | .ref _ _ _ _ :: _, _, h | .vw _ _ _ _ :: _, _, h | .obx _ _ :: _, _, h | .iter _ _ :: _, _, h | .np :: _, _, h | .u0 :: _, _, h | .un :: _, _, h | .dead :: _, _, h | .opt _ _ :: _, _, h | .kb _ :: _, _, h | .refv _ _ _ _ _ :: _, _, h | .dp _ _ :: _, _, h | .optb _ _ :: _, _, h => by cases h
/-- The numbers with one of them written. -/
def updL (k : IntKind) (j : Nat) (v : Int) : Nat → List Int → List SV
  | _, [] => []
  | m, x :: l => .v (.i k) (if j = m then v else x) :: updL k j v (m + 1) l
theorem updL_len {k : IntKind} {j : Nat} {v : Int} : ∀ {m : Nat} {l : List Int}, (updL k j v m l).length = l.length
  | _, [] => rfl
  | m, x :: l => by simp [updL, updL_len (m := m + 1) (l := l)]
theorem updL_get {k : IntKind} {j : Nat} {v : Int} : ∀ {m i : Nat} {l : List Int} {y : SV}, (updL k j v m l)[i]? = some y → ∃ x, l[i]? = some x ∧ y = .v (.i k) (if j = m + i then v else x)
  | _, _, [], _, h => by simp [updL] at h
  | m, 0, x :: l, y, h => by simp [updL] at h; exact ⟨x, rfl, h.symm⟩
  | m, i + 1, x :: l, y, h => by
    obtain ⟨z, h1, h2⟩ := updL_get (m := m + 1) (i := i) (l := l) (y := y) (by simpa [updL] using h)
    exact ⟨z, by simpa using h1, by rw [h2, show m + 1 + i = m + (i + 1) by omega]⟩
section
variable {G : GI} {C : Ctx} {T0 : St} {T : TS} {R : Type}
/-- An array's element. -/
def stIndex (G : GI) (o : Oper) (t : TypeId) (x ix : Operand) (T : TS) (K : Rn R) : Option R := (dOk G o).ob fun d => (tiOf G.tt t).ob fun i => (slotO G.nt T x).ob fun p => (opS G.nt T ix).ob fun b => b.int?.ob fun q => match i.k with
  | .arr m e => (tiOf G.tt e).ob fun j => bsel (j.sz.beq 1 && !j.ag) ((match p.2 with
    | .agg c y => bsel c.flat ((intsS (leafs c y)).ob fun w => bsel (w.2.length.beq m) (bsel (litPos ix) ((at? w.2 q.2).ob fun z => K (p.1 :: rdO ix) [(d, false, .v (.i w.1) z)]) <| (at? w.2 q.2).bind fun z => K (p.1 :: rdO ix) [(d, false, .v (.i w.1) z)]) <| none) <| none
    | _ => none)) <| none
  | _ => none
theorem arr_of (hF : Fit G C) {t m e : Nat} {i : TI} (h : tiOf G.tt t = some i) (h2 : i.k = .arr m e) : G.P.underlying t = some (.array m e) := by
  have := (hF.ti h).k
  rw [h2] at this
  exact this
theorem stIndex_snd (hF : Fit G C) (hT : Tells G.nt G.n T0 T) {o : Oper} {t : TypeId} {x ix : Operand} (ho : o.op = .index t x ix) : Snd (R := R) G C T0 o (stIndex G o t x ix T) := by
  intro K r h
  unfold stIndex at h
  replace h := of_ob h
  obtain ⟨d, hd, h⟩ := h
  obtain ⟨d1, d2, d3, d4, d5, d6⟩ := dOk_of hF hT hd
  replace h := of_ob h
  obtain ⟨i, hi, h⟩ := h
  replace h := of_ob h
  obtain ⟨⟨s, y⟩, hp, h⟩ := h
  obtain ⟨e1, hs, hy⟩ := slotO_of hp
  rw [e1] at ho
  have hs' : s < C.nt := by rw [hF.nt]; exact hs
  replace h := of_ob h
  obtain ⟨b, hb, h⟩ := h
  replace h := of_ob h
  obtain ⟨⟨k, n⟩, hq, h⟩ := h
  split at h
  · rename_i m e hk
    replace h := of_ob h
    obtain ⟨j, hj, h⟩ := h
    replace h := of_bif h
    rcases h with ⟨hb1, h⟩ | ⟨_, h⟩
    · simp only [Bool.and_eq_true, Bool.not_eq_true'] at hb1
      have hsz := hF.size hj
      rw [Nat.eq_of_beq_eq_true hb1.1] at hsz
      split at h
      · rename_i c y' hxy
        simp only at hxy
        rw [hxy] at hy
        replace h := of_bif h
        rcases h with ⟨hfl, h⟩ | ⟨_, h⟩
        · replace h := of_ob h
          obtain ⟨w, hw, h⟩ := h
          replace h := of_bif h
          rcases h with ⟨hm, h⟩ | ⟨_, h⟩
          · have h : (at? w.2 n).bind (fun z => K (s :: rdO ix) [(d, false, .v (.i w.1) z)]) = some r := by
              rcases of_bif h with ⟨_, h⟩ | ⟨_, h⟩
              · obtain ⟨z, h1, h2⟩ := of_ob h
                simp only at h1
                rw [h1]; exact h2
              · exact h
            replace h := of_bind h
            obtain ⟨z, hz, h⟩ := h
            obtain ⟨h0, hz⟩ := at?_of hz
            have hm' := Nat.eq_of_beq_eq_true hm
            have hw' := intsS_of hw
            have hen := (leafs_of (x := y') hfl).1
            rw [hw', List.map_map] at hen
            refine ⟨_, _, ?_, EOk.one d6 rfl, h⟩
            exact exec_index_arr s t e m (enc c y') _ ix k n ho d1 d2 d3 d4 (by simp) hs' (arr_of hF hi hk) hsz (aggT_of hF hj hb1.2) (opS_opv hF hT hb (int?_eq hq) fun t ht => by simp [ht]) h0 (by rw [← hen]; simpa using hm') (hT.slot hy rfl rfl) (by rw [← hen, List.getElem?_map, hz]; rfl) rfl
          · cases h
        · cases h
      · cases h
    · cases h
  · cases h
/-- A number that is written out, and less. -/
def litLt (m : Nat) : Operand → Bool
  | .const (.int _ n) => decide (0 ≤ n) && decide (n < m)
  | _ => false
theorem litLt_of {m : Nat} {y : Operand} {b : SV} {q : IntKind × Int} (h : litLt m y = true) (hb : opS G.nt T y = some b) (hq : b.int? = some q) : 0 ≤ q.2 ∧ q.2 < (m : Int) := by
  unfold litLt at h
  split at h
  · injection hb with hb
    subst hb
    injection hq with hq
    subst hq
    simp only [Bool.and_eq_true, decide_eq_true_eq] at h
    exact h
  · cases h
/-- Where an array's element lies. -/
def stIndexAt (G : GI) (o : Oper) (t : TypeId) (x ix : Operand) (T : TS) (K : Rn R) : Option R := (dOk G o).ob fun d => (tiOf G.tt t).ob fun i => (slotO G.nt T x).ob fun p => (opS G.nt T ix).ob fun b => b.int?.ob fun q => match i.k with
  | .arr m e => (tiOf G.tt e).ob fun j => bsel (j.sz.beq 1) ((match p.2 with
    | .at_ k => (cellsO T k m).ob fun _ => bsel (atOk G k m) (bsel (litLt m ix) (K (p.1 :: (rdO ix ++ (List.range m).map (k + ·))) [(d, false, .at_ (k + q.2.toNat))]) <| if 0 ≤ q.2 ∧ q.2 < (m : Int) then K (p.1 :: (rdO ix ++ (List.range m).map (k + ·))) [(d, false, .atv k m q.2.toNat)] else none) <| none
    | .ref r sz i o => (rootOf G.n T r).ob fun w => bsel (w.r.beq r && w.c.n.beq sz && o.beq 0 && m.beq sz && !r.beq d) (bsel (litLt m ix) (K (p.1 :: r :: rdO ix) [(d, false, .ref r sz i q.2.toNat)]) <| if 0 ≤ q.2 ∧ q.2 < (m : Int) then K (p.1 :: r :: rdO ix) [(d, false, .refv r sz i m q.2.toNat)] else none) <| none
    | .v (.ptr f c) x => (takeT (m - 1) ⟨c, x⟩).ob fun y => bsel (y.t.flat && (0).blt m) ((intsS (leafs y.t y.x)).ob fun w => bsel (litPos ix) ((at? w.2 q.2).ob fun z => K (p.1 :: rdO ix) [(d, false, .v (.ptr f (.i w.1)) z)]) <| (at? w.2 q.2).bind fun z => K (p.1 :: rdO ix) [(d, false, .v (.ptr f (.i w.1)) z)]) <| none
    | _ => none)) <| none
  | _ => none
theorem stIndexAt_snd (hF : Fit G C) (hT : Tells G.nt G.n T0 T) {o : Oper} {t : TypeId} {x ix : Operand} (ho : o.op = .indexAddr t x ix) : Snd (R := R) G C T0 o (stIndexAt G o t x ix T) := by
  intro K r h
  unfold stIndexAt at h
  replace h := of_ob h
  obtain ⟨d, hd, h⟩ := h
  obtain ⟨d1, d2, d3, d4, d5, d6⟩ := dOk_of hF hT hd
  replace h := of_ob h
  obtain ⟨i, hi, h⟩ := h
  replace h := of_ob h
  obtain ⟨⟨s, y⟩, hp, h⟩ := h
  obtain ⟨e1, hs, hy⟩ := slotO_of hp
  rw [e1] at ho
  have hs' : s < C.nt := by rw [hF.nt]; exact hs
  replace h := of_ob h
  obtain ⟨b, hb, h⟩ := h
  have hb0 := hb
  replace h := of_ob h
  obtain ⟨⟨kd, n⟩, hq, h⟩ := h
  split at h
  · rename_i m e hk
    replace h := of_ob h
    obtain ⟨j, hj, h⟩ := h
    replace h := of_bif h
    rcases h with ⟨hb1, h⟩ | ⟨_, h⟩
    · have hsz := hF.size hj
      rw [Nat.eq_of_beq_eq_true hb1] at hsz
      split at h
      · rename_i k hxy
        simp only at hxy
        rw [hxy] at hy
        replace h := of_ob h
        obtain ⟨l, hl, h⟩ := h
        obtain ⟨c1, c2⟩ := cellsO_of hl
        replace h := of_bif h
        rcases h with ⟨ha, h⟩ | ⟨_, h⟩
        · obtain ⟨b1, b2, b3⟩ := atOk_of hF ha
          have key : ∃ y : SV, (0 ≤ n ∧ n < (m : Int)) ∧ y.root? = none ∧ (∀ g, y.toV g = .at_ (k + n.toNat)) ∧ K (s :: (rdO ix ++ (List.range m).map (k + ·))) [(d, false, y)] = some r := by
            rcases of_bif h with ⟨hl, h⟩ | ⟨_, h⟩
            · exact ⟨_, litLt_of hl hb hq, rfl, fun _ => rfl, h⟩
            · obtain ⟨h1, h⟩ := of_guard h
              exact ⟨_, h1, rfl, fun _ => rfl, h⟩
          obtain ⟨y, ⟨h0, hm⟩, hy1, hy2, h⟩ := key
          refine ⟨_, _, ?_, EOk.one d6 hy1, h⟩
          simp only [ES.eff, List.map_cons, List.map_nil, hy2]
          exact exec_index_at s t e m k ix kd n ho d1 d2 d3 d4 (by simp) hs' (arr_of hF hi hk) hsz (opS_opv hF hT hb (int?_eq hq) fun t ht => by simp [ht]) h0 hm (hT.slot hy rfl rfl) (fun j hj => by
            obtain ⟨x, _, hx2⟩ := c2 j hj
            exact ⟨List.mem_cons_of_mem _ (List.mem_append_right _ (List.mem_map.2 ⟨j, by simpa using hj, rfl⟩)), (hT.cellAt hx2 (by omega)).2.2, b3 j hj⟩) b2
        · cases h
      · rename_i r' sz i' o' hxy
        simp only at hxy
        rw [hxy] at hy
        replace h := of_ob h
        obtain ⟨w, hw, h⟩ := h
        replace h := of_bsel h
        obtain ⟨hb, h⟩ := h
        simp only [Bool.and_eq_true, Bool.not_eq_true'] at hb
        obtain ⟨⟨⟨⟨b1, b2⟩, b3⟩, b4⟩, b5⟩ := hb
        have eo := Nat.eq_of_beq_eq_true b3
        subst eo
        have key : ∃ y : SV, (0 ≤ n ∧ n < (m : Int)) ∧ y.root? = some r' ∧ (∀ g, y.toV g = .ref r' (g r') sz i' n.toNat) ∧ K (s :: r' :: rdO ix) [(d, false, y)] = some r := by
          rcases of_bif h with ⟨hl, h⟩ | ⟨_, h⟩
          · exact ⟨_, litLt_of hl hb0 hq, rfl, fun _ => rfl, h⟩
          · obtain ⟨h1, h⟩ := of_guard h
            exact ⟨_, h1, rfl, fun _ => rfl, h⟩
        obtain ⟨y, ⟨h0, hm⟩, hy1, hy2, h⟩ := key
        refine ⟨_, _, ?_, EOk.link d5 d6 hy1 (ne_beq b5) (by cases y <;> first | exact trivial | (rename_i a; have e := hy2 g0; cases a <;> simp [SV.toV, DV.toV] at e)), h⟩
        simp only [ES.eff, List.map_cons, List.map_nil, hy2]
        have := exec_index_refarr (P := G.P) (C := C) (T := T0) (rd := s :: r' :: rdO ix) s r' t e m sz i' 0 ix kd n ho d1 d2 d3 d4 (ne_beq b5) (by simp) (by simp) hs' (arr_of hF hi hk) hsz (opS_opv hF hT hb0 (int?_eq hq) fun t ht => by simp [ht]) h0 hm (hT.ref hy)
        rw [Nat.zero_add] at this
        exact this
      · rename_i f c x hxy
        simp only at hxy
        rw [hxy] at hy
        replace h := of_ob h
        obtain ⟨y, hyt, h⟩ := h
        obtain ⟨hfl, h⟩ := of_bsel h
        simp only [Bool.and_eq_true] at hfl
        replace h := of_ob h
        obtain ⟨w, hw, h⟩ := h
        have h : (at? w.2 n).bind (fun z => K (s :: rdO ix) [(d, false, .v (.ptr f (.i w.1)) z)]) = some r := by
          rcases of_bif h with ⟨_, h⟩ | ⟨_, h⟩
          · obtain ⟨z, h1, h2⟩ := of_ob h
            simp only at h1
            rw [h1]; exact h2
          · exact h
        obtain ⟨z, hz, h⟩ := of_bind h
        obtain ⟨h0, hz⟩ := at?_of hz
        obtain ⟨t1, t2⟩ := takeT_of hyt
        have hw' := intsS_of hw
        have hen := (leafs_of (x := y.x) hfl.1).1
        rw [hw', List.map_map] at hen
        have hmp := lt_blt hfl.2
        have hlen : w.2.length = m := by
          have := congrArg List.length hen
          rw [List.length_map, enc_length, t2] at this
          omega
        have hnm : n.toNat < m := by rw [← hlen]; exact (List.getElem?_eq_some_iff.1 hz).1
        refine ⟨_, _, ?_, EOk.one d6 rfl, h⟩
        have hc : (enc c x)[n.toNat]? = some (.sc (.int w.1 z)) := by
          have e1 : (enc y.t y.x)[n.toNat]? = some (.sc (.int w.1 z)) := by rw [← hen, List.getElem?_map, hz]; rfl
          rw [t1, List.getElem?_take] at e1
          simp only at e1
          split at e1
          · exact e1
          · cases e1
        exact exec_index_boxarr s t e m f (enc c x) (.sc (.int w.1 z)) ix kd n ho d1 d2 d3 d4 (by simp) hs' (arr_of hF hi hk) hsz (opS_opv hF hT hb0 (int?_eq hq) fun t ht => by simp [ht]) h0 (by omega) (hT.slot hy rfl rfl) hc
      · cases h
    · cases h
  · cases h
/-- What lies there. -/
def stLoadV (G : GI) (o : Oper) (t : TypeId) (x : Operand) (T : TS) (K : Rn R) : Option R := (dOk G o).ob fun d => (tiOf G.tt t).ob fun i => (slotO G.nt T x).ob fun p => bsel i.ag none <| match p.2 with
  | .atv k n j => (cellsO T k n).ob fun l => bsel (G.nt.ble k) ((intsS l).ob fun w => (w.2[j]?).bind fun z => K (p.1 :: (List.range n).map (k + ·)) [(d, false, .v (.i w.1) z)]) <| none
  | .refv r sz i n j => (rootOf G.n T r).ob fun w => bsel (w.r.beq r && w.c.n.beq sz && n.beq sz && w.c.flat) ((w.xs[i]?).bind fun e => (intsS (leafs w.c e)).ob fun u => (u.2[j]?).bind fun z => K [p.1, r] [(d, false, .v (.i u.1) z)]) <| none
  | _ => none
theorem stLoadV_snd (hF : Fit G C) (hT : Tells G.nt G.n T0 T) {o : Oper} {t : TypeId} {x : Operand} (ho : o.op = .load t x) : Snd (R := R) G C T0 o (stLoadV G o t x T) := by
  intro K r h
  unfold stLoadV at h
  replace h := of_ob h
  obtain ⟨d, hd, h⟩ := h
  obtain ⟨d1, d2, d3, d4, d5, d6⟩ := dOk_of hF hT hd
  replace h := of_ob h
  obtain ⟨i, hi, h⟩ := h
  replace h := of_ob h
  obtain ⟨⟨s, y⟩, hp, h⟩ := h
  obtain ⟨e1, hs, hy⟩ := slotO_of hp
  rw [e1] at ho
  have hs' : s < C.nt := by rw [hF.nt]; exact hs
  replace h := of_bif h
  rcases h with ⟨_, h⟩ | ⟨hag, h⟩
  · cases h
  · split at h
    · rename_i k n j hxy
      simp only at hxy
      rw [hxy] at hy
      replace h := of_ob h
      obtain ⟨l, hl, h⟩ := h
      obtain ⟨c1, c2⟩ := cellsO_of hl
      replace h := of_bif h
      rcases h with ⟨hk, h⟩ | ⟨_, h⟩
      · have hk' := Nat.le_of_ble_eq_true hk
        replace h := of_ob h
        obtain ⟨w, hw, h⟩ := h
        replace h := of_bind h
        obtain ⟨z, hz, h⟩ := h
        have hw' := intsS_of hw
        have hjn : j < n := by
          have := (List.getElem?_eq_some_iff.1 hz).1
          rw [hw'] at c1
          simp at c1; omega
        obtain ⟨x', hx1, hx2⟩ := c2 j hjn
        rw [hw', List.getElem?_map, hz] at hx1
        simp only [Option.map_some, Option.some.injEq] at hx1
        subst hx1
        refine ⟨_, _, ?_, EOk.one d6 rfl, h⟩
        exact exec_load_at s (k + j) t (.sc (.int w.1 z)) ho d1 d2 d3 d4 (by simp) (List.mem_cons_of_mem _ (List.mem_map.2 ⟨j, by simpa using hjn, rfl⟩)) hs' (aggT_of hF hi hag) (hT.slot hy rfl rfl) (hT.cellAt hx2 (by omega)).1 rfl
      · cases h
    · rename_i r' sz i' n j hxy
      simp only at hxy
      rw [hxy] at hy
      replace h := of_ob h
      obtain ⟨w, hw, h⟩ := h
      obtain ⟨hb, h⟩ := of_bsel h
      simp only [Bool.and_eq_true] at hb
      obtain ⟨⟨⟨b1, b2⟩, b3⟩, b4⟩ := hb
      replace h := of_bind h
      obtain ⟨e, he, h⟩ := h
      replace h := of_ob h
      obtain ⟨u, hu, h⟩ := h
      replace h := of_bind h
      obtain ⟨z, hz, h⟩ := h
      have hro := hT.slot (rootOf_own hw (Nat.eq_of_beq_eq_true b1)) rfl rfl
      rw [own_toV0, Nat.eq_of_beq_eq_true b2] at hro
      have hen := (leafs_of (x := e) b4).1
      rw [intsS_of hu, List.map_map] at hen
      refine ⟨_, _, ?_, EOk.one d6 rfl, h⟩
      exact exec_load_ref s r' t w.E sz i' j _ (enc w.c e) (.sc (.int u.1 z)) ho d1 d2 d3 d4 (by simp) (by simp) hs' (aggT_of hF hi hag) (hT.refv hy) hro (by rw [List.getElem?_map, he]; rfl) (by rw [← hen, List.getElem?_map, hz]; rfl) rfl
    · cases h
theorem opS_opV (hF : Fit G C) (hT : Tells G.nt G.n T0 T) {y : Operand} {k : IntKind} {n : Int} {rd : List Nat} (h : opS G.nt T y = some (.v (.i k) n)) (hrd : ∀ s, s ∈ rdO y → s ∈ rd) : opV C T0 rd (.sc (.int k n)) [] y := by
  have hv := opS_opv hF hT h rfl hrd
  cases y with
  | tmp t =>
    obtain ⟨z, hz, h⟩ := of_ob h
    injection h with h
    obtain ⟨h1, h2⟩ := look_tmp hz
    exact ⟨hv.1, hv.2.1, .inl ⟨hT.slotN h2 h rfl rfl, rfl, rfl⟩⟩
  | const u => exact ⟨congrArg V.sc (Eq.symm hv), rfl⟩
  | global => exact hv.elim
  | func => exact hv.elim
/-- It is written. -/
def stStoreV (G : GI) (o : Oper) (t : TypeId) (x y : Operand) (T : TS) (K : Rn R) : Option R := match o.dst with
  | some _ => none
  | none => (tiOf G.tt t).ob fun i => (slotO G.nt T x).ob fun p => (opS G.nt T y).ob fun b => b.int?.ob fun q => bsel (i.sz.beq 1) ((match p.2 with
    | .atv k n j => (cellsO T k n).ob fun l => (intsS l).ob fun w => bsel (atOk G k n) (bsel (kEq w.1 q.1) (if j < n then K (p.1 :: (rdO y ++ (List.range n).map (k + ·))) (stE k (updL w.1 j q.2 0 w.2)) else none) <| none) <| none
    | .refv r sz i n j => (rootOf G.n T r).ob fun w => bsel (w.r.beq r && w.c.n.beq sz && n.beq sz && w.c.flat) ((w.xs[i]?).bind fun e => (intsS (leafs w.c e)).ob fun u => bsel (kEq u.1 q.1) (if j < n then (packAs w.c (updL u.1 j q.2 0 u.2)).ob fun e' => bsel e'.2.isEmpty (K (p.1 :: r :: rdO y) [(r, w.c.free, .v (.own w.E w.c) (w.xs.set i e'.1))]) <| none else none) <| none) <| none
    | _ => none)) <| none
theorem stStoreV_snd (hF : Fit G C) (hT : Tells G.nt G.n T0 T) {o : Oper} {t : TypeId} {x y : Operand} (ho : o.op = .store t x y) : Snd (R := R) G C T0 o (stStoreV G o t x y T) := by
  intro K r h
  unfold stStoreV at h
  split at h
  · cases h
  · rename_i hdst
    replace h := of_ob h
    obtain ⟨i, hi, h⟩ := h
    replace h := of_ob h
    obtain ⟨⟨s, z⟩, hp, h⟩ := h
    obtain ⟨e1, hs, hz⟩ := slotO_of hp
    rw [e1] at ho
    have hs' : s < C.nt := by rw [hF.nt]; exact hs
    replace h := of_ob h
    obtain ⟨b, hb, h⟩ := h
    replace h := of_ob h
    obtain ⟨⟨kd, v⟩, hq, h⟩ := h
    replace h := of_bif h
    rcases h with ⟨hsz1, h⟩ | ⟨_, h⟩
    · have hsz := hF.size hi
      rw [Nat.eq_of_beq_eq_true hsz1] at hsz
      split at h
      · rename_i k n j hxy
        simp only at hxy
        rw [hxy] at hz
        replace h := of_ob h
        obtain ⟨l, hl, h⟩ := h
        obtain ⟨c1, c2⟩ := cellsO_of hl
        replace h := of_ob h
        obtain ⟨w, hw, h⟩ := h
        have hw' := intsS_of hw
        replace h := of_bif h
        rcases h with ⟨ha, h⟩ | ⟨_, h⟩
        · obtain ⟨b1, b2, b3⟩ := atOk_of hF ha
          obtain ⟨hkd, h⟩ := of_bsel h
          replace hkd := of_decide_eq_true hkd
          replace h := of_guard h
          obtain ⟨hjn, h⟩ := h
          have hwl : w.2.length = n := by rw [hw'] at c1; simpa using c1
          have hul : (updL w.1 j v 0 w.2).length = n := by rw [updL_len]; exact hwl
          have hroot : ∀ x, x ∈ updL w.1 j v 0 w.2 → x.root? = none := fun x hx => by
            obtain ⟨m, hm⟩ := List.getElem?_of_mem hx
            obtain ⟨_, _, rfl⟩ := updL_get hm
            rfl
          have hkl : ∀ j, j < n → k + j < G.n := fun j hj => by
            obtain ⟨x, _, hx2⟩ := c2 j hj
            exact hT.lt hx2
          refine ⟨_, _, ?_, .inl fun e he => ?_, h⟩
          · rw [eff_st k _ hroot]
            have hv := opS_opV (rd := s :: (rdO y ++ (List.range n).map (k + ·))) hF hT (int?_eq hq ▸ hb) fun t ht => by simp [ht]
            refine exec_store_any s k j t y (.sc (.int kd v)) _ ho hdst (by simp) hs' (hT.slot hz rfl rfl) hsz hv rfl rfl (by simpa [hul] using hjn) (fun m c hc => ?_) (fun m hm => ?_) b2 (by
              simp only [List.length_map, hul]
              rw [hT.len]; have := hkl (n - 1) (by omega); omega)
            · rw [List.getElem?_map] at hc
              obtain ⟨y', hy1, rfl⟩ := Option.map_eq_some_iff.1 hc
              obtain ⟨x', hx1, rfl⟩ := updL_get hy1
              have hmn : m < n := by rw [← hwl]; exact (List.getElem?_eq_some_iff.1 hx1).1
              obtain ⟨u, hu1, hu2⟩ := c2 m hmn
              rw [hw', List.getElem?_map, hx1] at hu1
              simp only [Option.map_some, Option.some.injEq] at hu1
              have hkd' : w.1 = kd := hkd
              rw [(hT.cellAt hu2 (by omega)).1, ← hu1, ← hkd']
              by_cases e : m = j
              · subst e; rw [if_pos rfl, if_pos (by omega)]; rfl
              · rw [if_neg e, if_neg (by omega)]
            · simp only [List.length_map, hul] at hm
              obtain ⟨x, _, hx2⟩ := c2 m hm
              exact ⟨List.mem_cons_of_mem _ (List.mem_append_right _ (List.mem_map.2 ⟨m, by simpa using hm, rfl⟩)), (hT.cellAt hx2 (by omega)).2.2, b3 m hm⟩
          · obtain ⟨h1, h2, h3⟩ := mem_stE he
            refine ⟨?_, hroot _ h3⟩
            have := hkl (e.1 - k) (by rw [hul] at h2; omega)
            omega
        · cases h
      · rename_i r' sz i' n j hxy
        simp only at hxy
        rw [hxy] at hz
        replace h := of_ob h
        obtain ⟨w, hw, h⟩ := h
        obtain ⟨hb2, h⟩ := of_bsel h
        simp only [Bool.and_eq_true] at hb2
        obtain ⟨⟨⟨b1, b2⟩, b3⟩, b4⟩ := hb2
        replace h := of_bind h
        obtain ⟨e, he, h⟩ := h
        replace h := of_ob h
        obtain ⟨u, hu, h⟩ := h
        obtain ⟨hkd, h⟩ := of_bsel h
        replace hkd := of_decide_eq_true hkd
        replace h := of_guard h
        obtain ⟨hjn, h⟩ := h
        replace h := of_ob h
        obtain ⟨e', he', h⟩ := h
        obtain ⟨hemp, h⟩ := of_bsel h
        have hro0 := rootOf_own hw (Nat.eq_of_beq_eq_true b1)
        have hro := hT.slot hro0 rfl rfl
        have hws := Nat.eq_of_beq_eq_true b2
        rw [own_toV0, hws] at hro
        have hen := (leafs_of (x := e) b4).1
        rw [intsS_of hu, List.map_map] at hen
        have hpk := packAs_of he'
        rw [List.isEmpty_iff.1 hemp, List.map_nil, List.append_nil] at hpk
        have hul : u.2.length = sz := by
          have := congrArg List.length hen
          rw [List.length_map, enc_length, hws] at this
          exact this
        have hns := Nat.eq_of_beq_eq_true b3
        have hlay : enc w.c e'.1 = lay (enc w.c e) j [(.sc (.int kd v))] := by
          rw [← hpk, ← hen]
          show _ = (u.2.map (SV.toV0 ∘ fun x => SV.v (.i u.1) x)).set j (V.sc (.int kd v))
          have hkd' : u.1 = kd := hkd
          rw [← hkd']
          refine List.ext_getElem? fun m => ?_
          rw [List.getElem?_map, List.getElem?_set]
          by_cases hm : m < u.2.length
          · have e1 : ∃ y', (updL u.1 j v 0 u.2)[m]? = some y' := ⟨_, List.getElem?_eq_getElem (by rw [updL_len]; exact hm)⟩
            obtain ⟨y', hy'⟩ := e1
            obtain ⟨x0, hx0, hy2⟩ := updL_get hy'
            rw [hy', hy2]
            by_cases c : j = m
            · subst c
              rw [if_pos rfl, Option.map_some, if_pos (show j = 0 + j by omega), if_pos (show j < (u.2.map (SV.toV0 ∘ fun x => SV.v (.i u.1) x)).length by rw [List.length_map]; exact hm)]
              rfl
            · rw [if_neg c, List.getElem?_map, hx0, Option.map_some, Option.map_some, if_neg (by omega)]
              rfl
          · have e1 : (updL u.1 j v 0 u.2)[m]? = none := List.getElem?_eq_none (by rw [updL_len]; omega)
            rw [e1, Option.map_none]
            by_cases c : j = m
            · subst c; omega
            · rw [if_neg c, List.getElem?_eq_none (by rw [List.length_map]; omega)]
        have hv := opS_opV (rd := s :: r' :: rdO y) hF hT (int?_eq hq ▸ hb) fun t ht => by simp [ht]
        refine ⟨_, _, ?_, .inl fun e2 he2 => ?_, h⟩
        · have := exec_store_ref (P := G.P) (C := C) (T := T0) (rd := s :: r' :: rdO y) s r' t 1 w.E sz i' j y _ [] _ (enc w.c e) w.c.free (fun hf e he => by obtain ⟨x, _, rfl⟩ := List.mem_map.1 he; exact enc_free w.c x hf) ho hdst (by simp) (by simp) hs' (hT.refv hz) hro (by rw [hT.len]; exact hT.lt hro0) (by rw [List.getElem?_map, he]; rfl) hsz hv rfl (fun c hc => by
              have : c = .sc (.int kd v) := by simpa [V.cells] using hc
              subst this; rfl) rfl (by omega) (fun s hs => by simp at hs)
          have ec : (V.sc (.int kd v)).cells = [(.sc (.int kd v))] := rfl
          rw [ec, ← hlay, row_set] at this
          simp only [ES.eff, List.map_cons, List.map_nil, SV.toV, own_toV0, hws]
          exact this
        · simp at he2
          subst he2
          exact ⟨hT.lt hro0, rfl⟩
      · cases h
    · cases h
/-- An array is built. -/
def stBuildArr (G : GI) (o : Oper) (t : TypeId) (ps : Array (Nat × Operand)) (T : TS) (K : Rn R) : Option R := (dOk G o).ob fun d => (tiOf G.tt t).ob fun i => match i.k with
  | .arr _ e => (tiOf G.tt e).ob fun j => (buildL G T (fun f => some (f * j.sz, j.sz)) ps.toList ⟨i.z0, [], [], []⟩).ob fun b => (packT b.cs).ob fun z => K b.rd (deadE b.src ++ [(d, false, .agg z.t z.x)])
  | _ => none
theorem stBuildArr_snd (hF : Fit G C) (hT : Tells G.nt G.n T0 T) {o : Oper} {t : TypeId} {ps : Array (Nat × Operand)} (ho : o.op = .build t ps) : Snd (R := R) G C T0 o (stBuildArr G o t ps T) := by
  intro K r h
  unfold stBuildArr at h
  replace h := of_ob h
  obtain ⟨d, hd, h⟩ := h
  obtain ⟨d1, d2, d3, d4, d5, d6⟩ := dOk_of hF hT hd
  replace h := of_ob h
  obtain ⟨i, hi, h⟩ := h
  split at h
  · rename_i m e hk
    replace h := of_ob h
    obtain ⟨j, hj, h⟩ := h
    replace h := of_ob h
    obtain ⟨b, hb, h⟩ := h
    replace h := of_ob h
    obtain ⟨z, hz, h⟩ := h
    obtain ⟨us, u1, u2, u3, u4, u5, u6, u7⟩ := buildL_of hF hT hb
    obtain ⟨z1, z2, z3⟩ := packT_of hz
    simp only [List.nil_append] at u1 u2
    refine ⟨_, _, ?_, EOk.dead (fun s hs => u6 s (by rw [← u2]; exact hs)) fun e he => by simp at he; subst he; exact ⟨d6, rfl⟩, h⟩
    rw [eff_app, eff_dead, u2]
    have := exec_build_arr (P := G.P) (C := C) (T := T0) (rd := b.rd) t e j.sz m ps i.z (i.z0.map SV.toV0) us ho d1 d2 d3 d4 (by
      obtain ⟨j, h1, h2⟩ := Option.map_eq_some_iff.1 (hF.ti hi).info
      rw [h1]
      simp only [Prod.mk.injEq] at h2
      simp [h2.1]) (hF.ti hi).z0 (arr_of hF hi hk) (hF.size hj) (by
        rw [List.length_map]
        exact u7 b.rd [] _ (fun _ h => h) fun s hs => by simp at hs)
    rw [← u4, ← z1] at this
    exact this
  · cases h
/-- Words are added. -/
def stAdd (G : GI) (o : Oper) (f : Nat) (x y z : Operand) (T : TS) (K : Rn R) : Option R := (dOk G o).ob fun d => bsel (G.ad.contains f) ((opS G.nt T x).ob fun a => a.int?.ob fun a => (opS G.nt T y).ob fun b => b.int?.ob fun b => (opS G.nt T z).ob fun c => c.int?.ob fun c =>
  bsel (kEq a.1 .u64 && (kEq b.1 .u64 && kEq c.1 .u64)) (if 0 ≤ a.2 ∧ 0 ≤ b.2 ∧ 0 ≤ c.2 ∧ c.2 ≤ 1 then K (rdO x ++ (rdO y ++ rdO z)) [(d, false, .tup [.v (.i .u64) ((a.2 + b.2 + c.2) % 18446744073709551616), .v (.i .u64) ((a.2 + b.2 + c.2) / 18446744073709551616)])] else none) <| none) <| none
theorem stAdd_snd (hF : Fit G C) (hT : Tells G.nt G.n T0 T) {o : Oper} {f : Nat} {x y z : Operand} {ats : Array TypeId} (ho : o.op = .call { callee := .value (.func f), args := #[x, y, z], argTypes := ats }) : Snd (R := R) G C T0 o (stAdd G o f x y z T) := by
  intro K r h
  unfold stAdd at h
  replace h := of_ob h
  obtain ⟨d, hd, h⟩ := h
  obtain ⟨d1, d2, d3, d4, d5, d6⟩ := dOk_of hF hT hd
  replace h := of_bif h
  rcases h with ⟨hf, h⟩ | ⟨_, h⟩
  · replace h := of_ob h
    obtain ⟨a0, ha0, h⟩ := h
    replace h := of_ob h
    obtain ⟨⟨ka, a⟩, ha, h⟩ := h
    replace h := of_ob h
    obtain ⟨b0, hb0, h⟩ := h
    replace h := of_ob h
    obtain ⟨⟨kb, b⟩, hb, h⟩ := h
    replace h := of_ob h
    obtain ⟨c0, hc0, h⟩ := h
    replace h := of_ob h
    obtain ⟨⟨kc, c⟩, hc, h⟩ := h
    obtain ⟨hk, h⟩ := of_bsel h
    simp only [Bool.and_eq_true] at hk
    obtain ⟨k1, k2, k3⟩ := hk
    replace k1 := of_decide_eq_true k1
    replace k2 := of_decide_eq_true k2
    replace k3 := of_decide_eq_true k3
    replace h := of_guard h
    obtain ⟨⟨g1, g2, g3, g4⟩, h⟩ := h
    dsimp only at k1 k2 k3 g1 g2 g3 g4
    subst k1 k2 k3
    refine ⟨_, _, ?_, EOk.one d6 rfl, h⟩
    have hx := opS_opv (rd := rdO x ++ (rdO y ++ rdO z)) hF hT ha0 (int?_eq ha) fun t ht => by simp [ht]
    have hy := opS_opv (rd := rdO x ++ (rdO y ++ rdO z)) hF hT hb0 (int?_eq hb) fun t ht => by simp [ht]
    have hz := opS_opv (rd := rdO x ++ (rdO y ++ rdO z)) hF hT hc0 (int?_eq hc) fun t ht => by simp [ht]
    refine exec_free _ d1 d2 d3 d4 fun T' a' w S F loc hsm hsim => ⟨.tuple #[.int .u64 ((a + b + c) % 18446744073709551616), .int .u64 ((a + b + c) / 18446744073709551616)], ?_, .tup _ _ _ _ (fun _ => Foot.none) rfl (Split.none _) fun i u v hu hv => ?_⟩
    · have he : execOp a'.eval o = callFunc f (#[] ++ (#[x, y, z] : Array Operand).map a'.eval ++ #[]) := by
        cases o
        simp only at ho
        subst ho
        rfl
      have he2 : (#[] ++ (#[x, y, z] : Array Operand).map a'.eval ++ #[] : Array Value) = #[a'.eval x, a'.eval y, a'.eval z] := by simp
      rw [he2] at he
      rw [he, opv_eval hx hsm hsim, opv_eval hy hsm hsim, opv_eval hz hsm hsim]
      exact hF.ad f (by simpa using hf) a b c g1 g2 g3 g4 w
    · match i with
      | 0 => simp [SV.toV0.go, SV.toV0, enc] at hu hv; subst hu hv; exact .sc ..
      | 1 => simp [SV.toV0.go, SV.toV0, enc] at hu hv; subst hu hv; exact .sc ..
      | i + 2 => simp at hu
  · cases h
def arrT (G : GI) (t : TypeId) : Bool := match tiOf G.tt t with
  | some i => match i.k with
    | .arr _ _ => true
    | _ => false
  | none => false
def isAtv (T : TS) : Operand → Bool
  | .tmp s => match look? T s with
    | some (.atv _ _ _) => true
    | some (.refv _ _ _ _ _) => true
    | _ => false
  | _ => false
theorem snd_bif {o : Oper} {b : Bool} {x y : Rn R → Option R} (h1 : Snd (R := R) G C T0 o x) (h2 : Snd (R := R) G C T0 o y) : Snd (R := R) G C T0 o fun K => bsel b (x K) <| y K := by
  cases b
  · exact h2
  · exact h1
end
end Go.Proofs.Ytepeoiimdefnpaa.Vm
namespace Go.Proofs.Ytepeoiimdefnpaa.Vm
open Go
/-- A byte. -/
def bAt (s : ByteArray) (i : Int) : Option Int := if 0 ≤ i then (s[i.toNat]?).map (fun b : UInt8 => (b.toNat : Int)) else none
/-- A part. -/
def sSub (s : ByteArray) (l h : Int) : Option ByteArray := if 0 ≤ l ∧ l ≤ h ∧ h ≤ (s.size : Int) then some (s.extract l.toNat h.toNat) else none
theorem bAt_of {s : ByteArray} {i e : Int} (h : bAt s i = some e) : 0 ≤ i ∧ ∃ hi : i.toNat < s.size, ((s.get i.toNat hi).toNat : Int) = e := by
  unfold bAt at h
  split at h
  · rename_i h0
    rw [Option.map_eq_some_iff] at h
    obtain ⟨b, hb, rfl⟩ := h
    by_cases hi : i.toNat < s.size
    · rw [getElem?_pos s i.toNat hi] at hb
      injection hb with hb
      exact ⟨h0, hi, by rw [← hb]; rfl⟩
    · rw [getElem?_neg s i.toNat hi] at hb; cases hb
  · cases h
theorem sSub_of {s v : ByteArray} {l h : Int} (e : sSub s l h = some v) : 0 ≤ l ∧ l ≤ h ∧ h ≤ (s.size : Int) ∧ s.extract l.toNat h.toNat = v := by
  unfold sSub at e
  split at e
  · rename_i c; injection e with e; exact ⟨c.1, c.2.1, c.2.2, e⟩
  · cases e
section
variable {G : GI} {C : Ctx} {T0 : St} {T : TS} {R : Type}
def strT (G : GI) (t : TypeId) : Bool := match tiOf G.tt t with
  | some i => match i.k with
    | .str => true
    | _ => false
  | none => false
theorem strT_of (hF : Fit G C) {t : TypeId} (h : strT G t = true) : G.P.underlying t = some .string := by
  unfold strT at h
  split at h
  · rename_i i hi
    split at h
    · rename_i hk
      have := (hF.ti hi).k; rw [hk] at this; exact this
    · cases h
  · cases h
def stIdxS (G : GI) (o : Oper) (x ix : Operand) (T : TS) (K : Rn R) : Option R := (dOk G o).ob fun d => (opS G.nt T x).ob fun a => a.str?.ob fun s => (opS G.nt T ix).ob fun b => b.int?.ob fun q =>
  (bAt s q.2).bind fun z => K (rdO x ++ rdO ix) [(d, false, .v (.i .u8) z)]
theorem stIdxS_snd (hF : Fit G C) (hT : Tells G.nt G.n T0 T) {o : Oper} {t : TypeId} {x ix : Operand} (ho : o.op = .index t x ix) (ht : strT G t = true) : Snd (R := R) G C T0 o (stIdxS G o x ix T) := by
  intro K r h
  unfold stIdxS at h
  replace h := of_ob h
  obtain ⟨d, hd, h⟩ := h
  obtain ⟨d1, d2, d3, d4, d5, d6⟩ := dOk_of hF hT hd
  replace h := of_ob h
  obtain ⟨a, ha, h⟩ := h
  replace h := of_ob h
  obtain ⟨s, hs, h⟩ := h
  replace h := of_ob h
  obtain ⟨b, hb, h⟩ := h
  replace h := of_ob h
  obtain ⟨⟨k, n⟩, hq, h⟩ := h
  replace h := of_bind h
  obtain ⟨z, hz, h⟩ := h
  rw [str?_eq hs] at ha
  rw [int?_eq hq] at hb
  have e1 := opS_opnd hF hT ha (v := .string s) (rd := rdO x ++ rdO ix) rfl fun s hs => List.mem_append_left _ hs
  have e2 := opS_opnd hF hT hb (v := .int k n) (rd := rdO x ++ rdO ix) rfl fun s hs => List.mem_append_right _ hs
  obtain ⟨h0, hi, rfl⟩ := bAt_of hz
  exact ⟨_, _, exec_index_str (P := G.P) ho d1 d2 d3 d4 (strT_of hF ht) e1 e2 h0 hi, EOk.one d6 rfl, h⟩
/-- A bound: what is told, or what there is. -/
abbrev sbK (G : GI) (T : TS) (z : Int) (x : Option Operand) (K : List Nat → Int → Option R) : Option R := match x with
  | none => K [] z
  | some y => (opS G.nt T y).ob fun b => b.int?.ob fun q => K (rdO y) q.2
def stSubS (G : GI) (o : Oper) (x : Operand) (lo hi : Option Operand) (T : TS) (K : Rn R) : Option R := (dOk G o).ob fun d => (opS G.nt T x).ob fun a => a.str?.ob fun s => sbK G T 0 lo fun r1 l => sbK G T (s.size : Int) hi fun r2 h =>
  (sSub s l h).bind fun z => K (rdO x ++ (r1 ++ r2)) [(d, false, .v .s z)]
theorem sbK_of (hF : Fit G C) (hT : Tells G.nt G.n T0 T) {z : Nat} {x : Option Operand} {K : List Nat → Int → Option R} {r : R} (h : sbK G T (z : Int) x K = some r) : ∃ rd n, K rd n = some r ∧ ∀ rd', (∀ s, s ∈ rd → s ∈ rd') → ∀ m : Nat, n = m → sbnd C T0 rd' z x m := by
  cases x with
  | none => exact ⟨[], z, h, fun _ _ m hm => by show m = z; omega⟩
  | some y =>
    replace h := of_ob h
    obtain ⟨b, hb, h⟩ := h
    replace h := of_ob h
    obtain ⟨⟨k, n⟩, hq, h⟩ := h
    rw [int?_eq hq] at hb
    refine ⟨rdO y, n, h, fun rd' hr m hm => ⟨k, ?_⟩⟩
    subst hm
    exact opS_opnd hF hT hb (v := .int k (m : Int)) rfl hr
theorem stSubS_snd (hF : Fit G C) (hT : Tells G.nt G.n T0 T) {o : Oper} {t : TypeId} {x : Operand} {lo hi : Option Operand} (ho : o.op = .slice t x lo hi none) (ht : strT G t = true) : Snd (R := R) G C T0 o (stSubS G o x lo hi T) := by
  intro K r h
  unfold stSubS at h
  replace h := of_ob h
  obtain ⟨d, hd, h⟩ := h
  obtain ⟨d1, d2, d3, d4, d5, d6⟩ := dOk_of hF hT hd
  replace h := of_ob h
  obtain ⟨a, ha, h⟩ := h
  replace h := of_ob h
  obtain ⟨s, hs, h⟩ := h
  obtain ⟨r1, l, h, b1⟩ := sbK_of (z := 0) hF hT h
  obtain ⟨r2, u, h, b2⟩ := sbK_of hF hT h
  replace h := of_bind h
  obtain ⟨z, hz, h⟩ := h
  rw [str?_eq hs] at ha
  have e1 := opS_opnd hF hT ha (v := .string s) (rd := rdO x ++ (r1 ++ r2)) rfl fun s hs => List.mem_append_left _ hs
  obtain ⟨h0, h1, h2, rfl⟩ := sSub_of hz
  have c1 := b1 (rdO x ++ (r1 ++ r2)) (fun s hs => List.mem_append_right _ (List.mem_append_left _ hs)) l.toNat (by omega)
  have c2 := b2 (rdO x ++ (r1 ++ r2)) (fun s hs => List.mem_append_right _ (List.mem_append_right _ hs)) u.toNat (by omega)
  exact ⟨_, _, exec_slice_str (P := G.P) ho d1 d2 d3 d4 (strT_of hF ht) e1 c1 c2 (by omega) (by omega), EOk.one d6 rfl, h⟩
def stRange (G : GI) (o : Oper) (t : TypeId) (x : Operand) (T : TS) (K : Rn R) : Option R := bsel (strT G t) ((dOk G o).ob fun d => (opS G.nt T x).ob fun a => a.str?.ob fun s => K (rdO x) [(d, false, .iter s 0)]) none
theorem stRange_snd (hF : Fit G C) (hT : Tells G.nt G.n T0 T) {o : Oper} {t : TypeId} {x : Operand} (ho : o.op = .range t x) : Snd (R := R) G C T0 o (stRange G o t x T) := by
  intro K r h
  unfold stRange at h
  replace h := of_bsel h
  obtain ⟨ht, h⟩ := h
  replace h := of_ob h
  obtain ⟨d, hd, h⟩ := h
  obtain ⟨d1, d2, d3, d4, d5, d6⟩ := dOk_of hF hT hd
  replace h := of_ob h
  obtain ⟨a, ha, h⟩ := h
  replace h := of_ob h
  obtain ⟨s, hs, h⟩ := h
  rw [str?_eq hs] at ha
  have e1 := opS_opnd hF hT ha (v := .string s) (rd := rdO x) rfl fun s hs => hs
  exact ⟨_, _, exec_range (P := G.P) ho d1 d2 d3 d4 (strT_of hF ht) e1, EOk.one d6 rfl, h⟩
/-- How far an iterator is. -/
abbrev SV.iter? : SV → Option (ByteArray × Nat)
  | .iter s p => some (s, p)
  | _ => none
theorem iter?_eq {x : SV} {y : ByteArray × Nat} (h : x.iter? = some y) : x = .iter y.1 y.2 := by
  cases x <;> first
    | (cases h; done)
    | (injection h with h; subst h; rfl)
def stNext (G : GI) (o : Oper) (x : Operand) (T : TS) (K : Rn R) : Option R := (dOk G o).ob fun d => (slotO G.nt T x).ob fun p => p.2.iter?.ob fun y =>
  if y.2 < y.1.size then K [p.1] [(p.1, true, .iter y.1 (y.2 + (Utf8.decode y.1 y.2).2)), (d, false, .tup [.kb true, .v (.i .i64) (y.2 : Int), .v (.i .i32) ((Utf8.decode y.1 y.2).1 : Int)])] else K [p.1] [(d, false, .tup [.kb false])]
theorem stNext_snd (hF : Fit G C) (hT : Tells G.nt G.n T0 T) {o : Oper} {x : Operand} (ho : o.op = .next x true) : Snd (R := R) G C T0 o (stNext G o x T) := by
  intro K r h
  unfold stNext at h
  replace h := of_ob h
  obtain ⟨d, hd, h⟩ := h
  obtain ⟨d1, d2, d3, d4, d5, d6⟩ := dOk_of hF hT hd
  replace h := of_ob h
  obtain ⟨⟨s, y⟩, hp, h⟩ := h
  obtain ⟨rfl, hs, hy⟩ := slotO_of hp
  replace h := of_ob h
  obtain ⟨⟨u, q⟩, hq, h⟩ := h
  have e := iter?_eq hq
  dsimp only at e
  subst e
  have hat : T0.at s = .iter u q := hT.slot hy rfl rfl
  have sn := hT.lt hy
  split at h
  · rename_i lt
    refine ⟨_, _, ?_, EOk.two sn rfl d6 rfl, h⟩
    exact exec_next (P := G.P) ho d1 d2 d3 d4 (by simp) (by rw [hF.nt]; exact hs) (by rw [hT.len]; exact sn) hat lt
  · rename_i lt
    refine ⟨_, _, ?_, EOk.one d6 rfl, h⟩
    exact exec_next_over (P := G.P) ho d1 d2 d3 d4 (by simp) (by rw [hF.nt]; exact hs) hat (by dsimp only at lt; omega)
end
end Go.Proofs.Ytepeoiimdefnpaa.Vm
namespace Go.Proofs.Ytepeoiimdefnpaa.Vm
open Go
/-- A string's bytes. -/
def sBytes (s : ByteArray) : List Int := s.data.toList.map fun b => (b.toNat : Int)
theorem sBytes_enc (s : ByteArray) : (sBytes s).map (enc (.i .u8)) = strVs s := by simp [sBytes, strVs, enc]
abbrev castRow {c c' : Ty} (h : c = c') (xs : List c.den) : List c'.den := h ▸ xs
/-- A byte's type. -/
def u8T (j : TI) : Bool := match j.z with
  | .int .u8 (.ofNat 0) => j.sz.beq 1 && j.by_.beq 1
  | _ => false
theorem u8T_of {j : TI} (h : u8T j = true) : j.z = .int .u8 0 ∧ j.sz = 1 ∧ j.by_ = 1 := by
  unfold u8T at h
  split at h
  · rename_i hz
    simp only [Bool.and_eq_true] at h
    exact ⟨hz, Nat.eq_of_beq_eq_true h.1, Nat.eq_of_beq_eq_true h.2⟩
  · cases h
section
variable {G : GI} {C : Ctx} {T0 : St} {T : TS} {R : Type}
def stAppS (G : GI) (o : Oper) (t : TypeId) (x y : Operand) (T : TS) (K : Rn R) : Option R := (dOk G o).ob fun d => (tiOf G.tt t).ob fun i => i.sl.ob fun e => (tiOf G.tt e).ob fun j => (slotO G.nt T x).ob fun p => (rootOf G.nt T p.1).ob fun w => (opS G.nt T y).ob fun a => a.str?.ob fun s =>
  bsel (w.E.beq e && u8T j) (decB (decEq w.c (.i .u8)) fun h => (if w.xs.length + s.size ≤ 140737488355328 then K (p.1 :: w.r :: rdO y) [(w.r, false, .dead), (d, false, .v (.own e (.i .u8)) (castRow h w.xs ++ sBytes s))] else none)) none
theorem stAppS_snd (hF : Fit G C) (hT : Tells G.nt G.n T0 T) {o : Oper} {t u : TypeId} {x y : Operand} (ho : o.op = .call { callee := .builtin .append, args := #[x, y], argTypes := #[t, u] }) (hu : strT G u = true) : Snd (R := R) G C T0 o (stAppS G o t x y T) := by
  intro K r h
  unfold stAppS at h
  replace h := of_ob h
  obtain ⟨d, hd, h⟩ := h
  obtain ⟨d1, d2, d3, d4, d5, d6⟩ := dOk_of hF hT hd
  replace h := of_ob h
  obtain ⟨i, hi, h⟩ := h
  replace h := of_ob h
  obtain ⟨e, he, h⟩ := h
  replace h := of_ob h
  obtain ⟨j, hj, h⟩ := h
  replace h := of_ob h
  obtain ⟨⟨s, y1⟩, hp, h⟩ := h
  replace h := of_ob h
  obtain ⟨w, hw, h⟩ := h
  replace h := of_ob h
  obtain ⟨a, ha, h⟩ := h
  replace h := of_ob h
  obtain ⟨b, hb, h⟩ := h
  rw [str?_eq hb] at ha
  obtain ⟨e1, hs, hy1⟩ := slotO_of hp
  rw [e1] at ho
  replace h := of_bsel h
  obtain ⟨hc, h⟩ := h
  simp only [Bool.and_eq_true] at hc
  have hE := Nat.eq_of_beq_eq_true hc.1
  obtain ⟨j1, j2, j3⟩ := u8T_of hc.2
  replace h := of_decB h
  obtain ⟨h1, h⟩ := h
  replace h := of_guard h
  obtain ⟨hsm, h⟩ := h
  obtain ⟨o1, o2, o3, o4⟩ := rootOf_of hF hT hw (rd := s :: w.r :: rdO y) (by simp) (by simp)
  have ey := opS_opnd hF hT ha (v := .string b) (rd := s :: w.r :: rdO y) rfl fun s hs => List.mem_cons_of_mem _ (List.mem_cons_of_mem _ hs)
  obtain ⟨wr, wE, wc, wx⟩ := w
  simp only at h1 hE hsm h o1 o2 o3 o4 ey
  subst h1 hE
  have el := hF.elem hj
  rw [j1, j2, j3] at el
  refine ⟨_, _, ?_, EOk.two (hT.lt o3) rfl d6 rfl, h⟩
  have := exec_append_str (P := G.P) (C := C) (T := T0) (rd := s :: wr :: rdO y) ho d1 d2 d3 d4 o2 (hF.slice hi he) (strT_of hF hu) el o1 ey (by rw [row_len]; exact hsm) (by rw [row_len]; unfold maxLen; omega)
  rw [← sBytes_enc, row_app] at this
  exact this
def stConvB (G : GI) (o : Oper) (st dt : TypeId) (x : Operand) (T : TS) (K : Rn R) : Option R := (dOk G o).ob fun d => (slotO G.nt T x).ob fun p => match G.P.underlying st, G.P.underlying dt with
  | some (.slice e), some .string => (match G.P.underlying e with
    | some (.int .u8) => rowyK T p.1 p.2 fun w => decB (decEq w.c (.i .u8)) fun h => K w.rd [(d, false, .v .s (strOfNums (castRow h w.xs)))]
    | _ => none)
  | _, _ => none
theorem stConvB_snd (hF : Fit G C) (hT : Tells G.nt G.n T0 T) {o : Oper} {st dt : TypeId} {x : Operand} (ho : o.op = .convert st dt x) : Snd (R := R) G C T0 o (stConvB G o st dt x T) := by
  intro K r h
  unfold stConvB at h
  replace h := of_ob h
  obtain ⟨d, hd, h⟩ := h
  obtain ⟨d1, d2, d3, d4, d5, d6⟩ := dOk_of hF hT hd
  replace h := of_ob h
  obtain ⟨⟨s, y⟩, hp, h⟩ := h
  obtain ⟨rfl, hs, hy⟩ := slotO_of hp
  split at h
  · rename_i e h1 h2
    split at h
    · rename_i h3
      replace h := rowyK_of hF hT h hs hy
      obtain ⟨w, h, hw⟩ := h
      replace h := of_decB h
      obtain ⟨h4, h⟩ := h
      obtain ⟨wrd, wc, wx⟩ := w
      simp only at h4 h hw
      subst h4
      refine ⟨_, _, ?_, EOk.one d6 rfl, h⟩
      exact exec_bytes_str (P := G.P) ho d1 d2 d3 d4 h1 h3 h2 (hw wrd fun _ h => h)
    · cases h
  · cases h
/-- A slot with a row. -/
def rowO (nt : Nat) (T : TS) (x : Operand) : Bool := match slotO nt T x with
  | some p => (match p.2 with
    | .v (.i _) _ | .kb _ => false
    | _ => true)
  | none => false
end
end Go.Proofs.Ytepeoiimdefnpaa.Vm
namespace Go.Proofs.Ytepeoiimdefnpaa.Vm
open Go
section
variable {G : GI} {C : Ctx} {T0 : St} {T : TS} {R : Type}
def dstIn (o : Oper) (l : List Nat) : Bool := match o.dst with
  | some d => l.contains d
  | none => false
def stOp (G : GI) (o : Oper) (T : TS) (K : Rn R) : Option R := match o.op with
  | .move x => stMove G o false false x T K
  | .assign x => stMove G o (!(dstIn o G.ali)) (dstIn o G.cut) x T K
  | .pick c x y => stPick G o c x y T K
  | .alloc t => stAlloc G o t T K
  | .box _ y => stBox G o y T K
  | .build t ps => bsel (arrT G t) (stBuildArr G o t ps T K) <| stBuild G o t ps T K
  | .buildSlice t n ps => bsel (isCap T n ps.toList) (stBuildCap G o t n ps.toList T K) <| stBuildSlice G o t n ps T K
  | .load t x => bsel (isAtv T x) (stLoadV G o t x T K) <| stLoad G o t x T K
  | .store t x y => bsel (isAtv T x) (stStoreV G o t x y T K) <| stStore G o t x y T K
  | .nilCheck x => stNil G o x T K
  | .binOp op xt x y _ => bsel (isPtrCmp G.nt T x y) (stPtrCmp G o op xt x y T K) <| stBin2 G o op xt x y T K
  | .unOp op _ x => stUn G o op x T K
  | .convert st dt x => bsel (rowO G.nt T x) (stConvB G o st dt x T K) <| stConv G o st dt x T K
  | .makeSlice t x y => stMake G o t x y T K
  | .slice t x lo hi none => bsel (strT G t) (stSubS G o x lo hi T K) <| stSlice G o t x lo hi (dstIn o G.cut) T K
  | .fieldAddr t x f => stFieldAddr G o t x f T K
  | .field t x f => stField G o t x f T K
  | .indexAddr t x ix => bsel (arrT G t) (stIndexAt G o t x ix T K) <| stIndexAddr G o t x ix T K
  | .index t x ix => bsel (strT G t) (stIdxS G o x ix T K) <| stIndex G o t x ix T K
  | .range t x => stRange G o t x T K
  | .next x true => stNext G o x T K
  | .extract x ix => stExtract G o x ix T K
  | .call c => match c.callee with
    | .value (.func f) => bsel (G.ad.contains f) ((match c.args.toList with
      | [x, y, z] => stAdd G o f x y z T K
      | _ => none)) <| stCall G o f c.args.toList T K
    | .builtin .len => match c.args.toList, c.argTypes.toList with
      | [x], [t] => stLen G o t x T K
      | _, _ => none
    | .builtin .append => match c.args.toList, c.argTypes.toList with
      | [x, y], [t, t'] => bsel (t.beq t') (stAppend G o t x y T K) <| bsel (strT G t') (stAppS G o t x y T K) none
      | _, _ => none
    | .builtin .max => match c.args.toList with
      | [x, y] => stMM G o true x y T K
      | _ => none
    | .builtin .min => match c.args.toList with
      | [x, y] => stMM G o false x y T K
      | _ => none
    | _ => none
  | _ => none
theorem stOp_snd (hF : Fit G C) (hT : Tells G.nt G.n T0 T) {o : Oper} : Snd (R := R) G C T0 o (stOp G o T) := by
  intro K r h
  unfold stOp at h
  split at h
  · rename_i x ho; exact stMove_snd hF hT (.inl ho) K r h
  · rename_i x ho; exact stMove_snd hF hT (.inr ho) K r h
  · rename_i ho; exact stPick_snd hF hT ho K r h
  · rename_i ho; exact stAlloc_snd hF hT ho K r h
  · rename_i ho; exact stBox_snd hF hT ho K r h
  · rename_i ho; exact snd_bif (stBuildArr_snd hF hT ho) (stBuild_snd hF hT ho) K r h
  · rename_i ho; exact snd_bif (stBuildCap_snd hF hT ho) (stBuildSlice_snd hF hT ho) K r h
  · rename_i ho; exact snd_bif (stLoadV_snd hF hT ho) (stLoad_snd hF hT ho) K r h
  · rename_i ho; exact snd_bif (stStoreV_snd hF hT ho) (stStore_snd hF hT ho) K r h
  · rename_i ho; exact stNil_snd hF hT ho K r h
  · rename_i ho; exact snd_bif (stPtrCmp_snd hF hT ho) (stBin2_snd hF hT ho) K r h
  · rename_i ho; exact stUn_snd hF hT ho K r h
  · rename_i ho; exact snd_bif (stConvB_snd hF hT ho) (stConv_snd hF hT ho) K r h
  · rename_i ho; exact stMake_snd hF hT ho K r h
  · rename_i ho
    cases ht : strT G _ with
    | true => rw [ht] at h; exact stSubS_snd hF hT ho ht K r h
    | false => rw [ht] at h; exact stSlice_snd hF hT ho K r h
  · rename_i ho; exact stFieldAddr_snd hF hT ho K r h
  · rename_i ho; exact stField_snd hF hT ho K r h
  · rename_i ho; exact snd_bif (stIndexAt_snd hF hT ho) (stIndexAddr_snd hF hT ho) K r h
  · rename_i ho
    cases ht : strT G _ with
    | true => rw [ht] at h; exact stIdxS_snd hF hT ho ht K r h
    | false => rw [ht] at h; exact stIndex_snd hF hT ho K r h
  · rename_i ho; exact stRange_snd hF hT ho K r h
  · rename_i ho; exact stNext_snd hF hT ho K r h
  · rename_i ho; exact stExtract_snd hF hT ho K r h
  · rename_i c ho
    obtain ⟨cal, as, ats⟩ := c
    simp only at h
    split at h
    · rcases of_bif h with ⟨_, h⟩ | ⟨_, h⟩
      · split at h
        · rename_i h1
          have e1 := toList_three h1
          rw [e1] at ho
          exact stAdd_snd hF hT ho K r h
        · cases h
      · exact stCall_snd hF hT ho K r h
    · split at h
      · rename_i h1 h2
        have e1 := toList_one h1
        have e2 := toList_one h2
        rw [e1, e2] at ho
        exact stLen_snd hF hT ho K r h
      · cases h
    · split at h
      · rename_i h1 h2
        have e1 := toList_two h1
        have e2 := toList_two h2
        rcases of_bif h with ⟨hb, h⟩ | ⟨_, h⟩
        · have := Nat.eq_of_beq_eq_true hb
          rw [e1, e2, ← this] at ho
          exact stAppend_snd hF hT ho K r h
        · obtain ⟨hb, h⟩ := of_bsel h
          rw [e1, e2] at ho
          exact stAppS_snd hF hT ho hb K r h
      · cases h
    · split at h
      · rename_i h1
        have e1 := toList_two h1
        rw [e1] at ho
        exact stMM_snd (mx := true) hF hT ho K r h
      · cases h
    · split at h
      · rename_i h1
        have e1 := toList_two h1
        rw [e1] at ho
        exact stMM_snd (mx := false) hF hT ho K r h
      · cases h
    · cases h
  · cases h
/-- A slot is written, and all is told anew. -/
def putLK (s : Nat) (kill : Bool) (x : SV) : TS → Bool → (TS → Option R) → Option R
  | [], f, K => bsel f (K []) <| K [(s, x)]
  | p :: l, f, K => bsel (p.1.beq s) (putLK s kill x l true (fun l' => K ((s, x) :: l'))) <| bsel (over kill s p.2) (putLK s kill x l f (fun l' => K ((p.1, .dead) :: l'))) <| putLK s kill x l f (fun l' => K (p :: l'))
theorem putLK_eq {s : Nat} {kill : Bool} {x : SV} : ∀ {l : TS} {f : Bool} {K : TS → Option R}, putLK s kill x l f K = K (putL s kill x l ++ bsel (f || (look? l s).isSome) [] [(s, x)])
  | [], f, K => by cases f <;> rfl
  | p :: l, f, K => by
    simp only [putLK, putL, look?]
    cases hb : p.1.beq s with
    | true => simp only [bsel]; rw [putLK_eq]; simp
    | false =>
      simp only [bsel]
      cases over kill s p.2 <;> dsimp only <;> rw [putLK_eq] <;> rfl
theorem putLK_putS {s : Nat} {kill : Bool} {x : SV} {l : TS} {K : TS → Option R} : putLK s kill x l false K = K (putS s kill x l) := by
  rw [putLK_eq]
  unfold putS
  cases look? l s with
  | some y => simp
  | none => simp
def putEK : ES → TS → (TS → Option R) → Option R
  | [], l, K => K l
  | e :: E, l, K => putLK e.1 (!e.2.1) e.2.2 l false fun l' => putEK E l' K
theorem putEK_eq : ∀ {E : ES} {l : TS} {K : TS → Option R}, putEK E l K = K (putE E l)
  | [], _, _ => rfl
  | e :: E, l, K => by simp only [putEK, putE]; rw [putLK_putS, putEK_eq]
/-- A bool that is known. -/
theorem Tells.lit (hT : Tells G.nt G.n T0 T) {t : Nat} {y : SV} {b : Bool} (hx : look? T t = some y) (hd : y.isDead = false) (hb : y.toV0 = .sc (.bool b)) (hg : ∀ g, y.toV g = y.toV0) (ht : t < G.nt) : Tells G.nt G.n T0 (putS t false (.kb b) T) := by
  have kill : ∀ q : Nat × SV, over false t q.2 = true → ∃ r, q.2.root? = some r := fun q h => by
    unfold over at h
    cases hr : q.2.root? with
    | none => rw [hr] at h; revert h; cases q.2.isDp <;> simp
    | some r => exact ⟨r, rfl⟩
  refine ⟨hT.len, fun p hp => ?_, fun p hp hn => ?_, fun s h1 h2 h3 => hT.no s h1 h2 (look?_putS h3).1, fun p hp => ?_⟩
  · rcases putS_mem hp with rfl | ⟨_, q, hq, hq1, ⟨h2, _⟩ | ⟨h1, h2⟩⟩
    · exact ⟨hT.lt hx, .inr (by rw [hT.nrm_ hx hd, hg, hb]; rfl)⟩
    · have := hT.all q hq
      rw [hq1, ← h2] at this
      exact this
    · obtain ⟨r, hr⟩ := kill q h2
      rw [← hq1, h1]
      refine ⟨(hT.all q hq).1, .inl ⟨rfl, Nat.lt_of_not_le fun e => ?_⟩⟩
      rw [(hT.cell q hq e).1] at hr
      cases hr
  · rcases putS_mem hp with rfl | ⟨_, q, hq, hq1, ⟨h2, _⟩ | ⟨_, h2⟩⟩
    · exact absurd hn (by simp only; omega)
    · have := hT.cell q hq (by rw [hq1]; exact hn)
      rw [hq1, ← h2] at this
      exact this
    · obtain ⟨r, hr⟩ := kill q h2
      rw [(hT.cell q hq (by rw [hq1]; exact hn)).1] at hr
      cases hr
  · rcases putS_mem hp with rfl | ⟨_, q, hq, hq1, ⟨h2, _⟩ | ⟨h1, _⟩⟩
    · trivial
    · rw [h2]; exact hT.cont q hq
    · rw [h1]; trivial
theorem enc_pr2 : ∀ (t : Ty) (x : t.den) (c : V), c ∈ enc t x → c.pr2 = false
  | .i _, _, c, h | .b, _, c, h | .s, _, c, h | .row _ _, _, c, h | .own _ _, _, c, h | .ptr _ _, _, c, h => by
    simp only [enc, List.mem_singleton] at h; subst h; rfl
  | .cons a r, x, c, h => by
    rcases List.mem_append.1 h with h | h
    · exact enc_pr2 a x.1 c h
    · exact enc_pr2 r x.2 c h
def SV.pr2 : SV → Bool
  | .tup l => Nat.ble 2 l.length
  | _ => false
theorem toV_pr2 (g : Nat → Nat) (x : SV) : (x.toV g).pr2 = x.pr2 := by
  cases x with
  | v t x =>
    rw [toV_v]
    split
    · rename_i c hc
      exact enc_pr2 t x c (by rw [hc]; simp)
    · rfl
  | tup l => simp [SV.toV, SV.toV0, toV_go, V.pr2, SV.pr2]
  | opt t x => cases x <;> rfl
  | optb t x => cases x <;> rfl
  | dp r x => cases x <;> rfl
  | _ => rfl
abbrev Acc := List (List Nat × List (Nat × Bool))
abbrev wr1 (e : Nat × Bool × SV) : Nat × Bool := (e.1, e.2.2.pr2)
def pr1 (p : List Nat × Eff) : List Nat × List (Nat × Bool) := (p.1, p.2.map fun e => (e.1, e.2.2.pr2))
/-- A part of several results that nobody uses, where another has been taken. -/
def isPart (G : GI) (o : Oper) (T : TS) : Bool := match o.op with
  | .extract (.tmp s) _ => dstIn o G.cut && (match look? T s with
    | some (.tup l) => Nat.ble 2 l.length && l.any SV.isDead
    | _ => false)
  | _ => false
def stPart (G : GI) (o : Oper) (K : Rn R) : Option R := match o.op with
  | .extract (.tmp s) ix => (dOk G o).ob fun d => bsel (s.blt G.nt && ix.blt 2) (K [G.n + s] [(d, false, .dead)]) none
  | _ => none
def left (o : Oper) (t : Nat) (G : GI) (K : Rn R) : Option R := match o.dst with
  | some _ => (dOk G o).ob fun d => K [t] [(d, false, .un)]
  | none => K [t] []
/-- What is written no more is told so. -/
def frzV (x : SV) : Option SV := match x with
  | .v t x => bsel t.leaf (some (.v t.frz (cast (frz_den t).symm x))) <| none
  | .agg t x => some (.agg t.frz (cast (frz_den t).symm x))
  | .obx t x => some (.v (.ptr false t.frz) (cast (frz_den t).symm x))
  | _ => none
theorem frz_leaf {t : Ty} (h : t.leaf = true) : t.frz.leaf = true := by cases t <;> first | rfl | simp [Ty.leaf] at h
theorem frzV_of {x y : SV} (h : frzV x = some y) : y.toV0 = x.toV0.frz ∧ x.toV0.freezable = true ∧ x.root? = none ∧ y.root? = none ∧ x.isDead = false := by
  unfold frzV at h
  split at h
  · rename_i t x
    rcases of_bif h with ⟨hl, h⟩ | ⟨_, h⟩
    · injection h with h
      subst h
      have e := enc_frz t x
      rw [enc_v (frz_leaf hl), enc_v hl] at e
      simp only [V.frz.go, List.cons.injEq, and_true] at e
      have f := enc_freezable t x
      rw [enc_v hl] at f
      exact ⟨e, by simpa [V.freezable.go] using f, rfl, rfl, rfl⟩
    · cases h
  · rename_i t x
    injection h with h
    subst h
    exact ⟨congrArg V.agg (enc_frz t x), enc_freezable t x, rfl, rfl, rfl⟩
  · rename_i t x
    injection h with h
    subst h
    exact ⟨congrArg (V.box false) (enc_frz t x), enc_freezable t x, rfl, rfl, rfl⟩
  · cases h
/-- Slots that are told so ahead of an operation of a region. -/
abbrev Fz := List (Nat × Nat)
def fzOf : Fz → Nat → Option Nat
  | [], _ => none
  | p :: l, i => bsel (p.1.beq i) (some p.2) (fzOf l i)
/-- An operation, ahead of it perhaps a slot that is told so. -/
def stOpF (G : GI) (o : Oper) (fz : Option Nat) (T : TS) (K : Rn R) : Option R := match fz with
  | none => stOp G o T K
  | some s => (look? T s).ob fun x => (frzV x).ob fun y => putLK s true y T false fun T1 => stOp G o T1 fun rd E => bsel (E.all fun e => e.2.2.root?.isNone) (K (s :: rd) ((s, false, y) :: E)) none
theorem toV_same {T1 T2 : St} {E : ES} (h : ∀ e, e ∈ E → e.2.2.root? = none) : E.eff T1 = E.eff T2 := by
  unfold ES.eff
  refine List.map_congr_left fun e he => ?_
  rw [toV_root (h e he), toV_root (h e he)]
theorem stOpF_snd (hF : Fit G C) (hT : Tells G.nt G.n T0 T) {o : Oper} {fz : Option Nat} : Snd (R := R) G C T0 o (stOpF G o fz T) := by
  intro K r h
  unfold stOpF at h
  split at h
  · exact stOp_snd hF hT K r h
  · rename_i s
    obtain ⟨x, hx, h⟩ := of_ob h
    obtain ⟨y, hy, h⟩ := of_ob h
    rw [putLK_putS] at h
    obtain ⟨h1, h2, h3, h4, h5⟩ := frzV_of hy
    have hs := hT.lt hx
    have hsl : s < T0.length := by rw [hT.len]; exact hs
    have hat := hT.slot hx h3 h5
    have hr : y.toV0.root = none := by
      rcases (toV_plain g0 y).2 with h6 | ⟨r, h6, _⟩
      · rw [← toV_root h4 g0]; exact h6
      · rw [h4] at h6; cases h6
    have hT1 : Tells G.nt G.n (T0.app [(s, false, y.toV0)]) (putS s true y T) := by
      refine Tells.put hT (keep := false) hs ?_ (fun _ => ⟨h4, hr⟩) (contOk_none h4)
      have hat' : (T0.app [(s, false, y.toV0)]).at s = y.toV0 := St.at_last T0 [] _ _ _ hsl
      rw [toV_root h4]
      rcases nrm_cases (T0.app [(s, false, y.toV0)]) s with ⟨e, _⟩ | ⟨r', g', e, _⟩
      · rw [e, hat']
      · rw [hat', hr] at e; cases e
    obtain ⟨rd, E, e1, e2, e3⟩ := stOp_snd hF hT1 _ _ h
    obtain ⟨hroot, e3⟩ := of_bsel e3
    have hroot' : ∀ e, e ∈ E → e.2.2.root? = none := fun e he => by
      have := List.all_eq_true.1 hroot e he
      simpa using this
    refine ⟨_, _, ?_, .inl fun e he => ?_, e3⟩
    · have := exec_frz (P := G.P) (C := C) (o := o) (rd := rd) (E := E.eff T0) s x.toV0 hsl hat h2 (by rw [← h1, toV_same (T2 := T0.app [(s, false, y.toV0)]) hroot']; exact e1)
      rw [← h1] at this
      show Exec G.P C o (s :: rd) T0 ((s, false, y.toV T0.gen) :: E.eff T0)
      rw [toV_root h4]
      exact this
    · rcases List.mem_cons.1 he with rfl | he
      · exact ⟨hs, h4⟩
      · refine ⟨?_, hroot' e he⟩
        rcases e2 with e2 | ⟨e', r', rfl, q1, q2, q3, q4⟩
        · exact (e2 e he).1
        · simp at he; subst he; exact q2
/-- A region's operations, one by one. -/
def regK (G : GI) (fz : Fz) (all : Array Oper) : List Oper → TS → Acc → (TS → Acc → Option R) → Option R
  | [], T, acc, K => K T acc
  | o :: l, T, acc, K => match o.guard with
    | none => bsel (isPart G o T) (stPart G o fun rd E => putEK E T fun T' => regK G fz all l T' (acc ++ [(rd, E.map wr1)]) K) <| stOpF G o (fzOf fz acc.length) T fun rd E => putEK E T fun T' => regK G fz all l T' (acc ++ [(rd, E.map wr1)]) K
    | some (j, b) => ((all[j]?).bind (·.dst)).ob fun t => bsel (t.blt G.nt) ((look? T t).ob fun y => match y with
      | .un => bsel o.dst.isSome (left o t G fun rd E => putEK E T fun T' => regK G fz all l T' (acc ++ [(rd, E.map wr1)]) K) <| none
      | y => brB y (putLK t false (.kb true) T false fun T => (bsel b (stOp G o T fun rd E => putEK E T fun T' => regK G fz all l T' (acc ++ [(t :: rd, E.map wr1)]) K) <| left o t G fun rd E => putEK E T fun T' => regK G fz all l T' (acc ++ [(rd, E.map wr1)]) K))
        (putLK t false (.kb false) T false fun T => (bsel b (left o t G fun rd E => putEK E T fun T' => regK G fz all l T' (acc ++ [(rd, E.map wr1)]) K) <| stOp G o T fun rd E => putEK E T fun T' => regK G fz all l T' (acc ++ [(t :: rd, E.map wr1)]) K))) <| none
theorem Exec.more {P : Program} {o : Oper} {rd rd' : List Nat} {E : Eff} (h : Exec P C o rd T0 E) (hs : ∀ s, s ∈ rd → s ∈ rd') : Exec P C o rd' T0 E := fun T' a w hsm => h T' a w ⟨hsm.1, fun s hr => hsm.2 s (hs s hr)⟩
theorem left_of (hF : Fit G C) (hT : Tells G.nt G.n T0 T) {ops : Array Oper} {i j t : Nat} {b b' : Bool} {o : Oper} {K : Rn R} {r : R} (h : left o t G K = some r) (ho : ops[i]? = some o) (hg : o.guard = some (j, b)) (hd : (ops[j]?).bind (·.dst) = some t) (ht : t < G.nt) (hx : look? T t = some (.kb b')) (hb : b' = !b) : ∃ rd E, StepI G.P C ops i rd T0 (E.eff T0) ∧ EOk G.nt G.n T0 E ∧ K rd E = some r := by
  have ht' : t < C.nt := by rw [hF.nt]; exact ht
  have hv : (T0.at t).val = some (.bool b') := by rw [hT.slot hx rfl rfl]; rfl
  unfold left at h
  split at h
  · obtain ⟨d, hd', h⟩ := of_ob h
    obtain ⟨d1, d2, d3, d4, d5, d6⟩ := dOk_of hF hT hd'
    exact ⟨_, _, step_left_u ho hg hd ht' (by simp) hv hb d1 d2 d3 d4, EOk.one d6 rfl, h⟩
  · rename_i hod
    exact ⟨_, _, step_left0 ho hg hd ht' (by simp) hv hb hod, .inl fun e he => by simp at he, h⟩
theorem left_un (hF : Fit G C) (hT : Tells G.nt G.n T0 T) {ops : Array Oper} {i j t : Nat} {b : Bool} {o : Oper} {K : Rn R} {r : R} (h : left o t G K = some r) (hs : o.dst.isSome = true) (ho : ops[i]? = some o) (hg : o.guard = some (j, b)) (hd : (ops[j]?).bind (·.dst) = some t) (ht : t < G.nt) (hx : look? T t = some .un) : ∃ rd E, StepI G.P C ops i rd T0 (E.eff T0) ∧ EOk G.nt G.n T0 E ∧ K rd E = some r := by
  have ht' : t < C.nt := by rw [hF.nt]; exact ht
  have hv : (T0.at t).val = some undef := by rw [hT.slot hx rfl rfl]; rfl
  unfold left at h
  split at h
  · obtain ⟨d, hd', h⟩ := of_ob h
    obtain ⟨d1, d2, d3, d4, d5, d6⟩ := dOk_of hF hT hd'
    exact ⟨_, _, step_un ho hg hd ht' (by simp) hv d1 d2 d3 d4, EOk.one d6 rfl, h⟩
  · rename_i hod
    rw [hod] at hs
    cases hs
theorem regK_of (hF : Fit G C) {fz : Fz} {ops : Array Oper} {K : TS → Acc → Option R} {r : R} : ∀ {l : List Oper} {i : Nat} {T0 : St} {T : TS} {acc : Acc}, ops.toList.drop i = l → i ≤ ops.size → Tells G.nt G.n T0 T → regK G fz ops l T acc K = some r →
    ∃ L T0' T', Run G.P C ops i T0 L T0' ∧ Tells G.nt G.n T0' T' ∧ K T' (acc ++ L.map pr1) = some r
  | [], i, T0, T, acc, hl, hi, hT, h => by
    have : i = ops.size := by
      have := congrArg List.length hl
      simp at this
      omega
    subst this
    exact ⟨[], T0, T, .nil _, hT, by simp only [regK] at h; simpa using h⟩
  | o :: l, i, T0, T, acc, hl, hi, hT, h => by
    have hlt : i < ops.size := by
      have := congrArg List.length hl
      simp at this
      omega
    have ho : ops[i]? = some o := by
      have := congrArg (·[0]?) hl
      simpa using this
    have hl' : ops.toList.drop (i + 1) = l := by
      rw [← List.drop_drop, hl]; rfl
    have step : ∀ {T1 : TS} {rd : List Nat} {E : ES}, Tells G.nt G.n T0 T1 → StepI G.P C ops i rd T0 (E.eff T0) → EOk G.nt G.n T0 E → (putEK E T1 fun T' => regK G fz ops l T' (acc ++ [(rd, E.map wr1)]) K) = some r →
        ∃ L T0' T', Run G.P C ops i T0 L T0' ∧ Tells G.nt G.n T0' T' ∧ K T' (acc ++ L.map pr1) = some r := by
      intro T1 rd E hT1 hst hE hk
      rw [putEK_eq] at hk
      obtain ⟨L, T0', T', h1, h2, h3⟩ := regK_of hF hl' (by omega) (hT1.puts hE) hk
      refine ⟨(rd, E.eff T0) :: L, T0', T', .cons hst h1, h2, ?_⟩
      rw [List.append_assoc] at h3
      have : pr1 (rd, E.eff T0) = (rd, E.map wr1) := by simp [pr1, ES.eff, Function.comp_def, toV_pr2]
      rw [List.map_cons, this]
      exact h3
    unfold regK at h
    split at h
    · rename_i hg
      rcases of_bif h with ⟨hpt, h⟩ | ⟨_, h⟩
      · unfold isPart at hpt
        unfold stPart at h
        split at h
        · rename_i s ix hop
          rw [hop] at hpt
          simp only [Bool.and_eq_true] at hpt
          obtain ⟨_, hpt⟩ := hpt
          split at hpt
          · rename_i pl hlk
            simp only [Bool.and_eq_true] at hpt
            obtain ⟨d, hd, h⟩ := of_ob h
            obtain ⟨d1, d2, d3, d4, d5, d6⟩ := dOk_of hF hT hd
            obtain ⟨hb, h⟩ := of_bsel h
            simp only [Bool.and_eq_true] at hb
            have hsl := hT.slot hlk rfl rfl
            have hlen := hT.len
            have hE : EOk G.nt G.n T0 ([(d, false, .dead)] : ES) := EOk.one d6 rfl
            dsimp only at h
            rw [putEK_eq] at h
            obtain ⟨L, T0', T', h1, h2, h3⟩ := regK_of hF hl' (by omega) (hT.puts hE) h
            refine ⟨([G.n + s], ES.eff T0 [(d, false, .dead)]) :: L, T0', T', .consS (step_part s ix ho hg hop d1 d2 d3 d4 (by rw [hF.nt]; exact lt_blt hb.1) (lt_blt hb.2) (by rw [hlen]; simp)) (fun s' hs' => ?_) h1, h2, ?_⟩
            · have : s' = s := by simp at hs'; omega
              subst this
              rw [hsl]
              simp only [SV.toV0, toV_go, V.pr2, List.length_map]
              exact hpt.1
            · rw [List.append_assoc] at h3
              exact h3
          · cases hpt
        · cases h
      · obtain ⟨rd, E, h1, h2, h3⟩ := stOpF_snd hF hT _ _ h
        exact step hT (step_exec ho hg h1) h2 h3
    · rename_i j b hg
      obtain ⟨t, hd, h⟩ := of_ob h
      rcases of_bif h with ⟨hb, h⟩ | ⟨_, h⟩
      · have ht := lt_blt hb
        have ht' : t < C.nt := by rw [hF.nt]; exact ht
        obtain ⟨y, hy, h⟩ := of_ob h
        split at h
        · rcases of_bif h with ⟨hs, h⟩ | ⟨_, h⟩
          · obtain ⟨rd, E, h1, h2, h3⟩ := left_un hF hT h hs ho hg hd ht hy
            exact step hT h1 h2 h3
          · cases h
        · rename_i y0 _
          have go : ∀ v : Bool, y.toV0 = .sc (.bool v) → (∀ g, y.toV g = y.toV0) → y.root? = none → y.isDead = false → (putLK t false (.kb v) T false fun T => (bsel (b == v) (stOp G o T fun rd E => putEK E T fun T' => regK G fz ops l T' (acc ++ [(t :: rd, E.map wr1)]) K) <| left o t G fun rd E => putEK E T fun T' => regK G fz ops l T' (acc ++ [(rd, E.map wr1)]) K)) = some r → ∃ L T0' T', Run G.P C ops i T0 L T0' ∧ Tells G.nt G.n T0' T' ∧ K T' (acc ++ L.map pr1) = some r := by
            intro v hv hg0 hr hd0 hk
            rw [putLK_putS] at hk
            have hT1 := hT.lit hy hd0 hv hg0 ht
            have hval : (T0.at t).val = some (.bool v) := by rw [hT.slot hy hr hd0, hv]; rfl
            have hlook : look? (putS t false (.kb v) T) t = some (.kb v) := by
              have key : ∀ l : TS, ∀ y, look? l t = some y → look? (putL t false (.kb v) l) t = some (.kb v) := by
                intro l
                induction l with
                | nil => intro y h; cases h
                | cons p l ih =>
                  intro y h
                  simp only [putL, look?] at h ⊢
                  cases hp : p.1.beq t with
                  | true => simp [Nat.beq_refl]
                  | false =>
                    rw [hp] at h
                    cases ho : over false t p.2 with
                    | true => simp only [hp, bsel] at h ⊢; exact ih y h
                    | false => simp only [hp, bsel] at h ⊢; exact ih y h
              unfold putS
              rw [hy]
              exact key T _ hy
            replace hk := of_bif hk
            rcases hk with ⟨hbv, hk⟩ | ⟨hbv, hk⟩
            · obtain ⟨rd, E, h1, h2, h3⟩ := stOp_snd hF hT1 _ _ hk
              refine step hT1 (step_guard ho hg hd ht' (by simp) hval ?_ (h1.more fun s hs => List.mem_cons_of_mem _ hs)) h2 h3
              simpa using (eq_of_beq hbv).symm
            · obtain ⟨rd, E, h1, h2, h3⟩ := left_of hF hT1 hk ho hg hd ht hlook (by cases b <;> cases v <;> simp_all)
              exact step hT1 h1 h2 h3
          obtain ⟨v, q1, q2, q3, q4, ⟨rfl, h⟩ | ⟨rfl, h⟩⟩ := brB_of h
          · refine go true q1 q2 q3 q4 ?_
            rw [← h]
            cases b <;> rfl
          · refine go false q1 q2 q3 q4 ?_
            rw [← h]
            cases b <;> rfl
      · cases h
/-- The same as okAll, of what is read and which slots are written. -/
def clashN (p q : List Nat × List (Nat × Bool)) : Bool := (p.2.any fun e => q.1.contains e.1 || q.2.any fun f => f.1 == e.1) || (p.1.any fun s => q.2.any fun f => f.1 == s)
def okFromN (b : List Nat) (p : List Nat × List (Nat × Bool)) (i : Nat) : Nat → Acc → Bool
  | _, [] => true
  | j, q :: l => (!clashN p q || (b.getD j 0).testBit i) && okFromN b p i (j + 1) l
def okAllN (b : List Nat) : Nat → Acc → Bool
  | _, [] => true
  | i, p :: l => okFromN b p i (i + 1) l && okAllN b (i + 1) l
theorem clashN_eq (p q : List Nat × Eff) : clashN (pr1 p) (pr1 q) = clash p q := by
  simp [clashN, clash, pr1, List.any_map, Function.comp_def]
theorem okFromN_eq (b : List Nat) (p : List Nat × Eff) (i : Nat) : ∀ (j : Nat) (l : Steps), okFromN b (pr1 p) i j (l.map pr1) = okFrom b p i j l
  | _, [] => rfl
  | j, q :: l => by simp only [List.map_cons, okFromN, okFrom, clashN_eq, okFromN_eq b p i (j + 1) l]
theorem okAllN_eq (b : List Nat) : ∀ (i : Nat) (l : Steps), okAllN b i (l.map pr1) = okAll b i l
  | _, [] => rfl
  | i, p :: l => by simp only [List.map_cons, okAllN, okAll, okFromN_eq, okAllN_eq b (i + 1) l]
def shAtN (b N j : Nat) (l : Acc) (c : Nat) : Bool := c.blt N || ((c - N).blt N && (l.all fun q => q.2.all fun e => !Nat.beq e.1 (c - N) || e.2) && l.zipIdx.any fun q => !Nat.beq q.2 j && b.testBit q.2 && q.1.2.any fun e => Nat.beq e.1 (c - N))
def shAllN (bs : List Nat) (N : Nat) (l : Acc) : Bool := l.zipIdx.all fun p => p.1.1.all fun c => shAtN (bs.getD p.2 0) N p.2 l c
theorem shAtN_eq (b N j : Nat) (l : Steps) (c : Nat) : shAtN b N j (l.map pr1) c = shAt b N j l c := by
  simp [shAtN, shAt, pr1, List.zipIdx_map, List.any_map, List.all_map, Function.comp_def]
theorem shAllN_eq (bs : List Nat) (N : Nat) (l : Steps) : shAllN bs N (l.map pr1) = shAll bs N l := by
  unfold shAllN shAll
  simp only [shAtN_eq, List.zipIdx_map, List.all_map, Function.comp_def]
  rfl
/-- A region. -/
def evReg (G : GI) (fz : Fz) (ops : Array Oper) (draw : Bool) (T : TS) (K : TS → Option R) : Option R := bsel draw ((bsel (G.P.follows .mixedOrders && back ops.toList) (regK G fz ops ops.toList T [] fun T' acc => bsel (okAllN (befs ops.toList) 0 acc && shAllN (befs ops.toList) G.n acc) (K T') <| none) <| none)) <| regK G fz ops ops.toList T [] fun T' _ => K T'
theorem evReg_of (hF : Fit G C) (hT : Tells G.nt G.n T0 T) {id : Nat} {fz : Fz} {ops : Array Oper} {draw : Bool} {K : TS → Option R} {r : R} {Q : Exit → St → Prop} (h : evReg G fz ops draw T K = some r) (hQ : ∀ T0' T', Tells G.nt G.n T0' T' → K T' = some r → Q .normal T0') : VW G.P C (.region id ops draw) T0 Q := by
  unfold evReg at h
  cases draw with
  | false =>
    obtain ⟨L, T0', T', h1, h2, h3⟩ := regK_of hF (by simp) (Nat.zero_le _) hT h
    exact vw_region h1 (hQ _ _ h2 h3)
  | true =>
    replace h := bsel_t h
    rcases of_bif h with ⟨hb, h⟩ | ⟨_, h⟩
    · simp only [Bool.and_eq_true] at hb
      obtain ⟨L, T0', T', h1, h2, h3⟩ := regK_of hF (by simp) (Nat.zero_le _) hT h
      replace h3 := of_bif h3
      rcases h3 with ⟨hok, h3⟩ | ⟨_, h3⟩
      · rw [List.nil_append, okAllN_eq, shAllN_eq, Bool.and_eq_true] at hok
        exact vw_region_draw h1 hb.1 (by rw [hok.1, hb.2]; rfl) (by rw [hT.len]; exact hok.2) (hQ _ _ h2 h3)
      · cases h3
    · cases h
end
end Go.Proofs.Ytepeoiimdefnpaa.Vm
