/- A machine of values over the given machine, and its calculus: part 2. -/
import Derived.Test.YtnlocbjojbgdcaaV1
import Derived.Laws.BytesArg
import Derived.Laws.Small
import Derived.Laws.StructEq
import Derived.Lib.AppendStr
import GoSem.Core.Utf8
namespace Go.Proofs.Ytnlocbjojbgdcaa.Vm
open Go
def mkC (N : Nat) (g : List (Nat × Nat)) (pin : Nat → Option Value) (w0 : World) (S B : Foot) (may : Foot) : Ctx := { nt := N, w0 := w0, S := S, B := B, may := may, base := baseOf g, pin := pin }
def noPin : Nat → Option Value := fun _ => none
def entries : Nat → List V → List (Nat × V)
 | _, [] => []
 | i, x :: xs => (i, x) :: entries (i + 1) xs
theorem look_entries {xs : List V} {i s : Nat} {d : V} : look (entries i xs) s d = if i ≤ s then (xs[s - i]?).getD d else d := by
 induction xs generalizing i with
 | nil => simp [entries, look]
 | cons x xs ih =>
  simp only [entries, look]
  by_cases h : i = s
  · subst h; simp
  · rw [if_neg h, ih]
    by_cases h2 : i + 1 ≤ s
    · rw [if_pos h2, if_pos (by omega), show s - i = (s - (i + 1)) + 1 by omega]
      simp
    · rw [if_neg h2, if_neg (by omega)]
theorem hold_plain {w : World} {S B : Foot} {F : Foot} {v : Value} {x : V} (h : Hold w S B F v x) : x ≠ .no ∧ (∀ k, x ≠ .at_ k) ∧ x.root = none := by
 cases h <;> exact ⟨by simp, fun _ => by simp, rfl⟩
theorem sim_start {N n : Nat} {g : List (Nat × Nat)} {w : World} {S B : Foot} {F : Nat → Foot} {vs : List Value} {xs : List V} (h : ArgsOk w S B F vs xs) (hN : xs.length ≤ N) (_ : N ≤ n) :
 Sim (mkC N g noPin w S B (fun b o => ∃ i, F i b o)) (mkT n N (entries 0 xs)) { tmps := vs.toArray ++ Array.replicate (N - vs.toArray.size) undef, defers := [] } w := by
 have hl := h.len
 have hat : ∀ s, (mkT n N (entries 0 xs)).at s = if s < n then (xs[s]?).getD (if s < N then .dead else .no) else .no := fun s => by
  rw [mkT_at, look_entries]
  simp
 refine ⟨S, fun s b o => s < xs.length ∧ F s b o, fun _ => ⟨0, 0, none⟩, by simp [mkC]; omega, rfl, fun s v hv => by simp [mkC, noPin] at hv, ⟨rfl, rfl, rfl, Nat.le_refl _, .refl _ _⟩, fun _ _ h => h, fun _ _ h => .inl h, h.stay, fun s t hst b o h1 h2 => h.apart s t hst b o h1.2 h2.2, fun s b o hb => ?_, fun s r g' hr => ?_, fun s => ?_, fun s hs hx => ?_⟩
 · obtain ⟨h1, h2, h3⟩ := h.mine s b o hb.2
   exact ⟨h1, h2, h3, .inr ⟨s, hb.2⟩⟩
 · exfalso
   rw [hat] at hr
   split at hr
   · cases hx : xs[s]? with
     | none => rw [hx] at hr; simp only [Option.getD_none] at hr; split at hr <;> simp [V.root] at hr
     | some x =>
      rw [hx] at hr
      have hsl := (List.getElem?_eq_some_iff.1 hx).1
      have := hold_plain (h.hold s _ x (List.getElem?_eq_getElem (by omega)) hx)
      simp only [Option.getD_some, this.2.2] at hr
      cases hr
   · simp [V.root] at hr
 · rw [hat]
   by_cases hsn : s < n
   · rw [if_pos hsn]
     cases hx : xs[s]? with
     | none =>
      simp only [Option.getD_none]
      split
      · rename_i hsN
        refine SlotOk.plain ⟨undef, ?_, .dead ..⟩
        have hge : xs.length ≤ s := List.getElem?_eq_none_iff.1 hx
        unfold conc
        rw [if_pos (show s < (mkC N g noPin w S B (fun b o => ∃ i, F i b o)).nt from hsN)]
        rw [Array.getElem?_append_right (by simp; omega)]
        simp only [Array.getElem?_replicate, List.size_toArray]
        rw [if_pos (by omega)]
      · trivial
     | some x =>
      have hsl := (List.getElem?_eq_some_iff.1 hx).1
      have hv : vs[s]? = some vs[s] := List.getElem?_eq_getElem (by omega)
      refine SlotOk.plain ⟨vs[s], ?_, (h.hold s _ x hv hx).mono (fun _ _ h => h) (fun _ _ h => h) fun b o hb => ⟨⟨hsl, hb⟩, fun hc => by have := hc.1; simp only [mkC] at this; omega⟩⟩
      unfold conc
      rw [if_pos (show s < (mkC N g noPin w S B (fun b o => ∃ i, F i b o)).nt from Nat.lt_of_lt_of_le hsl hN), Array.getElem?_append_left (by simp; omega)]
      simp
   · rw [if_neg hsn]; trivial
 · exfalso
   rw [hat] at hx
   have hsN : N ≤ s := hs
   by_cases hsn : s < n
   · rw [if_pos hsn, List.getElem?_eq_none (by omega), Option.getD_none, if_neg (by omega)] at hx
     exact hx rfl
   · rw [if_neg hsn] at hx
     exact hx rfl
def Ends (P : Program) (C : Ctx) (rs : List ResultVar) (xs : List V) : Exit → St → Prop := fun e T => (e = .normal ∨ e = .ret) ∧ ∃ ss, rets P C T [] rs xs ss
theorem vc_of {P : Program} {f : FuncId} {fn : Func} {c : Code} {N n : Nat} {g : List (Nat × Nat)} {rs : List ResultVar} {args xs : List V} (hf : P.funcs[f]? = some fn) (hb : fn.body = some c) (hN : fn.ntmps = N) (hrs : fn.results = rs.toArray) (ha : args.length ≤ N) (hn : N ≤ n)
 (H : ∀ w S B may, VW P (mkC N g noPin w S B may) c (mkT n N (entries 0 args)) (Ends P (mkC N g noPin w S B may) rs xs)) : VC P f args (args.map fun _ => .dead) (resV xs) := by
 intro w S B F vs hargs
 refine calls_of_wp hf hb ?_
 have h0 := H w S B (fun b o => ∃ i, F i b o) _ w (sim_start (g := g) (n := n) (N := N) hargs ha hn)
 rw [hN]
 refine wp_mono h0 fun e a' w' ⟨T', ⟨he, ss, hr⟩, S', F', loc, hsim⟩ => ?_
 obtain ⟨v, h1, h2⟩ := results_run hsim hrs hr
 have key : a'.defers = [] ∧ ∃ v, (results fn a'.tmps).run P w' = .ok v w' ∧ ∃ u, Ending.returned v = .returned u ∧ Done w w' S B F vs (args.map fun _ => V.dead) u (resV xs) := by
  refine ⟨hsim.defers, v, h1, v, rfl, ⟨S', fun _ => Foot.none, _, h2, fun i v' x hv hx => ?_, hsim.sub, fun b o hb => ?_, fun _ _ _ _ _ h => h.elim, fun _ _ _ _ h => h.elim, fun b o hb => ?_⟩, ⟨hsim.world.os, hsim.world.tape, hsim.world.output, hsim.world.size, hsim.world.keep.mono fun b o hb => ⟨hb.1, fun ⟨i, hi⟩ => hb.2 i hi⟩⟩⟩
  · simp only [List.getElem?_map, Option.map_eq_some_iff] at hx
    obtain ⟨_, _, rfl⟩ := hx
    exact .dead ..
  · rcases hsim.from_ b o hb with h3 | h3 | h3
    · exact .inl h3
    · exact .inr (.inl ⟨h3, hsim.stay b o (.inl hb)⟩)
    · exact .inr (.inr h3)
  · rcases hb with ⟨s, _, hi⟩ | ⟨_, hi⟩
    · obtain ⟨h3, _, h4, h5⟩ := hsim.mine s b o hi.1
      rcases h5 with h5 | h5
      · exact ⟨h3, .inr ⟨h5, h4⟩⟩
      · exact ⟨h3, .inl h5⟩
    · exact hi.elim
 rcases he with rfl | rfl
 · exact key
 · exact key
def V.lend : V → V
 | .row _ sz es => .row true sz (go2 es)
 | .own _ sz es => .row true sz (go2 es)
 | .box _ cs => .box true (go cs)
 | .agg cs => .agg (go cs)
 | x => x
where
 go : List V → List V
  | [] => []
  | c :: cs => V.lend c :: go cs
 go2 : List (List V) → List (List V)
  | [] => []
  | e :: es => go e :: go2 es
theorem lend_go (cs : List V) : V.lend.go cs = cs.map V.lend := by
 induction cs with
 | nil => rfl
 | cons c cs ih => simp [V.lend.go, ih]
theorem lend_go2 (es : List (List V)) : V.lend.go2 es = es.map (·.map V.lend) := by
 induction es with
 | nil => rfl
 | cons c cs ih => simp [V.lend.go2, ih, lend_go]
def V.lendable : V → Bool
 | .obx _ | .iter _ _ | .at_ _ | .al _ _ | .ref _ _ _ _ _ | .vw _ _ _ _ _ | .no | .tup _ => false
 | .row _ _ es | .own _ _ es => go2 es
 | .box _ cs | .agg cs => go cs
 | _ => true
where
 go : List V → Bool
  | [] => true
  | c :: cs => V.lendable c && go cs
 go2 : List (List V) → Bool
  | [] => true
  | e :: es => go e && go2 es
theorem lendable_go {cs : List V} (h : V.lendable.go cs = true) {i : Nat} {c : V} (hc : cs[i]? = some c) : c.lendable = true := by
 induction cs generalizing i with
 | nil => simp at hc
 | cons x cs ih =>
  simp only [V.lendable.go, Bool.and_eq_true] at h
  cases i with
  | zero => simp at hc; subst hc; exact h.1
  | succ i => exact ih h.2 (by simpa using hc)
theorem lendable_go2 {es : List (List V)} (h : V.lendable.go2 es = true) {j : Nat} {e : List V} (he : es[j]? = some e) : V.lendable.go e = true := by
 induction es generalizing j with
 | nil => simp at he
 | cons x es ih =>
  simp only [V.lendable.go2, Bool.and_eq_true] at h
  cases j with
  | zero => simp at he; subst he; exact h.1
  | succ j => exact ih h.2 (by simpa using he)
theorem Hold.lend {w : World} {S B : Foot} {F : Foot} {v : Value} {x : V} (h : Hold w S B F v x) : ∀ {B' : Foot}, (∀ b o, S b o → B' b o) → (∀ b o, B b o → B' b o) → (∀ b o, F b o → B' b o) → x.lendable = true → Hold w S B' Foot.none v x.lend := by
 have gcs : ∀ {cs : List V} {i : Nat} {c : V}, (V.lend.go cs)[i]? = some c → ∃ c0, cs[i]? = some c0 ∧ c = c0.lend := fun {cs i c} hc => by
  rw [lend_go, List.getElem?_map, Option.map_eq_some_iff] at hc
  obtain ⟨c0, h1, h2⟩ := hc
  exact ⟨c0, h1, h2.symm⟩
 have ges : ∀ {es : List (List V)} {j : Nat} {e : List V}, (V.lend.go2 es)[j]? = some e → ∃ e0, es[j]? = some e0 ∧ e = V.lend.go e0 := fun {es j e} he => by
  rw [lend_go2, List.getElem?_map, Option.map_eq_some_iff] at he
  obtain ⟨e0, h1, h2⟩ := he
  exact ⟨e0, h1, by rw [lend_go, h2]⟩
 have glen : ∀ {es : List (List V)} {sz : Nat}, (∀ e, e ∈ es → e.length = sz) → ∀ e, e ∈ V.lend.go2 es → e.length = sz := fun {es sz} hz e he => by
  rw [lend_go2] at he
  obtain ⟨e0, h1, rfl⟩ := List.mem_map.1 he
  simpa using hz e0 h1
 have gl : ∀ (es : List (List V)), (V.lend.go2 es).length = es.length := fun es => by rw [lend_go2]; simp
 have hnone : ∀ (B' : Foot) (b o : Nat), Foot.none b o → B' b o := fun _ _ _ h => h.elim
 induction h with
 | dead => intros; exact .dead ..
 | sc => intros; exact .sc ..
 | agg B F vs cs G hn hs h1 hi ih =>
  intro B' s1 s2 s3 hl
  refine .agg _ _ vs _ (fun _ => Foot.none) (by rw [hn, lend_go]; simp) (Split.none _) (fun i u c hu hc => ?_) fun i u c hu hc => ?_
  · obtain ⟨c0, hc0, rfl⟩ := gcs hc
    exact h1 i u c0 hu hc0
  · obtain ⟨c0, hc0, rfl⟩ := gcs hc
    exact ih i u c0 hu hc0 s1 s2 (fun b o hb => s3 b o (hs.sub _ _ _ hb)) (lendable_go hl hc0)
 | tup => intro B' _ _ _ hl; simp [V.lendable] at hl
 | row B F x sz es A cap U hz hc hm ha h1 hi ih =>
  intro B' s1 s2 s3 hl
  have := Hold.row (w := w) (S := S) B' Foot.none true sz (V.lend.go2 es) A cap U (glen hz) (by rw [gl]; exact hc) (by rw [gl]; exact hm) (fun hp => by
   rw [gl] at hp
   exact ha hp) (fun a j i e c hA he hc => by
   obtain ⟨e0, he0, rfl⟩ := ges he
   obtain ⟨c0, hc0, rfl⟩ := gcs hc
   obtain ⟨q1, q2, q3⟩ := h1 a j i e0 c0 hA he0 hc0
   exact ⟨q1, q2, .inr ⟨rfl, q3.elim (s1 _ _) fun e => s2 _ _ e.2⟩⟩) fun j i e c he hc => by
   obtain ⟨e0, he0, rfl⟩ := ges he
   obtain ⟨c0, hc0, rfl⟩ := gcs hc
   exact (ih j i e0 c0 he0 hc0 s1 (fun b o hb => s2 b o hb.2) (hnone _) (lendable_go (lendable_go2 hl he0) hc0)).mono (fun _ _ h => h) (fun _ _ h => ⟨rfl, h⟩) fun _ _ h => h
  rw [gl] at this
  exact this
 | own B F E sz v es us G hz hp ho hF hs hG h1 hi ih =>
  intro B' s1 s2 s3 hl
  have hoc : ∃ A cap, v = .slice A es.length cap ∧ es.length ≤ cap ∧ es.length ≤ 9223372036854775807 ∧ (0 < es.length → ∃ b, A = some ⟨b, 0, none⟩ ∧ v.ownBlock = some b) ∧ ∀ (b : Nat) k u, A = some ⟨b, 0, none⟩ → us[k]? = some u → w.cell? ⟨b, k, none⟩ = some u := by
   rcases ho.2 with ⟨rfl, h0⟩ | ⟨g, cap, cur, rfl, _, hg, hnc, hcm, _, _⟩
   · exact ⟨none, 0, by rw [h0], by omega, by omega, fun h => by omega, fun b k u e => by cases e⟩
   · refine ⟨_, cap, rfl, hnc, by simp only [maxLen] at hcm; omega, fun _ => ⟨g, rfl, rfl⟩, fun b k u e hu => ?_⟩
     injection e with e
     injection e with e
     subst e
     have := ho.cells (g := g) rfl k u hu
     rw [addr_add_of, Nat.zero_add] at this
     exact this
  obtain ⟨A, cap, rfl, hc, hm, ha, hcell⟩ := hoc
  have hget : ∀ j i e c, es[j]? = some e → e[i]? = some c → ∃ u, us[j * sz + i]? = some u := fun j i e c he hc => by
   have hj := (List.getElem?_eq_some_iff.1 he).1
   have hil := (List.getElem?_eq_some_iff.1 hc).1
   rw [hz e (List.mem_of_getElem? he)] at hil
   have hlt : j * sz + i < us.length := by
    rw [ho.1]
    calc j * sz + i < j * sz + sz := by omega
     _ = (j + 1) * sz := by rw [Nat.succ_mul]
     _ ≤ es.length * sz := Nat.mul_le_mul_right _ hj
   exact ⟨_, List.getElem?_eq_getElem hlt⟩
  have := Hold.row (w := w) (S := S) B' Foot.none true sz (V.lend.go2 es) A cap (fun k => us.getD k undef) (glen hz) (by rw [gl]; exact hc) (by rw [gl]; exact hm) (fun hp => by
   rw [gl] at hp
   obtain ⟨b, rfl, hb⟩ := ha hp
   exact ⟨_, rfl⟩) (fun a j i e c hA he hc => by
   obtain ⟨e0, he0, rfl⟩ := ges he
   obtain ⟨c0, hc0, rfl⟩ := gcs hc
   obtain ⟨u, hu⟩ := hget j i e0 c0 he0 hc0
   obtain ⟨b, e, hvb⟩ := ha (by have := (List.getElem?_eq_some_iff.1 he0).1; omega)
   rw [hA] at e
   injection e with e
   subst e
   rw [addr_add_of, Nat.zero_add, hcell b _ u hA hu]
   simp only [List.getD_eq_getElem?_getD, hu, Option.getD_some, true_and]
   exact ⟨h1 u (List.mem_of_getElem? hu), .inr (s3 _ _ (hF b hvb _))⟩) fun j i e c he hc => by
   obtain ⟨e0, he0, rfl⟩ := ges he
   obtain ⟨c0, hc0, rfl⟩ := gcs hc
   obtain ⟨u, hu⟩ := hget j i e0 c0 he0 hc0
   simp only [List.getD_eq_getElem?_getD, hu, Option.getD_some]
   exact (ih j i e0 c0 u he0 hc0 hu s1 (fun _ _ hb => hb.elim) (fun b o hb => s3 b o (hs.sub _ _ _ hb)) (lendable_go (lendable_go2 hl he0) hc0)).mono (fun _ _ h => h) (fun _ _ h => ⟨trivial, h⟩) fun _ _ h => h
  rw [gl] at this
  exact this
 | box B F x cs a U h1 hi ih =>
  intro B' s1 s2 s3 hl
  refine .box _ _ true _ a U (fun i c hc => ?_) fun i c hc => ?_
  · obtain ⟨c0, hc0, rfl⟩ := gcs hc
    obtain ⟨q1, q2, q3⟩ := h1 i c0 hc0
    exact ⟨q1, q2, .inr ⟨rfl, q3.elim (s1 _ _) fun e => s2 _ _ e.2⟩⟩
  · obtain ⟨c0, hc0, rfl⟩ := gcs hc
    exact (ih i c0 hc0 s1 (fun b o hb => s2 b o hb.2) (hnone _) (lendable_go hl hc0)).mono (fun _ _ h => h) (fun _ _ h => ⟨rfl, h⟩) fun _ _ h => h
 | obx => intro B' _ _ _ hl; simp [V.lendable] at hl
 | iter => intro B' _ _ _ hl; simp [V.lendable] at hl
end Go.Proofs.Ytnlocbjojbgdcaa.Vm
namespace Go.Proofs.Ytnlocbjojbgdcaa.Vm
open Go
def goesTo (P : Program) (f : FuncId) : Prop := ∃ fn, P.funcs[f]? = some fn ∧ (fn.name == "runtime.NumGoroutine") = false ∧ fn.body.isNone = false
section
variable {P : Program} {C : Ctx} {T T' : St} {a : Act} {w : World} {S : Foot} {F : Nat → Foot} {loc : Nat → Addr} {rd : List Nat} {o : Oper} {d : Nat}
def lentV (C : Ctx) (T : St) (rd : List Nat) (x0 : V) (r : Nat) : Operand → Prop
 | .tmp t => t ∈ rd ∧ t < C.nt ∧ ((T.at t = x0 ∧ r = t ∧ x0.lendable = true) ∨ (∃ E sz es, x0 = .own E sz es ∧ Own1 C T rd t r E sz es ∧ x0.lendable = true))
 | _ => False
def lentBox (C : Ctx) (T : St) (rd srcs : List Nat) (t k m : Nat) : Prop :=
 t ∈ rd ∧ t < C.nt ∧ T.at t = .at_ k ∧ C.nt ≤ k ∧ ((List.range m).all fun j => rd.contains (k + j) && !srcs.contains (k + j) && (C.base (k + j) == k) && (T.at (k + j)).lendable) = true ∧ 0 < m
def argV (C : Ctx) (T : St) (rd : List Nat) (srcs : List Nat) (x : V) (src : List Nat) (y : Operand) : Prop :=
 opV C T rd x src y ∨ (src = [] ∧ ((∃ v, y = .const v ∧ lit v x) ∨ (∃ x0 r, x = x0.lend ∧ lentV C T rd x0 r y ∧ r ∉ srcs) ∨ (∃ t k m, y = .tmp t ∧ lentBox C T rd srcs t k m ∧ x = .box true (V.lend.go (cellsAt T k m)))))
def argsV (C : Ctx) (T : St) (rd : List Nat) (all used : List Nat) : List Operand → List V → List (List Nat) → Prop
 | [], [], [] => True
 | y :: ys, x :: xs, s :: ss => argV C T rd all x s y ∧ (∀ t, t ∈ s → t ∉ used ∧ t ∈ all) ∧ argsV C T rd all (s ++ used) ys xs ss
 | _, _, _ => False
def reads (C : Ctx) (S : Foot) (F : Nat → Foot) (_loc : Nat → Addr) (all : List Nat) : Foot := fun b o => S b o ∨ C.B b o ∨ ∃ r, r ∉ all ∧ F r b o
theorem lendable_plain {x : V} (h : x.lendable = true) : x ≠ .no ∧ (∀ k, x ≠ .at_ k) ∧ x.root = none := by
 cases x <;> first | (simp [V.lendable] at h; done) | exact ⟨by simp, fun _ => by simp, rfl⟩
theorem argV_get {all : List Nat} {x : V} {src : List Nat} {y : Operand} (h : argV C T rd all x src y) (hs : Same T T' rd) (hsim : SimB C T' a w S F loc) :
 ∃ G, Hold w S (reads C S F loc all) G (a.eval y) x ∧ (∀ b o, G b o → ∃ s, s ∈ src ∧ inner C (F s) loc s b o) ∧ ∀ s, s ∈ src → T'.at s ≠ .no := by
 rcases h with h | ⟨rfl, ⟨v, rfl, hl⟩ | ⟨x0, r, rfl, h, hr⟩ | ⟨t, k, m, rfl, h, rfl⟩⟩
 · obtain ⟨G, h1, h2, h3⟩ := opV_get h hs hsim
   exact ⟨G, h1.mono (fun _ _ h => h) (fun _ _ h => .inr (.inl h)) fun _ _ h => h, h2, h3⟩
 · exact ⟨Foot.none, hl.hold _ _ _ _, fun _ _ h => h.elim, fun s hs => by simp at hs⟩
 · cases y with
   | tmp t =>
    obtain ⟨h1, h2, ⟨h3, rfl, h4⟩ | ⟨E, sz, es, rfl, h3, h4⟩⟩ := h
    · obtain ⟨p1, p2, p3⟩ := lendable_plain h4
      have hsl := hsim.slot r
      rw [hs.at_ h1, h3] at hsl
      obtain ⟨v, e1, e2⟩ := hsl.held p1 p2 p3
      refine ⟨Foot.none, ?_, fun _ _ h => h.elim, fun s hs => by simp at hs⟩
      rw [conc_eval h2 e1]
      exact e2.lend (fun _ _ hb => .inl hb) (fun _ _ hb => .inr (.inl hb)) (fun _ _ hb => .inr (.inr ⟨r, hr, hb.1⟩)) h4
    · obtain ⟨_, _, _, v, e1, _, e2⟩ := h3.get hs hsim
      refine ⟨Foot.none, ?_, fun _ _ h => h.elim, fun s hs => by simp at hs⟩
      rw [e1]
      exact e2.lend (fun _ _ hb => .inl hb) (fun _ _ hb => .inr (.inl hb)) (fun _ _ hb => .inr (.inr ⟨r, hr, hb.1⟩)) h4
   | const v => exact h.elim
   | global g => exact h.elim
   | func f => exact h.elim
 · obtain ⟨h1, h2, h3, h4, h5, h6⟩ := h
   have hj : ∀ j, j < m → k + j ∈ rd ∧ k + j ∉ all ∧ C.base (k + j) = k ∧ (T.at (k + j)).lendable = true := fun j hj => by
    have := List.all_eq_true.1 h5 j (by simpa using hj)
    simp only [Bool.and_eq_true, Bool.not_eq_true', beq_iff_eq] at this
    refine ⟨List.contains_iff_mem.1 this.1.1.1, fun hm => ?_, this.1.2, this.2⟩
    rw [List.contains_iff_mem.2 hm] at this
    exact absurd this.1.1.2 (by simp)
   have hpt := hsim.slot t
   rw [(hs.at_ h1).trans h3] at hpt
   have hat : ∀ j, j < m → T'.at (k + j) = T.at (k + j) := fun j hjm => hs.at_ (hj j hjm).1
   have hcell : ∀ j, j < m → ∃ u, w.cell? (loc (k + j)) = some u ∧ Hold w S C.B (inner C (F (k + j)) loc (k + j)) u (T.at (k + j)) ∧ u.oneCell' = true := fun j hjm => by
    obtain ⟨p1, p2, p3⟩ := lendable_plain (hj j hjm).2.2.2
    exact at_cell hsim (by omega) (hat j hjm) p1 p2 p3
   have hloc : ∀ j, j < m → F (k + j) (loc (k + j)).block (loc (k + j)).off ∧ loc (k + j) = (loc k).add j := fun j hjm => by
    obtain ⟨p1, _, _⟩ := lendable_plain (hj j hjm).2.2.2
    have hn : T'.at (k + j) ≠ .no := by rw [hat j hjm]; exact p1
    obtain ⟨e1, _, _, e4⟩ := hsim.cells (k + j) (by omega) hn
    obtain ⟨q1, _, _⟩ := lendable_plain (hj 0 h6).2.2.2
    obtain ⟨_, _, _, f4⟩ := hsim.cells (k + 0) (by omega) (by rw [hat 0 h6]; exact q1)
    rw [(hj 0 h6).2.2.1] at f4
    refine ⟨e1, ?_⟩
    rw [e4, (hj j hjm).2.2.1]
    simp only [Nat.add_zero] at f4
    rw [show k + j - k = j by omega]
    conv => rhs; rw [f4]
    rw [addr_add_of]
    congr 2
    omega
   have hcl : (cellsAt T k m).length = m := by simp [cellsAt]
   have hget : ∀ i c, (V.lend.go (cellsAt T k m))[i]? = some c → i < m ∧ c = (T.at (k + i)).lend := fun i c hc => by
    rw [lend_go, List.getElem?_map, Option.map_eq_some_iff] at hc
    obtain ⟨c0, hc0, rfl⟩ := hc
    have hi := (List.getElem?_eq_some_iff.1 hc0).1
    rw [hcl] at hi
    simp [cellsAt, hi] at hc0
    exact ⟨hi, by rw [hc0]⟩
   refine ⟨Foot.none, ?_, fun _ _ h => h.elim, fun s hs => by simp at hs⟩
   rw [conc_eval h2 hpt.1]
   refine .box _ _ true _ (loc k) (fun i => (w.cell? (loc (k + i))).getD undef) (fun i c hc => ?_) fun i c hc => ?_
   · obtain ⟨hi, rfl⟩ := hget i c hc
     obtain ⟨u, u1, _, u3⟩ := hcell i hi
     obtain ⟨l1, l2⟩ := hloc i hi
     rw [← l2, u1]
     exact ⟨rfl, u3, .inr ⟨rfl, .inr (.inr ⟨k + i, (hj i hi).2.1, l1⟩)⟩⟩
   · obtain ⟨hi, rfl⟩ := hget i c hc
     obtain ⟨u, u1, u2, _⟩ := hcell i hi
     rw [u1]
     exact (u2.lend (B' := reads C S F loc all) (fun _ _ hb => .inl hb) (fun _ _ hb => .inr (.inl hb)) (fun _ _ hb => .inr (.inr ⟨k + i, (hj i hi).2.1, hb.1⟩)) (hj i hi).2.2.2).mono (fun _ _ h => h) (fun _ _ h => ⟨rfl, h⟩) fun _ _ h => h
theorem argsV_get {all : List Nat} (hs : Same T T' rd) (hsim : SimB C T' a w S F loc) : ∀ (ys : List Operand) (xs : List V) (ss : List (List Nat)) (used : List Nat), argsV C T rd all used ys xs ss →
 ys.length = xs.length ∧ ∃ G : Nat → Foot, (∀ i j, i ≠ j → ∀ b o, G i b o → ¬ G j b o) ∧ (∀ i b o, G i b o → ∃ s, s ∈ all ∧ s ∉ used ∧ inner C (F s) loc s b o) ∧
  (∀ (i : Nat) (y : Operand) (x : V), ys[i]? = some y → xs[i]? = some x → Hold w S (reads C S F loc all) (G i) (a.eval y) x) ∧ ∀ s, s ∈ ss.flatten → T'.at s ≠ .no := by
 intro ys
 induction ys with
 | nil =>
  intro xs ss used h
  cases xs with
  | nil => cases ss with
   | nil => exact ⟨rfl, fun _ => Foot.none, fun _ _ _ _ _ h => h.elim, fun _ _ _ h => h.elim, fun i y x hy => by simp at hy, fun s hs => by simp at hs⟩
   | cons => exact h.elim
  | cons => cases ss <;> exact h.elim
 | cons y ys ih =>
  intro xs ss used h
  cases xs with
  | nil => cases ss <;> exact h.elim
  | cons x xs =>
   cases ss with
   | nil => exact h.elim
   | cons s ss =>
    obtain ⟨h1, h2, h3⟩ := h
    obtain ⟨G0, e1, e2, e3⟩ := argV_get h1 hs hsim
    obtain ⟨hl, G, g1, g2, g3, g4⟩ := ih xs ss (s ++ used) h3
    refine ⟨by simp [hl], fun i => match i with | 0 => G0 | i + 1 => G i, fun i j hij b o hi hj => ?_, fun i b o hi => ?_, fun i y' x' hy hx => ?_, fun t ht => ?_⟩
    · cases i with
      | zero =>
       cases j with
       | zero => exact hij rfl
       | succ j =>
        obtain ⟨t, ht, hin⟩ := e2 b o hi
        obtain ⟨t', _, hu, hin'⟩ := g2 j b o hj
        exact hsim.apart t t' (fun e => hu (by rw [← e]; exact List.mem_append_left _ ht)) b o hin.1 hin'.1
      | succ i =>
       cases j with
       | zero =>
        obtain ⟨t, ht, hin⟩ := e2 b o hj
        obtain ⟨t', _, hu, hin'⟩ := g2 i b o hi
        exact hsim.apart t t' (fun e => hu (by rw [← e]; exact List.mem_append_left _ ht)) b o hin.1 hin'.1
       | succ j => exact g1 i j (by omega) b o hi hj
    · cases i with
      | zero =>
       obtain ⟨t, ht, hin⟩ := e2 b o hi
       exact ⟨t, (h2 t ht).2, (h2 t ht).1, hin⟩
      | succ i =>
       obtain ⟨t, h4, h5, h6⟩ := g2 i b o hi
       exact ⟨t, h4, fun hu => h5 (List.mem_append_right _ hu), h6⟩
    · cases i with
      | zero => simp at hy hx; subst hy hx; exact e1
      | succ i => exact g3 i y' x' (by simpa using hy) (by simpa using hx)
    · rcases List.mem_append.1 ht with ht | ht
      · exact e3 t ht
      · exact g4 t ht
theorem argsV_ok {all : List Nat} {ys : List Operand} {xs : List V} {ss : List (List Nat)} (hs : Same T T' rd) (hsim : SimB C T' a w S F loc) (h : argsV C T rd all [] ys xs ss) :
 ∃ G : Nat → Foot, ArgsOk w S (reads C S F loc all) G (ys.map a.eval) xs ∧ (∀ i b o, G i b o → ∃ s, s ∈ all ∧ inner C (F s) loc s b o) ∧ ∀ s, s ∈ ss.flatten → T'.at s ≠ .no := by
 obtain ⟨hl, G, g1, g2, g3, g4⟩ := argsV_get hs hsim ys xs ss [] h
 refine ⟨G, ⟨by simp [hl], fun i v x hv hx => ?_, g1, fun i b o hi => ?_, fun b o hb => ?_⟩, fun i b o hi => ?_, g4⟩
 · rw [List.getElem?_map, Option.map_eq_some_iff] at hv
   obtain ⟨y, hy, rfl⟩ := hv
   exact g3 i y x hy hx
 · obtain ⟨s, hs', _, hin⟩ := g2 i b o hi
   obtain ⟨m1, m2, m3, _⟩ := hsim.mine s b o hin.1
   refine ⟨m1, fun hB => ?_, m3⟩
   rcases hB with hB | hB | ⟨r, hr, hB⟩
   · exact m1 hB
   · exact m2 hB
   · exact hsim.apart r s (fun e => hr (e ▸ hs')) b o hB hin.1
 · rcases hb with hb | hb | hb | ⟨r, _, hb⟩
   · exact hsim.stay b o (.inl hb)
   · exact hsim.stay b o (.inl hb)
   · exact hsim.stay b o (.inr hb)
   · exact (hsim.mine r b o hb).2.2.1
 · obtain ⟨s, h1, _, h2⟩ := g2 i b o hi
   exact ⟨s, h1, h2⟩
theorem call_run {f : FuncId} {ys : Array Operand} {ats : Array TypeId} (hop : o.op = .call { callee := .value (.func f), args := ys, argTypes := ats }) (hf : goesTo P f) : (execOp a.eval o).run P w = .ok (.enter f (ys.map a.eval)) w := by
 obtain ⟨fn, h1, h2, h3⟩ := hf
 have he : execOp a.eval o = callFunc f (#[] ++ ys.map a.eval ++ #[]) := by
  cases o
  simp only at hop
  subst hop
  rfl
 rw [he]
 simp only [Array.empty_append, Array.append_empty, callFunc]
 have hp : (program).run P w = .ok P w := rfl
 simp only [Sem.run_bind, hp, Result.andThen_ok, h1, h2, h3, Bool.false_eq_true, ↓reduceIte, Sem.run_pure]
theorem exec_call (f : FuncId) (ys : Array Operand) (ats : Array TypeId) (xs : List V) (ss : List (List Nat)) (outs : List V) (res : V) (hop : o.op = .call { callee := .value (.func f), args := ys, argTypes := ats }) (hf : goesTo P f) (hd : o.dst = some d) (hdn : d < C.nt) (hdl : d < T.length) (hdp : C.pin d = none)
 (hc : VC P f xs outs res) (hres : res.shrD = true) (ha : argsV C T rd ss.flatten [] ys.toList xs ss) (hsl : ∀ s, s ∈ ss.flatten → s < T.length) : Exec P C o rd T (deads ss.flatten ++ [(d, false, res)]) := by
 intro T' a w hsm ⟨S, F, loc, hsim⟩ Q K hK
 obtain ⟨G, h1, h2, h3⟩ := argsV_ok hsm hsim ha
 unfold Oper.wp
 rw [call_run hop hf, Oper.upon_enter]
 have hcall := hc w S _ G (ys.toList.map a.eval) h1
 have hys : (ys.toList.map a.eval).toArray = ys.map a.eval := by rw [← List.map_toArray, Array.toArray_toList]
 rw [hys] at hcall
 refine Calls.mono hcall fun e w' ⟨v, he, hd'⟩ => ?_
 subst he
 obtain ⟨⟨S', F', FR, d1, d2, d3, d4, d5, d6, d7⟩, dm⟩ := hd'
 show K (a.put o.dst v) w'
 rw [hd]
 refine hK _ _ (hsim.put ss.flatten d res v FR hdn (by rw [hsm.1]; exact hdl) hdp (fun s hs => by rw [hsm.1]; exact hsl s hs) ⟨dm.os, dm.tape, dm.output, dm.size, dm.keep.mono fun b o' hb => ⟨hb.1, fun i hi => ?_⟩⟩ d3 (fun b o' hb => (d4 b o' hb).imp id (Or.imp id fun ⟨i, hi⟩ => by
  obtain ⟨s, hs, hin⟩ := h2 i b o' hi
  exact ⟨s, hs, hin, fun hf => (d7 b o' (.inl hf)).1 hb⟩)) (fun b o' hb => ?_) h3 (.inl ((d1.unborrowD hres).mono (fun _ _ h => h) (fun _ _ h => h.elim) fun _ _ h => h)))
 · obtain ⟨s, hs, hin⟩ := h2 i b o' hi
   exact hb.2 s hs hin
 · rcases d7 b o' (.inl hb) with ⟨h6, ⟨i, hi⟩ | ⟨h4, h5⟩⟩
   · exact .inl (h2 i b o' hi)
   · exact .inr ⟨h4, h5, h6⟩
def argB (C : Ctx) (T : St) (rd : List Nat) (x : V) : Operand → Prop
 | .const v => lit v x
 | .tmp t => t ∈ rd ∧ t < C.nt ∧ ∃ x0, T.at t = x0 ∧ x0.free = true ∧ x0.lendable = true ∧ x = x0.lend
 | _ => False
def argsB (C : Ctx) (T : St) (rd : List Nat) : List Operand → List V → Prop
 | [], [] => True
 | y :: ys, x :: xs => argB C T rd x y ∧ argsB C T rd ys xs
 | _, _ => False
theorem argB_get {x : V} {y : Operand} (h : argB C T rd x y) (hs : Same T T' rd) (hsim : SimB C T' a w S F loc) : Hold w S (fun b o => S b o ∨ C.B b o) Foot.none (a.eval y) x := by
 cases y with
 | const v => exact lit.hold h w S _ _
 | tmp t =>
  obtain ⟨h1, h2, x0, h3, h4, h5, rfl⟩ := h
  obtain ⟨q1, q2, q3⟩ := lendable_plain h5
  have hh := (hsim.held t h2 ((hs.at_ h1).trans h3) q1 q2 q3).unfoot h4
  exact hh.lend (fun _ _ h => .inl h) (fun _ _ h => .inr h) (fun _ _ h => h.elim) h5
 | global => exact h.elim
 | func => exact h.elim
theorem argsB_get (hs : Same T T' rd) (hsim : SimB C T' a w S F loc) : ∀ (ys : List Operand) (xs : List V), argsB C T rd ys xs → ArgsOk w S (fun b o => S b o ∨ C.B b o) (fun _ => Foot.none) (ys.map a.eval) xs := by
 intro ys xs h
 have key : ∀ (ys : List Operand) (xs : List V), argsB C T rd ys xs → ys.length = xs.length ∧ ∀ (i : Nat) (v : Value) (x : V), (ys.map a.eval)[i]? = some v → xs[i]? = some x → Hold w S (fun b o => S b o ∨ C.B b o) Foot.none v x := by
  intro ys
  induction ys with
  | nil => intro xs h; cases xs with
   | nil => exact ⟨rfl, fun i v x hv => by simp at hv⟩
   | cons => exact h.elim
  | cons y ys ih => intro xs h; cases xs with
   | nil => exact h.elim
   | cons x xs =>
    obtain ⟨h1, h2⟩ := h
    obtain ⟨e1, e2⟩ := ih xs h2
    refine ⟨by simp [e1], fun i v x' hv hx => ?_⟩
    cases i with
    | zero => simp at hv hx; subst hv hx; exact argB_get h1 hs hsim
    | succ i => exact e2 i v x' (by simpa using hv) (by simpa using hx)
 obtain ⟨e1, e2⟩ := key ys xs h
 refine ⟨by simp [e1], e2, fun _ _ _ _ _ h => h.elim, fun _ _ _ h => h.elim, fun b o hb => ?_⟩
 rcases hb with hb | hb | hb
 · exact hsim.stay b o (.inl hb)
 · exact hsim.stay b o (.inl hb)
 · exact hsim.stay b o (.inr hb)
theorem exec_call_b (f : FuncId) (ys : Array Operand) (ats : Array TypeId) (xs : List V) (outs : List V) (res : V) (hop : o.op = .call { callee := .value (.func f), args := ys, argTypes := ats }) (hf : goesTo P f) (hd : o.dst = some d) (hdn : d < C.nt) (hdl : d < T.length) (hdp : C.pin d = none)
 (hc : VC P f xs outs res) (ha : argsB C T rd ys.toList xs) : Exec P C o rd T [(d, false, res)] := by
 intro T' a w hsm ⟨S, F, loc, hsim⟩ Q K hK
 have h1 := argsB_get hsm hsim _ _ ha
 unfold Oper.wp
 rw [call_run hop hf, Oper.upon_enter]
 have hcall := hc w S _ _ (ys.toList.map a.eval) h1
 have hys : (ys.toList.map a.eval).toArray = ys.map a.eval := by rw [← List.map_toArray, Array.toArray_toList]
 rw [hys] at hcall
 refine Calls.mono hcall fun e w' ⟨v, he, hd'⟩ => ?_
 subst he
 obtain ⟨⟨S', F', FR, d1, d2, d3, d4, d5, d6, d7⟩, dm⟩ := hd'
 show K (a.put o.dst v) w'
 rw [hd]
 refine hK _ _ (hsim.put [] d res v FR hdn (by rw [hsm.1]; exact hdl) hdp (fun s hs => by simp at hs) ⟨dm.os, dm.tape, dm.output, dm.size, dm.keep.mono fun b o' hb => ⟨hb.1, fun i hi => hi.elim⟩⟩ d3 (fun b o' hb => (d4 b o' hb).imp id (Or.imp id fun ⟨i, hi⟩ => hi.elim)) (fun b o' hb => ?_) (fun s hs => by simp at hs) (.inl (d1.rebase fun b o hb => hb.imp (d3 b o) id)))
 rcases d7 b o' (.inl hb) with ⟨h6, ⟨i, hi⟩ | ⟨h4, h5⟩⟩
 · exact hi.elim
 · exact .inr ⟨h4, h5, h6⟩
end
end Go.Proofs.Ytnlocbjojbgdcaa.Vm
namespace Go.Proofs.Ytnlocbjojbgdcaa.Vm
open Go
def V.frz : V → V
 | .own _ sz es => .row false sz (go2 es)
 | .obx cs => .box false (go cs)
 | .agg cs => .agg (go cs)
 | x => x
where
 go : List V → List V
  | [] => []
  | c :: cs => V.frz c :: go cs
 go2 : List (List V) → List (List V)
  | [] => []
  | e :: es => go e :: go2 es
theorem frz_go (cs : List V) : V.frz.go cs = cs.map V.frz := by
 induction cs with
 | nil => rfl
 | cons c cs ih => simp [V.frz.go, ih]
theorem frz_go2 (es : List (List V)) : V.frz.go2 es = es.map (·.map V.frz) := by
 induction es with
 | nil => rfl
 | cons c cs ih => simp [V.frz.go2, ih, frz_go]
def V.freezable : V → Bool
 | .iter _ _ | .at_ _ | .al _ _ | .ref _ _ _ _ _ | .vw _ _ _ _ _ | .no | .tup _ => false
 | .own _ _ es => go2 es
 | .obx cs | .agg cs => go cs
 | _ => true
where
 go : List V → Bool
  | [] => true
  | c :: cs => V.freezable c && go cs
 go2 : List (List V) → Bool
  | [] => true
  | e :: es => go e && go2 es
theorem freezable_go {cs : List V} (h : V.freezable.go cs = true) {i : Nat} {c : V} (hc : cs[i]? = some c) : c.freezable = true := by
 induction cs generalizing i with
 | nil => simp at hc
 | cons x cs ih =>
  simp only [V.freezable.go, Bool.and_eq_true] at h
  cases i with
  | zero => simp at hc; subst hc; exact h.1
  | succ i => exact ih h.2 (by simpa using hc)
theorem freezable_go2 {es : List (List V)} (h : V.freezable.go2 es = true) {j : Nat} {e : List V} (he : es[j]? = some e) : V.freezable.go e = true := by
 induction es generalizing j with
 | nil => simp at he
 | cons x es ih =>
  simp only [V.freezable.go2, Bool.and_eq_true] at h
  cases j with
  | zero => simp at he; subst he; exact h.1
  | succ j => exact ih h.2 (by simpa using he)
theorem Hold.frz {w : World} {S B : Foot} {F : Foot} {v : Value} {x : V} (h : Hold w S B F v x) : ∀ {S' : Foot}, (∀ b o, S b o → S' b o) → (∀ b o, F b o → S' b o) → x.freezable = true → Hold w S' B Foot.none v x.frz := by
 have gcs : ∀ {cs : List V} {i : Nat} {c : V}, (V.frz.go cs)[i]? = some c → ∃ c0, cs[i]? = some c0 ∧ c = c0.frz := fun {cs i c} hc => by
  rw [frz_go, List.getElem?_map, Option.map_eq_some_iff] at hc
  obtain ⟨c0, h1, h2⟩ := hc
  exact ⟨c0, h1, h2.symm⟩
 have ges : ∀ {es : List (List V)} {j : Nat} {e : List V}, (V.frz.go2 es)[j]? = some e → ∃ e0, es[j]? = some e0 ∧ e = V.frz.go e0 := fun {es j e} he => by
  rw [frz_go2, List.getElem?_map, Option.map_eq_some_iff] at he
  obtain ⟨e0, h1, h2⟩ := he
  exact ⟨e0, h1, by rw [frz_go, h2]⟩
 have glen : ∀ {es : List (List V)} {sz : Nat}, (∀ e, e ∈ es → e.length = sz) → ∀ e, e ∈ V.frz.go2 es → e.length = sz := fun {es sz} hz e he => by
  rw [frz_go2] at he
  obtain ⟨e0, h1, rfl⟩ := List.mem_map.1 he
  simpa using hz e0 h1
 have gl : ∀ (es : List (List V)), (V.frz.go2 es).length = es.length := fun es => by rw [frz_go2]; simp
 induction h with
 | dead => intros; exact .dead ..
 | sc => intros; exact .sc ..
 | agg B F vs cs G hn hs h1 hi ih =>
  intro S' s1 s3 hl
  refine .agg _ _ vs _ (fun _ => Foot.none) (by rw [hn, frz_go]; simp) (Split.none _) (fun i u c hu hc => ?_) fun i u c hu hc => ?_
  · obtain ⟨c0, hc0, rfl⟩ := gcs hc
    exact h1 i u c0 hu hc0
  · obtain ⟨c0, hc0, rfl⟩ := gcs hc
    exact ih i u c0 hu hc0 s1 (fun b o hb => s3 b o (hs.sub _ _ _ hb)) (freezable_go hl hc0)
 | tup => intro S' _ _ hl; simp [V.freezable] at hl
 | row B F x sz es A cap U hz hc hm ha h1 hi ih =>
  intro S' s1 s3 hl
  exact (Hold.row _ Foot.none x sz es A cap U hz hc hm ha h1 hi : Hold w S B Foot.none _ _).mono s1 (fun _ _ h => h) fun _ _ h => h
 | own B F E sz v es us G hz hp ho hF hs hG h1 hi ih =>
  intro S' s1 s3 hl
  have hoc : ∃ A cap, v = .slice A es.length cap ∧ es.length ≤ cap ∧ es.length ≤ 9223372036854775807 ∧ (0 < es.length → ∃ b, A = some ⟨b, 0, none⟩ ∧ v.ownBlock = some b) ∧ ∀ (b : Nat) k u, A = some ⟨b, 0, none⟩ → us[k]? = some u → w.cell? ⟨b, k, none⟩ = some u := by
   rcases ho.2 with ⟨rfl, h0⟩ | ⟨g, cap, cur, rfl, _, hg, hnc, hcm, _, _⟩
   · exact ⟨none, 0, by rw [h0], by omega, by omega, fun h => by omega, fun b k u e => by cases e⟩
   · refine ⟨_, cap, rfl, hnc, by simp only [maxLen] at hcm; omega, fun _ => ⟨g, rfl, rfl⟩, fun b k u e hu => ?_⟩
     injection e with e
     injection e with e
     subst e
     have := ho.cells (g := g) rfl k u hu
     rw [addr_add_of, Nat.zero_add] at this
     exact this
  obtain ⟨A, cap, rfl, hc, hm, ha, hcell⟩ := hoc
  have hget : ∀ j i e c, es[j]? = some e → e[i]? = some c → ∃ u, us[j * sz + i]? = some u := fun j i e c he hc => by
   have hj := (List.getElem?_eq_some_iff.1 he).1
   have hil := (List.getElem?_eq_some_iff.1 hc).1
   rw [hz e (List.mem_of_getElem? he)] at hil
   have hlt : j * sz + i < us.length := by
    rw [ho.1]
    calc j * sz + i < j * sz + sz := by omega
     _ = (j + 1) * sz := by rw [Nat.succ_mul]
     _ ≤ es.length * sz := Nat.mul_le_mul_right _ hj
   exact ⟨_, List.getElem?_eq_getElem hlt⟩
  have := Hold.row (w := w) (S := S') B Foot.none false sz (V.frz.go2 es) A cap (fun k => us.getD k undef) (glen hz) (by rw [gl]; exact hc) (by rw [gl]; exact hm) (fun hp => by
   rw [gl] at hp
   obtain ⟨b, rfl, hb⟩ := ha hp
   exact ⟨_, rfl⟩) (fun a j i e c hA he hc => by
   obtain ⟨e0, he0, rfl⟩ := ges he
   obtain ⟨c0, hc0, rfl⟩ := gcs hc
   obtain ⟨u, hu⟩ := hget j i e0 c0 he0 hc0
   obtain ⟨b, e, hvb⟩ := ha (by have := (List.getElem?_eq_some_iff.1 he0).1; omega)
   rw [hA] at e
   injection e with e
   subst e
   rw [addr_add_of, Nat.zero_add, hcell b _ u hA hu]
   simp only [List.getD_eq_getElem?_getD, hu, Option.getD_some, true_and]
   exact ⟨h1 u (List.mem_of_getElem? hu), .inl (s3 _ _ (hF b hvb _))⟩) fun j i e c he hc => by
   obtain ⟨e0, he0, rfl⟩ := ges he
   obtain ⟨c0, hc0, rfl⟩ := gcs hc
   obtain ⟨u, hu⟩ := hget j i e0 c0 he0 hc0
   simp only [List.getD_eq_getElem?_getD, hu, Option.getD_some]
   exact (ih j i e0 c0 u he0 hc0 hu s1 (fun b o hb => s3 b o (hs.sub _ _ _ hb)) (freezable_go (freezable_go2 hl he0) hc0)).mono (fun _ _ h => h) (fun _ _ h => h.elim) fun _ _ h => h
  rw [gl] at this
  exact this
 | box B F x cs a U h1 hi ih =>
  intro S' s1 s3 hl
  exact (Hold.box _ Foot.none x cs a U h1 hi : Hold w S B Foot.none _ _).mono s1 (fun _ _ h => h) fun _ _ h => h
 | obx B F cs b o U G hs hF hG h1 hi ih =>
  intro S' s1 s3 hl
  refine .box _ _ false _ _ U (fun i c hc => ?_) fun i c hc => ?_
  · obtain ⟨c0, hc0, rfl⟩ := gcs hc
    obtain ⟨q1, q2, q3⟩ := h1 i c0 hc0
    rw [addr_add_of]
    exact ⟨q1, q3, .inl (s3 _ _ (hF i (List.getElem?_eq_some_iff.1 hc0).1))⟩
  · obtain ⟨c0, hc0, rfl⟩ := gcs hc
    exact (ih i c0 hc0 s1 (fun b o hb => s3 b o (hs.sub _ _ _ hb)) (freezable_go hl hc0)).mono (fun _ _ h => h) (fun _ _ h => h.elim) fun _ _ h => h
 | iter => intro S' _ _ hl; simp [V.freezable] at hl
theorem freezable_plain {x : V} (h : x.freezable = true) : x ≠ .no ∧ (∀ k, x ≠ .at_ k) ∧ x.root = none := by
 cases x <;> first | (simp [V.freezable] at h; done) | exact ⟨by simp, fun _ => by simp, rfl⟩
theorem St.app_one (T : St) (s : Nat) (x : V) (hs : s < T.length) : (T.app [(s, false, x)]).at s = x := St.at_last T [] s false x hs
theorem weak_frz {C : Ctx} {T : St} (s : Nat) (x : V) (hsl : s < T.length) (hx : T.at s = x) (hf : x.freezable = true) : Weak C T (T.app [(s, false, x.frz)]) := fun a w ⟨S, F, loc, h⟩ => by
 obtain ⟨p1, p2, p3⟩ := freezable_plain hf
 have hsl0 := h.slot s
 rw [hx] at hsl0
 obtain ⟨v, h1, h2⟩ := hsl0.held p1 p2 p3
 have hat : (T.app [(s, false, x.frz)]).at s = x.frz := St.app_one T s _ hsl
 have hgl : T.gen s < St.gen (T.app [(s, false, x.frz)]) s := St.gen_lt T _ s hsl ⟨x.frz, by simp⟩
 have hz := h2.frz (S' := fun b o => S b o ∨ inner C (F s) loc s b o) (fun _ _ h => .inl h) (fun _ _ h => .inr h) hf
 have hpl := hold_plain hz
 have hnot : ∀ t, t ∉ [s] → (T.app [(s, false, x.frz)]).getD t (0, .no) = T.getD t (0, .no) := fun t ht => St.app_not T _ t (by simpa using ht)
 refine ⟨fun b o => S b o ∨ inner C (F s) loc s b o, fun t => if t = s then (fun b o => C.nt ≤ s ∧ b = (loc s).block ∧ o = (loc s).off) else F t, loc,
  h.upd [s] hnot rfl h.defers h.pins (.refl _ _) (fun _ _ h => .inl h) (fun b o hb => ?_) (fun t ht => if_neg (by simpa using ht)) (fun k hk => ⟨rfl, ?_⟩) (fun _ _ _ _ => rfl) (fun _ _ _ => rfl) (fun r hr he _ => ?_) (fun r hr => ?_) (fun s' t hs' hst b o hb hb' => ?_) (fun s' hs' b o hb => ?_) (fun s' hs' r g hr => ?_) (fun s' hs' => ?_) (fun s' hs' hn hx' => ?_)⟩
 · rcases hb with hb | hb
   · exact .inl hb
   · exact .inr (.inr ⟨s, by simp, hb.1⟩)
 · by_cases hks : k = s
   · subst hks; rw [hat]; exact hpl.1
   · have := hnot k (by simpa using hks)
     unfold St.at
     rw [this]
     exact hk
 · rfl
 · obtain rfl : r = s := by simpa using hr
   exact Nat.le_of_lt hgl
 · obtain rfl : s' = s := by simpa using hs'
   simp only [↓reduceIte] at hb
   rw [if_neg (Ne.symm hst)] at hb'
   obtain ⟨hn, rfl, rfl⟩ := hb
   exact h.apart s' t hst _ _ (h.cells s' hn (by rw [hx]; exact p1)).1 hb'
 · obtain rfl : s' = s := by simpa using hs'
   simp only [↓reduceIte] at hb
   obtain ⟨hn, rfl, rfl⟩ := hb
   obtain ⟨m1, m2, m3, m4⟩ := h.mine s' _ _ (h.cells s' hn (by rw [hx]; exact p1)).1
   exact ⟨fun hS => hS.elim m1 fun hi => hi.2 ⟨hn, rfl, rfl⟩, m2, m3, m4⟩
 · obtain rfl : s' = s := by simpa using hs'
   rw [hat, hpl.2.2] at hr
   cases hr
 · obtain rfl : s' = s := by simpa using hs'
   rw [hat]
   exact SlotOk.plain ⟨v, h1, hz.mono (fun _ _ h => h) (fun _ _ h => h) fun _ _ h => h.elim⟩
 · obtain rfl : s' = s := by simpa using hs'
   obtain ⟨e1, e2, e3, e4⟩ := h.cells s' hn (by rw [hx]; exact p1)
   exact ⟨by simp only [↓reduceIte]; exact ⟨hn, trivial, trivial⟩, e2, e3, e4⟩
end Go.Proofs.Ytnlocbjojbgdcaa.Vm
namespace Go.Proofs.Ytnlocbjojbgdcaa.Vm
open Go
theorem weak_open {C : Ctx} {T : St} (s k : Nat) (cs : List V) (hsl : s < T.length) (hx : T.at s = .obx cs) (hk : C.nt ≤ k) (hkl : k + cs.length ≤ T.length) (hpos : 0 < cs.length) (hno : ∀ j, j < cs.length → T.at (k + j) = .no ∧ C.base (k + j) = k)
 (hgrp : ∀ s, k ≤ C.base s → C.base s < k + cs.length → k ≤ s ∧ s < k + cs.length) : Weak C T (T.app (stores k cs ++ [(s, false, .at_ k)])) := fun a w ⟨S, F, loc, h⟩ => by
 have hsl0 := h.slot s
 rw [hx] at hsl0
 obtain ⟨v, h1, h2⟩ := hsl0.held (by simp) (fun _ => by simp) rfl
 generalize hIF : inner C (F s) loc s = IF at h2
 cases h2 with
 | obx _ _ _ b o U G hs hF hG hc hi =>
 subst hIF
 have hal : ∀ t, T.at t ≠ .no → ¬ (k ≤ t ∧ t < k + cs.length) := fun t ht e => ht (by have := (hno (t - k) (by omega)).1; rwa [show k + (t - k) = t by omega] at this)
 have hsk := hal s (by rw [hx]; simp)
 have hats : (T.app (stores k cs ++ [(s, false, .at_ k)])).at s = .at_ k := St.at_last T _ s false _ hsl
 have hatk : ∀ j c, cs[j]? = some c → (T.app (stores k cs ++ [(s, false, .at_ k)])).at (k + j) = c := fun j c hc => by
  have hj := (List.getElem?_eq_some_iff.1 hc).1
  rw [St.at_mid T _ _ _ _ _ (by omega : s ≠ k + j)]
  exact St.at_stores T k cs j c hc hkl
 have hW : ∀ t, t ∈ (stores k cs ++ [(s, false, V.at_ k)]).map (·.1) ↔ (k ≤ t ∧ t < k + cs.length) ∨ t = s := fun t => by
  rw [List.map_append, List.mem_append, stores_fst]
  simp only [List.mem_map, List.mem_range, List.map_cons, List.map_nil, List.mem_singleton]
  constructor
  · rintro (⟨j, hj, rfl⟩ | h)
    · exact .inl (by omega)
    · exact .inr h
  · rintro (h | h)
    · exact .inl ⟨t - k, by omega, by omega⟩
    · exact .inr h
 have hgl : ∀ t, t ∈ (stores k cs ++ [(s, false, V.at_ k)]).map (·.1) → T.gen t < St.gen (T.app (stores k cs ++ [(s, false, V.at_ k)])) t := fun t ht => by
  rcases (hW t).1 ht with ht | rfl
  · obtain ⟨x, hx⟩ := mem_stores k cs (t - k) (by omega)
    rw [show k + (t - k) = t by omega] at hx
    exact St.gen_lt T _ _ (by omega) ⟨x, by simp [hx]⟩
  · exact St.gen_lt T _ _ hsl ⟨.at_ k, by simp⟩
 have hnot : ∀ t, t ∉ (stores k cs ++ [(s, false, V.at_ k)]).map (·.1) → (T.app (stores k cs ++ [(s, false, V.at_ k)])).getD t (0, .no) = T.getD t (0, .no) := fun t ht => St.app_not T _ t ht
 have hget : ∀ j, j < cs.length → ∃ c, cs[j]? = some c := fun j hj => ⟨_, List.getElem?_eq_getElem hj⟩
 have hpl : ∀ (j : Nat) (c : V), cs[j]? = some c → c ≠ .no ∧ (∀ i, c ≠ .at_ i) ∧ c.root = none := fun j c hc => hold_plain (hi j c hc)
 have hatn : ∀ t, T.at t ≠ .no → (T.app (stores k cs ++ [(s, false, V.at_ k)])).at t ≠ .no := fun t ht => by
  by_cases hts : t = s
  · subst hts; rw [hats]; simp
  · have := hnot t (fun hm => ((hW t).1 hm).elim (hal t ht) hts)
    unfold St.at
    rw [this]
    exact ht
 have hlo : ∀ t, T.at t ≠ .no → (if k ≤ t ∧ t < k + cs.length then (⟨b, o + (t - k), none⟩ : Addr) else loc t) = loc t := fun t ht => if_neg (hal t ht)
 have hlock : ∀ j, j < cs.length → (if k ≤ k + j ∧ k + j < k + cs.length then (⟨b, o + (k + j - k), none⟩ : Addr) else loc (k + j)) = ⟨b, o + j, none⟩ := fun j hj => by
  rw [if_pos (by omega)]
  congr 2
  omega
 have hsub : ∀ j b' o', (b' = b ∧ o' = o + j ∧ j < cs.length) ∨ G j b' o' → inner C (F s) loc s b' o' := fun j b' o' hb => by
  rcases hb with ⟨rfl, rfl, hj⟩ | hb
  · exact hF j hj
  · exact hs.sub _ _ _ hb
 have part : ∀ t b' o', (if t = s then (fun b o => C.nt ≤ s ∧ b = (loc s).block ∧ o = (loc s).off) else if k ≤ t ∧ t < k + cs.length then (fun b' o' => (b' = b ∧ o' = o + (t - k) ∧ t - k < cs.length) ∨ G (t - k) b' o') else F t : Foot) b' o' →
  (F t b' o' ∧ ¬ inner C (F s) loc s b' o') ∨ (k ≤ t ∧ t < k + cs.length ∧ ((b' = b ∧ o' = o + (t - k) ∧ t - k < cs.length) ∨ G (t - k) b' o')) := fun t b' o' hb => by
  by_cases h0 : t = s
  · subst h0
    simp only [↓reduceIte] at hb
    obtain ⟨hn, rfl, rfl⟩ := hb
    exact .inl ⟨(h.cells t hn (by rw [hx]; simp)).1, fun hi => hi.2 ⟨hn, rfl, rfl⟩⟩
  · rw [if_neg h0] at hb
    by_cases h3 : k ≤ t ∧ t < k + cs.length
    · rw [if_pos h3] at hb
      exact .inr ⟨h3.1, h3.2, hb⟩
    · rw [if_neg h3] at hb
      exact .inl ⟨hb, fun hi => h.apart t s h0 _ _ hb hi.1⟩
 refine ⟨S, fun t => if t = s then (fun b o => C.nt ≤ s ∧ b = (loc s).block ∧ o = (loc s).off) else if k ≤ t ∧ t < k + cs.length then (fun b' o' => (b' = b ∧ o' = o + (t - k) ∧ t - k < cs.length) ∨ G (t - k) b' o') else F t,
  fun t => if k ≤ t ∧ t < k + cs.length then ⟨b, o + (t - k), none⟩ else loc t,
  h.upd ((stores k cs ++ [(s, false, V.at_ k)]).map (·.1)) hnot rfl h.defers h.pins (.refl _ _) (fun _ _ h => h) (fun _ _ h => .inl h) (fun t ht => ?_) (fun t ht => ⟨hlo t ht, hatn t ht⟩) (fun t hns ht hx' => ?_) (fun _ _ _ => rfl)
  (fun r hr he _ => absurd he (by have := hgl r hr; omega)) (fun r hr => Nat.le_of_lt (hgl r hr)) (fun t t' ht hst b' o' hb hb' => ?_) (fun t ht b' o' hb => ?_) (fun t ht r g hr => ?_) (fun t ht => ?_) (fun t ht hns hx' => ?_)⟩
 · have ht' := fun hh => ht ((hW t).2 hh)
   have e1 : t ≠ s := fun e => ht' (.inr e)
   have e3 : ¬ (k ≤ t ∧ t < k + cs.length) := fun e => ht' (.inl e)
   simp [e1, e3]
 · refine if_neg fun e => ?_
   exact hal t hx' (hgrp t e.1 e.2)
 · rcases part t b' o' hb with ⟨p1, p2⟩ | ⟨p1, p2, p3⟩ <;> rcases part t' b' o' hb' with ⟨q1, q2⟩ | ⟨q1, q2, q3⟩
   · exact h.apart t t' hst _ _ p1 q1
   · exact p2 (hsub _ _ _ q3)
   · exact q2 (hsub _ _ _ p3)
   · rcases p3 with ⟨rfl, rfl, p4⟩ | p3 <;> rcases q3 with ⟨e1, e2, e3⟩ | q3
     · omega
     · exact hG _ (t - k) p4 q3
     · subst e1 e2
       exact hG _ (t' - k) e3 p3
     · exact hs.apart (t - k) (t' - k) (by omega) _ _ p3 q3
 · have : ∃ t, F t b' o' := by
    rcases part t b' o' hb with ⟨p1, _⟩ | ⟨_, _, p3⟩
    · exact ⟨t, p1⟩
    · exact ⟨s, (hsub _ _ _ p3).1⟩
   obtain ⟨t, ht⟩ := this
   exact h.mine t b' o' ht
 · rcases (hW t).1 ht with ht | rfl
   · obtain ⟨c, hc'⟩ := hget (t - k) (by omega)
     have := hatk _ c hc'
     rw [show k + (t - k) = t by omega] at this
     rw [this, (hpl _ c hc').2.2] at hr
     simp at hr
   · rw [hats] at hr; simp [V.root] at hr
 · rcases (hW t).1 ht with ht | rfl
   · obtain ⟨j, rfl⟩ : ∃ j, t = k + j := ⟨t - k, by omega⟩
     have hj : j < cs.length := by omega
     obtain ⟨c, hc'⟩ := hget j hj
     obtain ⟨e1, e2, e3⟩ := hc j c hc'
     rw [hatk j c hc']
     refine SlotOk.plain ⟨U j, ?_, ?_⟩
     · unfold conc
       rw [if_neg (by omega)]
       show w.cell? (if _ then _ else _) = _
       rw [hlock j hj]
       exact e1
     · refine (hi j c hc').mono (fun _ _ h => h) (fun _ _ h => h.elim) fun b' o' hg => ⟨?_, fun hcl => ?_⟩
       · rw [if_neg (fun e => hsk ⟨by omega, by omega⟩), if_pos (by omega)]
         exact .inr (by rw [show k + j - k = j by omega]; exact hg)
       · simp only [hlock j hj] at hcl
         obtain ⟨_, rfl, rfl⟩ := hcl
         exact hG j j hj hg
   · rw [hats]
     refine ⟨?_, hk, ?_⟩
     · have h0 := hlock 0 hpos
       simp only [Nat.add_zero] at h0
       unfold conc at h1 ⊢
       show _ = some (Value.pointer (some (if _ then _ else _)))
       rw [h0]
       split
       · rename_i hlt
         rw [if_pos hlt] at h1
         exact h1
       · rename_i hge
         rw [if_neg hge] at h1
         show w.cell? (if _ then _ else _) = _
         rw [if_neg hsk]
         exact h1
     · obtain ⟨c, hc'⟩ := hget 0 hpos
       have := hatk 0 c hc'
       rw [Nat.add_zero] at this
       rw [this]
       exact (hpl 0 c hc').1
 · rcases (hW t).1 ht with ht | rfl
   · obtain ⟨j, rfl⟩ : ∃ j, t = k + j := ⟨t - k, by omega⟩
     have hj : j < cs.length := by omega
     obtain ⟨c, hc'⟩ := hget j hj
     obtain ⟨e1, e2, e3⟩ := hc j c hc'
     have h0 := hlock 0 hpos
     simp only [Nat.add_zero] at h0
     simp only [hlock j hj, (hno j hj).2, h0]
     refine ⟨by rw [if_neg (fun e => hsk ⟨by omega, by omega⟩), if_pos (by omega)]; exact .inl ⟨rfl, by omega, by omega⟩, e2, ⟨U j, e1, e3⟩, by congr 1; omega⟩
   · obtain ⟨e1, e2, e3, e4⟩ := h.cells t hns (by rw [hx]; simp)
     have hb : (if k ≤ C.base t ∧ C.base t < k + cs.length then (⟨b, o + (C.base t - k), none⟩ : Addr) else loc (C.base t)) = loc (C.base t) := if_neg fun e => hsk (hgrp t e.1 e.2)
     simp only [if_neg hsk, hb]
     exact ⟨by simp only [↓reduceIte]; exact ⟨hns, trivial, trivial⟩, e2, e3, e4⟩
end Go.Proofs.Ytnlocbjojbgdcaa.Vm
namespace Go.Proofs.Ytnlocbjojbgdcaa.Vm
open Go
def V.plainB : V → Bool
 | .no | .at_ _ | .al _ _ | .ref _ _ _ _ _ | .vw _ _ _ _ _ => false
 | _ => true
theorem V.plainB_of {x : V} (h : x.plainB = true) : x ≠ .no ∧ (∀ k, x ≠ .at_ k) ∧ x.root = none := by
 cases x <;> first | (simp [V.plainB] at h; done) | exact ⟨by simp, fun _ => by simp, rfl⟩
def closeL (s k m : Nat) : List (Nat × V) → List (Nat × V)
 | [] => []
 | p :: l => if p.1 = s ∨ (k ≤ p.1 ∧ p.1 < k + m) then closeL s k m l else p :: closeL s k m l
def V.tgt : V → Option Nat
 | .at_ j => some j
 | .al r _ => some r
 | .ref r _ _ _ _ => some r
 | .vw r _ _ _ _ => some r
 | _ => none
theorem V.tgt_root {x : V} {r g : Nat} (h : x.root = some (r, g)) : x.tgt = some r := by
 cases x <;> simp [V.root] at h <;> simp [V.tgt, h]
def closeOk (s k m : Nat) : List (Nat × V) → Bool
 | [] => true
 | p :: l => (decide (p.1 = s) || decide (k ≤ p.1 ∧ p.1 < k + m) || match p.2.tgt with
  | some j => !decide (k ≤ j ∧ j < k + m)
  | none => true) && closeOk s k m l
theorem look_closeL {s k m : Nat} {l : List (Nat × V)} {t : Nat} {d : V} : look (closeL s k m l) t d = if t = s ∨ (k ≤ t ∧ t < k + m) then d else look l t d := by
 induction l with
 | nil => simp [closeL, look]
 | cons p l ih =>
  simp only [closeL]
  by_cases hp : p.1 = s ∨ (k ≤ p.1 ∧ p.1 < k + m)
  · rw [if_pos hp, ih]
    by_cases ht : t = s ∨ (k ≤ t ∧ t < k + m)
    · rw [if_pos ht, if_pos ht]
    · rw [if_neg ht, if_neg ht]
      simp only [look]
      rw [if_neg (fun e => ht (by rw [← e]; exact hp))]
  · rw [if_neg hp]
    simp only [look]
    by_cases he : p.1 = t
    · rw [if_pos he, if_pos he, if_neg (fun e => hp (by rw [he]; exact e))]
    · rw [if_neg he, if_neg he, ih]
theorem closeOk_get {s k m : Nat} {l : List (Nat × V)} (h : closeOk s k m l = true) {t : Nat} {x : V} (ht : ¬ (t = s ∨ (k ≤ t ∧ t < k + m))) (hm : (t, x) ∈ l) : ∀ j, x.tgt = some j → ¬ (k ≤ j ∧ j < k + m) := by
 induction l with
 | nil => simp at hm
 | cons p l ih =>
  simp only [closeOk, Bool.and_eq_true] at h
  rcases List.mem_cons.1 hm with rfl | hm
  · intro j e
    have h1 := h.1
    have e1 : decide (t = s) = false := decide_eq_false fun e => ht (.inl e)
    have e2 : decide (k ≤ t ∧ t < k + m) = false := decide_eq_false fun e => ht (.inr e)
    simp only [e1, e2, Bool.false_or, e, Bool.not_eq_true', decide_eq_false_iff_not] at h1
    exact h1
  · exact ih h.2 hm
theorem weak_close {C : Ctx} {n k m s : Nat} {l : List (Nat × V)} (hsn : s < n) (hs : look l s (if s < C.nt then .dead else .no) = .at_ k) (hk : C.nt ≤ k) (hkm : k + m ≤ n) (hpos : 0 < m) (hb : ∀ j, j < m → C.base (k + j) = k)
 (hp : ((List.range m).all fun j => (look l (k + j) .no).plainB && (look l (k + j) .no).shr) = true) (hc : closeOk s k m l = true) :
 Weak C (mkT n C.nt l) (mkT n C.nt ((s, .obx ((List.range m).map fun j => look l (k + j) .no)) :: closeL s k m l)) := fun a w ⟨S, F, loc, h⟩ => by
 have hatk : ∀ j, j < m → (mkT n C.nt l).at (k + j) = look l (k + j) .no := fun j hj => by
  rw [mkT_at, if_pos (by omega), if_neg (by omega)]
 have hats : (mkT n C.nt l).at s = .at_ k := by rw [mkT_at, if_pos hsn, hs]
 have hpl : ∀ j, j < m → (look l (k + j) .no).plainB = true ∧ (look l (k + j) .no).shr = true := fun j hj => by
  have := List.all_eq_true.1 hp j (by simpa using hj)
  simpa using this
 have hsk : ¬ (k ≤ s ∧ s < k + m) := fun e => by
  have h1 := hatk (s - k) (by omega)
  rw [show k + (s - k) = s by omega, hats] at h1
  have := (hpl (s - k) (by omega)).1
  rw [show k + (s - k) = s by omega, ← h1] at this
  simp [V.plainB] at this
 have hnew : ∀ t, (mkT n C.nt ((s, .obx ((List.range m).map fun j => look l (k + j) .no)) :: closeL s k m l)).at t = if t = s then .obx ((List.range m).map fun j => look l (k + j) .no) else if k ≤ t ∧ t < k + m then .no else (mkT n C.nt l).at t := fun t => by
  rw [mkT_at, mkT_at]
  simp only [look]
  by_cases hts : t = s
  · subst hts; simp [hsn]
  · rw [if_neg (Ne.symm hts), if_neg hts, look_closeL]
    by_cases htk : k ≤ t ∧ t < k + m
    · simp only [if_pos (show t = s ∨ (k ≤ t ∧ t < k + m) from .inr htk), if_pos htk, if_neg (show ¬ t < C.nt by omega), ite_self]
    · simp only [if_neg (show ¬ (t = s ∨ (k ≤ t ∧ t < k + m)) from fun e => e.elim hts htk), if_neg htk]
 have hpt : ∀ t, t ≠ s → ¬ (k ≤ t ∧ t < k + m) → ∀ j, ((mkT n C.nt l).at t).tgt = some j → ¬ (k ≤ j ∧ j < k + m) := fun t hts htk => by
  rw [mkT_at]
  split
  · rcases look_mem (l := l) (s := t) (d := if t < C.nt then .dead else .no) with he | he
    · rw [he]
      intro j e
      split at e <;> simp [V.tgt] at e
    · exact closeOk_get hc (fun e => e.elim hts htk) he
  · intro j e
    simp [V.tgt] at e
 have hcellk : ∀ j, j < m → F (k + j) (loc (k + j)).block (loc (k + j)).off ∧ w.frozen? (loc (k + j)) = false ∧ (∃ u, w.cell? (loc (k + j)) = some u ∧ u.oneCell' = true) ∧ loc (k + j) = ⟨(loc k).block, (loc k).off + j, none⟩ := fun j hj => by
  obtain ⟨e1, e2, e3, e4⟩ := h.cells (k + j) (by omega) (by rw [hatk j hj]; exact (V.plainB_of (hpl j hj).1).1)
  refine ⟨e1, e2, e3, ?_⟩
  rw [e4, hb j hj]
  congr 2
  omega
 have hk0 := (hcellk 0 hpos).2.2.2
 simp only [Nat.add_zero] at hk0
 have hnt0 : ∀ t, t ≠ s → ¬ (k ≤ t ∧ t < k + m) → (mkT n C.nt l).at t ≠ .no → (mkT n C.nt ((s, .obx ((List.range m).map fun j => look l (k + j) .no)) :: closeL s k m l)).at t ≠ .no := fun t h1 h2 h3 => by rw [hnew, if_neg h1, if_neg h2]; exact h3
 have hthere : ∀ r, (r < C.nt ∨ (mkT n C.nt l).at r ≠ .no) → ¬ (k ≤ r ∧ r < k + m) → (r < C.nt ∨ (mkT n C.nt ((s, .obx ((List.range m).map fun j => look l (k + j) .no)) :: closeL s k m l)).at r ≠ .no) := fun r hr hrk => hr.imp id fun hr => by
  by_cases hrs : r = s
  · subst hrs; rw [hnew, if_pos rfl]; simp
  · exact hnt0 r hrs hrk hr
 have hF' : ∀ t b o, (if t = s then (fun b o => F s b o ∨ ∃ j, j < m ∧ F (k + j) b o) else if k ≤ t ∧ t < k + m then Foot.none else F t : Foot) b o → (t = s ∧ ∃ j, j < m ∧ F (k + j) b o) ∨ (F t b o ∧ ¬ (k ≤ t ∧ t < k + m)) := fun t b o hb => by
  by_cases hts : t = s
  · subst hts
    simp only [↓reduceIte] at hb
    rcases hb with hb | hb
    · exact .inr ⟨hb, hsk⟩
    · exact .inl ⟨rfl, hb⟩
  · rw [if_neg hts] at hb
    by_cases htk : k ≤ t ∧ t < k + m
    · rw [if_pos htk] at hb; exact hb.elim
    · rw [if_neg htk] at hb; exact .inr ⟨hb, htk⟩
 have ingrp : ∀ t b o j, F t b o → ¬ (k ≤ t ∧ t < k + m) → j < m → ¬ F (k + j) b o := fun t b o j h1 h2 hj => h.apart t (k + j) (fun e => h2 (by omega)) b o h1
 have hslots : ∃ v, conc C a w loc s = some v ∧ v = .pointer (some (loc k)) := by
  have := h.slot s
  rw [hats] at this
  exact ⟨_, this.1, rfl⟩
 refine ⟨S, fun t => if t = s then (fun b o => F s b o ∨ ∃ j, j < m ∧ F (k + j) b o) else if k ≤ t ∧ t < k + m then Foot.none else F t, loc, h.size, h.defers, h.pins, h.world, h.sub, h.from_, h.stay, fun t t' htt b o hb hb' => ?_, fun t b o hb => ?_, fun t r g hr => ?_, fun t => ?_, fun t hns hx => ?_⟩
 · rcases hF' t b o hb with ⟨rfl, j, hj, p⟩ | ⟨p1, p2⟩ <;> rcases hF' t' b o hb' with ⟨rfl, j', hj', q⟩ | ⟨q1, q2⟩
   · exact htt rfl
   · exact ingrp t' b o j q1 q2 hj p
   · exact ingrp t b o j' p1 p2 hj' q
   · exact h.apart t t' htt b o p1 q1
 · rcases hF' t b o hb with ⟨_, j, _, p⟩ | ⟨p, _⟩
   · exact h.mine _ b o p
   · exact h.mine _ b o p
 · rw [hnew] at hr
   rw [mkT_gen]
   by_cases hts : t = s
   · rw [if_pos hts] at hr; simp [V.root] at hr
   · rw [if_neg hts] at hr
     by_cases htk : k ≤ t ∧ t < k + m
     · rw [if_pos htk] at hr; simp [V.root] at hr
     · rw [if_neg htk] at hr
       obtain ⟨e1, e2⟩ := h.ages t r g hr
       rw [mkT_gen] at e1
       exact ⟨e1, hthere r e2 (hpt t hts htk r (V.tgt_root hr))⟩
 · rw [hnew]
   by_cases hts : t = s
   · subst hts
     simp only [↓reduceIte]
     obtain ⟨v, e1, rfl⟩ := hslots
     refine SlotOk.plain ⟨_, e1, ?_⟩
     rw [hk0]
     have hval : ∀ j, j < m → ∃ u, w.cell? (loc (k + j)) = some u ∧ Hold w S C.B (inner C (F (k + j)) loc (k + j)) u (look l (k + j) .no) ∧ u.oneCell' = true := fun j hj => by
      obtain ⟨p1, p2, p3⟩ := V.plainB_of (hpl j hj).1
      exact at_cell h (by omega) (hatk j hj) p1 p2 p3
     refine .obx _ _ _ (loc k).block (loc k).off (fun j => (w.cell? (loc (k + j))).getD undef) (fun j b o => j < m ∧ inner C (F (k + j)) loc (k + j) b o) ⟨fun j b o hj => ⟨.inr ⟨j, hj.1, hj.2.1⟩, fun e => ?_⟩, fun i j hij b o h1 h2 => h.apart (k + i) (k + j) (by omega) b o h1.2.1 h2.2.1⟩ (fun j hj => ?_) (fun j' j hj hjj => ?_) (fun j c hc' => ?_) fun j c hc' => ?_
     · obtain ⟨e0, rfl, rfl⟩ := e
       exact ingrp t _ _ j (h.cells t e0 (by rw [hats]; simp)).1 hsk hj.1 hj.2.1
     · simp only [List.length_map, List.length_range] at hj
       obtain ⟨c1, _, _, c4⟩ := hcellk j hj
       rw [c4] at c1
       refine ⟨.inr ⟨j, hj, c1⟩, fun e => ?_⟩
       obtain ⟨e0, e1, e2⟩ := e
       rw [e1, e2] at c1
       exact ingrp t _ _ j (h.cells t e0 (by rw [hats]; simp)).1 hsk hj c1
     · simp only [List.length_map, List.length_range] at hj
       obtain ⟨c1, _, _, c4⟩ := hcellk j hj
       rw [c4] at c1
       by_cases hji : j' = j
       · subst hji
         exact hjj.2.2 ⟨by omega, by rw [c4], by rw [c4]⟩
       · exact h.apart (k + j') (k + j) (by omega) _ _ hjj.2.1 c1
     · have hj : j < m := by have := (List.getElem?_eq_some_iff.1 hc').1; simpa using this
       obtain ⟨_, c2, _, c4⟩ := hcellk j hj
       obtain ⟨u, u1, _, u3⟩ := hval j hj
       rw [c4] at c2 u1
       rw [c4, u1]
       exact ⟨rfl, c2, u3⟩
     · have hj : j < m := by have := (List.getElem?_eq_some_iff.1 hc').1; simpa using this
       simp [hj] at hc'
       subst hc'
       obtain ⟨u, u1, u2, _⟩ := hval j hj
       rw [u1]
       exact (u2.unborrow (hpl j hj).2).mono (fun _ _ h => h) (fun _ _ h => h) fun b o hb => ⟨hj, hb⟩
   · by_cases htk : k ≤ t ∧ t < k + m
     · simp only [if_neg hts, if_pos htk]; trivial
     · have hk' := h.slot t
       simp only [if_neg hts, if_neg htk]
       have q1 := hpt t hts htk
       generalize hx : (mkT n C.nt l).at t = x at hk' q1 ⊢
       cases x with
       | no => trivial
       | at_ j =>
        obtain ⟨e1, e2, e3⟩ := hk'
        exact ⟨e1, e2, (hthere j (.inr e3) (q1 j rfl)).resolve_left (by omega)⟩
       | al r g => exact fun hg => hk' (by rw [mkT_gen] at hg ⊢; exact hg)
       | ref r g _ _ _ => exact fun hg => hk' (by rw [mkT_gen] at hg ⊢; exact hg)
       | vw r g _ _ _ => exact fun hg => hk' (by rw [mkT_gen] at hg ⊢; exact hg)
       | _ => exact hk'
 · have hx0 : ¬ (k ≤ t ∧ t < k + m) := fun e => by
    have hts : t ≠ s := fun e' => hsk (by rw [← e']; exact e)
    rw [hnew, if_neg hts, if_pos e] at hx
    exact hx rfl
   have hxo : (mkT n C.nt l).at t ≠ .no := by
    by_cases hts : t = s
    · rw [hts, hats]; simp
    · rw [hnew, if_neg hts, if_neg hx0] at hx
      exact hx
   obtain ⟨e1, e2, e3, e4⟩ := h.cells t hns hxo
   refine ⟨?_, e2, e3, e4⟩
   by_cases hts : t = s
   · subst hts; simp only [↓reduceIte]; exact .inl e1
   · simp only [if_neg hts, if_neg hx0]; exact e1
end Go.Proofs.Ytnlocbjojbgdcaa.Vm
namespace Go.Proofs.Ytnlocbjojbgdcaa.Vm
open Go
section
variable {P : Program} {C : Ctx} {T T' : St} {a : Act} {w : World} {S : Foot} {F : Nat → Foot} {loc : Nat → Addr} {rd : List Nat} {o : Oper} {d : Nat}
theorem SimB.obx_at (h : SimB C T a w S F loc) {k m : Nat} (hk : C.nt ≤ k) (hb : ∀ j, j < m → C.base (k + j) = k) (hpos : 0 < m) (hp : ∀ j, j < m → (T.at (k + j)).plainB = true ∧ (T.at (k + j)).shr = true) (B : Foot) :
 Hold w S B (fun b o => ∃ j, j < m ∧ F (k + j) b o) (.pointer (some (loc k))) (.obx (cellsAt T k m)) := by
 have hcellk : ∀ j, j < m → F (k + j) (loc (k + j)).block (loc (k + j)).off ∧ w.frozen? (loc (k + j)) = false ∧ (∃ u, w.cell? (loc (k + j)) = some u ∧ u.oneCell' = true) ∧ loc (k + j) = ⟨(loc k).block, (loc k).off + j, none⟩ := fun j hj => by
  obtain ⟨e1, e2, e3, e4⟩ := h.cells (k + j) (by omega) (V.plainB_of (hp j hj).1).1
  refine ⟨e1, e2, e3, ?_⟩
  rw [e4, hb j hj]
  congr 2
  omega
 have hk0 := (hcellk 0 hpos).2.2.2
 simp only [Nat.add_zero] at hk0
 have hval : ∀ j, j < m → ∃ u, w.cell? (loc (k + j)) = some u ∧ Hold w S C.B (inner C (F (k + j)) loc (k + j)) u (T.at (k + j)) ∧ u.oneCell' = true := fun j hj => by
  obtain ⟨p1, p2, p3⟩ := V.plainB_of (hp j hj).1
  exact at_cell h (by omega) rfl p1 p2 p3
 rw [hk0]
 refine .obx _ _ _ (loc k).block (loc k).off (fun j => (w.cell? (loc (k + j))).getD undef) (fun j b o => j < m ∧ inner C (F (k + j)) loc (k + j) b o) ⟨fun j b o hj => ⟨j, hj.1, hj.2.1⟩, fun i j hij b o h1 h2 => h.apart (k + i) (k + j) (by omega) b o h1.2.1 h2.2.1⟩ (fun j hj => ?_) (fun j' j hj hjj => ?_) (fun j c hc' => ?_) fun j c hc' => ?_
 · simp only [cellsAt, List.length_map, List.length_range] at hj
   obtain ⟨c1, _, _, c4⟩ := hcellk j hj
   rw [c4] at c1
   exact ⟨j, hj, c1⟩
 · simp only [cellsAt, List.length_map, List.length_range] at hj
   obtain ⟨c1, _, _, c4⟩ := hcellk j hj
   rw [c4] at c1
   by_cases hji : j' = j
   · subst hji
     exact hjj.2.2 ⟨by omega, by rw [c4], by rw [c4]⟩
   · exact h.apart (k + j') (k + j) (by omega) _ _ hjj.2.1 c1
 · have hj : j < m := by have := (List.getElem?_eq_some_iff.1 hc').1; simpa [cellsAt] using this
   obtain ⟨_, c2, _, c4⟩ := hcellk j hj
   obtain ⟨u, u1, _, u3⟩ := hval j hj
   rw [c4] at c2 u1
   rw [c4, u1]
   exact ⟨rfl, c2, u3⟩
 · have hj : j < m := by have := (List.getElem?_eq_some_iff.1 hc').1; simpa [cellsAt] using this
   simp [cellsAt, hj] at hc'
   subst hc'
   obtain ⟨u, u1, u2, _⟩ := hval j hj
   rw [u1]
   exact (u2.unborrow (hp j hj).2).mono (fun _ _ h => h) (fun _ _ h => h) fun b o hb => ⟨hj, hb⟩
theorem exec_call_lent (f : FuncId) (ys : Array Operand) (ats : Array TypeId) (t k m : Nat) (yr : List Operand) (xs : List V) (ss : List (List Nat)) (cs' : List V) (outs : List V) (res : V) (hop : o.op = .call { callee := .value (.func f), args := ys, argTypes := ats }) (hf : goesTo P f)
 (hy : ys.toList = .tmp t :: yr) (htr : t ∈ rd) (htn : t < C.nt) (hx : T.at t = .at_ k) (hd : o.dst = some d) (hdn : d < C.nt) (hdl : d < T.length) (hdp : C.pin d = none)
 (hk : C.nt ≤ k) (hkl : k + m ≤ T.length) (hb : ∀ j, j < m → C.base (k + j) = k) (hpos : 0 < m) (hkr : ∀ j, j < m → k + j ∈ rd) (hp : ∀ j, j < m → (T.at (k + j)).plainB = true ∧ (T.at (k + j)).shr = true) (hlen : cs'.length = m)
 (hc : VC P f (.obx (cellsAt T k m) :: xs) (.obx cs' :: outs) res) (hrs : res.shrD = true) (ha : argsV C T rd ((List.range m).map (k + ·) ++ ss.flatten) ((List.range m).map (k + ·)) yr xs ss) (hsl : ∀ s, s ∈ ss.flatten → s < T.length ∧ s ≠ d ∧ ¬ (k ≤ s ∧ s < k + m)) :
 Exec P C o rd T (deads ss.flatten ++ stores k cs' ++ [(d, false, res)]) := by
 intro T' a w hsm ⟨S, F, loc, h⟩ Q K hK
 have hTl := hsm.1
 have hatT : ∀ j, j < m → T'.at (k + j) = T.at (k + j) := fun j hj => hsm.at_ (hkr j hj)
 have hcsT : cellsAt T' k m = cellsAt T k m := List.map_congr_left fun j hj => hatT j (by simpa using hj)
 have hp' : ∀ j, j < m → (T'.at (k + j)).plainB = true ∧ (T'.at (k + j)).shr = true := fun j hj => by rw [hatT j hj]; exact hp j hj
 have hbox := h.obx_at hk hb hpos hp' (reads C S F loc ((List.range m).map (k + ·) ++ ss.flatten))
 rw [hcsT] at hbox
 have hgmem : ∀ s, s ∈ (List.range m).map (k + ·) ↔ k ≤ s ∧ s < k + m := fun s => by
  simp only [List.mem_map, List.mem_range]
  exact ⟨fun ⟨j, hj, e⟩ => by omega, fun e => ⟨s - k, by omega, by omega⟩⟩
 obtain ⟨hl, G, g1, g2, g3, g4⟩ := argsV_get hsm h yr xs ss _ ha
 have g2' : ∀ i b o, G i b o → ∃ s, s ∈ ss.flatten ∧ inner C (F s) loc s b o := fun i b o' hi => by
  obtain ⟨s, q1, q2, q3⟩ := g2 i b o' hi
  exact ⟨s, (List.mem_append.1 q1).resolve_left q2, q3⟩
 have hvt : a.eval (.tmp t) = .pointer (some (loc k)) := by
  have hs := h.slot t
  rw [(hsm.at_ htr).trans hx] at hs
  exact conc_eval htn hs.1
 have hgs : ∀ s, s ∈ ss.flatten → ¬ (k ≤ s ∧ s < k + m) := fun s hs => (hsl s hs).2.2
 have hG : ∀ i b o, (match i with | 0 => (fun b o => ∃ j, j < m ∧ F (k + j) b o : Foot) | i + 1 => G i) b o → ∃ s, (s ∈ ss.flatten ∧ inner C (F s) loc s b o) ∨ ((k ≤ s ∧ s < k + m) ∧ F s b o) := fun i b o' hi => by
  cases i with
  | zero => obtain ⟨j, hj, hi⟩ := hi; exact ⟨k + j, .inr ⟨by omega, hi⟩⟩
  | succ i => obtain ⟨s, q1, q2⟩ := g2' i b o' hi; exact ⟨s, .inl ⟨q1, q2⟩⟩
 have hargs : ArgsOk w S (reads C S F loc ((List.range m).map (k + ·) ++ ss.flatten)) (fun i => match i with | 0 => (fun b o => ∃ j, j < m ∧ F (k + j) b o) | i + 1 => G i) (ys.toList.map a.eval) (.obx (cellsAt T k m) :: xs) := by
  rw [hy]
  refine ⟨by simp [hl], fun i v x hv hx' => ?_, fun i j hij b o' hi hj => ?_, fun i b o' hi => ?_, fun b o' hr => ?_⟩
  · cases i with
    | zero =>
     simp at hv hx'
     subst hv hx'
     rw [hvt]
     exact hbox
    | succ i =>
     simp only [List.map_cons, List.getElem?_cons_succ, List.getElem?_map, Option.map_eq_some_iff] at hv hx'
     obtain ⟨y, hy', rfl⟩ := hv
     exact g3 i y x hy' hx'
  · cases i with
    | zero =>
     cases j with
     | zero => exact hij rfl
     | succ j =>
      obtain ⟨q, hq, hi⟩ := hi
      obtain ⟨s, q1, q2⟩ := g2' j b o' hj
      exact h.apart (k + q) s (fun e => hgs s q1 (by omega)) b o' hi q2.1
    | succ i =>
     cases j with
     | zero =>
      obtain ⟨q, hq, hj⟩ := hj
      obtain ⟨s, q1, q2⟩ := g2' i b o' hi
      exact h.apart (k + q) s (fun e => hgs s q1 (by omega)) b o' hj q2.1
     | succ j => exact g1 i j (by omega) b o' hi hj
  · obtain ⟨s, hs⟩ := hG i b o' hi
    have hF : F s b o' := hs.elim (fun e => e.2.1) (fun e => e.2)
    have hall : s ∈ (List.range m).map (k + ·) ++ ss.flatten := List.mem_append.2 (hs.elim (fun e => .inr e.1) (fun e => .inl ((hgmem s).2 e.1)))
    obtain ⟨m1, m2, m3, _⟩ := h.mine s b o' hF
    refine ⟨m1, fun hB => ?_, m3⟩
    rcases hB with hB | hB | ⟨r, hr, hB⟩
    · exact m1 hB
    · exact m2 hB
    · exact h.apart r s (fun e => hr (e ▸ hall)) b o' hB hF
  · rcases hr with hr | hr | hr | ⟨r, _, hr⟩
    · exact h.stay b o' (.inl hr)
    · exact h.stay b o' (.inl hr)
    · exact h.stay b o' (.inr hr)
    · exact (h.mine r b o' hr).2.2.1
 unfold Oper.wp
 rw [call_run hop hf, Oper.upon_enter]
 have hcall := hc w S _ _ (ys.toList.map a.eval) hargs
 have hys : (ys.toList.map a.eval).toArray = ys.map a.eval := by rw [← List.map_toArray, Array.toArray_toList]
 rw [hys] at hcall
 refine Calls.mono hcall fun e w' ⟨v, he, hd'⟩ => ?_
 subst he
 obtain ⟨⟨S', F', FR, d1, d2, d3, d4, d5, d6, d7⟩, dm⟩ := hd'
 show K (a.put o.dst v) w'
 rw [hd]
 refine hK _ _ ?_
 have hout := d2 0 (.pointer (some (loc k))) (.obx cs') (by rw [hy]; simp [hvt]) rfl
 generalize hpv : (Value.pointer (some (loc k))) = pv at hout
 cases hout with
 | obx _ _ _ b o' U G' hs' hF' hG' hc' hi' =>
 injection hpv with hpv
 injection hpv with hpv
 have hcellk : ∀ s, (k ≤ s ∧ s < k + m) → F s (loc s).block (loc s).off ∧ loc s = ⟨b, o' + (s - k), none⟩ ∧ loc s = ⟨(loc (C.base s)).block, (loc (C.base s)).off + (s - C.base s), none⟩ := fun s hs => by
  have e0 : k + (s - k) = s := by omega
  obtain ⟨e1, e2, e3, e4⟩ := h.cells s (by omega) (by rw [← e0]; exact (V.plainB_of (hp' (s - k) (by omega)).1).1)
  refine ⟨e1, ?_, e4⟩
  have hbs := hb (s - k) (by omega)
  rw [e0] at hbs
  rw [e4, hbs, hpv]
 have hres := hold_plain d1
 have hW : ∀ s, s ∈ (deads ss.flatten ++ stores k cs' ++ [(d, false, res)]).map (·.1) ↔ s ∈ ss.flatten ∨ (k ≤ s ∧ s < k + m) ∨ s = d := fun s => by
  rw [List.map_append, List.map_append, List.mem_append, List.mem_append, stores_fst, hlen, hgmem]
  have : (deads ss.flatten).map (·.1) = ss.flatten := by simp [deads, Function.comp_def]
  rw [this]
  simp [or_assoc]
 have hdk : ¬ (k ≤ d ∧ d < k + m) := fun e => by omega
 have hatd : (T'.app (deads ss.flatten ++ stores k cs' ++ [(d, false, res)])).at d = res := St.at_last T' _ d false _ (by omega)
 have hatk : ∀ j c, cs'[j]? = some c → (T'.app (deads ss.flatten ++ stores k cs' ++ [(d, false, res)])).at (k + j) = c := fun j c hc => by
  have hj := (List.getElem?_eq_some_iff.1 hc).1
  rw [St.at_mid T' _ _ _ _ _ (by omega : d ≠ k + j), St.app_append]
  exact St.at_stores _ k cs' j c hc (by rw [St.length_app]; omega)
 have hats : ∀ s, s ∈ ss.flatten → (T'.app (deads ss.flatten ++ stores k cs' ++ [(d, false, res)])).at s = .dead := fun s hs => by
  rw [St.at_mid T' _ _ _ _ _ (Ne.symm (hsl s hs).2.1), St.app_append]
  have := St.app_not (T'.app (deads ss.flatten)) (stores k cs') s (by rw [stores_fst]; simp; intro x hx e; exact hgs s hs (by omega))
  have h2 := St.at_deads T' ss.flatten s hs (by have := (hsl s hs).1; omega)
  unfold St.at at h2 ⊢
  rw [this]
  exact h2
 have hnot : ∀ s, s ∉ (deads ss.flatten ++ stores k cs' ++ [(d, false, res)]).map (·.1) → (T'.app (deads ss.flatten ++ stores k cs' ++ [(d, false, res)])).getD s (0, .no) = T'.getD s (0, .no) := fun s hs => St.app_not T' _ s hs
 have hgl : ∀ s, s ∈ (deads ss.flatten ++ stores k cs' ++ [(d, false, res)]).map (·.1) → T'.gen s < St.gen (T'.app (deads ss.flatten ++ stores k cs' ++ [(d, false, res)])) s := fun s hs => by
  rcases (hW s).1 hs with hs | hs | rfl
  · exact St.gen_lt T' _ s (by have := (hsl s hs).1; omega) ⟨.dead, List.mem_append_left _ (List.mem_append_left _ (List.mem_map.2 ⟨s, hs, rfl⟩))⟩
  · obtain ⟨x, hx⟩ := mem_stores k cs' (s - k) (by omega)
    rw [show k + (s - k) = s by omega] at hx
    exact St.gen_lt T' _ _ (by omega) ⟨x, by simp [hx]⟩
  · exact St.gen_lt T' _ _ (by omega) ⟨res, by simp⟩
 have hpl' : ∀ (j : Nat) (c : V), cs'[j]? = some c → c ≠ .no ∧ (∀ i, c ≠ .at_ i) ∧ c.root = none := fun j c hc => hold_plain (hi' j c hc)
 have hget : ∀ j, j < m → ∃ c, cs'[j]? = some c := fun j hj => ⟨_, List.getElem?_eq_getElem (by omega)⟩
 have hgno : ∀ s, (k ≤ s ∧ s < k + m) → T'.at s ≠ .no := fun s hs => by
  have := (V.plainB_of (hp' (s - k) (by omega)).1).1
  rwa [show k + (s - k) = s by omega] at this
 have hatn : ∀ s, T'.at s ≠ .no → (T'.app (deads ss.flatten ++ stores k cs' ++ [(d, false, res)])).at s ≠ .no := fun s hs => by
  by_cases hw : s ∈ (deads ss.flatten ++ stores k cs' ++ [(d, false, res)]).map (·.1)
  · rcases (hW s).1 hw with hw | hw | rfl
    · rw [hats s hw]; simp
    · obtain ⟨c, hc⟩ := hget (s - k) (by omega)
      have := hatk _ c hc
      rw [show k + (s - k) = s by omega] at this
      rw [this]
      exact (hpl' _ c hc).1
    · rw [hatd]; exact hres.1
  · have := hnot s hw
    unfold St.at
    rw [this]
    exact hs
 have hkeep : ∀ b o, b < w.heap.size → (∀ s, s ∈ ss.flatten → ¬ inner C (F s) loc s b o) → (∀ s, (k ≤ s ∧ s < k + m) → ¬ F s b o) → b < w.heap.size ∧ ∀ i, ¬ (match i with | 0 => (fun b o => ∃ j, j < m ∧ F (k + j) b o : Foot) | i + 1 => G i) b o := fun b o hb h1 h2 => ⟨hb, fun i hi => by
  obtain ⟨s, hs | hs⟩ := hG i b o hi
  · exact h1 s hs.1 hs.2
  · exact h2 s hs.1 hs.2⟩
 have hcsame : ∀ s, s ∈ ss.flatten → C.nt ≤ s → F s (loc s).block (loc s).off ∧ w'.frozen? (loc s) = false ∧ (∃ u, w'.cell? (loc s) = some u ∧ u.oneCell' = true) ∧ loc s = ⟨(loc (C.base s)).block, (loc (C.base s)).off + (s - C.base s), none⟩ := fun s hs hn => by
  obtain ⟨e1, e2, ⟨u, e3, e3'⟩, e4⟩ := h.cells s hn (g4 s hs)
  have := hkeep (loc s).block (loc s).off (h.mine s _ _ e1).2.2.1 (fun t' ht hi => by
   by_cases hst : s = t'
   · subst hst; exact hi.2 ⟨hn, rfl, rfl⟩
   · exact h.apart s t' hst _ _ e1 hi.1) fun t' ht hi => h.apart s t' (fun e => hgs s hs (by rw [e]; exact ht)) _ _ e1 hi
  have hl4 : (⟨(loc s).block, (loc s).off, none⟩ : Addr) = loc s := by rw [e4]
  have c1 := dm.keep.cell _ _ this
  have c2 := dm.keep.frozen _ _ this
  rw [hl4] at c1 c2
  exact ⟨e1, c2.trans e2, ⟨u, c1.trans e3, e3'⟩, e4⟩
 have hmine : ∀ s b o, F s b o → C.w0.heap.size ≤ b ∨ C.may b o := fun s b o hf => (h.mine s b o hf).2.2.2
 have part : ∀ s b1 o1, (if s = d then FR else if s ∈ ss.flatten then (fun b o => C.nt ≤ s ∧ b = (loc s).block ∧ o = (loc s).off) else if k ≤ s ∧ s < k + m then (fun b1 o1 => (b1 = b ∧ o1 = o' + (s - k)) ∨ G' (s - k) b1 o1) else F s : Foot) b1 o1 →
  (s = d ∧ FR b1 o1) ∨ ((k ≤ s ∧ s < k + m) ∧ F' 0 b1 o1 ∧ ((b1 = b ∧ o1 = o' + (s - k)) ∨ G' (s - k) b1 o1)) ∨ (F s b1 o1 ∧ (∀ t, t ∈ ss.flatten → ¬ inner C (F t) loc t b1 o1) ∧ ∀ t, (k ≤ t ∧ t < k + m) → ¬ F t b1 o1) := fun s b1 o1 hb1 => by
  by_cases h0 : s = d
  · rw [if_pos h0] at hb1; exact .inl ⟨h0, hb1⟩
  rw [if_neg h0] at hb1
  by_cases h2 : s ∈ ss.flatten
  · rw [if_pos h2] at hb1
    obtain ⟨hn, rfl, rfl⟩ := hb1
    have e1 := (hcsame s h2 hn).1
    refine .inr (.inr ⟨e1, fun t' ht hi => ?_, fun t' ht hi => h.apart s t' (fun e => hgs s h2 (by rw [e]; exact ht)) _ _ e1 hi⟩)
    by_cases hst : s = t'
    · subst hst; exact hi.2 ⟨hn, rfl, rfl⟩
    · exact h.apart s t' hst _ _ e1 hi.1
  · rw [if_neg h2] at hb1
    by_cases h3 : k ≤ s ∧ s < k + m
    · rw [if_pos h3] at hb1
      refine .inr (.inl ⟨h3, ?_, hb1⟩)
      rcases hb1 with ⟨rfl, rfl⟩ | hb1
      · exact hF' (s - k) (by omega)
      · exact hs'.sub _ _ _ hb1
    · rw [if_neg h3] at hb1
      exact .inr (.inr ⟨hb1, fun t' ht hi => h.apart s t' (fun e => h2 (e ▸ ht)) _ _ hb1 hi.1, fun t' ht hi => h.apart s t' (fun e => h3 (e ▸ ht)) _ _ hb1 hi⟩)
 have hnewold : ∀ b1 o1, (FR b1 o1 ∨ ∃ i, F' i b1 o1) → ∀ s, F s b1 o1 → (∀ t, t ∈ ss.flatten → ¬ inner C (F t) loc t b1 o1) → (∀ t, (k ≤ t ∧ t < k + m) → ¬ F t b1 o1) → False := fun b1 o1 hn s hf h1 h2 => by
  rcases (d7 b1 o1 hn).2 with ⟨i, hi⟩ | ⟨h3, _⟩
  · obtain ⟨s', hs | hs⟩ := hG i b1 o1 hi
    · exact h1 s' hs.1 hs.2
    · exact h2 s' hs.1 hs.2
  · have := (h.mine s b1 o1 hf).2.2.1
    omega
 refine ⟨S', fun s => if s = d then FR else if s ∈ ss.flatten then (fun b o => C.nt ≤ s ∧ b = (loc s).block ∧ o = (loc s).off) else if k ≤ s ∧ s < k + m then (fun b1 o1 => (b1 = b ∧ o1 = o' + (s - k)) ∨ G' (s - k) b1 o1) else F s, loc,
  h.upd ((deads ss.flatten ++ stores k cs' ++ [(d, false, res)]).map (·.1)) hnot (by simp [Act.put]) (by simpa [Act.put] using h.defers) (fun s v' hv => by
   rw [put_get (fun e => by rw [← e, hdp] at hv; cases hv)]
   exact h.pins s v' hv) ⟨dm.os, dm.tape, dm.output, dm.size, dm.keep.mono fun b1 o1 hb1 => hkeep b1 o1 hb1.1 (fun s hs hi => ?_) fun s hs hi => ?_⟩ d3 (fun b1 o1 hb1 => (d4 b1 o1 hb1).imp id (Or.imp id fun ⟨i, hi⟩ => by
    obtain ⟨s, hs | hs⟩ := hG i b1 o1 hi
    · exact ⟨s, (hW s).2 (.inl hs.1), hs.2.1⟩
    · exact ⟨s, (hW s).2 (.inr (.inl hs.1)), hs.2⟩)) (fun s hs => ?_) (fun s hs => ⟨rfl, hatn s hs⟩) (fun _ _ _ _ => rfl) (fun s hs _ => put_get fun e => hs ((hW s).2 (.inr (.inr e.symm))))
  (fun r hr he _ => absurd he (by have := hgl r hr; omega)) (fun r hr => Nat.le_of_lt (hgl r hr)) (fun s t' hs hst b1 o1 hb1 hb1' => ?_) (fun s hs b1 o1 hb1 => ?_) (fun s hs r g hr => ?_) (fun s hs => ?_) (fun s hs hns hx' => ?_)⟩
 · have hF := hi.1
   obtain ⟨m1, m2, _, m4⟩ := h.mine s b1 o1 hF
   rcases hb1.2 with q | q | ⟨t', ht, q⟩ | ⟨q, q'⟩
   · exact m1 q
   · exact m2 q
   · exact h.apart t' s (fun e => ht (by rw [e]; exact (hW s).2 (.inl hs))) _ _ q hF
   · rcases m4 with m4 | m4
     · omega
     · exact q' m4
 · obtain ⟨m1, m2, _, m4⟩ := h.mine s b1 o1 hi
   rcases hb1.2 with q | q | ⟨t', ht, q⟩ | ⟨q, q'⟩
   · exact m1 q
   · exact m2 q
   · exact h.apart t' s (fun e => ht (by rw [e]; exact (hW s).2 (.inr (.inl hs)))) _ _ q hi
   · rcases m4 with m4 | m4
     · omega
     · exact q' m4
 · have hs' := fun hh => hs ((hW s).2 hh)
   have e1 : s ≠ d := fun e => hs' (.inr (.inr e))
   have e2 : s ∉ ss.flatten := fun e => hs' (.inl e)
   have e3 : ¬ (k ≤ s ∧ s < k + m) := fun e => hs' (.inr (.inl e))
   simp [e1, e2, e3]
 · rcases part s b1 o1 hb1 with ⟨p1, p2⟩ | ⟨p1, p2, p3⟩ | ⟨p1, p2, p3⟩ <;> rcases part t' b1 o1 hb1' with ⟨q1, q2⟩ | ⟨q1, q2, q3⟩ | ⟨q1, q2, q3⟩
   · exact hst (p1.trans q1.symm)
   · exact d6 0 b1 o1 p2 q2
   · exact hnewold b1 o1 (.inl p2) t' q1 q2 q3
   · exact d6 0 b1 o1 q2 p2
   · rcases p3 with ⟨rfl, rfl⟩ | p3 <;> rcases q3 with ⟨e1, e2⟩ | q3
     · omega
     · exact hG' _ (s - k) (by omega) q3
     · subst e1 e2
       exact hG' _ (t' - k) (by omega) p3
     · exact hs'.apart (s - k) (t' - k) (by omega) _ _ p3 q3
   · exact hnewold b1 o1 (.inr ⟨0, p2⟩) t' q1 q2 q3
   · exact hnewold b1 o1 (.inl q2) s p1 p2 p3
   · exact hnewold b1 o1 (.inr ⟨0, q2⟩) s p1 p2 p3
   · exact h.apart s t' hst b1 o1 p1 q1
 · have hnew : (FR b1 o1 ∨ ∃ i, F' i b1 o1) → ¬ S' b1 o1 ∧ ¬ C.B b1 o1 ∧ b1 < w'.heap.size ∧ (C.w0.heap.size ≤ b1 ∨ C.may b1 o1) := fun hn => by
    obtain ⟨n1, n2⟩ := d7 b1 o1 hn
    rcases n2 with ⟨i, hi⟩ | ⟨n2, n3⟩
    · obtain ⟨s', hs⟩ := hG i b1 o1 hi
      obtain ⟨m1, m2, m3, m4⟩ := h.mine s' b1 o1 (hs.elim (fun e => e.2.1) (fun e => e.2))
      exact ⟨n1, m2, Nat.lt_of_lt_of_le m3 dm.size, m4⟩
    · exact ⟨n1, fun hB => by have := h.stay b1 o1 (.inr hB); omega, n3, .inl (Nat.le_trans h.world.size n2)⟩
   rcases part s b1 o1 hb1 with ⟨p1, p2⟩ | ⟨p1, p2, p3⟩ | ⟨p1, p2, p3⟩
   · exact hnew (.inl p2)
   · exact hnew (.inr ⟨0, p2⟩)
   · obtain ⟨m1, m2, m3, m4⟩ := h.mine s b1 o1 p1
     refine ⟨fun hS => ?_, m2, Nat.lt_of_lt_of_le m3 dm.size, m4⟩
     rcases d4 b1 o1 hS with hS | hS | ⟨i, hi⟩
     · exact m1 hS
     · omega
     · obtain ⟨s', hs | hs⟩ := hG i b1 o1 hi
       · exact p2 s' hs.1 hs.2
       · exact p3 s' hs.1 hs.2
 · rcases (hW s).1 hs with hs | hs | rfl
   · rw [hats s hs] at hr; simp [V.root] at hr
   · obtain ⟨c, hc⟩ := hget (s - k) (by omega)
     have := hatk _ c hc
     rw [show k + (s - k) = s by omega] at this
     rw [this, (hpl' _ c hc).2.2] at hr
     simp at hr
   · rw [hatd, hres.2.2] at hr; cases hr
 · rcases (hW s).1 hs with hs | hs | rfl
   · rw [hats s hs]
     have hv : ∃ v1, conc C (a.put (some d) v) w' loc s = some v1 := by
      unfold conc
      split
      · rename_i hlt
        rw [put_get (Ne.symm (hsl s hs).2.1)]
        exact ⟨_, Array.getElem?_eq_getElem (by rw [h.size]; exact hlt)⟩
      · obtain ⟨_, _, ⟨u, hu, _⟩, _⟩ := hcsame s hs (by omega)
        exact ⟨u, hu⟩
     obtain ⟨v1, hv1⟩ := hv
     exact SlotOk.plain ⟨v1, hv1, .dead ..⟩
   · obtain ⟨j, rfl⟩ : ∃ j, s = k + j := ⟨s - k, by omega⟩
     have hj : j < m := by omega
     obtain ⟨c, hc⟩ := hget j hj
     obtain ⟨e1, e2, e3⟩ := hc' j c hc
     have hlk := (hcellk (k + j) hs).2.1
     rw [show k + j - k = j by omega] at hlk
     rw [hatk j c hc]
     refine SlotOk.plain ⟨U j, ?_, ?_⟩
     · unfold conc
       rw [if_neg (by omega), hlk]
       exact e1
     · refine (hi' j c hc).mono (fun _ _ h => h) (fun _ _ h => h.elim) fun b1 o1 hg => ⟨?_, fun hcl => ?_⟩
       · rw [if_neg (by omega), if_neg (fun e => hgs _ e hs), if_pos hs]
         exact .inr (by rw [show k + j - k = j by omega]; exact hg)
       · rw [hlk] at hcl
         obtain ⟨_, rfl, rfl⟩ := hcl
         exact hG' j j (by omega) hg
   · rw [hatd]
     refine SlotOk.plain ⟨v, ?_, (d1.unborrowD hrs).mono (fun _ _ h => h) (fun _ _ h => h.elim) fun b1 o1 hb1 => ⟨?_, fun e => by have := e.1; omega⟩⟩
     · unfold conc
       rw [if_pos hdn]
       exact put_self (by rw [h.size]; exact hdn)
     · simpa using hb1
 · rcases (hW s).1 hs with hs | hs | rfl
   · obtain ⟨e1, e2, e3, e4⟩ := hcsame s hs hns
     exact ⟨by rw [if_neg (hsl s hs).2.1, if_pos hs]; exact ⟨hns, rfl, rfl⟩, e2, e3, e4⟩
   · obtain ⟨c, hc⟩ := hget (s - k) (by omega)
     obtain ⟨e1, e2, e3⟩ := hc' _ c hc
     obtain ⟨_, l1, l2⟩ := hcellk s hs
     refine ⟨?_, by rw [l1]; exact e2, ⟨U (s - k), by rw [l1]; exact e1, e3⟩, l2⟩
     rw [if_neg (by omega), if_neg (fun e => hgs _ e hs), if_pos hs, l1]
     exact .inl ⟨rfl, rfl⟩
   · omega
end
end Go.Proofs.Ytnlocbjojbgdcaa.Vm
namespace Go.Proofs.Ytnlocbjojbgdcaa.Vm
open Go
def pinL (ls : List Nat) (u : Nat → Value) : Nat → Option Value := fun s => if ls.contains s then some (u s) else none
theorem Sim.pin {N : Nat} {g : List (Nat × Nat)} {w0 : World} {S B may : Foot} {T : St} {a : Act} {w : World} {pin : Nat → Option Value} (h : Sim (mkC N g noPin w0 S B may) T a w) (hp : ∀ s v, pin s = some v → a.tmps[s]? = some v) : Sim (mkC N g pin w0 S B may) T a w := by
 obtain ⟨S', F, loc, h⟩ := h
 exact ⟨S', F, loc, h.size, h.defers, hp, ⟨h.world.os, h.world.tape, h.world.output, h.world.size, h.world.keep⟩, h.sub, h.from_, h.stay, h.apart, h.mine, h.ages, h.slot, h.cells⟩
def EndsL (P : Program) (C : Ctx) (rs : List ResultVar) (xs : List V) (ls : List Nat) (outs : List V) : Exit → St → Prop := fun e T => (e = .normal ∨ e = .ret) ∧ ∃ T', Weak C T T' ∧ ∃ ss, rets P C T' [] rs xs ss ∧
 ∀ i x, outs[i]? = some x → x = .dead ∨ (ls.contains i = true ∧ i < C.nt ∧ (∃ cs, x = .obx cs) ∧ T'.at i = x ∧ i ∉ ss.flatten)
theorem vc_lent {P : Program} {f : FuncId} {fn : Func} {c : Code} {N n : Nat} {g : List (Nat × Nat)} {rs : List ResultVar} {args outs xs : List V} (ls : List Nat) (hf : P.funcs[f]? = some fn) (hb : fn.body = some c) (hN : fn.ntmps = N) (hrs : fn.results = rs.toArray) (ha : args.length ≤ N) (hn : N ≤ n) (hls : ls.all (· < args.length) = true)
 (H : ∀ w S B may u, VW P (mkC N g (pinL ls u) w S B may) c (mkT n N (entries 0 args)) (EndsL P (mkC N g (pinL ls u) w S B may) rs xs ls outs)) : VC P f args outs (resV xs) := by
 intro w S B F vs hargs
 refine calls_of_wp hf hb ?_
 have hlen := hargs.len
 have hpin : ∀ s v, pinL ls (fun s => vs.getD s undef) s = some v → (vs.toArray ++ Array.replicate (N - vs.toArray.size) undef)[s]? = some v := fun s v hv => by
  unfold pinL at hv
  split at hv
  · rename_i hs
    injection hv with hv
    have hsl := List.all_eq_true.1 hls s (by simpa using hs)
    simp only [decide_eq_true_eq] at hsl
    rw [Array.getElem?_append_left (by simp; omega), ← hv]
    simp [List.getD_eq_getElem?_getD, List.getElem?_eq_getElem (by omega : s < vs.length)]
  · cases hv
 have h0 := H w S B (fun b o => ∃ i, F i b o) (fun s => vs.getD s undef) _ w ((sim_start (g := g) (n := n) (N := N) hargs ha hn).pin hpin)
 rw [hN]
 refine wp_mono h0 fun e a' w' ⟨T0, ⟨he, T', hw, ss, hr, ho⟩, hsim0⟩ => ?_
 obtain ⟨S', F', loc, hsim⟩ := hw _ _ hsim0
 obtain ⟨v, h1, h2⟩ := results_run hsim hrs hr
 have key : a'.defers = [] ∧ ∃ v, (results fn a'.tmps).run P w' = .ok v w' ∧ ∃ u, Ending.returned v = .returned u ∧ Done w w' S B F vs outs u (resV xs) := by
  refine ⟨hsim.defers, v, h1, v, rfl, ⟨S', fun i b o => i ∉ ss.flatten ∧ inner (mkC N g (pinL ls fun s => vs.getD s undef) w S B fun b o => ∃ i, F i b o) (F' i) loc i b o, _, h2, fun i v' x hv hx => ?_, hsim.sub, fun b o hb => ?_, fun i j hij b o hi hj => hsim.apart i j hij b o hi.2.1 hj.2.1, fun i b o hb hi => ?_, fun b o hb => ?_⟩, ⟨hsim.world.os, hsim.world.tape, hsim.world.output, hsim.world.size, hsim.world.keep.mono fun b o hb => ⟨hb.1, fun ⟨i, hi⟩ => hb.2 i hi⟩⟩⟩
  · rcases ho i x hx with rfl | ⟨q1, q2, ⟨cs, rfl⟩, q3, q4⟩
    · exact .dead ..
    · have hs := hsim.slot i
      rw [q3] at hs
      obtain ⟨v1, e1, e2⟩ := hs.held (by simp) (fun _ => by simp) rfl
      have hp := hsim.pins i (vs.getD i undef) (by simp only [mkC, pinL]; rw [if_pos q1])
      unfold conc at e1
      rw [if_pos q2, hp] at e1
      injection e1 with e1
      rw [List.getD_eq_getElem?_getD, hv, Option.getD_some] at e1
      subst e1
      exact e2.mono (fun _ _ h => h) (fun _ _ h => h) fun b o hb => ⟨q4, hb⟩
  · rcases hsim.from_ b o hb with h3 | h3 | h3
    · exact .inl h3
    · exact .inr (.inl ⟨h3, hsim.stay b o (.inl hb)⟩)
    · exact .inr (.inr h3)
  · obtain ⟨s, hs, hb⟩ := hb
    exact hsim.apart s i (fun e => hi.1 (e ▸ hs)) b o hb.1 hi.2.1
  · have hF : ∃ s, F' s b o := by
     rcases hb with ⟨s, _, hi⟩ | ⟨s, _, hi⟩
     · exact ⟨s, hi.1⟩
     · exact ⟨s, hi.1⟩
    obtain ⟨s, hs⟩ := hF
    obtain ⟨h3, _, h4, h5⟩ := hsim.mine s b o hs
    rcases h5 with h5 | h5
    · exact ⟨h3, .inr ⟨h5, h4⟩⟩
    · exact ⟨h3, .inl h5⟩
 rcases he with rfl | rfl
 · exact key
 · exact key
end Go.Proofs.Ytnlocbjojbgdcaa.Vm
namespace Go.Proofs.Ytnlocbjojbgdcaa.Vm
open Go
section
variable {P : Program} {C : Ctx} {T T' : St} {a : Act} {w : World} {S : Foot} {F : Nat → Foot} {loc : Nat → Addr} {rd : List Nat} {o : Oper} {d : Nat}
def opnd (C : Ctx) (T : St) (rd : List Nat) : Operand → Value → Prop
 | .tmp t, v => t ∈ rd ∧ t < C.nt ∧ (T.at t).val = some v
 | .const u, v => u = v
 | .func f, v => .func (.func f) #[] #[] = v
 | .global _, _ => False
theorem opnd_eval {y : Operand} {v : Value} (h : opnd C T rd y v) (hs : Same T T' rd) (hsim : SimB C T' a w S F loc) : a.eval y = v := by
 cases y with
 | tmp t => exact hsim.value t h.2.1 (by rw [hs.at_ h.1]; exact h.2.2)
 | const u => exact h
 | func f => exact h
 | global g => exact h.elim
theorem exec_bin {op : BinOp} {xt yt : TypeId} {x y : Operand} {vx vy v : Value} (hop : o.op = .binOp op xt x y yt) (hd : o.dst = some d) (hdn : d < C.nt) (hdl : d < T.length) (hdp : C.pin d = none) (hx : opnd C T rd x vx) (hy : opnd C T rd y vy)
 (hr : ∀ w, (do eqGuard op xt x y vx vy; binOp op xt vx vy : Sem Value).run P w = .ok v w) : Exec P C o rd T [(d, false, .sc v)] :=
 exec_free (.sc v) hd hdn hdl hdp fun T' a w S F loc hs hsim => ⟨v, by
  have h := hr w
  simp only [execOp, hop, opnd_eval hx hs hsim, opnd_eval hy hs hsim]
  rw [Sem.run_bind, h]
  rfl, .sc ..⟩
theorem exec_un {op : UnOp} {t : TypeId} {x : Operand} {vx v : Value} (hop : o.op = .unOp op t x) (hd : o.dst = some d) (hdn : d < C.nt) (hdl : d < T.length) (hdp : C.pin d = none) (hx : opnd C T rd x vx) (hr : ∀ w, (Op.unary op vx).run P w = .ok v w) : Exec P C o rd T [(d, false, .sc v)] :=
 exec_free (.sc v) hd hdn hdl hdp fun T' a w S F loc hs hsim => ⟨v, by
  simp only [execOp, hop, opnd_eval hx hs hsim]
  rw [Sem.run_bind, hr w]
  rfl, .sc ..⟩
theorem exec_conv {st dt : TypeId} {x : Operand} {vx v : Value} (hop : o.op = .convert st dt x) (hd : o.dst = some d) (hdn : d < C.nt) (hdl : d < T.length) (hdp : C.pin d = none) (hx : opnd C T rd x vx) (hr : ∀ w, (convert st dt vx).run P w = .ok v w) : Exec P C o rd T [(d, false, .sc v)] :=
 exec_free (.sc v) hd hdn hdl hdp fun T' a w S F loc hs hsim => ⟨v, by
  simp only [execOp, hop, opnd_eval hx hs hsim]
  rw [Sem.run_bind, hr w]
  rfl, .sc ..⟩
theorem exec_pick {c x y : Operand} {b : Bool} {v : Value} (hop : o.op = .pick c x y) (hd : o.dst = some d) (hdn : d < C.nt) (hdl : d < T.length) (hdp : C.pin d = none) (hc : opnd C T rd c (.bool b)) (hx : opnd C T rd (if b then x else y) v) : Exec P C o rd T [(d, false, .sc v)] :=
 exec_free (.sc v) hd hdn hdl hdp fun T' a w S F loc hs hsim => ⟨v, by
  have h1 := opnd_eval hx hs hsim
  simp only [execOp, hop, opnd_eval hc hs hsim, asBool, Sem.run_bind, Sem.run_pure, Result.andThen_ok]
  cases b
  · simp only [Bool.false_eq_true, if_false] at h1 ⊢; rw [h1]
  · simp only [if_true] at h1 ⊢; rw [h1], .sc ..⟩
theorem exec_max2 {x y : Operand} {ats : Array TypeId} {k : IntKind} {m n : Int} (hop : o.op = .call { callee := .builtin .max, args := #[x, y], argTypes := ats }) (hd : o.dst = some d) (hdn : d < C.nt) (hdl : d < T.length) (hdp : C.pin d = none) (hx : opnd C T rd x (.int k m)) (hy : opnd C T rd y (.int k n)) : Exec P C o rd T [(d, false, .sc (.int k (if m < n then n else m)))] :=
 exec_free _ hd hdn hdl hdp fun T' a w S F loc hs hsim => ⟨_, by
  have h1 := opnd_eval hx hs hsim
  have h2 := opnd_eval hy hs hsim
  have h : (Builtin.max_ ats o.type #[.int k m, .int k n]) = (pure (.int k (if m < n then n else m)) : Sem Value) := by
   simp only [Builtin.max_, List.foldlM_cons, List.foldlM_nil, Builtin.max2, gt_iff_lt]
   rfl
  simp [execOp, hop, resolve, invoke, builtin, h1, h2, h], .sc ..⟩
theorem exec_min2 {x y : Operand} {ats : Array TypeId} {k : IntKind} {m n : Int} (hop : o.op = .call { callee := .builtin .min, args := #[x, y], argTypes := ats }) (hd : o.dst = some d) (hdn : d < C.nt) (hdl : d < T.length) (hdp : C.pin d = none) (hx : opnd C T rd x (.int k m)) (hy : opnd C T rd y (.int k n)) : Exec P C o rd T [(d, false, .sc (.int k (if n < m then n else m)))] :=
 exec_free _ hd hdn hdl hdp fun T' a w S F loc hs hsim => ⟨_, by
  have h1 := opnd_eval hx hs hsim
  have h2 := opnd_eval hy hs hsim
  have h : (Builtin.min_ ats o.type #[.int k m, .int k n]) = (pure (.int k (if n < m then n else m)) : Sem Value) := by
   simp only [Builtin.min_, List.foldlM_cons, List.foldlM_nil, Builtin.min2]
   rfl
  simp [execOp, hop, resolve, invoke, builtin, h1, h2, h], .sc ..⟩
end
section
variable {P : Program} {xt : TypeId} {x y : Operand} {k : IntKind} {m n : Int}
theorem int_add (w : World) : (do eqGuard .add xt x y (.int k m) (.int k n); binOp .add xt (.int k m) (.int k n) : Sem Value).run P w = .ok (.int k (k.wrap (m + n))) w := by simp [eqGuard, binOp, Op.intArith]
theorem int_sub (w : World) : (do eqGuard .sub xt x y (.int k m) (.int k n); binOp .sub xt (.int k m) (.int k n) : Sem Value).run P w = .ok (.int k (k.wrap (m - n))) w := by simp [eqGuard, binOp, Op.intArith]
theorem int_mul (w : World) : (do eqGuard .mul xt x y (.int k m) (.int k n); binOp .mul xt (.int k m) (.int k n) : Sem Value).run P w = .ok (.int k (k.wrap (m * n))) w := by simp [eqGuard, binOp, Op.intArith]
theorem int_quo (hn : n ≠ 0) (w : World) : (do eqGuard .quo xt x y (.int k m) (.int k n); binOp .quo xt (.int k m) (.int k n) : Sem Value).run P w = .ok (.int k (k.wrap (m.tdiv n))) w := by simp [eqGuard, binOp, Op.intDiv, hn]
theorem int_rem (hn : n ≠ 0) (w : World) : (do eqGuard .rem xt x y (.int k m) (.int k n); binOp .rem xt (.int k m) (.int k n) : Sem Value).run P w = .ok (.int k (m.tmod n)) w := by simp [eqGuard, binOp, Op.intDiv, hn]
theorem int_eql (w : World) : (do eqGuard .eql xt x y (.int k m) (.int k n); binOp .eql xt (.int k m) (.int k n) : Sem Value).run P w = .ok (.bool (decide (m = n))) w := by
 have : (m == n) = decide (m = n) := by by_cases h : m = n <;> simp [h]
 simp [eqGuard, binOp, Op.intCmp, this]
theorem int_neq (w : World) : (do eqGuard .neq xt x y (.int k m) (.int k n); binOp .neq xt (.int k m) (.int k n) : Sem Value).run P w = .ok (.bool (!decide (m = n))) w := by
 have : (m != n) = !decide (m = n) := by by_cases h : m = n <;> simp [h]
 simp [eqGuard, binOp, Op.intCmp, this]
theorem int_lss (w : World) : (do eqGuard .lss xt x y (.int k m) (.int k n); binOp .lss xt (.int k m) (.int k n) : Sem Value).run P w = .ok (.bool (decide (m < n))) w := by simp [eqGuard, binOp, Op.intCmp]
theorem int_leq (w : World) : (do eqGuard .leq xt x y (.int k m) (.int k n); binOp .leq xt (.int k m) (.int k n) : Sem Value).run P w = .ok (.bool (decide (m ≤ n))) w := by simp [eqGuard, binOp, Op.intCmp]
theorem int_gtr (w : World) : (do eqGuard .gtr xt x y (.int k m) (.int k n); binOp .gtr xt (.int k m) (.int k n) : Sem Value).run P w = .ok (.bool (decide (n < m))) w := by simp [eqGuard, binOp, Op.intCmp]
theorem int_geq (w : World) : (do eqGuard .geq xt x y (.int k m) (.int k n); binOp .geq xt (.int k m) (.int k n) : Sem Value).run P w = .ok (.bool (decide (n ≤ m))) w := by simp [eqGuard, binOp, Op.intCmp]
theorem bool_not {b : Bool} (w : World) : (Op.unary .not (.bool b)).run P w = .ok (.bool (!b)) w := by simp [Op.unary]
theorem int_neg (w : World) : (Op.unary .neg (.int k m)).run P w = .ok (.int k (k.wrap (0 - m))) w := by simp [Op.unary, Op.intArith]
theorem str_eql {s t : ByteArray} (w : World) : (do eqGuard .eql xt x y (.string s) (.string t); binOp .eql xt (.string s) (.string t) : Sem Value).run P w = .ok (.bool (s.toList == t.toList)) w := by simp [eqGuard, binOp, Op.stringOp]
theorem str_neq {s t : ByteArray} (w : World) : (do eqGuard .neq xt x y (.string s) (.string t); binOp .neq xt (.string s) (.string t) : Sem Value).run P w = .ok (.bool (!(s.toList == t.toList))) w := by simp [eqGuard, binOp, Op.stringOp]
end
end Go.Proofs.Ytnlocbjojbgdcaa.Vm
namespace Go.Proofs.Ytnlocbjojbgdcaa.Vm
open Go
section
variable {P : Program} {C : Ctx} {T T' : St} {Q Q' : Exit → St → Prop}
theorem vl_of {c : Code} (R : Nat → St → Prop) (step : ∀ k T, R k T → VW P C c T (andThen (fun T' => ∃ k', k' < k ∧ R k' T') Q)) : ∀ n k T, k < n → R k T → VL P C c n T Q := by
 intro n
 induction n with
 | zero => intro k T hk; omega
 | succ n ih =>
  intro k T hk hR
  refine vl_succ ((step k T hR).mono fun e T' h => ?_)
  cases e with
  | normal => obtain ⟨k', h1, h2⟩ := h; exact ih k' T' (by omega) h2
  | _ => exact h
theorem vw_loop_s {c : Code} (R : Nat → St → Prop) (k : Nat) (h0 : R k T) (step : ∀ k T, R k T → VW P C c T (andThen (fun T' => ∃ k', k' < k ∧ R k' T') Q)) : VW P C (.loop c) T Q := vw_loop (k + 1) (vl_of R step (k + 1) k T (by omega) h0)
theorem vw_seq_s {x y : Code} (R : St → Prop) (hx : VW P C x T (andThen R Q)) (hy : ∀ T', R T' → VW P C y T' Q) : VW P C (.seq x y) T Q := vw_seq (hx.mono fun e T' h => by
 cases e with
 | normal => exact hy T' h
 | _ => exact h)
end
section
variable {α : Type} {enc enc' : α → List V} {xs : List α} {E sz : Nat} {b : Bool} {z : α}
theorem row_get (enc : α → List V) (xs : List α) (z : α) {j : Nat} (h : j < xs.length) : (xs.map enc)[j]? = some (enc (xs.getD j z)) := by
 rw [List.getElem?_map, List.getElem?_eq_getElem h, List.getD_eq_getElem?_getD, List.getElem?_eq_getElem h]
 rfl
theorem row_geti (enc : α → List V) (xs : List α) (z : α) {i : Int} (h0 : 0 ≤ i) (h : i < (xs.length : Int)) : (xs.map enc)[i.toNat]? = some (enc (xs.getD i.toNat z)) := row_get enc xs z (by omega)
theorem row_len (enc : α → List V) (xs : List α) : (xs.map enc).length = xs.length := List.length_map _
theorem row_set (enc : α → List V) (xs : List α) (j : Nat) (x : α) : (xs.map enc).set j (enc x) = (xs.set j x).map enc := by rw [List.map_set]
theorem row_app (enc : α → List V) (xs ys : List α) : xs.map enc ++ ys.map enc = (xs ++ ys).map enc := (List.map_append).symm
theorem lend_own (h : ∀ x, V.lend.go (enc x) = enc' x) : (V.own E sz (xs.map enc)).lend = .row true sz (xs.map enc') := by
 have : V.lend.go2 (xs.map enc) = xs.map enc' := by
  induction xs with
  | nil => rfl
  | cons x xs ih => simp only [List.map_cons, V.lend.go2, h, ih]
 simp only [V.lend, this]
theorem lend_row (h : ∀ x, V.lend.go (enc x) = enc' x) : (V.row b sz (xs.map enc)).lend = .row true sz (xs.map enc') := by
 have : V.lend.go2 (xs.map enc) = xs.map enc' := by
  induction xs with
  | nil => rfl
  | cons x xs ih => simp only [List.map_cons, V.lend.go2, h, ih]
 simp only [V.lend, this]
theorem lendable_go_rows (h : ∀ x, V.lendable.go (enc x) = true) : V.lendable.go2 (xs.map enc) = true := by
 induction xs with
 | nil => rfl
 | cons x xs ih => simp only [List.map_cons, V.lendable.go2, h, ih, Bool.and_self]
theorem lendable_own (h : ∀ x, V.lendable.go (enc x) = true) : (V.own E sz (xs.map enc)).lendable = true := lendable_go_rows h
theorem lendable_row (h : ∀ x, V.lendable.go (enc x) = true) : (V.row b sz (xs.map enc)).lendable = true := lendable_go_rows h
theorem frz_own (h : ∀ x, V.frz.go (enc x) = enc' x) : (V.own E sz (xs.map enc)).frz = .row false sz (xs.map enc') := by
 have : V.frz.go2 (xs.map enc) = xs.map enc' := by
  induction xs with
  | nil => rfl
  | cons x xs ih => simp only [List.map_cons, V.frz.go2, h, ih]
 simp only [V.frz, this]
theorem freezable_own (h : ∀ x, V.freezable.go (enc x) = true) : (V.own E sz (xs.map enc)).freezable = true := by
 show V.freezable.go2 _ = true
 induction xs with
 | nil => rfl
 | cons x xs ih => simp only [List.map_cons, V.freezable.go2, h, ih, Bool.and_self]
theorem row_sz (h : ∀ x, (enc x).length = sz) : ∀ e, e ∈ xs.map enc → e.length = sz := fun e he => by
 obtain ⟨x, _, rfl⟩ := List.mem_map.1 he
 exact h x
end
theorem lt_of {a b : Nat} (h : Nat.ble (a + 1) b = true) : a < b := Nat.le_of_ble_eq_true h
theorem le_of {a b : Nat} (h : Nat.ble a b = true) : a ≤ b := Nat.le_of_ble_eq_true h
theorem mem_of {a : Nat} {l : List Nat} (h : l.contains a = true) : a ∈ l := List.contains_iff_mem.1 h
theorem Weak.refl {C : Ctx} {T : St} : Weak C T T := fun _ _ h => h
theorem no_some {α : Type} {r : α} (h : (none : Option α) = some r) : False := nomatch h
section
variable {P : Program} {C : Ctx} {T : St} {rd : List Nat} {o : Oper} {d : Nat}
theorem exec_pick_t {c x y : Operand} {b : Bool} {v : Value} (hop : o.op = .pick c x y) (hd : o.dst = some d) (hdn : d < C.nt) (hdl : d < T.length) (hdp : C.pin d = none) (hc : opnd C T rd c (.bool b)) (hb : b = true) (hx : opnd C T rd x v) : Exec P C o rd T [(d, false, .sc v)] := exec_pick (b := true) hop hd hdn hdl hdp (hb ▸ hc) hx
theorem exec_pick_f {c x y : Operand} {b : Bool} {v : Value} (hop : o.op = .pick c x y) (hd : o.dst = some d) (hdn : d < C.nt) (hdl : d < T.length) (hdp : C.pin d = none) (hc : opnd C T rd c (.bool b)) (hb : b = false) (hx : opnd C T rd y v) : Exec P C o rd T [(d, false, .sc v)] := exec_pick (b := false) hop hd hdn hdl hdp (hb ▸ hc) hx
end
section
variable {P : Program} {xt : TypeId} {x y : Operand} {m n : Int}
theorem wr64 (n : Int) : IntKind.i64.wrap n = RowKit.wrap64 n := by unfold RowKit.wrap64; exact IntKind.wrap_i64 n
theorem i64_add (w : World) : (do eqGuard .add xt x y (.int .i64 m) (.int .i64 n); binOp .add xt (.int .i64 m) (.int .i64 n) : Sem Value).run P w = .ok (.int .i64 (RowKit.wrap64 (m + n))) w := by rw [← wr64]; exact int_add w
theorem i64_sub (w : World) : (do eqGuard .sub xt x y (.int .i64 m) (.int .i64 n); binOp .sub xt (.int .i64 m) (.int .i64 n) : Sem Value).run P w = .ok (.int .i64 (RowKit.wrap64 (m - n))) w := by rw [← wr64]; exact int_sub w
theorem i64_mul (w : World) : (do eqGuard .mul xt x y (.int .i64 m) (.int .i64 n); binOp .mul xt (.int .i64 m) (.int .i64 n) : Sem Value).run P w = .ok (.int .i64 (RowKit.wrap64 (m * n))) w := by rw [← wr64]; exact int_mul w
theorem i64_quo (hn : n ≠ 0) (w : World) : (do eqGuard .quo xt x y (.int .i64 m) (.int .i64 n); binOp .quo xt (.int .i64 m) (.int .i64 n) : Sem Value).run P w = .ok (.int .i64 (RowKit.wrap64 (m.tdiv n))) w := by rw [← wr64]; exact int_quo hn w
theorem i64_neg (w : World) : (Op.unary .neg (.int .i64 m)).run P w = .ok (.int .i64 (RowKit.wrap64 (-m))) w := by rw [← wr64, ← Int.zero_sub]; exact int_neg w
end
section
variable {P : Program} {C : Ctx} {T : St} {rd : List Nat} {o : Oper} {d : Nat} {α : Type} {enc : α → List V} {xs : List α}
theorem exec_len_rows {s sz t e : Nat} {b : Bool} (hop : o.op = .call { callee := .builtin .len, args := #[.tmp s], argTypes := #[t] }) (hd : o.dst = some d) (hdn : d < C.nt) (hdl : d < T.length) (hdp : C.pin d = none) (ht : P.underlying t = some (.slice e)) (hs : s < C.nt) (hsr : s ∈ rd) (hx : T.at s = .row b sz (xs.map enc)) : Exec P C o rd T [(d, false, .sc (.int .i64 (xs.length : Int)))] := by
 have := exec_len (P := P) (C := C) (T := T) (rd := rd) (o := o) (d := d) s sz t (xs.map enc) hop hd hdn hdl hdp e ht ⟨hs, hsr, .inl ⟨b, hx⟩⟩
 rwa [row_len] at this
theorem exec_index_rows (z : α) {s sz t e : Nat} {b : Bool} {ix : Operand} {k : IntKind} {n : Int} (hop : o.op = .indexAddr t (.tmp s) ix) (hd : o.dst = some d) (hdn : d < C.nt) (hdl : d < T.length) (hdp : C.pin d = none) (hs : s < C.nt) (hsr : s ∈ rd) (ht : P.underlying t = some (.slice e)) (hsz : (P.info? e).map (·.size) = some sz) (hx : T.at s = .row b sz (xs.map enc)) (hi : opv C T rd (.int k n) ix) (h0 : 0 ≤ n) (h1 : n < (xs.length : Int)) :
 Exec P C o rd T [(d, false, .box b (enc (xs.getD n.toNat z)))] := exec_index_row s sz t e b (xs.map enc) ix k n _ hop hd hdn hdl hdp hs hsr ht hsz hx hi h0 (row_geti enc xs z h0 h1)
end
section
variable {P : Program} {C : Ctx} {T T' : St} {Q : Exit → St → Prop}
theorem weak_l {n : Nat} {l' : List (Nat × V)} (hn : T.length = n) (hs : subT T l') (hp : ptrsOk C.nt l' = true) : Weak C T (mkT n C.nt l') := fun a w h => weak_to hn hs hp a w h
end
theorem of_guard {p : Prop} [Decidable p] {α : Type} {x : Option α} {r : α} (h : (if p then x else none) = some r) : p ∧ x = some r := by
 by_cases hp : p
 · rw [if_pos hp] at h; exact ⟨hp, h⟩
 · rw [if_neg hp] at h; cases h
theorem of_bind {α β : Type} {x : Option α} {f : α → Option β} {r : β} (h : x.bind f = some r) : ∃ y, x = some y ∧ f y = some r := Option.bind_eq_some_iff.1 h
end Go.Proofs.Ytnlocbjojbgdcaa.Vm
namespace Go.Proofs.Ytnlocbjojbgdcaa.Vm
open Go
theorem not_t {b : Bool} (h : b = true) : (!b) = false := by rw [h]; rfl
theorem not_f {b : Bool} (h : b = false) : (!b) = true := by rw [h]; rfl
def grpOk (g : List (Nat × Nat)) (k n : Nat) : Bool := g.all fun q => (q.1 == k && q.2 == n) || decide (q.1 < k) || decide (k + n ≤ q.1)
def basesOk (C : Ctx) (k b n : Nat) : Bool := (List.range n).all fun j => C.base (k + j) == b
def readsOk (rd : List Nat) (k n : Nat) : Bool := (List.range n).all fun j => rd.contains (k + j)
def thereOk (T : St) (k n : Nat) : Bool := (List.range n).all fun j => !(T.at (k + j)).isNo
def noneOk (T : St) (k n : Nat) : Bool := (List.range n).all fun j => (T.at (k + j)).isNo
theorem isNo_eq {x : V} (h : x.isNo = true) : x = .no := by cases x <;> first | rfl | (simp [V.isNo] at h)
theorem isNo_ne {x : V} (h : (!x.isNo) = true) : x ≠ .no := by rintro rfl; simp [V.isNo] at h
theorem range_all {n : Nat} {p : Nat → Bool} (h : ((List.range n).all p) = true) {j : Nat} (hj : j < n) : p j = true := List.all_eq_true.1 h j (by simpa using hj)
section
variable {P : Program} {T : St} {rd : List Nat} {o : Oper} {d : Nat} {N : Nat} {g : List (Nat × Nat)} {pin : Nat → Option Value} {w0 : World} {S B may : Foot}
theorem grp_of {k n : Nat} (h : grpOk g k n = true) : ∀ s, k ≤ (mkC N g pin w0 S B may).base s → (mkC N g pin w0 S B may).base s < k + n → k ≤ s ∧ s < k + n := fun s h1 h2 => baseOf_in (g := g) (fun q hq => by
 have := List.all_eq_true.1 h q hq
 simp only [Bool.or_eq_true, Bool.and_eq_true, beq_iff_eq, decide_eq_true_eq] at this
 rcases this with (⟨h3, h4⟩ | h3) | h3
 · exact .inl (Prod.ext h3 h4)
 · exact .inr (.inl h3)
 · exact .inr (.inr h3)) h1 h2
theorem exec_box_p (t k m : Nat) (y : Operand) (x : V) (hop : o.op = .box t y) (hd : o.dst = some d) (hdn : d < (mkC N g pin w0 S B may).nt) (hdl : d < T.length) (hdp : (mkC N g pin w0 S B may).pin d = none) (hy : opV (mkC N g pin w0 S B may) T rd x [] y) (hok : x.okc = true) (hm : x.cells.length = m) (hk : N ≤ k) (hkl : k + m ≤ T.length) (hpos : 0 < m)
 (hr : readsOk rd k m = true) (hno : noneOk T k m = true) (hb : basesOk (mkC N g pin w0 S B may) k k m = true) (hg : grpOk g k m = true) : Exec P (mkC N g pin w0 S B may) o rd T (stores k x.cells ++ [(d, false, .at_ k)]) := by
 subst hm
 exact exec_box t k y x [] hop hd hdn hdl hdp hy hok hk hkl hpos (fun j hj => ⟨mem_of (range_all hr hj), isNo_eq (range_all hno hj), by simpa using range_all hb hj⟩) (grp_of hg) (fun s hs => by simp at hs)
theorem exec_alloc_p (t k m : Nat) (z : Value) (cs : List V) (hop : o.op = .alloc t) (hd : o.dst = some d) (hdn : d < (mkC N g pin w0 S B may).nt) (hdl : d < T.length) (hdp : (mkC N g pin w0 S B may).pin d = none) (hz : (P.info? t).bind (·.zero) = some z) (hl : lits z.cells.toList cs) (hm : cs.length = m) (hk : N ≤ k) (hkl : k + m ≤ T.length) (hpos : 0 < m)
 (hr : readsOk rd k m = true) (hno : noneOk T k m = true) (hb : basesOk (mkC N g pin w0 S B may) k k m = true) (hg : grpOk g k m = true) : Exec P (mkC N g pin w0 S B may) o rd T (stores k cs ++ [(d, false, .at_ k)]) := by
 subst hm
 exact exec_alloc t k z cs hop hd hdn hdl hdp hz hl hk hkl hpos (fun j hj => ⟨mem_of (range_all hr hj), isNo_eq (range_all hno hj), by simpa using range_all hb hj⟩) (grp_of hg)
end
section
variable {P : Program} {C : Ctx} {T : St} {rd : List Nat} {o : Oper} {d : Nat}
theorem exec_field_at_p (s t f off k b : Nat) (hop : o.op = .fieldAddr t (.tmp s) f) (hd : o.dst = some d) (hdn : d < C.nt) (hdl : d < T.length) (hdp : C.pin d = none) (hsr : s ∈ rd) (hkr : k + off ∈ rd) (hs : s < C.nt) (hf : fieldAt P t f = some (off, false)) (hx : T.at s = .at_ k) (hk : (!(T.at (k + off)).isNo) = true) (hb : C.base (k + off) = b) (hb' : C.base k = b) (hle : b ≤ k) : Exec P C o rd T [(d, false, .at_ (k + off))] :=
 exec_field_at s t f off k hop hd hdn hdl hdp hsr hkr hs hf hx (isNo_ne hk) (hb.trans hb'.symm) (hb' ▸ hle)
theorem exec_load_at_agg_p (s k t n b : Nat) (cs : List V) (hop : o.op = .load t (.tmp s)) (hd : o.dst = some d) (hdn : d < C.nt) (hdl : d < T.length) (hdp : C.pin d = none) (hsr : s ∈ rd) (hr : readsOk rd k n = true) (hs : s < C.nt) (ht : aggT P t = some true) (hsz : (P.info? t).map (·.size) = some n) (hx : T.at s = .at_ k)
 (hb : basesOk C k b n = true) (hb' : C.base k = b) (hle : b ≤ k) (hc : cellsAt T k n = cs) (hp : cs.all (fun c => c.plainB && c.free) = true) : Exec P C o rd T [(d, false, .agg cs)] := by
 have hcell : ∀ j, j < n → (T.at (k + j)).plainB = true ∧ (T.at (k + j)).free = true := fun j hj => by
  have := List.all_eq_true.1 hp (T.at (k + j)) (by rw [← hc]; exact List.mem_map.2 ⟨j, by simpa using hj, rfl⟩)
  simpa using this
 have := exec_load_at_agg (P := P) (C := C) (T := T) (rd := rd) (o := o) (d := d) [] s k t n hop hd hdn hdl hdp hsr (fun j hj => mem_of (range_all hr hj)) hs ht hsz hx (fun j hj => by have := range_all hb hj; rw [hb']; simpa using this) (hb' ▸ hle) (fun j hj => V.plainB_of (hcell j hj).1) (fun j hj => .inr (hcell j hj).2) (fun s hs => by simp at hs) (fun s hs => by simp at hs)
 rw [hc] at this
 exact this
theorem exec_store_at_p (s k t n b : Nat) (y : Operand) (x : V) (hop : o.op = .store t (.tmp s) y) (hd : o.dst = none) (hsr : s ∈ rd) (hs : s < C.nt) (hx : T.at s = .at_ k) (hsz : (P.info? t).map (·.size) = some n) (hy : opV C T rd x [] y) (hok : x.okc = true) (hn : x.cells.length = n)
 (hr : readsOk rd k n = true) (ht : thereOk T k n = true) (hb : basesOk C k b n = true) (hb' : C.base k = b) (hle : b ≤ k) (hkl : k + n ≤ T.length) : Exec P C o rd T (stores k x.cells) :=
 exec_store_at s k t n y x [] hop hd hsr hs hx hsz hy hok hn (fun j hj => ⟨mem_of (range_all hr hj), isNo_ne (range_all ht hj), by have := range_all hb hj; rw [hb']; simpa using this⟩) (hb' ▸ hle) hkl (fun s hs => by simp at hs)
end
section
variable {P : Program} {C : Ctx} {T : St} {rd : List Nat} {d : Nat}
theorem step_left_u {ops : Array Oper} {i j t d : Nat} {b b' : Bool} {o : Oper} {rd : List Nat} (ho : ops[i]? = some o) (hg : o.guard = some (j, b)) (hd : (ops[j]?).bind (·.dst) = some t) (ht : t < C.nt) (htr : t ∈ rd) (hx : (T.at t).val = some (.bool b')) (hb : b' = !b) (hod : o.dst = some d) (hdn : d < C.nt) (hdl : d < T.length) (hdp : C.pin d = none) : StepI P C ops i rd T [(d, false, .sc undef)] := fun T' a w hsm hs Q K hK => by
 have hne : (some b' == some b) = false := by rw [hb]; cases b <;> rfl
 unfold wpOp
 simp only [ho, Region.wanted, hg, yielded_eq hd ht htr hx hsm hs, hne, Bool.false_eq_true, if_false, hod]
 obtain ⟨S, F, loc, hsim⟩ := hs
 exact hK _ _ (hsim.put [] d (.sc undef) undef Foot.none hdn (by rw [hsm.1]; exact hdl) hdp (fun s hs => by simp at hs) (.refl _ _) (fun _ _ h => h) (fun _ _ h => .inl h) (fun _ _ h => h.elim) (fun s hs => by simp at hs) (.inl (.sc ..)))
theorem yielded_un {ops : Array Oper} {j t : Nat} {rd : List Nat} {T' : St} {a : Act} {w : World} (hd : (ops[j]?).bind (·.dst) = some t) (ht : t < C.nt) (htr : t ∈ rd) (hx : (T.at t).val = some undef) (hsm : Same T T' rd) (hs : Sim C T' a w) : yielded ops a.tmps j = none := by
 obtain ⟨S, F, loc, hsim⟩ := hs
 have h := hsim.value t ht (v := undef) (by rw [hsm.at_ htr]; exact hx)
 unfold yielded
 rw [hd]
 have hl : t < a.tmps.size := by rw [hsim.size]; exact ht
 simp only [Act.eval, Array.getD_eq_getD_getElem?, Array.getElem?_eq_getElem hl, Option.getD_some] at h
 simp [Array.getElem?_eq_getElem hl, h, undef]
theorem step_un {ops : Array Oper} {i j t d : Nat} {b : Bool} {o : Oper} {rd : List Nat} (ho : ops[i]? = some o) (hg : o.guard = some (j, b)) (hd : (ops[j]?).bind (·.dst) = some t) (ht : t < C.nt) (htr : t ∈ rd) (hx : (T.at t).val = some undef) (hod : o.dst = some d) (hdn : d < C.nt) (hdl : d < T.length) (hdp : C.pin d = none) : StepI P C ops i rd T [(d, false, .sc undef)] := fun T' a w hsm hs Q K hK => by
 unfold wpOp
 have hne : ((none : Option Bool) == some b) = false := rfl
 simp only [ho, Region.wanted, hg, yielded_un hd ht htr hx hsm hs, hne, Bool.false_eq_true, if_false, hod]
 obtain ⟨S, F, loc, hsim⟩ := hs
 exact hK _ _ (hsim.put [] d (.sc undef) undef Foot.none hdn (by rw [hsm.1]; exact hdl) hdp (fun s hs => by simp at hs) (.refl _ _) (fun _ _ h => h) (fun _ _ h => .inl h) (fun _ _ h => h.elim) (fun s hs => by simp at hs) (.inl (.sc ..)))
end
section
variable {P : Program} {xt : TypeId} {x y : Operand} {p q : Bool}
theorem bool_eql (ht : P.underlying xt = some .bool) (w : World) : (do eqGuard .eql xt x y (.bool p) (.bool q); binOp .eql xt (.bool p) (.bool q) : Sem Value).run P w = .ok (.bool (decide (p = q))) w := by
 have : (p == q) = decide (p = q) := by cases p <;> cases q <;> rfl
 simp [eqGuard, binOp, run_equal_bool _ _ _ _ ht, this]
theorem bool_neq (ht : P.underlying xt = some .bool) (w : World) : (do eqGuard .neq xt x y (.bool p) (.bool q); binOp .neq xt (.bool p) (.bool q) : Sem Value).run P w = .ok (.bool (!decide (p = q))) w := by
 have : (p == q) = decide (p = q) := by cases p <;> cases q <;> rfl
 simp [eqGuard, binOp, run_equal_bool _ _ _ _ ht, this]
end
end Go.Proofs.Ytnlocbjojbgdcaa.Vm
namespace Go.Proofs.Ytnlocbjojbgdcaa.Vm
open Go
section
variable {P : Program} {C : Ctx} {T : St} {rd : List Nat} {o : Oper} {d : Nat} {α : Type} {enc : α → List V} {xs ys : List α}
theorem exec_len_own {s r E sz t e : Nat} (hop : o.op = .call { callee := .builtin .len, args := #[.tmp s], argTypes := #[t] }) (hd : o.dst = some d) (hdn : d < C.nt) (hdl : d < T.length) (hdp : C.pin d = none) (ht : P.underlying t = some (.slice e)) (ho : Own1 C T rd s r E sz (xs.map enc)) : Exec P C o rd T [(d, false, .sc (.int .i64 (xs.length : Int)))] := by
 have := exec_len (P := P) (C := C) (T := T) (rd := rd) (o := o) (d := d) s sz t (xs.map enc) hop hd hdn hdl hdp e ht ⟨ho.1, ho.2.1, .inr (.inl ⟨r, E, ho⟩)⟩
 rwa [row_len] at this
theorem exec_index_own_rows {s r E sz t e : Nat} {ix : Operand} {k : IntKind} {n : Int} (hop : o.op = .indexAddr t (.tmp s) ix) (hd : o.dst = some d) (hdn : d < C.nt) (hdl : d < T.length) (hdp : C.pin d = none) (hne : r ≠ d) (ht : P.underlying t = some (.slice e)) (hsz : (P.info? e).map (·.size) = some sz) (ho : Own1 C T rd s r E sz (xs.map enc)) (hi : opv C T rd (.int k n) ix) (h0 : 0 ≤ n) (h1 : n < (xs.length : Int)) :
 Exec P C o rd T [(d, false, .ref r (T.gen r) sz n.toNat 0)] := exec_index_own s r E sz t e (xs.map enc) ix k n hop hd hdn hdl hdp hne ht hsz ho hi h0 (by rw [row_len]; omega)
theorem exec_load_ref_rows (z : α) {s r t E sz p : Nat} {n : Int} {c : V} (hop : o.op = .load t (.tmp s)) (hd : o.dst = some d) (hdn : d < C.nt) (hdl : d < T.length) (hdp : C.pin d = none) (hsr : s ∈ rd) (hrr : r ∈ rd) (hs : s < C.nt) (ht : aggT P t = some false) (hx : T.at s = .ref r (T.gen r) sz n.toNat p) (hxr : T.at r = .own E sz (xs.map enc)) (h0 : 0 ≤ n) (h1 : n < (xs.length : Int)) (hc : (enc (xs.getD n.toNat z))[p]? = some c) (hf : c.free = true) : Exec P C o rd T [(d, false, c)] :=
 exec_load_ref s r t E sz n.toNat p (xs.map enc) _ c hop hd hdn hdl hdp hsr hrr hs ht hx hxr (row_geti enc xs z h0 h1) hc hf
theorem exec_load_ref_agg_rows (z : α) {s r t m E sz p : Nat} {n : Int} {cs : List V} (hop : o.op = .load t (.tmp s)) (hd : o.dst = some d) (hdn : d < C.nt) (hdl : d < T.length) (hdp : C.pin d = none) (hsr : s ∈ rd) (hrr : r ∈ rd) (hs : s < C.nt) (ht : aggT P t = some true) (hsz : (P.info? t).map (·.size) = some m) (hx : T.at s = .ref r (T.gen r) sz n.toNat p) (hxr : T.at r = .own E sz (xs.map enc)) (h0 : 0 ≤ n) (h1 : n < (xs.length : Int)) (hc : ((enc (xs.getD n.toNat z)).drop p).take m = cs) (hn : cs.length = m) (hf : (V.agg cs).free = true) : Exec P C o rd T [(d, false, .agg cs)] :=
 exec_load_ref_agg s r t m E sz n.toNat p (xs.map enc) _ cs hop hd hdn hdl hdp hsr hrr hs ht hsz hx hxr (row_geti enc xs z h0 h1) hc hn hf
theorem exec_append_rows {s s2 r t e sz bytes : Nat} {z : Value} (hop : o.op = .call { callee := .builtin .append, args := #[.tmp s, .tmp s2], argTypes := #[t, t] }) (hd : o.dst = some d) (hdn : d < C.nt) (hdl : d < T.length) (hdp : C.pin d = none) (hrl : r < T.length) (ht : P.underlying t = some (.slice e)) (he : elemT P e z sz bytes) (ho : Own1 C T rd s r e sz (xs.map enc)) (h2 : Rowy C T rd s2 sz (ys.map enc))
 (hl : ∀ x, (enc x).length = sz) (hf : ∀ x, ((enc x).all fun c => c.free && c.shr) = true) (hby : 0 < bytes) (hb : (xs.length + ys.length) * bytes ≤ 140737488355328) : Exec P C o rd T [(r, false, .dead), (d, false, .own e sz ((xs ++ ys).map enc))] := by
 have h := exec_append (P := P) (C := C) (T := T) (rd := rd) (o := o) (d := d) s s2 r t e sz bytes z (xs.map enc) (ys.map enc) hop hd hdn hdl hdp hrl ht he ho h2 (row_sz hl) (fun el hel c hc => by
  obtain ⟨x, _, rfl⟩ := List.mem_map.1 hel
  have := List.all_eq_true.1 (hf x) c hc
  simpa using this) (by rw [row_len, row_len]; exact hb) (by
  rw [row_len, row_len]
  have : xs.length + ys.length ≤ (xs.length + ys.length) * bytes := Nat.le_mul_of_pos_right _ hby
  have h2 : (140737488355328 : Nat) ≤ maxLen := by decide
  omega)
 rwa [row_app] at h
theorem exec_build_rows {t e sz bytes n : Nat} {z : Value} {ps : Array (Nat × Operand)} {zs cs0 : List V} {us : List (V × List Nat)} (hop : o.op = .buildSlice t n ps) (hd : o.dst = some d) (hdn : d < C.nt) (hdl : d < T.length) (hdp : C.pin d = none) (ht : P.underlying t = some (.slice e)) (he : elemT P e z sz bytes) (hl0 : lits z.cells.toList zs) (hc0 : cs0 = (List.replicate n zs).flatten)
 (hp : parts C T rd (fun i => some (i * sz, sz)) cs0.length [] cs0 ps.toList us) (hes : layAll (fun i => some (i * sz, sz)) cs0 ps.toList us = (xs.map enc).flatten) (hl : ∀ x, (enc x).length = sz) (hn : (xs.map enc).length = n) (hshr : (xs.map enc).flatten.all V.shr = true) (hsm : n * sz ≤ 16777216) (hsrc : srcs us = []) : Exec P C o rd T [(d, false, .own e sz (xs.map enc))] := by
 have h := exec_buildSlice (P := P) (C := C) (T := T) (rd := rd) (o := o) (d := d) t e sz bytes n z ps zs cs0 us (xs.map enc) hop hd hdn hdl hdp ht he hl0 hc0 hp hes (row_sz hl) hn (fun c hc => List.all_eq_true.1 hshr c hc) hsm
 rw [hsrc] at h
 exact h
theorem exec_store_ref_rows (z x' : α) {s r t m E sz p : Nat} {n : Int} {y : Operand} {x : V} (hop : o.op = .store t (.tmp s) y) (hd : o.dst = none) (hsr : s ∈ rd) (hrr : r ∈ rd) (hs : s < C.nt) (hx : T.at s = .ref r (T.gen r) sz n.toNat p) (hxr : T.at r = .own E sz (xs.map enc)) (hrl : r < T.length) (h0 : 0 ≤ n) (h1 : n < (xs.length : Int))
 (hsz : (P.info? t).map (·.size) = some m) (hy : opV C T rd x [] y) (hok : x.okc = true) (hsh : x.cells.all V.shr = true) (hn : x.cells.length = m) (hpn : p + m ≤ sz) (hlay : lay (enc (xs.getD n.toNat z)) p x.cells = enc x') : Exec P C o rd T [(r, true, .own E sz ((xs.set n.toNat x').map enc))] := by
 have h := exec_store_ref (P := P) (C := C) (T := T) (rd := rd) (o := o) s r t m E sz n.toNat p y x [] (xs.map enc) _ hop hd hsr hrr hs hx hxr hrl (row_geti enc xs z h0 h1) hsz hy hok (fun c hc => List.all_eq_true.1 hsh c hc) hn hpn (fun s hs => by simp at hs)
 rw [hlay, row_set] at h
 exact h
theorem exec_build_p {t : Nat} {ps : Array (Nat × Operand)} {pl : Array (Nat × Nat)} {z : Value} {cs0 cs : List V} {us : List (V × List Nat)} (hop : o.op = .build t ps) (hd : o.dst = some d) (hdn : d < C.nt) (hdl : d < T.length) (hdp : C.pin d = none) (hz : (P.info? t).bind (·.zero) = some z) (hl : lits z.cells.toList cs0) (hpl : places P t = some pl)
 (hp : parts C T rd (pl[·]?) cs0.length [] cs0 ps.toList us) (hcs : layAll (pl[·]?) cs0 ps.toList us = cs) (hsrc : srcs us = []) : Exec P C o rd T [(d, false, .agg cs)] := by
 have h := exec_build (P := P) (C := C) (T := T) (rd := rd) (o := o) (d := d) t ps pl z cs0 us hop hd hdn hdl hdp hz hl hpl hp
 rw [hsrc, hcs] at h
 exact h
theorem lent_own {s r E sz : Nat} {enc' : α → List V} {ss : List Nat} (ho : Own1 C T rd s r E sz (xs.map enc)) (hl : ∀ x, V.lend.go (enc x) = enc' x) (hd : ∀ x, V.lendable.go (enc x) = true) (hr : ss.contains r = false) : argV C T rd ss (.row true sz (xs.map enc')) [] (.tmp s) :=
 .inr ⟨rfl, .inr (.inl ⟨.own E sz (xs.map enc), r, (lend_own hl).symm, ⟨ho.2.1, ho.1, .inr ⟨E, sz, _, rfl, ho, lendable_own hd⟩⟩, fun h => by rw [List.contains_iff_mem.2 h] at hr; cases hr⟩)⟩
end
def V.thin (c : V) : V := if c.free then c else .dead
theorem Hold.thin {w : World} {S B F : Foot} {vs : Array Value} {cs : List V} (h : Hold w S B F (.tuple vs) (.tup cs)) : Hold w S B Foot.none (.tuple vs) (.tup (cs.map V.thin)) := by
 cases h with
 | tup _ _ _ _ G hn hs hi =>
  refine .tup _ _ vs _ (fun _ => Foot.none) (by simpa using hn) (Split.none _) fun i u c hu hc => ?_
  rw [List.getElem?_map, Option.map_eq_some_iff] at hc
  obtain ⟨c0, hc0, rfl⟩ := hc
  unfold V.thin
  split
  · rename_i hf
    exact (hi i u c0 hu hc0).unfoot hf
  · exact .dead ..
theorem exec_extract_own {P : Program} {C : Ctx} {T : St} {rd : List Nat} {o : Oper} {d : Nat} (s ix : Nat) (cs cs' : List V) (c : V) (hop : o.op = .extract (.tmp s) ix) (hd : o.dst = some d) (hdn : d < C.nt) (hdl : d < T.length) (hdp : C.pin d = none) (hsr : s ∈ rd) (hs : s < C.nt) (hsl : s < T.length) (hsd : s ≠ d) (hx : T.at s = .tup cs) (hc : cs[ix]? = some c) (ht : cs.map V.thin = cs') :
 Exec P C o rd T [(s, false, .tup cs'), (d, false, c)] := by
 intro T' a w hsm ⟨S, F, loc, h⟩ Q K hK
 subst ht
 have hxs : T'.at s = .tup cs := (hsm.at_ hsr).trans hx
 have hsl' := h.slot s
 rw [hxs] at hsl'
 obtain ⟨v, h5, hh⟩ := hsl'.held (by simp) (fun _ => by simp) rfl
 have hTl := hsm.1
 generalize hIF : inner C (F s) loc s = IF at hh
 have hthin : ∃ vs, v = .tuple vs ∧ Hold w S C.B IF (.tuple vs) (.tup cs) := by
  cases hh with
  | tup _ _ vs _ G hn hs' hi => exact ⟨vs, rfl, .tup _ _ vs _ G hn hs' hi⟩
 obtain ⟨vs, rfl, hh⟩ := hthin
 have hth := hh.thin
 cases hh with
 | tup _ _ _ _ G hn hs' hi =>
 have hix := (List.getElem?_eq_some_iff.1 hc).1
 have hv : vs[ix]? = some vs[ix] := Array.getElem?_eq_getElem (by omega)
 have hr : (execOp a.eval o).run P w = .ok (.value vs[ix]) w := by simp [execOp, hop, conc_eval hs h5, Instr.extract, hv]
 unfold Oper.wp
 rw [hr]
 show K (a.put o.dst _) w
 rw [hd]
 refine hK _ _ ?_
 have hcu := hi ix _ c hv hc
 have hpl := hold_plain hcu
 have hW : ∀ t, t ∈ [s, d] ↔ t = s ∨ t = d := fun t => by simp
 have hatd : (T'.app [(s, false, .tup (cs.map V.thin)), (d, false, c)]).at d = c := St.at_last T' [(s, false, .tup (cs.map V.thin))] d false c (by omega)
 have hats : (T'.app [(s, false, .tup (cs.map V.thin)), (d, false, c)]).at s = .tup (cs.map V.thin) := by
  rw [show [(s, false, V.tup (cs.map V.thin)), (d, false, c)] = [(s, false, V.tup (cs.map V.thin))] ++ [(d, false, c)] from rfl, St.at_mid T' _ s d false c (Ne.symm hsd)]
  exact St.app_one T' s _ (by omega)
 have hnot : ∀ t, t ∉ [s, d] → (T'.app [(s, false, .tup (cs.map V.thin)), (d, false, c)]).getD t (0, .no) = T'.getD t (0, .no) := fun t ht => St.app_not T' _ t (by simpa using ht)
 have hgl : ∀ t, t ∈ [s, d] → T'.gen t < St.gen (T'.app [(s, false, .tup (cs.map V.thin)), (d, false, c)]) t := fun t ht => by
  rcases (hW t).1 ht with rfl | rfl
  · exact St.gen_lt T' _ _ (by omega) ⟨.tup (cs.map V.thin), by simp⟩
  · exact St.gen_lt T' _ _ (by omega) ⟨c, by simp⟩
 have hsub : ∀ b o', G ix b o' → F s b o' := fun b o' hg => by
  have := hs'.sub ix b o' hg
  rw [← hIF] at this
  exact this.1
 refine ⟨S, fun t => if t = d then G ix else if t = s then Foot.none else F t, loc, h.upd [s, d] hnot (by simp [Act.put]) (by simpa [Act.put] using h.defers) (fun t v' hv' => by
  rw [put_get (fun e => by rw [← e, hdp] at hv'; cases hv')]
  exact h.pins t v' hv') (.refl _ _) (fun _ _ h => h) (fun _ _ h => .inl h) (fun t ht => ?_) (fun t ht => ⟨rfl, ?_⟩) (fun _ _ _ _ => rfl) (fun t ht _ => put_get fun e => ht ((hW t).2 (.inr e.symm)))
  (fun r hr he _ => absurd he (by have := hgl r hr; omega)) (fun r hr => Nat.le_of_lt (hgl r hr)) (fun t t' ht htt b o' hb hb' => ?_) (fun t ht b o' hb => ?_) (fun t ht r g hr => ?_) (fun t ht => ?_) (fun t ht hns hx' => ?_)⟩
 · have e1 : t ≠ d := fun e => ht ((hW t).2 (.inr e))
   have e2 : t ≠ s := fun e => ht ((hW t).2 (.inl e))
   simp [e1, e2]
 · by_cases htd : t = d
   · subst htd; rw [hatd]; exact hpl.1
   · by_cases hts : t = s
     · subst hts; rw [hats]; simp
     · have := hnot t (fun hm => ((hW t).1 hm).elim hts htd)
       unfold St.at
       rw [this]
       exact ht
 · have part : ∀ t b o', (if t = d then G ix else if t = s then Foot.none else F t : Foot) b o' → (t = d ∧ F s b o') ∨ (t ≠ d ∧ t ≠ s ∧ F t b o') := fun t b o' hb => by
    by_cases h0 : t = d
    · rw [if_pos h0] at hb; exact .inl ⟨h0, hsub _ _ hb⟩
    · rw [if_neg h0] at hb
      by_cases h1 : t = s
      · rw [if_pos h1] at hb; exact hb.elim
      · rw [if_neg h1] at hb; exact .inr ⟨h0, h1, hb⟩
   rcases part t b o' hb with ⟨p1, p2⟩ | ⟨p1, p2, p3⟩ <;> rcases part t' b o' hb' with ⟨q1, q2⟩ | ⟨q1, q2, q3⟩
   · exact htt (p1.trans q1.symm)
   · exact h.apart s t' (Ne.symm q2) _ _ p2 q3
   · exact h.apart s t (Ne.symm p2) _ _ q2 p3
   · exact h.apart t t' htt _ _ p3 q3
 · rcases (hW t).1 ht with rfl | rfl
   · rw [if_neg hsd, if_pos rfl] at hb
     exact hb.elim
   · rw [if_pos rfl] at hb
     exact h.mine s b o' (hsub _ _ hb)
 · rcases (hW t).1 ht with rfl | rfl
   · rw [hats] at hr; simp [V.root] at hr
   · rw [hatd, hpl.2.2] at hr; cases hr
 · rcases (hW t).1 ht with rfl | rfl
   · rw [hats]
     refine SlotOk.plain ⟨.tuple vs, ?_, hth.mono (fun _ _ h => h) (fun _ _ h => h) fun _ _ h => h.elim⟩
     unfold conc at h5 ⊢
     rw [if_pos hs] at h5 ⊢
     rw [put_get (Ne.symm hsd)]
     exact h5
   · rw [hatd]
     refine SlotOk.plain ⟨_, ?_, hcu.mono (fun _ _ h => h) (fun _ _ h => h) fun b o' hb => ⟨?_, fun e => by have := e.1; omega⟩⟩
     · unfold conc
       rw [if_pos hdn]
       exact put_self (by rw [h.size]; exact hdn)
     · simpa using hb
 · rcases (hW t).1 ht with rfl | rfl
   · omega
   · omega
end Go.Proofs.Ytnlocbjojbgdcaa.Vm
namespace Go.Proofs.Ytnlocbjojbgdcaa.Vm
open Go
abbrev old (w : World) : Foot := fun b _ => b < w.heap.size
theorem hold_row {α : Type} {enc : α → List V} {R : α → List Value → Prop} {sz n cap : Nat} {w : World} {A : Option Addr} {xs : List α}
 (h : xs.length = n ∧ n ≤ 9223372036854775807 ∧ (0 < n → ∃ ad, A = some ad ∧ ∀ j p, xs[j]? = some p → ∃ c, c.length = sz ∧ R p c ∧ ∀ i u, c[i]? = some u → w.cell? (ad.add (j * sz + i)) = some u)) (hR : ∀ x c, R x c → enc x = c.map V.sc ∧ ∀ u, u ∈ c → u.oneCell' = true) (hc : n ≤ cap) (hl : ∀ x, (enc x).length = sz) :
 Hold w Foot.none (old w) Foot.none (.slice A n cap) (.row true sz (xs.map enc)) := by
 obtain ⟨rfl, hm, ha⟩ := h
 have key : ∀ j i e c, (xs.map enc)[j]? = some e → e[i]? = some c → ∃ a u, A = some a ∧ w.cell? (a.add (j * sz + i)) = some u ∧ u.oneCell' = true ∧ c = .sc u := fun j i e c he hc => by
  rw [List.getElem?_map, Option.map_eq_some_iff] at he
  obtain ⟨x, hx, rfl⟩ := he
  obtain ⟨ad, hA, hcell⟩ := ha (by have := (List.getElem?_eq_some_iff.1 hx).1; omega)
  obtain ⟨cs, _, hr, hu⟩ := hcell j x hx
  obtain ⟨e1, e2⟩ := hR x cs hr
  rw [e1, List.getElem?_map, Option.map_eq_some_iff] at hc
  obtain ⟨u, hui, rfl⟩ := hc
  exact ⟨ad, u, hA, hu i u hui, e2 u (List.mem_of_getElem? hui), rfl⟩
 have := Hold.row (w := w) (S := Foot.none) (old w) Foot.none true sz (xs.map enc) A cap (fun k => ((A.bind fun a => w.cell? (a.add k))).getD undef) (row_sz hl) (by rw [row_len]; exact hc) (by rw [row_len]; exact hm) (fun hp => by
  rw [row_len] at hp
  obtain ⟨ad, e, _⟩ := ha hp
  exact ⟨ad, e⟩) (fun a j i e c hA he hc => by
  obtain ⟨a', u, e1, e2, e3, _⟩ := key j i e c he hc
  rw [hA] at e1
  injection e1 with e1
  subst e1
  rw [hA]
  simp only [Option.bind_some, e2, Option.getD_some]
  exact ⟨trivial, e3, .inr ⟨trivial, World.block_lt_of_cell? w _ e2⟩⟩) fun j i e c he hc => by
  obtain ⟨a', u, e1, e2, _, rfl⟩ := key j i e c he hc
  rw [e1]
  simp only [Option.bind_some, e2, Option.getD_some]
  exact .sc ..
 rw [row_len] at this
 exact this
def holds (w : World) : List Value → List V → Prop
 | [], [] => True
 | v :: vs, x :: xs => Hold w Foot.none (old w) Foot.none v x ∧ holds w vs xs
 | _, _ => False
theorem holds.get {w : World} {vs : List Value} {xs : List V} (h : holds w vs xs) : vs.length = xs.length ∧ ∀ (i : Nat) (v : Value) (x : V), vs[i]? = some v → xs[i]? = some x → Hold w Foot.none (old w) Foot.none v x := by
 induction vs generalizing xs with
 | nil => cases xs with
  | nil => exact ⟨rfl, fun i v x hv => by simp at hv⟩
  | cons => exact h.elim
 | cons v vs ih => cases xs with
  | nil => exact h.elim
  | cons x xs =>
   obtain ⟨h1, h2⟩ := ih h.2
   refine ⟨by simp [h1], fun i v' x' hv hx => ?_⟩
   cases i with
   | zero => simp at hv hx; subst hv hx; exact h.1
   | succ i => exact h2 i v' x' (by simpa using hv) (by simpa using hx)
theorem calls_of_vc {P : Program} {f : FuncId} {args outs : List V} {u : Value} {w : World} {vs : List Value} (h : VC P f args outs (.sc u)) (hh : holds w vs args) : Calls P f vs.toArray w fun e w' => e = .returned u ∧ RowKit.Below w.heap.size w w' := by
 obtain ⟨h1, h2⟩ := hh.get
 refine Calls.mono (h w Foot.none (old w) (fun _ => Foot.none) vs ⟨h1, h2, fun _ _ _ _ _ hf => hf.elim, fun _ _ _ hf => hf.elim, fun b o hb => hb.elim (fun e => e.elim) id⟩) fun e w' ⟨v, he, hd⟩ => ?_
 obtain ⟨⟨S', F', FR, d1, _⟩, dm⟩ := hd
 have hv : v = u := d1.val_eq rfl
 refine ⟨by rw [he, hv], dm.os, dm.tape, dm.output, dm.size, fun k hk => dm.keep.block k fun o => ⟨hk, fun _ hf => hf.elim⟩⟩
end Go.Proofs.Ytnlocbjojbgdcaa.Vm
namespace Go.Proofs.Ytnlocbjojbgdcaa.Vm
open Go
def eqCell : Value → Value → Option Bool
 | .int k a, .int k' b => if k = k' then some (decide (a = b)) else none
 | .bool a, .bool b => some (decide (a = b))
 | _, _ => none
def kindOk (P : Program) (t : TypeId) : Value → Bool
 | .int _ _ => match P.underlying t with
  | some (.int _) => true
  | _ => false
 | .bool _ => match P.underlying t with
  | some .bool => true
  | _ => false
 | _ => false
def eqFlat (P : Program) (xs ys : Array Value) : List Field → Option Bool
 | [] => some true
 | f :: fs => if (f.name == "_") then none else match xs[f.offset]?, ys[f.offset]? with
  | some x, some y => if kindOk P f.type x && kindOk P f.type y then match eqCell x y, eqFlat P xs ys fs with
   | some a, some b => some (a && b)
   | _, _ => none
   else none
  | _, _ => none
theorem part_scalar {P : Program} {t : TypeId} {xs : Array Value} {off : Nat} {v : Value} (hk : kindOk P t v = true) (hx : xs[off]? = some v) (w : World) : (part t xs off).run P w = .ok v w := by
 unfold kindOk at hk
 split at hk
 · split at hk
   · rename_i hu
     simp [part, isAgg, run_underlying hu, hx]
   · cases hk
 · split at hk
   · rename_i hu
     simp [part, isAgg, run_underlying hu, hx]
   · cases hk
 · cases hk
theorem eq_scalar {P : Program} {t : TypeId} {x y : Value} {b : Bool} (hx : kindOk P t x = true) (hy : kindOk P t y = true) (h : eqCell x y = some b) (d : Nat) (w : World) : (Op.equalIn (d + 1) t x y).run P w = .ok b w := by
 unfold eqCell at h
 split at h
 · rename_i k a k' b'
   split at h
   case isFalse => cases h
   rename_i hkk
   subst hkk
   injection h with h
   subst h
   simp only [kindOk] at hx
   split at hx
   · rename_i hu
     have e : (a == b') = decide (a = b') := by by_cases h : a = b' <;> simp [h]
     cases x : P.underlying t with
     | none => rw [x] at hu; cases hu
     | some z =>
      rw [x] at hu
      injection hu with hu
      subst hu
      rw [run_equalIn_int w d t k _ a b' x, e]
   · cases hx
 · rename_i a b'
   injection h with h
   subst h
   simp only [kindOk] at hx
   split at hx
   · rename_i hu
     have e : (a == b') = decide (a = b') := by cases a <;> cases b' <;> rfl
     rw [run_equalIn_bool' w d t a b' hu, e]
   · cases hx
 · cases h
theorem eq_flat {P : Program} {xs ys : Array Value} (d : Nat) (w : World) : ∀ (fs : List Field) (b : Bool), eqFlat P xs ys fs = some b → (Op.eqFields (d + 1) xs ys fs).run P w = .ok b w := by
 intro fs
 induction fs with
 | nil => intro b h; simp [eqFlat] at h; subst h; simp [Op.eqFields]
 | cons f fs ih =>
  intro b h
  unfold eqFlat at h
  split at h
  · cases h
  · rename_i hn
    have hn' : f.name ≠ "_" := by simpa using hn
    split at h
    · rename_i x y hx hy
      split at h
      · rename_i hk
        simp only [Bool.and_eq_true] at hk
        split at h
        · rename_i a b' ha hb
          injection h with h
          subst h
          rw [Op.eqFields]
          simp only [if_pos hn', Sem.run_bind, part_scalar hk.1 hx, part_scalar hk.2 hy, eq_scalar hk.1 hk.2 ha, Result.andThen_ok]
          cases a
          · simp
          · simpa using ih b' hb
        · cases h
      · cases h
    · cases h
theorem struct_eql {P : Program} {t : TypeId} {x y : Operand} {xs ys : Array Value} {fs : Array Field} {b : Bool} (hu : P.underlying t = some (.struct fs)) (hp : P.stoodInHeld t = false) (hg : P.eqGuardType P.depth t = false) (h : eqFlat P xs ys fs.toList = some b) (w : World) :
 (do eqGuard .eql t x y (.agg xs) (.agg ys); binOp .eql t (.agg xs) (.agg ys) : Sem Value).run P w = .ok (.bool b) w := by
 have hf : P.fieldsOf t = fs := by simp [Program.fieldsOf, hu]
 have he := run_equalIn_struct (P := P) w 9999 t xs ys (by rw [hf]; exact hu) hp
 rw [hf] at he
 rw [Sem.run_bind, run_eqGuard_agg _ _ _ _ _ _ _ hg]
 simp only [Result.andThen_ok]
 rw [run_eql_struct, he, eq_flat 9998 w _ b h]
 rfl
theorem struct_neq {P : Program} {t : TypeId} {x y : Operand} {xs ys : Array Value} {fs : Array Field} {b : Bool} (hu : P.underlying t = some (.struct fs)) (hp : P.stoodInHeld t = false) (hg : P.eqGuardType P.depth t = false) (h : eqFlat P xs ys fs.toList = some b) (w : World) :
 (do eqGuard .neq t x y (.agg xs) (.agg ys); binOp .neq t (.agg xs) (.agg ys) : Sem Value).run P w = .ok (.bool (!b)) w := by
 have hf : P.fieldsOf t = fs := by simp [Program.fieldsOf, hu]
 have he := run_equalIn_struct (P := P) w 9999 t xs ys (by rw [hf]; exact hu) hp
 rw [hf] at he
 rw [Sem.run_bind, run_eqGuard_agg _ _ _ _ _ _ _ hg]
 simp only [Result.andThen_ok]
 rw [run_neq_struct, he, eq_flat 9998 w _ b h]
 rfl
theorem exec_store_own_p {P : Program} {C : Ctx} {T : St} {rd : List Nat} {o : Oper} (s k t b u r E sz : Nat) (es : List (List V)) (hop : o.op = .store t (.tmp s) (.tmp u)) (hd : o.dst = none) (hsr : s ∈ rd) (hs : s < C.nt) (hx : T.at s = .at_ k) (hsz : (P.info? t).map (·.size) = some 1) (ho : Own1 C T rd u r E sz es)
 (hr : readsOk rd k 1 = true) (ht : thereOk T k 1 = true) (hb : basesOk C k b 1 = true) (hb' : C.base k = b) (hle : b ≤ k) (hkl : k + 1 ≤ T.length) (hrl : r < T.length) (hrk : r < k ∨ k + 1 ≤ r) : Exec P C o rd T ([(r, false, .dead), (k, false, .own E sz es)]) := by
 have h := exec_store_at (P := P) (C := C) (T := T) (rd := rd) (o := o) s k t 1 (.tmp u) (.own E sz es) [r] hop hd hsr hs hx hsz ⟨ho.2.1, ho.1, .inr (.inr ⟨r, E, sz, es, rfl, ho, rfl⟩)⟩ rfl rfl (fun j hj => ⟨mem_of (range_all hr hj), isNo_ne (range_all ht hj), by have := range_all hb hj; rw [hb']; simpa using this⟩) (hb' ▸ hle) hkl (fun s hs => by
  obtain rfl : s = r := by simpa using hs
  exact ⟨hrl, hrk⟩)
 exact h
theorem ret_cell_p {P : Program} {C : Ctx} {T : St} {p k t n b : Nat} {cs : List V} (hp : p < C.nt) (hx : T.at p = .at_ k) (ht : aggT P t = some true) (hsz : (P.info? t).map (·.size) = some n) (hb : basesOk C k b n = true) (hb' : C.base k = b) (hle : b ≤ k) (hc : cellsAt T k n = cs) (hpl : cs.all V.plainB = true) :
 RetOk P C T (.cell p t) (.agg cs) ((List.range n).map (k + ·)) := by
 subst hc
 exact ret_cell hp hx ht hsz (fun j hj => by have := range_all hb hj; rw [hb']; simpa using this) (hb' ▸ hle) fun j hj => V.plainB_of (List.all_eq_true.1 hpl _ (List.mem_map.2 ⟨j, by simpa using hj, rfl⟩))
end Go.Proofs.Ytnlocbjojbgdcaa.Vm
namespace Go.Proofs.Ytnlocbjojbgdcaa.Vm
open Go
theorem weak_raise {C : Ctx} {T T2 : St} (h : ∀ s, T2.at s = T.at s ∧ T.gen s ≤ T2.gen s) : Weak C T T2 := fun a w ⟨S, F, loc, k⟩ => by
 refine ⟨S, F, loc, { k with ages := fun s r g hs => ?_, slot := fun s => ?_, cells := fun s h1 h2 => ?_ }⟩
 · rw [(h s).1] at hs
   obtain ⟨h1, h2⟩ := k.ages s r g hs
   exact ⟨Nat.le_trans h1 (h r).2, by rw [(h r).1]; exact h2⟩
 · rw [(h s).1]
   have h1 := k.slot s
   have ha := k.ages s
   revert h1 ha
   generalize T.at s = x
   intro h1 ha
   cases x <;> first
    | exact h1
    | exact ⟨h1.1, h1.2.1, by rw [(h _).1]; exact h1.2.2⟩
    | exact fun e => h1 (Nat.le_antisymm (Nat.le_trans (h _).2 (Nat.le_of_eq e)) (ha _ _ rfl).1)
 · rw [(h s).1] at h2
   exact k.cells s h1 h2
theorem St.stores_out (T : St) (k : Nat) (cs : List V) (s : Nat) (h : s < k ∨ k + cs.length ≤ s) : (T.app (stores k cs)).at s = T.at s := by
 have := St.app_not T (stores k cs) s (by
  rw [stores_fst]
  intro hm
  obtain ⟨j, h1, h2⟩ := List.mem_map.1 hm
  have := List.mem_range.1 h1
  omega)
 exact congrArg Prod.snd this
theorem stores_mem {c : V} : ∀ {k m : Nat} {cs : List V}, cs[m]? = some c → (k + m, false, c) ∈ stores k cs
 | _, _, [], h => by simp at h
 | k, 0, x :: cs, h => by
  simp at h; subst h
  exact .head _
 | k, m + 1, x :: cs, h => by
  have := stores_mem (k := k + 1) (m := m) (cs := cs) (by simpa using h)
  rw [show k + (m + 1) = k + 1 + m by omega]
  exact .tail _ this
section
variable {P : Program} {C : Ctx} {T T' : St} {a : Act} {w : World} {S : Foot} {F : Nat → Foot} {loc : Nat → Addr} {rd : List Nat} {o : Oper} {d : Nat}
theorem exec_build_arr (t e sz m : Nat) (ps : Array (Nat × Operand)) (z : Value) (cs0 : List V) (xs : List (V × List Nat)) (hop : o.op = .build t ps) (hd : o.dst = some d) (hdn : d < C.nt) (hdl : d < T.length) (hdp : C.pin d = none) (hz : (P.info? t).bind (·.zero) = some z) (hl : lits z.cells.toList cs0) (hu : P.underlying t = some (.array m e)) (hsz : (P.info? e).map (·.size) = some sz)
 (hp : parts C T rd (fun i => some (i * sz, sz)) cs0.length [] cs0 ps.toList xs) : Exec P C o rd T (deads (srcs xs) ++ [(d, false, .agg (layAll (fun i => some (i * sz, sz)) cs0 ps.toList xs))]) := by
 have hlen : ∀ s, s ∈ srcs xs → s < T.length := by
  have : ∀ (ps : List (Nat × Operand)) (xs : List (V × List Nat)) (u : List Nat) (c : List V), parts C T rd (fun i => some (i * sz, sz)) cs0.length u c ps xs → ∀ s, s ∈ srcs xs → s < T.length := by
   intro ps
   induction ps with
   | nil => intro xs u c h s hs; cases xs with
    | nil => simp [srcs] at hs
    | cons => exact h.elim
   | cons p ps ih => intro xs u c h s hs; cases xs with
    | nil => exact h.elim
    | cons x xs =>
     obtain ⟨_, _, _, h4, h5⟩ := h
     rcases List.mem_append.1 hs with hs | hs
     · exact (h4 s hs).2
     · exact ih xs _ _ h5 s hs
  exact this _ _ _ _ hp
 refine exec_of (srcs xs) _ hd hdn hdl hdp hlen fun T' a w S F loc hsm hsim => ?_
 obtain ⟨i, hi, hz'⟩ := Option.bind_eq_some_iff.1 hz
 obtain ⟨vs', e1, ⟨z1, G, z2, z3⟩, e3⟩ := parts_fill hsm hsim ps.toList xs [] z.cells cs0 Foot.none rfl (hl.cells _ _ _) (fun _ _ h => h.elim) hp
 refine ⟨.agg vs', w, S, _, ?_, .refl _ _, fun _ _ h => h, fun _ _ h => .inl h, fun b o' h => .inl h, fun s hs => (e3 s hs).1, .inl (.agg _ _ vs' _ G z1 (z2.mono fun b o' h => h.resolve_left id) (fun i u c hu hc => (z3 i u c hu hc).1) fun i u c hu hc => (z3 i u c hu hc).2)⟩
 have hmap : (ps.map fun (x : Nat × Operand) => (x.1, a.eval x.2)).toList = ps.toList.map fun p => (p.1, a.eval p.2) := by simp
 have hzr : (zeroValue t).run P w = .ok z w := by simp [zeroValue, typeInfo, hi, hz']
 simp only [execOp, hop, Instr.build, Sem.run_bind, hzr, run_underlying hu, Result.andThen_ok, size_run hsz, hmap, e1, Sem.run_pure]
theorem exec_index_arr (s t e m : Nat) (cs : List V) (c : V) (ix : Operand) (k : IntKind) (n : Int) (hop : o.op = .index t (.tmp s) ix) (hd : o.dst = some d) (hdn : d < C.nt) (hdl : d < T.length) (hdp : C.pin d = none) (hsr : s ∈ rd) (hs : s < C.nt) (hu : P.underlying t = some (.array m e)) (hsz : (P.info? e).map (·.size) = some 1) (hag : aggT P e = some false)
 (hi : opv C T rd (.int k n) ix) (h0 : 0 ≤ n) (hm : cs.length = m) (hx : T.at s = .agg cs) (hc : cs[n.toNat]? = some c) (hfr : c.free = true) : Exec P C o rd T [(d, false, c)] :=
 exec_free _ hd hdn hdl hdp fun T' a w S F loc hsm hsim => by
  have hh := hsim.held s hs ((hsm.at_ hsr).trans hx) (by simp) (fun _ => by simp) rfl
  have hie := opv_eval hi hsm hsim
  have he : a.eval (.tmp s) = a.tmps.getD s undef := rfl
  generalize a.tmps.getD s undef = v at hh he
  cases hh with
  | agg _ _ vs _ G hn hs' hok hi' =>
   have hix := (List.getElem?_eq_some_iff.1 hc).1
   have hv : vs[n.toNat]? = some vs[n.toNat] := Array.getElem?_eq_getElem (by omega)
   refine ⟨vs[n.toNat], ?_, (hi' n.toNat _ c hv hc).unfoot hfr⟩
   simp [execOp, hop, he, hie, Instr.index, asIntOf, run_underlying hu, size_run hsz, part, isAgg_run hag, h0, show n < (m : Int) by omega, hv]
theorem exec_index_at (s t e m k : Nat) (ix : Operand) (kd : IntKind) (n : Int) (hop : o.op = .indexAddr t (.tmp s) ix) (hd : o.dst = some d) (hdn : d < C.nt) (hdl : d < T.length) (hdp : C.pin d = none) (hsr : s ∈ rd) (hs : s < C.nt) (hu : P.underlying t = some (.array m e)) (hsz : (P.info? e).map (·.size) = some 1)
 (hi : opv C T rd (.int kd n) ix) (h0 : 0 ≤ n) (hm : n < (m : Int)) (hx : T.at s = .at_ k) (hkr : ∀ j, j < m → k + j ∈ rd ∧ T.at (k + j) ≠ .no ∧ C.base (k + j) = C.base k) (hle : C.base k ≤ k) : Exec P C o rd T [(d, false, .at_ (k + n.toNat))] :=
 exec_of [] (.at_ (k + n.toNat)) hd hdn hdl hdp (fun s hs => by simp at hs) fun T' a w S F loc hsm hsim => by
  have h1 := hsim.slot s
  rw [hsm.at_ hsr, hx] at h1
  obtain ⟨h2, h3, h5⟩ := h1
  obtain ⟨q1, q2, q3⟩ := hkr n.toNat (by omega)
  have hk' : T'.at (k + n.toNat) ≠ .no := by rw [hsm.at_ q1]; exact q2
  have hie := opv_eval hi hsm hsim
  refine ⟨_, w, S, Foot.none, ?_, .refl _ _, fun _ _ h => h, fun _ _ h => .inl h, fun _ _ h => h.elim, fun s hs => by simp at hs, .inr (.inl ⟨k + n.toNat, rfl, rfl, by omega, hk'⟩)⟩
  rw [hsim.loc_add h3 h5 hk' q3 hle]
  simp [execOp, hop, Instr.indexAt, Instr.sureAddr, run_underlying hu, conc_eval hs h2, hie, asIntOf, size_run hsz, h0, hm]
theorem exec_store_any (s k j t : Nat) (y : Operand) (x : V) (cs : List V) (hop : o.op = .store t (.tmp s) y) (hd : o.dst = none) (hsr : s ∈ rd) (hs : s < C.nt) (hx : T.at s = .at_ (k + j)) (hsz : (P.info? t).map (·.size) = some 1) (hy : opV C T rd x [] y) (hok : x.okc = true) (hn : x.cells = [x])
 (hj : j < cs.length) (hcs : ∀ m c, cs[m]? = some c → c = if m = j then x else T.at (k + m)) (hkr : ∀ m, m < cs.length → k + m ∈ rd ∧ T.at (k + m) ≠ .no ∧ C.base (k + m) = C.base k) (hle : C.base k ≤ k) (hkl : k + cs.length ≤ T.length) : Exec P C o rd T (stores k cs) := by
 intro T' a w hsm hsim Q K hK
 obtain ⟨q1, q2, q3⟩ := hkr j hj
 have h := exec_store_at (P := P) (C := C) (T := T) (rd := rd) (o := o) s (k + j) t 1 y x [] hop hd hsr hs hx hsz hy hok (by rw [hn]; rfl) (fun i hi => by
  have : i = 0 := by omega
  subst this
  exact ⟨q1, q2, rfl⟩) (by rw [q3]; omega) (by omega) (fun s hs => by simp at hs)
 refine h T' a w hsm hsim Q K fun a' w' h1 => hK a' w' ?_
 rw [hn] at h1
 refine weak_raise (T := T'.app (stores (k + j) [x])) (fun s => ?_) a' w' h1
 have hl : T'.length = T.length := hsm.1
 by_cases c : k ≤ s ∧ s < k + cs.length
 · obtain ⟨m, rfl⟩ : ∃ m, s = k + m := ⟨s - k, by omega⟩
   have hm : m < cs.length := by omega
   have hg : cs[m]? = some cs[m] := List.getElem?_eq_getElem hm
   have e1 := St.at_stores T' k cs m _ hg (by omega)
   refine ⟨?_, ?_⟩
   · rw [e1, hcs m _ hg]
     by_cases e : m = j
     · subst e
       rw [if_pos rfl]
       exact (St.at_stores T' (k + m) [x] 0 x rfl (by simp; omega)).symm
     · rw [if_neg e, St.stores_out _ _ _ _ (by simp; omega), hsm.at_ (hkr m hm).1]
   · by_cases e : m = j
     · subst e
       have : St.gen (T'.app (stores (k + m) [x])) (k + m) = T'.gen (k + m) + 1 := by
        show (St.gen (T'.set (k + m) (T'.gen (k + m) + 1, x)) (k + m)) = _
        unfold St.gen
        rw [List.getD_eq_getElem?_getD, List.getElem?_set_self (by omega)]; rfl
       rw [this]
       exact St.gen_lt T' (stores k cs) (k + m) (by omega) ⟨cs[m], stores_mem hg⟩
     · have : St.gen (T'.app (stores (k + j) [x])) (k + m) = T'.gen (k + m) := congrArg Prod.fst (St.app_not T' (stores (k + j) [x]) (k + m) (by simp [stores]; omega))
       rw [this]
       exact St.gen_app T' _ _
 · rw [St.stores_out _ _ _ _ (by omega), St.stores_out _ _ _ _ (by simp; omega)]
   refine ⟨rfl, ?_⟩
   have : St.gen (T'.app (stores (k + j) [x])) s = T'.gen s := congrArg Prod.fst (St.app_not T' (stores (k + j) [x]) s (by simp [stores]; omega))
   rw [this]
   exact St.gen_app T' _ _
end
end Go.Proofs.Ytnlocbjojbgdcaa.Vm
namespace Go.Proofs.Ytnlocbjojbgdcaa.Vm
open Go
section
variable {P : Program} {C : Ctx} {T : St} {o : Oper} {d : Nat} {rd : List Nat}
theorem exec_index_boxarr (s t e m : Nat) (f : Bool) (cs : List V) (c : V) (ix : Operand) (kd : IntKind) (n : Int) (hop : o.op = .indexAddr t (.tmp s) ix) (hd : o.dst = some d) (hdn : d < C.nt) (hdl : d < T.length) (hdp : C.pin d = none) (hsr : s ∈ rd) (hs : s < C.nt) (hu : P.underlying t = some (.array m e)) (hsz : (P.info? e).map (·.size) = some 1)
 (hi : opv C T rd (.int kd n) ix) (h0 : 0 ≤ n) (hm : n < (m : Int)) (hx : T.at s = .box f cs) (hc : cs[n.toNat]? = some c) : Exec P C o rd T [(d, false, .box f [c])] :=
 exec_free _ hd hdn hdl hdp fun T' a w S F loc hsm hsim => by
  have hh := hsim.held s hs ((hsm.at_ hsr).trans hx) (by simp) (fun _ => by simp) rfl
  have he : a.eval (.tmp s) = a.tmps.getD s undef := rfl
  have hie := opv_eval hi hsm hsim
  generalize a.tmps.getD s undef = v at hh he
  cases hh with
  | box _ _ _ _ ad U h1 hi' =>
   refine ⟨.pointer (some (ad.add n.toNat)), ?_, .box _ _ f _ _ (fun i => U (n.toNat + i)) (fun i c' hc' => ?_) fun i c' hc' => ?_⟩
   · simp [execOp, hop, Instr.indexAt, Instr.sureAddr, run_underlying hu, he, hie, asIntOf, size_run hsz, h0, hm]
   · have hi0 : i = 0 := by
      cases i with
      | zero => rfl
      | succ i => simp at hc'
     subst hi0
     simp at hc'
     subst hc'
     have := h1 n.toNat c hc
     have e : (ad.add n.toNat).add 0 = ad.add n.toNat := by simp [Addr.add]
     rw [e]
     exact this
   · have hi0 : i = 0 := by
      cases i with
      | zero => rfl
      | succ i => simp at hc'
     subst hi0
     simp at hc'
     subst hc'
     exact hi' _ c hc
theorem exec_index_refarr (s r t e m sz i p : Nat) (ix : Operand) (kd : IntKind) (n : Int) (hop : o.op = .indexAddr t (.tmp s) ix) (hd : o.dst = some d) (hdn : d < C.nt) (hdl : d < T.length) (hdp : C.pin d = none) (hne : r ≠ d) (hsr : s ∈ rd) (hrr : r ∈ rd) (hs : s < C.nt) (hu : P.underlying t = some (.array m e)) (hsz : (P.info? e).map (·.size) = some 1)
 (hi : opv C T rd (.int kd n) ix) (h0 : 0 ≤ n) (hm : n < (m : Int)) (hx : T.at s = .ref r (T.gen r) sz i p) : Exec P C o rd T [(d, false, .ref r (T.gen r) sz i (p + n.toNat))] :=
 exec_link _ r rfl hrr hne hd hdn hdl hdp fun T' a w S F loc hsm hsim => by
  have h1 := hsim.slot s
  have hie := opv_eval hi hsm hsim
  rw [hsm.at_ hsr, hx] at h1
  obtain ⟨u, v, e1, e2, b, n', cap, rfl, rfl⟩ := h1.linked rfl (hsm.gen_ hrr)
  refine ⟨_, .pointer (some ⟨b, i * sz + (p + n.toNat), none⟩), ?_, e1, ⟨b, n', cap, rfl, rfl⟩, (hsim.ages s r _ (by rw [hsm.at_ hsr, hx]; rfl)).2⟩
  simp [execOp, hop, Instr.indexAt, Instr.sureAddr, run_underlying hu, conc_eval hs e2, hie, asIntOf, size_run hsz, h0, hm, addr_add_of, Nat.add_assoc]
theorem same_app {T T' : St} {rd : List Nat} {s : Nat} {x : V} (h : Same T T' (s :: rd)) : Same (T.app [(s, false, x)]) (T'.app [(s, false, x)]) rd := by
 refine ⟨by rw [St.length_app, St.length_app]; exact h.1, fun t ht => ?_⟩
 rw [List.getD_eq_getElem?_getD, List.getD_eq_getElem?_getD, St.app_get, St.app_get]
 have e := h.2 t (List.mem_cons_of_mem _ ht)
 rw [List.getD_eq_getElem?_getD, List.getD_eq_getElem?_getD] at e
 by_cases hl : t < T.length
 · rw [List.getElem?_eq_getElem hl, List.getElem?_eq_getElem (by rw [h.1]; exact hl)] at e ⊢
   simp only [Option.getD_some] at e
   simp only [Option.map_some, e]
 · have hl' : ¬ t < T'.length := by rw [h.1]; exact hl
   rw [List.getElem?_eq_none (Nat.le_of_not_lt hl'), List.getElem?_eq_none (Nat.le_of_not_lt hl)]
theorem exec_frz {E : Eff} (s : Nat) (x : V) (hsl : s < T.length) (hx : T.at s = x) (hf : x.freezable = true) (h : Exec P C o rd (T.app [(s, false, x.frz)]) E) : Exec P C o (s :: rd) T ((s, false, x.frz) :: E) := fun T' a w hsm hs Q K hK => by
 have hw := weak_frz (C := C) (T := T') s x (by rw [hsm.1]; exact hsl) (by rw [hsm.at_ List.mem_cons_self]; exact hx) hf a w hs
 exact h _ a w (same_app hsm) hw Q K fun a' w' h1 => hK a' w' h1
end
end Go.Proofs.Ytnlocbjojbgdcaa.Vm
namespace Go.Proofs.Ytnlocbjojbgdcaa.Vm
open Go
theorem asInt_int (P : Program) (k : IntKind) (n : Int) (w : World) : (asIntOf (.int k n)).run P w = .ok (k, n) w := rfl
section
variable {P : Program} {C : Ctx} {T : St} {rd : List Nat} {o : Oper} {d : Nat}
theorem exec_index_str {t : TypeId} {x ix : Operand} {s : ByteArray} {k : IntKind} {n : Int} (hop : o.op = .index t x ix) (hd : o.dst = some d) (hdn : d < C.nt) (hdl : d < T.length) (hdp : C.pin d = none) (ht : P.underlying t = some .string)
 (hx : opnd C T rd x (.string s)) (hi : opnd C T rd ix (.int k n)) (h0 : 0 ≤ n) (hn : n.toNat < s.size) : Exec P C o rd T [(d, false, .sc (.int .u8 (s.get n.toNat hn).toNat))] :=
 exec_free _ hd hdn hdl hdp fun T' a w S F loc hs hsim => ⟨_, by
  have e : (if 0 ≤ n then s[n.toNat]? else none) = some (s.get n.toNat hn) := by
   rw [if_pos h0]
   exact getElem?_pos s n.toNat hn
  simp only [execOp, hop, opnd_eval hx hs hsim, opnd_eval hi hs hsim, Instr.index, Sem.run_bind, asInt_int, run_underlying ht, Result.andThen_ok, e, Sem.run_pure], .sc ..⟩
theorem sbound_run {k : IntKind} {n : Int} {y : Nat} {c : BoundsCode} (h0 : 0 ≤ n) (h1 : n ≤ y) (w : World) : (Instr.sliceBound (.int k n) y c).run P w = .ok n.toNat w := by
 simp only [Instr.sliceBound, Sem.run_bind, asInt_int, Result.andThen_ok, if_pos (show 0 ≤ n ∧ n ≤ (y : Int) from ⟨h0, h1⟩), Sem.run_pure]
def sbnd (C : Ctx) (T : St) (rd : List Nat) (z : Nat) : Option Operand → Nat → Prop
 | none, n => n = z
 | some x, n => ∃ k, opnd C T rd x (.int k (n : Int))
theorem exec_slice_str {t : TypeId} {x : Operand} {lo hi : Option Operand} {s : ByteArray} {l h : Nat} (hop : o.op = .slice t x lo hi none) (hd : o.dst = some d) (hdn : d < C.nt) (hdl : d < T.length) (hdp : C.pin d = none) (ht : P.underlying t = some .string)
 (hx : opnd C T rd x (.string s)) (hl : sbnd C T rd 0 lo l) (hh : sbnd C T rd s.size hi h) (h1 : l ≤ h) (h2 : h ≤ s.size) : Exec P C o rd T [(d, false, .sc (.string (s.extract l h)))] :=
 exec_free _ hd hdn hdl hdp fun T' a w S F loc hs hsim => ⟨_, by
  have b : (Instr.sliceBounds false s.size s.size (lo.map a.eval) (hi.map a.eval) none).run P w = .ok (l, h, s.size) w := by
   have h2' : (h : Int) ≤ (s.size : Int) := by omega
   have h1' : (l : Int) ≤ (h : Int) := by omega
   cases lo with
   | none =>
    have el : l = 0 := hl
    cases hi with
    | none =>
     have eh : h = s.size := hh
     subst el eh
     rfl
    | some y =>
     obtain ⟨k, hk⟩ := hh
     subst el
     simp only [Instr.sliceBounds, Option.map_none, Option.map_some, opnd_eval hk hs hsim, Sem.run_bind, Sem.run_pure, Result.andThen_ok, sbound_run (P := P) (Int.natCast_nonneg h) h2', Int.toNat_natCast]
   | some z =>
    obtain ⟨k', hk'⟩ := hl
    cases hi with
    | none =>
     have eh : h = s.size := hh
     subst eh
     simp only [Instr.sliceBounds, Option.map_none, Option.map_some, opnd_eval hk' hs hsim, Sem.run_bind, Sem.run_pure, Result.andThen_ok, sbound_run (P := P) (Int.natCast_nonneg l) h1', Int.toNat_natCast]
    | some y =>
     obtain ⟨k, hk⟩ := hh
     simp only [Instr.sliceBounds, Option.map_some, opnd_eval hk hs hsim, opnd_eval hk' hs hsim, Sem.run_bind, Sem.run_pure, Result.andThen_ok, sbound_run (P := P) (Int.natCast_nonneg h) h2', sbound_run (P := P) (Int.natCast_nonneg l) h1', Int.toNat_natCast]
  simp only [execOp, hop, opnd_eval hx hs hsim, Instr.sliceAt, Instr.slice, Option.map_none, Option.isSome_none, Bool.false_eq_true, if_false, Sem.run_bind, run_underlying ht, Result.andThen_ok, b, Sem.run_pure], .sc ..⟩
theorem exec_range {t : TypeId} {x : Operand} {s : ByteArray} (hop : o.op = .range t x) (hd : o.dst = some d) (hdn : d < C.nt) (hdl : d < T.length) (hdp : C.pin d = none) (ht : P.underlying t = some .string) (hx : opnd C T rd x (.string s)) : Exec P C o rd T [(d, false, .iter s 0)] :=
 exec_of [] (.iter s 0) hd hdn hdl hdp (fun s hs => by simp at hs) fun T' a w S F loc hs hsim => by
  refine ⟨.pointer (some ⟨w.heap.size, 0, none⟩), w.alloc (.stringIter s 0), S, fun b _ => b = w.heap.size, ?_, ⟨rfl, rfl, rfl, by simp, Agree.alloc w _ _ fun b o' hb => hb.1⟩, fun _ _ h => h, fun _ _ h => .inl h, fun b o' hb => .inr ⟨by omega, by subst hb; simp, fun hS => by subst hb; have := hsim.stay _ _ (.inl hS); omega⟩, fun s hs => by simp at hs, .inl ?_⟩
  · simp only [execOp, hop, opnd_eval hx hs hsim, Instr.range, Sem.run_bind, run_underlying ht, Result.andThen_ok, Sem.run_pure]
    rfl
  · exact .iter _ _ s 0 w.heap.size (by show (w.heap.push _)[w.heap.size]? = _; simp) fun _ => rfl
def wput (w : World) (b : Nat) (x : Obj) : World := { w with heap := w.heap.setIfInBounds b x }
theorem SimB.goOn {a : Act} {w : World} {S : Foot} {F : Nat → Foot} {loc : Nat → Addr} (h : SimB C T a w S F loc) {r : Nat} (hr : r < C.nt) (hrl : r < T.length) {s : ByteArray} {p q b : Nat} (hx : T.at r = .iter s p) (hv : conc C a w loc r = some (.pointer (some ⟨b, 0, none⟩))) (hb : w.heap[b]? = some (.stringIter s p)) (hF : ∀ o, F r b o) :
 SimB C (T.app [(r, true, .iter s q)]) a (wput w b (.stringIter s q)) S F loc := by
 have hne : ∀ c, c ≠ b → (wput w b (.stringIter s q)).heap[c]? = w.heap[c]? := fun c hc => by
  simp [wput, Array.getElem?_setIfInBounds_ne (Ne.symm hc)]
 have hbl : b < w.heap.size := (Array.getElem?_eq_some_iff.1 hb).1
 have heq : (wput w b (.stringIter s q)).heap[b]? = some (.stringIter s q) := by
  simp [wput, hbl]
 have hsz : (wput w b (.stringIter s q)).heap.size = w.heap.size := by simp [wput]
 have hat : (T.app [(r, true, .iter s q)]).at r = .iter s q := St.at_last T [] r true _ hrl
 have hnot : ∀ t, t ∉ [r] → (T.app [(r, true, .iter s q)]).getD t (0, .no) = T.getD t (0, .no) := fun t ht => St.app_not T _ t (by simpa using ht)
 refine h.upd [r] hnot rfl h.defers h.pins ⟨rfl, rfl, rfl, by rw [hsz]; exact Nat.le_refl _, ?_⟩ (fun _ _ h => h) (fun _ _ h => .inl h) (fun _ _ => rfl) (fun k hk => ⟨rfl, ?_⟩) (fun _ _ _ _ => rfl) (fun _ _ _ => rfl) (fun t ht _ _ => ?_) (fun t _ => St.gen_app _ _ _) (fun t u _ htu b' o' h1 h2 => h.apart t u htu b' o' h1 h2) (fun t _ b' o' h1 => ?_) (fun t ht x g hg => ?_) (fun t ht => ?_) (fun t ht hn => ?_)
 · have key : ∀ b' o', others C w S F [r] b' o' → b' ≠ b := fun b' o' hA e => by
    subst e
    have m := h.mine r b' o' (hF o')
    rcases hA.2 with hA | hA | ⟨s', hs'', hA⟩ | ⟨hA, hA'⟩
    · exact m.1 hA
    · exact m.2.1 hA
    · exact h.apart s' r (fun e => hs'' (by simp [e])) b' o' hA (hF o')
    · rcases m.2.2.2 with h5 | h5
      · omega
      · exact hA' h5
   exact ⟨fun b' hA => hne b' (key b' 0 (hA 0)), fun b' o' hA => World.cell?_of_block (hne b' (key b' o' hA)), fun b' o' hA => World.frozen?_of_block (hne b' (key b' o' hA))⟩
 · by_cases e : k = r
   · subst e; rw [hat]; simp
   · have := hnot k (by simpa using e)
     unfold St.at
     rw [this]
     exact hk
 · obtain rfl : t = r := by simpa using ht
   unfold conc
   rw [if_pos hr, if_pos hr]
 · have m := h.mine t b' o' h1
   rw [hsz]
   exact m
 · obtain rfl : t = r := by simpa using ht
   rw [hat] at hg
   simp [V.root] at hg
 · obtain rfl : t = r := by simpa using ht
   rw [hat]
   refine SlotOk.plain ⟨_, ?_, .iter _ _ s q b heq fun o' => ⟨hF o', fun q => by omega⟩⟩
   unfold conc at hv ⊢
   rw [if_pos hr] at hv ⊢
   exact hv
 · obtain rfl : t = r := by simpa using ht
   omega
theorem St.app_app (T : St) (E E' : Eff) : (T.app E).app E' = T.app (E ++ E') := by unfold St.app; rw [List.foldl_append]
theorem run_getObj_iter {w : World} {b p : Nat} {s : ByteArray} (h : w.heap[b]? = some (.stringIter s p)) : (getObj b).run P w = .ok (.stringIter s p) w := by simp [getObj, Sem.run, h]
theorem run_setObj_iter {w : World} {b p : Nat} {s : ByteArray} (x : Obj) (h : w.heap[b]? = some (.stringIter s p)) : (setObj b x).run P w = .ok () (wput w b x) := by simp [setObj, Sem.run, h, wput]
theorem next_get {a : Act} {w : World} {S : Foot} {F : Nat → Foot} {loc : Nat → Addr} {T' : St} (hsim : SimB C T' a w S F loc) {r : Nat} {s : ByteArray} {p : Nat} (hx : T'.at r = .iter s p) : ∃ b, conc C a w loc r = some (.pointer (some ⟨b, 0, none⟩)) ∧ w.heap[b]? = some (.stringIter s p) ∧ ∀ o, F r b o := by
 have hsl := hsim.slot r
 rw [hx] at hsl
 obtain ⟨v, hv, hh⟩ := hsl.held (by simp) (fun _ => by simp) rfl
 cases hh with
 | iter _ _ _ _ b hb hF => exact ⟨b, hv, hb, fun o => (hF o).1⟩
theorem exec_next {r p : Nat} {s : ByteArray} (hop : o.op = .next (.tmp r) true) (hd : o.dst = some d) (hdn : d < C.nt) (hdl : d < T.length) (hdp : C.pin d = none) (hrr : r ∈ rd) (hr : r < C.nt) (hrl : r < T.length) (hx : T.at r = .iter s p) (hp : p < s.size) :
 Exec P C o rd T [(r, true, .iter s (p + (Utf8.decode s p).2)), (d, false, .tup [.sc (.bool true), .sc (.int .i64 p), .sc (.int .i32 (Utf8.decode s p).1)])] := by
 intro T' a w hsm ⟨S, F, loc, hsim⟩ Q K hK
 obtain ⟨b, hv, hb, hF⟩ := next_get hsim ((hsm.at_ hrr).trans hx)
 have hrun : (execOp a.eval o).run P w = .ok (.value (.tuple #[.bool true, goInt p, .int .i32 (Utf8.decode s p).1])) (wput w b (.stringIter s (p + (Utf8.decode s p).2))) := by
  simp only [execOp, hop, conc_eval hr hv, Instr.next, Sem.run_bind, run_getObj_iter hb, Result.andThen_ok, if_pos hp, run_setObj_iter _ hb, Sem.run_pure]
 unfold Oper.wp
 rw [hrun]
 show K (a.put o.dst _) _
 rw [hd]
 refine hK _ _ ?_
 have h1 := hsim.goOn (q := p + (Utf8.decode s p).2) hr (by rw [hsm.1]; exact hrl) ((hsm.at_ hrr).trans hx) hv hb hF
 have h2 := h1.put [] d (.tup [.sc (.bool true), .sc (.int .i64 p), .sc (.int .i32 (Utf8.decode s p).1)]) (.tuple #[.bool true, goInt p, .int .i32 (Utf8.decode s p).1]) Foot.none hdn (by rw [St.length_app, hsm.1]; exact hdl) hdp (fun s hs => by simp at hs) (.refl _ _) (fun _ _ h => h) (fun _ _ h => .inl h) (fun _ _ h => h.elim) (fun s hs => by simp at hs) (.inl ?_)
 · rw [St.app_app] at h2
   exact h2
 · refine .tup _ _ _ _ (fun _ => Foot.none) rfl (Split.none _) fun i u c hu hc => ?_
   match i with
   | 0 => simp at hu hc; subst hu hc; exact .sc ..
   | 1 => simp at hu hc; subst hu hc; exact .sc ..
   | 2 => simp at hu hc; subst hu hc; exact .sc ..
   | i + 3 => simp at hc
theorem exec_next_over {r p : Nat} {s : ByteArray} (hop : o.op = .next (.tmp r) true) (hd : o.dst = some d) (hdn : d < C.nt) (hdl : d < T.length) (hdp : C.pin d = none) (hrr : r ∈ rd) (hr : r < C.nt) (hx : T.at r = .iter s p) (hp : s.size ≤ p) :
 Exec P C o rd T [(d, false, .tup [.sc (.bool false)])] :=
 exec_free _ hd hdn hdl hdp fun T' a w S F loc hs hsim => by
  obtain ⟨b, hv, hb, hF⟩ := next_get hsim ((hs.at_ hrr).trans hx)
  refine ⟨.tuple #[.bool false], ?_, .tup _ _ _ _ (fun _ => Foot.none) rfl (Split.none _) fun i u c hu hc => ?_⟩
  · simp only [execOp, hop, conc_eval hr hv, Instr.next, Sem.run_bind, run_getObj_iter hb, Result.andThen_ok, if_neg (show ¬ p < s.size by omega), Sem.run_pure]
  · match i with
    | 0 => simp at hu hc; subst hu hc; exact .sc ..
    | i + 1 => simp at hc
end
theorem step_part {P : Program} {C : Ctx} {T : St} {rd : List Nat} {ops : Array Oper} {i : Nat} {o : Oper} {d : Nat} (s ix : Nat) (ho : ops[i]? = some o) (hg : o.guard = none) (hop : o.op = .extract (.tmp s) ix) (hd : o.dst = some d) (hdn : d < C.nt) (hdl : d < T.length) (hdp : C.pin d = none) (hs : s < C.nt) (hix : ix < 2) (hr : T.length + s ∈ rd) : StepJ P C ops i rd T [(d, false, .dead)] := by
 intro T' a w hsm hshp ⟨S, F, loc, h⟩ Q K hK
 have hp := hshp s (by rw [hsm.1]; exact hr)
 obtain ⟨cs, hxs, hcs⟩ : ∃ cs, T'.at s = .tup cs ∧ 2 ≤ cs.length := by
  cases hx : T'.at s <;> rw [hx] at hp <;> first | cases hp | exact ⟨_, rfl, Nat.le_of_ble_eq_true hp⟩
 have hsl' := h.slot s
 rw [hxs] at hsl'
 obtain ⟨v, h5, hh⟩ := hsl'.held (by simp) (fun _ => by simp) rfl
 cases hh with
 | tup _ _ vs _ G hn hs' hi =>
 have hv : vs[ix]? = some vs[ix] := Array.getElem?_eq_getElem (by omega)
 have hr : (execOp a.eval o).run P w = .ok (.value vs[ix]) w := by simp [execOp, hop, conc_eval hs h5, Instr.extract, hv]
 unfold wpOp
 simp only [ho, Region.wanted, hg, if_true]
 refine .inl ?_
 unfold Oper.wp
 rw [hr]
 show K (a.put o.dst _) w
 rw [hd]
 exact hK _ _ (h.put [] d .dead _ Foot.none hdn (by rw [hsm.1]; exact hdl) hdp (fun s hs => by simp at hs) (.refl _ _) (fun _ _ h => h) (fun _ _ h => .inl h) (fun _ _ h => h.elim) (fun s hs => by simp at hs) (.inl (.dead ..)))
theorem exec_extract_part {P : Program} {C : Ctx} {T : St} {rd : List Nat} {o : Oper} {d : Nat} (s ix : Nat) (cs cs' : List V) (c : V) (hop : o.op = .extract (.tmp s) ix) (hd : o.dst = some d) (hdn : d < C.nt) (hdl : d < T.length) (hdp : C.pin d = none) (hsr : s ∈ rd) (hs : s < C.nt) (hsl : s < T.length) (hsd : s ≠ d) (hx : T.at s = .tup cs) (hc : cs[ix]? = some c) (ht : cs.set ix .dead = cs') :
 Exec P C o rd T [(s, false, .tup cs'), (d, false, c)] := by
 intro T' a w hsm ⟨S, F, loc, h⟩ Q K hK
 subst ht
 have hxs : T'.at s = .tup cs := (hsm.at_ hsr).trans hx
 have hsl' := h.slot s
 rw [hxs] at hsl'
 obtain ⟨v, h5, hh⟩ := hsl'.held (by simp) (fun _ => by simp) rfl
 have hTl := hsm.1
 generalize hIF : inner C (F s) loc s = IF at hh
 have hthin : ∃ vs, v = .tuple vs ∧ Hold w S C.B IF (.tuple vs) (.tup cs) := by
  cases hh with
  | tup _ _ vs _ G hn hs' hi => exact ⟨vs, rfl, .tup _ _ vs _ G hn hs' hi⟩
 obtain ⟨vs, rfl, hh⟩ := hthin
 cases hh with
 | tup _ _ _ _ G hn hs' hi =>
 have hix := (List.getElem?_eq_some_iff.1 hc).1
 have hv : vs[ix]? = some vs[ix] := Array.getElem?_eq_getElem (by omega)
 have hr : (execOp a.eval o).run P w = .ok (.value vs[ix]) w := by simp [execOp, hop, conc_eval hs h5, Instr.extract, hv]
 unfold Oper.wp
 rw [hr]
 show K (a.put o.dst _) w
 rw [hd]
 refine hK _ _ ?_
 have hcu := hi ix _ c hv hc
 have hpl := hold_plain hcu
 have hW : ∀ t, t ∈ [s, d] ↔ t = s ∨ t = d := fun t => by simp
 have hatd : (T'.app [(s, false, .tup (cs.set ix .dead)), (d, false, c)]).at d = c := St.at_last T' [(s, false, .tup (cs.set ix .dead))] d false c (by omega)
 have hats : (T'.app [(s, false, .tup (cs.set ix .dead)), (d, false, c)]).at s = .tup (cs.set ix .dead) := by
  rw [show [(s, false, V.tup (cs.set ix .dead)), (d, false, c)] = [(s, false, V.tup (cs.set ix .dead))] ++ [(d, false, c)] from rfl, St.at_mid T' _ s d false c (Ne.symm hsd)]
  exact St.app_one T' s _ (by omega)
 have hnot : ∀ t, t ∉ [s, d] → (T'.app [(s, false, .tup (cs.set ix .dead)), (d, false, c)]).getD t (0, .no) = T'.getD t (0, .no) := fun t ht => St.app_not T' _ t (by simpa using ht)
 have hgl : ∀ t, t ∈ [s, d] → T'.gen t < St.gen (T'.app [(s, false, .tup (cs.set ix .dead)), (d, false, c)]) t := fun t ht => by
  rcases (hW t).1 ht with rfl | rfl
  · exact St.gen_lt T' _ _ (by omega) ⟨.tup (cs.set ix .dead), by simp⟩
  · exact St.gen_lt T' _ _ (by omega) ⟨c, by simp⟩
 have hsub : ∀ b o', G ix b o' → F s b o' := fun b o' hg => by
  have := hs'.sub ix b o' hg
  rw [← hIF] at this
  exact this.1
 refine ⟨S, fun t => if t = d then G ix else if t = s then (fun b o' => F s b o' ∧ ¬ G ix b o') else F t, loc, h.upd [s, d] hnot (by simp [Act.put]) (by simpa [Act.put] using h.defers) (fun t v' hv' => by
  rw [put_get (fun e => by rw [← e, hdp] at hv'; cases hv')]
  exact h.pins t v' hv') (.refl _ _) (fun _ _ h => h) (fun _ _ h => .inl h) (fun t ht => ?_) (fun t ht => ⟨rfl, ?_⟩) (fun _ _ _ _ => rfl) (fun t ht _ => put_get fun e => ht ((hW t).2 (.inr e.symm)))
  (fun r hr he _ => absurd he (by have := hgl r hr; omega)) (fun r hr => Nat.le_of_lt (hgl r hr)) (fun t t' ht htt b o' hb hb' => ?_) (fun t ht b o' hb => ?_) (fun t ht r g hr => ?_) (fun t ht => ?_) (fun t ht hns hx' => ?_)⟩
 · have e1 : t ≠ d := fun e => ht ((hW t).2 (.inr e))
   have e2 : t ≠ s := fun e => ht ((hW t).2 (.inl e))
   simp [e1, e2]
 · by_cases htd : t = d
   · subst htd; rw [hatd]; exact hpl.1
   · by_cases hts : t = s
     · subst hts; rw [hats]; simp
     · have := hnot t (fun hm => ((hW t).1 hm).elim hts htd)
       unfold St.at
       rw [this]
       exact ht
 · have part : ∀ t b o', (if t = d then G ix else if t = s then (fun b o' => F s b o' ∧ ¬ G ix b o') else F t : Foot) b o' → (t = d ∧ G ix b o') ∨ (t = s ∧ F s b o' ∧ ¬ G ix b o') ∨ (t ≠ d ∧ t ≠ s ∧ F t b o') := fun t b o' hb => by
    by_cases h0 : t = d
    · rw [if_pos h0] at hb; exact .inl ⟨h0, hb⟩
    · rw [if_neg h0] at hb
      by_cases h1 : t = s
      · rw [if_pos h1] at hb; exact .inr (.inl ⟨h1, hb⟩)
      · rw [if_neg h1] at hb; exact .inr (.inr ⟨h0, h1, hb⟩)
   rcases part t b o' hb with ⟨p1, p2⟩ | ⟨p1, p2⟩ | ⟨p1, p2, p3⟩ <;> rcases part t' b o' hb' with ⟨q1, q2⟩ | ⟨q1, q2⟩ | ⟨q1, q2, q3⟩
   · exact htt (p1.trans q1.symm)
   · exact q2.2 p2
   · exact h.apart s t' (Ne.symm q2) _ _ (hsub _ _ p2) q3
   · exact p2.2 q2
   · exact htt (p1.trans q1.symm)
   · exact h.apart s t' (Ne.symm q2) _ _ p2.1 q3
   · exact h.apart s t (Ne.symm p2) _ _ (hsub _ _ q2) p3
   · exact h.apart s t (Ne.symm p2) _ _ q2.1 p3
   · exact h.apart t t' htt _ _ p3 q3
 · rcases (hW t).1 ht with rfl | rfl
   · rw [if_neg hsd, if_pos rfl] at hb
     exact h.mine t b o' hb.1
   · rw [if_pos rfl] at hb
     exact h.mine s b o' (hsub _ _ hb)
 · rcases (hW t).1 ht with rfl | rfl
   · rw [hats] at hr; simp [V.root] at hr
   · rw [hatd, hpl.2.2] at hr; cases hr
 · rcases (hW t).1 ht with rfl | rfl
   · rw [hats]
     have hdie : Hold w S C.B (fun b o' => F t b o' ∧ ¬ G ix b o') (.tuple vs) (.tup (cs.set ix .dead)) := by
      refine .tup _ _ vs _ (fun k => if k = ix then Foot.none else G k) (by simpa using hn) ⟨fun k b o' hb => ?_, fun k k' hk b o' hb hb' => ?_⟩ fun i u c0 hu hc0 => ?_
      · by_cases e : k = ix
        · rw [if_pos e] at hb; exact hb.elim
        · rw [if_neg e] at hb
          have := hs'.sub k b o' hb
          rw [← hIF] at this
          exact ⟨this.1, fun q => hs'.apart k ix e b o' hb q⟩
      · by_cases e : k = ix
        · rw [if_pos e] at hb; exact hb.elim
        · by_cases e' : k' = ix
          · rw [if_pos e'] at hb'; exact hb'.elim
          · rw [if_neg e] at hb
            rw [if_neg e'] at hb'
            exact hs'.apart k k' hk b o' hb hb'
      · by_cases e : i = ix
        · rw [if_pos e]
          subst e
          rw [List.getElem?_set_self hix] at hc0
          injection hc0 with hc0
          subst hc0
          exact .dead ..
        · rw [if_neg e]
          rw [List.getElem?_set_ne (Ne.symm e)] at hc0
          exact hi i u c0 hu hc0
     refine SlotOk.plain ⟨.tuple vs, ?_, hdie.mono (fun _ _ h => h) (fun _ _ h => h) fun b o' hb => ⟨by rw [if_neg hsd, if_pos rfl]; exact hb, fun e => by have := e.1; omega⟩⟩
     unfold conc at h5 ⊢
     rw [if_pos hs] at h5 ⊢
     rw [put_get (Ne.symm hsd)]
     exact h5
   · rw [hatd]
     refine SlotOk.plain ⟨_, ?_, hcu.mono (fun _ _ h => h) (fun _ _ h => h) fun b o' hb => ⟨?_, fun e => by have := e.1; omega⟩⟩
     · unfold conc
       rw [if_pos hdn]
       exact put_self (by rw [h.size]; exact hdn)
     · simpa using hb
 · rcases (hW t).1 ht with rfl | rfl
   · omega
   · omega
end Go.Proofs.Ytnlocbjojbgdcaa.Vm
namespace Go.Proofs.Ytnlocbjojbgdcaa.Vm
open Go
def strVs (s : ByteArray) : List (List V) := s.data.toList.map fun b => [.sc (.int .u8 b.toNat)]
theorem strVs_length (s : ByteArray) : (strVs s).length = s.size := by rw [strVs, List.length_map, Array.length_toList]; rfl
theorem strCells_get (s : ByteArray) (j : Nat) : (Lib.strCells s)[j]? = (s.data.toList[j]?).map fun b => Value.int .u8 b.toNat := by rw [Lib.strCells, List.getElem?_map]
theorem append_str_run {P : Program} {w : World} {t u ty e : Nat} (ht : P.underlying t = some (.slice e)) (hu : P.underlying u = some .string) (he : elemT P e (.int .u8 0) 1 1) {v : Value} {n : Nat} {xs : List Value} (hown : w.ownsRow 0 e 1 v n xs) (s : ByteArray)
 (hb : n + s.size ≤ 140737488355328) (h63 : n + s.size ≤ maxLen) :
 ∃ v' w', (Builtin.append_ #[t, u] ty #[v, .string s]).run P w = .ok v' w' ∧ w'.ownsRow 0 e 1 v' (n + s.size) (xs ++ Lib.strCells s) ∧ w.grownBy w' v.ownBlock ∧ (v'.ownBlock = v.ownBlock ∨ v'.ownBlock = some w.heap.size ∧ w.heap.size < w'.heap.size) := by
 obtain ⟨i, hi, hz, hs, hby⟩ := he.get
 obtain ⟨v', w', hr, h2, h3, h4⟩ := Lib.run_append_own_string (P := P) w 0 t u ty e i ht hu hi hz hs hby v n xs hown s h63 hb (Nat.zero_le _)
 refine ⟨v', w', hr, h2, h3, ?_⟩
 simp only [maxLen] at h63
 have hxl : xs.length = n := by simpa using hown.1
 rcases hown.2 with ⟨rfl, rfl⟩ | ⟨g, cap, cur, rfl, hbg, hg, hnc, hcm, hcs, htake⟩
 · by_cases hm : s.size = 0
   · rw [h4.2 ⟨rfl, hm⟩]; exact .inl rfl
   · have := run_append_nil_string (P := P) w t u ty e i (.int .u8 0) ht hu hi hz s (by omega) (by omega) (by rw [hby]; omega)
     rw [this] at hr
     injection hr with e1 e2
     subst e1 e2
     exact .inr ⟨rfl, by simp⟩
 · by_cases hroom : n + s.size ≤ cap
   · have hcc : cur.size = cap := by simpa using hcs
     have := Lib.run_append_room_string (P := P) w t u ty e i ht hu hi hs g n cap cur hg s hroom (by omega)
     rw [this] at hr
     injection hr with e1 e2
     subst e1
     exact .inl rfl
   · have := Lib.run_append_grow_string (P := P) w t u ty e i (.int .u8 0) ht hu hi hz ⟨g, 0, none⟩ n cap xs (by rw [hs]; simpa using hxl) (hown.cells (g := g) rfl) s (by omega) (by omega) (by rw [hby]; exact growslice_fits (by omega) (by omega))
     rw [this] at hr
     injection hr with e1 e2
     subst e1 e2
     exact .inr ⟨rfl, by simp⟩
section
variable {P : Program} {C : Ctx} {T : St} {rd : List Nat} {o : Oper} {d : Nat}
theorem exec_append_str {s r t u e : Nat} {x : Operand} {es : List (List V)} {str : ByteArray} (hop : o.op = .call { callee := .builtin .append, args := #[.tmp s, x], argTypes := #[t, u] }) (hd : o.dst = some d) (hdn : d < C.nt) (hdl : d < T.length) (hdp : C.pin d = none) (hrl : r < T.length)
 (ht : P.underlying t = some (.slice e)) (hu : P.underlying u = some .string) (he : elemT P e (.int .u8 0) 1 1) (ho : Own1 C T rd s r e 1 es) (hx : opnd C T rd x (.string str)) (hb : es.length + str.size ≤ 140737488355328) (h63 : es.length + str.size ≤ maxLen) :
 Exec P C o rd T [(r, false, .dead), (d, false, .own e 1 (es ++ strVs str))] :=
 exec_of [r] _ hd hdn hdl hdp (fun s hs => by rw [List.mem_singleton.1 hs]; exact hrl) fun T' a w S F loc hsm hsim => by
  obtain ⟨e1, _, _, v, e2, _, hh⟩ := ho.get hsm hsim
  have e3 := opnd_eval hx hsm hsim
  have hmine : ∀ s b o', inner C (F s) loc s b o' → b < w.heap.size := fun s b o' h => (hsim.mine s b o' h.1).2.2.1
  have hown : ∃ us, w.ownsRow 0 e 1 v es.length us ∧ ∀ b, v.ownBlock = some b → ∀ o', inner C (F r) loc r b o' := by
   cases hh with
   | own _ _ _ _ _ _ us G hz hp how hFv hs hG hone hi => exact ⟨us, how, hFv⟩
  obtain ⟨us, how, hFv⟩ := hown
  obtain ⟨v', w', hrun, hr1, hr2, hr3⟩ := append_str_run (P := P) (ty := o.type) ht hu he how str hb h63
  have hmv : Agree w w' (spare C w F loc [r]) := Agree.grown hr2 _ fun b o' h => ⟨h.1, fun e' => h.2 r (by simp) (hFv b e'.symm o')⟩
  refine ⟨v', w', S, fun b o' => (∃ s, s ∈ [r] ∧ inner C (F s) loc s b o') ∨ b = w.heap.size ∧ w.heap.size < w'.heap.size, ?_, ⟨hr2.os, hr2.tape, hr2.output, hr2.size, hmv⟩, fun _ _ h => h, fun _ _ h => .inl h, fun b o' h => ?_, fun s hs => ?_, .inl ?_⟩
  · simp only [execOp, hop, resolve, invoke, builtin, Sem.run_bind, Sem.run_pure, Result.andThen_ok, List.map_toArray, List.map_cons, List.map_nil, e2, e3, hrun]
  · rcases h with h | ⟨rfl, h⟩
    · exact .inl h
    · exact .inr ⟨Nat.le_refl _, h, fun hS => by have := hsim.stay _ _ (.inl hS); omega⟩
  · rw [List.mem_singleton.1 hs, e1]; simp
  · have one : ∀ (j i : Nat) (el : List V) (c : V) (u : Value), (strVs str)[j]? = some el → el[i]? = some c → (Lib.strCells str)[j * 1 + i]? = some u → Hold w' S Foot.none Foot.none u c := fun j i el c u hel hc hu => by
     rw [strVs, List.getElem?_map] at hel
     obtain ⟨b, hb, rfl⟩ := Option.map_eq_some_iff.1 hel
     have hi : i = 0 := by
      have := (List.getElem?_eq_some_iff.1 hc).1
      simp at this; omega
     subst hi
     rw [Nat.mul_one, Nat.add_zero, strCells_get, hb] at hu
     simp only [List.getElem?_cons_zero, Option.some.injEq] at hc
     simp only [Option.map_some, Option.some.injEq] at hu
     subst hc hu
     exact .sc ..
    refine hh.append (news := Lib.strCells str) (es2 := strVs str) (fun us' hus' => by rw [owns_unique how hus', strVs_length]; exact ⟨hr1, hr2, hr3⟩) (fun e he => ?_) (fun u hu => Lib.strCells_oneCell str u hu) (fun _ => Foot.none) (fun _ _ _ _ _ h => h.elim) one (fun b o' h => .inl ⟨r, by simp, h⟩) (fun k b o' h => h.elim) (fun h o' => .inr ⟨rfl, h⟩) (fun b o' h => hmine r b o' h) (fun b o' hS h => (hsim.mine r b o' h.1).1 hS) (fun b o' hS => hsim.stay b o' (.inl hS))
    rw [strVs] at he
    obtain ⟨b, _, rfl⟩ := List.mem_map.1 he
    rfl
theorem exec_bytes_str {s src dst e : Nat} {xs : List Int} (hop : o.op = .convert src dst (.tmp s)) (hd : o.dst = some d) (hdn : d < C.nt) (hdl : d < T.length) (hdp : C.pin d = none)
 (hs : P.underlying src = some (.slice e)) (he : P.underlying e = some (.int .u8)) (hdst : P.underlying dst = some .string) (hr : Rowy C T rd s 1 (xs.map fun n => [V.sc (.int .u8 n)])) : Exec P C o rd T [(d, false, .sc (.string (strOfNums xs)))] :=
 exec_free _ hd hdn hdl hdp fun T' a w S F loc hsm hsim => ⟨_, by
  obtain ⟨v, A, cap, ev, rv⟩ := hr.get hsm hsim
  have e3 : v = .slice A xs.length cap := by rw [rv.eq, List.length_map]
  subst e3
  have cl : ∀ j, j < xs.length → ∃ ad, A = some ad ∧ w.cell? (ad.add j) = some (.int .u8 (xs.getD j 0)) := fun j hj => by
   obtain ⟨ad, u, h1, h2, h3, h4⟩ := rv.cell j 0 [V.sc (.int .u8 (xs.getD j 0))] _ (by rw [List.getElem?_map, List.getElem?_eq_getElem hj]; simp [List.getD, List.getElem?_eq_getElem hj]) rfl
   refine ⟨ad, h1, ?_⟩
   rw [Nat.mul_one, Nat.add_zero] at h2
   rw [h2]
   cases h4 rfl
   rfl
  have hc : (convert src dst (.slice A xs.length cap)).run P w = .ok (.string (strOfNums xs)) w := by
   cases A with
   | none =>
    have h0 : xs = [] := by
     cases xs with
     | nil => rfl
     | cons x xs => obtain ⟨_, h, _⟩ := cl 0 (by simp); cases h
    subst h0
    exact run_convert_bytes_nil w src e hs he _ _ dst hdst
   | some ad =>
    have hl : (loadCells ad xs.length).run P w = .ok (xs.map (Value.int .u8)).toArray w := by
     have := run_loadCells_list (P := P) w ad (xs.map (Value.int .u8)) (fun j v hj => by
      have hjl : j < xs.length := by
       have := (List.getElem?_eq_some_iff.1 hj).1
       simpa using this
      obtain ⟨ad', h1, h2⟩ := cl j hjl
      injection h1 with h1
      subst h1
      rw [h2]
      rw [List.getElem?_map, List.getElem?_eq_getElem hjl] at hj
      simp only [Option.map_some, Option.some.injEq] at hj
      subst hj
      simp [List.getD, List.getElem?_eq_getElem hjl])
     simpa using this
    rw [run_convert_bytes_string w src dst e _ xs.length cap hs he hdst, run_bytesToString w _ xs.length cap xs hl, foldl_push_bytes]
    simp [strOfNums, ByteArray.empty, ByteArray.emptyWithCapacity]
    rfl
  simp only [execOp, hop, ev, hc, Sem.run_bind, Sem.run_pure, Result.andThen_ok], .sc ..⟩
end
end Go.Proofs.Ytnlocbjojbgdcaa.Vm
namespace Go.Proofs.Ytnlocbjojbgdcaa.Vm
open Go
universe u v
abbrev _root_.Option.ob {α : Type u} {β : Type v} (x : Option α) (f : α → Option β) : Option β := match x with
 | some a => f a
 | none => none
theorem of_ob {α : Type u} {β : Type v} {x : Option α} {f : α → Option β} {r : β} (h : x.ob f = some r) : ∃ a, x = some a ∧ f a = some r := by
 cases x with
 | none => cases h
 | some a => exact ⟨a, rfl, h⟩
abbrev _root_.bsel {α : Sort u} (b : Bool) (x y : α) : α := match b with
 | true => x
 | false => y
theorem bsel_t {β : Type v} {x y : β} {r : β} (h : bsel true x y = r) : x = r := h
theorem bsel_f {β : Type v} {x y : β} {r : β} (h : bsel false x y = r) : y = r := h
theorem of_bsel {b : Bool} {β : Type v} {x : Option β} {r : β} (h : bsel b x none = some r) : b = true ∧ x = some r := by
 cases b with
 | true => exact ⟨rfl, h⟩
 | false => cases h
abbrev _root_.decB {p : Prop} {β : Type v} (i : Decidable p) (x : p → Option β) : Option β := match i with
 | .isTrue h => x h
 | .isFalse _ => none
theorem of_decB {p : Prop} {β : Type v} {i : Decidable p} {x : p → Option β} {r : β} (h : decB i x = some r) : ∃ hp : p, x hp = some r := by
 cases i with
 | isTrue hp => exact ⟨hp, h⟩
 | isFalse _ => cases h
inductive Ty where
 | i (k : IntKind)
 | b
 | s
 | row (f : Bool) (c : Ty)
 | own (E : Nat) (c : Ty)
 | ptr (f : Bool) (c : Ty)
 | cons (a r : Ty)
 deriving DecidableEq
@[reducible] def Ty.den : Ty → Type
 | .i _ => Int
 | .b => Bool
 | .s => ByteArray
 | .row _ c => List c.den
 | .own _ c => List c.den
 | .ptr _ c => c.den
 | .cons a r => a.den × r.den
def Ty.n : Ty → Nat
 | .cons a r => a.n + r.n
 | _ => 1
def enc : (t : Ty) → t.den → List V
 | .i k, x => [.sc (.int k x)]
 | .b, x => [.sc (.bool x)]
 | .s, x => [.sc (.string x)]
 | .row f c, xs => [.row f c.n (xs.map (enc c))]
 | .own E c, xs => [.own E c.n (xs.map (enc c))]
 | .ptr f c, x => [.box f (enc c x)]
 | .cons a r, x => enc a x.1 ++ enc r x.2
theorem enc_length : ∀ (t : Ty) (x : t.den), (enc t x).length = t.n
 | .i _, _ | .b, _ | .s, _ | .row _ _, _ | .own _ _, _ | .ptr _ _, _ => rfl
 | .cons a r, x => by simp [enc, Ty.n, enc_length a, enc_length r]
theorem Ty.n_pos : ∀ t : Ty, 0 < t.n
 | .i _ | .b | .s | .row _ _ | .own _ _ | .ptr _ _ => Nat.one_pos
 | .cons a r => by have := Ty.n_pos a; simp only [Ty.n]; omega
def Ty.leaf : Ty → Bool
 | .cons _ _ => false
 | _ => true
def Ty.flat : Ty → Bool
 | .cons a r => a.leaf && r.flat
 | _ => true
def Ty.free : Ty → Bool
 | .own _ _ => false
 | .cons a r => a.free && r.free
 | _ => true
theorem enc_free : ∀ (t : Ty) (x : t.den), t.free = true → V.free.go (enc t x) = true
 | .i _, _, _ | .b, _, _ | .s, _, _ | .row _ _, _, _ | .ptr _ _, _, _ => rfl
 | .own _ _, _, h => by simp [Ty.free] at h
 | .cons a r, x, h => by
  simp only [Ty.free, Bool.and_eq_true] at h
  have h1 := enc_free a x.1 h.1
  have h2 := enc_free r x.2 h.2
  have key : ∀ (l l' : List V), V.free.go l = true → V.free.go l' = true → V.free.go (l ++ l') = true := by
   intro l l' hl hl'
   induction l with
   | nil => exact hl'
   | cons c l ih => simp only [V.free.go, Bool.and_eq_true, List.cons_append] at hl ⊢; exact ⟨hl.1, ih hl.2⟩
  exact key _ _ h1 h2
def Ty.shr : Ty → Bool
 | .row true _ | .ptr true _ => false
 | .cons a r => a.shr && r.shr
 | _ => true
theorem enc_shr : ∀ (t : Ty) (x : t.den), t.shr = true → ∀ c, c ∈ enc t x → c.shr = true
 | .i _, _, _ | .b, _, _ | .s, _, _ | .own _ _, _, _ | .row false _, _, _ | .ptr false _, _, _ => fun c hc => by
  simp only [enc, List.mem_singleton] at hc; subst hc; rfl
 | .row true _, _, h | .ptr true _, _, h => by simp [Ty.shr] at h
 | .cons a r, x, h => fun c hc => by
  simp only [Ty.shr, Bool.and_eq_true] at h
  rcases List.mem_append.1 hc with hc | hc
  · exact enc_shr a x.1 h.1 c hc
  · exact enc_shr r x.2 h.2 c hc
def Ty.lend : Ty → Ty
 | .row _ c => .row true c.lend
 | .own _ c => .row true c.lend
 | .ptr _ c => .ptr true c.lend
 | .cons a r => .cons a.lend r.lend
 | t => t
def Ty.frz : Ty → Ty
 | .own _ c => .row false c.frz
 | .cons a r => .cons a.frz r.frz
 | t => t
theorem lend_den : ∀ t : Ty, t.lend.den = t.den
 | .i _ | .b | .s => rfl
 | .row _ c | .own _ c => by simp only [Ty.lend, Ty.den, lend_den c]
 | .ptr _ c => by simp only [Ty.lend, Ty.den, lend_den c]
 | .cons a r => by simp only [Ty.lend, Ty.den, lend_den a, lend_den r]
theorem frz_den : ∀ t : Ty, t.frz.den = t.den
 | .i _ | .b | .s | .row _ _ | .ptr _ _ => rfl
 | .own _ c => by simp only [Ty.frz, Ty.den, frz_den c]
 | .cons a r => by simp only [Ty.frz, Ty.den, frz_den a, frz_den r]
theorem lend_n : ∀ t : Ty, t.lend.n = t.n
 | .i _ | .b | .s | .row _ _ | .own _ _ | .ptr _ _ => rfl
 | .cons a r => by simp only [Ty.lend, Ty.n, lend_n a, lend_n r]
theorem frz_n : ∀ t : Ty, t.frz.n = t.n
 | .i _ | .b | .s | .row _ _ | .own _ _ | .ptr _ _ => rfl
 | .cons a r => by simp only [Ty.frz, Ty.n, frz_n a, frz_n r]
theorem cast_prod {a a' r r' : Type} (ha : a = a') (hr : r = r') (x : a × r) (h : (a × r) = (a' × r')) : cast h x = (cast ha x.1, cast hr x.2) := by
 subst ha; subst hr; rfl
theorem cast_list {a a' : Type} (ha : a = a') (xs : List a) (h : List a = List a') : cast h xs = xs.map (cast ha) := by
 subst ha; exact (List.map_id xs).symm
theorem go_append {f : List V → List V} {g : V → V} (hf : ∀ l, f l = l.map g) (l l' : List V) : f (l ++ l') = f l ++ f l' := by simp [hf]
theorem enc_lend : ∀ (t : Ty) (x : t.den), enc t.lend (cast (lend_den t).symm x) = V.lend.go (enc t x)
 | .i _, _ | .b, _ | .s, _ => rfl
 | .row _ c, xs => by
  refine (congrArg (enc (Ty.row true c.lend)) (cast_list (lend_den c).symm xs _)).trans ?_
  simp only [enc, V.lend.go, V.lend, lend_go2, List.map_map, lend_n]
  congr 2
  refine List.map_congr_left fun x _ => ?_
  simp only [Function.comp, enc_lend c x, lend_go]
 | .own _ c, xs => by
  refine (congrArg (enc (Ty.row true c.lend)) (cast_list (lend_den c).symm xs _)).trans ?_
  simp only [enc, V.lend.go, V.lend, lend_go2, List.map_map, lend_n]
  congr 2
  refine List.map_congr_left fun x _ => ?_
  simp only [Function.comp, enc_lend c x, lend_go]
 | .ptr _ c, x => by
  exact congrArg (fun l => [V.box true l]) (enc_lend c x)
 | .cons a r, x => by
  refine (congrArg (enc (Ty.cons a.lend r.lend)) (cast_prod (lend_den a).symm (lend_den r).symm x _)).trans ?_
  simp only [enc]
  rw [go_append lend_go, enc_lend a, enc_lend r]
theorem enc_frz : ∀ (t : Ty) (x : t.den), enc t.frz (cast (frz_den t).symm x) = V.frz.go (enc t x)
 | .i _, _ | .b, _ | .s, _ | .row _ _, _ | .ptr _ _, _ => rfl
 | .own _ c, xs => by
  refine (congrArg (enc (Ty.row false c.frz)) (cast_list (frz_den c).symm xs _)).trans ?_
  simp only [enc, V.frz.go, V.frz, frz_go2, List.map_map, frz_n]
  congr 2
  refine List.map_congr_left fun x _ => ?_
  simp only [Function.comp, enc_frz c x, frz_go]
 | .cons a r, x => by
  refine (congrArg (enc (Ty.cons a.frz r.frz)) (cast_prod (frz_den a).symm (frz_den r).symm x _)).trans ?_
  simp only [enc]
  rw [go_append frz_go, enc_frz a, enc_frz r]
theorem go_and {f : List V → Bool} {g : V → Bool} (h0 : f [] = true) (hf : ∀ c l, f (c :: l) = (g c && f l)) : ∀ l l', f l = true → f l' = true → f (l ++ l') = true
 | [], _, _, h => h
 | c :: l, l', h1, h2 => by
  rw [hf, Bool.and_eq_true] at h1
  rw [List.cons_append, hf, Bool.and_eq_true]
  exact ⟨h1.1, go_and h0 hf l l' h1.2 h2⟩
theorem go2_all {f : List V → Bool} {f2 : List (List V) → Bool} {α : Type} (e : α → List V) (h0 : f2 [] = true) (hf : ∀ c l, f2 (c :: l) = (f c && f2 l)) (h : ∀ x, f (e x) = true) : ∀ xs : List α, f2 (xs.map e) = true
 | [] => h0
 | x :: xs => by rw [List.map_cons, hf, h, go2_all e h0 hf h xs]; rfl
theorem enc_lendable : ∀ (t : Ty) (x : t.den), V.lendable.go (enc t x) = true
 | .i _, _ | .b, _ | .s, _ => rfl
 | .row _ c, xs => by simp only [enc, V.lendable.go, V.lendable, Bool.and_true]; exact go2_all _ rfl (fun _ _ => rfl) (enc_lendable c) xs
 | .own _ c, xs => by simp only [enc, V.lendable.go, V.lendable, Bool.and_true]; exact go2_all _ rfl (fun _ _ => rfl) (enc_lendable c) xs
 | .ptr _ c, x => by simp only [enc, V.lendable.go, V.lendable, Bool.and_true]; exact enc_lendable c x
 | .cons a r, x => go_and (g := V.lendable) rfl (fun _ _ => rfl) _ _ (enc_lendable a x.1) (enc_lendable r x.2)
theorem enc_freezable : ∀ (t : Ty) (x : t.den), V.freezable.go (enc t x) = true
 | .i _, _ | .b, _ | .s, _ | .row _ _, _ | .ptr _ _, _ => rfl
 | .own _ c, xs => by simp only [enc, V.freezable.go, V.freezable, Bool.and_true]; exact go2_all _ rfl (fun _ _ => rfl) (enc_freezable c) xs
 | .cons a r, x => go_and (g := V.freezable) rfl (fun _ _ => rfl) _ _ (enc_freezable a x.1) (enc_freezable r x.2)
inductive SV where
 | v (t : Ty) (x : t.den)
 | agg (t : Ty) (x : t.den)
 | tup (l : List SV)
 | at_ (k : Nat)
 | atv (k n j : Nat)
 | al (r : Nat)
 | ref (r sz i o : Nat)
 | vw (r sz lo n : Nat)
 | obx (t : Ty) (x : t.den)
 | iter (s : ByteArray) (p : Nat)
 | np
 | u0
 | un
 | dead
 | opt (t : Ty) (x : Option t.den)
 | kb (b : Bool)
 | refv (r sz i n j : Nat)
def g0 : Nat → Nat := fun _ => 0
def SV.toV0 : SV → V
 | .v t x => match enc t x with
  | [c] => c
  | cs => .agg cs
 | .agg t x => .agg (enc t x)
 | .tup l => .tup (go l)
 | .at_ k => .at_ k
 | .atv k _ j => .at_ (k + j)
 | .al r => .al r 0
 | .ref r sz i o => .ref r 0 sz i o
 | .vw r sz lo n => .vw r 0 sz lo n
 | .refv r sz i _ j => .ref r 0 sz i j
 | .obx t x => .obx (enc t x)
 | .iter s p => .iter s p
 | .np => .sc (.pointer none)
 | .u0 => .sc (.tuple #[])
 | .un => .sc undef
 | .dead => .dead
 | .kb b => .sc (.bool b)
 | .opt _ none => .sc (.pointer none)
 | .opt t (some x) => .box false (enc t x)
where
 go : List SV → List V
  | [] => []
  | x :: l => SV.toV0 x :: go l
theorem toV_go (l : List SV) : SV.toV0.go l = l.map SV.toV0 := by
 induction l with
 | nil => rfl
 | cons x l ih => simp [SV.toV0.go, ih]
def SV.toV (g : Nat → Nat) : SV → V
 | .al r => .al r (g r)
 | .ref r sz i o => .ref r (g r) sz i o
 | .vw r sz lo n => .vw r (g r) sz lo n
 | .refv r sz i _ j => .ref r (g r) sz i j
 | x => x.toV0
def SV.root? : SV → Option Nat
 | .al r => some r
 | .ref r _ _ _ => some r
 | .vw r _ _ _ => some r
 | .refv r _ _ _ _ => some r
 | _ => none
theorem toV_v (g : Nat → Nat) (t : Ty) (x : t.den) : (SV.v t x).toV g = match enc t x with | [c] => c | cs => .agg cs := rfl
def SV.nb : SV → SV
 | .kb b => .v .b b
 | x => x
theorem nb_toV0 (x : SV) : x.nb.toV0 = x.toV0 := by cases x <;> rfl
theorem nb_toV (g : Nat → Nat) (x : SV) : x.nb.toV g = x.toV g := by cases x <;> rfl
theorem nb_root (x : SV) : x.nb.root? = x.root? := by cases x <;> rfl
theorem toV_none (g g' : Nat → Nat) : ∀ (x : SV), x.root? = none → x.toV g = x.toV g' := by
 intro x h
 cases x <;> first | rfl | (simp [SV.root?] at h; done)
theorem enc_leaf {t : Ty} (h : t.leaf = true) (x : t.den) : ∃ c, enc t x = [c] := by
 cases t <;> first | exact ⟨_, rfl⟩ | simp [Ty.leaf] at h
theorem enc_plain : ∀ (t : Ty) (x : t.den) (c : V), c ∈ enc t x → c ≠ .no ∧ c ≠ .dead ∧ (∀ k, c ≠ .at_ k) ∧ c.root = none
 | .i _, _, c, h | .b, _, c, h | .s, _, c, h | .row _ _, _, c, h | .own _ _, _, c, h | .ptr _ _, _, c, h => by
  simp only [enc, List.mem_singleton] at h; subst h; exact ⟨by simp, by simp, fun _ => by simp, rfl⟩
 | .cons a r, x, c, h => by
  rcases List.mem_append.1 h with h | h
  · exact enc_plain a x.1 c h
  · exact enc_plain r x.2 c h
theorem toV_plain (g : Nat → Nat) (x : SV) : (x.toV g ≠ .no) ∧ ((x.toV g).root = none ∨ ∃ r, x.root? = some r ∧ (x.toV g).root = some (r, g r)) := by
 cases x with
 | v t x =>
  rw [toV_v]
  split
  · rename_i c hc
    obtain ⟨h1, _, _, h2⟩ := enc_plain t x c (by rw [hc]; simp)
    exact ⟨h1, .inl h2⟩
  · exact ⟨by simp, .inl rfl⟩
 | al r => exact ⟨by simp [SV.toV], .inr ⟨r, rfl, rfl⟩⟩
 | ref r sz i o => exact ⟨by simp [SV.toV], .inr ⟨r, rfl, rfl⟩⟩
 | vw r sz lo n => exact ⟨by simp [SV.toV], .inr ⟨r, rfl, rfl⟩⟩
 | refv r sz i n j => exact ⟨by simp [SV.toV], .inr ⟨r, rfl, rfl⟩⟩
 | opt t x => cases x <;> exact ⟨by simp [SV.toV, SV.toV0], .inl rfl⟩
 | _ => exact ⟨by simp [SV.toV, SV.toV0], .inl rfl⟩
end Go.Proofs.Ytnlocbjojbgdcaa.Vm
namespace Go.Proofs.Ytnlocbjojbgdcaa.Vm
open Go
abbrev TS := List (Nat × SV)
def look? : TS → Nat → Option SV
 | [], _ => none
 | p :: l, s => bsel (p.1.beq s) (some p.2) <| look? l s
theorem look?_mem {l : TS} {s : Nat} {x : SV} (h : look? l s = some x) : (s, x) ∈ l := by
 induction l with
 | nil => simp [look?] at h
 | cons p l ih =>
  simp only [look?] at h
  cases hb : p.1.beq s with
  | true =>
   rw [hb] at h
   have := Nat.eq_of_beq_eq_true hb
   injection h with h
   subst this h
   exact List.mem_cons_self
  | false => rw [hb] at h; exact List.mem_cons_of_mem _ (ih h)
def SV.isDead : SV → Bool
 | .dead => true
 | _ => false
structure Tells (nt n : Nat) (T : St) (l : TS) : Prop where
 len : T.length = n
 all : ∀ p, p ∈ l → p.1 < n ∧ (p.2.isDead = true ∧ p.1 < nt ∨ nrm T p.1 = p.2.toV g0)
 cell : ∀ p, p ∈ l → nt ≤ p.1 → p.2.root? = none ∧ (T.at p.1).root = none
 no : ∀ s, nt ≤ s → s < n → look? l s = none → T.at s = .no
theorem toV_dead {x : SV} (h : x.toV g0 = .dead) : x.isDead = true := by
 cases x with
 | v t x =>
  rw [toV_v] at h
  split at h
  · rename_i c hc
    exact absurd h (enc_plain t x c (by rw [hc]; simp)).2.1
  · cases h
 | dead => rfl
 | opt t x => cases x <;> simp [SV.toV, SV.toV0] at h
 | _ => simp [SV.toV, SV.toV0, undef] at h
section
variable {nt n : Nat} {T : St} {l : TS}
theorem Tells.lt (h : Tells nt n T l) {s : Nat} {x : SV} (hx : look? l s = some x) : s < n := (h.all _ (look?_mem hx)).1
theorem nrm_plain {T : St} {s : Nat} {y : V} (h : nrm T s = y) (hd : y ≠ .dead) (hr : y.root = none) : T.at s = y := by
 rcases nrm_cases T s with ⟨h1, _⟩ | ⟨r, g, _, ⟨_, h2⟩ | ⟨_, h2, _⟩⟩
 · rw [← h1, h]
 · rw [h2] at h; exact absurd h.symm hd
 · rw [h] at h2; rw [hr] at h2; cases h2
theorem Tells.nrm_ (h : Tells nt n T l) {s : Nat} {x : SV} (hx : look? l s = some x) (hd : x.isDead = false) : nrm T s = x.toV g0 := by
 rcases (h.all _ (look?_mem hx)).2 with h1 | h1
 · rw [hd] at h1; exact absurd h1.1 (by simp)
 · exact h1
theorem Tells.plain (h : Tells nt n T l) {s : Nat} {x : SV} (hx : look? l s = some x) (hr : x.root? = none) (hd : x.isDead = false) : T.at s = x.toV g0 := by
 refine nrm_plain (h.nrm_ hx hd) (fun e => by rw [toV_dead e] at hd; cases hd) ?_
 rcases (toV_plain g0 x).2 with h1 | ⟨r, h1, _⟩
 · exact h1
 · rw [hr] at h1; cases h1
theorem Tells.al (h : Tells nt n T l) {s r : Nat} (hx : look? l s = some (.al r)) : T.at s = .al r (T.gen r) := by
 have := h.nrm_ hx rfl
 unfold nrm at this
 split at this
 · rename_i r' g' hs
   split at this
   · rename_i hg; simp only [SV.toV, g0, V.al.injEq] at this; obtain ⟨rfl, _⟩ := this; rw [hs, hg]
   · cases this
 · split at this <;> cases this
 · split at this <;> cases this
 · rename_i h1 h2 h3; exact (h1 _ _ this).elim
theorem Tells.ref (h : Tells nt n T l) {s r sz i o : Nat} (hx : look? l s = some (.ref r sz i o)) : T.at s = .ref r (T.gen r) sz i o := by
 have := h.nrm_ hx rfl
 unfold nrm at this
 split at this
 · split at this <;> cases this
 · rename_i r' g' sz' i' o' hs
   split at this
   · rename_i hg; simp only [SV.toV, g0, V.ref.injEq] at this; obtain ⟨rfl, _, rfl, rfl, rfl⟩ := this; rw [hs, hg]
   · cases this
 · split at this <;> cases this
 · rename_i h1 h2 h3; exact (h2 _ _ _ _ _ this).elim
theorem Tells.refv (h : Tells nt n T l) {s r sz i n' o : Nat} (hx : look? l s = some (.refv r sz i n' o)) : T.at s = .ref r (T.gen r) sz i o := by
 have := h.nrm_ hx rfl
 unfold nrm at this
 split at this
 · split at this <;> cases this
 · rename_i r' g' sz' i' o' hs
   split at this
   · rename_i hg; simp only [SV.toV, g0, V.ref.injEq] at this; obtain ⟨rfl, _, rfl, rfl, rfl⟩ := this; rw [hs, hg]
   · cases this
 · split at this <;> cases this
 · rename_i h1 h2 h3; exact (h2 _ _ _ _ _ this).elim
theorem Tells.vw (h : Tells nt n T l) {s r sz lo m : Nat} (hx : look? l s = some (.vw r sz lo m)) : T.at s = .vw r (T.gen r) sz lo m := by
 have := h.nrm_ hx rfl
 unfold nrm at this
 split at this
 · split at this <;> cases this
 · split at this <;> cases this
 · rename_i r' g' sz' lo' m' hs
   split at this
   · rename_i hg; simp only [SV.toV, g0, V.vw.injEq] at this; obtain ⟨rfl, _, rfl, rfl, rfl⟩ := this; rw [hs, hg]
   · cases this
 · rename_i h1 h2 h3; exact (h3 _ _ _ _ _ this).elim
end
def over (kill : Bool) (s : Nat) (x : SV) : Bool := bsel kill (match x.root? with
 | some r => r.beq s
 | none => false) <| false
def putL (s : Nat) (kill : Bool) (x : SV) : TS → TS
 | [] => []
 | p :: l => (bsel (p.1.beq s) ((s, x)) <| bsel (over kill s p.2) ((p.1, .dead)) <| p) :: putL s kill x l
def putS (s : Nat) (kill : Bool) (x : SV) (l : TS) : TS := match look? l s with
 | some _ => putL s kill x l
 | none => putL s kill x l ++ [(s, x)]
theorem putL_mem {s : Nat} {kill : Bool} {x : SV} {l : TS} {p : Nat × SV} (h : p ∈ putL s kill x l) : p = (s, x) ∨ (p.1 ≠ s ∧ ∃ q, q ∈ l ∧ q.1 = p.1 ∧ (p.2 = q.2 ∧ over kill s q.2 = false ∨ p.2 = .dead ∧ over kill s q.2 = true)) := by
 induction l with
 | nil => simp [putL] at h
 | cons q l ih =>
  simp only [putL] at h
  rcases List.mem_cons.1 h with h | h
  · cases hb : q.1.beq s with
    | true => rw [hb] at h; exact .inl h
    | false =>
     have hne : q.1 ≠ s := fun e => by rw [e, Nat.beq_refl] at hb; cases hb
     rw [hb] at h
     cases ho : over kill s q.2 with
     | true => rw [ho] at h; subst h; exact .inr ⟨hne, q, List.mem_cons_self, rfl, .inr ⟨rfl, ho⟩⟩
     | false => rw [ho] at h; subst h; exact .inr ⟨hne, p, List.mem_cons_self, rfl, .inl ⟨rfl, ho⟩⟩
  · rcases ih h with h | ⟨h1, q', h2, h3⟩
    · exact .inl h
    · exact .inr ⟨h1, q', List.mem_cons_of_mem _ h2, h3⟩
theorem putS_mem {s : Nat} {kill : Bool} {x : SV} {l : TS} {p : Nat × SV} (h : p ∈ putS s kill x l) : p = (s, x) ∨ (p.1 ≠ s ∧ ∃ q, q ∈ l ∧ q.1 = p.1 ∧ (p.2 = q.2 ∧ over kill s q.2 = false ∨ p.2 = .dead ∧ over kill s q.2 = true)) := by
 unfold putS at h
 split at h
 · exact putL_mem h
 · rcases List.mem_append.1 h with h | h
   · exact putL_mem h
   · exact .inl (by simpa using h)
theorem look?_putL {s : Nat} {kill : Bool} {x : SV} {l : TS} {t : Nat} (h : look? (putL s kill x l) t = none) : look? l t = none := by
 induction l with
 | nil => rfl
 | cons q l ih =>
  simp only [putL, look?] at h ⊢
  have e : (bsel (q.1.beq s) ((s, x)) <| bsel (over kill s q.2) ((q.1, SV.dead)) <| q).1 = q.1 := by
   cases hb : q.1.beq s with
   | true => exact (Nat.eq_of_beq_eq_true hb).symm
   | false => cases over kill s q.2 <;> rfl
  rw [e] at h
  cases hb : q.1.beq t with
  | true => rw [hb] at h; cases h
  | false => rw [hb] at h; exact ih h
theorem look?_append {l l' : TS} {t : Nat} : look? (l ++ l') t = match look? l t with | some x => some x | none => look? l' t := by
 induction l with
 | nil => rfl
 | cons q l ih =>
  simp only [List.cons_append, look?]
  cases q.1.beq t with
  | true => rfl
  | false => exact ih
theorem look?_putS {s : Nat} {kill : Bool} {x : SV} {l : TS} {t : Nat} (h : look? (putS s kill x l) t = none) : look? l t = none ∧ (look? l s = none → t ≠ s) := by
 unfold putS at h
 split at h
 · rename_i y hy
   exact ⟨look?_putL h, fun e => by rw [e] at hy; cases hy⟩
 · rw [look?_append] at h
   split at h
   · cases h
   · rename_i hn
     refine ⟨look?_putL hn, fun _ e => ?_⟩
     subst e
     simp [look?] at h
theorem Tells.put {nt n : Nat} {T : St} {l : TS} (h : Tells nt n T l) {s : Nat} {keep : Bool} {x : SV} {v : V} (hs : s < n) (hv : nrm (T.app [(s, keep, v)]) s = x.toV g0) (hc : nt ≤ s → x.root? = none ∧ v.root = none) : Tells nt n (T.app [(s, keep, v)]) (putS s (!keep) x l) := by
 have hlen : (T.app [(s, keep, v)]).length = n := (St.length_app _ _).trans h.len
 have hne : ∀ t, t ≠ s → (T.app [(s, keep, v)]).getD t (0, .no) = T.getD t (0, .no) := fun t ht => St.app_not T _ t (by simpa using ht)
 have hat : ∀ t, t ≠ s → (T.app [(s, keep, v)]).at t = T.at t := fun t ht => congrArg Prod.snd (hne t ht)
 have hge : ∀ t, t ≠ s → (T.app [(s, keep, v)]).gen t = T.gen t := fun t ht => congrArg Prod.fst (hne t ht)
 have hsl : s < T.length := by rw [h.len]; exact hs
 have hgs : (T.app [(s, keep, v)]).gen s = if keep then T.gen s else T.gen s + 1 := by
  simp [St.app, St.gen, hsl]
 have hats : (T.app [(s, keep, v)]).at s = v := St.at_last T [] s keep v hsl
 have plain : ∀ t, t ≠ s → (T.at t).root = none → nrm (T.app [(s, keep, v)]) t = nrm T t := by
  intro t ht hr
  have e : ∀ T : St, (T.at t).root = none → nrm T t = T.at t := fun T hr => by
   rcases nrm_cases T t with ⟨h1, _⟩ | ⟨r', g', h1, _⟩
   · exact h1
   · rw [hr] at h1; cases h1
  rw [e _ hr, e _ (by rw [hat t ht]; exact hr), hat t ht]
 have other : ∀ t, t ≠ s → ∀ r, (nrm T t).root = some (r, 0) → ¬ (r = s ∧ keep = false) → nrm (T.app [(s, keep, v)]) t = nrm T t := by
  intro t ht r hr hn
  rcases nrm_cases T t with ⟨h1, h2⟩ | ⟨r', g', h1, ⟨_, h2⟩ | ⟨h2, h3, _⟩⟩
  · rw [h1, h2] at hr; cases hr
  · rw [h2] at hr; simp [V.root] at hr
  · have hrr : r' = r := by rw [h3] at hr; injection hr with hr; injection hr
    subst hrr
    have e2 : (T.app [(s, keep, v)]).gen r' = g' := by
     by_cases ers : r' = s
     · subst ers
       have : keep = true := by cases keep with
        | true => rfl
        | false => exact absurd ⟨rfl, rfl⟩ hn
       rw [hgs, this, if_pos rfl, h2]
     · rw [hge r' ers, h2]
    have key : ∀ y, T.at t = y → y.root = some (r', g') → nrm (T.app [(s, keep, v)]) t = nrm T t := by
     intro y hy hyr
     unfold nrm
     rw [hat t ht, hy]
     cases y with
     | al a b => simp only [V.root, Option.some.injEq, Prod.mk.injEq] at hyr; obtain ⟨rfl, rfl⟩ := hyr; simp only [if_pos e2, if_pos h2]
     | ref a b c d e' => simp only [V.root, Option.some.injEq, Prod.mk.injEq] at hyr; obtain ⟨rfl, rfl⟩ := hyr; simp only [if_pos e2, if_pos h2]
     | vw a b c d e' => simp only [V.root, Option.some.injEq, Prod.mk.injEq] at hyr; obtain ⟨rfl, rfl⟩ := hyr; simp only [if_pos e2, if_pos h2]
     | _ => simp [V.root] at hyr
    exact key _ rfl h1
 refine ⟨hlen, fun p hp => ?_, fun p hp hpn => ?_, fun t ht htn hlk => ?_⟩
 · rcases putS_mem hp with rfl | ⟨hps, q, hq, hq1, ⟨h2, h3⟩ | ⟨h2, h3⟩⟩
   · exact ⟨hs, .inr hv⟩
   · obtain ⟨a1, a2⟩ := h.all q hq
     rw [hq1] at a1 a2
     refine ⟨a1, ?_⟩
     rw [h2]
     rcases a2 with a2 | a2
     · exact .inl a2
     · by_cases hd : q.2.isDead = true ∧ p.1 < nt
       · exact .inl hd
       · refine .inr ?_
         rw [← a2]
         rcases (toV_plain g0 q.2).2 with h4 | ⟨r, h4, h5⟩
         · refine plain p.1 hps ?_
           by_cases hdd : q.2.isDead = true
           · have := (h.cell q hq (by rw [hq1]; exact Nat.le_of_not_lt fun e => hd ⟨hdd, e⟩)).2
             rw [hq1] at this
             exact this
           · have := nrm_plain a2 (fun e => hdd (toV_dead e)) h4
             rw [this]; exact h4
         · refine other p.1 hps r (by rw [a2, h5]; rfl) fun ⟨e1, e2⟩ => ?_
           subst e1 e2
           simp [over, h4, Nat.beq_refl] at h3
   · obtain ⟨a1, a2⟩ := h.all q hq
     rw [hq1] at a1
     refine ⟨a1, .inl ⟨by rw [h2]; rfl, Nat.lt_of_not_le fun e => ?_⟩⟩
     have := (h.cell q hq (by rw [hq1]; exact e)).1
     unfold over at h3
     rw [this] at h3
     revert h3
     cases keep <;> simp
 · rcases putS_mem hp with rfl | ⟨hps, q, hq, hq1, h2⟩
   · rw [hats]; exact hc hpn
   · obtain ⟨a1, a2⟩ := h.cell q hq (by rw [hq1]; exact hpn)
     rw [hq1] at a2
     rw [hat p.1 hps]
     refine ⟨?_, a2⟩
     rcases h2 with ⟨h2, _⟩ | ⟨h2, _⟩
     · rw [h2]; exact a1
     · rw [h2]; rfl
 · obtain ⟨h1, h2⟩ := look?_putS hlk
   have hts : t ≠ s := by
    cases hls : look? l s with
    | none => exact h2 hls
    | some y => intro e; rw [e, hls] at h1; cases h1
   rw [hat t hts]
   exact h.no t ht htn h1
abbrev ES := List (Nat × Bool × SV)
def ES.eff (T : St) (E : ES) : Eff := E.map fun e => (e.1, e.2.1, e.2.2.toV T.gen)
def putE : ES → TS → TS
 | [], l => l
 | e :: E, l => putE E (putS e.1 (!e.2.1) e.2.2 l)
def EOk (nt n : Nat) (E : ES) : Prop := (∀ e, e ∈ E → e.1 < n ∧ e.2.2.root? = none) ∨ ∃ e r, E = [e] ∧ e.1 < nt ∧ e.1 < n ∧ e.2.2.root? = some r ∧ r ≠ e.1
theorem tells_putE {nt n : Nat} : ∀ {E : ES} {T : St} {l : TS} (g : Nat → Nat), Tells nt n T l → (∀ e, e ∈ E → e.1 < n ∧ e.2.2.root? = none) → Tells nt n (T.app (E.map fun e => (e.1, e.2.1, e.2.2.toV g))) (putE E l)
 | [], _, _, _, h, _ => h
 | e :: E, T, l, g, h, he => by
  obtain ⟨h1, h2⟩ := he e List.mem_cons_self
  have hsl : e.1 < T.length := by rw [h.len]; exact h1
  have hr : (e.2.2.toV g).root = none := by
   rcases (toV_plain g e.2.2).2 with h3 | ⟨r, h3, _⟩
   · exact h3
   · rw [h2] at h3; cases h3
  have hat : (T.app [(e.1, e.2.1, e.2.2.toV g)]).at e.1 = e.2.2.toV g := St.at_last T [] _ _ _ hsl
  have := Tells.put h (s := e.1) (keep := e.2.1) (x := e.2.2) (v := e.2.2.toV g) h1 (by
   rcases nrm_cases (T.app [(e.1, e.2.1, e.2.2.toV g)]) e.1 with ⟨h3, _⟩ | ⟨r', g', h3, _⟩
   · rw [h3, hat, toV_none g g0 _ h2]
   · rw [hat, hr] at h3; cases h3) fun _ => ⟨h2, hr⟩
  exact tells_putE (E := E) (T := T.app [(e.1, e.2.1, e.2.2.toV g)]) (l := putS e.1 (!e.2.1) e.2.2 l) g this fun e' he' => he e' (List.mem_cons_of_mem _ he')
theorem Tells.puts {nt n : Nat} {E : ES} {T : St} {l : TS} (h : Tells nt n T l) (he : EOk nt n E) : Tells nt n (T.app (E.eff T)) (putE E l) := by
 rcases he with he | ⟨e, r, rfl, h1, h2, h3, h4⟩
 · exact tells_putE _ h he
 · have hsl : e.1 < T.length := by rw [h.len]; exact h2
   refine Tells.put h (x := e.2.2) h2 ?_ fun hn => by omega
   have hat : (T.app [(e.1, e.2.1, e.2.2.toV T.gen)]).at e.1 = e.2.2.toV T.gen := St.at_last T [] _ _ _ hsl
   have hg : (T.app [(e.1, e.2.1, e.2.2.toV T.gen)]).gen r = T.gen r := congrArg Prod.fst (St.app_not T _ r (by simpa using h4))
   have key : ∀ T' : St, T'.at e.1 = e.2.2.toV T.gen → T'.gen r = T.gen r → nrm T' e.1 = e.2.2.toV g0 := by
    intro T' h5 h6
    generalize e.2.2 = x at h3 h5 ⊢
    unfold nrm
    rw [h5]
    cases x <;> simp only [SV.root?, Option.some.injEq, reduceCtorEq] at h3
    all_goals
     subst h3
     exact if_pos h6
   exact key _ hat hg
end Go.Proofs.Ytnlocbjojbgdcaa.Vm
namespace Go.Proofs.Ytnlocbjojbgdcaa.Vm
open Go
open Go.RowKit (wrap64)
inductive UK where
 | sl (e : Nat)
 | arr (n e : Nat)
 | str
 | bool
 | x
structure TI where
 k : UK := .x
 ag : Bool := false
 sz : Nat := 1
 by_ : Nat
 z : Value
 z0 : List SV
 fs : List (Nat × Bool × Nat) := []
 c : Ty
def fsOk (P : Program) (t : Nat) : Nat → List (Nat × Bool × Nat) → Prop
 | _, [] => True
 | f, q :: l => fieldAt P t f = some (q.1, false) ∧ fieldOf P t f = some q ∧ fsOk P t (f + 1) l
def ukOk (P : Program) (t : Nat) : UK → Prop
 | .sl e => P.underlying t = some (.slice e)
 | .arr n e => P.underlying t = some (.array n e)
 | .str => P.underlying t = some .string
 | .bool => P.underlying t = some .bool
 | .x => True
def TI.sl (i : TI) : Option Nat := match i.k with
 | .sl e => some e
 | _ => none
def plOk (P : Program) (t : Nat) : List (Nat × Bool × Nat) → Prop
 | [] => True
 | l => places P t = some (l.map fun q => (q.1, q.2.2)).toArray
structure TIok (P : Program) (t : Nat) (i : TI) : Prop where
 k : ukOk P t i.k
 ag : aggT P t = some i.ag
 info : (P.info? t).map (fun j => (j.zero, j.size, j.bytes)) = some (some i.z, i.sz, i.by_)
 z : i.z.cells.size = i.sz
 pos : (0 < i.sz) = True
 bpos : (0 < i.by_) = True
 z0 : lits i.z.cells.toList (i.z0.map SV.toV0)
 fs : fsOk P t 0 i.fs
 pl : plOk P t i.fs
inductive RT where
 | c (ag : Bool) (t : Ty)
 | o (t : Ty)
@[reducible] def RT.den : RT → Type
 | .c _ t => t.den
 | .o t => Option t.den
@[reducible] def denA : List (Bool × Ty) → Type
 | [] => Unit
 | p :: l => p.2.den × denA l
@[reducible] def denR : List RT → Type
 | [] => Unit
 | [r] => r.den
 | r :: r' :: l => r.den × denR (r' :: l)
def SV.of (ag : Bool) (t : Ty) (x : t.den) : SV := bsel ag (.agg t x) <| .v t x
inductive Sig where
 | p (args : List (Bool × Ty)) (res : List RT) (F : denA args → Option (denR res))
 | l (t : Ty) (args : List (Bool × Ty)) (res : List RT) (F : t.den → denA args → Option (denR (res ++ [.c true t])))
def encA : (l : List (Bool × Ty)) → denA l → List V
 | [], _ => []
 | p :: l, x => (SV.of p.1 p.2 x.1).toV0 :: encA l x.2
def encO : (r : RT) → r.den → V
 | .c ag t, x => (SV.of ag t x).toV0
 | .o _, none => .sc (.pointer none)
 | .o t, some x => .obx (enc t x)
def encR : (l : List RT) → denR l → List V
 | [], _ => []
 | [r], x => [encO r x]
 | r :: r' :: l, x => encO r x.1 :: encR (r' :: l) x.2
def lastR (t : Ty) : (l : List RT) → denR (l ++ [.c true t]) → t.den
 | [], x => x
 | [_], x => x.2
 | _ :: r' :: l, x => lastR t (r' :: l) x.2
def initR (t : Ty) : (l : List RT) → denR (l ++ [.c true t]) → denR l
 | [], _ => ()
 | [_], x => x.1
 | _ :: r' :: l, x => (x.1, initR t (r' :: l) x.2)
def SigOk (P : Program) (f : Nat) : Sig → Prop
 | .p args res F => ∀ x r, F x = some r → VC P f (encA args x) (args.map fun _ => .dead) (resV (encR res r))
 | .l t args res F => ∀ b x r, F b x = some r → VC P f (.obx (enc t b) :: encA args x) (.obx (enc t (lastR t res r)) :: args.map fun _ => .dead) (resV (encR res (initR t res r)))
structure GI where
 P : Program
 tt : List (Nat × TI)
 nt : Nat
 n : Nat
 bx : List (Nat × Nat × Nat)
 ls : List Nat
 cut : List Nat
 ali : List Nat
 env : List (Nat × Sig)
 ad : List Nat := []
def AddOk (P : Program) (f : Nat) : Prop := ∀ x y c : Int, 0 ≤ x → 0 ≤ y → 0 ≤ c → c ≤ 1 → ∀ w, (callFunc f #[.int .u64 x, .int .u64 y, .int .u64 c]).run P w = .ok (.value (.tuple #[.int .u64 ((x + y + c) % 18446744073709551616), .int .u64 ((x + y + c) / 18446744073709551616)])) w
structure Fit (G : GI) (C : Ctx) : Prop where
 nt : C.nt = G.nt
 le : G.nt ≤ G.n
 base : C.base = baseOf (G.bx.map (·.2))
 pin : ∀ d, G.ls.contains d = false → C.pin d = none
 tt : ∀ p, p ∈ G.tt → TIok G.P p.1 p.2
 env : ∀ p, p ∈ G.env → SigOk G.P p.1 p.2 ∧ goesTo G.P p.1
 ad : ∀ f, f ∈ G.ad → AddOk G.P f
def tiOf : List (Nat × TI) → Nat → Option TI
 | [], _ => none
 | p :: l, t => bsel (p.1.beq t) (some p.2) <| tiOf l t
theorem tiOf_mem {l : List (Nat × TI)} {t : Nat} {i : TI} (h : tiOf l t = some i) : (t, i) ∈ l := by
 induction l with
 | nil => simp [tiOf] at h
 | cons p l ih =>
  simp only [tiOf] at h
  cases hb : p.1.beq t with
  | true =>
   rw [hb] at h
   have := Nat.eq_of_beq_eq_true hb
   injection h with h
   subst this h
   exact List.mem_cons_self
  | false => rw [hb] at h; exact List.mem_cons_of_mem _ (ih h)
abbrev Rn (R : Type) := List Nat → ES → Option R
section
variable {G : GI} {C : Ctx} {T0 : St} {T : TS} {R : Type}
theorem Fit.slice (hF : Fit G C) {t e : Nat} {i : TI} (h : tiOf G.tt t = some i) (h2 : i.sl = some e) : G.P.underlying t = some (.slice e) := by
 have := (hF.tt _ (tiOf_mem h)).k
 unfold TI.sl at h2
 split at h2
 · rename_i e' he
   injection h2 with h2
   subst h2
   rw [he] at this
   exact this
 · cases h2
theorem Fit.ti (hF : Fit G C) {t : Nat} {i : TI} (h : tiOf G.tt t = some i) : TIok G.P t i := hF.tt _ (tiOf_mem h)
def Snd (G : GI) (C : Ctx) (T0 : St) (o : Oper) (f : Rn R → Option R) : Prop := ∀ K r, f K = some r → ∃ rd E, Exec G.P C o rd T0 (E.eff T0) ∧ EOk G.nt G.n E ∧ K rd E = some r
def dOk (G : GI) (o : Oper) : Option Nat := match o.dst with
 | some d => bsel (d.blt G.nt && !G.ls.contains d) (some d) <| none
 | none => none
theorem dOk_of {o : Oper} {d : Nat} (hF : Fit G C) (hT : Tells G.nt G.n T0 T) (h : dOk G o = some d) : o.dst = some d ∧ d < C.nt ∧ d < T0.length ∧ C.pin d = none ∧ d < G.nt ∧ d < G.n := by
 unfold dOk at h
 split at h
 · rename_i d' hd
   cases hb : (d'.blt G.nt && !G.ls.contains d') with
   | true =>
    rw [hb] at h
    injection h with h
    subst h
    simp only [Bool.and_eq_true, Bool.not_eq_true'] at hb
    have h1 : d' < G.nt := Nat.le_of_ble_eq_true hb.1
    have h2 : d' < G.n := Nat.lt_of_lt_of_le h1 hF.le
    exact ⟨hd, by rw [hF.nt]; exact h1, by rw [hT.len]; exact h2, hF.pin _ hb.2, h1, h2⟩
   | false => rw [hb] at h; cases h
 · cases h
theorem EOk.one {d : Nat} {x : SV} {k : Bool} (h : d < G.n) (hr : x.root? = none) : EOk G.nt G.n [(d, k, x)] := .inl fun e he => by simp at he; subst he; exact ⟨h, hr⟩
theorem EOk.two {d d' : Nat} {x x' : SV} {k k' : Bool} (h : d < G.n) (hr : x.root? = none) (h' : d' < G.n) (hr' : x'.root? = none) : EOk G.nt G.n [(d, k, x), (d', k', x')] := .inl fun e he => by simp at he; rcases he with rfl | rfl <;> exact ⟨by assumption, by assumption⟩
theorem EOk.link {d r : Nat} {x : SV} {k : Bool} (h : d < G.nt) (h' : d < G.n) (hr : x.root? = some r) (hne : r ≠ d) : EOk G.nt G.n [(d, k, x)] := .inr ⟨_, r, rfl, h, h', hr, hne⟩
def rdO : Operand → List Nat
 | .tmp t => [t]
 | _ => []
def opK (nt : Nat) (T : TS) : Operand → Option SV
 | .tmp t => bsel (t.blt nt) (look? T t) <| none
 | .const (.int k n) => some (.v (.i k) n)
 | .const (.bool b) => some (.kb b)
 | .const (.string s) => some (.v .s s)
 | .const (.pointer none) => some .np
 | _ => none
def opS (nt : Nat) (T : TS) (y : Operand) : Option SV := (opK nt T y).ob fun x => some x.nb
theorem lt_blt {a b : Nat} (h : a.blt b = true) : a < b := Nat.le_of_ble_eq_true h
theorem look_tmp {t : Nat} {x : SV} (h : (bsel (t.blt G.nt) (look? T t) <| none) = some x) : t < G.nt ∧ look? T t = some x := by
 cases hb : t.blt G.nt with
 | true => rw [hb] at h; exact ⟨lt_blt hb, h⟩
 | false => rw [hb] at h; cases h
theorem opK_opnd (hF : Fit G C) (hT : Tells G.nt G.n T0 T) {y : Operand} {x : SV} {v : Value} {rd : List Nat} (h : opK G.nt T y = some x) (hv : (x.toV g0).val = some v) (hrd : ∀ s, s ∈ rdO y → s ∈ rd) : opnd C T0 rd y v := by
 have hd : x.isDead = false := by cases x <;> first | rfl | (simp [SV.toV, SV.toV0, V.val] at hv; done)
 have hr : x.root? = none := by cases x <;> first | rfl | (simp [SV.toV, V.val] at hv; done)
 cases y with
 | tmp t =>
  obtain ⟨h1, h2⟩ := look_tmp h
  exact ⟨hrd t (by simp [rdO]), by rw [hF.nt]; exact h1, by rw [hT.plain h2 hr hd]; exact hv⟩
 | const u =>
  show u = v
  unfold opK at h
  split at h <;> first | (rename_i heq; cases heq; done) | skip
  all_goals first
   | (rename_i heq; injection heq with heq; subst heq; injection h with h; subst h; simp only [SV.toV, SV.toV0, enc, V.val, Option.some.injEq] at hv; exact hv)
   | cases h
 | global => cases h
 | func => cases h
theorem opS_opnd (hF : Fit G C) (hT : Tells G.nt G.n T0 T) {y : Operand} {x : SV} {v : Value} {rd : List Nat} (h : opS G.nt T y = some x) (hv : (x.toV g0).val = some v) (hrd : ∀ s, s ∈ rdO y → s ∈ rd) : opnd C T0 rd y v := by
 obtain ⟨z, hz, h⟩ := of_ob h
 injection h with h
 subst h
 rw [nb_toV] at hv
 exact opK_opnd hF hT hz hv hrd
def brB (y : SV) (A B : Option R) : Option R := match y with
 | .kb b => bsel b A B
 | .v .b x => if x = true then A else B
 | _ => none
theorem brB_of {y : SV} {A B : Option R} {r : R} (h : brB y A B = some r) : ∃ b, y.toV0 = .sc (.bool b) ∧ (∀ g, y.toV g = y.toV0) ∧ y.root? = none ∧ y.isDead = false ∧ (b = true ∧ A = some r ∨ b = false ∧ B = some r) := by
 unfold brB at h
 split at h
 · rename_i b
   refine ⟨b, rfl, fun _ => rfl, rfl, rfl, ?_⟩
   cases b
   · exact .inr ⟨rfl, h⟩
   · exact .inl ⟨rfl, h⟩
 · rename_i x
   refine ⟨x, rfl, fun _ => rfl, rfl, rfl, ?_⟩
   split at h
   · rename_i hx; exact .inl ⟨hx, h⟩
   · rename_i hx; exact .inr ⟨Bool.eq_false_iff.2 hx, h⟩
 · cases h
def SV.not? : SV → Option SV
 | .kb b => some (.kb (!b))
 | .v .b x => some (.v .b (!x))
 | _ => none
theorem not?_of {y z : SV} (h : y.not? = some z) : ∃ b, y.toV0 = .sc (.bool b) ∧ (∀ g, y.toV g = y.toV0) ∧ z.toV0 = .sc (.bool (!b)) ∧ (∀ g, z.toV g = z.toV0) ∧ z.root? = none := by
 unfold SV.not? at h
 split at h <;> first | (injection h with h; subst h; exact ⟨_, rfl, fun _ => rfl, rfl, fun _ => rfl, rfl⟩) | cases h
def SV.int? : SV → Option (IntKind × Int)
 | .v (.i k) n => some (k, n)
 | _ => none
theorem int?_eq {x : SV} {p : IntKind × Int} (h : x.int? = some p) : x = .v (.i p.1) p.2 := by
 unfold SV.int? at h
 split at h
 · injection h with h; subst h; rfl
 · cases h
def SV.bool? : SV → Option Bool
 | .v .b n => some n
 | _ => none
theorem bool?_eq {x : SV} {p : Bool} (h : x.bool? = some p) : x = .v .b p := by
 unfold SV.bool? at h
 split at h
 · injection h with h; subst h; rfl
 · cases h
def SV.str? : SV → Option ByteArray
 | .v .s n => some n
 | _ => none
theorem str?_eq {x : SV} {p : ByteArray} (h : x.str? = some p) : x = .v .s p := by
 unfold SV.str? at h
 split at h
 · injection h with h; subst h; rfl
 · cases h
def wr : IntKind → Int → Int
 | .i64, n => wrap64 n
 | k, n => k.wrap n
theorem wr_eq (k : IntKind) (n : Int) : wr k n = k.wrap n := by
 cases k <;> first | rfl | exact (wr64 n).symm
def bitI (k : IntKind) (f : BitVec k.bits → BitVec k.bits → BitVec k.bits) (m n : Int) : Int := k.wrap (f (BitVec.ofInt k.bits m) (BitVec.ofInt k.bits n)).toNat
def andI (k : IntKind) (m n : Int) : Int := bitI k (· &&& ·) m n
def orI (k : IntKind) (m n : Int) : Int := bitI k (· ||| ·) m n
def xorI (k : IntKind) (m n : Int) : Int := bitI k (· ^^^ ·) m n
def anI (k : IntKind) (m n : Int) : Int := bitI k (fun a b => a &&& ~~~b) m n
def shlI (k : IntKind) (m n : Int) : Int := wr k (m * 2 ^ min n.toNat k.bits)
def shrI (k : IntKind) (m n : Int) : Int := m.fdiv (2 ^ min n.toNat k.bits)
section
variable {P : Program} {xt : TypeId} {x y : Operand} {k yk : IntKind} {m n : Int}
theorem int_and (w : World) : (do eqGuard .and xt x y (.int k m) (.int k n); binOp .and xt (.int k m) (.int k n) : Sem Value).run P w = .ok (.int k (andI k m n)) w := by simp [eqGuard, binOp, Op.intBits, andI, bitI]
theorem int_or (w : World) : (do eqGuard .or xt x y (.int k m) (.int k n); binOp .or xt (.int k m) (.int k n) : Sem Value).run P w = .ok (.int k (orI k m n)) w := by simp [eqGuard, binOp, Op.intBits, orI, bitI]
theorem int_xor (w : World) : (do eqGuard .xor xt x y (.int k m) (.int k n); binOp .xor xt (.int k m) (.int k n) : Sem Value).run P w = .ok (.int k (xorI k m n)) w := by simp [eqGuard, binOp, Op.intBits, xorI, bitI]
theorem int_andNot (w : World) : (do eqGuard .andNot xt x y (.int k m) (.int k n); binOp .andNot xt (.int k m) (.int k n) : Sem Value).run P w = .ok (.int k (anI k m n)) w := by simp [eqGuard, binOp, Op.intBits, anI, bitI]
theorem int_shl (h : 0 ≤ n) (w : World) : (do eqGuard .shl xt x y (.int k m) (.int yk n); binOp .shl xt (.int k m) (.int yk n) : Sem Value).run P w = .ok (.int k (shlI k m n)) w := by
 simp [eqGuard, binOp, Op.shift, shlI, wr_eq, show ¬ n < 0 by omega]
theorem int_shr (h : 0 ≤ n) (w : World) : (do eqGuard .shr xt x y (.int k m) (.int yk n); binOp .shr xt (.int k m) (.int yk n) : Sem Value).run P w = .ok (.int k (shrI k m n)) w := by
 simp [eqGuard, binOp, Op.shift, shrI, show ¬ n < 0 by omega]
theorem conv_int {st dt : TypeId} {u : TypeDesc} (hs : P.underlying st = some u) (hd : P.underlying dt = some (.int k)) (w : World) : (convert st dt (.int yk n)).run P w = .ok (.int k (wr k n)) w := by
 unfold convert
 simp only [Sem.run_bind, run_underlying hs, run_underlying hd, Result.andThen_ok, wr_eq]
 rfl
end
theorem of_lit {z : Bool} {p : Prop} [Decidable p] {A : Option R} {r : R} (hz : z = true → p) (h : bsel z A (if p then A else none) = some r) : p ∧ A = some r := by
 cases z with
 | true => exact ⟨hz rfl, h⟩
 | false => exact of_guard h
def binI (k : IntKind) (op : BinOp) (m n : Int) (z : Bool) (K : SV → Option R) : Option R := match op with
 | .add => K (.v (.i k) (wr k (m + n)))
 | .sub => K (.v (.i k) (wr k (m - n)))
 | .mul => K (.v (.i k) (wr k (m * n)))
 | .quo => bsel z (K (.v (.i k) (wr k (m.tdiv n)))) <| if n ≠ 0 then K (.v (.i k) (wr k (m.tdiv n))) else none
 | .rem => bsel z (K (.v (.i k) (m.tmod n))) <| if n ≠ 0 then K (.v (.i k) (m.tmod n)) else none
 | .eql => K (.v .b (decide (m = n)))
 | .neq => K (.v .b (!decide (m = n)))
 | .lss => K (.v .b (decide (m < n)))
 | .leq => K (.v .b (decide (m ≤ n)))
 | .gtr => K (.v .b (decide (n < m)))
 | .geq => K (.v .b (decide (n ≤ m)))
 | .and => K (.v (.i k) (andI k m n))
 | .or => K (.v (.i k) (orI k m n))
 | .xor => K (.v (.i k) (xorI k m n))
 | .andNot => K (.v (.i k) (anI k m n))
 | _ => none
theorem binI_of {k : IntKind} {op : BinOp} {m n : Int} {z : Bool} {K : SV → Option R} {r : R} (hz : z = true → n ≠ 0) (h : binI k op m n z K = some r) : ∃ y v, K y = some r ∧ y.toV0 = .sc v ∧ y.root? = none ∧ (∀ g, y.toV g = y.toV0) ∧ ∀ (P : Program) (xt : TypeId) (x y : Operand) (w : World), (do eqGuard op xt x y (.int k m) (.int k n); binOp op xt (.int k m) (.int k n) : Sem Value).run P w = .ok v w := by
 unfold binI at h
 split at h
 · exact ⟨_, _, h, rfl, rfl, fun _ => rfl, fun P xt x y w => by rw [int_add, wr_eq]⟩
 · exact ⟨_, _, h, rfl, rfl, fun _ => rfl, fun P xt x y w => by rw [int_sub, wr_eq]⟩
 · exact ⟨_, _, h, rfl, rfl, fun _ => rfl, fun P xt x y w => by rw [int_mul, wr_eq]⟩
 · obtain ⟨h1, h⟩ := of_lit hz h
   exact ⟨_, _, h, rfl, rfl, fun _ => rfl, fun P xt x y w => by rw [int_quo h1, wr_eq]⟩
 · obtain ⟨h1, h⟩ := of_lit hz h
   exact ⟨_, _, h, rfl, rfl, fun _ => rfl, fun P xt x y w => by rw [int_rem h1]⟩
 · exact ⟨_, _, h, rfl, rfl, fun _ => rfl, fun P xt x y w => int_eql w⟩
 · exact ⟨_, _, h, rfl, rfl, fun _ => rfl, fun P xt x y w => int_neq w⟩
 · exact ⟨_, _, h, rfl, rfl, fun _ => rfl, fun P xt x y w => int_lss w⟩
 · exact ⟨_, _, h, rfl, rfl, fun _ => rfl, fun P xt x y w => int_leq w⟩
 · exact ⟨_, _, h, rfl, rfl, fun _ => rfl, fun P xt x y w => int_gtr w⟩
 · exact ⟨_, _, h, rfl, rfl, fun _ => rfl, fun P xt x y w => int_geq w⟩
 · exact ⟨_, _, h, rfl, rfl, fun _ => rfl, fun P xt x y w => int_and w⟩
 · exact ⟨_, _, h, rfl, rfl, fun _ => rfl, fun P xt x y w => int_or w⟩
 · exact ⟨_, _, h, rfl, rfl, fun _ => rfl, fun P xt x y w => int_xor w⟩
 · exact ⟨_, _, h, rfl, rfl, fun _ => rfl, fun P xt x y w => int_andNot w⟩
 · cases h
def kEq (a b : IntKind) : Bool := decide (a = b)
def litNz : Operand → Bool
 | .const (.int _ n) => !decide (n = 0)
 | _ => false
def litPos : Operand → Bool
 | .const (.int _ n) => decide (0 ≤ n)
 | _ => false
def eqC : (t t' : Ty) → t.den → t'.den → Option Bool
 | .i k, .i k', x, y => bsel (kEq k k') (some (decide (x = y))) <| none
 | .b, .b, x, y => some (decide (x = y))
 | .cons a r, .cons a' r', x, y => (eqC a a' x.1 y.1).ob fun p => (eqC r r' x.2 y.2).ob fun q => some (p && q)
 | _, _, _, _ => none
def stBin (G : GI) (o : Oper) (op : BinOp) (_ : TypeId) (x y : Operand) (T : TS) (K : Rn R) : Option R :=
 (dOk G o).ob fun d => (opS G.nt T x).ob fun a => (opS G.nt T y).ob fun b =>
 match a.int?, b.int? with
 | some p, some q => match op with
  | .shl => bsel (litPos y) (K (rdO x ++ rdO y) [(d, false, .v (.i p.1) (shlI p.1 p.2 q.2))]) <| if 0 ≤ q.2 then K (rdO x ++ rdO y) [(d, false, .v (.i p.1) (shlI p.1 p.2 q.2))] else none
  | .shr => bsel (litPos y) (K (rdO x ++ rdO y) [(d, false, .v (.i p.1) (shrI p.1 p.2 q.2))]) <| if 0 ≤ q.2 then K (rdO x ++ rdO y) [(d, false, .v (.i p.1) (shrI p.1 p.2 q.2))] else none
  | op => bsel (kEq p.1 q.1) (binI p.1 op p.2 q.2 (litNz y) fun z => K (rdO x ++ rdO y) [(d, false, z)]) <| none
 | _, _ => none
theorem litPos_of {y : Operand} {b : SV} {q : IntKind × Int} (h : litPos y = true) (hb : opS G.nt T y = some b) (hq : b.int? = some q) : 0 ≤ q.2 := by
 unfold litPos at h
 split at h
 · injection hb with hb
   subst hb
   injection hq with hq
   subst hq
   exact of_decide_eq_true h
 · cases h
theorem litNz_of {y : Operand} {b : SV} {q : IntKind × Int} (h : litNz y = true) (hb : opS G.nt T y = some b) (hq : b.int? = some q) : q.2 ≠ 0 := by
 unfold litNz at h
 split at h
 · injection hb with hb
   subst hb
   injection hq with hq
   subst hq
   simpa using h
 · cases h
theorem stBin_snd (hF : Fit G C) (hT : Tells G.nt G.n T0 T) {o : Oper} {op : BinOp} {xt yt : TypeId} {x y : Operand} (ho : o.op = .binOp op xt x y yt) : Snd (R := R) G C T0 o (stBin G o op xt x y T) := by
 intro K r h
 unfold stBin at h
 obtain ⟨d, hd, h⟩ := of_ob h
 obtain ⟨a, ha, h⟩ := of_ob h
 obtain ⟨b, hb, h⟩ := of_ob h
 obtain ⟨d1, d2, d3, d4, d5, d6⟩ := dOk_of hF hT hd
 split at h
 · rename_i p q hp hq
   have hb0 := hb
   rw [int?_eq hp] at ha
   rw [int?_eq hq] at hb
   have hx := opS_opnd (rd := rdO x ++ rdO y) hF hT ha (v := .int p.1 p.2) rfl fun s hs => List.mem_append_left _ hs
   have hy := opS_opnd (rd := rdO x ++ rdO y) hF hT hb (v := .int q.1 q.2) rfl fun s hs => List.mem_append_right _ hs
   split at h
   · obtain ⟨hk, h⟩ := of_lit (fun e => litPos_of e hb0 hq) h
     exact ⟨_, _, exec_bin (P := G.P) ho d1 d2 d3 d4 hx hy (int_shl hk), EOk.one d6 rfl, h⟩
   · obtain ⟨hk, h⟩ := of_lit (fun e => litPos_of e hb0 hq) h
     exact ⟨_, _, exec_bin (P := G.P) ho d1 d2 d3 d4 hx hy (int_shr hk), EOk.one d6 rfl, h⟩
   · obtain ⟨hk, h⟩ : p.1 = q.1 ∧ binI p.1 op p.2 q.2 (litNz y) (fun z => K (rdO x ++ rdO y) [(d, false, z)]) = some r := by
      cases hb : kEq p.1 q.1 with
      | true => rw [hb] at h; exact ⟨of_decide_eq_true hb, h⟩
      | false => rw [hb] at h; cases h
     obtain ⟨z, v, hKz, hz, hzr, hzg, hrun⟩ := binI_of (fun e => litNz_of e hb0 hq) h
     refine ⟨_, _, ?_, EOk.one d6 hzr, hKz⟩
     have := exec_bin (P := G.P) ho d1 d2 d3 d4 hx hy (v := v) (fun w => by rw [← hk]; exact hrun _ _ _ _ w)
     simp only [ES.eff, List.map_cons, List.map_nil, hzg, hz]
     exact this
 · cases h
end
end Go.Proofs.Ytnlocbjojbgdcaa.Vm
namespace Go.Proofs.Ytnlocbjojbgdcaa.Vm
open Go
open Go.RowKit (wrap64)
section
variable {G : GI} {C : Ctx} {T0 : St} {T : TS} {R : Type}
def SV.free : SV → Bool
 | .v t _ => t.free
 | .agg t _ => t.free
 | .tup l => go l
 | .np => true
 | .un => true
 | .opt _ _ => true
 | .kb _ => true
 | _ => false
where
 go : List SV → Bool
  | [] => true
  | x :: l => SV.free x && go l
theorem enc_all_free {t : Ty} {x : t.den} (h : t.free = true) : ∀ c, c ∈ enc t x → c.free = true := fun c hc => V.free_go (enc_free t x h) c hc
theorem free_go_of {l : List V} (h : ∀ c, c ∈ l → c.free = true) : V.free.go l = true := by
 induction l with
 | nil => rfl
 | cons c l ih => simp only [V.free.go, Bool.and_eq_true]; exact ⟨h c List.mem_cons_self, ih fun c hc => h c (List.mem_cons_of_mem _ hc)⟩
theorem toV0_v_free {t : Ty} {x : t.den} (h : t.free = true) : (SV.v t x).toV0.free = true := by
 show (match enc t x with | [c] => c | cs => V.agg cs).free = true
 split
 · rename_i c hc; exact enc_all_free h c (by rw [hc]; simp)
 · exact enc_free t x h
mutual
theorem toV0_free : ∀ (x : SV), x.free = true → x.toV0.free = true
 | .v t x, h => toV0_v_free h
 | .agg t x, h => enc_free t x h
 | .tup l, h => toV0_free_go l h
 | .np, _ => rfl
 | .un, _ => rfl
 | .kb _, _ => rfl
 | .opt _ none, _ => rfl
 | .opt _ (some _), _ => rfl
 | .at_ _, h | .refv _ _ _ _ _, h | .al _, h | .ref _ _ _ _, h | .vw _ _ _ _, h | .obx _ _, h | .iter _ _, h | .u0, h | .dead, h => by simp [SV.free] at h
theorem toV0_free_go : ∀ (l : List SV), SV.free.go l = true → V.free.go (SV.toV0.go l) = true
 | [], _ => rfl
 | x :: l, h => by
  simp only [SV.free.go, Bool.and_eq_true] at h
  simp only [SV.toV0.go, V.free.go, Bool.and_eq_true]
  exact ⟨toV0_free x h.1, toV0_free_go l h.2⟩
end
theorem toV_root {x : SV} (h : x.root? = none) (g : Nat → Nat) : x.toV g = x.toV0 := by
 cases x <;> first | rfl | (simp [SV.root?] at h; done)
theorem free_root {x : SV} (h : x.free = true) : x.root? = none ∧ x.isDead = false := by
 cases x <;> first | exact ⟨rfl, rfl⟩ | (simp [SV.free] at h; done)
theorem Tells.slot (hT : Tells G.nt G.n T0 T) {s : Nat} {x : SV} (hx : look? T s = some x) (hr : x.root? = none) (hd : x.isDead = false) : T0.at s = x.toV0 := by
 rw [hT.plain hx hr hd, toV_root hr]
structure RI where
 r : Nat
 E : Nat
 c : Ty
 xs : List c.den
def rootOf (nt : Nat) (T : TS) (s : Nat) : Option RI := bsel (s.blt nt) (match look? T s with
 | some (.v (.own E c) xs) => some ⟨s, E, c, xs⟩
 | some (.al r) => match look? T r with
  | some (.v (.own E c) xs) => some ⟨r, E, c, xs⟩
  | _ => none
 | _ => none) <| none
theorem own_toV0 {E : Nat} {c : Ty} {xs : List c.den} : (SV.v (.own E c) xs).toV0 = .own E c.n (xs.map (enc c)) := rfl
theorem rootOf_of (hF : Fit G C) (hT : Tells G.nt G.n T0 T) {s : Nat} {w : RI} {rd : List Nat} (h : rootOf G.nt T s = some w) (h1 : s ∈ rd) (h2 : w.r ∈ rd) : Own1 C T0 rd s w.r w.E w.c.n (w.xs.map (enc w.c)) ∧ w.r < T0.length ∧ look? T w.r = some (.v (.own w.E w.c) w.xs) ∧ s < G.nt := by
 unfold rootOf at h
 cases hb : s.blt G.nt with
 | false => rw [hb] at h; cases h
 | true =>
  have hs := lt_blt hb
  rw [hb] at h
  replace h := bsel_t h
  split at h
  · rename_i E c xs hx
    injection h with h
    subst h
    exact ⟨⟨by rw [hF.nt]; exact hs, h1, h2, hT.slot hx rfl rfl, .inl rfl⟩, by rw [hT.len]; exact hT.lt hx, hx, hs⟩
  · rename_i r hx
    split at h
    · rename_i E c xs hy
      injection h with h
      subst h
      exact ⟨⟨by rw [hF.nt]; exact hs, h1, h2, hT.slot hy rfl rfl, .inr (hT.al hx)⟩, by rw [hT.len]; exact hT.lt hy, hy, hs⟩
    · cases h
  · cases h
def litC : Value → Option SV
 | .int k n => some (.v (.i k) n)
 | .bool b => some (.v .b b)
 | .string s => some (.v .s s)
 | .pointer none => some .np
 | _ => none
structure TV where
 t : Ty
 x : t.den
def packT : List SV → Option TV
 | [] => none
 | [.v t x] => bsel t.leaf (some ⟨t, x⟩) <| none
 | .v t x :: l => bsel t.leaf ((packT l).ob fun y => some ⟨.cons t y.t, (x, y.x)⟩) <| none
 | _ => none
theorem packT_of : ∀ {l : List SV} {y : TV}, packT l = some y → enc y.t y.x = l.map SV.toV0 ∧ l ≠ [] ∧ ∀ x, x ∈ l → x.root? = none ∧ x.isDead = false
 | [], y, h => by cases h
 | [.v t x], y, h => by
  simp only [packT] at h
  cases hl : t.leaf with
  | false => rw [hl] at h; cases h
  | true =>
   rw [hl] at h
   injection h with h
   subst h
   obtain ⟨c, hc⟩ := enc_leaf hl x
   refine ⟨?_, by simp, fun z hz => by simp at hz; subst hz; exact ⟨rfl, rfl⟩⟩
   have hc' : enc (TV.mk t x).t (TV.mk t x).x = [c] := hc
   rw [hc']
   show [c] = [match enc t x with | [c] => c | cs => V.agg cs]
   rw [hc]
 | .v t x :: z :: l, y, h => by
  simp only [packT] at h
  cases hl : t.leaf with
  | false => rw [hl] at h; cases h
  | true =>
   rw [hl] at h
   obtain ⟨y', hy, h⟩ := of_ob h
   injection h with h
   subst h
   obtain ⟨h1, _, h3⟩ := packT_of hy
   obtain ⟨c, hc⟩ := enc_leaf hl x
   refine ⟨?_, by simp, fun z' hz => ?_⟩
   · show enc t x ++ enc y'.t y'.x = _
     rw [h1, hc]
     show c :: _ = (match enc t x with | [c] => c | cs => V.agg cs) :: _
     rw [hc]
     rfl
   · rcases List.mem_cons.1 hz with rfl | hz
     · exact ⟨rfl, rfl⟩
     · exact h3 z' hz
 | .agg _ _ :: _, y, h | .tup _ :: _, y, h | .at_ _ :: _, y, h | .al _ :: _, y, h | .ref _ _ _ _ :: _, y, h | .vw _ _ _ _ :: _, y, h | .obx _ _ :: _, y, h | .iter _ _ :: _, y, h | .np :: _, y, h | .un :: _, y, h | .kb _ :: _, y, h | .refv _ _ _ _ _ :: _, y, h | .dead :: _, y, h => by simp [packT] at h
def litCs : List Value → Option (List SV)
 | [] => some []
 | v :: l => (litC v).ob fun x => (litCs l).ob fun y => some (x :: y)
theorem litC_of {v : Value} {x : SV} (h : litC v = some x) : x.toV0 = .sc v ∧ v.oneCell' = true ∧ x.root? = none := by
 unfold litC at h
 split at h <;> first
  | (injection h with h; subst h; exact ⟨rfl, rfl, rfl⟩)
  | cases h
theorem litCs_of {vs : List Value} {xs : List SV} (h : litCs vs = some xs) : lits vs (xs.map SV.toV0) := by
 induction vs generalizing xs with
 | nil => injection h with h; subst h; trivial
 | cons v vs ih =>
  obtain ⟨x, h1, h⟩ := of_ob h
  obtain ⟨y, h2, h⟩ := of_ob h
  injection h with h
  subst h
  obtain ⟨e1, e2, _⟩ := litC_of h1
  exact ⟨by rw [e1]; rfl, e2, ih h2⟩
def litS (G : GI) (ty : TypeId) : Value → Option SV
 | .slice none 0 0 => (tiOf G.tt ty).ob fun i => i.sl.ob fun e => (tiOf G.tt e).ob fun j => some (.v (.own e j.c) [])
 | .agg vs => (litCs vs.toList).ob fun l => (packT l).ob fun y => some (.agg y.t y.x)
 | .bool b => some (.kb b)
 | v => litC v
theorem exec_lit_agg {P : Program} {o : Oper} {rd : List Nat} {d : Nat} (vs : Array Value) (cs : List V) (hop : o.op = .move (.const (.agg vs)) ∨ o.op = .assign (.const (.agg vs))) (hd : o.dst = some d) (hdn : d < C.nt) (hdl : d < T0.length) (hdp : C.pin d = none) (hl : lits vs.toList cs) : Exec P C o rd T0 [(d, false, .agg cs)] :=
 exec_free _ hd hdn hdl hdp fun T' a w S F loc _ _ => by
  refine ⟨.agg vs, by rcases hop with h | h <;> (obtain ⟨_, op, _, _, _, _⟩ := o; simp only at h; subst h; rfl), ?_⟩
  obtain ⟨h1, h2⟩ := hl.get
  exact .agg _ _ vs cs (fun _ => Foot.none) (by simpa using h1) (Split.none _) (fun i u c hu hc => (h2 i u c (by simpa using hu) hc).2) fun i u c hu hc => (h2 i u c (by simpa using hu) hc).1.hold w S C.B _
theorem litS_exec (_ : Fit G C) {o : Oper} {d : Nat} {v : Value} {x : SV} {ty : TypeId} (h : litS G ty v = some x) (hop : o.op = .move (.const v) ∨ o.op = .assign (.const v)) (hd : o.dst = some d) (hdn : d < C.nt) (hdl : d < T0.length) (hdp : C.pin d = none) : Exec G.P C o [] T0 [(d, false, x.toV0)] ∧ x.root? = none := by
 unfold litS at h
 split at h
 · obtain ⟨i, h1, h⟩ := of_ob h
   obtain ⟨e, h2, h⟩ := of_ob h
   obtain ⟨j, h3, h⟩ := of_ob h
   injection h with h
   subst h
   exact ⟨exec_lit _ _ hop hd hdn hdl hdp (Ty.n_pos _), rfl⟩
 · obtain ⟨l, h1, h⟩ := of_ob h
   obtain ⟨y, h2, h⟩ := of_ob h
   injection h with h
   subst h
   refine ⟨?_, rfl⟩
   have := exec_lit_agg (P := G.P) (rd := []) _ _ hop hd hdn hdl hdp (litCs_of h1)
   rw [← (packT_of h2).1] at this
   exact this
 · injection h with h
   subst h
   exact ⟨exec_lit _ _ hop hd hdn hdl hdp rfl, rfl⟩
 · obtain ⟨e1, e2, e3⟩ := litC_of h
   refine ⟨exec_lit _ _ hop hd hdn hdl hdp ?_, e3⟩
   rw [e1]
   rfl
def stMove (G : GI) (o : Oper) (asg tk : Bool) (x : Operand) (T : TS) (K : Rn R) : Option R := (dOk G o).ob fun d => match x with
 | .const v => (litS G o.type v).ob fun y => K [] [(d, false, y)]
 | .tmp s => bsel (s.blt G.nt) (match look? T s with
  | some (.v (.own E c) xs) => bsel asg (K [s] [(s, false, .dead), (d, false, .v (.own E c) xs)]) <| bsel (s.beq d) none <| K [s] [(d, false, .al s)]
  | some (.al r) => match look? T r with
   | some (.v (.own E c) xs) => bsel (asg && (r.blt G.nt || tk)) (K [s, r] [(r, false, .dead), (d, false, .v (.own E c) xs)]) <| bsel (r.beq d) none <| K [s, r] [(d, false, .al r)]
   | _ => none
  | some (.at_ k) => K [s] [(d, false, .at_ k)]
  | some (.ref r sz i o) => bsel (r.beq d) none <| K [s, r] [(d, false, .ref r sz i o)]
  | some (.vw r sz i o) => bsel (r.beq d) none <| K [s, r] [(d, false, .vw r sz i o)]
  | some .dead => none
  | some (.atv _ _ _) => none
  | some (.refv _ _ _ _ _) => none
  | some y => bsel y.free (K [s] [(d, false, y)]) <| bsel (s.beq d) none <| K [s] [(s, false, .dead), (d, false, y)]
  | none => none) <| none
 | _ => none
theorem ne_beq {a b : Nat} (h : a.beq b = false) : a ≠ b := fun e => by rw [e, Nat.beq_refl] at h; cases h
theorem of_bif {b : Bool} {x y : Option R} {r : R} (h : (bsel b x <| y) = some r) : b = true ∧ x = some r ∨ b = false ∧ y = some r := by
 cases b
 · exact .inr ⟨rfl, h⟩
 · exact .inl ⟨rfl, h⟩
theorem stMove_snd (hF : Fit G C) (hT : Tells G.nt G.n T0 T) {o : Oper} {asg tk : Bool} {x : Operand} (hop : o.op = .move x ∨ o.op = .assign x) : Snd (R := R) G C T0 o (stMove G o asg tk x T) := by
 intro K r h
 unfold stMove at h
 obtain ⟨d, hd, h⟩ := of_ob h
 obtain ⟨d1, d2, d3, d4, d5, d6⟩ := dOk_of hF hT hd
 cases x with
 | const v =>
  obtain ⟨y, hy, h⟩ := of_ob h
  obtain ⟨e1, e2⟩ := litS_exec (T0 := T0) hF hy hop d1 d2 d3 d4
  refine ⟨_, _, ?_, EOk.one d6 e2, h⟩
  simp only [ES.eff, List.map_cons, List.map_nil, toV_root e2]
  exact e1
 | global => cases h
 | func => cases h
 | tmp s =>
  rcases of_bif h with ⟨hb, h⟩ | ⟨_, h⟩
  · have hs := lt_blt hb
    have hs' : s < C.nt := by rw [hF.nt]; exact hs
    split at h
    · rename_i E c xs hx
      have hsl : s < G.n := hT.lt hx
      rcases of_bif h with ⟨ha, h⟩ | ⟨_, h⟩
      · refine ⟨_, _, ?_, EOk.two hsl rfl d6 rfl, h⟩
        exact exec_take s s E c.n (xs.map (enc c)) hop d1 d2 d3 d4 (by rw [hT.len]; exact hsl) ⟨hs', by simp, by simp, hT.slot hx rfl rfl, .inl rfl⟩
      · rcases of_bif h with ⟨_, h⟩ | ⟨hne, h⟩
        · cases h
        · refine ⟨_, _, ?_, EOk.link d5 d6 rfl (ne_beq hne), h⟩
          exact exec_alias s s E c.n (xs.map (enc c)) hop d1 d2 d3 d4 (ne_beq hne) ⟨hs', by simp, by simp, hT.slot hx rfl rfl, .inl rfl⟩
    · rename_i r hx
      split at h
      · rename_i E c xs hy
        have hrl : r < G.n := hT.lt hy
        rcases of_bif h with ⟨ha, h⟩ | ⟨_, h⟩
        · refine ⟨_, _, ?_, EOk.two hrl rfl d6 rfl, h⟩
          exact exec_take s r E c.n (xs.map (enc c)) hop d1 d2 d3 d4 (by rw [hT.len]; exact hrl) ⟨hs', by simp, by simp, hT.slot hy rfl rfl, .inr (hT.al hx)⟩
        · rcases of_bif h with ⟨_, h⟩ | ⟨hne, h⟩
          · cases h
          · refine ⟨_, _, ?_, EOk.link d5 d6 rfl (ne_beq hne), h⟩
            exact exec_alias s r E c.n (xs.map (enc c)) hop d1 d2 d3 d4 (ne_beq hne) ⟨hs', by simp, by simp, hT.slot hy rfl rfl, .inr (hT.al hx)⟩
      · cases h
    · rename_i k hx
      refine ⟨_, _, ?_, EOk.one d6 rfl, h⟩
      exact exec_ptr s k (hop.imp id .inl) d1 d2 d3 d4 (by simp) hs' (hT.slot hx rfl rfl)
    · rename_i r sz i o' hx
      rcases of_bif h with ⟨_, h⟩ | ⟨hne, h⟩
      · cases h
      · refine ⟨_, _, ?_, EOk.link d5 d6 rfl (ne_beq hne), h⟩
        exact exec_relink s r _ (hop.imp id .inl) (fun _ => ⟨_, _, _, rfl⟩) d1 d2 d3 d4 (by simp) (by simp) hs' (hT.ref hx) rfl (ne_beq hne)
    · rename_i r sz i o' hx
      rcases of_bif h with ⟨_, h⟩ | ⟨hne, h⟩
      · cases h
      · refine ⟨_, _, ?_, EOk.link d5 d6 rfl (ne_beq hne), h⟩
        exact exec_relink s r _ (hop.imp id .inl) (fun e => by rcases hop with h | h <;> rw [h] at e <;> cases e) d1 d2 d3 d4 (by simp) (by simp) hs' (hT.vw hx) rfl (ne_beq hne)
    · cases h
    · cases h
    · cases h
    · rename_i y q1 q2 q3 q4 q5 q6 q7 q8 hx
      have hroot : y.root? = none ∧ y.isDead = false ∧ (∀ k, y ≠ .at_ k) := by
       cases y with
       | al r => exact (q2 r rfl).elim
       | at_ k => exact (q3 k rfl).elim
       | ref a b c e => exact (q4 _ _ _ _ rfl).elim
       | vw a b c e => exact (q5 _ _ _ _ rfl).elim
       | dead => exact (q6 rfl).elim
       | refv a b c e f => exact (q8 _ _ _ _ _ rfl).elim
       | _ => exact ⟨rfl, rfl, fun _ e => by cases e⟩
      rcases of_bif h with ⟨hf, h⟩ | ⟨_, h⟩
      · obtain ⟨f1, f2⟩ := free_root hf
        refine ⟨_, _, ?_, EOk.one d6 f1, h⟩
        simp only [ES.eff, List.map_cons, List.map_nil, toV_root f1]
        exact exec_copy s _ hop d1 d2 d3 d4 (by simp) hs' (hT.slot hx f1 f2) (toV0_free y hf)
      · rcases of_bif h with ⟨_, h⟩ | ⟨hne, h⟩
        · cases h
        · refine ⟨_, _, ?_, EOk.two (hT.lt hx) rfl d6 hroot.1, h⟩
          simp only [ES.eff, List.map_cons, List.map_nil, toV_root hroot.1]
          have hp := toV_plain g0 y
          rw [toV_root hroot.1] at hp
          refine exec_take_val s _ hop d1 d2 d3 d4 (by simp) hs' (by rw [hT.len]; exact hT.lt hx) (hT.slot hx hroot.1 hroot.2.1) hp.1 (fun k e => ?_) (hp.2.resolve_right fun ⟨r, e, _⟩ => by rw [hroot.1] at e; cases e)
          cases y with
          | v t x =>
           revert e
           show (match enc t x with | [c] => c | cs => V.agg cs) = .at_ k → False
           split
           · rename_i c hc; exact (enc_plain t x c (by rw [hc]; simp)).2.2.1 k
           · intro e; cases e
          | at_ k' => exact hroot.2.2 k' rfl
          | atv a b c => exact q7 _ _ _ rfl
          | opt t x => cases x <;> simp [SV.toV0] at e
          | _ => simp [SV.toV0] at e
    · cases h
  · cases h
end
end Go.Proofs.Ytnlocbjojbgdcaa.Vm
namespace Go.Proofs.Ytnlocbjojbgdcaa.Vm
open Go
open Go.RowKit (wrap64)
section
variable {G : GI} {C : Ctx} {T0 : St} {T : TS} {R : Type}
theorem toList_one {α : Type} {a : Array α} {x : α} (h : a.toList = [x]) : a = #[x] := by cases a; simp_all
theorem toList_three {α : Type} {a : Array α} {x y z : α} (h : a.toList = [x, y, z]) : a = #[x, y, z] := by cases a; simp_all
theorem toList_two {α : Type} {a : Array α} {x y : α} (h : a.toList = [x, y]) : a = #[x, y] := by cases a; simp_all
theorem Fit.size (hF : Fit G C) {t : Nat} {i : TI} (h : tiOf G.tt t = some i) : (G.P.info? t).map (·.size) = some i.sz := by
 have := (hF.ti h).info
 obtain ⟨j, h1, h2⟩ := Option.map_eq_some_iff.1 this
 rw [h1]
 simp only [Prod.mk.injEq] at h2
 simp [h2.2.1]
theorem Fit.elem (hF : Fit G C) {t : Nat} {i : TI} (h : tiOf G.tt t = some i) : elemT G.P t i.z i.sz i.by_ := ⟨(hF.ti h).info, (hF.ti h).z, by rw [(hF.ti h).pos]; trivial⟩
def slotO (nt : Nat) (T : TS) : Operand → Option (Nat × SV)
 | .tmp s => bsel (s.blt nt) ((look? T s).ob fun y => some (s, y)) <| none
 | _ => none
theorem slotO_of {x : Operand} {p : Nat × SV} (h : slotO G.nt T x = some p) : x = .tmp p.1 ∧ p.1 < G.nt ∧ look? T p.1 = some p.2 := by
 cases x with
 | tmp s =>
  replace h := of_bif h
  rcases h with ⟨hb, h⟩ | ⟨_, h⟩
  · replace h := of_ob h
    obtain ⟨y, hy, h⟩ := h
    injection h with h
    subst h
    exact ⟨rfl, lt_blt hb, hy⟩
  · cases h
 | const => cases h
 | global => cases h
 | func => cases h
structure RW where
 rd : List Nat
 c : Ty
 xs : List c.den
def rowyK (T : TS) (s : Nat) (y : SV) (K : RW → Option R) : Option R := match y with
 | .v (.row _ c) xs => K ⟨[s], c, xs⟩
 | .v (.own _ c) xs => K ⟨[s], c, xs⟩
 | .al r => match look? T r with
  | some (.v (.own _ c) xs) => K ⟨[s, r], c, xs⟩
  | _ => none
 | .vw r sz lo m => match look? T r with
  | some (.v (.own _ c) xs) => bsel (sz.beq c.n) ((if lo + m ≤ xs.length then K ⟨[s, r], c, (xs.drop lo).take m⟩ else none)) <| none
  | _ => none
 | _ => none
theorem rowyK_of (hF : Fit G C) (hT : Tells G.nt G.n T0 T) {s : Nat} {y : SV} {K : RW → Option R} {r : R} (h : rowyK T s y K = some r) (hs : s < G.nt) (hy : look? T s = some y) : ∃ w, K w = some r ∧ ∀ rd, (∀ t, t ∈ w.rd → t ∈ rd) → Rowy C T0 rd s w.c.n (w.xs.map (enc w.c)) := by
 have hs' : s < C.nt := by rw [hF.nt]; exact hs
 unfold rowyK at h
 split at h
 · exact ⟨_, h, fun rd hrd => ⟨hs', hrd s (by simp), .inl ⟨_, hT.slot hy rfl rfl⟩⟩⟩
 · exact ⟨_, h, fun rd hrd => ⟨hs', hrd s (by simp), .inr (.inl ⟨s, _, hs', hrd s (by simp), hrd s (by simp), hT.slot hy rfl rfl, .inl rfl⟩)⟩⟩
 · split at h
   · rename_i hr
     exact ⟨_, h, fun rd hrd => ⟨hs', hrd s (by simp), .inr (.inl ⟨_, _, hs', hrd s (by simp), hrd _ (by simp), hT.slot hr rfl rfl, .inr (hT.al hy)⟩)⟩⟩
   · cases h
 · split at h
   · rename_i hr
     replace h := of_bif h
     rcases h with ⟨hb, h⟩ | ⟨_, h⟩
     · replace h := of_guard h
       obtain ⟨hl, h⟩ := h
       have hsz := Nat.eq_of_beq_eq_true hb
       refine ⟨_, h, fun rd hrd => ⟨hs', hrd s (by simp), .inr (.inr ⟨_, _, _, _, _, hrd _ (by simp), hT.slot hr rfl rfl, by rw [← hsz]; exact hT.vw hy, ?_, ?_⟩)⟩⟩
       · simp [List.map_drop, List.map_take]
       · simp; omega
     · cases h
   · cases h
 · cases h
def stLen (G : GI) (o : Oper) (t : TypeId) (x : Operand) (T : TS) (K : Rn R) : Option R := (dOk G o).ob fun d => (tiOf G.tt t).ob fun i => (slotO G.nt T x).ob fun p => match i.k with
 | .str => p.2.str?.ob fun b => K [p.1] [(d, false, .v (.i .i64) (b.size : Int))]
 | .sl _ => rowyK T p.1 p.2 fun w => K w.rd [(d, false, .v (.i .i64) (w.xs.length : Int))]
 | _ => none
theorem exec_len_str {o : Oper} {d t s : Nat} {x : ByteArray} {rd : List Nat} (hop : o.op = .call { callee := .builtin .len, args := #[.tmp s], argTypes := #[t] }) (hd : o.dst = some d) (hdn : d < C.nt) (hdl : d < T0.length) (hdp : C.pin d = none) (ht : G.P.underlying t = some .string) (hx : opnd C T0 rd (.tmp s) (.string x)) : Exec G.P C o rd T0 [(d, false, .sc (.int .i64 (x.size : Int)))] :=
 exec_free _ hd hdn hdl hdp fun T' a w S F loc hs hsim => ⟨_, by
  have h1 := opnd_eval hx hs hsim
  simp [execOp, hop, resolve, invoke, builtin, Builtin.len_, run_underlying ht, h1, goInt], .sc ..⟩
theorem stLen_snd (hF : Fit G C) (hT : Tells G.nt G.n T0 T) {o : Oper} {t : TypeId} {x : Operand} (ho : o.op = .call { callee := .builtin .len, args := #[x], argTypes := #[t] }) : Snd (R := R) G C T0 o (stLen G o t x T) := by
 intro K r h
 unfold stLen at h
 replace h := of_ob h
 obtain ⟨d, hd, h⟩ := h
 obtain ⟨d1, d2, d3, d4, d5, d6⟩ := dOk_of hF hT hd
 replace h := of_ob h
 obtain ⟨i, hi, h⟩ := h
 replace h := of_ob h
 obtain ⟨⟨s, y⟩, hp, h⟩ := h
 obtain ⟨rfl, hs, hy⟩ := slotO_of hp
 split at h
 · rename_i hk
   have ht : G.P.underlying t = some .string := by have := (hF.ti hi).k; rw [hk] at this; exact this
   replace h := of_ob h
   obtain ⟨b, hb', h⟩ := h
   have e := str?_eq hb'
   simp only at e
   subst e
   refine ⟨_, _, ?_, EOk.one d6 rfl, h⟩
   exact exec_len_str ho d1 d2 d3 d4 ht ⟨by simp, by rw [hF.nt]; exact hs, by rw [hT.slot hy rfl rfl]; rfl⟩
 · rename_i e hk
   have ht : G.P.underlying t = some (.slice e) := hF.slice hi (by unfold TI.sl; rw [hk])
   replace h := rowyK_of hF hT h hs hy
   obtain ⟨w, h, hw⟩ := h
   refine ⟨_, _, ?_, EOk.one d6 rfl, h⟩
   have := exec_len s w.c.n t _ ho d1 d2 d3 d4 e ht (hw w.rd fun _ h => h)
   rw [row_len] at this
   exact this
 · cases h
def dropT : Nat → TV → Option TV
 | 0, y => some y
 | n + 1, ⟨.cons a r, x⟩ => bsel a.leaf (dropT n ⟨r, x.2⟩) <| none
 | _ + 1, _ => none
theorem dropT_of : ∀ {n : Nat} {y z : TV}, dropT n y = some z → enc z.t z.x = (enc y.t y.x).drop n
 | 0, y, z, h => by injection h with h; subst h; rfl
 | n + 1, ⟨.cons a r, x⟩, z, h => by
  replace h := of_bif h
  rcases h with ⟨hl, h⟩ | ⟨_, h⟩
  · rw [dropT_of h]
    obtain ⟨c, hc⟩ := enc_leaf hl x.1
    show (enc r x.2).drop n = (enc a x.1 ++ enc r x.2).drop (n + 1)
    rw [hc]; rfl
  · cases h
 | n + 1, ⟨.i _, x⟩, z, h | n + 1, ⟨.b, x⟩, z, h | n + 1, ⟨.s, x⟩, z, h | n + 1, ⟨.row _ _, x⟩, z, h | n + 1, ⟨.own _ _, x⟩, z, h | n + 1, ⟨.ptr _ _, x⟩, z, h => by cases h
def takeT : Nat → TV → Option TV
 | 0, ⟨.cons a _, x⟩ => bsel a.leaf (some ⟨a, x.1⟩) <| none
 | 0, y => some y
 | n + 1, ⟨.cons a r, x⟩ => bsel a.leaf ((takeT n ⟨r, x.2⟩).ob fun y => some ⟨.cons a y.t, (x.1, y.x)⟩) <| none
 | _ + 1, _ => none
theorem takeT_of : ∀ {n : Nat} {y z : TV}, takeT n y = some z → enc z.t z.x = (enc y.t y.x).take (n + 1) ∧ z.t.n = n + 1
 | 0, ⟨.cons a r, x⟩, z, h => by
  replace h := of_bif h
  rcases h with ⟨hl, h⟩ | ⟨_, h⟩
  · injection h with h
    subst h
    obtain ⟨c, hc⟩ := enc_leaf hl x.1
    refine ⟨?_, by have := enc_length a x.1; rw [hc] at this; exact this.symm⟩
    show enc a x.1 = (enc a x.1 ++ enc r x.2).take 1
    rw [hc]; rfl
  · cases h
 | 0, ⟨.i _, x⟩, z, h | 0, ⟨.b, x⟩, z, h | 0, ⟨.s, x⟩, z, h | 0, ⟨.row _ _, x⟩, z, h | 0, ⟨.own _ _, x⟩, z, h | 0, ⟨.ptr _ _, x⟩, z, h => by injection h with h; subst h; exact ⟨rfl, rfl⟩
 | n + 1, ⟨.cons a r, x⟩, z, h => by
  replace h := of_bif h
  rcases h with ⟨hl, h⟩ | ⟨_, h⟩
  · replace h := of_ob h
    obtain ⟨y, hy, h⟩ := h
    injection h with h
    subst h
    obtain ⟨c, hc⟩ := enc_leaf hl x.1
    obtain ⟨h1, h2⟩ := takeT_of hy
    have hn : a.n = 1 := by have := enc_length a x.1; rw [hc] at this; exact this.symm
    refine ⟨?_, ?_⟩
    · show enc a x.1 ++ enc y.t y.x = (enc a x.1 ++ enc r x.2).take (n + 2)
      rw [h1, hc]; rfl
    · show a.n + y.t.n = n + 2
      rw [hn, h2]; omega
  · cases h
 | n + 1, ⟨.i _, x⟩, z, h | n + 1, ⟨.b, x⟩, z, h | n + 1, ⟨.s, x⟩, z, h | n + 1, ⟨.row _ _, x⟩, z, h | n + 1, ⟨.own _ _, x⟩, z, h | n + 1, ⟨.ptr _ _, x⟩, z, h => by cases h
def SV.ptr? : SV → Option (Bool × TV)
 | .v (.ptr f c) x => some (f, ⟨c, x⟩)
 | _ => none
theorem ptr?_eq {x : SV} {p : Bool × TV} (h : x.ptr? = some p) : x = .v (.ptr p.1 p.2.t) p.2.x := by
 unfold SV.ptr? at h
 split at h
 · injection h with h; subst h; rfl
 · cases h
def at? {α : Type} (xs : List α) (n : Int) : Option α := if 0 ≤ n then xs[n.toNat]? else none
theorem at?_of {α : Type} {xs : List α} {n : Int} {x : α} (h : at? xs n = some x) : 0 ≤ n ∧ xs[n.toNat]? = some x := by
 unfold at? at h
 exact of_guard h
def stIndexAddr (G : GI) (o : Oper) (t : TypeId) (x ix : Operand) (T : TS) (K : Rn R) : Option R := (dOk G o).ob fun d => (tiOf G.tt t).ob fun i => (slotO G.nt T x).ob fun p => (opS G.nt T ix).ob fun b => b.int?.ob fun q => match i.k with
 | .sl e => (tiOf G.tt e).ob fun j => match p.2 with
  | .v (.row f c) xs => bsel (j.sz.beq c.n) ((at? xs q.2).bind fun y => K (p.1 :: rdO ix) [(d, false, .v (.ptr f c) y)]) <| none
  | .vw r sz lo m => bsel (j.sz.beq sz && !r.beq d) ((rootOf G.n T r).ob fun w => bsel (w.r.beq r && w.c.n.beq sz) ((if 0 ≤ q.2 ∧ q.2 < (m : Int) then K (p.1 :: r :: rdO ix) [(d, false, .ref r sz (lo + q.2.toNat) 0)] else none)) <| none) <| none
  | _ => (rootOf G.nt T p.1).ob fun w => bsel (j.sz.beq w.c.n && !w.r.beq d) ((if 0 ≤ q.2 ∧ q.2 < (w.xs.length : Int) then K (p.1 :: w.r :: rdO ix) [(d, false, .ref w.r w.c.n q.2.toNat 0)] else none)) <| none
 | _ => none
theorem opS_opv (hF : Fit G C) (hT : Tells G.nt G.n T0 T) {y : Operand} {x : SV} {k : IntKind} {n : Int} {rd : List Nat} (h : opS G.nt T y = some x) (hv : x = .v (.i k) n) (hrd : ∀ s, s ∈ rdO y → s ∈ rd) : opv C T0 rd (.int k n) y := by
 have := opS_opnd hF hT h (v := .int k n) (by rw [hv]; rfl) hrd
 cases y <;> first | exact this | (simp [opnd] at this; done)
theorem rootOf_own {w : RI} {s : Nat} {n : Nat} (h : rootOf n T s = some w) (he : w.r = s) : look? T s = some (.v (.own w.E w.c) w.xs) := by
 unfold rootOf at h
 replace h := of_bif h
 rcases h with ⟨_, h⟩ | ⟨_, h⟩
 · split at h
   · rename_i hx; injection h with h; subst h; exact hx
   · rename_i r hx
     split at h
     · rename_i hy; injection h with h; subst h; subst he; exact hy
     · cases h
   · cases h
 · cases h
theorem stIndexAddr_snd (hF : Fit G C) (hT : Tells G.nt G.n T0 T) {o : Oper} {t : TypeId} {x ix : Operand} (ho : o.op = .indexAddr t x ix) : Snd (R := R) G C T0 o (stIndexAddr G o t x ix T) := by
 intro K r h
 unfold stIndexAddr at h
 replace h := of_ob h
 obtain ⟨d, hd, h⟩ := h
 obtain ⟨d1, d2, d3, d4, d5, d6⟩ := dOk_of hF hT hd
 replace h := of_ob h
 obtain ⟨i, hi, h⟩ := h
 replace h := of_ob h
 obtain ⟨⟨s, y⟩, hp, h⟩ := h
 obtain ⟨rfl, hs, hy⟩ := slotO_of hp
 have hs' : s < C.nt := by rw [hF.nt]; exact hs
 replace h := of_ob h
 obtain ⟨b, hb, h⟩ := h
 replace h := of_ob h
 obtain ⟨⟨k, n⟩, hq, h⟩ := h
 have hix : ∀ rd : List Nat, (∀ t, t ∈ rdO ix → t ∈ rd) → opv C T0 rd (.int k n) ix := fun rd hrd => opS_opv hF hT hb (int?_eq hq) hrd
 split at h
 · rename_i e hk
   have ht : G.P.underlying t = some (.slice e) := hF.slice hi (by unfold TI.sl; rw [hk])
   replace h := of_ob h
   obtain ⟨j, hj, h⟩ := h
   have hsz := hF.size hj
   split at h
   · rename_i f c xs hxy
     simp only at hxy
     subst hxy
     replace h := of_bif h
     rcases h with ⟨hb', h⟩ | ⟨_, h⟩
     · replace h := of_bind h
       obtain ⟨z, hz, h⟩ := h
       obtain ⟨h0, hz⟩ := at?_of hz
       rw [Nat.eq_of_beq_eq_true hb'] at hsz
       refine ⟨_, _, ?_, EOk.one d6 rfl, h⟩
       exact exec_index_row s c.n t e f (xs.map (enc c)) ix k n (enc c z) ho d1 d2 d3 d4 hs' (by simp) ht hsz (hT.slot hy rfl rfl) (hix _ fun t ht => List.mem_cons_of_mem _ ht) h0 (by rw [List.getElem?_map, hz]; rfl)
     · cases h
   · rename_i r' sz lo m hxy
     simp only at hxy
     subst hxy
     replace h := of_bif h
     rcases h with ⟨hb', h⟩ | ⟨_, h⟩
     · replace h := of_ob h
       obtain ⟨w, hw, h⟩ := h
       replace h := of_bif h
       rcases h with ⟨hb2, h⟩ | ⟨_, h⟩
       · replace h := of_guard h
         obtain ⟨⟨h0, h1⟩, h⟩ := h
         simp only [Bool.and_eq_true, Bool.not_eq_true'] at hb' hb2
         rw [Nat.eq_of_beq_eq_true hb'.1] at hsz
         have hwr := Nat.eq_of_beq_eq_true hb2.1
         have hws := Nat.eq_of_beq_eq_true hb2.2
         refine ⟨_, _, ?_, EOk.link d5 d6 rfl (ne_beq hb'.2), h⟩
         have hro := hT.slot (rootOf_own hw hwr) rfl rfl
         rw [own_toV0, hws] at hro
         exact exec_index_vw s r' w.E sz t e lo m _ ix k n ho d1 d2 d3 d4 (ne_beq hb'.2) hs' (by simp) (by simp) ht hsz (hT.vw hy) hro (hix _ fun t ht => by simp [ht]) h0 (by omega)
       · cases h
     · cases h
   · replace h := of_ob h
     obtain ⟨w, hw, h⟩ := h
     replace h := of_bif h
     rcases h with ⟨hb', h⟩ | ⟨_, h⟩
     · replace h := of_guard h
       obtain ⟨⟨h0, h1⟩, h⟩ := h
       simp only [Bool.and_eq_true, Bool.not_eq_true'] at hb'
       rw [Nat.eq_of_beq_eq_true hb'.1] at hsz
       obtain ⟨o1, o2, o3, o4⟩ := rootOf_of hF hT hw (rd := s :: w.r :: rdO ix) (by simp) (by simp)
       refine ⟨_, _, ?_, EOk.link d5 d6 rfl (ne_beq hb'.2), h⟩
       exact exec_index_own s w.r w.E w.c.n t e _ ix k n ho d1 d2 d3 d4 (ne_beq hb'.2) ht hsz o1 (hix _ fun t ht => by simp [ht]) h0 (by rw [row_len]; omega)
     · cases h
 · cases h
end
end Go.Proofs.Ytnlocbjojbgdcaa.Vm
namespace Go.Proofs.Ytnlocbjojbgdcaa.Vm
open Go
open Go.RowKit (wrap64)
section
variable {G : GI} {C : Ctx} {T0 : St} {T : TS} {R : Type}
def GI.g (G : GI) : List (Nat × Nat) := G.bx.map (·.2)
theorem fsOk_get {P : Program} {t : Nat} : ∀ {l : List (Nat × Bool × Nat)} {f i : Nat} {q : Nat × Bool × Nat}, fsOk P t f l → l[i]? = some q → fieldAt P t (f + i) = some (q.1, false) ∧ fieldOf P t (f + i) = some q
 | [], _, _, _, _, h => by simp at h
 | q :: l, f, 0, q', h, hq => by simp at hq; subst hq; exact ⟨h.1, h.2.1⟩
 | q :: l, f, i + 1, q', h, hq => by
  have := fsOk_get h.2.2 (i := i) (by simpa using hq)
  rwa [show f + 1 + i = f + (i + 1) by omega] at this
theorem Fit.field (hF : Fit G C) {t f : Nat} {i : TI} {q : Nat × Bool × Nat} (h : tiOf G.tt t = some i) (hq : i.fs[f]? = some q) : fieldAt G.P t f = some (q.1, false) ∧ fieldOf G.P t f = some q := by
 have := fsOk_get (hF.ti h).fs hq
 rwa [Nat.zero_add] at this
theorem Tells.cellAt (hT : Tells G.nt G.n T0 T) {s : Nat} {x : SV} (hx : look? T s = some x) (hs : G.nt ≤ s) : T0.at s = x.toV0 ∧ x.root? = none ∧ T0.at s ≠ .no := by
 obtain ⟨h1, h2⟩ := hT.cell _ (look?_mem hx) hs
 simp only at h1 h2
 have h3 := (hT.all _ (look?_mem hx)).2.resolve_left fun e => by have := e.2; simp only at this; omega
 have e : nrm T0 s = T0.at s := by
  rcases nrm_cases T0 s with ⟨h4, _⟩ | ⟨r', g', h4, _⟩
  · exact h4
  · rw [h2] at h4; cases h4
 simp only at h3
 rw [e, toV_root h1] at h3
 refine ⟨h3, h1, ?_⟩
 rw [h3, ← toV_root h1 g0]
 exact (toV_plain g0 x).1
def cellsO (T : TS) : Nat → Nat → Option (List SV)
 | _, 0 => some []
 | k, m + 1 => (look? T k).ob fun x => (cellsO T (k + 1) m).ob fun l => some (x :: l)
theorem cellsO_of {T : TS} : ∀ {m k : Nat} {l : List SV}, cellsO T k m = some l → l.length = m ∧ ∀ j, j < m → ∃ x, l[j]? = some x ∧ look? T (k + j) = some x
 | 0, k, l, h => by injection h with h; subst h; exact ⟨rfl, fun j hj => by omega⟩
 | m + 1, k, l, h => by
  obtain ⟨x, hx, h⟩ := of_ob h
  obtain ⟨l', hl, h⟩ := of_ob h
  injection h with h
  subst h
  obtain ⟨h1, h2⟩ := cellsO_of hl
  refine ⟨by simp [h1], fun j hj => ?_⟩
  cases j with
  | zero => exact ⟨x, rfl, hx⟩
  | succ j =>
   obtain ⟨y, h3, h4⟩ := h2 j (by omega)
   exact ⟨y, by simpa using h3, by rw [← h4]; congr 1; omega⟩
def inGrp (g : List (Nat × Nat)) (k b m : Nat) : Bool := (List.range m).all fun j => (baseOf g (k + j)).beq b
theorem inGrp_of {g : List (Nat × Nat)} {k b m : Nat} (h : inGrp g k b m = true) {j : Nat} (hj : j < m) : baseOf g (k + j) = b := Nat.eq_of_beq_eq_true (range_all h hj)
def atOk (G : GI) (k m : Nat) : Bool := G.nt.ble k && (baseOf G.g k).ble k && inGrp G.g k (baseOf G.g k) m
theorem atOk_of (hF : Fit G C) {k m : Nat} (h : atOk G k m = true) : G.nt ≤ k ∧ C.base k ≤ k ∧ ∀ j, j < m → C.base (k + j) = C.base k := by
 simp only [atOk, Bool.and_eq_true] at h
 rw [hF.base]
 exact ⟨Nat.le_of_ble_eq_true h.1.1, Nat.le_of_ble_eq_true h.1.2, fun j hj => inGrp_of h.2 hj⟩
def stFieldAddr (G : GI) (o : Oper) (t : TypeId) (x : Operand) (f : Nat) (T : TS) (K : Rn R) : Option R := (dOk G o).ob fun d => (tiOf G.tt t).ob fun i => (slotO G.nt T x).ob fun p => (i.fs[f]?).ob fun q => match p.2 with
 | .v (.ptr fl c) e => (dropT q.1 ⟨c, e⟩).ob fun z => K [p.1] [(d, false, .v (.ptr fl z.t) z.x)]
 | .at_ k => (look? T (k + q.1)).ob fun _ => bsel (atOk G k (q.1 + 1)) (K [p.1, k + q.1] [(d, false, .at_ (k + q.1))]) <| none
 | .ref r sz i o => bsel (r.beq d) none <| K [p.1, r] [(d, false, .ref r sz i (o + q.1))]
 | _ => none
theorem stFieldAddr_snd (hF : Fit G C) (hT : Tells G.nt G.n T0 T) {o : Oper} {t : TypeId} {x : Operand} {f : Nat} (ho : o.op = .fieldAddr t x f) : Snd (R := R) G C T0 o (stFieldAddr G o t x f T) := by
 intro K r h
 unfold stFieldAddr at h
 obtain ⟨d, hd, h⟩ := of_ob h
 obtain ⟨d1, d2, d3, d4, d5, d6⟩ := dOk_of hF hT hd
 obtain ⟨i, hi, h⟩ := of_ob h
 obtain ⟨⟨s, y⟩, hp, h⟩ := of_ob h
 obtain ⟨q, hq, h⟩ := of_ob h
 obtain ⟨e1, hs, hy⟩ := slotO_of hp
 rw [e1] at ho
 have hs' : s < C.nt := by rw [hF.nt]; exact hs
 obtain ⟨hf, _⟩ := hF.field hi hq
 split at h
 · rename_i fl c e hxy
   simp only at hxy
   rw [hxy] at hy
   obtain ⟨z, hz, h⟩ := of_ob h
   refine ⟨_, _, ?_, EOk.one d6 rfl, h⟩
   have := exec_field_box (P := G.P) (C := C) (T := T0) (rd := [s]) s t f q.1 fl (enc c e) ho d1 d2 d3 d4 (by simp) hs' hf (hT.slot hy rfl rfl)
   rw [← dropT_of hz] at this
   exact this
 · rename_i k hxy
   simp only at hxy
   rw [hxy] at hy
   obtain ⟨y', hy', h⟩ := of_ob h
   rcases of_bif h with ⟨hb, h⟩ | ⟨_, h⟩
   · obtain ⟨b1, b2, b3⟩ := atOk_of hF hb
     refine ⟨_, _, ?_, EOk.one d6 rfl, h⟩
     exact exec_field_at s t f q.1 k ho d1 d2 d3 d4 (by simp) (by simp) hs' hf (hT.slot hy rfl rfl) (hT.cellAt hy' (by omega)).2.2 (b3 q.1 (by omega)) b2
   · cases h
 · rename_i r' sz i' o' hxy
   simp only at hxy
   rw [hxy] at hy
   rcases of_bif h with ⟨_, h⟩ | ⟨hne, h⟩
   · cases h
   · refine ⟨_, _, ?_, EOk.link d5 d6 rfl (ne_beq hne), h⟩
     exact exec_field_ref s r' t f q.1 sz i' o' ho d1 d2 d3 d4 (ne_beq hne) (by simp) (by simp) hs' hf (hT.ref hy)
 · cases h
def stNil (G : GI) (o : Oper) (x : Operand) (T : TS) (K : Rn R) : Option R := (dOk G o).ob fun d => (slotO G.nt T x).ob fun p => match p.2 with
 | .v (.ptr fl c) e => K [p.1] [(d, false, .v (.ptr fl c) e)]
 | .at_ k => K [p.1] [(d, false, .at_ k)]
 | .ref r sz i o => bsel (r.beq d) none <| K [p.1, r] [(d, false, .ref r sz i o)]
 | _ => none
theorem stNil_snd (hF : Fit G C) (hT : Tells G.nt G.n T0 T) {o : Oper} {x : Operand} (ho : o.op = .nilCheck x) : Snd (R := R) G C T0 o (stNil G o x T) := by
 intro K r h
 unfold stNil at h
 obtain ⟨d, hd, h⟩ := of_ob h
 obtain ⟨d1, d2, d3, d4, d5, d6⟩ := dOk_of hF hT hd
 obtain ⟨⟨s, y⟩, hp, h⟩ := of_ob h
 obtain ⟨e1, hs, hy⟩ := slotO_of hp
 rw [e1] at ho
 have hs' : s < C.nt := by rw [hF.nt]; exact hs
 split at h
 · rename_i fl c e hxy
   simp only at hxy
   rw [hxy] at hy
   exact ⟨_, _, exec_nilCheck_box s fl (enc c e) ho d1 d2 d3 d4 (by simp) hs' (hT.slot hy rfl rfl), EOk.one d6 rfl, h⟩
 · rename_i k hxy
   simp only at hxy
   rw [hxy] at hy
   exact ⟨_, _, exec_ptr s k (.inr (.inr ho)) d1 d2 d3 d4 (by simp) hs' (hT.slot hy rfl rfl), EOk.one d6 rfl, h⟩
 · rename_i r' sz i' o' hxy
   simp only at hxy
   rw [hxy] at hy
   rcases of_bif h with ⟨_, h⟩ | ⟨hne, h⟩
   · cases h
   · refine ⟨_, _, ?_, EOk.link d5 d6 rfl (ne_beq hne), h⟩
     exact exec_relink s r' _ (.inr (.inr ho)) (fun _ => ⟨_, _, _, rfl⟩) d1 d2 d3 d4 (by simp) (by simp) hs' (hT.ref hy) rfl (ne_beq hne)
 · cases h
def deadE (src : List Nat) : ES := src.map fun s => (s, false, .dead)
def stE (k : Nat) : List SV → ES
 | [] => []
 | x :: l => (k, false, x) :: stE (k + 1) l
theorem eff_dead (src : List Nat) : ES.eff T0 (deadE src) = deads src := by simp [ES.eff, deadE, deads, SV.toV, SV.toV0, Function.comp_def]
theorem eff_app (E E' : ES) : ES.eff T0 (E ++ E') = ES.eff T0 E ++ ES.eff T0 E' := List.map_append
theorem eff_st : ∀ (k : Nat) (l : List SV), (∀ x, x ∈ l → x.root? = none) → ES.eff T0 (stE k l) = stores k (l.map SV.toV0)
 | _, [], _ => rfl
 | k, x :: l, h => by
  have h1 := eff_st (k + 1) l fun x hx => h x (List.mem_cons_of_mem _ hx)
  simp only [ES.eff] at h1
  simp only [stE, ES.eff, List.map_cons, stores, h1, toV_root (h x List.mem_cons_self)]
theorem mem_stE {e : Nat × Bool × SV} : ∀ {k : Nat} {l : List SV}, e ∈ stE k l → k ≤ e.1 ∧ e.1 < k + l.length ∧ e.2.2 ∈ l
 | _, [], h => by simp [stE] at h
 | k, x :: l, h => by
  rcases List.mem_cons.1 h with rfl | h
  · simp
  · obtain ⟨h1, h2, h3⟩ := mem_stE h
    exact ⟨by omega, by simp; omega, List.mem_cons_of_mem _ h3⟩
theorem aggT_of (hF : Fit G C) {t : Nat} {i : TI} (h : tiOf G.tt t = some i) {b : Bool} (hb : i.ag = b) : aggT G.P t = some b := by rw [← hb]; exact (hF.ti h).ag
def stLoad (G : GI) (o : Oper) (t : TypeId) (x : Operand) (T : TS) (K : Rn R) : Option R := (dOk G o).ob fun d => (tiOf G.tt t).ob fun i => (slotO G.nt T x).ob fun p => match p.2 with
 | .v (.ptr _ c) e => bsel i.ag ((takeT (i.sz - 1) ⟨c, e⟩).ob fun z => K [p.1] [(d, false, .agg z.t z.x)]) <| (takeT 0 ⟨c, e⟩).ob fun z => K [p.1] [(d, false, .v z.t z.x)]
 | .at_ k => bsel (atOk G k i.sz) ((bsel i.ag ((cellsO T k i.sz).ob fun l => (packT l).ob fun z => bsel z.t.free (K (p.1 :: (List.range i.sz).map (k + ·)) [(d, false, .agg z.t z.x)]) <| (fun src => K (p.1 :: (List.range i.sz).map (k + ·)) (deadE src ++ [(d, false, .agg z.t z.x)])) (((List.range i.sz).map (k + ·)).filter fun s => match look? T s with | some y => !y.free | none => false)) <| (look? T k).ob fun y => match y with
  | .v (.own _ _) _ => K [p.1, k] [(d, false, .al k)]
  | .at_ j => K [p.1, k] [(d, false, .at_ j)]
  | y => bsel y.free (K [p.1, k] [(d, false, y)]) <| none)) <| none
 | .ref r sz j q => (rootOf G.n T r).ob fun w => bsel (w.r.beq r && w.c.n.beq sz) ((w.xs[j]?).bind fun e => (dropT q ⟨w.c, e⟩).ob fun z => bsel z.t.free ((bsel i.ag ((takeT (i.sz - 1) z).ob fun z => K [p.1, r] [(d, false, .agg z.t z.x)]) <| (takeT 0 z).ob fun z => K [p.1, r] [(d, false, .v z.t z.x)])) <| none) <| none
 | _ => none
theorem take0 {y z : TV} (h : takeT 0 y = some z) : ∃ c cs, enc y.t y.x = c :: cs ∧ enc z.t z.x = [c] ∧ (SV.v z.t z.x).toV0 = c := by
 obtain ⟨h1, h2⟩ := takeT_of h
 have h3 := enc_length y.t y.x
 have h4 := y.t.n_pos
 cases he : enc y.t y.x with
 | nil => rw [he] at h3; simp at h3; omega
 | cons c cs =>
  rw [he] at h1
  simp at h1
  refine ⟨c, cs, rfl, h1, ?_⟩
  show (match enc z.t z.x with | [c] => c | cs => V.agg cs) = c
  rw [h1]
theorem enc_drop_free {y : TV} (h : y.t.free = true) : ∀ {n : Nat} {z : TV}, takeT n y = some z → V.free.go (enc z.t z.x) = true := fun {n z} hz => by
 rw [(takeT_of hz).1]
 exact free_go_of fun c hc => enc_all_free h c (List.mem_of_mem_take hc)
theorem stLoad_snd (hF : Fit G C) (hT : Tells G.nt G.n T0 T) {o : Oper} {t : TypeId} {x : Operand} (ho : o.op = .load t x) : Snd (R := R) G C T0 o (stLoad G o t x T) := by
 intro K r h
 unfold stLoad at h
 obtain ⟨d, hd, h⟩ := of_ob h
 obtain ⟨d1, d2, d3, d4, d5, d6⟩ := dOk_of hF hT hd
 obtain ⟨i, hi, h⟩ := of_ob h
 obtain ⟨⟨s, y⟩, hp, h⟩ := of_ob h
 obtain ⟨e1, hs, hy⟩ := slotO_of hp
 rw [e1] at ho
 have hs' : s < C.nt := by rw [hF.nt]; exact hs
 have hsz := hF.size hi
 have hpos : 0 < i.sz := by rw [(hF.ti hi).pos]; trivial
 split at h
 · rename_i fl c e hxy
   simp only at hxy
   rw [hxy] at hy
   rcases of_bif h with ⟨hb, h⟩ | ⟨hb, h⟩
   · obtain ⟨z, hz, h⟩ := of_ob h
     obtain ⟨t1, t2⟩ := takeT_of hz
     refine ⟨_, _, ?_, EOk.one d6 rfl, h⟩
     exact exec_load_box_agg s t i.sz fl (enc z.t z.x) (enc c e) ho d1 d2 d3 d4 (by simp) hs' (aggT_of hF hi hb) hsz (hT.slot hy rfl rfl) (by rw [t1]; congr 1; omega) (by rw [enc_length, t2]; omega)
   · obtain ⟨z, hz, h⟩ := of_ob h
     obtain ⟨c', cs, h1, h2, h3⟩ := take0 hz
     refine ⟨_, _, ?_, EOk.one d6 rfl, h⟩
     have hsl := hT.slot hy rfl rfl
     have := exec_load_box (P := G.P) (C := C) (T := T0) (rd := [s]) s t fl c' cs ho d1 d2 d3 d4 (by simp) hs' (aggT_of hF hi hb) (by rw [hsl]; show V.box fl (enc c e) = _; rw [← h1])
     rw [← h3] at this
     exact this
 · rename_i k hxy
   simp only at hxy
   rw [hxy] at hy
   have hsl := hT.slot hy rfl rfl
   rcases of_bif h with ⟨hk, h⟩ | ⟨_, h⟩
   · obtain ⟨b1, b2, b3⟩ := atOk_of hF hk
     rcases of_bif h with ⟨hb, h⟩ | ⟨hb, h⟩
     · obtain ⟨l, hl, h⟩ := of_ob h
       obtain ⟨z, hz, h⟩ := of_ob h
       obtain ⟨l1, l2⟩ := cellsO_of hl
       obtain ⟨z1, z2, z3⟩ := packT_of hz
       have hcs : cellsAt T0 k i.sz = enc z.t z.x := by
        rw [z1]
        refine List.ext_getElem? fun j => ?_
        unfold cellsAt
        by_cases hj : j < i.sz
        · obtain ⟨x, hx1, hx2⟩ := l2 j hj
          rw [List.getElem?_map, List.getElem?_map, hx1, List.getElem?_range hj]
          simp only [Option.map_some, Option.some.injEq]
          exact (hT.cellAt hx2 (by omega)).1
        · rw [List.getElem?_eq_none (by simp; omega), List.getElem?_eq_none (by simp [l1]; omega)]
       have hpl : ∀ j, j < i.sz → T0.at (k + j) ≠ .no ∧ (∀ m, T0.at (k + j) ≠ .at_ m) ∧ (T0.at (k + j)).root = none := fun j hj => by
        obtain ⟨x, hx1, hx2⟩ := l2 j hj
        obtain ⟨q1, q2, q3⟩ := hT.cellAt hx2 (by omega)
        have hm : T0.at (k + j) ∈ enc z.t z.x := by
         rw [← hcs]
         exact List.mem_map.2 ⟨j, by simpa using hj, rfl⟩
        obtain ⟨p1, _, p2, p3⟩ := enc_plain _ _ _ hm
        exact ⟨p1, p2, p3⟩
       rcases of_bif h with ⟨hf, h⟩ | ⟨_, h⟩
       · refine ⟨_, _, ?_, EOk.one d6 rfl, h⟩
         have := exec_load_at_agg (P := G.P) (C := C) (T := T0) (rd := s :: (List.range i.sz).map (k + ·)) [] s k t i.sz ho d1 d2 d3 d4 (by simp) (fun j hj => List.mem_cons_of_mem _ (List.mem_map.2 ⟨j, by simpa using hj, rfl⟩)) hs' (aggT_of hF hi hb) hsz hsl b3 b2 hpl (fun j hj => .inr (enc_all_free hf _ (by rw [← hcs]; exact List.mem_map.2 ⟨j, by simpa using hj, rfl⟩))) (fun s hs => by simp at hs) (fun s hs => by simp at hs)
         rw [hcs] at this
         exact this
       · have hmem : ∀ s', s' ∈ ((List.range i.sz).map (k + ·)).filter (fun s => match look? T s with | some y => !y.free | none => false) → ∃ j, j < i.sz ∧ s' = k + j := fun s' hs' => by
          obtain ⟨h1, _⟩ := List.mem_filter.1 hs'
          obtain ⟨j, hj, e⟩ := List.mem_map.1 h1
          exact ⟨j, by simpa using hj, e.symm⟩
         refine ⟨_, _, ?_, .inl fun e he => ?_, h⟩
         · have := exec_load_at_agg (P := G.P) (C := C) (T := T0) (rd := s :: (List.range i.sz).map (k + ·)) (((List.range i.sz).map (k + ·)).filter (fun s => match look? T s with | some y => !y.free | none => false)) s k t i.sz ho d1 d2 d3 d4 (by simp) (fun j hj => List.mem_cons_of_mem _ (List.mem_map.2 ⟨j, by simpa using hj, rfl⟩)) hs' (aggT_of hF hi hb) hsz hsl b3 b2 hpl (fun j hj => ?_) (fun s' hs' => ?_) (fun s' hs' => ?_)
           · rw [hcs] at this
             rw [eff_app, eff_dead]
             exact this
           · obtain ⟨x, hx1, hx2⟩ := l2 j hj
             by_cases hxf : x.free = true
             · refine .inr ?_
               rw [(hT.cellAt hx2 (by omega)).1]
               exact toV0_free x hxf
             · exact .inl (List.mem_filter.2 ⟨List.mem_map.2 ⟨j, by simpa using hj, rfl⟩, by rw [hx2]; simpa using hxf⟩)
           · obtain ⟨j, hj, rfl⟩ := hmem s' hs'
             obtain ⟨x, hx1, hx2⟩ := l2 j hj
             rw [hT.len]
             exact hT.lt hx2
           · obtain ⟨j, hj, rfl⟩ := hmem s' hs'
             exact ⟨(hpl j hj).1, List.mem_cons_of_mem _ (List.mem_map.2 ⟨j, by simpa using hj, rfl⟩)⟩
         · rcases List.mem_append.1 he with he | he
           · obtain ⟨s', hs', rfl⟩ := List.mem_map.1 he
             obtain ⟨j, hj, rfl⟩ := hmem s' hs'
             obtain ⟨x, hx1, hx2⟩ := l2 j hj
             exact ⟨hT.lt hx2, rfl⟩
           · simp at he; subst he; exact ⟨d6, rfl⟩
     · obtain ⟨y', hy', h⟩ := of_ob h
       obtain ⟨q1, q2, q3⟩ := hT.cellAt hy' b1
       have hkd : k ≠ d := by omega
       split at h
       · rename_i E c xs
         refine ⟨_, _, ?_, EOk.link d5 d6 rfl hkd, h⟩
         exact exec_load_alias s k t E c.n (xs.map (enc c)) ho d1 d2 d3 d4 (by simp) (by simp) hs' hkd (aggT_of hF hi hb) hsl q1
       · rename_i j
         refine ⟨_, _, ?_, EOk.one d6 rfl, h⟩
         exact exec_load_ptr s k j t ho d1 d2 d3 d4 (by simp) (by simp) hs' (aggT_of hF hi hb) hsl q1
       · rcases of_bif h with ⟨hf, h⟩ | ⟨_, h⟩
         · refine ⟨_, _, ?_, EOk.one d6 q2, h⟩
           simp only [ES.eff, List.map_cons, List.map_nil, toV_root q2]
           exact exec_load_at s k t _ ho d1 d2 d3 d4 (by simp) (by simp) hs' (aggT_of hF hi hb) hsl q1 (toV0_free _ hf)
         · cases h
   · cases h
 · rename_i r' sz j q hxy
   simp only at hxy
   rw [hxy] at hy
   obtain ⟨w, hw, h⟩ := of_ob h
   rcases of_bif h with ⟨hb2, h⟩ | ⟨_, h⟩
   · simp only [Bool.and_eq_true] at hb2
     have hwr := Nat.eq_of_beq_eq_true hb2.1
     have hws := Nat.eq_of_beq_eq_true hb2.2
     have hro := hT.slot (rootOf_own hw hwr) rfl rfl
     rw [own_toV0, hws] at hro
     obtain ⟨e, he, h⟩ := of_bind h
     obtain ⟨z, hz, h⟩ := of_ob h
     have hel : (w.xs.map (enc w.c))[j]? = some (enc w.c e) := by rw [List.getElem?_map, he]; rfl
     have hdr := dropT_of hz
     rcases of_bif h with ⟨hf, h⟩ | ⟨_, h⟩
     · rcases of_bif h with ⟨hb, h⟩ | ⟨hb, h⟩
       · obtain ⟨z', hz', h⟩ := of_ob h
         obtain ⟨t1, t2⟩ := takeT_of hz'
         refine ⟨_, _, ?_, EOk.one d6 rfl, h⟩
         exact exec_load_ref_agg s r' t i.sz w.E sz j q _ (enc w.c e) (enc z'.t z'.x) ho d1 d2 d3 d4 (by simp) (by simp) hs' (aggT_of hF hi hb) hsz (hT.ref hy) hro hel (by simp only at hdr; rw [← hdr, t1]; congr 1; omega) (by rw [enc_length, t2]; omega) (enc_drop_free hf hz')
       · obtain ⟨z', hz', h⟩ := of_ob h
         obtain ⟨c', cs, h1, h2, h3⟩ := take0 hz'
         refine ⟨_, _, ?_, EOk.one d6 rfl, h⟩
         have hg : (enc w.c e)[q]? = some c' := by
          have := congrArg (·[0]?) (hdr.symm.trans h1)
          simpa using this
         have := exec_load_ref (P := G.P) (C := C) (T := T0) (rd := [s, r']) s r' t w.E sz j q _ (enc w.c e) c' ho d1 d2 d3 d4 (by simp) (by simp) hs' (aggT_of hF hi hb) (hT.ref hy) hro hel hg (enc_all_free hf c' (by rw [h1]; simp))
         rw [← h3] at this
         exact this
     · cases h
   · cases h
 · cases h
end
end Go.Proofs.Ytnlocbjojbgdcaa.Vm
