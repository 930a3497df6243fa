/- A machine of values over the given machine, and its calculus: part 2. -/
import Derived.Test.YtepeoiimdefnpaaV1
import Derived.Laws.BytesArg
import Derived.Laws.Small
import Derived.Laws.StructEq
import Derived.Lib.AppendStr
import GoSem.Core.Utf8
namespace Go.Proofs.Ytepeoiimdefnpaa.Vm
open Go
/-- Nothing in it ends with the call. -/
def V.shrD : V → Bool
  | .agg cs | .tup cs => cs.all fun c => match c with
    | .agg ds => ds.all V.shr
    | c => c.shr
  | x => x.shr
theorem Hold.unborrowD {w : World} {S B : Foot} {F : Foot} {v : Value} {x : V} (h : Hold w S B F v x) (hx : x.shrD = true) : Hold w S Foot.none F v x := by
  have cell : ∀ {F : Foot} {v : Value} {x : V}, Hold w S B F v x → (match x with | .agg ds => ds.all V.shr | c => c.shr) = true → Hold w S Foot.none F v x := by
    intro F v x h hx
    cases h with
    | agg _ _ vs cs G hn hs h1 hi => exact .agg _ _ vs cs G hn hs h1 fun i u c hu hc => (hi i u c hu hc).unborrow (List.all_eq_true.1 hx c (List.mem_of_getElem? hc))
    | dead => exact .dead ..
    | sc => exact .sc ..
    | tup => simp [V.shr] at hx
    | row _ _ x sz es A cap U hz hc hm ha h1 hi => exact (Hold.row _ _ x sz es A cap U hz hc hm ha h1 hi : Hold w S B F _ _).unborrow hx
    | own _ _ E sz v es us G hz hp ho hF hs hG h1 hi => exact .own _ _ E sz v es us G hz hp ho hF hs hG h1 hi
    | box _ _ x cs a U h1 hi => exact (Hold.box _ _ x cs a U h1 hi : Hold w S B F _ _).unborrow hx
    | obx _ _ cs b o U G hs hF hG h1 hi => exact .obx _ _ cs b o U G hs hF hG h1 hi
    | iter _ _ s pos b hb hF => exact .iter _ _ s pos b hb hF
  cases h with
  | agg _ _ vs cs G hn hs h1 hi => exact .agg _ _ vs cs G hn hs h1 fun i u c hu hc => cell (hi i u c hu hc) (List.all_eq_true.1 hx c (List.mem_of_getElem? hc))
  | tup _ _ vs cs G hn hs hi => exact .tup _ _ vs cs G hn hs fun i u c hu hc => cell (hi i u c hu hc) (List.all_eq_true.1 hx c (List.mem_of_getElem? hc))
  | dead => exact .dead ..
  | sc => exact .sc ..
  | row _ _ x sz es A cap U hz hc hm ha h1 hi => exact (Hold.row _ _ x sz es A cap U hz hc hm ha h1 hi : Hold w S B F _ _).unborrow hx
  | own _ _ E sz v es us G hz hp ho hF hs hG h1 hi => exact .own _ _ E sz v es us G hz hp ho hF hs hG h1 hi
  | box _ _ x cs a U h1 hi => exact (Hold.box _ _ x cs a U h1 hi : Hold w S B F _ _).unborrow hx
  | obx _ _ cs b o U G hs hF hG h1 hi => exact .obx _ _ cs b o U G hs hF hG h1 hi
  | iter _ _ s pos b hb hF => exact .iter _ _ s pos b hb hF
/-- Arguments, as a call is given them. -/
structure ArgsOk (w : World) (S B : Foot) (F : Nat → Foot) (vs : List Value) (xs : List V) : Prop where
  len : vs.length = xs.length
  hold : ∀ (i : Nat) (v : Value) (x : V), vs[i]? = some v → xs[i]? = some x → Hold w S B (F i) v x
  apart : ∀ i j, i ≠ j → ∀ b o, F i b o → ¬ F j b o
  mine : ∀ i b o, F i b o → ¬ S b o ∧ ¬ B b o ∧ b < w.heap.size
  stay : ∀ b o, S b o ∨ B b o → b < w.heap.size
/-- What a call does: its result, and what becomes of what it was lent. -/
structure Done (w w' : World) (S B : Foot) (F : Nat → Foot) (vs : List Value) (outs : List V) (v : Value) (res : V) : Prop where
  ex : ∃ (S' : Foot) (F' : Nat → Foot) (FR : Foot), Hold w' S' B FR v res ∧ (∀ (i : Nat) (v : Value) (x : V), vs[i]? = some v → outs[i]? = some x → Hold w' S' B (F' i) v x) ∧
    (∀ b o, S b o → S' b o) ∧ (∀ b o, S' b o → S b o ∨ (w.heap.size ≤ b ∧ b < w'.heap.size) ∨ ∃ i, F i b o) ∧ (∀ i j, i ≠ j → ∀ b o, F' i b o → ¬ F' j b o) ∧ (∀ i b o, FR b o → ¬ F' i b o) ∧
    (∀ b o, FR b o ∨ (∃ i, F' i b o) → ¬ S' b o ∧ ((∃ i, F i b o) ∨ w.heap.size ≤ b ∧ b < w'.heap.size))
  moves : Moves w w' (fun b o => b < w.heap.size ∧ ∀ i, ¬ F i b o)
/-- A function's contract: from such arguments it returns such a result; what it was lent is such, then. -/
def VC (P : Program) (f : FuncId) (args outs : List V) (res : V) : Prop :=
  ∀ (w : World) (S B : Foot) (F : Nat → Foot) (vs : List Value), ArgsOk w S B F vs args → Calls P f vs.toArray w fun e w' => ∃ v, e = .returned v ∧ Done w w' S B F vs outs v res
def retRun (tmps : Array Value) : ResultVar → Sem Value
  | .tmp t => pure (tmps.getD t undef)
  | .cell p t => do loadVar t (← asAddr (tmps.getD p undef))
/-- A result's variable. -/
def RetOk (P : Program) (C : Ctx) (T : St) (r : ResultVar) (x : V) (src : List Nat) : Prop :=
  ∀ a w S F loc, SimB C T a w S F loc → ∃ v, (retRun a.tmps r).run P w = .ok v w ∧ Hold w S C.B (fun b o => ∃ s, s ∈ src ∧ inner C (F s) loc s b o) v x
theorem ret_tmp {P : Program} {C : Ctx} {T : St} {t : Nat} {x : V} (ht : t < C.nt) (hx : T.at t = x) (hn : x ≠ .no) (ha : ∀ k, x ≠ .at_ k) (hr : x.root = none) : RetOk P C T (.tmp t) x [t] := fun a w S F loc h => by
  have hs := h.slot t
  rw [hx] at hs
  obtain ⟨v, h1, h2⟩ := hs.held hn ha hr
  have he := conc_eval ht h1
  exact ⟨v, by rw [← he]; rfl, h2.mono (fun _ _ h => h) (fun _ _ h => h) fun b o hb => ⟨t, by simp, hb⟩⟩
/-- A result that lies in a box: a struct. -/
theorem ret_cell {P : Program} {C : Ctx} {T : St} {p k t n : Nat} (hp : p < C.nt) (hx : T.at p = .at_ k) (ht : aggT P t = some true) (hsz : (P.info? t).map (·.size) = some n) (hb : ∀ j, j < n → C.base (k + j) = C.base k) (hle : C.base k ≤ k) (hk : ∀ j, j < n → T.at (k + j) ≠ .no ∧ (∀ i, T.at (k + j) ≠ .at_ i) ∧ (T.at (k + j)).root = none) :
    RetOk P C T (.cell p t) (.agg (cellsAt T k n)) ((List.range n).map (k + ·)) := fun a w S F loc h => by
  have h1 := h.slot p
  rw [hx] at h1
  obtain ⟨h2, h3, h5⟩ := h1
  have hcell : ∀ j, j < n → ∃ u, w.cell? ((loc k).add j) = some u ∧ Hold w S C.B (inner C (F (k + j)) loc (k + j)) u (T.at (k + j)) ∧ u.oneCell' = true := fun j hj => by
    rw [← h.loc_add h3 h5 (hk j hj).1 (hb j hj) hle]
    exact at_cell h (by omega) rfl (hk j hj).1 (hk j hj).2.1 (hk j hj).2.2
  have hcs : (cellsAt T k n).length = n := by simp [cellsAt]
  have hv : a.tmps.getD p undef = .pointer (some (loc k)) := conc_eval hp h2
  have hl := load_agg (P := P) ht hsz (w := w) (ad := loc k) fun j hj => ⟨_, (hcell j hj).choose_spec.1⟩
  simp only [Instr.loadAt, Instr.sureAddr, Sem.run_bind, Sem.run_pure, Result.andThen_ok] at hl
  refine ⟨_, ?_, Hold.agg_of (ad := loc k) (cs := cellsAt T k n) (fun j b o => j < n ∧ inner C (F (k + j)) loc (k + j) b o) ⟨fun j b o hg => ⟨k + j, List.mem_map.2 ⟨j, by simpa using hg.1, rfl⟩, hg.2⟩, fun i j hij b o h1 h2 => h.apart (k + i) (k + j) (by omega) b o h1.2.1 h2.2.1⟩ fun j c hc => ?_⟩
  · rw [hcs]
    simp only [retRun, hv, asAddr, Sem.run_bind, Sem.run_pure, Result.andThen_ok, hl]
  · have hj : j < n := by have := (List.getElem?_eq_some_iff.1 hc).1; omega
    simp [cellsAt, hj] at hc
    subst hc
    obtain ⟨u, h6, h7, h8⟩ := hcell j hj
    exact ⟨u, h6, h8, h7.mono (fun _ _ h => h) (fun _ _ h => h) fun b o hb => ⟨hj, hb⟩⟩
/-- All results. -/
def rets (P : Program) (C : Ctx) (T : St) (used : List Nat) : List ResultVar → List V → List (List Nat) → Prop
  | [], [], [] => True
  | r :: rs, x :: xs, s :: ss => RetOk P C T r x s ∧ (s.all fun t => !used.contains t) = true ∧ rets P C T (s ++ used) rs xs ss
  | _, _, _ => False
def resV : List V → V
  | [x] => x
  | [] => .sc (.tuple #[])
  | xs => .tup xs
theorem rets_run {P : Program} {C : Ctx} {T : St} {a : Act} {w : World} {S : Foot} {F : Nat → Foot} {loc : Nat → Addr} (h : SimB C T a w S F loc) : ∀ (rs : List ResultVar) (xs : List V) (ss : List (List Nat)) (used : List Nat), rets P C T used rs xs ss →
    ∃ vs : List Value, (rs.mapM (retRun a.tmps)).run P w = .ok vs w ∧ vs.length = xs.length ∧
      ∃ G : Nat → Foot, (∀ i j, i ≠ j → ∀ b o, G i b o → ¬ G j b o) ∧ (∀ i b o, G i b o → ∃ s, s ∈ ss.flatten ∧ s ∉ used ∧ inner C (F s) loc s b o) ∧ ∀ (i : Nat) (v : Value) (x : V), vs[i]? = some v → xs[i]? = some x → Hold w S C.B (G i) v x := by
  intro rs
  induction rs with
  | nil =>
    intro xs ss used hr
    cases xs with
    | nil => exact ⟨[], rfl, rfl, fun _ => Foot.none, fun _ _ _ _ _ h => h.elim, fun _ _ _ h => h.elim, fun i v x hv => by simp at hv⟩
    | cons => cases ss <;> exact hr.elim
  | cons r rs ih =>
    intro xs ss used hr
    cases xs with
    | nil => cases ss <;> exact hr.elim
    | cons x xs =>
      cases ss with
      | nil => exact hr.elim
      | cons s ss =>
        obtain ⟨h1, h2, h3⟩ := hr
        obtain ⟨v, e1, e2⟩ := h1 a w S F loc h
        obtain ⟨vs, e3, e4, G, g1, g2, g3⟩ := ih xs ss (s ++ used) h3
        have hsu : ∀ t, t ∈ s → t ∉ used := fun t ht => by
          have := List.all_eq_true.1 h2 t ht
          simpa using this
        refine ⟨v :: vs, ?_, by simp [e4], fun i => match i with | 0 => (fun b o => ∃ t, t ∈ s ∧ inner C (F t) loc t b o) | i + 1 => G i, fun i j hij b o hi hj => ?_, fun i b o hi => ?_, fun i v' x' hv hx => ?_⟩
        · rw [List.mapM_cons]
          simp only [Sem.run_bind, e1, e3, Result.andThen_ok, Sem.run_pure]
        · cases i with
          | zero =>
            cases j with
            | zero => exact hij rfl
            | succ j =>
              obtain ⟨t, ht, hin⟩ := hi
              obtain ⟨t', _, hu, hin'⟩ := g2 j b o hj
              exact h.apart t t' (fun e => hu (by rw [← e]; exact List.mem_append_left _ ht)) b o hin.1 hin'.1
          | succ i =>
            cases j with
            | zero =>
              obtain ⟨t, ht, hin⟩ := hj
              obtain ⟨t', _, hu, hin'⟩ := g2 i b o hi
              exact h.apart t t' (fun e => hu (by rw [← e]; exact List.mem_append_left _ ht)) b o hin.1 hin'.1
            | succ j => exact g1 i j (by omega) b o hi hj
        · cases i with
          | zero =>
            obtain ⟨t, ht, hin⟩ := hi
            exact ⟨t, by simp [ht], hsu t ht, hin⟩
          | succ i =>
            obtain ⟨t, h4, h5, h6⟩ := g2 i b o hi
            exact ⟨t, by simp only [List.flatten_cons, List.mem_append]; exact .inr h4, fun hu => h5 (List.mem_append_right _ hu), h6⟩
        · cases i with
          | zero => simp at hv hx; subst hv hx; exact e2
          | succ i => exact g3 i v' x' (by simpa using hv) (by simpa using hx)
theorem results_run {P : Program} {C : Ctx} {T : St} {a : Act} {w : World} {S : Foot} {F : Nat → Foot} {loc : Nat → Addr} (h : SimB C T a w S F loc) {fn : Func} {rs : List ResultVar} {xs : List V} {ss : List (List Nat)} (hrs : fn.results = rs.toArray) (hr : rets P C T [] rs xs ss) :
    ∃ v, (results fn a.tmps).run P w = .ok v w ∧ Hold w S C.B (fun b o => ∃ s, s ∈ ss.flatten ∧ inner C (F s) loc s b o) v (resV xs) := by
  obtain ⟨vs, h1, h2, G, g1, g2, g3⟩ := rets_run h rs xs ss [] hr
  have hm : (results fn a.tmps).run P w = .ok (if h : vs.toArray.size = 1 then vs.toArray[0] else .tuple vs.toArray) w := by
    unfold results
    rw [hrs, List.mapM_toArray]
    have key : ∀ g : ResultVar → Sem Value, (∀ r, g r = retRun a.tmps r) → rs.mapM g = rs.mapM (retRun a.tmps) := fun g hg => by
      congr 1
      funext r
      exact hg r
    simp only [Sem.run_bind, Sem.run_map]
    rw [key _ (fun r => by cases r <;> rfl), h1]
    rfl
  refine ⟨_, hm, ?_⟩
  cases vs with
  | nil =>
    cases xs with
    | nil => exact .sc ..
    | cons => simp at h2
  | cons v vs =>
    cases xs with
    | nil => simp at h2
    | cons x xs =>
      cases vs with
      | nil =>
        cases xs with
        | nil =>
          refine (g3 0 v x rfl rfl).mono (fun _ _ h => h) (fun _ _ h => h) fun b o hb => ?_
          obtain ⟨s, a1, _, a2⟩ := g2 0 b o hb
          exact ⟨s, a1, a2⟩
        | cons => simp at h2
      | cons v' vs =>
        cases xs with
        | nil => simp at h2
        | cons x' xs =>
          refine .tup _ _ _ _ G (by simpa using h2) ⟨fun k b o hb => ?_, g1⟩ fun i u c hu hc => g3 i u c (by simpa using hu) hc
          obtain ⟨s, a1, _, a2⟩ := g2 k b o hb
          exact ⟨s, a1, a2⟩
end Go.Proofs.Ytepeoiimdefnpaa.Vm
namespace Go.Proofs.Ytepeoiimdefnpaa.Vm
open Go
def mkC (N : Nat) (g : List (Nat × Nat)) (pin : Nat → Option Value) (w0 : World) (S B : Foot) (may : Foot) : Ctx := { nt := N, w0 := w0, S := S, B := B, may := may, base := baseOf g, pin := pin }
def noPin : Nat → Option Value := fun _ => none
/-- Entries 0, 1, .. -/
def entries : Nat → List V → List (Nat × V)
  | _, [] => []
  | i, x :: xs => (i, x) :: entries (i + 1) xs
theorem look_entries {xs : List V} {i s : Nat} {d : V} : look (entries i xs) s d = if i ≤ s then (xs[s - i]?).getD d else d := by
  induction xs generalizing i with
  | nil => simp [entries, look]
  | cons x xs ih =>
    simp only [entries, look]
    by_cases h : i = s
    · subst h; simp
    · rw [if_neg h, ih]
      by_cases h2 : i + 1 ≤ s
      · rw [if_pos h2, if_pos (by omega), show s - i = (s - (i + 1)) + 1 by omega]
        simp
      · rw [if_neg h2, if_neg (by omega)]
theorem hold_plain {w : World} {S B : Foot} {F : Foot} {v : Value} {x : V} (h : Hold w S B F v x) : x ≠ .no ∧ (∀ k, x ≠ .at_ k) ∧ x.root = none := by
  cases h <;> exact ⟨by simp, fun _ => by simp, rfl⟩
/-- The state with which a call begins. -/
theorem sim_start {N n : Nat} {g : List (Nat × Nat)} {w : World} {S B : Foot} {F : Nat → Foot} {vs : List Value} {xs : List V} (h : ArgsOk w S B F vs xs) (hN : xs.length ≤ N) (_ : N ≤ n) :
    Sim (mkC N g noPin w S B (fun b o => ∃ i, F i b o)) (mkT n N (entries 0 xs)) { tmps := vs.toArray ++ Array.replicate (N - vs.toArray.size) undef, defers := [] } w := by
  have hl := h.len
  have hat : ∀ s, (mkT n N (entries 0 xs)).at s = if s < n then (xs[s]?).getD (if s < N then .dead else .no) else .no := fun s => by
    rw [mkT_at, look_entries]
    simp
  refine ⟨S, fun s b o => s < xs.length ∧ F s b o, fun _ => ⟨0, 0, none⟩, by simp [mkC]; omega, rfl, fun s v hv => by simp [mkC, noPin] at hv, ⟨rfl, rfl, rfl, Nat.le_refl _, .refl _ _⟩, fun _ _ h => h, fun _ _ h => .inl h, h.stay, fun s t hst b o h1 h2 => h.apart s t hst b o h1.2 h2.2, fun s b o hb => ?_, fun s r g' hr => ?_, fun s => ?_, fun s hs hx => ?_, fun s r' hd' hr => ?_⟩
  · obtain ⟨h1, h2, h3⟩ := h.mine s b o hb.2
    exact ⟨h1, h2, h3, .inr ⟨s, hb.2⟩⟩
  · exfalso
    rw [hat] at hr
    split at hr
    · cases hx : xs[s]? with
      | none => rw [hx] at hr; simp only [Option.getD_none] at hr; split at hr <;> simp [V.root] at hr
      | some x =>
        rw [hx] at hr
        have hsl := (List.getElem?_eq_some_iff.1 hx).1
        have := hold_plain (h.hold s _ x (List.getElem?_eq_getElem (by omega)) hx)
        simp only [Option.getD_some, this.2.2] at hr
        cases hr
    · simp [V.root] at hr
  · rw [hat]
    by_cases hsn : s < n
    · rw [if_pos hsn]
      cases hx : xs[s]? with
      | none =>
        simp only [Option.getD_none]
        split
        · rename_i hsN
          refine SlotOk.plain ⟨undef, ?_, .dead ..⟩
          have hge : xs.length ≤ s := List.getElem?_eq_none_iff.1 hx
          unfold conc
          rw [if_pos (show s < (mkC N g noPin w S B (fun b o => ∃ i, F i b o)).nt from hsN)]
          rw [Array.getElem?_append_right (by simp; omega)]
          simp only [Array.getElem?_replicate, List.size_toArray]
          rw [if_pos (by omega)]
        · trivial
      | some x =>
        have hsl := (List.getElem?_eq_some_iff.1 hx).1
        have hv : vs[s]? = some vs[s] := List.getElem?_eq_getElem (by omega)
        refine SlotOk.plain ⟨vs[s], ?_, (h.hold s _ x hv hx).mono (fun _ _ h => h) (fun _ _ h => h) fun b o hb => ⟨⟨hsl, hb⟩, fun hc => by have := hc.1; simp only [mkC] at this; omega⟩⟩
        unfold conc
        rw [if_pos (show s < (mkC N g noPin w S B (fun b o => ∃ i, F i b o)).nt from Nat.lt_of_lt_of_le hsl hN), Array.getElem?_append_left (by simp; omega)]
        simp
    · rw [if_neg hsn]; trivial
  · exfalso
    rw [hat] at hx
    have hsN : N ≤ s := hs
    by_cases hsn : s < n
    · rw [if_pos hsn, List.getElem?_eq_none (by omega), Option.getD_none, if_neg (by omega)] at hx
      exact hx rfl
    · rw [if_neg hsn] at hx
      exact hx rfl
  · exfalso
    rw [hat] at hr
    split at hr
    · cases hx : xs[s]? with
      | none => rw [hx] at hr; simp only [Option.getD_none] at hr; split at hr <;> simp [V.root] at hr
      | some x =>
        rw [hx] at hr
        have hsl := (List.getElem?_eq_some_iff.1 hx).1
        have := hold_plain (h.hold s _ x (List.getElem?_eq_getElem (by omega)) hx)
        simp only [Option.getD_some, this.2.2] at hr
        cases hr
    · simp [V.root] at hr
/-- How a function's walk must end. -/
def Ends (P : Program) (C : Ctx) (rs : List ResultVar) (xs : List V) : Exit → St → Prop := fun e T => (e = .normal ∨ e = .ret) ∧ ∃ ss, rets P C T [] rs xs ss
theorem vc_of {P : Program} {f : FuncId} {fn : Func} {c : Code} {N n : Nat} {g : List (Nat × Nat)} {rs : List ResultVar} {args xs : List V} (hf : P.funcs[f]? = some fn) (hb : fn.body = some c) (hN : fn.ntmps = N) (hrs : fn.results = rs.toArray) (ha : args.length ≤ N) (hn : N ≤ n)
    (H : ∀ w S B may, VW P (mkC N g noPin w S B may) c (mkT n N (entries 0 args)) (Ends P (mkC N g noPin w S B may) rs xs)) : VC P f args (args.map fun _ => .dead) (resV xs) := by
  intro w S B F vs hargs
  refine calls_of_wp hf hb ?_
  have h0 := H w S B (fun b o => ∃ i, F i b o) _ w (sim_start (g := g) (n := n) (N := N) hargs ha hn)
  rw [hN]
  refine wp_mono h0 fun e a' w' ⟨T', ⟨he, ss, hr⟩, S', F', loc, hsim⟩ => ?_
  obtain ⟨v, h1, h2⟩ := results_run hsim hrs hr
  have key : a'.defers = [] ∧ ∃ v, (results fn a'.tmps).run P w' = .ok v w' ∧ ∃ u, Ending.returned v = .returned u ∧ Done w w' S B F vs (args.map fun _ => V.dead) u (resV xs) := by
    refine ⟨hsim.defers, v, h1, v, rfl, ⟨S', fun _ => Foot.none, _, h2, fun i v' x hv hx => ?_, hsim.sub, fun b o hb => ?_, fun _ _ _ _ _ h => h.elim, fun _ _ _ _ h => h.elim, fun b o hb => ?_⟩, ⟨hsim.world.os, hsim.world.tape, hsim.world.output, hsim.world.size, hsim.world.keep.mono fun b o hb => ⟨hb.1, fun ⟨i, hi⟩ => hb.2 i hi⟩⟩⟩
    · simp only [List.getElem?_map, Option.map_eq_some_iff] at hx
      obtain ⟨_, _, rfl⟩ := hx
      exact .dead ..
    · rcases hsim.from_ b o hb with h3 | h3 | h3
      · exact .inl h3
      · exact .inr (.inl ⟨h3, hsim.stay b o (.inl hb)⟩)
      · exact .inr (.inr h3)
    · rcases hb with ⟨s, _, hi⟩ | ⟨_, hi⟩
      · obtain ⟨h3, _, h4, h5⟩ := hsim.mine s b o hi.1
        rcases h5 with h5 | h5
        · exact ⟨h3, .inr ⟨h5, h4⟩⟩
        · exact ⟨h3, .inl h5⟩
      · exact hi.elim
  rcases he with rfl | rfl
  · exact key
  · exact key
/-- A value that is lent for a call: what it has may be read. -/
def V.lend : V → V
  | .row _ sz es => .row true sz (go2 es)
  | .own _ sz es => .row true sz (go2 es)
  | .box _ cs => .box true (go cs)
  | .agg cs => .agg (go cs)
  | x => x
where
  go : List V → List V
    | [] => []
    | c :: cs => V.lend c :: go cs
  go2 : List (List V) → List (List V)
    | [] => []
    | e :: es => go e :: go2 es
theorem lend_go (cs : List V) : V.lend.go cs = cs.map V.lend := by
  induction cs with
  | nil => rfl
  | cons c cs ih => simp [V.lend.go, ih]
theorem lend_go2 (es : List (List V)) : V.lend.go2 es = es.map (·.map V.lend) := by
  induction es with
  | nil => rfl
  | cons c cs ih => simp [V.lend.go2, ih, lend_go]
/-- Nothing of it is a pointer of one's own, a reader, or a slot's. -/
def V.lendable : V → Bool
  | .obx _ | .iter _ _ | .at_ _ | .al _ _ | .ref _ _ _ _ _ | .vw _ _ _ _ _ | .alp _ _ _ | .refp _ _ _ _ _ _ | .cap _ _ _ _ _ | .cpr _ _ _ _ _ | .no | .tup _ => false
  | .row _ _ es | .own _ _ es => go2 es
  | .box _ cs | .agg cs => go cs
  | _ => true
where
  go : List V → Bool
    | [] => true
    | c :: cs => V.lendable c && go cs
  go2 : List (List V) → Bool
    | [] => true
    | e :: es => go e && go2 es
theorem lendable_go {cs : List V} (h : V.lendable.go cs = true) {i : Nat} {c : V} (hc : cs[i]? = some c) : c.lendable = true := by
  induction cs generalizing i with
  | nil => simp at hc
  | cons x cs ih =>
    simp only [V.lendable.go, Bool.and_eq_true] at h
    cases i with
    | zero => simp at hc; subst hc; exact h.1
    | succ i => exact ih h.2 (by simpa using hc)
theorem lendable_go2 {es : List (List V)} (h : V.lendable.go2 es = true) {j : Nat} {e : List V} (he : es[j]? = some e) : V.lendable.go e = true := by
  induction es generalizing j with
  | nil => simp at he
  | cons x es ih =>
    simp only [V.lendable.go2, Bool.and_eq_true] at h
    cases j with
    | zero => simp at he; subst he; exact h.1
    | succ j => exact ih h.2 (by simpa using he)
theorem Hold.lend {w : World} {S B : Foot} {F : Foot} {v : Value} {x : V} (h : Hold w S B F v x) : ∀ {B' : Foot}, (∀ b o, S b o → B' b o) → (∀ b o, B b o → B' b o) → (∀ b o, F b o → B' b o) → x.lendable = true → Hold w S B' Foot.none v x.lend := by
  have gcs : ∀ {cs : List V} {i : Nat} {c : V}, (V.lend.go cs)[i]? = some c → ∃ c0, cs[i]? = some c0 ∧ c = c0.lend := fun {cs i c} hc => by
    rw [lend_go, List.getElem?_map, Option.map_eq_some_iff] at hc
    obtain ⟨c0, h1, h2⟩ := hc
    exact ⟨c0, h1, h2.symm⟩
  have ges : ∀ {es : List (List V)} {j : Nat} {e : List V}, (V.lend.go2 es)[j]? = some e → ∃ e0, es[j]? = some e0 ∧ e = V.lend.go e0 := fun {es j e} he => by
    rw [lend_go2, List.getElem?_map, Option.map_eq_some_iff] at he
    obtain ⟨e0, h1, h2⟩ := he
    exact ⟨e0, h1, by rw [lend_go, h2]⟩
  have glen : ∀ {es : List (List V)} {sz : Nat}, (∀ e, e ∈ es → e.length = sz) → ∀ e, e ∈ V.lend.go2 es → e.length = sz := fun {es sz} hz e he => by
    rw [lend_go2] at he
    obtain ⟨e0, h1, rfl⟩ := List.mem_map.1 he
    simpa using hz e0 h1
  have gl : ∀ (es : List (List V)), (V.lend.go2 es).length = es.length := fun es => by rw [lend_go2]; simp
  have hnone : ∀ (B' : Foot) (b o : Nat), Foot.none b o → B' b o := fun _ _ _ h => h.elim
  induction h with
  | dead => intros; exact .dead ..
  | sc => intros; exact .sc ..
  | agg B F vs cs G hn hs h1 hi ih =>
    intro B' s1 s2 s3 hl
    refine .agg _ _ vs _ (fun _ => Foot.none) (by rw [hn, lend_go]; simp) (Split.none _) (fun i u c hu hc => ?_) fun i u c hu hc => ?_
    · obtain ⟨c0, hc0, rfl⟩ := gcs hc
      exact h1 i u c0 hu hc0
    · obtain ⟨c0, hc0, rfl⟩ := gcs hc
      exact ih i u c0 hu hc0 s1 s2 (fun b o hb => s3 b o (hs.sub _ _ _ hb)) (lendable_go hl hc0)
  | tup => intro B' _ _ _ hl; simp [V.lendable] at hl
  | row B F x sz es A cap U hz hc hm ha h1 hi ih =>
    intro B' s1 s2 s3 hl
    have := Hold.row (w := w) (S := S) B' Foot.none true sz (V.lend.go2 es) A cap U (glen hz) (by rw [gl]; exact hc) (by rw [gl]; exact hm) (fun hp => by
        rw [gl] at hp
        exact ha hp) (fun a j i e c hA he hc => by
        obtain ⟨e0, he0, rfl⟩ := ges he
        obtain ⟨c0, hc0, rfl⟩ := gcs hc
        obtain ⟨q1, q2, q3⟩ := h1 a j i e0 c0 hA he0 hc0
        exact ⟨q1, q2, .inr ⟨rfl, q3.elim (s1 _ _) fun e => s2 _ _ e.2⟩⟩) fun j i e c he hc => by
        obtain ⟨e0, he0, rfl⟩ := ges he
        obtain ⟨c0, hc0, rfl⟩ := gcs hc
        exact (ih j i e0 c0 he0 hc0 s1 (fun b o hb => s2 b o hb.2) (hnone _) (lendable_go (lendable_go2 hl he0) hc0)).mono (fun _ _ h => h) (fun _ _ h => ⟨rfl, h⟩) fun _ _ h => h
    rw [gl] at this
    exact this
  | own B F E sz v es us G hz hp ho hF hs hG h1 hi ih =>
    intro B' s1 s2 s3 hl
    have hoc : ∃ A cap, v = .slice A es.length cap ∧ es.length ≤ cap ∧ es.length ≤ 9223372036854775807 ∧ (0 < es.length → ∃ b, A = some ⟨b, 0, none⟩ ∧ v.ownBlock = some b) ∧ ∀ (b : Nat) k u, A = some ⟨b, 0, none⟩ → us[k]? = some u → w.cell? ⟨b, k, none⟩ = some u := by
      rcases ho.2 with ⟨rfl, h0⟩ | ⟨g, cap, cur, rfl, _, hg, hnc, hcm, _, _⟩
      · exact ⟨none, 0, by rw [h0], by omega, by omega, fun h => by omega, fun b k u e => by cases e⟩
      · refine ⟨_, cap, rfl, hnc, by simp only [maxLen] at hcm; omega, fun _ => ⟨g, rfl, rfl⟩, fun b k u e hu => ?_⟩
        injection e with e
        injection e with e
        subst e
        have := ho.cells (g := g) rfl k u hu
        rw [addr_add_of, Nat.zero_add] at this
        exact this
    obtain ⟨A, cap, rfl, hc, hm, ha, hcell⟩ := hoc
    have hget : ∀ j i e c, es[j]? = some e → e[i]? = some c → ∃ u, us[j * sz + i]? = some u := fun j i e c he hc => by
      have hj := (List.getElem?_eq_some_iff.1 he).1
      have hil := (List.getElem?_eq_some_iff.1 hc).1
      rw [hz e (List.mem_of_getElem? he)] at hil
      have hlt : j * sz + i < us.length := by
        rw [ho.1]
        calc j * sz + i < j * sz + sz := by omega
          _ = (j + 1) * sz := by rw [Nat.succ_mul]
          _ ≤ es.length * sz := Nat.mul_le_mul_right _ hj
      exact ⟨_, List.getElem?_eq_getElem hlt⟩
    have := Hold.row (w := w) (S := S) B' Foot.none true sz (V.lend.go2 es) A cap (fun k => us.getD k undef) (glen hz) (by rw [gl]; exact hc) (by rw [gl]; exact hm) (fun hp => by
        rw [gl] at hp
        obtain ⟨b, rfl, hb⟩ := ha hp
        exact ⟨_, rfl⟩) (fun a j i e c hA he hc => by
        obtain ⟨e0, he0, rfl⟩ := ges he
        obtain ⟨c0, hc0, rfl⟩ := gcs hc
        obtain ⟨u, hu⟩ := hget j i e0 c0 he0 hc0
        obtain ⟨b, e, hvb⟩ := ha (by have := (List.getElem?_eq_some_iff.1 he0).1; omega)
        rw [hA] at e
        injection e with e
        subst e
        rw [addr_add_of, Nat.zero_add, hcell b _ u hA hu]
        simp only [List.getD_eq_getElem?_getD, hu, Option.getD_some, true_and]
        exact ⟨h1 u (List.mem_of_getElem? hu), .inr (s3 _ _ (hF b hvb _))⟩) fun j i e c he hc => by
        obtain ⟨e0, he0, rfl⟩ := ges he
        obtain ⟨c0, hc0, rfl⟩ := gcs hc
        obtain ⟨u, hu⟩ := hget j i e0 c0 he0 hc0
        simp only [List.getD_eq_getElem?_getD, hu, Option.getD_some]
        exact (ih j i e0 c0 u he0 hc0 hu s1 (fun _ _ hb => hb.elim) (fun b o hb => s3 b o (hs.sub _ _ _ hb)) (lendable_go (lendable_go2 hl he0) hc0)).mono (fun _ _ h => h) (fun _ _ h => ⟨trivial, h⟩) fun _ _ h => h
    rw [gl] at this
    exact this
  | box B F x cs a U h1 hi ih =>
    intro B' s1 s2 s3 hl
    refine .box _ _ true _ a U (fun i c hc => ?_) fun i c hc => ?_
    · obtain ⟨c0, hc0, rfl⟩ := gcs hc
      obtain ⟨q1, q2, q3⟩ := h1 i c0 hc0
      exact ⟨q1, q2, .inr ⟨rfl, q3.elim (s1 _ _) fun e => s2 _ _ e.2⟩⟩
    · obtain ⟨c0, hc0, rfl⟩ := gcs hc
      exact (ih i c0 hc0 s1 (fun b o hb => s2 b o hb.2) (hnone _) (lendable_go hl hc0)).mono (fun _ _ h => h) (fun _ _ h => ⟨rfl, h⟩) fun _ _ h => h
  | obx => intro B' _ _ _ hl; simp [V.lendable] at hl
  | iter => intro B' _ _ _ hl; simp [V.lendable] at hl
end Go.Proofs.Ytepeoiimdefnpaa.Vm
namespace Go.Proofs.Ytepeoiimdefnpaa.Vm
open Go
/-- A function that a call goes into. -/
def goesTo (P : Program) (f : FuncId) : Prop := ∃ fn, P.funcs[f]? = some fn ∧ (fn.name == "runtime.NumGoroutine") = false ∧ fn.body.isNone = false
section
variable {P : Program} {C : Ctx} {T T' : St} {a : Act} {w : World} {S : Foot} {F : Nat → Foot} {loc : Nat → Addr} {rd : List Nat} {o : Oper} {d : Nat}
/-- An argument that is lent: its value, and the slot that has it. -/
def lentV (C : Ctx) (T : St) (rd : List Nat) (x0 : V) (r : Nat) : Operand → Prop
  | .tmp t => t ∈ rd ∧ t < C.nt ∧ ((T.at t = x0 ∧ r = t ∧ x0.lendable = true) ∨ (∃ E sz es, x0 = .own E sz es ∧ Own1 C T rd t r E sz es ∧ x0.lendable = true))
  | _ => False
/-- A laid out box that is lent to be read. -/
def lentBox (C : Ctx) (T : St) (rd srcs : List Nat) (t k m : Nat) : Prop :=
  t ∈ rd ∧ t < C.nt ∧ T.at t = .at_ k ∧ C.nt ≤ k ∧ ((List.range m).all fun j => rd.contains (k + j) && !srcs.contains (k + j) && (C.base (k + j) == k) && (T.at (k + j)).lendable) = true ∧ 0 < m
/-- A copy that names a row of one's own, lent: the row, the slot that has it. -/
def lentCa (C : Ctx) (T : St) (rd srcs : List Nat) (t r i : Nat) (pa : List (Nat × Nat × Nat)) (ws : List Value) (x0 : V) : Prop := t ∈ rd ∧ r ∈ rd ∧ t < C.nt ∧ T.at t = .cap r (T.gen r) pa i ws ∧ (T.at r).getp pa = some x0 ∧ (T.at r).isOwn = true ∧ x0.lendable = true ∧ r ∉ srcs
/-- The same of a row of one such record. -/
def lentCr (C : Ctx) (T : St) (rd srcs : List Nat) (t r i : Nat) (pa : List (Nat × Nat × Nat)) (ws : List Value) (x0 : V) : Prop := t ∈ rd ∧ r ∈ rd ∧ t < C.nt ∧ T.at t = .cpr r (T.gen r) pa i ws ∧ (T.at r).getp pa = some x0 ∧ (T.at r).isOwn = true ∧ x0.lendable = true ∧ r ∉ srcs
/-- An argument: as the callee has it (x), and the slots whose rows go with it; srcs: all these of the call. -/
def argV (C : Ctx) (T : St) (rd : List Nat) (srcs : List Nat) (x : V) (src : List Nat) (y : Operand) : Prop :=
  opV C T rd x src y ∨ (src = [] ∧ ((∃ v, y = .const v ∧ lit v x) ∨ (∃ x0 r, x = x0.lend ∧ lentV C T rd x0 r y ∧ r ∉ srcs) ∨ (∃ t k m, y = .tmp t ∧ lentBox C T rd srcs t k m ∧ x = .box true (V.lend.go (cellsAt T k m))) ∨ (∃ t r i pa ws x0, y = .tmp t ∧ lentCa C T rd srcs t r i pa ws x0 ∧ x = .agg ((ws.map V.sc).set i x0.lend)) ∨ (∃ t r i pa ws x0, y = .tmp t ∧ lentCr C T rd srcs t r i pa ws x0 ∧ x = .row true ws.length [(ws.map V.sc).set i x0.lend])))
def argsV (C : Ctx) (T : St) (rd : List Nat) (all used : List Nat) : List Operand → List V → List (List Nat) → Prop
  | [], [], [] => True
  | y :: ys, x :: xs, s :: ss => argV C T rd all x s y ∧ (∀ t, t ∈ s → t ∉ used ∧ t ∈ all) ∧ argsV C T rd all (s ++ used) ys xs ss
  | _, _, _ => False
/-- What a callee may read as long as it runs. -/
def reads (C : Ctx) (S : Foot) (F : Nat → Foot) (_loc : Nat → Addr) (all : List Nat) : Foot := fun b o => S b o ∨ C.B b o ∨ ∃ r, r ∉ all ∧ F r b o
theorem lendable_plain {x : V} (h : x.lendable = true) : x ≠ .no ∧ (∀ k, x ≠ .at_ k) ∧ x.root = none := by
  cases x <;> first | (simp [V.lendable] at h; done) | exact ⟨by simp, fun _ => by simp, rfl⟩
theorem argV_get {all : List Nat} {x : V} {src : List Nat} {y : Operand} (h : argV C T rd all x src y) (hs : Same T T' rd) (hsim : SimB C T' a w S F loc) :
    ∃ G, Hold w S (reads C S F loc all) G (a.eval y) x ∧ (∀ b o, G b o → ∃ s, s ∈ src ∧ inner C (F s) loc s b o) ∧ ∀ s, s ∈ src → T'.at s ≠ .no := by
  rcases h with h | ⟨rfl, ⟨v, rfl, hl⟩ | ⟨x0, r, rfl, h, hr⟩ | ⟨t, k, m, rfl, h, rfl⟩ | ⟨t, r, i, pa, ws, x0, rfl, h, rfl⟩ | ⟨t, r, i, pa, ws, x0, rfl, h, rfl⟩⟩
  · obtain ⟨G, h1, h2, h3⟩ := opV_get h hs hsim
    exact ⟨G, h1.mono (fun _ _ h => h) (fun _ _ h => .inr (.inl h)) fun _ _ h => h, h2, h3⟩
  · exact ⟨Foot.none, hl.hold _ _ _ _, fun _ _ h => h.elim, fun s hs => by simp at hs⟩
  · cases y with
    | tmp t =>
      obtain ⟨h1, h2, ⟨h3, rfl, h4⟩ | ⟨E, sz, es, rfl, h3, h4⟩⟩ := h
      · obtain ⟨p1, p2, p3⟩ := lendable_plain h4
        have hsl := hsim.slot r
        rw [hs.at_ h1, h3] at hsl
        obtain ⟨v, e1, e2⟩ := hsl.held p1 p2 p3
        refine ⟨Foot.none, ?_, fun _ _ h => h.elim, fun s hs => by simp at hs⟩
        rw [conc_eval h2 e1]
        exact e2.lend (fun _ _ hb => .inl hb) (fun _ _ hb => .inr (.inl hb)) (fun _ _ hb => .inr (.inr ⟨r, hr, hb.1⟩)) h4
      · obtain ⟨_, _, _, v, e1, _, e2⟩ := h3.get hs hsim
        refine ⟨Foot.none, ?_, fun _ _ h => h.elim, fun s hs => by simp at hs⟩
        rw [e1]
        exact e2.lend (fun _ _ hb => .inl hb) (fun _ _ hb => .inr (.inl hb)) (fun _ _ hb => .inr (.inr ⟨r, hr, hb.1⟩)) h4
    | const v => exact h.elim
    | global g => exact h.elim
    | func f => exact h.elim
  · obtain ⟨h1, h2, h3, h4, h5, h6⟩ := h
    have hj : ∀ j, j < m → k + j ∈ rd ∧ k + j ∉ all ∧ C.base (k + j) = k ∧ (T.at (k + j)).lendable = true := fun j hj => by
      have := List.all_eq_true.1 h5 j (by simpa using hj)
      simp only [Bool.and_eq_true, Bool.not_eq_true', beq_iff_eq] at this
      refine ⟨List.contains_iff_mem.1 this.1.1.1, fun hm => ?_, this.1.2, this.2⟩
      rw [List.contains_iff_mem.2 hm] at this
      exact absurd this.1.1.2 (by simp)
    have hpt := hsim.slot t
    rw [(hs.at_ h1).trans h3] at hpt
    have hat : ∀ j, j < m → T'.at (k + j) = T.at (k + j) := fun j hjm => hs.at_ (hj j hjm).1
    have hcell : ∀ j, j < m → ∃ u, w.cell? (loc (k + j)) = some u ∧ Hold w S C.B (inner C (F (k + j)) loc (k + j)) u (T.at (k + j)) ∧ u.oneCell' = true := fun j hjm => by
      obtain ⟨p1, p2, p3⟩ := lendable_plain (hj j hjm).2.2.2
      exact at_cell hsim (by omega) (hat j hjm) p1 p2 p3
    have hloc : ∀ j, j < m → F (k + j) (loc (k + j)).block (loc (k + j)).off ∧ loc (k + j) = (loc k).add j := fun j hjm => by
      obtain ⟨p1, _, _⟩ := lendable_plain (hj j hjm).2.2.2
      have hn : T'.at (k + j) ≠ .no := by rw [hat j hjm]; exact p1
      obtain ⟨e1, _, _, e4⟩ := hsim.cells (k + j) (by omega) hn
      obtain ⟨q1, _, _⟩ := lendable_plain (hj 0 h6).2.2.2
      obtain ⟨_, _, _, f4⟩ := hsim.cells (k + 0) (by omega) (by rw [hat 0 h6]; exact q1)
      rw [(hj 0 h6).2.2.1] at f4
      refine ⟨e1, ?_⟩
      rw [e4, (hj j hjm).2.2.1]
      simp only [Nat.add_zero] at f4
      rw [show k + j - k = j by omega]
      conv => rhs; rw [f4]
      rw [addr_add_of]
      congr 2
      omega
    have hcl : (cellsAt T k m).length = m := by simp [cellsAt]
    have hget : ∀ i c, (V.lend.go (cellsAt T k m))[i]? = some c → i < m ∧ c = (T.at (k + i)).lend := fun i c hc => by
      rw [lend_go, List.getElem?_map, Option.map_eq_some_iff] at hc
      obtain ⟨c0, hc0, rfl⟩ := hc
      have hi := (List.getElem?_eq_some_iff.1 hc0).1
      rw [hcl] at hi
      simp [cellsAt, hi] at hc0
      exact ⟨hi, by rw [hc0]⟩
    refine ⟨Foot.none, ?_, fun _ _ h => h.elim, fun s hs => by simp at hs⟩
    rw [conc_eval h2 hpt.1]
    refine .box _ _ true _ (loc k) (fun i => (w.cell? (loc (k + i))).getD undef) (fun i c hc => ?_) fun i c hc => ?_
    · obtain ⟨hi, rfl⟩ := hget i c hc
      obtain ⟨u, u1, _, u3⟩ := hcell i hi
      obtain ⟨l1, l2⟩ := hloc i hi
      rw [← l2, u1]
      exact ⟨rfl, u3, .inr ⟨rfl, .inr (.inr ⟨k + i, (hj i hi).2.1, l1⟩)⟩⟩
    · obtain ⟨hi, rfl⟩ := hget i c hc
      obtain ⟨u, u1, u2, _⟩ := hcell i hi
      rw [u1]
      exact (u2.lend (B' := reads C S F loc all) (fun _ _ hb => .inl hb) (fun _ _ hb => .inr (.inl hb)) (fun _ _ hb => .inr (.inr ⟨k + i, (hj i hi).2.1, hb.1⟩)) (hj i hi).2.2.2).mono (fun _ _ h => h) (fun _ _ h => ⟨rfl, h⟩) fun _ _ h => h
  · obtain ⟨h1, h2, h3, h4, h5, h5', h6, h7⟩ := h
    have et := (hs.at_ h1).trans h4
    obtain ⟨u, v', y, f1, f2, f3, _, f5⟩ := hsim.deep t r (by rw [et]; rfl) (by rw [et, hs.gen_ h2]; rfl)
    rw [et] at f3 f5
    obtain ⟨v, q0, q1, q2, q3, rfl⟩ := f5
    have hsl := hsim.slot r
    rw [hs.at_ h2] at hsl f3
    obtain ⟨v0, e1, e2⟩ := hsl.held (fun e => by rw [e] at h5'; cases h5') (fun k e => by rw [e] at h5'; cases h5') (by revert h5'; cases T.at r <;> intro h5' <;> first | rfl | cases h5')
    obtain rfl : v0 = u := by rw [e1] at f1; injection f1
    obtain ⟨_, F', r2, e2⟩ := e2.getp q0 h5
    refine ⟨Foot.none, ?_, fun _ _ h => h.elim, fun s hs => by simp at hs⟩
    rw [conc_eval h3 f2]
    refine .agg _ _ _ _ (fun _ => Foot.none) (by simp) (Split.none _) (fun j x c hj hc => ?_) fun j x c hj hc => ?_
    · simp only [List.getElem?_toArray] at hj
      rcases List.mem_or_eq_of_mem_set (List.mem_of_getElem? hj) with h | rfl
      · exact q3 x h
      · exact q2
    · simp only [List.getElem?_toArray] at hj
      by_cases e : j = i
      · subst e
        rw [List.getElem?_set_self q1] at hj
        rw [List.getElem?_set_self (by simpa using q1)] at hc
        injection hj with hj
        injection hc with hc
        subst hj hc
        exact e2.lend (fun _ _ hb => .inl hb) (fun _ _ hb => .inr (.inl hb)) (fun b o hb => .inr (.inr ⟨r, h7, (r2 b o hb).1⟩)) h6
      · rw [List.getElem?_set_ne (Ne.symm e)] at hj hc
        rw [List.getElem?_map, hj, Option.map_some] at hc
        injection hc with hc
        subst hc
        exact .sc ..
  · obtain ⟨h1, h2, h3, h4, h5, h5', h6, h7⟩ := h
    have et := (hs.at_ h1).trans h4
    obtain ⟨u, v', y, f1, f2, f3, _, f5⟩ := hsim.deep t r (by rw [et]; rfl) (by rw [et, hs.gen_ h2]; rfl)
    rw [et] at f3 f5
    obtain ⟨v, b, cap, q0, q1, q2, q3, rfl, q5, q6⟩ := f5
    have hsl := hsim.slot r
    rw [hs.at_ h2] at hsl f3
    obtain ⟨v0, e1, e2⟩ := hsl.held (fun e => by rw [e] at h5'; cases h5') (fun k e => by rw [e] at h5'; cases h5') (by revert h5'; cases T.at r <;> intro h5' <;> first | rfl | cases h5')
    obtain rfl : v0 = u := by rw [e1] at f1; injection f1
    obtain ⟨_, F', r2, e2⟩ := e2.getp q0 h5
    refine ⟨Foot.none, ?_, fun _ _ h => h.elim, fun s hs => by simp at hs⟩
    rw [conc_eval h3 f2]
    have get : ∀ j c, ((ws.map V.sc).set i x0.lend)[j]? = some c → ∃ x, (ws.set i v)[j]? = some x ∧ x.oneCell' = true ∧ (c = .sc x ∨ j = i ∧ x = v ∧ c = x0.lend) := fun j c hc => by
      have hj := (List.getElem?_eq_some_iff.1 hc).1
      simp only [List.length_set, List.length_map] at hj
      by_cases e : j = i
      · subst e
        rw [List.getElem?_set_self (by simpa using hj)] at hc
        injection hc with hc
        exact ⟨v, List.getElem?_set_self hj, q2, .inr ⟨rfl, rfl, hc.symm⟩⟩
      · rw [List.getElem?_set_ne (Ne.symm e), List.getElem?_map] at hc
        obtain ⟨x, hx, hc⟩ := Option.map_eq_some_iff.1 hc
        exact ⟨x, by rw [List.getElem?_set_ne (Ne.symm e)]; exact hx, q3 x (List.mem_of_getElem? hx), .inl hc.symm⟩
    refine Hold.row (w := w) (S := S) _ _ true ws.length [(ws.map V.sc).set i x0.lend] (some ⟨b, 0, none⟩) cap (fun j => ((ws.set i v)[j]?).getD undef) (fun e he => by simp at he; subst he; simp) q5 (by simp) (fun _ => ⟨_, rfl⟩) (fun ad j m e c hA he hc => ?_) fun j m e c he hc => ?_
    · injection hA with hA
      subst hA
      have hj : j = 0 := by have := (List.getElem?_eq_some_iff.1 he).1; simpa using this
      subst hj
      simp only [List.getElem?_cons_zero, Option.some.injEq] at he
      subst he
      obtain ⟨x, x1, x2, _⟩ := get m c hc
      simp only [Nat.zero_mul, Nat.zero_add, addr_add_of, x1, Option.getD_some]
      exact ⟨(q6 m x x1).1, x2, .inl (q6 m x x1).2⟩
    · have hj : j = 0 := by have := (List.getElem?_eq_some_iff.1 he).1; simpa using this
      subst hj
      simp only [List.getElem?_cons_zero, Option.some.injEq] at he
      subst he
      obtain ⟨x, x1, x2, x3⟩ := get m c hc
      simp only [Nat.zero_mul, Nat.zero_add, x1, Option.getD_some]
      rcases x3 with rfl | ⟨_, rfl, rfl⟩
      · exact .sc ..
      · exact (e2.lend (B' := reads C S F loc all) (fun _ _ hb => .inl hb) (fun _ _ hb => .inr (.inl hb)) (fun b o hb => .inr (.inr ⟨r, h7, (r2 b o hb).1⟩)) h6).mono (fun _ _ h => h) (fun _ _ h => ⟨trivial, h⟩) fun _ _ h => h
theorem argsV_get {all : List Nat} (hs : Same T T' rd) (hsim : SimB C T' a w S F loc) : ∀ (ys : List Operand) (xs : List V) (ss : List (List Nat)) (used : List Nat), argsV C T rd all used ys xs ss →
    ys.length = xs.length ∧ ∃ G : Nat → Foot, (∀ i j, i ≠ j → ∀ b o, G i b o → ¬ G j b o) ∧ (∀ i b o, G i b o → ∃ s, s ∈ all ∧ s ∉ used ∧ inner C (F s) loc s b o) ∧
      (∀ (i : Nat) (y : Operand) (x : V), ys[i]? = some y → xs[i]? = some x → Hold w S (reads C S F loc all) (G i) (a.eval y) x) ∧ ∀ s, s ∈ ss.flatten → T'.at s ≠ .no := by
  intro ys
  induction ys with
  | nil =>
    intro xs ss used h
    cases xs with
    | nil => cases ss with
      | nil => exact ⟨rfl, fun _ => Foot.none, fun _ _ _ _ _ h => h.elim, fun _ _ _ h => h.elim, fun i y x hy => by simp at hy, fun s hs => by simp at hs⟩
      | cons => exact h.elim
    | cons => cases ss <;> exact h.elim
  | cons y ys ih =>
    intro xs ss used h
    cases xs with
    | nil => cases ss <;> exact h.elim
    | cons x xs =>
      cases ss with
      | nil => exact h.elim
      | cons s ss =>
        obtain ⟨h1, h2, h3⟩ := h
        obtain ⟨G0, e1, e2, e3⟩ := argV_get h1 hs hsim
        obtain ⟨hl, G, g1, g2, g3, g4⟩ := ih xs ss (s ++ used) h3
        refine ⟨by simp [hl], fun i => match i with | 0 => G0 | i + 1 => G i, fun i j hij b o hi hj => ?_, fun i b o hi => ?_, fun i y' x' hy hx => ?_, fun t ht => ?_⟩
        · cases i with
          | zero =>
            cases j with
            | zero => exact hij rfl
            | succ j =>
              obtain ⟨t, ht, hin⟩ := e2 b o hi
              obtain ⟨t', _, hu, hin'⟩ := g2 j b o hj
              exact hsim.apart t t' (fun e => hu (by rw [← e]; exact List.mem_append_left _ ht)) b o hin.1 hin'.1
          | succ i =>
            cases j with
            | zero =>
              obtain ⟨t, ht, hin⟩ := e2 b o hj
              obtain ⟨t', _, hu, hin'⟩ := g2 i b o hi
              exact hsim.apart t t' (fun e => hu (by rw [← e]; exact List.mem_append_left _ ht)) b o hin.1 hin'.1
            | succ j => exact g1 i j (by omega) b o hi hj
        · cases i with
          | zero =>
            obtain ⟨t, ht, hin⟩ := e2 b o hi
            exact ⟨t, (h2 t ht).2, (h2 t ht).1, hin⟩
          | succ i =>
            obtain ⟨t, h4, h5, h6⟩ := g2 i b o hi
            exact ⟨t, h4, fun hu => h5 (List.mem_append_right _ hu), h6⟩
        · cases i with
          | zero => simp at hy hx; subst hy hx; exact e1
          | succ i => exact g3 i y' x' (by simpa using hy) (by simpa using hx)
        · rcases List.mem_append.1 ht with ht | ht
          · exact e3 t ht
          · exact g4 t ht
theorem argsV_ok {all : List Nat} {ys : List Operand} {xs : List V} {ss : List (List Nat)} (hs : Same T T' rd) (hsim : SimB C T' a w S F loc) (h : argsV C T rd all [] ys xs ss) :
    ∃ G : Nat → Foot, ArgsOk w S (reads C S F loc all) G (ys.map a.eval) xs ∧ (∀ i b o, G i b o → ∃ s, s ∈ all ∧ inner C (F s) loc s b o) ∧ ∀ s, s ∈ ss.flatten → T'.at s ≠ .no := by
  obtain ⟨hl, G, g1, g2, g3, g4⟩ := argsV_get hs hsim ys xs ss [] h
  refine ⟨G, ⟨by simp [hl], fun i v x hv hx => ?_, g1, fun i b o hi => ?_, fun b o hb => ?_⟩, fun i b o hi => ?_, g4⟩
  · rw [List.getElem?_map, Option.map_eq_some_iff] at hv
    obtain ⟨y, hy, rfl⟩ := hv
    exact g3 i y x hy hx
  · obtain ⟨s, hs', _, hin⟩ := g2 i b o hi
    obtain ⟨m1, m2, m3, _⟩ := hsim.mine s b o hin.1
    refine ⟨m1, fun hB => ?_, m3⟩
    rcases hB with hB | hB | ⟨r, hr, hB⟩
    · exact m1 hB
    · exact m2 hB
    · exact hsim.apart r s (fun e => hr (e ▸ hs')) b o hB hin.1
  · rcases hb with hb | hb | hb | ⟨r, _, hb⟩
    · exact hsim.stay b o (.inl hb)
    · exact hsim.stay b o (.inl hb)
    · exact hsim.stay b o (.inr hb)
    · exact (hsim.mine r b o hb).2.2.1
  · obtain ⟨s, h1, _, h2⟩ := g2 i b o hi
    exact ⟨s, h1, h2⟩
theorem call_run {f : FuncId} {ys : Array Operand} {ats : Array TypeId} (hop : o.op = .call { callee := .value (.func f), args := ys, argTypes := ats }) (hf : goesTo P f) : (execOp a.eval o).run P w = .ok (.enter f (ys.map a.eval)) w := by
  obtain ⟨fn, h1, h2, h3⟩ := hf
  have he : execOp a.eval o = callFunc f (#[] ++ ys.map a.eval ++ #[]) := by
    cases o
    simp only at hop
    subst hop
    rfl
  rw [he]
  simp only [Array.empty_append, Array.append_empty, callFunc]
  have hp : (program).run P w = .ok P w := rfl
  simp only [Sem.run_bind, hp, Result.andThen_ok, h1, h2, h3, Bool.false_eq_true, ↓reduceIte, Sem.run_pure]
/-- A call by contract; nothing is lent that is written. -/
theorem exec_call (f : FuncId) (ys : Array Operand) (ats : Array TypeId) (xs : List V) (ss : List (List Nat)) (outs : List V) (res : V) (hop : o.op = .call { callee := .value (.func f), args := ys, argTypes := ats }) (hf : goesTo P f) (hd : o.dst = some d) (hdn : d < C.nt) (hdl : d < T.length) (hdp : C.pin d = none)
    (hc : VC P f xs outs res) (hres : res.shrD = true) (ha : argsV C T rd ss.flatten [] ys.toList xs ss) (hsl : ∀ s, s ∈ ss.flatten → s < T.length) : Exec P C o rd T (deads ss.flatten ++ [(d, false, res)]) := by
  intro T' a w hsm ⟨S, F, loc, hsim⟩ Q K hK
  obtain ⟨G, h1, h2, h3⟩ := argsV_ok hsm hsim ha
  unfold Oper.wp
  rw [call_run hop hf, Oper.upon_enter]
  have hcall := hc w S _ G (ys.toList.map a.eval) h1
  have hys : (ys.toList.map a.eval).toArray = ys.map a.eval := by rw [← List.map_toArray, Array.toArray_toList]
  rw [hys] at hcall
  refine Calls.mono hcall fun e w' ⟨v, he, hd'⟩ => ?_
  subst he
  obtain ⟨⟨S', F', FR, d1, d2, d3, d4, d5, d6, d7⟩, dm⟩ := hd'
  show K (a.put o.dst v) w'
  rw [hd]
  refine hK _ _ (hsim.put ss.flatten d res v FR hdn (by rw [hsm.1]; exact hdl) hdp (fun s hs => by rw [hsm.1]; exact hsl s hs) ⟨dm.os, dm.tape, dm.output, dm.size, dm.keep.mono fun b o' hb => ⟨hb.1, fun i hi => ?_⟩⟩ d3 (fun b o' hb => (d4 b o' hb).imp id (Or.imp id fun ⟨i, hi⟩ => by
      obtain ⟨s, hs, hin⟩ := h2 i b o' hi
      exact ⟨s, hs, hin, fun hf => (d7 b o' (.inl hf)).1 hb⟩)) (fun b o' hb => ?_) h3 (.inl ((d1.unborrowD hres).mono (fun _ _ h => h) (fun _ _ h => h.elim) fun _ _ h => h)))
  · obtain ⟨s, hs, hin⟩ := h2 i b o' hi
    exact hb.2 s hs hin
  · rcases d7 b o' (.inl hb) with ⟨h6, ⟨i, hi⟩ | ⟨h4, h5⟩⟩
    · exact .inl (h2 i b o' hi)
    · exact .inr ⟨h4, h5, h6⟩
/-- An argument that no row of one's own is in. -/
def argB (C : Ctx) (T : St) (rd : List Nat) (x : V) : Operand → Prop
  | .const v => lit v x
  | .tmp t => t ∈ rd ∧ t < C.nt ∧ ∃ x0, T.at t = x0 ∧ x0.free = true ∧ x0.lendable = true ∧ x = x0.lend
  | _ => False
def argsB (C : Ctx) (T : St) (rd : List Nat) : List Operand → List V → Prop
  | [], [] => True
  | y :: ys, x :: xs => argB C T rd x y ∧ argsB C T rd ys xs
  | _, _ => False
theorem argB_get {x : V} {y : Operand} (h : argB C T rd x y) (hs : Same T T' rd) (hsim : SimB C T' a w S F loc) : Hold w S (fun b o => S b o ∨ C.B b o) Foot.none (a.eval y) x := by
  cases y with
  | const v => exact lit.hold h w S _ _
  | tmp t =>
    obtain ⟨h1, h2, x0, h3, h4, h5, rfl⟩ := h
    obtain ⟨q1, q2, q3⟩ := lendable_plain h5
    have hh := (hsim.held t h2 ((hs.at_ h1).trans h3) q1 q2 q3).unfoot h4
    exact hh.lend (fun _ _ h => .inl h) (fun _ _ h => .inr h) (fun _ _ h => h.elim) h5
  | global => exact h.elim
  | func => exact h.elim
theorem argsB_get (hs : Same T T' rd) (hsim : SimB C T' a w S F loc) : ∀ (ys : List Operand) (xs : List V), argsB C T rd ys xs → ArgsOk w S (fun b o => S b o ∨ C.B b o) (fun _ => Foot.none) (ys.map a.eval) xs := by
  intro ys xs h
  have key : ∀ (ys : List Operand) (xs : List V), argsB C T rd ys xs → ys.length = xs.length ∧ ∀ (i : Nat) (v : Value) (x : V), (ys.map a.eval)[i]? = some v → xs[i]? = some x → Hold w S (fun b o => S b o ∨ C.B b o) Foot.none v x := by
    intro ys
    induction ys with
    | nil => intro xs h; cases xs with
      | nil => exact ⟨rfl, fun i v x hv => by simp at hv⟩
      | cons => exact h.elim
    | cons y ys ih => intro xs h; cases xs with
      | nil => exact h.elim
      | cons x xs =>
        obtain ⟨h1, h2⟩ := h
        obtain ⟨e1, e2⟩ := ih xs h2
        refine ⟨by simp [e1], fun i v x' hv hx => ?_⟩
        cases i with
        | zero => simp at hv hx; subst hv hx; exact argB_get h1 hs hsim
        | succ i => exact e2 i v x' (by simpa using hv) (by simpa using hx)
  obtain ⟨e1, e2⟩ := key ys xs h
  refine ⟨by simp [e1], e2, fun _ _ _ _ _ h => h.elim, fun _ _ _ h => h.elim, fun b o hb => ?_⟩
  rcases hb with hb | hb | hb
  · exact hsim.stay b o (.inl hb)
  · exact hsim.stay b o (.inl hb)
  · exact hsim.stay b o (.inr hb)
/-- A call by contract whose result may lie in what is read: nothing of one's own is lent. -/
theorem exec_call_b (f : FuncId) (ys : Array Operand) (ats : Array TypeId) (xs : List V) (outs : List V) (res : V) (hop : o.op = .call { callee := .value (.func f), args := ys, argTypes := ats }) (hf : goesTo P f) (hd : o.dst = some d) (hdn : d < C.nt) (hdl : d < T.length) (hdp : C.pin d = none)
    (hc : VC P f xs outs res) (ha : argsB C T rd ys.toList xs) : Exec P C o rd T [(d, false, res)] := by
  intro T' a w hsm ⟨S, F, loc, hsim⟩ Q K hK
  have h1 := argsB_get hsm hsim _ _ ha
  unfold Oper.wp
  rw [call_run hop hf, Oper.upon_enter]
  have hcall := hc w S _ _ (ys.toList.map a.eval) h1
  have hys : (ys.toList.map a.eval).toArray = ys.map a.eval := by rw [← List.map_toArray, Array.toArray_toList]
  rw [hys] at hcall
  refine Calls.mono hcall fun e w' ⟨v, he, hd'⟩ => ?_
  subst he
  obtain ⟨⟨S', F', FR, d1, d2, d3, d4, d5, d6, d7⟩, dm⟩ := hd'
  show K (a.put o.dst v) w'
  rw [hd]
  refine hK _ _ (hsim.put [] d res v FR hdn (by rw [hsm.1]; exact hdl) hdp (fun s hs => by simp at hs) ⟨dm.os, dm.tape, dm.output, dm.size, dm.keep.mono fun b o' hb => ⟨hb.1, fun i hi => hi.elim⟩⟩ d3 (fun b o' hb => (d4 b o' hb).imp id (Or.imp id fun ⟨i, hi⟩ => hi.elim)) (fun b o' hb => ?_) (fun s hs => by simp at hs) (.inl (d1.rebase fun b o hb => hb.imp (d3 b o) id)))
  rcases d7 b o' (.inl hb) with ⟨h6, ⟨i, hi⟩ | ⟨h4, h5⟩⟩
  · exact hi.elim
  · exact .inr ⟨h4, h5, h6⟩
end
end Go.Proofs.Ytepeoiimdefnpaa.Vm
namespace Go.Proofs.Ytepeoiimdefnpaa.Vm
open Go
/-- A value whose rows and boxes are written no more. -/
def V.frz : V → V
  | .own _ sz es => .row false sz (go2 es)
  | .obx cs => .box false (go cs)
  | .agg cs => .agg (go cs)
  | x => x
where
  go : List V → List V
    | [] => []
    | c :: cs => V.frz c :: go cs
  go2 : List (List V) → List (List V)
    | [] => []
    | e :: es => go e :: go2 es
theorem frz_go (cs : List V) : V.frz.go cs = cs.map V.frz := by
  induction cs with
  | nil => rfl
  | cons c cs ih => simp [V.frz.go, ih]
theorem frz_go2 (es : List (List V)) : V.frz.go2 es = es.map (·.map V.frz) := by
  induction es with
  | nil => rfl
  | cons c cs ih => simp [V.frz.go2, ih, frz_go]
/-- Nothing of it is a reader, or a slot's. -/
def V.freezable : V → Bool
  | .iter _ _ | .at_ _ | .al _ _ | .ref _ _ _ _ _ | .vw _ _ _ _ _ | .alp _ _ _ | .refp _ _ _ _ _ _ | .cap _ _ _ _ _ | .cpr _ _ _ _ _ | .no | .tup _ => false
  | .own _ _ es => go2 es
  | .obx cs | .agg cs => go cs
  | _ => true
where
  go : List V → Bool
    | [] => true
    | c :: cs => V.freezable c && go cs
  go2 : List (List V) → Bool
    | [] => true
    | e :: es => go e && go2 es
theorem freezable_go {cs : List V} (h : V.freezable.go cs = true) {i : Nat} {c : V} (hc : cs[i]? = some c) : c.freezable = true := by
  induction cs generalizing i with
  | nil => simp at hc
  | cons x cs ih =>
    simp only [V.freezable.go, Bool.and_eq_true] at h
    cases i with
    | zero => simp at hc; subst hc; exact h.1
    | succ i => exact ih h.2 (by simpa using hc)
theorem freezable_go2 {es : List (List V)} (h : V.freezable.go2 es = true) {j : Nat} {e : List V} (he : es[j]? = some e) : V.freezable.go e = true := by
  induction es generalizing j with
  | nil => simp at he
  | cons x es ih =>
    simp only [V.freezable.go2, Bool.and_eq_true] at h
    cases j with
    | zero => simp at he; subst he; exact h.1
    | succ j => exact ih h.2 (by simpa using he)
theorem Hold.frz {w : World} {S B : Foot} {F : Foot} {v : Value} {x : V} (h : Hold w S B F v x) : ∀ {S' : Foot}, (∀ b o, S b o → S' b o) → (∀ b o, F b o → S' b o) → x.freezable = true → Hold w S' B Foot.none v x.frz := by
  have gcs : ∀ {cs : List V} {i : Nat} {c : V}, (V.frz.go cs)[i]? = some c → ∃ c0, cs[i]? = some c0 ∧ c = c0.frz := fun {cs i c} hc => by
    rw [frz_go, List.getElem?_map, Option.map_eq_some_iff] at hc
    obtain ⟨c0, h1, h2⟩ := hc
    exact ⟨c0, h1, h2.symm⟩
  have ges : ∀ {es : List (List V)} {j : Nat} {e : List V}, (V.frz.go2 es)[j]? = some e → ∃ e0, es[j]? = some e0 ∧ e = V.frz.go e0 := fun {es j e} he => by
    rw [frz_go2, List.getElem?_map, Option.map_eq_some_iff] at he
    obtain ⟨e0, h1, h2⟩ := he
    exact ⟨e0, h1, by rw [frz_go, h2]⟩
  have glen : ∀ {es : List (List V)} {sz : Nat}, (∀ e, e ∈ es → e.length = sz) → ∀ e, e ∈ V.frz.go2 es → e.length = sz := fun {es sz} hz e he => by
    rw [frz_go2] at he
    obtain ⟨e0, h1, rfl⟩ := List.mem_map.1 he
    simpa using hz e0 h1
  have gl : ∀ (es : List (List V)), (V.frz.go2 es).length = es.length := fun es => by rw [frz_go2]; simp
  induction h with
  | dead => intros; exact .dead ..
  | sc => intros; exact .sc ..
  | agg B F vs cs G hn hs h1 hi ih =>
    intro S' s1 s3 hl
    refine .agg _ _ vs _ (fun _ => Foot.none) (by rw [hn, frz_go]; simp) (Split.none _) (fun i u c hu hc => ?_) fun i u c hu hc => ?_
    · obtain ⟨c0, hc0, rfl⟩ := gcs hc
      exact h1 i u c0 hu hc0
    · obtain ⟨c0, hc0, rfl⟩ := gcs hc
      exact ih i u c0 hu hc0 s1 (fun b o hb => s3 b o (hs.sub _ _ _ hb)) (freezable_go hl hc0)
  | tup => intro S' _ _ hl; simp [V.freezable] at hl
  | row B F x sz es A cap U hz hc hm ha h1 hi ih =>
    intro S' s1 s3 hl
    exact (Hold.row _ Foot.none x sz es A cap U hz hc hm ha h1 hi : Hold w S B Foot.none _ _).mono s1 (fun _ _ h => h) fun _ _ h => h
  | own B F E sz v es us G hz hp ho hF hs hG h1 hi ih =>
    intro S' s1 s3 hl
    have hoc : ∃ A cap, v = .slice A es.length cap ∧ es.length ≤ cap ∧ es.length ≤ 9223372036854775807 ∧ (0 < es.length → ∃ b, A = some ⟨b, 0, none⟩ ∧ v.ownBlock = some b) ∧ ∀ (b : Nat) k u, A = some ⟨b, 0, none⟩ → us[k]? = some u → w.cell? ⟨b, k, none⟩ = some u := by
      rcases ho.2 with ⟨rfl, h0⟩ | ⟨g, cap, cur, rfl, _, hg, hnc, hcm, _, _⟩
      · exact ⟨none, 0, by rw [h0], by omega, by omega, fun h => by omega, fun b k u e => by cases e⟩
      · refine ⟨_, cap, rfl, hnc, by simp only [maxLen] at hcm; omega, fun _ => ⟨g, rfl, rfl⟩, fun b k u e hu => ?_⟩
        injection e with e
        injection e with e
        subst e
        have := ho.cells (g := g) rfl k u hu
        rw [addr_add_of, Nat.zero_add] at this
        exact this
    obtain ⟨A, cap, rfl, hc, hm, ha, hcell⟩ := hoc
    have hget : ∀ j i e c, es[j]? = some e → e[i]? = some c → ∃ u, us[j * sz + i]? = some u := fun j i e c he hc => by
      have hj := (List.getElem?_eq_some_iff.1 he).1
      have hil := (List.getElem?_eq_some_iff.1 hc).1
      rw [hz e (List.mem_of_getElem? he)] at hil
      have hlt : j * sz + i < us.length := by
        rw [ho.1]
        calc j * sz + i < j * sz + sz := by omega
          _ = (j + 1) * sz := by rw [Nat.succ_mul]
          _ ≤ es.length * sz := Nat.mul_le_mul_right _ hj
      exact ⟨_, List.getElem?_eq_getElem hlt⟩
    have := Hold.row (w := w) (S := S') B Foot.none false sz (V.frz.go2 es) A cap (fun k => us.getD k undef) (glen hz) (by rw [gl]; exact hc) (by rw [gl]; exact hm) (fun hp => by
        rw [gl] at hp
        obtain ⟨b, rfl, hb⟩ := ha hp
        exact ⟨_, rfl⟩) (fun a j i e c hA he hc => by
        obtain ⟨e0, he0, rfl⟩ := ges he
        obtain ⟨c0, hc0, rfl⟩ := gcs hc
        obtain ⟨u, hu⟩ := hget j i e0 c0 he0 hc0
        obtain ⟨b, e, hvb⟩ := ha (by have := (List.getElem?_eq_some_iff.1 he0).1; omega)
        rw [hA] at e
        injection e with e
        subst e
        rw [addr_add_of, Nat.zero_add, hcell b _ u hA hu]
        simp only [List.getD_eq_getElem?_getD, hu, Option.getD_some, true_and]
        exact ⟨h1 u (List.mem_of_getElem? hu), .inl (s3 _ _ (hF b hvb _))⟩) fun j i e c he hc => by
        obtain ⟨e0, he0, rfl⟩ := ges he
        obtain ⟨c0, hc0, rfl⟩ := gcs hc
        obtain ⟨u, hu⟩ := hget j i e0 c0 he0 hc0
        simp only [List.getD_eq_getElem?_getD, hu, Option.getD_some]
        exact (ih j i e0 c0 u he0 hc0 hu s1 (fun b o hb => s3 b o (hs.sub _ _ _ hb)) (freezable_go (freezable_go2 hl he0) hc0)).mono (fun _ _ h => h) (fun _ _ h => h.elim) fun _ _ h => h
    rw [gl] at this
    exact this
  | box B F x cs a U h1 hi ih =>
    intro S' s1 s3 hl
    exact (Hold.box _ Foot.none x cs a U h1 hi : Hold w S B Foot.none _ _).mono s1 (fun _ _ h => h) fun _ _ h => h
  | obx B F cs b o U G hs hF hG h1 hi ih =>
    intro S' s1 s3 hl
    refine .box _ _ false _ _ U (fun i c hc => ?_) fun i c hc => ?_
    · obtain ⟨c0, hc0, rfl⟩ := gcs hc
      obtain ⟨q1, q2, q3⟩ := h1 i c0 hc0
      rw [addr_add_of]
      exact ⟨q1, q3, .inl (s3 _ _ (hF i (List.getElem?_eq_some_iff.1 hc0).1))⟩
    · obtain ⟨c0, hc0, rfl⟩ := gcs hc
      exact (ih i c0 hc0 s1 (fun b o hb => s3 b o (hs.sub _ _ _ hb)) (freezable_go hl hc0)).mono (fun _ _ h => h) (fun _ _ h => h.elim) fun _ _ h => h
  | iter => intro S' _ _ hl; simp [V.freezable] at hl
theorem freezable_plain {x : V} (h : x.freezable = true) : x ≠ .no ∧ (∀ k, x ≠ .at_ k) ∧ x.root = none := by
  cases x <;> first | (simp [V.freezable] at h; done) | exact ⟨by simp, fun _ => by simp, rfl⟩
theorem St.app_one (T : St) (s : Nat) (x : V) (hs : s < T.length) : (T.app [(s, false, x)]).at s = x := St.at_last T [] s false x hs
/-- What a slot has is written no more. -/
theorem weak_frz {C : Ctx} {T : St} (s : Nat) (x : V) (hsl : s < T.length) (hx : T.at s = x) (hf : x.freezable = true) : Weak C T (T.app [(s, false, x.frz)]) := fun a w ⟨S, F, loc, h⟩ => by
  obtain ⟨p1, p2, p3⟩ := freezable_plain hf
  have hsl0 := h.slot s
  rw [hx] at hsl0
  obtain ⟨v, h1, h2⟩ := hsl0.held p1 p2 p3
  have hat : (T.app [(s, false, x.frz)]).at s = x.frz := St.app_one T s _ hsl
  have hgl : T.gen s < St.gen (T.app [(s, false, x.frz)]) s := St.gen_lt T _ s hsl ⟨x.frz, by simp⟩
  have hz := h2.frz (S' := fun b o => S b o ∨ inner C (F s) loc s b o) (fun _ _ h => .inl h) (fun _ _ h => .inr h) hf
  have hpl := hold_plain hz
  have hnot : ∀ t, t ∉ [s] → (T.app [(s, false, x.frz)]).getD t (0, .no) = T.getD t (0, .no) := fun t ht => St.app_not T _ t (by simpa using ht)
  refine ⟨fun b o => S b o ∨ inner C (F s) loc s b o, fun t => if t = s then (fun b o => C.nt ≤ s ∧ b = (loc s).block ∧ o = (loc s).off) else F t, loc,
    h.upd [s] hnot rfl h.defers h.pins (.refl _ _) (fun _ _ h => .inl h) (fun b o hb => ?_) (fun t ht => if_neg (by simpa using ht)) (fun k hk => ⟨rfl, ?_⟩) (fun _ _ _ _ => rfl) (fun _ _ _ => rfl) (fun r hr he _ => ?_) (fun r hr => ?_) (fun s' t hs' hst b o hb hb' => ?_) (fun s' hs' b o hb => ?_) (fun s' hs' r g hr => ?_) (fun s' hs' => ?_) (fun s' hs' hn hx' => ?_) (h.nodeep hnot (fun r hr => by simp at hr; subst hr; exact hgl) fun s' hs' => ?_)⟩
  · rcases hb with hb | hb
    · exact .inl hb
    · exact .inr (.inr ⟨s, by simp, hb.1⟩)
  · by_cases hks : k = s
    · subst hks; rw [hat]; exact hpl.1
    · have := hnot k (by simpa using hks)
      unfold St.at
      rw [this]
      exact hk
  · rfl
  · obtain rfl : r = s := by simpa using hr
    exact Nat.le_of_lt hgl
  · obtain rfl : s' = s := by simpa using hs'
    simp only [↓reduceIte] at hb
    rw [if_neg (Ne.symm hst)] at hb'
    obtain ⟨hn, rfl, rfl⟩ := hb
    exact h.apart s' t hst _ _ (h.cells s' hn (by rw [hx]; exact p1)).1 hb'
  · obtain rfl : s' = s := by simpa using hs'
    simp only [↓reduceIte] at hb
    obtain ⟨hn, rfl, rfl⟩ := hb
    obtain ⟨m1, m2, m3, m4⟩ := h.mine s' _ _ (h.cells s' hn (by rw [hx]; exact p1)).1
    exact ⟨fun hS => hS.elim m1 fun hi => hi.2 ⟨hn, rfl, rfl⟩, m2, m3, m4⟩
  · obtain rfl : s' = s := by simpa using hs'
    rw [hat, hpl.2.2] at hr
    cases hr
  · obtain rfl : s' = s := by simpa using hs'
    rw [hat]
    exact SlotOk.plain ⟨v, h1, hz.mono (fun _ _ h => h) (fun _ _ h => h) fun _ _ h => h.elim⟩
  · obtain rfl : s' = s := by simpa using hs'
    obtain ⟨e1, e2, e3, e4⟩ := h.cells s' hn (by rw [hx]; exact p1)
    exact ⟨by simp only [↓reduceIte]; exact ⟨hn, trivial, trivial⟩, e2, e3, e4⟩
  · obtain rfl : s' = s := by simpa using hs'
    rw [hat]
    exact V.not_deep hpl.2.2
end Go.Proofs.Ytepeoiimdefnpaa.Vm
namespace Go.Proofs.Ytepeoiimdefnpaa.Vm
open Go
/-- A box on its way is laid out: its cells are slots. -/
theorem weak_open {C : Ctx} {T : St} (s k : Nat) (cs : List V) (hsl : s < T.length) (hx : T.at s = .obx cs) (hk : C.nt ≤ k) (hkl : k + cs.length ≤ T.length) (hpos : 0 < cs.length) (hno : ∀ j, j < cs.length → T.at (k + j) = .no ∧ C.base (k + j) = k)
    (hgrp : ∀ s, k ≤ C.base s → C.base s < k + cs.length → k ≤ s ∧ s < k + cs.length) : Weak C T (T.app (stores k cs ++ [(s, false, .at_ k)])) := fun a w ⟨S, F, loc, h⟩ => by
  have hsl0 := h.slot s
  rw [hx] at hsl0
  obtain ⟨v, h1, h2⟩ := hsl0.held (by simp) (fun _ => by simp) rfl
  generalize hIF : inner C (F s) loc s = IF at h2
  cases h2 with
  | obx _ _ _ b o U G hs hF hG hc hi =>
  subst hIF
  have hal : ∀ t, T.at t ≠ .no → ¬ (k ≤ t ∧ t < k + cs.length) := fun t ht e => ht (by have := (hno (t - k) (by omega)).1; rwa [show k + (t - k) = t by omega] at this)
  have hsk := hal s (by rw [hx]; simp)
  have hats : (T.app (stores k cs ++ [(s, false, .at_ k)])).at s = .at_ k := St.at_last T _ s false _ hsl
  have hatk : ∀ j c, cs[j]? = some c → (T.app (stores k cs ++ [(s, false, .at_ k)])).at (k + j) = c := fun j c hc => by
    have hj := (List.getElem?_eq_some_iff.1 hc).1
    rw [St.at_mid T _ _ _ _ _ (by omega : s ≠ k + j)]
    exact St.at_stores T k cs j c hc hkl
  have hW : ∀ t, t ∈ (stores k cs ++ [(s, false, V.at_ k)]).map (·.1) ↔ (k ≤ t ∧ t < k + cs.length) ∨ t = s := fun t => by
    rw [List.map_append, List.mem_append, stores_fst]
    simp only [List.mem_map, List.mem_range, List.map_cons, List.map_nil, List.mem_singleton]
    constructor
    · rintro (⟨j, hj, rfl⟩ | h)
      · exact .inl (by omega)
      · exact .inr h
    · rintro (h | h)
      · exact .inl ⟨t - k, by omega, by omega⟩
      · exact .inr h
  have hgl : ∀ t, t ∈ (stores k cs ++ [(s, false, V.at_ k)]).map (·.1) → T.gen t < St.gen (T.app (stores k cs ++ [(s, false, V.at_ k)])) t := fun t ht => by
    rcases (hW t).1 ht with ht | rfl
    · obtain ⟨x, hx⟩ := mem_stores k cs (t - k) (by omega)
      rw [show k + (t - k) = t by omega] at hx
      exact St.gen_lt T _ _ (by omega) ⟨x, by simp [hx]⟩
    · exact St.gen_lt T _ _ hsl ⟨.at_ k, by simp⟩
  have hnot : ∀ t, t ∉ (stores k cs ++ [(s, false, V.at_ k)]).map (·.1) → (T.app (stores k cs ++ [(s, false, V.at_ k)])).getD t (0, .no) = T.getD t (0, .no) := fun t ht => St.app_not T _ t ht
  have hget : ∀ j, j < cs.length → ∃ c, cs[j]? = some c := fun j hj => ⟨_, List.getElem?_eq_getElem hj⟩
  have hpl : ∀ (j : Nat) (c : V), cs[j]? = some c → c ≠ .no ∧ (∀ i, c ≠ .at_ i) ∧ c.root = none := fun j c hc => hold_plain (hi j c hc)
  have hatn : ∀ t, T.at t ≠ .no → (T.app (stores k cs ++ [(s, false, V.at_ k)])).at t ≠ .no := fun t ht => by
    by_cases hts : t = s
    · subst hts; rw [hats]; simp
    · have := hnot t (fun hm => ((hW t).1 hm).elim (hal t ht) hts)
      unfold St.at
      rw [this]
      exact ht
  have hlo : ∀ t, T.at t ≠ .no → (if k ≤ t ∧ t < k + cs.length then (⟨b, o + (t - k), none⟩ : Addr) else loc t) = loc t := fun t ht => if_neg (hal t ht)
  have hlock : ∀ j, j < cs.length → (if k ≤ k + j ∧ k + j < k + cs.length then (⟨b, o + (k + j - k), none⟩ : Addr) else loc (k + j)) = ⟨b, o + j, none⟩ := fun j hj => by
    rw [if_pos (by omega)]
    congr 2
    omega
  have hsub : ∀ j b' o', (b' = b ∧ o' = o + j ∧ j < cs.length) ∨ G j b' o' → inner C (F s) loc s b' o' := fun j b' o' hb => by
    rcases hb with ⟨rfl, rfl, hj⟩ | hb
    · exact hF j hj
    · exact hs.sub _ _ _ hb
  have part : ∀ t b' o', (if t = s then (fun b o => C.nt ≤ s ∧ b = (loc s).block ∧ o = (loc s).off) else if k ≤ t ∧ t < k + cs.length then (fun b' o' => (b' = b ∧ o' = o + (t - k) ∧ t - k < cs.length) ∨ G (t - k) b' o') else F t : Foot) b' o' →
      (F t b' o' ∧ ¬ inner C (F s) loc s b' o') ∨ (k ≤ t ∧ t < k + cs.length ∧ ((b' = b ∧ o' = o + (t - k) ∧ t - k < cs.length) ∨ G (t - k) b' o')) := fun t b' o' hb => by
    by_cases h0 : t = s
    · subst h0
      simp only [↓reduceIte] at hb
      obtain ⟨hn, rfl, rfl⟩ := hb
      exact .inl ⟨(h.cells t hn (by rw [hx]; simp)).1, fun hi => hi.2 ⟨hn, rfl, rfl⟩⟩
    · rw [if_neg h0] at hb
      by_cases h3 : k ≤ t ∧ t < k + cs.length
      · rw [if_pos h3] at hb
        exact .inr ⟨h3.1, h3.2, hb⟩
      · rw [if_neg h3] at hb
        exact .inl ⟨hb, fun hi => h.apart t s h0 _ _ hb hi.1⟩
  refine ⟨S, fun t => if t = s then (fun b o => C.nt ≤ s ∧ b = (loc s).block ∧ o = (loc s).off) else if k ≤ t ∧ t < k + cs.length then (fun b' o' => (b' = b ∧ o' = o + (t - k) ∧ t - k < cs.length) ∨ G (t - k) b' o') else F t,
    fun t => if k ≤ t ∧ t < k + cs.length then ⟨b, o + (t - k), none⟩ else loc t,
    h.upd ((stores k cs ++ [(s, false, V.at_ k)]).map (·.1)) hnot rfl h.defers h.pins (.refl _ _) (fun _ _ h => h) (fun _ _ h => .inl h) (fun t ht => ?_) (fun t ht => ⟨hlo t ht, hatn t ht⟩) (fun t hns ht hx' => ?_) (fun _ _ _ => rfl)
    (fun r hr he _ => absurd he (by have := hgl r hr; omega)) (fun r hr => Nat.le_of_lt (hgl r hr)) (fun t t' ht hst b' o' hb hb' => ?_) (fun t ht b' o' hb => ?_) (fun t ht r g hr => ?_) (fun t ht => ?_) (fun t ht hns hx' => ?_) (h.nodeep hnot hgl fun t ht => ?_)⟩
  · have ht' := fun hh => ht ((hW t).2 hh)
    have e1 : t ≠ s := fun e => ht' (.inr e)
    have e3 : ¬ (k ≤ t ∧ t < k + cs.length) := fun e => ht' (.inl e)
    simp [e1, e3]
  · refine if_neg fun e => ?_
    exact hal t hx' (hgrp t e.1 e.2)
  · rcases part t b' o' hb with ⟨p1, p2⟩ | ⟨p1, p2, p3⟩ <;> rcases part t' b' o' hb' with ⟨q1, q2⟩ | ⟨q1, q2, q3⟩
    · exact h.apart t t' hst _ _ p1 q1
    · exact p2 (hsub _ _ _ q3)
    · exact q2 (hsub _ _ _ p3)
    · rcases p3 with ⟨rfl, rfl, p4⟩ | p3 <;> rcases q3 with ⟨e1, e2, e3⟩ | q3
      · omega
      · exact hG _ (t - k) p4 q3
      · subst e1 e2
        exact hG _ (t' - k) e3 p3
      · exact hs.apart (t - k) (t' - k) (by omega) _ _ p3 q3
  · have : ∃ t, F t b' o' := by
      rcases part t b' o' hb with ⟨p1, _⟩ | ⟨_, _, p3⟩
      · exact ⟨t, p1⟩
      · exact ⟨s, (hsub _ _ _ p3).1⟩
    obtain ⟨t, ht⟩ := this
    exact h.mine t b' o' ht
  · rcases (hW t).1 ht with ht | rfl
    · obtain ⟨c, hc'⟩ := hget (t - k) (by omega)
      have := hatk _ c hc'
      rw [show k + (t - k) = t by omega] at this
      rw [this, (hpl _ c hc').2.2] at hr
      simp at hr
    · rw [hats] at hr; simp [V.root] at hr
  · rcases (hW t).1 ht with ht | rfl
    · obtain ⟨j, rfl⟩ : ∃ j, t = k + j := ⟨t - k, by omega⟩
      have hj : j < cs.length := by omega
      obtain ⟨c, hc'⟩ := hget j hj
      obtain ⟨e1, e2, e3⟩ := hc j c hc'
      rw [hatk j c hc']
      refine SlotOk.plain ⟨U j, ?_, ?_⟩
      · unfold conc
        rw [if_neg (by omega)]
        show w.cell? (if _ then _ else _) = _
        rw [hlock j hj]
        exact e1
      · refine (hi j c hc').mono (fun _ _ h => h) (fun _ _ h => h.elim) fun b' o' hg => ⟨?_, fun hcl => ?_⟩
        · rw [if_neg (fun e => hsk ⟨by omega, by omega⟩), if_pos (by omega)]
          exact .inr (by rw [show k + j - k = j by omega]; exact hg)
        · simp only [hlock j hj] at hcl
          obtain ⟨_, rfl, rfl⟩ := hcl
          exact hG j j hj hg
    · rw [hats]
      refine ⟨?_, hk, ?_⟩
      · have h0 := hlock 0 hpos
        simp only [Nat.add_zero] at h0
        unfold conc at h1 ⊢
        show _ = some (Value.pointer (some (if _ then _ else _)))
        rw [h0]
        split
        · rename_i hlt
          rw [if_pos hlt] at h1
          exact h1
        · rename_i hge
          rw [if_neg hge] at h1
          show w.cell? (if _ then _ else _) = _
          rw [if_neg hsk]
          exact h1
      · obtain ⟨c, hc'⟩ := hget 0 hpos
        have := hatk 0 c hc'
        rw [Nat.add_zero] at this
        rw [this]
        exact (hpl 0 c hc').1
  · rcases (hW t).1 ht with ht | rfl
    · obtain ⟨j, rfl⟩ : ∃ j, t = k + j := ⟨t - k, by omega⟩
      have hj : j < cs.length := by omega
      obtain ⟨c, hc'⟩ := hget j hj
      obtain ⟨e1, e2, e3⟩ := hc j c hc'
      have h0 := hlock 0 hpos
      simp only [Nat.add_zero] at h0
      simp only [hlock j hj, (hno j hj).2, h0]
      refine ⟨by rw [if_neg (fun e => hsk ⟨by omega, by omega⟩), if_pos (by omega)]; exact .inl ⟨rfl, by omega, by omega⟩, e2, ⟨U j, e1, e3⟩, by congr 1; omega⟩
    · obtain ⟨e1, e2, e3, e4⟩ := h.cells t hns (by rw [hx]; simp)
      have hb : (if k ≤ C.base t ∧ C.base t < k + cs.length then (⟨b, o + (C.base t - k), none⟩ : Addr) else loc (C.base t)) = loc (C.base t) := if_neg fun e => hsk (hgrp t e.1 e.2)
      simp only [if_neg hsk, hb]
      exact ⟨by simp only [↓reduceIte]; exact ⟨hns, trivial, trivial⟩, e2, e3, e4⟩
  · rcases (hW t).1 ht with ht | rfl
    · obtain ⟨c, hc'⟩ := hget (t - k) (by omega)
      have := hatk _ c hc'
      rw [show k + (t - k) = t by omega] at this
      rw [this]
      exact V.not_deep (hpl _ c hc').2.2
    · rw [hats]; rfl
end Go.Proofs.Ytepeoiimdefnpaa.Vm
namespace Go.Proofs.Ytepeoiimdefnpaa.Vm
open Go
/-- A plain value: no slot's. -/
def V.plainB : V → Bool
  | .no | .at_ _ | .al _ _ | .ref _ _ _ _ _ | .vw _ _ _ _ _ | .alp _ _ _ | .refp _ _ _ _ _ _ | .cap _ _ _ _ _ | .cpr _ _ _ _ _ => false
  | _ => true
theorem V.plainB_of {x : V} (h : x.plainB = true) : x ≠ .no ∧ (∀ k, x ≠ .at_ k) ∧ x.root = none := by
  cases x <;> first | (simp [V.plainB] at h; done) | exact ⟨by simp, fun _ => by simp, rfl⟩
def closeL (s k m : Nat) : List (Nat × V) → List (Nat × V)
  | [] => []
  | p :: l => if p.1 = s ∨ (k ≤ p.1 ∧ p.1 < k + m) then closeL s k m l else p :: closeL s k m l
/-- The slot that a value points to. -/
def V.tgt : V → Option Nat
  | .at_ j => some j
  | .al r _ => some r
  | .ref r _ _ _ _ => some r
  | .vw r _ _ _ _ => some r
  | .alp r _ _ | .refp r _ _ _ _ _ | .cap r _ _ _ _ | .cpr r _ _ _ _ => some r
  | _ => none
theorem V.tgt_root {x : V} {r g : Nat} (h : x.root = some (r, g)) : x.tgt = some r := by
  cases x <;> simp [V.root] at h <;> simp [V.tgt, h]
/-- No other slot's value points to the cells. -/
def closeOk (s k m : Nat) : List (Nat × V) → Bool
  | [] => true
  | p :: l => (decide (p.1 = s) || decide (k ≤ p.1 ∧ p.1 < k + m) || match p.2.tgt with
    | some j => !decide (k ≤ j ∧ j < k + m)
    | none => true) && closeOk s k m l
theorem look_closeL {s k m : Nat} {l : List (Nat × V)} {t : Nat} {d : V} : look (closeL s k m l) t d = if t = s ∨ (k ≤ t ∧ t < k + m) then d else look l t d := by
  induction l with
  | nil => simp [closeL, look]
  | cons p l ih =>
    simp only [closeL]
    by_cases hp : p.1 = s ∨ (k ≤ p.1 ∧ p.1 < k + m)
    · rw [if_pos hp, ih]
      by_cases ht : t = s ∨ (k ≤ t ∧ t < k + m)
      · rw [if_pos ht, if_pos ht]
      · rw [if_neg ht, if_neg ht]
        simp only [look]
        rw [if_neg (fun e => ht (by rw [← e]; exact hp))]
    · rw [if_neg hp]
      simp only [look]
      by_cases he : p.1 = t
      · rw [if_pos he, if_pos he, if_neg (fun e => hp (by rw [he]; exact e))]
      · rw [if_neg he, if_neg he, ih]
theorem closeOk_get {s k m : Nat} {l : List (Nat × V)} (h : closeOk s k m l = true) {t : Nat} {x : V} (ht : ¬ (t = s ∨ (k ≤ t ∧ t < k + m))) (hm : (t, x) ∈ l) : ∀ j, x.tgt = some j → ¬ (k ≤ j ∧ j < k + m) := by
  induction l with
  | nil => simp at hm
  | cons p l ih =>
    simp only [closeOk, Bool.and_eq_true] at h
    rcases List.mem_cons.1 hm with rfl | hm
    · intro j e
      have h1 := h.1
      have e1 : decide (t = s) = false := decide_eq_false fun e => ht (.inl e)
      have e2 : decide (k ≤ t ∧ t < k + m) = false := decide_eq_false fun e => ht (.inr e)
      simp only [e1, e2, Bool.false_or, e, Bool.not_eq_true', decide_eq_false_iff_not] at h1
      exact h1
    · exact ih h.2 hm
theorem weak_close {C : Ctx} {n k m s : Nat} {l : List (Nat × V)} (hsn : s < n) (hs : look l s (if s < C.nt then .dead else .no) = .at_ k) (hk : C.nt ≤ k) (hkm : k + m ≤ n) (hpos : 0 < m) (hb : ∀ j, j < m → C.base (k + j) = k)
    (hp : ((List.range m).all fun j => (look l (k + j) .no).plainB && (look l (k + j) .no).shr) = true) (hc : closeOk s k m l = true) :
    Weak C (mkT n C.nt l) (mkT n C.nt ((s, .obx ((List.range m).map fun j => look l (k + j) .no)) :: closeL s k m l)) := fun a w ⟨S, F, loc, h⟩ => by
  have hatk : ∀ j, j < m → (mkT n C.nt l).at (k + j) = look l (k + j) .no := fun j hj => by
    rw [mkT_at, if_pos (by omega), if_neg (by omega)]
  have hats : (mkT n C.nt l).at s = .at_ k := by rw [mkT_at, if_pos hsn, hs]
  have hpl : ∀ j, j < m → (look l (k + j) .no).plainB = true ∧ (look l (k + j) .no).shr = true := fun j hj => by
    have := List.all_eq_true.1 hp j (by simpa using hj)
    simpa using this
  have hsk : ¬ (k ≤ s ∧ s < k + m) := fun e => by
    have h1 := hatk (s - k) (by omega)
    rw [show k + (s - k) = s by omega, hats] at h1
    have := (hpl (s - k) (by omega)).1
    rw [show k + (s - k) = s by omega, ← h1] at this
    simp [V.plainB] at this
  have hnew : ∀ t, (mkT n C.nt ((s, .obx ((List.range m).map fun j => look l (k + j) .no)) :: closeL s k m l)).at t = if t = s then .obx ((List.range m).map fun j => look l (k + j) .no) else if k ≤ t ∧ t < k + m then .no else (mkT n C.nt l).at t := fun t => by
    rw [mkT_at, mkT_at]
    simp only [look]
    by_cases hts : t = s
    · subst hts; simp [hsn]
    · rw [if_neg (Ne.symm hts), if_neg hts, look_closeL]
      by_cases htk : k ≤ t ∧ t < k + m
      · simp only [if_pos (show t = s ∨ (k ≤ t ∧ t < k + m) from .inr htk), if_pos htk, if_neg (show ¬ t < C.nt by omega), ite_self]
      · simp only [if_neg (show ¬ (t = s ∨ (k ≤ t ∧ t < k + m)) from fun e => e.elim hts htk), if_neg htk]
  -- a slot that is told elsewhere doesn't point to the cells
  have hpt : ∀ t, t ≠ s → ¬ (k ≤ t ∧ t < k + m) → ∀ j, ((mkT n C.nt l).at t).tgt = some j → ¬ (k ≤ j ∧ j < k + m) := fun t hts htk => by
    rw [mkT_at]
    split
    · rcases look_mem (l := l) (s := t) (d := if t < C.nt then .dead else .no) with he | he
      · rw [he]
        intro j e
        split at e <;> simp [V.tgt] at e
      · exact closeOk_get hc (fun e => e.elim hts htk) he
    · intro j e
      simp [V.tgt] at e
  have hcellk : ∀ j, j < m → F (k + j) (loc (k + j)).block (loc (k + j)).off ∧ w.frozen? (loc (k + j)) = false ∧ (∃ u, w.cell? (loc (k + j)) = some u ∧ u.oneCell' = true) ∧ loc (k + j) = ⟨(loc k).block, (loc k).off + j, none⟩ := fun j hj => by
    obtain ⟨e1, e2, e3, e4⟩ := h.cells (k + j) (by omega) (by rw [hatk j hj]; exact (V.plainB_of (hpl j hj).1).1)
    refine ⟨e1, e2, e3, ?_⟩
    rw [e4, hb j hj]
    congr 2
    omega
  have hk0 := (hcellk 0 hpos).2.2.2
  simp only [Nat.add_zero] at hk0
  have hnt0 : ∀ t, t ≠ s → ¬ (k ≤ t ∧ t < k + m) → (mkT n C.nt l).at t ≠ .no → (mkT n C.nt ((s, .obx ((List.range m).map fun j => look l (k + j) .no)) :: closeL s k m l)).at t ≠ .no := fun t h1 h2 h3 => by rw [hnew, if_neg h1, if_neg h2]; exact h3
  have hthere : ∀ r, (r < C.nt ∨ (mkT n C.nt l).at r ≠ .no) → ¬ (k ≤ r ∧ r < k + m) → (r < C.nt ∨ (mkT n C.nt ((s, .obx ((List.range m).map fun j => look l (k + j) .no)) :: closeL s k m l)).at r ≠ .no) := fun r hr hrk => hr.imp id fun hr => by
    by_cases hrs : r = s
    · subst hrs; rw [hnew, if_pos rfl]; simp
    · exact hnt0 r hrs hrk hr
  have hF' : ∀ t b o, (if t = s then (fun b o => F s b o ∨ ∃ j, j < m ∧ F (k + j) b o) else if k ≤ t ∧ t < k + m then Foot.none else F t : Foot) b o → (t = s ∧ ∃ j, j < m ∧ F (k + j) b o) ∨ (F t b o ∧ ¬ (k ≤ t ∧ t < k + m)) := fun t b o hb => by
    by_cases hts : t = s
    · subst hts
      simp only [↓reduceIte] at hb
      rcases hb with hb | hb
      · exact .inr ⟨hb, hsk⟩
      · exact .inl ⟨rfl, hb⟩
    · rw [if_neg hts] at hb
      by_cases htk : k ≤ t ∧ t < k + m
      · rw [if_pos htk] at hb; exact hb.elim
      · rw [if_neg htk] at hb; exact .inr ⟨hb, htk⟩
  have ingrp : ∀ t b o j, F t b o → ¬ (k ≤ t ∧ t < k + m) → j < m → ¬ F (k + j) b o := fun t b o j h1 h2 hj => h.apart t (k + j) (fun e => h2 (by omega)) b o h1
  have hslots : ∃ v, conc C a w loc s = some v ∧ v = .pointer (some (loc k)) := by
    have := h.slot s
    rw [hats] at this
    exact ⟨_, this.1, rfl⟩
  refine ⟨S, fun t => if t = s then (fun b o => F s b o ∨ ∃ j, j < m ∧ F (k + j) b o) else if k ≤ t ∧ t < k + m then Foot.none else F t, loc, h.size, h.defers, h.pins, h.world, h.sub, h.from_, h.stay, fun t t' htt b o hb hb' => ?_, fun t b o hb => ?_, fun t r g hr => ?_, fun t => ?_, fun t hns hx => ?_, fun t r hd hr => ?_⟩
  · rcases hF' t b o hb with ⟨rfl, j, hj, p⟩ | ⟨p1, p2⟩ <;> rcases hF' t' b o hb' with ⟨rfl, j', hj', q⟩ | ⟨q1, q2⟩
    · exact htt rfl
    · exact ingrp t' b o j q1 q2 hj p
    · exact ingrp t b o j' p1 p2 hj' q
    · exact h.apart t t' htt b o p1 q1
  · rcases hF' t b o hb with ⟨_, j, _, p⟩ | ⟨p, _⟩
    · exact h.mine _ b o p
    · exact h.mine _ b o p
  · rw [hnew] at hr
    rw [mkT_gen]
    by_cases hts : t = s
    · rw [if_pos hts] at hr; simp [V.root] at hr
    · rw [if_neg hts] at hr
      by_cases htk : k ≤ t ∧ t < k + m
      · rw [if_pos htk] at hr; simp [V.root] at hr
      · rw [if_neg htk] at hr
        obtain ⟨e1, e2⟩ := h.ages t r g hr
        rw [mkT_gen] at e1
        exact ⟨e1, hthere r e2 (hpt t hts htk r (V.tgt_root hr))⟩
  · rw [hnew]
    by_cases hts : t = s
    · subst hts
      simp only [↓reduceIte]
      obtain ⟨v, e1, rfl⟩ := hslots
      refine SlotOk.plain ⟨_, e1, ?_⟩
      rw [hk0]
      have hval : ∀ j, j < m → ∃ u, w.cell? (loc (k + j)) = some u ∧ Hold w S C.B (inner C (F (k + j)) loc (k + j)) u (look l (k + j) .no) ∧ u.oneCell' = true := fun j hj => by
        obtain ⟨p1, p2, p3⟩ := V.plainB_of (hpl j hj).1
        exact at_cell h (by omega) (hatk j hj) p1 p2 p3
      refine .obx _ _ _ (loc k).block (loc k).off (fun j => (w.cell? (loc (k + j))).getD undef) (fun j b o => j < m ∧ inner C (F (k + j)) loc (k + j) b o) ⟨fun j b o hj => ⟨.inr ⟨j, hj.1, hj.2.1⟩, fun e => ?_⟩, fun i j hij b o h1 h2 => h.apart (k + i) (k + j) (by omega) b o h1.2.1 h2.2.1⟩ (fun j hj => ?_) (fun j' j hj hjj => ?_) (fun j c hc' => ?_) fun j c hc' => ?_
      · obtain ⟨e0, rfl, rfl⟩ := e
        exact ingrp t _ _ j (h.cells t e0 (by rw [hats]; simp)).1 hsk hj.1 hj.2.1
      · simp only [List.length_map, List.length_range] at hj
        obtain ⟨c1, _, _, c4⟩ := hcellk j hj
        rw [c4] at c1
        refine ⟨.inr ⟨j, hj, c1⟩, fun e => ?_⟩
        obtain ⟨e0, e1, e2⟩ := e
        rw [e1, e2] at c1
        exact ingrp t _ _ j (h.cells t e0 (by rw [hats]; simp)).1 hsk hj c1
      · simp only [List.length_map, List.length_range] at hj
        obtain ⟨c1, _, _, c4⟩ := hcellk j hj
        rw [c4] at c1
        by_cases hji : j' = j
        · subst hji
          exact hjj.2.2 ⟨by omega, by rw [c4], by rw [c4]⟩
        · exact h.apart (k + j') (k + j) (by omega) _ _ hjj.2.1 c1
      · have hj : j < m := by have := (List.getElem?_eq_some_iff.1 hc').1; simpa using this
        obtain ⟨_, c2, _, c4⟩ := hcellk j hj
        obtain ⟨u, u1, _, u3⟩ := hval j hj
        rw [c4] at c2 u1
        rw [c4, u1]
        exact ⟨rfl, c2, u3⟩
      · have hj : j < m := by have := (List.getElem?_eq_some_iff.1 hc').1; simpa using this
        simp [hj] at hc'
        subst hc'
        obtain ⟨u, u1, u2, _⟩ := hval j hj
        rw [u1]
        exact (u2.unborrow (hpl j hj).2).mono (fun _ _ h => h) (fun _ _ h => h) fun b o hb => ⟨hj, hb⟩
    · by_cases htk : k ≤ t ∧ t < k + m
      · simp only [if_neg hts, if_pos htk]; trivial
      · have hk' := h.slot t
        simp only [if_neg hts, if_neg htk]
        have q1 := hpt t hts htk
        generalize hx : (mkT n C.nt l).at t = x at hk' q1 ⊢
        cases x with
        | no => trivial
        | at_ j =>
          obtain ⟨e1, e2, e3⟩ := hk'
          exact ⟨e1, e2, (hthere j (.inr e3) (q1 j rfl)).resolve_left (by omega)⟩
        | al r g => exact fun hg => hk' (by rw [mkT_gen] at hg ⊢; exact hg)
        | ref r g _ _ _ => exact fun hg => hk' (by rw [mkT_gen] at hg ⊢; exact hg)
        | vw r g _ _ _ => exact fun hg => hk' (by rw [mkT_gen] at hg ⊢; exact hg)
        | alp r g _ => exact fun hg => hk' (by rw [mkT_gen] at hg ⊢; exact hg)
        | refp r g _ _ _ _ => exact fun hg => hk' (by rw [mkT_gen] at hg ⊢; exact hg)
        | cap r g _ _ _ => exact fun hg => hk' (by rw [mkT_gen] at hg ⊢; exact hg)
        | cpr r g _ _ _ => exact fun hg => hk' (by rw [mkT_gen] at hg ⊢; exact hg)
        | _ => exact hk'
  · have hx0 : ¬ (k ≤ t ∧ t < k + m) := fun e => by
      have hts : t ≠ s := fun e' => hsk (by rw [← e']; exact e)
      rw [hnew, if_neg hts, if_pos e] at hx
      exact hx rfl
    have hxo : (mkT n C.nt l).at t ≠ .no := by
      by_cases hts : t = s
      · rw [hts, hats]; simp
      · rw [hnew, if_neg hts, if_neg hx0] at hx
        exact hx
    obtain ⟨e1, e2, e3, e4⟩ := h.cells t hns hxo
    refine ⟨?_, e2, e3, e4⟩
    by_cases hts : t = s
    · subst hts; simp only [↓reduceIte]; exact .inl e1
    · simp only [if_neg hts, if_neg hx0]; exact e1
  · have hts : t ≠ s := fun e => by rw [hnew, if_pos e] at hd; cases hd
    have htk : ¬ (k ≤ t ∧ t < k + m) := fun e => by rw [hnew, if_neg hts, if_pos e] at hd; cases hd
    have et := hnew t
    rw [if_neg hts, if_neg htk] at et
    rw [et] at hd hr
    have hr' := hr
    rw [mkT_gen] at hr'
    obtain ⟨u, v, y, f1, f2, f3, f4, f5⟩ := h.deep t r hd (by rw [mkT_gen]; exact hr')
    have hrs : r ≠ s := fun e => by
      rw [e, hats] at f3
      cases hp : ((mkT n C.nt l).at t).path with
      | nil => rw [hp] at f3; injection f3 with f3; subst f3; cases f4
      | cons => rw [hp] at f3; cases f3
    have hrk := hpt t hts htk r (V.tgt_root hr)
    have er := hnew r
    rw [if_neg hrs, if_neg hrk] at er
    exact ⟨u, v, y, f1, f2, by rw [et, er]; exact f3, f4, by rw [et]; simp only [if_neg hrs, if_neg hrk]; exact f5⟩
end Go.Proofs.Ytepeoiimdefnpaa.Vm
namespace Go.Proofs.Ytepeoiimdefnpaa.Vm
open Go
section
variable {P : Program} {C : Ctx} {T T' : St} {a : Act} {w : World} {S : Foot} {F : Nat → Foot} {loc : Nat → Addr} {rd : List Nat} {o : Oper} {d : Nat}
/-- A laid out box, as a value. -/
theorem SimB.obx_at (h : SimB C T a w S F loc) {k m : Nat} (hk : C.nt ≤ k) (hb : ∀ j, j < m → C.base (k + j) = k) (hpos : 0 < m) (hp : ∀ j, j < m → (T.at (k + j)).plainB = true ∧ (T.at (k + j)).shr = true) (B : Foot) :
    Hold w S B (fun b o => ∃ j, j < m ∧ F (k + j) b o) (.pointer (some (loc k))) (.obx (cellsAt T k m)) := by
  have hcellk : ∀ j, j < m → F (k + j) (loc (k + j)).block (loc (k + j)).off ∧ w.frozen? (loc (k + j)) = false ∧ (∃ u, w.cell? (loc (k + j)) = some u ∧ u.oneCell' = true) ∧ loc (k + j) = ⟨(loc k).block, (loc k).off + j, none⟩ := fun j hj => by
    obtain ⟨e1, e2, e3, e4⟩ := h.cells (k + j) (by omega) (V.plainB_of (hp j hj).1).1
    refine ⟨e1, e2, e3, ?_⟩
    rw [e4, hb j hj]
    congr 2
    omega
  have hk0 := (hcellk 0 hpos).2.2.2
  simp only [Nat.add_zero] at hk0
  have hval : ∀ j, j < m → ∃ u, w.cell? (loc (k + j)) = some u ∧ Hold w S C.B (inner C (F (k + j)) loc (k + j)) u (T.at (k + j)) ∧ u.oneCell' = true := fun j hj => by
    obtain ⟨p1, p2, p3⟩ := V.plainB_of (hp j hj).1
    exact at_cell h (by omega) rfl p1 p2 p3
  rw [hk0]
  refine .obx _ _ _ (loc k).block (loc k).off (fun j => (w.cell? (loc (k + j))).getD undef) (fun j b o => j < m ∧ inner C (F (k + j)) loc (k + j) b o) ⟨fun j b o hj => ⟨j, hj.1, hj.2.1⟩, fun i j hij b o h1 h2 => h.apart (k + i) (k + j) (by omega) b o h1.2.1 h2.2.1⟩ (fun j hj => ?_) (fun j' j hj hjj => ?_) (fun j c hc' => ?_) fun j c hc' => ?_
  · simp only [cellsAt, List.length_map, List.length_range] at hj
    obtain ⟨c1, _, _, c4⟩ := hcellk j hj
    rw [c4] at c1
    exact ⟨j, hj, c1⟩
  · simp only [cellsAt, List.length_map, List.length_range] at hj
    obtain ⟨c1, _, _, c4⟩ := hcellk j hj
    rw [c4] at c1
    by_cases hji : j' = j
    · subst hji
      exact hjj.2.2 ⟨by omega, by rw [c4], by rw [c4]⟩
    · exact h.apart (k + j') (k + j) (by omega) _ _ hjj.2.1 c1
  · have hj : j < m := by have := (List.getElem?_eq_some_iff.1 hc').1; simpa [cellsAt] using this
    obtain ⟨_, c2, _, c4⟩ := hcellk j hj
    obtain ⟨u, u1, _, u3⟩ := hval j hj
    rw [c4] at c2 u1
    rw [c4, u1]
    exact ⟨rfl, c2, u3⟩
  · have hj : j < m := by have := (List.getElem?_eq_some_iff.1 hc').1; simpa [cellsAt] using this
    simp [cellsAt, hj] at hc'
    subst hc'
    obtain ⟨u, u1, u2, _⟩ := hval j hj
    rw [u1]
    exact (u2.unborrow (hp j hj).2).mono (fun _ _ h => h) (fun _ _ h => h) fun b o hb => ⟨hj, hb⟩
/-- A call by contract whose first argument is a box that it may write in. -/
theorem exec_call_lent (f : FuncId) (ys : Array Operand) (ats : Array TypeId) (t k m : Nat) (yr : List Operand) (xs : List V) (ss : List (List Nat)) (cs' : List V) (outs : List V) (res : V) (hop : o.op = .call { callee := .value (.func f), args := ys, argTypes := ats }) (hf : goesTo P f)
    (hy : ys.toList = .tmp t :: yr) (htr : t ∈ rd) (htn : t < C.nt) (hx : T.at t = .at_ k) (hd : o.dst = some d) (hdn : d < C.nt) (hdl : d < T.length) (hdp : C.pin d = none)
    (hk : C.nt ≤ k) (hkl : k + m ≤ T.length) (hb : ∀ j, j < m → C.base (k + j) = k) (hpos : 0 < m) (hkr : ∀ j, j < m → k + j ∈ rd) (hp : ∀ j, j < m → (T.at (k + j)).plainB = true ∧ (T.at (k + j)).shr = true) (hlen : cs'.length = m)
    (hc : VC P f (.obx (cellsAt T k m) :: xs) (.obx cs' :: outs) res) (hrs : res.shrD = true) (ha : argsV C T rd ((List.range m).map (k + ·) ++ ss.flatten) ((List.range m).map (k + ·)) yr xs ss) (hsl : ∀ s, s ∈ ss.flatten → s < T.length ∧ s ≠ d ∧ ¬ (k ≤ s ∧ s < k + m)) :
    Exec P C o rd T (deads ss.flatten ++ stores k cs' ++ [(d, false, res)]) := by
  intro T' a w hsm ⟨S, F, loc, h⟩ Q K hK
  have hTl := hsm.1
  have hatT : ∀ j, j < m → T'.at (k + j) = T.at (k + j) := fun j hj => hsm.at_ (hkr j hj)
  have hcsT : cellsAt T' k m = cellsAt T k m := List.map_congr_left fun j hj => hatT j (by simpa using hj)
  have hp' : ∀ j, j < m → (T'.at (k + j)).plainB = true ∧ (T'.at (k + j)).shr = true := fun j hj => by rw [hatT j hj]; exact hp j hj
  have hbox := h.obx_at hk hb hpos hp' (reads C S F loc ((List.range m).map (k + ·) ++ ss.flatten))
  rw [hcsT] at hbox
  have hgmem : ∀ s, s ∈ (List.range m).map (k + ·) ↔ k ≤ s ∧ s < k + m := fun s => by
    simp only [List.mem_map, List.mem_range]
    exact ⟨fun ⟨j, hj, e⟩ => by omega, fun e => ⟨s - k, by omega, by omega⟩⟩
  obtain ⟨hl, G, g1, g2, g3, g4⟩ := argsV_get hsm h yr xs ss _ ha
  have g2' : ∀ i b o, G i b o → ∃ s, s ∈ ss.flatten ∧ inner C (F s) loc s b o := fun i b o' hi => by
    obtain ⟨s, q1, q2, q3⟩ := g2 i b o' hi
    exact ⟨s, (List.mem_append.1 q1).resolve_left q2, q3⟩
  have hvt : a.eval (.tmp t) = .pointer (some (loc k)) := by
    have hs := h.slot t
    rw [(hsm.at_ htr).trans hx] at hs
    exact conc_eval htn hs.1
  have hgs : ∀ s, s ∈ ss.flatten → ¬ (k ≤ s ∧ s < k + m) := fun s hs => (hsl s hs).2.2
  -- what the call may write
  have hG : ∀ i b o, (match i with | 0 => (fun b o => ∃ j, j < m ∧ F (k + j) b o : Foot) | i + 1 => G i) b o → ∃ s, (s ∈ ss.flatten ∧ inner C (F s) loc s b o) ∨ ((k ≤ s ∧ s < k + m) ∧ F s b o) := fun i b o' hi => by
    cases i with
    | zero => obtain ⟨j, hj, hi⟩ := hi; exact ⟨k + j, .inr ⟨by omega, hi⟩⟩
    | succ i => obtain ⟨s, q1, q2⟩ := g2' i b o' hi; exact ⟨s, .inl ⟨q1, q2⟩⟩
  have hargs : ArgsOk w S (reads C S F loc ((List.range m).map (k + ·) ++ ss.flatten)) (fun i => match i with | 0 => (fun b o => ∃ j, j < m ∧ F (k + j) b o) | i + 1 => G i) (ys.toList.map a.eval) (.obx (cellsAt T k m) :: xs) := by
    rw [hy]
    refine ⟨by simp [hl], fun i v x hv hx' => ?_, fun i j hij b o' hi hj => ?_, fun i b o' hi => ?_, fun b o' hr => ?_⟩
    · cases i with
      | zero =>
        simp at hv hx'
        subst hv hx'
        rw [hvt]
        exact hbox
      | succ i =>
        simp only [List.map_cons, List.getElem?_cons_succ, List.getElem?_map, Option.map_eq_some_iff] at hv hx'
        obtain ⟨y, hy', rfl⟩ := hv
        exact g3 i y x hy' hx'
    · cases i with
      | zero =>
        cases j with
        | zero => exact hij rfl
        | succ j =>
          obtain ⟨q, hq, hi⟩ := hi
          obtain ⟨s, q1, q2⟩ := g2' j b o' hj
          exact h.apart (k + q) s (fun e => hgs s q1 (by omega)) b o' hi q2.1
      | succ i =>
        cases j with
        | zero =>
          obtain ⟨q, hq, hj⟩ := hj
          obtain ⟨s, q1, q2⟩ := g2' i b o' hi
          exact h.apart (k + q) s (fun e => hgs s q1 (by omega)) b o' hj q2.1
        | succ j => exact g1 i j (by omega) b o' hi hj
    · obtain ⟨s, hs⟩ := hG i b o' hi
      have hF : F s b o' := hs.elim (fun e => e.2.1) (fun e => e.2)
      have hall : s ∈ (List.range m).map (k + ·) ++ ss.flatten := List.mem_append.2 (hs.elim (fun e => .inr e.1) (fun e => .inl ((hgmem s).2 e.1)))
      obtain ⟨m1, m2, m3, _⟩ := h.mine s b o' hF
      refine ⟨m1, fun hB => ?_, m3⟩
      rcases hB with hB | hB | ⟨r, hr, hB⟩
      · exact m1 hB
      · exact m2 hB
      · exact h.apart r s (fun e => hr (e ▸ hall)) b o' hB hF
    · rcases hr with hr | hr | hr | ⟨r, _, hr⟩
      · exact h.stay b o' (.inl hr)
      · exact h.stay b o' (.inl hr)
      · exact h.stay b o' (.inr hr)
      · exact (h.mine r b o' hr).2.2.1
  unfold Oper.wp
  rw [call_run hop hf, Oper.upon_enter]
  have hcall := hc w S _ _ (ys.toList.map a.eval) hargs
  have hys : (ys.toList.map a.eval).toArray = ys.map a.eval := by rw [← List.map_toArray, Array.toArray_toList]
  rw [hys] at hcall
  refine Calls.mono hcall fun e w' ⟨v, he, hd'⟩ => ?_
  subst he
  obtain ⟨⟨S', F', FR, d1, d2, d3, d4, d5, d6, d7⟩, dm⟩ := hd'
  show K (a.put o.dst v) w'
  rw [hd]
  refine hK _ _ ?_
  have hout := d2 0 (.pointer (some (loc k))) (.obx cs') (by rw [hy]; simp [hvt]) rfl
  generalize hpv : (Value.pointer (some (loc k))) = pv at hout
  cases hout with
  | obx _ _ _ b o' U G' hs' hF' hG' hc' hi' =>
  injection hpv with hpv
  injection hpv with hpv
  have hcellk : ∀ s, (k ≤ s ∧ s < k + m) → F s (loc s).block (loc s).off ∧ loc s = ⟨b, o' + (s - k), none⟩ ∧ loc s = ⟨(loc (C.base s)).block, (loc (C.base s)).off + (s - C.base s), none⟩ := fun s hs => by
    have e0 : k + (s - k) = s := by omega
    obtain ⟨e1, e2, e3, e4⟩ := h.cells s (by omega) (by rw [← e0]; exact (V.plainB_of (hp' (s - k) (by omega)).1).1)
    refine ⟨e1, ?_, e4⟩
    have hbs := hb (s - k) (by omega)
    rw [e0] at hbs
    rw [e4, hbs, hpv]
  have hres := hold_plain d1
  have hW : ∀ s, s ∈ (deads ss.flatten ++ stores k cs' ++ [(d, false, res)]).map (·.1) ↔ s ∈ ss.flatten ∨ (k ≤ s ∧ s < k + m) ∨ s = d := fun s => by
    rw [List.map_append, List.map_append, List.mem_append, List.mem_append, stores_fst, hlen, hgmem]
    have : (deads ss.flatten).map (·.1) = ss.flatten := by simp [deads, Function.comp_def]
    rw [this]
    simp [or_assoc]
  have hdk : ¬ (k ≤ d ∧ d < k + m) := fun e => by omega
  have hatd : (T'.app (deads ss.flatten ++ stores k cs' ++ [(d, false, res)])).at d = res := St.at_last T' _ d false _ (by omega)
  have hatk : ∀ j c, cs'[j]? = some c → (T'.app (deads ss.flatten ++ stores k cs' ++ [(d, false, res)])).at (k + j) = c := fun j c hc => by
    have hj := (List.getElem?_eq_some_iff.1 hc).1
    rw [St.at_mid T' _ _ _ _ _ (by omega : d ≠ k + j), St.app_append]
    exact St.at_stores _ k cs' j c hc (by rw [St.length_app]; omega)
  have hats : ∀ s, s ∈ ss.flatten → (T'.app (deads ss.flatten ++ stores k cs' ++ [(d, false, res)])).at s = .dead := fun s hs => by
    rw [St.at_mid T' _ _ _ _ _ (Ne.symm (hsl s hs).2.1), St.app_append]
    have := St.app_not (T'.app (deads ss.flatten)) (stores k cs') s (by rw [stores_fst]; simp; intro x hx e; exact hgs s hs (by omega))
    have h2 := St.at_deads T' ss.flatten s hs (by have := (hsl s hs).1; omega)
    unfold St.at at h2 ⊢
    rw [this]
    exact h2
  have hnot : ∀ s, s ∉ (deads ss.flatten ++ stores k cs' ++ [(d, false, res)]).map (·.1) → (T'.app (deads ss.flatten ++ stores k cs' ++ [(d, false, res)])).getD s (0, .no) = T'.getD s (0, .no) := fun s hs => St.app_not T' _ s hs
  have hgl : ∀ s, s ∈ (deads ss.flatten ++ stores k cs' ++ [(d, false, res)]).map (·.1) → T'.gen s < St.gen (T'.app (deads ss.flatten ++ stores k cs' ++ [(d, false, res)])) s := fun s hs => by
    rcases (hW s).1 hs with hs | hs | rfl
    · exact St.gen_lt T' _ s (by have := (hsl s hs).1; omega) ⟨.dead, List.mem_append_left _ (List.mem_append_left _ (List.mem_map.2 ⟨s, hs, rfl⟩))⟩
    · obtain ⟨x, hx⟩ := mem_stores k cs' (s - k) (by omega)
      rw [show k + (s - k) = s by omega] at hx
      exact St.gen_lt T' _ _ (by omega) ⟨x, by simp [hx]⟩
    · exact St.gen_lt T' _ _ (by omega) ⟨res, by simp⟩
  have hpl' : ∀ (j : Nat) (c : V), cs'[j]? = some c → c ≠ .no ∧ (∀ i, c ≠ .at_ i) ∧ c.root = none := fun j c hc => hold_plain (hi' j c hc)
  have hget : ∀ j, j < m → ∃ c, cs'[j]? = some c := fun j hj => ⟨_, List.getElem?_eq_getElem (by omega)⟩
  have hgno : ∀ s, (k ≤ s ∧ s < k + m) → T'.at s ≠ .no := fun s hs => by
    have := (V.plainB_of (hp' (s - k) (by omega)).1).1
    rwa [show k + (s - k) = s by omega] at this
  have hatn : ∀ s, T'.at s ≠ .no → (T'.app (deads ss.flatten ++ stores k cs' ++ [(d, false, res)])).at s ≠ .no := fun s hs => by
    by_cases hw : s ∈ (deads ss.flatten ++ stores k cs' ++ [(d, false, res)]).map (·.1)
    · rcases (hW s).1 hw with hw | hw | rfl
      · rw [hats s hw]; simp
      · obtain ⟨c, hc⟩ := hget (s - k) (by omega)
        have := hatk _ c hc
        rw [show k + (s - k) = s by omega] at this
        rw [this]
        exact (hpl' _ c hc).1
      · rw [hatd]; exact hres.1
    · have := hnot s hw
      unfold St.at
      rw [this]
      exact hs
  -- others' cells aren't written
  have hkeep : ∀ b o, b < w.heap.size → (∀ s, s ∈ ss.flatten → ¬ inner C (F s) loc s b o) → (∀ s, (k ≤ s ∧ s < k + m) → ¬ F s b o) → b < w.heap.size ∧ ∀ i, ¬ (match i with | 0 => (fun b o => ∃ j, j < m ∧ F (k + j) b o : Foot) | i + 1 => G i) b o := fun b o hb h1 h2 => ⟨hb, fun i hi => by
    obtain ⟨s, hs | hs⟩ := hG i b o hi
    · exact h1 s hs.1 hs.2
    · exact h2 s hs.1 hs.2⟩
  have hcsame : ∀ s, s ∈ ss.flatten → C.nt ≤ s → F s (loc s).block (loc s).off ∧ w'.frozen? (loc s) = false ∧ (∃ u, w'.cell? (loc s) = some u ∧ u.oneCell' = true) ∧ loc s = ⟨(loc (C.base s)).block, (loc (C.base s)).off + (s - C.base s), none⟩ := fun s hs hn => by
    obtain ⟨e1, e2, ⟨u, e3, e3'⟩, e4⟩ := h.cells s hn (g4 s hs)
    have := hkeep (loc s).block (loc s).off (h.mine s _ _ e1).2.2.1 (fun t' ht hi => by
      by_cases hst : s = t'
      · subst hst; exact hi.2 ⟨hn, rfl, rfl⟩
      · exact h.apart s t' hst _ _ e1 hi.1) fun t' ht hi => h.apart s t' (fun e => hgs s hs (by rw [e]; exact ht)) _ _ e1 hi
    have hl4 : (⟨(loc s).block, (loc s).off, none⟩ : Addr) = loc s := by rw [e4]
    have c1 := dm.keep.cell _ _ this
    have c2 := dm.keep.frozen _ _ this
    rw [hl4] at c1 c2
    exact ⟨e1, c2.trans e2, ⟨u, c1.trans e3, e3'⟩, e4⟩
  have hmine : ∀ s b o, F s b o → C.w0.heap.size ≤ b ∨ C.may b o := fun s b o hf => (h.mine s b o hf).2.2.2
  -- what the slots that are written have now
  have part : ∀ s b1 o1, (if s = d then FR else if s ∈ ss.flatten then (fun b o => C.nt ≤ s ∧ b = (loc s).block ∧ o = (loc s).off) else if k ≤ s ∧ s < k + m then (fun b1 o1 => (b1 = b ∧ o1 = o' + (s - k)) ∨ G' (s - k) b1 o1) else F s : Foot) b1 o1 →
      (s = d ∧ FR b1 o1) ∨ ((k ≤ s ∧ s < k + m) ∧ F' 0 b1 o1 ∧ ((b1 = b ∧ o1 = o' + (s - k)) ∨ G' (s - k) b1 o1)) ∨ (F s b1 o1 ∧ (∀ t, t ∈ ss.flatten → ¬ inner C (F t) loc t b1 o1) ∧ ∀ t, (k ≤ t ∧ t < k + m) → ¬ F t b1 o1) := fun s b1 o1 hb1 => by
    by_cases h0 : s = d
    · rw [if_pos h0] at hb1; exact .inl ⟨h0, hb1⟩
    rw [if_neg h0] at hb1
    by_cases h2 : s ∈ ss.flatten
    · rw [if_pos h2] at hb1
      obtain ⟨hn, rfl, rfl⟩ := hb1
      have e1 := (hcsame s h2 hn).1
      refine .inr (.inr ⟨e1, fun t' ht hi => ?_, fun t' ht hi => h.apart s t' (fun e => hgs s h2 (by rw [e]; exact ht)) _ _ e1 hi⟩)
      by_cases hst : s = t'
      · subst hst; exact hi.2 ⟨hn, rfl, rfl⟩
      · exact h.apart s t' hst _ _ e1 hi.1
    · rw [if_neg h2] at hb1
      by_cases h3 : k ≤ s ∧ s < k + m
      · rw [if_pos h3] at hb1
        refine .inr (.inl ⟨h3, ?_, hb1⟩)
        rcases hb1 with ⟨rfl, rfl⟩ | hb1
        · exact hF' (s - k) (by omega)
        · exact hs'.sub _ _ _ hb1
      · rw [if_neg h3] at hb1
        exact .inr (.inr ⟨hb1, fun t' ht hi => h.apart s t' (fun e => h2 (e ▸ ht)) _ _ hb1 hi.1, fun t' ht hi => h.apart s t' (fun e => h3 (e ▸ ht)) _ _ hb1 hi⟩)
  -- what's new isn't what others have
  have hnewold : ∀ b1 o1, (FR b1 o1 ∨ ∃ i, F' i b1 o1) → ∀ s, F s b1 o1 → (∀ t, t ∈ ss.flatten → ¬ inner C (F t) loc t b1 o1) → (∀ t, (k ≤ t ∧ t < k + m) → ¬ F t b1 o1) → False := fun b1 o1 hn s hf h1 h2 => by
    rcases (d7 b1 o1 hn).2 with ⟨i, hi⟩ | ⟨h3, _⟩
    · obtain ⟨s', hs | hs⟩ := hG i b1 o1 hi
      · exact h1 s' hs.1 hs.2
      · exact h2 s' hs.1 hs.2
    · have := (h.mine s b1 o1 hf).2.2.1
      omega
  refine ⟨S', fun s => if s = d then FR else if s ∈ ss.flatten then (fun b o => C.nt ≤ s ∧ b = (loc s).block ∧ o = (loc s).off) else if k ≤ s ∧ s < k + m then (fun b1 o1 => (b1 = b ∧ o1 = o' + (s - k)) ∨ G' (s - k) b1 o1) else F s, loc,
    h.upd ((deads ss.flatten ++ stores k cs' ++ [(d, false, res)]).map (·.1)) hnot (by simp [Act.put]) (by simpa [Act.put] using h.defers) (fun s v' hv => by
      rw [put_get (fun e => by rw [← e, hdp] at hv; cases hv)]
      exact h.pins s v' hv) ⟨dm.os, dm.tape, dm.output, dm.size, dm.keep.mono fun b1 o1 hb1 => hkeep b1 o1 hb1.1 (fun s hs hi => ?_) fun s hs hi => ?_⟩ d3 (fun b1 o1 hb1 => (d4 b1 o1 hb1).imp id (Or.imp id fun ⟨i, hi⟩ => by
        obtain ⟨s, hs | hs⟩ := hG i b1 o1 hi
        · exact ⟨s, (hW s).2 (.inl hs.1), hs.2.1⟩
        · exact ⟨s, (hW s).2 (.inr (.inl hs.1)), hs.2⟩)) (fun s hs => ?_) (fun s hs => ⟨rfl, hatn s hs⟩) (fun _ _ _ _ => rfl) (fun s hs _ => put_get fun e => hs ((hW s).2 (.inr (.inr e.symm))))
    (fun r hr he _ => absurd he (by have := hgl r hr; omega)) (fun r hr => Nat.le_of_lt (hgl r hr)) (fun s t' hs hst b1 o1 hb1 hb1' => ?_) (fun s hs b1 o1 hb1 => ?_) (fun s hs r g hr => ?_) (fun s hs => ?_) (fun s hs hns hx' => ?_) (h.nodeep hnot hgl fun s hs => ?_)⟩
  · have hF := hi.1
    obtain ⟨m1, m2, _, m4⟩ := h.mine s b1 o1 hF
    rcases hb1.2 with q | q | ⟨t', ht, q⟩ | ⟨q, q'⟩
    · exact m1 q
    · exact m2 q
    · exact h.apart t' s (fun e => ht (by rw [e]; exact (hW s).2 (.inl hs))) _ _ q hF
    · rcases m4 with m4 | m4
      · omega
      · exact q' m4
  · obtain ⟨m1, m2, _, m4⟩ := h.mine s b1 o1 hi
    rcases hb1.2 with q | q | ⟨t', ht, q⟩ | ⟨q, q'⟩
    · exact m1 q
    · exact m2 q
    · exact h.apart t' s (fun e => ht (by rw [e]; exact (hW s).2 (.inr (.inl hs)))) _ _ q hi
    · rcases m4 with m4 | m4
      · omega
      · exact q' m4
  · have hs' := fun hh => hs ((hW s).2 hh)
    have e1 : s ≠ d := fun e => hs' (.inr (.inr e))
    have e2 : s ∉ ss.flatten := fun e => hs' (.inl e)
    have e3 : ¬ (k ≤ s ∧ s < k + m) := fun e => hs' (.inr (.inl e))
    simp [e1, e2, e3]
  · rcases part s b1 o1 hb1 with ⟨p1, p2⟩ | ⟨p1, p2, p3⟩ | ⟨p1, p2, p3⟩ <;> rcases part t' b1 o1 hb1' with ⟨q1, q2⟩ | ⟨q1, q2, q3⟩ | ⟨q1, q2, q3⟩
    · exact hst (p1.trans q1.symm)
    · exact d6 0 b1 o1 p2 q2
    · exact hnewold b1 o1 (.inl p2) t' q1 q2 q3
    · exact d6 0 b1 o1 q2 p2
    · rcases p3 with ⟨rfl, rfl⟩ | p3 <;> rcases q3 with ⟨e1, e2⟩ | q3
      · omega
      · exact hG' _ (s - k) (by omega) q3
      · subst e1 e2
        exact hG' _ (t' - k) (by omega) p3
      · exact hs'.apart (s - k) (t' - k) (by omega) _ _ p3 q3
    · exact hnewold b1 o1 (.inr ⟨0, p2⟩) t' q1 q2 q3
    · exact hnewold b1 o1 (.inl q2) s p1 p2 p3
    · exact hnewold b1 o1 (.inr ⟨0, q2⟩) s p1 p2 p3
    · exact h.apart s t' hst b1 o1 p1 q1
  · have hnew : (FR b1 o1 ∨ ∃ i, F' i b1 o1) → ¬ S' b1 o1 ∧ ¬ C.B b1 o1 ∧ b1 < w'.heap.size ∧ (C.w0.heap.size ≤ b1 ∨ C.may b1 o1) := fun hn => by
      obtain ⟨n1, n2⟩ := d7 b1 o1 hn
      rcases n2 with ⟨i, hi⟩ | ⟨n2, n3⟩
      · obtain ⟨s', hs⟩ := hG i b1 o1 hi
        obtain ⟨m1, m2, m3, m4⟩ := h.mine s' b1 o1 (hs.elim (fun e => e.2.1) (fun e => e.2))
        exact ⟨n1, m2, Nat.lt_of_lt_of_le m3 dm.size, m4⟩
      · exact ⟨n1, fun hB => by have := h.stay b1 o1 (.inr hB); omega, n3, .inl (Nat.le_trans h.world.size n2)⟩
    rcases part s b1 o1 hb1 with ⟨p1, p2⟩ | ⟨p1, p2, p3⟩ | ⟨p1, p2, p3⟩
    · exact hnew (.inl p2)
    · exact hnew (.inr ⟨0, p2⟩)
    · obtain ⟨m1, m2, m3, m4⟩ := h.mine s b1 o1 p1
      refine ⟨fun hS => ?_, m2, Nat.lt_of_lt_of_le m3 dm.size, m4⟩
      rcases d4 b1 o1 hS with hS | hS | ⟨i, hi⟩
      · exact m1 hS
      · omega
      · obtain ⟨s', hs | hs⟩ := hG i b1 o1 hi
        · exact p2 s' hs.1 hs.2
        · exact p3 s' hs.1 hs.2
  · rcases (hW s).1 hs with hs | hs | rfl
    · rw [hats s hs] at hr; simp [V.root] at hr
    · obtain ⟨c, hc⟩ := hget (s - k) (by omega)
      have := hatk _ c hc
      rw [show k + (s - k) = s by omega] at this
      rw [this, (hpl' _ c hc).2.2] at hr
      simp at hr
    · rw [hatd, hres.2.2] at hr; cases hr
  · rcases (hW s).1 hs with hs | hs | rfl
    · rw [hats s hs]
      have hv : ∃ v1, conc C (a.put (some d) v) w' loc s = some v1 := by
        unfold conc
        split
        · rename_i hlt
          rw [put_get (Ne.symm (hsl s hs).2.1)]
          exact ⟨_, Array.getElem?_eq_getElem (by rw [h.size]; exact hlt)⟩
        · obtain ⟨_, _, ⟨u, hu, _⟩, _⟩ := hcsame s hs (by omega)
          exact ⟨u, hu⟩
      obtain ⟨v1, hv1⟩ := hv
      exact SlotOk.plain ⟨v1, hv1, .dead ..⟩
    · obtain ⟨j, rfl⟩ : ∃ j, s = k + j := ⟨s - k, by omega⟩
      have hj : j < m := by omega
      obtain ⟨c, hc⟩ := hget j hj
      obtain ⟨e1, e2, e3⟩ := hc' j c hc
      have hlk := (hcellk (k + j) hs).2.1
      rw [show k + j - k = j by omega] at hlk
      rw [hatk j c hc]
      refine SlotOk.plain ⟨U j, ?_, ?_⟩
      · unfold conc
        rw [if_neg (by omega), hlk]
        exact e1
      · refine (hi' j c hc).mono (fun _ _ h => h) (fun _ _ h => h.elim) fun b1 o1 hg => ⟨?_, fun hcl => ?_⟩
        · rw [if_neg (by omega), if_neg (fun e => hgs _ e hs), if_pos hs]
          exact .inr (by rw [show k + j - k = j by omega]; exact hg)
        · rw [hlk] at hcl
          obtain ⟨_, rfl, rfl⟩ := hcl
          exact hG' j j (by omega) hg
    · rw [hatd]
      refine SlotOk.plain ⟨v, ?_, (d1.unborrowD hrs).mono (fun _ _ h => h) (fun _ _ h => h.elim) fun b1 o1 hb1 => ⟨?_, fun e => by have := e.1; omega⟩⟩
      · unfold conc
        rw [if_pos hdn]
        exact put_self (by rw [h.size]; exact hdn)
      · simpa using hb1
  · rcases (hW s).1 hs with hs | hs | rfl
    · obtain ⟨e1, e2, e3, e4⟩ := hcsame s hs hns
      exact ⟨by rw [if_neg (hsl s hs).2.1, if_pos hs]; exact ⟨hns, rfl, rfl⟩, e2, e3, e4⟩
    · obtain ⟨c, hc⟩ := hget (s - k) (by omega)
      obtain ⟨e1, e2, e3⟩ := hc' _ c hc
      obtain ⟨_, l1, l2⟩ := hcellk s hs
      refine ⟨?_, by rw [l1]; exact e2, ⟨U (s - k), by rw [l1]; exact e1, e3⟩, l2⟩
      rw [if_neg (by omega), if_neg (fun e => hgs _ e hs), if_pos hs, l1]
      exact .inl ⟨rfl, rfl⟩
    · omega
  · rcases (hW s).1 hs with hs | hs | rfl
    · rw [hats s hs]; rfl
    · obtain ⟨c, hc⟩ := hget (s - k) (by omega)
      have := hatk _ c hc
      rw [show k + (s - k) = s by omega] at this
      rw [this]
      exact V.not_deep (hpl' _ c hc).2.2
    · rw [hatd]; exact V.not_deep hres.2.2
end
end Go.Proofs.Ytepeoiimdefnpaa.Vm
namespace Go.Proofs.Ytepeoiimdefnpaa.Vm
open Go
/-- The slots of ls stay as they are: what they have. -/
def pinL (ls : List Nat) (u : Nat → Value) : Nat → Option Value := fun s => if ls.contains s then some (u s) else none
theorem Sim.pin {N : Nat} {g : List (Nat × Nat)} {w0 : World} {S B may : Foot} {T : St} {a : Act} {w : World} {pin : Nat → Option Value} (h : Sim (mkC N g noPin w0 S B may) T a w) (hp : ∀ s v, pin s = some v → a.tmps[s]? = some v) : Sim (mkC N g pin w0 S B may) T a w := by
  obtain ⟨S', F, loc, h⟩ := h
  exact ⟨S', F, loc, h.size, h.defers, hp, ⟨h.world.os, h.world.tape, h.world.output, h.world.size, h.world.keep⟩, h.sub, h.from_, h.stay, h.apart, h.mine, h.ages, h.slot, h.cells, h.deep⟩
/-- How the walk of a function that is lent boxes must end: outs: what they have, then (others: dead). -/
def EndsL (P : Program) (C : Ctx) (rs : List ResultVar) (xs : List V) (ls : List Nat) (outs : List V) : Exit → St → Prop := fun e T => (e = .normal ∨ e = .ret) ∧ ∃ T', Weak C T T' ∧ ∃ ss, rets P C T' [] rs xs ss ∧
  ∀ i x, outs[i]? = some x → x = .dead ∨ (ls.contains i = true ∧ i < C.nt ∧ (∃ cs, x = .obx cs) ∧ T'.at i = x ∧ i ∉ ss.flatten)
theorem vc_lent {P : Program} {f : FuncId} {fn : Func} {c : Code} {N n : Nat} {g : List (Nat × Nat)} {rs : List ResultVar} {args outs xs : List V} (ls : List Nat) (hf : P.funcs[f]? = some fn) (hb : fn.body = some c) (hN : fn.ntmps = N) (hrs : fn.results = rs.toArray) (ha : args.length ≤ N) (hn : N ≤ n) (hls : ls.all (· < args.length) = true)
    (H : ∀ w S B may u, VW P (mkC N g (pinL ls u) w S B may) c (mkT n N (entries 0 args)) (EndsL P (mkC N g (pinL ls u) w S B may) rs xs ls outs)) : VC P f args outs (resV xs) := by
  intro w S B F vs hargs
  refine calls_of_wp hf hb ?_
  have hlen := hargs.len
  have hpin : ∀ s v, pinL ls (fun s => vs.getD s undef) s = some v → (vs.toArray ++ Array.replicate (N - vs.toArray.size) undef)[s]? = some v := fun s v hv => by
    unfold pinL at hv
    split at hv
    · rename_i hs
      injection hv with hv
      have hsl := List.all_eq_true.1 hls s (by simpa using hs)
      simp only [decide_eq_true_eq] at hsl
      rw [Array.getElem?_append_left (by simp; omega), ← hv]
      simp [List.getD_eq_getElem?_getD, List.getElem?_eq_getElem (by omega : s < vs.length)]
    · cases hv
  have h0 := H w S B (fun b o => ∃ i, F i b o) (fun s => vs.getD s undef) _ w ((sim_start (g := g) (n := n) (N := N) hargs ha hn).pin hpin)
  rw [hN]
  refine wp_mono h0 fun e a' w' ⟨T0, ⟨he, T', hw, ss, hr, ho⟩, hsim0⟩ => ?_
  obtain ⟨S', F', loc, hsim⟩ := hw _ _ hsim0
  obtain ⟨v, h1, h2⟩ := results_run hsim hrs hr
  have key : a'.defers = [] ∧ ∃ v, (results fn a'.tmps).run P w' = .ok v w' ∧ ∃ u, Ending.returned v = .returned u ∧ Done w w' S B F vs outs u (resV xs) := by
    refine ⟨hsim.defers, v, h1, v, rfl, ⟨S', fun i b o => i ∉ ss.flatten ∧ inner (mkC N g (pinL ls fun s => vs.getD s undef) w S B fun b o => ∃ i, F i b o) (F' i) loc i b o, _, h2, fun i v' x hv hx => ?_, hsim.sub, fun b o hb => ?_, fun i j hij b o hi hj => hsim.apart i j hij b o hi.2.1 hj.2.1, fun i b o hb hi => ?_, fun b o hb => ?_⟩, ⟨hsim.world.os, hsim.world.tape, hsim.world.output, hsim.world.size, hsim.world.keep.mono fun b o hb => ⟨hb.1, fun ⟨i, hi⟩ => hb.2 i hi⟩⟩⟩
    · rcases ho i x hx with rfl | ⟨q1, q2, ⟨cs, rfl⟩, q3, q4⟩
      · exact .dead ..
      · have hs := hsim.slot i
        rw [q3] at hs
        obtain ⟨v1, e1, e2⟩ := hs.held (by simp) (fun _ => by simp) rfl
        have hp := hsim.pins i (vs.getD i undef) (by simp only [mkC, pinL]; rw [if_pos q1])
        unfold conc at e1
        rw [if_pos q2, hp] at e1
        injection e1 with e1
        rw [List.getD_eq_getElem?_getD, hv, Option.getD_some] at e1
        subst e1
        exact e2.mono (fun _ _ h => h) (fun _ _ h => h) fun b o hb => ⟨q4, hb⟩
    · rcases hsim.from_ b o hb with h3 | h3 | h3
      · exact .inl h3
      · exact .inr (.inl ⟨h3, hsim.stay b o (.inl hb)⟩)
      · exact .inr (.inr h3)
    · obtain ⟨s, hs, hb⟩ := hb
      exact hsim.apart s i (fun e => hi.1 (e ▸ hs)) b o hb.1 hi.2.1
    · have hF : ∃ s, F' s b o := by
        rcases hb with ⟨s, _, hi⟩ | ⟨s, _, hi⟩
        · exact ⟨s, hi.1⟩
        · exact ⟨s, hi.1⟩
      obtain ⟨s, hs⟩ := hF
      obtain ⟨h3, _, h4, h5⟩ := hsim.mine s b o hs
      rcases h5 with h5 | h5
      · exact ⟨h3, .inr ⟨h5, h4⟩⟩
      · exact ⟨h3, .inl h5⟩
  rcases he with rfl | rfl
  · exact key
  · exact key
end Go.Proofs.Ytepeoiimdefnpaa.Vm
namespace Go.Proofs.Ytepeoiimdefnpaa.Vm
open Go
section
variable {P : Program} {C : Ctx} {T T' : St} {a : Act} {w : World} {S : Foot} {F : Nat → Foot} {loc : Nat → Addr} {rd : List Nat} {o : Oper} {d : Nat}
/-- An operand that no memory is in. -/
def opnd (C : Ctx) (T : St) (rd : List Nat) : Operand → Value → Prop
  | .tmp t, v => t ∈ rd ∧ t < C.nt ∧ (T.at t).val = some v
  | .const u, v => u = v
  | .func f, v => .func (.func f) #[] #[] = v
  | .global _, _ => False
theorem opnd_eval {y : Operand} {v : Value} (h : opnd C T rd y v) (hs : Same T T' rd) (hsim : SimB C T' a w S F loc) : a.eval y = v := by
  cases y with
  | tmp t => exact hsim.value t h.2.1 (by rw [hs.at_ h.1]; exact h.2.2)
  | const u => exact h
  | func f => exact h
  | global g => exact h.elim
theorem exec_bin {op : BinOp} {xt yt : TypeId} {x y : Operand} {vx vy v : Value} (hop : o.op = .binOp op xt x y yt) (hd : o.dst = some d) (hdn : d < C.nt) (hdl : d < T.length) (hdp : C.pin d = none) (hx : opnd C T rd x vx) (hy : opnd C T rd y vy)
    (hr : ∀ w, (do eqGuard op xt x y vx vy; binOp op xt vx vy : Sem Value).run P w = .ok v w) : Exec P C o rd T [(d, false, .sc v)] :=
  exec_free (.sc v) hd hdn hdl hdp fun T' a w S F loc hs hsim => ⟨v, by
    have h := hr w
    simp only [execOp, hop, opnd_eval hx hs hsim, opnd_eval hy hs hsim]
    rw [Sem.run_bind, h]
    rfl, .sc ..⟩
theorem exec_un {op : UnOp} {t : TypeId} {x : Operand} {vx v : Value} (hop : o.op = .unOp op t x) (hd : o.dst = some d) (hdn : d < C.nt) (hdl : d < T.length) (hdp : C.pin d = none) (hx : opnd C T rd x vx) (hr : ∀ w, (Op.unary op vx).run P w = .ok v w) : Exec P C o rd T [(d, false, .sc v)] :=
  exec_free (.sc v) hd hdn hdl hdp fun T' a w S F loc hs hsim => ⟨v, by
    simp only [execOp, hop, opnd_eval hx hs hsim]
    rw [Sem.run_bind, hr w]
    rfl, .sc ..⟩
theorem exec_conv {st dt : TypeId} {x : Operand} {vx v : Value} (hop : o.op = .convert st dt x) (hd : o.dst = some d) (hdn : d < C.nt) (hdl : d < T.length) (hdp : C.pin d = none) (hx : opnd C T rd x vx) (hr : ∀ w, (convert st dt vx).run P w = .ok v w) : Exec P C o rd T [(d, false, .sc v)] :=
  exec_free (.sc v) hd hdn hdl hdp fun T' a w S F loc hs hsim => ⟨v, by
    simp only [execOp, hop, opnd_eval hx hs hsim]
    rw [Sem.run_bind, hr w]
    rfl, .sc ..⟩
/-- One of two, by a bool: the other need not be known. -/
theorem exec_pick {c x y : Operand} {b : Bool} {v : Value} (hop : o.op = .pick c x y) (hd : o.dst = some d) (hdn : d < C.nt) (hdl : d < T.length) (hdp : C.pin d = none) (hc : opnd C T rd c (.bool b)) (hx : opnd C T rd (if b then x else y) v) : Exec P C o rd T [(d, false, .sc v)] :=
  exec_free (.sc v) hd hdn hdl hdp fun T' a w S F loc hs hsim => ⟨v, by
    have h1 := opnd_eval hx hs hsim
    simp only [execOp, hop, opnd_eval hc hs hsim, asBool, Sem.run_bind, Sem.run_pure, Result.andThen_ok]
    cases b
    · simp only [Bool.false_eq_true, if_false] at h1 ⊢; rw [h1]
    · simp only [if_true] at h1 ⊢; rw [h1], .sc ..⟩
theorem exec_max2 {x y : Operand} {ats : Array TypeId} {k : IntKind} {m n : Int} (hop : o.op = .call { callee := .builtin .max, args := #[x, y], argTypes := ats }) (hd : o.dst = some d) (hdn : d < C.nt) (hdl : d < T.length) (hdp : C.pin d = none) (hx : opnd C T rd x (.int k m)) (hy : opnd C T rd y (.int k n)) : Exec P C o rd T [(d, false, .sc (.int k (if m < n then n else m)))] :=
  exec_free _ hd hdn hdl hdp fun T' a w S F loc hs hsim => ⟨_, by
    have h1 := opnd_eval hx hs hsim
    have h2 := opnd_eval hy hs hsim
    have h : (Builtin.max_ ats o.type #[.int k m, .int k n]) = (pure (.int k (if m < n then n else m)) : Sem Value) := by
      simp only [Builtin.max_, List.foldlM_cons, List.foldlM_nil, Builtin.max2, gt_iff_lt]
      rfl
    simp [execOp, hop, resolve, invoke, builtin, h1, h2, h], .sc ..⟩
theorem exec_min2 {x y : Operand} {ats : Array TypeId} {k : IntKind} {m n : Int} (hop : o.op = .call { callee := .builtin .min, args := #[x, y], argTypes := ats }) (hd : o.dst = some d) (hdn : d < C.nt) (hdl : d < T.length) (hdp : C.pin d = none) (hx : opnd C T rd x (.int k m)) (hy : opnd C T rd y (.int k n)) : Exec P C o rd T [(d, false, .sc (.int k (if n < m then n else m)))] :=
  exec_free _ hd hdn hdl hdp fun T' a w S F loc hs hsim => ⟨_, by
    have h1 := opnd_eval hx hs hsim
    have h2 := opnd_eval hy hs hsim
    have h : (Builtin.min_ ats o.type #[.int k m, .int k n]) = (pure (.int k (if n < m then n else m)) : Sem Value) := by
      simp only [Builtin.min_, List.foldlM_cons, List.foldlM_nil, Builtin.min2]
      rfl
    simp [execOp, hop, resolve, invoke, builtin, h1, h2, h], .sc ..⟩
end
section
variable {P : Program} {xt : TypeId} {x y : Operand} {k : IntKind} {m n : Int}
theorem int_add (w : World) : (do eqGuard .add xt x y (.int k m) (.int k n); binOp .add xt (.int k m) (.int k n) : Sem Value).run P w = .ok (.int k (k.wrap (m + n))) w := by simp [eqGuard, binOp, Op.intArith]
theorem int_sub (w : World) : (do eqGuard .sub xt x y (.int k m) (.int k n); binOp .sub xt (.int k m) (.int k n) : Sem Value).run P w = .ok (.int k (k.wrap (m - n))) w := by simp [eqGuard, binOp, Op.intArith]
theorem int_mul (w : World) : (do eqGuard .mul xt x y (.int k m) (.int k n); binOp .mul xt (.int k m) (.int k n) : Sem Value).run P w = .ok (.int k (k.wrap (m * n))) w := by simp [eqGuard, binOp, Op.intArith]
theorem int_quo (hn : n ≠ 0) (w : World) : (do eqGuard .quo xt x y (.int k m) (.int k n); binOp .quo xt (.int k m) (.int k n) : Sem Value).run P w = .ok (.int k (k.wrap (m.tdiv n))) w := by simp [eqGuard, binOp, Op.intDiv, hn]
theorem int_rem (hn : n ≠ 0) (w : World) : (do eqGuard .rem xt x y (.int k m) (.int k n); binOp .rem xt (.int k m) (.int k n) : Sem Value).run P w = .ok (.int k (m.tmod n)) w := by simp [eqGuard, binOp, Op.intDiv, hn]
theorem int_eql (w : World) : (do eqGuard .eql xt x y (.int k m) (.int k n); binOp .eql xt (.int k m) (.int k n) : Sem Value).run P w = .ok (.bool (decide (m = n))) w := by
  have : (m == n) = decide (m = n) := by by_cases h : m = n <;> simp [h]
  simp [eqGuard, binOp, Op.intCmp, this]
theorem int_neq (w : World) : (do eqGuard .neq xt x y (.int k m) (.int k n); binOp .neq xt (.int k m) (.int k n) : Sem Value).run P w = .ok (.bool (!decide (m = n))) w := by
  have : (m != n) = !decide (m = n) := by by_cases h : m = n <;> simp [h]
  simp [eqGuard, binOp, Op.intCmp, this]
theorem int_lss (w : World) : (do eqGuard .lss xt x y (.int k m) (.int k n); binOp .lss xt (.int k m) (.int k n) : Sem Value).run P w = .ok (.bool (decide (m < n))) w := by simp [eqGuard, binOp, Op.intCmp]
theorem int_leq (w : World) : (do eqGuard .leq xt x y (.int k m) (.int k n); binOp .leq xt (.int k m) (.int k n) : Sem Value).run P w = .ok (.bool (decide (m ≤ n))) w := by simp [eqGuard, binOp, Op.intCmp]
theorem int_gtr (w : World) : (do eqGuard .gtr xt x y (.int k m) (.int k n); binOp .gtr xt (.int k m) (.int k n) : Sem Value).run P w = .ok (.bool (decide (n < m))) w := by simp [eqGuard, binOp, Op.intCmp]
theorem int_geq (w : World) : (do eqGuard .geq xt x y (.int k m) (.int k n); binOp .geq xt (.int k m) (.int k n) : Sem Value).run P w = .ok (.bool (decide (n ≤ m))) w := by simp [eqGuard, binOp, Op.intCmp]
theorem bool_not {b : Bool} (w : World) : (Op.unary .not (.bool b)).run P w = .ok (.bool (!b)) w := by simp [Op.unary]
theorem int_neg (w : World) : (Op.unary .neg (.int k m)).run P w = .ok (.int k (k.wrap (0 - m))) w := by simp [Op.unary, Op.intArith]
theorem str_eql {s t : ByteArray} (w : World) : (do eqGuard .eql xt x y (.string s) (.string t); binOp .eql xt (.string s) (.string t) : Sem Value).run P w = .ok (.bool (s.toList == t.toList)) w := by simp [eqGuard, binOp, Op.stringOp]
theorem str_neq {s t : ByteArray} (w : World) : (do eqGuard .neq xt x y (.string s) (.string t); binOp .neq xt (.string s) (.string t) : Sem Value).run P w = .ok (.bool (!(s.toList == t.toList))) w := by simp [eqGuard, binOp, Op.stringOp]
end
end Go.Proofs.Ytepeoiimdefnpaa.Vm
namespace Go.Proofs.Ytepeoiimdefnpaa.Vm
open Go
section
variable {P : Program} {C : Ctx} {T T' : St} {Q Q' : Exit → St → Prop}
theorem vl_of {c : Code} (R : Nat → St → Prop) (step : ∀ k T, R k T → VW P C c T (andThen (fun T' => ∃ k', k' < k ∧ R k' T') Q)) : ∀ n k T, k < n → R k T → VL P C c n T Q := by
  intro n
  induction n with
  | zero => intro k T hk; omega
  | succ n ih =>
    intro k T hk hR
    refine vl_succ ((step k T hR).mono fun e T' h => ?_)
    cases e with
    | normal => obtain ⟨k', h1, h2⟩ := h; exact ih k' T' (by omega) h2
    | _ => exact h
/-- A loop: R k T: so stands T when k rounds may still come. -/
theorem vw_loop_s {c : Code} (R : Nat → St → Prop) (k : Nat) (h0 : R k T) (step : ∀ k T, R k T → VW P C c T (andThen (fun T' => ∃ k', k' < k ∧ R k' T') Q)) : VW P C (.loop c) T Q := vw_loop (k + 1) (vl_of R step (k + 1) k T (by omega) h0)
/-- Ways that come together. -/
theorem vw_seq_s {x y : Code} (R : St → Prop) (hx : VW P C x T (andThen R Q)) (hy : ∀ T', R T' → VW P C y T' Q) : VW P C (.seq x y) T Q := vw_seq (hx.mono fun e T' h => by
  cases e with
  | normal => exact hy T' h
  | _ => exact h)
end
section
variable {α : Type} {enc enc' : α → List V} {xs : List α} {E sz : Nat} {b : Bool} {z : α}
theorem row_get (enc : α → List V) (xs : List α) (z : α) {j : Nat} (h : j < xs.length) : (xs.map enc)[j]? = some (enc (xs.getD j z)) := by
  rw [List.getElem?_map, List.getElem?_eq_getElem h, List.getD_eq_getElem?_getD, List.getElem?_eq_getElem h]
  rfl
theorem row_geti (enc : α → List V) (xs : List α) (z : α) {i : Int} (h0 : 0 ≤ i) (h : i < (xs.length : Int)) : (xs.map enc)[i.toNat]? = some (enc (xs.getD i.toNat z)) := row_get enc xs z (by omega)
theorem row_len (enc : α → List V) (xs : List α) : (xs.map enc).length = xs.length := List.length_map _
theorem row_set (enc : α → List V) (xs : List α) (j : Nat) (x : α) : (xs.map enc).set j (enc x) = (xs.set j x).map enc := by rw [List.map_set]
theorem row_app (enc : α → List V) (xs ys : List α) : xs.map enc ++ ys.map enc = (xs ++ ys).map enc := (List.map_append).symm
theorem lend_own (h : ∀ x, V.lend.go (enc x) = enc' x) : (V.own E sz (xs.map enc)).lend = .row true sz (xs.map enc') := by
  have : V.lend.go2 (xs.map enc) = xs.map enc' := by
    induction xs with
    | nil => rfl
    | cons x xs ih => simp only [List.map_cons, V.lend.go2, h, ih]
  simp only [V.lend, this]
theorem lend_row (h : ∀ x, V.lend.go (enc x) = enc' x) : (V.row b sz (xs.map enc)).lend = .row true sz (xs.map enc') := by
  have : V.lend.go2 (xs.map enc) = xs.map enc' := by
    induction xs with
    | nil => rfl
    | cons x xs ih => simp only [List.map_cons, V.lend.go2, h, ih]
  simp only [V.lend, this]
theorem lendable_go_rows (h : ∀ x, V.lendable.go (enc x) = true) : V.lendable.go2 (xs.map enc) = true := by
  induction xs with
  | nil => rfl
  | cons x xs ih => simp only [List.map_cons, V.lendable.go2, h, ih, Bool.and_self]
theorem lendable_own (h : ∀ x, V.lendable.go (enc x) = true) : (V.own E sz (xs.map enc)).lendable = true := lendable_go_rows h
theorem lendable_row (h : ∀ x, V.lendable.go (enc x) = true) : (V.row b sz (xs.map enc)).lendable = true := lendable_go_rows h
theorem frz_own (h : ∀ x, V.frz.go (enc x) = enc' x) : (V.own E sz (xs.map enc)).frz = .row false sz (xs.map enc') := by
  have : V.frz.go2 (xs.map enc) = xs.map enc' := by
    induction xs with
    | nil => rfl
    | cons x xs ih => simp only [List.map_cons, V.frz.go2, h, ih]
  simp only [V.frz, this]
theorem freezable_own (h : ∀ x, V.freezable.go (enc x) = true) : (V.own E sz (xs.map enc)).freezable = true := by
  show V.freezable.go2 _ = true
  induction xs with
  | nil => rfl
  | cons x xs ih => simp only [List.map_cons, V.freezable.go2, h, ih, Bool.and_self]
theorem row_sz (h : ∀ x, (enc x).length = sz) : ∀ e, e ∈ xs.map enc → e.length = sz := fun e he => by
  obtain ⟨x, _, rfl⟩ := List.mem_map.1 he
  exact h x
end
theorem lt_of {a b : Nat} (h : Nat.ble (a + 1) b = true) : a < b := Nat.le_of_ble_eq_true h
theorem le_of {a b : Nat} (h : Nat.ble a b = true) : a ≤ b := Nat.le_of_ble_eq_true h
theorem mem_of {a : Nat} {l : List Nat} (h : l.contains a = true) : a ∈ l := List.contains_iff_mem.1 h
theorem Weak.refl {C : Ctx} {T : St} : Weak C T T := fun _ _ h => h
theorem no_some {α : Type} {r : α} (h : (none : Option α) = some r) : False := nomatch h
section
variable {P : Program} {C : Ctx} {T : St} {rd : List Nat} {o : Oper} {d : Nat}
theorem exec_pick_t {c x y : Operand} {b : Bool} {v : Value} (hop : o.op = .pick c x y) (hd : o.dst = some d) (hdn : d < C.nt) (hdl : d < T.length) (hdp : C.pin d = none) (hc : opnd C T rd c (.bool b)) (hb : b = true) (hx : opnd C T rd x v) : Exec P C o rd T [(d, false, .sc v)] := exec_pick (b := true) hop hd hdn hdl hdp (hb ▸ hc) hx
theorem exec_pick_f {c x y : Operand} {b : Bool} {v : Value} (hop : o.op = .pick c x y) (hd : o.dst = some d) (hdn : d < C.nt) (hdl : d < T.length) (hdp : C.pin d = none) (hc : opnd C T rd c (.bool b)) (hb : b = false) (hx : opnd C T rd y v) : Exec P C o rd T [(d, false, .sc v)] := exec_pick (b := false) hop hd hdn hdl hdp (hb ▸ hc) hx
end
section
variable {P : Program} {xt : TypeId} {x y : Operand} {m n : Int}
theorem wr64 (n : Int) : IntKind.i64.wrap n = RowKit.wrap64 n := by unfold RowKit.wrap64; exact IntKind.wrap_i64 n
theorem i64_add (w : World) : (do eqGuard .add xt x y (.int .i64 m) (.int .i64 n); binOp .add xt (.int .i64 m) (.int .i64 n) : Sem Value).run P w = .ok (.int .i64 (RowKit.wrap64 (m + n))) w := by rw [← wr64]; exact int_add w
theorem i64_sub (w : World) : (do eqGuard .sub xt x y (.int .i64 m) (.int .i64 n); binOp .sub xt (.int .i64 m) (.int .i64 n) : Sem Value).run P w = .ok (.int .i64 (RowKit.wrap64 (m - n))) w := by rw [← wr64]; exact int_sub w
theorem i64_mul (w : World) : (do eqGuard .mul xt x y (.int .i64 m) (.int .i64 n); binOp .mul xt (.int .i64 m) (.int .i64 n) : Sem Value).run P w = .ok (.int .i64 (RowKit.wrap64 (m * n))) w := by rw [← wr64]; exact int_mul w
theorem i64_quo (hn : n ≠ 0) (w : World) : (do eqGuard .quo xt x y (.int .i64 m) (.int .i64 n); binOp .quo xt (.int .i64 m) (.int .i64 n) : Sem Value).run P w = .ok (.int .i64 (RowKit.wrap64 (m.tdiv n))) w := by rw [← wr64]; exact int_quo hn w
theorem i64_neg (w : World) : (Op.unary .neg (.int .i64 m)).run P w = .ok (.int .i64 (RowKit.wrap64 (-m))) w := by rw [← wr64, ← Int.zero_sub]; exact int_neg w
end
section
variable {P : Program} {C : Ctx} {T : St} {rd : List Nat} {o : Oper} {d : Nat} {α : Type} {enc : α → List V} {xs : List α}
theorem exec_len_rows {s sz t e : Nat} {b : Bool} (hop : o.op = .call { callee := .builtin .len, args := #[.tmp s], argTypes := #[t] }) (hd : o.dst = some d) (hdn : d < C.nt) (hdl : d < T.length) (hdp : C.pin d = none) (ht : P.underlying t = some (.slice e)) (hs : s < C.nt) (hsr : s ∈ rd) (hx : T.at s = .row b sz (xs.map enc)) : Exec P C o rd T [(d, false, .sc (.int .i64 (xs.length : Int)))] := by
  have := exec_len (P := P) (C := C) (T := T) (rd := rd) (o := o) (d := d) s sz t (xs.map enc) hop hd hdn hdl hdp e ht ⟨hs, hsr, .inl ⟨b, hx⟩⟩
  rwa [row_len] at this
theorem exec_index_rows (z : α) {s sz t e : Nat} {b : Bool} {ix : Operand} {k : IntKind} {n : Int} (hop : o.op = .indexAddr t (.tmp s) ix) (hd : o.dst = some d) (hdn : d < C.nt) (hdl : d < T.length) (hdp : C.pin d = none) (hs : s < C.nt) (hsr : s ∈ rd) (ht : P.underlying t = some (.slice e)) (hsz : (P.info? e).map (·.size) = some sz) (hx : T.at s = .row b sz (xs.map enc)) (hi : opv C T rd (.int k n) ix) (h0 : 0 ≤ n) (h1 : n < (xs.length : Int)) :
    Exec P C o rd T [(d, false, .box b (enc (xs.getD n.toNat z)))] := exec_index_row s sz t e b (xs.map enc) ix k n _ hop hd hdn hdl hdp hs hsr ht hsz hx hi h0 (row_geti enc xs z h0 h1)
end
section
variable {P : Program} {C : Ctx} {T T' : St} {Q : Exit → St → Prop}
theorem weak_l {n : Nat} {l' : List (Nat × V)} (hn : T.length = n) (hs : subT T l') (hp : ptrsOk C.nt l' = true) : Weak C T (mkT n C.nt l') := fun a w h => weak_to hn hs hp a w h
end
theorem of_guard {p : Prop} [Decidable p] {α : Type} {x : Option α} {r : α} (h : (if p then x else none) = some r) : p ∧ x = some r := by
  by_cases hp : p
  · rw [if_pos hp] at h; exact ⟨hp, h⟩
  · rw [if_neg hp] at h; cases h
theorem of_bind {α β : Type} {x : Option α} {f : α → Option β} {r : β} (h : x.bind f = some r) : ∃ y, x = some y ∧ f y = some r := Option.bind_eq_some_iff.1 h
end Go.Proofs.Ytepeoiimdefnpaa.Vm
namespace Go.Proofs.Ytepeoiimdefnpaa.Vm
open Go
theorem not_t {b : Bool} (h : b = true) : (!b) = false := by rw [h]; rfl
theorem not_f {b : Bool} (h : b = false) : (!b) = true := by rw [h]; rfl
def grpOk (g : List (Nat × Nat)) (k n : Nat) : Bool := g.all fun q => (q.1 == k && q.2 == n) || decide (q.1 < k) || decide (k + n ≤ q.1)
def basesOk (C : Ctx) (k b n : Nat) : Bool := (List.range n).all fun j => C.base (k + j) == b
def readsOk (rd : List Nat) (k n : Nat) : Bool := (List.range n).all fun j => rd.contains (k + j)
def thereOk (T : St) (k n : Nat) : Bool := (List.range n).all fun j => !(T.at (k + j)).isNo
def noneOk (T : St) (k n : Nat) : Bool := (List.range n).all fun j => (T.at (k + j)).isNo
theorem isNo_eq {x : V} (h : x.isNo = true) : x = .no := by cases x <;> first | rfl | (simp [V.isNo] at h)
theorem isNo_ne {x : V} (h : (!x.isNo) = true) : x ≠ .no := by rintro rfl; simp [V.isNo] at h
theorem range_all {n : Nat} {p : Nat → Bool} (h : ((List.range n).all p) = true) {j : Nat} (hj : j < n) : p j = true := List.all_eq_true.1 h j (by simpa using hj)
section
variable {P : Program} {T : St} {rd : List Nat} {o : Oper} {d : Nat} {N : Nat} {g : List (Nat × Nat)} {pin : Nat → Option Value} {w0 : World} {S B may : Foot}
theorem grp_of {k n : Nat} (h : grpOk g k n = true) : ∀ s, k ≤ (mkC N g pin w0 S B may).base s → (mkC N g pin w0 S B may).base s < k + n → k ≤ s ∧ s < k + n := fun s h1 h2 => baseOf_in (g := g) (fun q hq => by
  have := List.all_eq_true.1 h q hq
  simp only [Bool.or_eq_true, Bool.and_eq_true, beq_iff_eq, decide_eq_true_eq] at this
  rcases this with (⟨h3, h4⟩ | h3) | h3
  · exact .inl (Prod.ext h3 h4)
  · exact .inr (.inl h3)
  · exact .inr (.inr h3)) h1 h2
theorem exec_box_p (t k m : Nat) (y : Operand) (x : V) (hop : o.op = .box t y) (hd : o.dst = some d) (hdn : d < (mkC N g pin w0 S B may).nt) (hdl : d < T.length) (hdp : (mkC N g pin w0 S B may).pin d = none) (hy : opV (mkC N g pin w0 S B may) T rd x [] y) (hok : x.okc = true) (hm : x.cells.length = m) (hk : N ≤ k) (hkl : k + m ≤ T.length) (hpos : 0 < m)
    (hr : readsOk rd k m = true) (hno : noneOk T k m = true) (hb : basesOk (mkC N g pin w0 S B may) k k m = true) (hg : grpOk g k m = true) : Exec P (mkC N g pin w0 S B may) o rd T (stores k x.cells ++ [(d, false, .at_ k)]) := by
  subst hm
  exact exec_box t k y x [] hop hd hdn hdl hdp hy hok hk hkl hpos (fun j hj => ⟨mem_of (range_all hr hj), isNo_eq (range_all hno hj), by simpa using range_all hb hj⟩) (grp_of hg) (fun s hs => by simp at hs)
theorem exec_alloc_p (t k m : Nat) (z : Value) (cs : List V) (hop : o.op = .alloc t) (hd : o.dst = some d) (hdn : d < (mkC N g pin w0 S B may).nt) (hdl : d < T.length) (hdp : (mkC N g pin w0 S B may).pin d = none) (hz : (P.info? t).bind (·.zero) = some z) (hl : lits z.cells.toList cs) (hm : cs.length = m) (hk : N ≤ k) (hkl : k + m ≤ T.length) (hpos : 0 < m)
    (hr : readsOk rd k m = true) (hno : noneOk T k m = true) (hb : basesOk (mkC N g pin w0 S B may) k k m = true) (hg : grpOk g k m = true) : Exec P (mkC N g pin w0 S B may) o rd T (stores k cs ++ [(d, false, .at_ k)]) := by
  subst hm
  exact exec_alloc t k z cs hop hd hdn hdl hdp hz hl hk hkl hpos (fun j hj => ⟨mem_of (range_all hr hj), isNo_eq (range_all hno hj), by simpa using range_all hb hj⟩) (grp_of hg)
end
section
variable {P : Program} {C : Ctx} {T : St} {rd : List Nat} {o : Oper} {d : Nat}
theorem exec_field_at_p (s t f off k b : Nat) (hop : o.op = .fieldAddr t (.tmp s) f) (hd : o.dst = some d) (hdn : d < C.nt) (hdl : d < T.length) (hdp : C.pin d = none) (hsr : s ∈ rd) (hkr : k + off ∈ rd) (hs : s < C.nt) (hf : fieldAt P t f = some (off, false)) (hx : T.at s = .at_ k) (hk : (!(T.at (k + off)).isNo) = true) (hb : C.base (k + off) = b) (hb' : C.base k = b) (hle : b ≤ k) : Exec P C o rd T [(d, false, .at_ (k + off))] :=
  exec_field_at s t f off k hop hd hdn hdl hdp hsr hkr hs hf hx (isNo_ne hk) (hb.trans hb'.symm) (hb' ▸ hle)
theorem exec_load_at_agg_p (s k t n b : Nat) (cs : List V) (hop : o.op = .load t (.tmp s)) (hd : o.dst = some d) (hdn : d < C.nt) (hdl : d < T.length) (hdp : C.pin d = none) (hsr : s ∈ rd) (hr : readsOk rd k n = true) (hs : s < C.nt) (ht : aggT P t = some true) (hsz : (P.info? t).map (·.size) = some n) (hx : T.at s = .at_ k)
    (hb : basesOk C k b n = true) (hb' : C.base k = b) (hle : b ≤ k) (hc : cellsAt T k n = cs) (hp : cs.all (fun c => c.plainB && c.free) = true) : Exec P C o rd T [(d, false, .agg cs)] := by
  have hcell : ∀ j, j < n → (T.at (k + j)).plainB = true ∧ (T.at (k + j)).free = true := fun j hj => by
    have := List.all_eq_true.1 hp (T.at (k + j)) (by rw [← hc]; exact List.mem_map.2 ⟨j, by simpa using hj, rfl⟩)
    simpa using this
  have := exec_load_at_agg (P := P) (C := C) (T := T) (rd := rd) (o := o) (d := d) [] s k t n hop hd hdn hdl hdp hsr (fun j hj => mem_of (range_all hr hj)) hs ht hsz hx (fun j hj => by have := range_all hb hj; rw [hb']; simpa using this) (hb' ▸ hle) (fun j hj => V.plainB_of (hcell j hj).1) (fun j hj => .inr (hcell j hj).2) (fun s hs => by simp at hs) (fun s hs => by simp at hs)
  rw [hc] at this
  exact this
theorem exec_store_at_p (s k t n b : Nat) (y : Operand) (x : V) (hop : o.op = .store t (.tmp s) y) (hd : o.dst = none) (hsr : s ∈ rd) (hs : s < C.nt) (hx : T.at s = .at_ k) (hsz : (P.info? t).map (·.size) = some n) (hy : opV C T rd x [] y) (hok : x.okc = true) (hn : x.cells.length = n)
    (hr : readsOk rd k n = true) (ht : thereOk T k n = true) (hb : basesOk C k b n = true) (hb' : C.base k = b) (hle : b ≤ k) (hkl : k + n ≤ T.length) : Exec P C o rd T (stores k x.cells) :=
  exec_store_at s k t n y x [] hop hd hsr hs hx hsz hy hok hn (fun j hj => ⟨mem_of (range_all hr hj), isNo_ne (range_all ht hj), by have := range_all hb hj; rw [hb']; simpa using this⟩) (hb' ▸ hle) hkl (fun s hs => by simp at hs)
end
section
variable {P : Program} {C : Ctx} {T : St} {rd : List Nat} {d : Nat}
/-- One that its guard leaves out: its slot has nothing. -/
theorem step_left_u {ops : Array Oper} {i j t d : Nat} {b b' : Bool} {o : Oper} {rd : List Nat} (ho : ops[i]? = some o) (hg : o.guard = some (j, b)) (hd : (ops[j]?).bind (·.dst) = some t) (ht : t < C.nt) (htr : t ∈ rd) (hx : (T.at t).val = some (.bool b')) (hb : b' = !b) (hod : o.dst = some d) (hdn : d < C.nt) (hdl : d < T.length) (hdp : C.pin d = none) : StepI P C ops i rd T [(d, false, .sc undef)] := fun T' a w hsm hs Q K hK => by
  have hne : (some b' == some b) = false := by rw [hb]; cases b <;> rfl
  unfold wpOp
  simp only [ho, Region.wanted, hg, yielded_eq hd ht htr hx hsm hs, hne, Bool.false_eq_true, if_false, hod]
  obtain ⟨S, F, loc, hsim⟩ := hs
  exact hK _ _ (hsim.put [] d (.sc undef) undef Foot.none hdn (by rw [hsm.1]; exact hdl) hdp (fun s hs => by simp at hs) (.refl _ _) (fun _ _ h => h) (fun _ _ h => .inl h) (fun _ _ h => h.elim) (fun s hs => by simp at hs) (.inl (.sc ..)))
theorem yielded_un {ops : Array Oper} {j t : Nat} {rd : List Nat} {T' : St} {a : Act} {w : World} (hd : (ops[j]?).bind (·.dst) = some t) (ht : t < C.nt) (htr : t ∈ rd) (hx : (T.at t).val = some undef) (hsm : Same T T' rd) (hs : Sim C T' a w) : yielded ops a.tmps j = none := by
  obtain ⟨S, F, loc, hsim⟩ := hs
  have h := hsim.value t ht (v := undef) (by rw [hsm.at_ htr]; exact hx)
  unfold yielded
  rw [hd]
  have hl : t < a.tmps.size := by rw [hsim.size]; exact ht
  simp only [Act.eval, Array.getD_eq_getD_getElem?, Array.getElem?_eq_getElem hl, Option.getD_some] at h
  simp [Array.getElem?_eq_getElem hl, h, undef]
/-- One whose guard itself was left out. -/
theorem step_un {ops : Array Oper} {i j t d : Nat} {b : Bool} {o : Oper} {rd : List Nat} (ho : ops[i]? = some o) (hg : o.guard = some (j, b)) (hd : (ops[j]?).bind (·.dst) = some t) (ht : t < C.nt) (htr : t ∈ rd) (hx : (T.at t).val = some undef) (hod : o.dst = some d) (hdn : d < C.nt) (hdl : d < T.length) (hdp : C.pin d = none) : StepI P C ops i rd T [(d, false, .sc undef)] := fun T' a w hsm hs Q K hK => by
  unfold wpOp
  have hne : ((none : Option Bool) == some b) = false := rfl
  simp only [ho, Region.wanted, hg, yielded_un hd ht htr hx hsm hs, hne, Bool.false_eq_true, if_false, hod]
  obtain ⟨S, F, loc, hsim⟩ := hs
  exact hK _ _ (hsim.put [] d (.sc undef) undef Foot.none hdn (by rw [hsm.1]; exact hdl) hdp (fun s hs => by simp at hs) (.refl _ _) (fun _ _ h => h) (fun _ _ h => .inl h) (fun _ _ h => h.elim) (fun s hs => by simp at hs) (.inl (.sc ..)))
end
section
variable {P : Program} {xt : TypeId} {x y : Operand} {p q : Bool}
theorem bool_eql (ht : P.underlying xt = some .bool) (w : World) : (do eqGuard .eql xt x y (.bool p) (.bool q); binOp .eql xt (.bool p) (.bool q) : Sem Value).run P w = .ok (.bool (decide (p = q))) w := by
  have : (p == q) = decide (p = q) := by cases p <;> cases q <;> rfl
  simp [eqGuard, binOp, run_equal_bool _ _ _ _ ht, this]
theorem bool_neq (ht : P.underlying xt = some .bool) (w : World) : (do eqGuard .neq xt x y (.bool p) (.bool q); binOp .neq xt (.bool p) (.bool q) : Sem Value).run P w = .ok (.bool (!decide (p = q))) w := by
  have : (p == q) = decide (p = q) := by cases p <;> cases q <;> rfl
  simp [eqGuard, binOp, run_equal_bool _ _ _ _ ht, this]
end
end Go.Proofs.Ytepeoiimdefnpaa.Vm
namespace Go.Proofs.Ytepeoiimdefnpaa.Vm
open Go
section
variable {P : Program} {C : Ctx} {T : St} {rd : List Nat} {o : Oper} {d : Nat} {α : Type} {enc : α → List V} {xs ys : List α}
theorem exec_len_own {s r E sz t e : Nat} (hop : o.op = .call { callee := .builtin .len, args := #[.tmp s], argTypes := #[t] }) (hd : o.dst = some d) (hdn : d < C.nt) (hdl : d < T.length) (hdp : C.pin d = none) (ht : P.underlying t = some (.slice e)) (ho : Own1 C T rd s r E sz (xs.map enc)) : Exec P C o rd T [(d, false, .sc (.int .i64 (xs.length : Int)))] := by
  have := exec_len (P := P) (C := C) (T := T) (rd := rd) (o := o) (d := d) s sz t (xs.map enc) hop hd hdn hdl hdp e ht ⟨ho.1, ho.2.1, .inr (.inl ⟨r, E, ho⟩)⟩
  rwa [row_len] at this
theorem exec_index_own_rows {s r E sz t e : Nat} {ix : Operand} {k : IntKind} {n : Int} (hop : o.op = .indexAddr t (.tmp s) ix) (hd : o.dst = some d) (hdn : d < C.nt) (hdl : d < T.length) (hdp : C.pin d = none) (hne : r ≠ d) (ht : P.underlying t = some (.slice e)) (hsz : (P.info? e).map (·.size) = some sz) (ho : Own1 C T rd s r E sz (xs.map enc)) (hi : opv C T rd (.int k n) ix) (h0 : 0 ≤ n) (h1 : n < (xs.length : Int)) :
    Exec P C o rd T [(d, false, .ref r (T.gen r) sz n.toNat 0)] := exec_index_own s r E sz t e (xs.map enc) ix k n hop hd hdn hdl hdp hne ht hsz ho hi h0 (by rw [row_len]; omega)
theorem exec_load_ref_rows (z : α) {s r t E sz p : Nat} {n : Int} {c : V} (hop : o.op = .load t (.tmp s)) (hd : o.dst = some d) (hdn : d < C.nt) (hdl : d < T.length) (hdp : C.pin d = none) (hsr : s ∈ rd) (hrr : r ∈ rd) (hs : s < C.nt) (ht : aggT P t = some false) (hx : T.at s = .ref r (T.gen r) sz n.toNat p) (hxr : T.at r = .own E sz (xs.map enc)) (h0 : 0 ≤ n) (h1 : n < (xs.length : Int)) (hc : (enc (xs.getD n.toNat z))[p]? = some c) (hf : c.free = true) : Exec P C o rd T [(d, false, c)] :=
  exec_load_ref s r t E sz n.toNat p (xs.map enc) _ c hop hd hdn hdl hdp hsr hrr hs ht hx hxr (row_geti enc xs z h0 h1) hc hf
theorem exec_load_ref_agg_rows (z : α) {s r t m E sz p : Nat} {n : Int} {cs : List V} (hop : o.op = .load t (.tmp s)) (hd : o.dst = some d) (hdn : d < C.nt) (hdl : d < T.length) (hdp : C.pin d = none) (hsr : s ∈ rd) (hrr : r ∈ rd) (hs : s < C.nt) (ht : aggT P t = some true) (hsz : (P.info? t).map (·.size) = some m) (hx : T.at s = .ref r (T.gen r) sz n.toNat p) (hxr : T.at r = .own E sz (xs.map enc)) (h0 : 0 ≤ n) (h1 : n < (xs.length : Int)) (hc : ((enc (xs.getD n.toNat z)).drop p).take m = cs) (hn : cs.length = m) (hf : (V.agg cs).free = true) : Exec P C o rd T [(d, false, .agg cs)] :=
  exec_load_ref_agg s r t m E sz n.toNat p (xs.map enc) _ cs hop hd hdn hdl hdp hsr hrr hs ht hsz hx hxr (row_geti enc xs z h0 h1) hc hn hf
theorem exec_append_rows {s s2 r t e sz bytes : Nat} {z : Value} (hop : o.op = .call { callee := .builtin .append, args := #[.tmp s, .tmp s2], argTypes := #[t, t] }) (hd : o.dst = some d) (hdn : d < C.nt) (hdl : d < T.length) (hdp : C.pin d = none) (hrl : r < T.length) (ht : P.underlying t = some (.slice e)) (he : elemT P e z sz bytes) (ho : Own1 C T rd s r e sz (xs.map enc)) (h2 : Rowy C T rd s2 sz (ys.map enc))
    (hl : ∀ x, (enc x).length = sz) (hf : ∀ x, ((enc x).all fun c => c.free && c.shr) = true) (hby : 0 < bytes) (hb : (xs.length + ys.length) * bytes ≤ 140737488355328) : Exec P C o rd T [(r, false, .dead), (d, false, .own e sz ((xs ++ ys).map enc))] := by
  have h := exec_append (P := P) (C := C) (T := T) (rd := rd) (o := o) (d := d) s s2 r t e sz bytes z (xs.map enc) (ys.map enc) hop hd hdn hdl hdp hrl ht he ho h2 (row_sz hl) (fun el hel c hc => by
    obtain ⟨x, _, rfl⟩ := List.mem_map.1 hel
    have := List.all_eq_true.1 (hf x) c hc
    simpa using this) (by rw [row_len, row_len]; exact hb) (by
    rw [row_len, row_len]
    have : xs.length + ys.length ≤ (xs.length + ys.length) * bytes := Nat.le_mul_of_pos_right _ hby
    have h2 : (140737488355328 : Nat) ≤ maxLen := by decide
    omega)
  rwa [row_app] at h
theorem exec_build_rows {t e sz bytes n : Nat} {z : Value} {ps : Array (Nat × Operand)} {zs cs0 : List V} {us : List (V × List Nat)} (hop : o.op = .buildSlice t n ps) (hd : o.dst = some d) (hdn : d < C.nt) (hdl : d < T.length) (hdp : C.pin d = none) (ht : P.underlying t = some (.slice e)) (he : elemT P e z sz bytes) (hl0 : lits z.cells.toList zs) (hc0 : cs0 = (List.replicate n zs).flatten)
    (hp : parts C T rd (fun i => some (i * sz, sz)) cs0.length [] cs0 ps.toList us) (hes : layAll (fun i => some (i * sz, sz)) cs0 ps.toList us = (xs.map enc).flatten) (hl : ∀ x, (enc x).length = sz) (hn : (xs.map enc).length = n) (hshr : (xs.map enc).flatten.all V.shr = true) (hsm : n * sz ≤ 16777216) (hsrc : srcs us = []) : Exec P C o rd T [(d, false, .own e sz (xs.map enc))] := by
  have h := exec_buildSlice (P := P) (C := C) (T := T) (rd := rd) (o := o) (d := d) t e sz bytes n z ps zs cs0 us (xs.map enc) hop hd hdn hdl hdp ht he hl0 hc0 hp hes (row_sz hl) hn (fun c hc => List.all_eq_true.1 hshr c hc) hsm
  rw [hsrc] at h
  exact h
theorem exec_build_p {t : Nat} {ps : Array (Nat × Operand)} {pl : Array (Nat × Nat)} {z : Value} {cs0 cs : List V} {us : List (V × List Nat)} (hop : o.op = .build t ps) (hd : o.dst = some d) (hdn : d < C.nt) (hdl : d < T.length) (hdp : C.pin d = none) (hz : (P.info? t).bind (·.zero) = some z) (hl : lits z.cells.toList cs0) (hpl : places P t = some pl)
    (hp : parts C T rd (pl[·]?) cs0.length [] cs0 ps.toList us) (hcs : layAll (pl[·]?) cs0 ps.toList us = cs) (hsrc : srcs us = []) : Exec P C o rd T [(d, false, .agg cs)] := by
  have h := exec_build (P := P) (C := C) (T := T) (rd := rd) (o := o) (d := d) t ps pl z cs0 us hop hd hdn hdl hdp hz hl hpl hp
  rw [hsrc, hcs] at h
  exact h
theorem lent_own {s r E sz : Nat} {enc' : α → List V} {ss : List Nat} (ho : Own1 C T rd s r E sz (xs.map enc)) (hl : ∀ x, V.lend.go (enc x) = enc' x) (hd : ∀ x, V.lendable.go (enc x) = true) (hr : ss.contains r = false) : argV C T rd ss (.row true sz (xs.map enc')) [] (.tmp s) :=
  .inr ⟨rfl, .inr (.inl ⟨.own E sz (xs.map enc), r, (lend_own hl).symm, ⟨ho.2.1, ho.1, .inr ⟨E, sz, _, rfl, ho, lendable_own hd⟩⟩, fun h => by rw [List.contains_iff_mem.2 h] at hr; cases hr⟩)⟩
end
/-- What of a value may be read more than once. -/
def V.thin (c : V) : V := if c.free then c else .dead
theorem Hold.thin {w : World} {S B F : Foot} {vs : Array Value} {cs : List V} (h : Hold w S B F (.tuple vs) (.tup cs)) : Hold w S B Foot.none (.tuple vs) (.tup (cs.map V.thin)) := by
  cases h with
  | tup _ _ _ _ G hn hs hi =>
    refine .tup _ _ vs _ (fun _ => Foot.none) (by simpa using hn) (Split.none _) fun i u c hu hc => ?_
    rw [List.getElem?_map, Option.map_eq_some_iff] at hc
    obtain ⟨c0, hc0, rfl⟩ := hc
    unfold V.thin
    split
    · rename_i hf
      exact (hi i u c0 hu hc0).unfoot hf
    · exact .dead ..
/-- A row of one's own is taken out of a call's results; the numbers beside it stay. -/
theorem exec_extract_own {P : Program} {C : Ctx} {T : St} {rd : List Nat} {o : Oper} {d : Nat} (s ix : Nat) (cs cs' : List V) (c : V) (hop : o.op = .extract (.tmp s) ix) (hd : o.dst = some d) (hdn : d < C.nt) (hdl : d < T.length) (hdp : C.pin d = none) (hsr : s ∈ rd) (hs : s < C.nt) (hsl : s < T.length) (hsd : s ≠ d) (hx : T.at s = .tup cs) (hc : cs[ix]? = some c) (ht : cs.map V.thin = cs') :
    Exec P C o rd T [(s, false, .tup cs'), (d, false, c)] := by
  intro T' a w hsm ⟨S, F, loc, h⟩ Q K hK
  subst ht
  have hxs : T'.at s = .tup cs := (hsm.at_ hsr).trans hx
  have hsl' := h.slot s
  rw [hxs] at hsl'
  obtain ⟨v, h5, hh⟩ := hsl'.held (by simp) (fun _ => by simp) rfl
  have hTl := hsm.1
  generalize hIF : inner C (F s) loc s = IF at hh
  have hthin : ∃ vs, v = .tuple vs ∧ Hold w S C.B IF (.tuple vs) (.tup cs) := by
    cases hh with
    | tup _ _ vs _ G hn hs' hi => exact ⟨vs, rfl, .tup _ _ vs _ G hn hs' hi⟩
  obtain ⟨vs, rfl, hh⟩ := hthin
  have hth := hh.thin
  cases hh with
  | tup _ _ _ _ G hn hs' hi =>
  have hix := (List.getElem?_eq_some_iff.1 hc).1
  have hv : vs[ix]? = some vs[ix] := Array.getElem?_eq_getElem (by omega)
  have hr : (execOp a.eval o).run P w = .ok (.value vs[ix]) w := by simp [execOp, hop, conc_eval hs h5, Instr.extract, hv]
  unfold Oper.wp
  rw [hr]
  show K (a.put o.dst _) w
  rw [hd]
  refine hK _ _ ?_
  have hcu := hi ix _ c hv hc
  have hpl := hold_plain hcu
  have hW : ∀ t, t ∈ [s, d] ↔ t = s ∨ t = d := fun t => by simp
  have hatd : (T'.app [(s, false, .tup (cs.map V.thin)), (d, false, c)]).at d = c := St.at_last T' [(s, false, .tup (cs.map V.thin))] d false c (by omega)
  have hats : (T'.app [(s, false, .tup (cs.map V.thin)), (d, false, c)]).at s = .tup (cs.map V.thin) := by
    rw [show [(s, false, V.tup (cs.map V.thin)), (d, false, c)] = [(s, false, V.tup (cs.map V.thin))] ++ [(d, false, c)] from rfl, St.at_mid T' _ s d false c (Ne.symm hsd)]
    exact St.app_one T' s _ (by omega)
  have hnot : ∀ t, t ∉ [s, d] → (T'.app [(s, false, .tup (cs.map V.thin)), (d, false, c)]).getD t (0, .no) = T'.getD t (0, .no) := fun t ht => St.app_not T' _ t (by simpa using ht)
  have hgl : ∀ t, t ∈ [s, d] → T'.gen t < St.gen (T'.app [(s, false, .tup (cs.map V.thin)), (d, false, c)]) t := fun t ht => by
    rcases (hW t).1 ht with rfl | rfl
    · exact St.gen_lt T' _ _ (by omega) ⟨.tup (cs.map V.thin), by simp⟩
    · exact St.gen_lt T' _ _ (by omega) ⟨c, by simp⟩
  have hsub : ∀ b o', G ix b o' → F s b o' := fun b o' hg => by
    have := hs'.sub ix b o' hg
    rw [← hIF] at this
    exact this.1
  refine ⟨S, fun t => if t = d then G ix else if t = s then Foot.none else F t, loc, h.upd [s, d] hnot (by simp [Act.put]) (by simpa [Act.put] using h.defers) (fun t v' hv' => by
      rw [put_get (fun e => by rw [← e, hdp] at hv'; cases hv')]
      exact h.pins t v' hv') (.refl _ _) (fun _ _ h => h) (fun _ _ h => .inl h) (fun t ht => ?_) (fun t ht => ⟨rfl, ?_⟩) (fun _ _ _ _ => rfl) (fun t ht _ => put_get fun e => ht ((hW t).2 (.inr e.symm)))
    (fun r hr he _ => absurd he (by have := hgl r hr; omega)) (fun r hr => Nat.le_of_lt (hgl r hr)) (fun t t' ht htt b o' hb hb' => ?_) (fun t ht b o' hb => ?_) (fun t ht r g hr => ?_) (fun t ht => ?_) (fun t ht hns hx' => ?_) (h.nodeep hnot hgl fun t ht => ?_)⟩
  · have e1 : t ≠ d := fun e => ht ((hW t).2 (.inr e))
    have e2 : t ≠ s := fun e => ht ((hW t).2 (.inl e))
    simp [e1, e2]
  · by_cases htd : t = d
    · subst htd; rw [hatd]; exact hpl.1
    · by_cases hts : t = s
      · subst hts; rw [hats]; simp
      · have := hnot t (fun hm => ((hW t).1 hm).elim hts htd)
        unfold St.at
        rw [this]
        exact ht
  · have part : ∀ t b o', (if t = d then G ix else if t = s then Foot.none else F t : Foot) b o' → (t = d ∧ F s b o') ∨ (t ≠ d ∧ t ≠ s ∧ F t b o') := fun t b o' hb => by
      by_cases h0 : t = d
      · rw [if_pos h0] at hb; exact .inl ⟨h0, hsub _ _ hb⟩
      · rw [if_neg h0] at hb
        by_cases h1 : t = s
        · rw [if_pos h1] at hb; exact hb.elim
        · rw [if_neg h1] at hb; exact .inr ⟨h0, h1, hb⟩
    rcases part t b o' hb with ⟨p1, p2⟩ | ⟨p1, p2, p3⟩ <;> rcases part t' b o' hb' with ⟨q1, q2⟩ | ⟨q1, q2, q3⟩
    · exact htt (p1.trans q1.symm)
    · exact h.apart s t' (Ne.symm q2) _ _ p2 q3
    · exact h.apart s t (Ne.symm p2) _ _ q2 p3
    · exact h.apart t t' htt _ _ p3 q3
  · rcases (hW t).1 ht with rfl | rfl
    · rw [if_neg hsd, if_pos rfl] at hb
      exact hb.elim
    · rw [if_pos rfl] at hb
      exact h.mine s b o' (hsub _ _ hb)
  · rcases (hW t).1 ht with rfl | rfl
    · rw [hats] at hr; simp [V.root] at hr
    · rw [hatd, hpl.2.2] at hr; cases hr
  · rcases (hW t).1 ht with rfl | rfl
    · rw [hats]
      refine SlotOk.plain ⟨.tuple vs, ?_, hth.mono (fun _ _ h => h) (fun _ _ h => h) fun _ _ h => h.elim⟩
      unfold conc at h5 ⊢
      rw [if_pos hs] at h5 ⊢
      rw [put_get (Ne.symm hsd)]
      exact h5
    · rw [hatd]
      refine SlotOk.plain ⟨_, ?_, hcu.mono (fun _ _ h => h) (fun _ _ h => h) fun b o' hb => ⟨?_, fun e => by have := e.1; omega⟩⟩
      · unfold conc
        rw [if_pos hdn]
        exact put_self (by rw [h.size]; exact hdn)
      · simpa using hb
  · rcases (hW t).1 ht with rfl | rfl
    · omega
    · omega
  · rcases (hW t).1 ht with rfl | rfl
    · rw [hats]; rfl
    · rw [hatd]; exact V.not_deep hpl.2.2
end Go.Proofs.Ytepeoiimdefnpaa.Vm
namespace Go.Proofs.Ytepeoiimdefnpaa.Vm
open Go
/-- All that is there may be read. -/
abbrev old (w : World) : Foot := fun b _ => b < w.heap.size
theorem hold_row {α : Type} {enc : α → List V} {R : α → List Value → Prop} {sz n cap : Nat} {w : World} {A : Option Addr} {xs : List α}
    (h : xs.length = n ∧ n ≤ 9223372036854775807 ∧ (0 < n → ∃ ad, A = some ad ∧ ∀ j p, xs[j]? = some p → ∃ c, c.length = sz ∧ R p c ∧ ∀ i u, c[i]? = some u → w.cell? (ad.add (j * sz + i)) = some u)) (hR : ∀ x c, R x c → enc x = c.map V.sc ∧ ∀ u, u ∈ c → u.oneCell' = true) (hc : n ≤ cap) (hl : ∀ x, (enc x).length = sz) :
    Hold w Foot.none (old w) Foot.none (.slice A n cap) (.row true sz (xs.map enc)) := by
  obtain ⟨rfl, hm, ha⟩ := h
  have key : ∀ j i e c, (xs.map enc)[j]? = some e → e[i]? = some c → ∃ a u, A = some a ∧ w.cell? (a.add (j * sz + i)) = some u ∧ u.oneCell' = true ∧ c = .sc u := fun j i e c he hc => by
    rw [List.getElem?_map, Option.map_eq_some_iff] at he
    obtain ⟨x, hx, rfl⟩ := he
    obtain ⟨ad, hA, hcell⟩ := ha (by have := (List.getElem?_eq_some_iff.1 hx).1; omega)
    obtain ⟨cs, _, hr, hu⟩ := hcell j x hx
    obtain ⟨e1, e2⟩ := hR x cs hr
    rw [e1, List.getElem?_map, Option.map_eq_some_iff] at hc
    obtain ⟨u, hui, rfl⟩ := hc
    exact ⟨ad, u, hA, hu i u hui, e2 u (List.mem_of_getElem? hui), rfl⟩
  have := Hold.row (w := w) (S := Foot.none) (old w) Foot.none true sz (xs.map enc) A cap (fun k => ((A.bind fun a => w.cell? (a.add k))).getD undef) (row_sz hl) (by rw [row_len]; exact hc) (by rw [row_len]; exact hm) (fun hp => by
      rw [row_len] at hp
      obtain ⟨ad, e, _⟩ := ha hp
      exact ⟨ad, e⟩) (fun a j i e c hA he hc => by
      obtain ⟨a', u, e1, e2, e3, _⟩ := key j i e c he hc
      rw [hA] at e1
      injection e1 with e1
      subst e1
      rw [hA]
      simp only [Option.bind_some, e2, Option.getD_some]
      exact ⟨trivial, e3, .inr ⟨trivial, World.block_lt_of_cell? w _ e2⟩⟩) fun j i e c he hc => by
      obtain ⟨a', u, e1, e2, _, rfl⟩ := key j i e c he hc
      rw [e1]
      simp only [Option.bind_some, e2, Option.getD_some]
      exact .sc ..
  rw [row_len] at this
  exact this
/-- What a law's function is given. -/
def holds (w : World) : List Value → List V → Prop
  | [], [] => True
  | v :: vs, x :: xs => Hold w Foot.none (old w) Foot.none v x ∧ holds w vs xs
  | _, _ => False
theorem holds.get {w : World} {vs : List Value} {xs : List V} (h : holds w vs xs) : vs.length = xs.length ∧ ∀ (i : Nat) (v : Value) (x : V), vs[i]? = some v → xs[i]? = some x → Hold w Foot.none (old w) Foot.none v x := by
  induction vs generalizing xs with
  | nil => cases xs with
    | nil => exact ⟨rfl, fun i v x hv => by simp at hv⟩
    | cons => exact h.elim
  | cons v vs ih => cases xs with
    | nil => exact h.elim
    | cons x xs =>
      obtain ⟨h1, h2⟩ := ih h.2
      refine ⟨by simp [h1], fun i v' x' hv hx => ?_⟩
      cases i with
      | zero => simp at hv hx; subst hv hx; exact h.1
      | succ i => exact h2 i v' x' (by simpa using hv) (by simpa using hx)
/-- A law's call: it returns this, and all that was there stays. -/
theorem calls_of_vc {P : Program} {f : FuncId} {args outs : List V} {u : Value} {w : World} {vs : List Value} (h : VC P f args outs (.sc u)) (hh : holds w vs args) : Calls P f vs.toArray w fun e w' => e = .returned u ∧ RowKit.Below w.heap.size w w' := by
  obtain ⟨h1, h2⟩ := hh.get
  refine Calls.mono (h w Foot.none (old w) (fun _ => Foot.none) vs ⟨h1, h2, fun _ _ _ _ _ hf => hf.elim, fun _ _ _ hf => hf.elim, fun b o hb => hb.elim (fun e => e.elim) id⟩) fun e w' ⟨v, he, hd⟩ => ?_
  obtain ⟨⟨S', F', FR, d1, _⟩, dm⟩ := hd
  have hv : v = u := d1.val_eq rfl
  refine ⟨by rw [he, hv], dm.os, dm.tape, dm.output, dm.size, fun k hk => dm.keep.block k fun o => ⟨hk, fun _ hf => hf.elim⟩⟩
end Go.Proofs.Ytepeoiimdefnpaa.Vm
namespace Go.Proofs.Ytepeoiimdefnpaa.Vm
open Go
/-- Two cells, compared. -/
def eqCell : Value → Value → Option Bool
  | .int k a, .int k' b => if k = k' then some (decide (a = b)) else none
  | .bool a, .bool b => some (decide (a = b))
  | _, _ => none
/-- A type whose values are numbers (or bools). -/
def kindOk (P : Program) (t : TypeId) : Value → Bool
  | .int _ _ => match P.underlying t with
    | some (.int _) => true
    | _ => false
  | .bool _ => match P.underlying t with
    | some .bool => true
    | _ => false
  | _ => false
/-- The fields of two structs, compared; each has its cell. -/
def eqFlat (P : Program) (xs ys : Array Value) : List Field → Option Bool
  | [] => some true
  | f :: fs => if (f.name == "_") then none else match xs[f.offset]?, ys[f.offset]? with
    | some x, some y => if kindOk P f.type x && kindOk P f.type y then match eqCell x y, eqFlat P xs ys fs with
      | some a, some b => some (a && b)
      | _, _ => none
      else none
    | _, _ => none
theorem part_scalar {P : Program} {t : TypeId} {xs : Array Value} {off : Nat} {v : Value} (hk : kindOk P t v = true) (hx : xs[off]? = some v) (w : World) : (part t xs off).run P w = .ok v w := by
  unfold kindOk at hk
  split at hk
  · split at hk
    · rename_i hu
      simp [part, isAgg, run_underlying hu, hx]
    · cases hk
  · split at hk
    · rename_i hu
      simp [part, isAgg, run_underlying hu, hx]
    · cases hk
  · cases hk
theorem eq_scalar {P : Program} {t : TypeId} {x y : Value} {b : Bool} (hx : kindOk P t x = true) (hy : kindOk P t y = true) (h : eqCell x y = some b) (d : Nat) (w : World) : (Op.equalIn (d + 1) t x y).run P w = .ok b w := by
  unfold eqCell at h
  split at h
  · rename_i k a k' b'
    split at h
    case isFalse => cases h
    rename_i hkk
    subst hkk
    injection h with h
    subst h
    simp only [kindOk] at hx
    split at hx
    · rename_i hu
      have e : (a == b') = decide (a = b') := by by_cases h : a = b' <;> simp [h]
      cases x : P.underlying t with
      | none => rw [x] at hu; cases hu
      | some z =>
        rw [x] at hu
        injection hu with hu
        subst hu
        rw [run_equalIn_int w d t k _ a b' x, e]
    · cases hx
  · rename_i a b'
    injection h with h
    subst h
    simp only [kindOk] at hx
    split at hx
    · rename_i hu
      have e : (a == b') = decide (a = b') := by cases a <;> cases b' <;> rfl
      rw [run_equalIn_bool' w d t a b' hu, e]
    · cases hx
  · cases h
theorem eq_flat {P : Program} {xs ys : Array Value} (d : Nat) (w : World) : ∀ (fs : List Field) (b : Bool), eqFlat P xs ys fs = some b → (Op.eqFields (d + 1) xs ys fs).run P w = .ok b w := by
  intro fs
  induction fs with
  | nil => intro b h; simp [eqFlat] at h; subst h; simp [Op.eqFields]
  | cons f fs ih =>
    intro b h
    unfold eqFlat at h
    split at h
    · cases h
    · rename_i hn
      have hn' : f.name ≠ "_" := by simpa using hn
      split at h
      · rename_i x y hx hy
        split at h
        · rename_i hk
          simp only [Bool.and_eq_true] at hk
          split at h
          · rename_i a b' ha hb
            injection h with h
            subst h
            rw [Op.eqFields]
            simp only [if_pos hn', Sem.run_bind, part_scalar hk.1 hx, part_scalar hk.2 hy, eq_scalar hk.1 hk.2 ha, Result.andThen_ok]
            cases a
            · simp
            · simpa using ih b' hb
          · cases h
        · cases h
      · cases h
theorem struct_eql {P : Program} {t : TypeId} {x y : Operand} {xs ys : Array Value} {fs : Array Field} {b : Bool} (hu : P.underlying t = some (.struct fs)) (hp : P.stoodInHeld t = false) (hg : P.eqGuardType P.depth t = false) (h : eqFlat P xs ys fs.toList = some b) (w : World) :
    (do eqGuard .eql t x y (.agg xs) (.agg ys); binOp .eql t (.agg xs) (.agg ys) : Sem Value).run P w = .ok (.bool b) w := by
  have hf : P.fieldsOf t = fs := by simp [Program.fieldsOf, hu]
  have he := run_equalIn_struct (P := P) w 9999 t xs ys (by rw [hf]; exact hu) hp
  rw [hf] at he
  rw [Sem.run_bind, run_eqGuard_agg _ _ _ _ _ _ _ hg]
  simp only [Result.andThen_ok]
  rw [run_eql_struct, he, eq_flat 9998 w _ b h]
  rfl
theorem struct_neq {P : Program} {t : TypeId} {x y : Operand} {xs ys : Array Value} {fs : Array Field} {b : Bool} (hu : P.underlying t = some (.struct fs)) (hp : P.stoodInHeld t = false) (hg : P.eqGuardType P.depth t = false) (h : eqFlat P xs ys fs.toList = some b) (w : World) :
    (do eqGuard .neq t x y (.agg xs) (.agg ys); binOp .neq t (.agg xs) (.agg ys) : Sem Value).run P w = .ok (.bool (!b)) w := by
  have hf : P.fieldsOf t = fs := by simp [Program.fieldsOf, hu]
  have he := run_equalIn_struct (P := P) w 9999 t xs ys (by rw [hf]; exact hu) hp
  rw [hf] at he
  rw [Sem.run_bind, run_eqGuard_agg _ _ _ _ _ _ _ hg]
  simp only [Result.andThen_ok]
  rw [run_neq_struct, he, eq_flat 9998 w _ b h]
  rfl
/-- A row of one's own is stored into a box's cell. -/
theorem exec_store_own_p {P : Program} {C : Ctx} {T : St} {rd : List Nat} {o : Oper} (s k t b u r E sz : Nat) (es : List (List V)) (hop : o.op = .store t (.tmp s) (.tmp u)) (hd : o.dst = none) (hsr : s ∈ rd) (hs : s < C.nt) (hx : T.at s = .at_ k) (hsz : (P.info? t).map (·.size) = some 1) (ho : Own1 C T rd u r E sz es)
    (hr : readsOk rd k 1 = true) (ht : thereOk T k 1 = true) (hb : basesOk C k b 1 = true) (hb' : C.base k = b) (hle : b ≤ k) (hkl : k + 1 ≤ T.length) (hrl : r < T.length) (hrk : r < k ∨ k + 1 ≤ r) : Exec P C o rd T ([(r, false, .dead), (k, false, .own E sz es)]) := by
  have h := exec_store_at (P := P) (C := C) (T := T) (rd := rd) (o := o) s k t 1 (.tmp u) (.own E sz es) [r] hop hd hsr hs hx hsz ⟨ho.2.1, ho.1, .inr (.inr ⟨r, E, sz, es, rfl, ho, rfl⟩)⟩ rfl rfl (fun j hj => ⟨mem_of (range_all hr hj), isNo_ne (range_all ht hj), by have := range_all hb hj; rw [hb']; simpa using this⟩) (hb' ▸ hle) hkl (fun s hs => by
    obtain rfl : s = r := by simpa using hs
    exact ⟨hrl, hrk⟩)
  exact h
/-- A result that lies in a box: a struct; as one value. -/
theorem ret_cell_p {P : Program} {C : Ctx} {T : St} {p k t n b : Nat} {cs : List V} (hp : p < C.nt) (hx : T.at p = .at_ k) (ht : aggT P t = some true) (hsz : (P.info? t).map (·.size) = some n) (hb : basesOk C k b n = true) (hb' : C.base k = b) (hle : b ≤ k) (hc : cellsAt T k n = cs) (hpl : cs.all V.plainB = true) :
    RetOk P C T (.cell p t) (.agg cs) ((List.range n).map (k + ·)) := by
  subst hc
  exact ret_cell hp hx ht hsz (fun j hj => by have := range_all hb hj; rw [hb']; simpa using this) (hb' ▸ hle) fun j hj => V.plainB_of (List.all_eq_true.1 hpl _ (List.mem_map.2 ⟨j, by simpa using hj, rfl⟩))
end Go.Proofs.Ytepeoiimdefnpaa.Vm
namespace Go.Proofs.Ytepeoiimdefnpaa.Vm
open Go
/-- Younger handles: less is told. -/
theorem weak_raise {C : Ctx} {T T2 : St} (h : ∀ s, T2.at s = T.at s ∧ T.gen s ≤ T2.gen s) : Weak C T T2 := fun a w ⟨S, F, loc, k⟩ => by
  refine ⟨S, F, loc, { k with ages := fun s r g hs => ?_, slot := fun s => ?_, cells := fun s h1 h2 => ?_, deep := fun s r hd hr => ?_ }⟩
  · rw [(h s).1] at hs
    obtain ⟨h1, h2⟩ := k.ages s r g hs
    exact ⟨Nat.le_trans h1 (h r).2, by rw [(h r).1]; exact h2⟩
  · rw [(h s).1]
    have h1 := k.slot s
    have ha := k.ages s
    revert h1 ha
    generalize T.at s = x
    intro h1 ha
    cases x <;> first
      | exact h1
      | exact ⟨h1.1, h1.2.1, by rw [(h _).1]; exact h1.2.2⟩
      | exact fun e => h1 (Nat.le_antisymm (Nat.le_trans (h _).2 (Nat.le_of_eq e)) (ha _ _ rfl).1)
  · rw [(h s).1] at h2
    exact k.cells s h1 h2
  · rw [(h s).1] at hd hr
    have e : T2.gen r = T.gen r := Nat.le_antisymm (k.ages s _ _ hr).1 (h r).2
    rw [e] at hr
    obtain ⟨u, v, y, f1, f2, f3, f4, f5⟩ := k.deep s r hd hr
    exact ⟨u, v, y, f1, f2, by rw [(h r).1, (h s).1]; exact f3, f4, by rw [(h s).1]; exact f5⟩
theorem St.stores_out (T : St) (k : Nat) (cs : List V) (s : Nat) (h : s < k ∨ k + cs.length ≤ s) : (T.app (stores k cs)).at s = T.at s := by
  have := St.app_not T (stores k cs) s (by
    rw [stores_fst]
    intro hm
    obtain ⟨j, h1, h2⟩ := List.mem_map.1 hm
    have := List.mem_range.1 h1
    omega)
  exact congrArg Prod.snd this
theorem stores_mem {c : V} : ∀ {k m : Nat} {cs : List V}, cs[m]? = some c → (k + m, false, c) ∈ stores k cs
  | _, _, [], h => by simp at h
  | k, 0, x :: cs, h => by
    simp at h; subst h
    exact .head _
  | k, m + 1, x :: cs, h => by
    have := stores_mem (k := k + 1) (m := m) (cs := cs) (by simpa using h)
    rw [show k + (m + 1) = k + 1 + m by omega]
    exact .tail _ this
section
variable {P : Program} {C : Ctx} {T T' : St} {a : Act} {w : World} {S : Foot} {F : Nat → Foot} {loc : Nat → Addr} {rd : List Nat} {o : Oper} {d : Nat}
theorem exec_build_arr (t e sz m : Nat) (ps : Array (Nat × Operand)) (z : Value) (cs0 : List V) (xs : List (V × List Nat)) (hop : o.op = .build t ps) (hd : o.dst = some d) (hdn : d < C.nt) (hdl : d < T.length) (hdp : C.pin d = none) (hz : (P.info? t).bind (·.zero) = some z) (hl : lits z.cells.toList cs0) (hu : P.underlying t = some (.array m e)) (hsz : (P.info? e).map (·.size) = some sz)
    (hp : parts C T rd (fun i => some (i * sz, sz)) cs0.length [] cs0 ps.toList xs) : Exec P C o rd T (deads (srcs xs) ++ [(d, false, .agg (layAll (fun i => some (i * sz, sz)) cs0 ps.toList xs))]) := by
  have hlen : ∀ s, s ∈ srcs xs → s < T.length := by
    have : ∀ (ps : List (Nat × Operand)) (xs : List (V × List Nat)) (u : List Nat) (c : List V), parts C T rd (fun i => some (i * sz, sz)) cs0.length u c ps xs → ∀ s, s ∈ srcs xs → s < T.length := by
      intro ps
      induction ps with
      | nil => intro xs u c h s hs; cases xs with
        | nil => simp [srcs] at hs
        | cons => exact h.elim
      | cons p ps ih => intro xs u c h s hs; cases xs with
        | nil => exact h.elim
        | cons x xs =>
          obtain ⟨_, _, _, h4, h5⟩ := h
          rcases List.mem_append.1 hs with hs | hs
          · exact (h4 s hs).2
          · exact ih xs _ _ h5 s hs
    exact this _ _ _ _ hp
  refine exec_of (srcs xs) _ hd hdn hdl hdp hlen fun T' a w S F loc hsm hsim => ?_
  obtain ⟨i, hi, hz'⟩ := Option.bind_eq_some_iff.1 hz
  obtain ⟨vs', e1, ⟨z1, G, z2, z3⟩, e3⟩ := parts_fill hsm hsim ps.toList xs [] z.cells cs0 Foot.none rfl (hl.cells _ _ _) (fun _ _ h => h.elim) hp
  refine ⟨.agg vs', w, S, _, ?_, .refl _ _, fun _ _ h => h, fun _ _ h => .inl h, fun b o' h => .inl h, fun s hs => (e3 s hs).1, .inl (.agg _ _ vs' _ G z1 (z2.mono fun b o' h => h.resolve_left id) (fun i u c hu hc => (z3 i u c hu hc).1) fun i u c hu hc => (z3 i u c hu hc).2)⟩
  have hmap : (ps.map fun (x : Nat × Operand) => (x.1, a.eval x.2)).toList = ps.toList.map fun p => (p.1, a.eval p.2) := by simp
  have hzr : (zeroValue t).run P w = .ok z w := by simp [zeroValue, typeInfo, hi, hz']
  simp only [execOp, hop, Instr.build, Sem.run_bind, hzr, run_underlying hu, Result.andThen_ok, size_run hsz, hmap, e1, Sem.run_pure]
/-- An array's element. -/
theorem exec_index_arr (s t e m : Nat) (cs : List V) (c : V) (ix : Operand) (k : IntKind) (n : Int) (hop : o.op = .index t (.tmp s) ix) (hd : o.dst = some d) (hdn : d < C.nt) (hdl : d < T.length) (hdp : C.pin d = none) (hsr : s ∈ rd) (hs : s < C.nt) (hu : P.underlying t = some (.array m e)) (hsz : (P.info? e).map (·.size) = some 1) (hag : aggT P e = some false)
    (hi : opv C T rd (.int k n) ix) (h0 : 0 ≤ n) (hm : cs.length = m) (hx : T.at s = .agg cs) (hc : cs[n.toNat]? = some c) (hfr : c.free = true) : Exec P C o rd T [(d, false, c)] :=
  exec_free _ hd hdn hdl hdp fun T' a w S F loc hsm hsim => by
    have hh := hsim.held s hs ((hsm.at_ hsr).trans hx) (by simp) (fun _ => by simp) rfl
    have hie := opv_eval hi hsm hsim
    have he : a.eval (.tmp s) = a.tmps.getD s undef := rfl
    generalize a.tmps.getD s undef = v at hh he
    cases hh with
    | agg _ _ vs _ G hn hs' hok hi' =>
      have hix := (List.getElem?_eq_some_iff.1 hc).1
      have hv : vs[n.toNat]? = some vs[n.toNat] := Array.getElem?_eq_getElem (by omega)
      refine ⟨vs[n.toNat], ?_, (hi' n.toNat _ c hv hc).unfoot hfr⟩
      simp [execOp, hop, he, hie, Instr.index, asIntOf, run_underlying hu, size_run hsz, part, isAgg_run hag, h0, show n < (m : Int) by omega, hv]
/-- Where an array's element lies. -/
theorem exec_index_at (s t e m k : Nat) (ix : Operand) (kd : IntKind) (n : Int) (hop : o.op = .indexAddr t (.tmp s) ix) (hd : o.dst = some d) (hdn : d < C.nt) (hdl : d < T.length) (hdp : C.pin d = none) (hsr : s ∈ rd) (hs : s < C.nt) (hu : P.underlying t = some (.array m e)) (hsz : (P.info? e).map (·.size) = some 1)
    (hi : opv C T rd (.int kd n) ix) (h0 : 0 ≤ n) (hm : n < (m : Int)) (hx : T.at s = .at_ k) (hkr : ∀ j, j < m → k + j ∈ rd ∧ T.at (k + j) ≠ .no ∧ C.base (k + j) = C.base k) (hle : C.base k ≤ k) : Exec P C o rd T [(d, false, .at_ (k + n.toNat))] :=
  exec_of [] (.at_ (k + n.toNat)) hd hdn hdl hdp (fun s hs => by simp at hs) fun T' a w S F loc hsm hsim => by
    have h1 := hsim.slot s
    rw [hsm.at_ hsr, hx] at h1
    obtain ⟨h2, h3, h5⟩ := h1
    obtain ⟨q1, q2, q3⟩ := hkr n.toNat (by omega)
    have hk' : T'.at (k + n.toNat) ≠ .no := by rw [hsm.at_ q1]; exact q2
    have hie := opv_eval hi hsm hsim
    refine ⟨_, w, S, Foot.none, ?_, .refl _ _, fun _ _ h => h, fun _ _ h => .inl h, fun _ _ h => h.elim, fun s hs => by simp at hs, .inr (.inl ⟨k + n.toNat, rfl, rfl, by omega, hk'⟩)⟩
    rw [hsim.loc_add h3 h5 hk' q3 hle]
    simp [execOp, hop, Instr.indexAt, Instr.sureAddr, run_underlying hu, conc_eval hs h2, hie, asIntOf, size_run hsz, h0, hm]
/-- One of some cells is written: which one, is told by a number. -/
theorem exec_store_any (s k j t : Nat) (y : Operand) (x : V) (cs : List V) (hop : o.op = .store t (.tmp s) y) (hd : o.dst = none) (hsr : s ∈ rd) (hs : s < C.nt) (hx : T.at s = .at_ (k + j)) (hsz : (P.info? t).map (·.size) = some 1) (hy : opV C T rd x [] y) (hok : x.okc = true) (hn : x.cells = [x])
    (hj : j < cs.length) (hcs : ∀ m c, cs[m]? = some c → c = if m = j then x else T.at (k + m)) (hkr : ∀ m, m < cs.length → k + m ∈ rd ∧ T.at (k + m) ≠ .no ∧ C.base (k + m) = C.base k) (hle : C.base k ≤ k) (hkl : k + cs.length ≤ T.length) : Exec P C o rd T (stores k cs) := by
  intro T' a w hsm hsim Q K hK
  obtain ⟨q1, q2, q3⟩ := hkr j hj
  have h := exec_store_at (P := P) (C := C) (T := T) (rd := rd) (o := o) s (k + j) t 1 y x [] hop hd hsr hs hx hsz hy hok (by rw [hn]; rfl) (fun i hi => by
    have : i = 0 := by omega
    subst this
    exact ⟨q1, q2, rfl⟩) (by rw [q3]; omega) (by omega) (fun s hs => by simp at hs)
  refine h T' a w hsm hsim Q K fun a' w' h1 => hK a' w' ?_
  rw [hn] at h1
  refine weak_raise (T := T'.app (stores (k + j) [x])) (fun s => ?_) a' w' h1
  have hl : T'.length = T.length := hsm.1
  by_cases c : k ≤ s ∧ s < k + cs.length
  · obtain ⟨m, rfl⟩ : ∃ m, s = k + m := ⟨s - k, by omega⟩
    have hm : m < cs.length := by omega
    have hg : cs[m]? = some cs[m] := List.getElem?_eq_getElem hm
    have e1 := St.at_stores T' k cs m _ hg (by omega)
    refine ⟨?_, ?_⟩
    · rw [e1, hcs m _ hg]
      by_cases e : m = j
      · subst e
        rw [if_pos rfl]
        exact (St.at_stores T' (k + m) [x] 0 x rfl (by simp; omega)).symm
      · rw [if_neg e, St.stores_out _ _ _ _ (by simp; omega), hsm.at_ (hkr m hm).1]
    · by_cases e : m = j
      · subst e
        have : St.gen (T'.app (stores (k + m) [x])) (k + m) = T'.gen (k + m) + 1 := by
          show (St.gen (T'.set (k + m) (T'.gen (k + m) + 1, x)) (k + m)) = _
          unfold St.gen
          rw [List.getD_eq_getElem?_getD, List.getElem?_set_self (by omega)]; rfl
        rw [this]
        exact St.gen_lt T' (stores k cs) (k + m) (by omega) ⟨cs[m], stores_mem hg⟩
      · have : St.gen (T'.app (stores (k + j) [x])) (k + m) = T'.gen (k + m) := congrArg Prod.fst (St.app_not T' (stores (k + j) [x]) (k + m) (by simp [stores]; omega))
        rw [this]
        exact St.gen_app T' _ _
  · rw [St.stores_out _ _ _ _ (by omega), St.stores_out _ _ _ _ (by simp; omega)]
    refine ⟨rfl, ?_⟩
    have : St.gen (T'.app (stores (k + j) [x])) s = T'.gen s := congrArg Prod.fst (St.app_not T' (stores (k + j) [x]) s (by simp [stores]; omega))
    rw [this]
    exact St.gen_app T' _ _
end
end Go.Proofs.Ytepeoiimdefnpaa.Vm
namespace Go.Proofs.Ytepeoiimdefnpaa.Vm
open Go
section
variable {P : Program} {C : Ctx} {T : St} {o : Oper} {d : Nat} {rd : List Nat}
theorem exec_index_boxarr (s t e m : Nat) (f : Bool) (cs : List V) (c : V) (ix : Operand) (kd : IntKind) (n : Int) (hop : o.op = .indexAddr t (.tmp s) ix) (hd : o.dst = some d) (hdn : d < C.nt) (hdl : d < T.length) (hdp : C.pin d = none) (hsr : s ∈ rd) (hs : s < C.nt) (hu : P.underlying t = some (.array m e)) (hsz : (P.info? e).map (·.size) = some 1)
    (hi : opv C T rd (.int kd n) ix) (h0 : 0 ≤ n) (hm : n < (m : Int)) (hx : T.at s = .box f cs) (hc : cs[n.toNat]? = some c) : Exec P C o rd T [(d, false, .box f [c])] :=
  exec_free _ hd hdn hdl hdp fun T' a w S F loc hsm hsim => by
    have hh := hsim.held s hs ((hsm.at_ hsr).trans hx) (by simp) (fun _ => by simp) rfl
    have he : a.eval (.tmp s) = a.tmps.getD s undef := rfl
    have hie := opv_eval hi hsm hsim
    generalize a.tmps.getD s undef = v at hh he
    cases hh with
    | box _ _ _ _ ad U h1 hi' =>
      refine ⟨.pointer (some (ad.add n.toNat)), ?_, .box _ _ f _ _ (fun i => U (n.toNat + i)) (fun i c' hc' => ?_) fun i c' hc' => ?_⟩
      · simp [execOp, hop, Instr.indexAt, Instr.sureAddr, run_underlying hu, he, hie, asIntOf, size_run hsz, h0, hm]
      · have hi0 : i = 0 := by
          cases i with
          | zero => rfl
          | succ i => simp at hc'
        subst hi0
        simp at hc'
        subst hc'
        have := h1 n.toNat c hc
        have e : (ad.add n.toNat).add 0 = ad.add n.toNat := by simp [Addr.add]
        rw [e]
        exact this
      · have hi0 : i = 0 := by
          cases i with
          | zero => rfl
          | succ i => simp at hc'
        subst hi0
        simp at hc'
        subst hc'
        exact hi' _ c hc
theorem exec_index_refarr (s r t e m sz i p : Nat) (ix : Operand) (kd : IntKind) (n : Int) (hop : o.op = .indexAddr t (.tmp s) ix) (hd : o.dst = some d) (hdn : d < C.nt) (hdl : d < T.length) (hdp : C.pin d = none) (hne : r ≠ d) (hsr : s ∈ rd) (hrr : r ∈ rd) (hs : s < C.nt) (hu : P.underlying t = some (.array m e)) (hsz : (P.info? e).map (·.size) = some 1)
    (hi : opv C T rd (.int kd n) ix) (h0 : 0 ≤ n) (hm : n < (m : Int)) (hx : T.at s = .ref r (T.gen r) sz i p) : Exec P C o rd T [(d, false, .ref r (T.gen r) sz i (p + n.toNat))] :=
  exec_link _ r rfl hrr hne hd hdn hdl hdp fun T' a w S F loc hsm hsim => by
    have h1 := hsim.slot s
    have hie := opv_eval hi hsm hsim
    rw [hsm.at_ hsr, hx] at h1
    obtain ⟨u, v, e1, e2, b, n', cap, rfl, rfl⟩ := h1.linked rfl (hsm.gen_ hrr)
    refine ⟨_, .pointer (some ⟨b, i * sz + (p + n.toNat), none⟩), ?_, e1, ⟨b, n', cap, rfl, rfl⟩, (hsim.ages s r _ (by rw [hsm.at_ hsr, hx]; rfl)).2⟩
    simp [execOp, hop, Instr.indexAt, Instr.sureAddr, run_underlying hu, conc_eval hs e2, hie, asIntOf, size_run hsz, h0, hm, addr_add_of, Nat.add_assoc]
/-- Ahead of an operation a slot's row is told as one that is written no more. -/
theorem same_app {T T' : St} {rd : List Nat} {s : Nat} {x : V} (h : Same T T' (s :: rd)) : Same (T.app [(s, false, x)]) (T'.app [(s, false, x)]) rd := by
  refine ⟨by rw [St.length_app, St.length_app]; exact h.1, fun t ht => ?_⟩
  rw [List.getD_eq_getElem?_getD, List.getD_eq_getElem?_getD, St.app_get, St.app_get]
  have e := h.2 t (List.mem_cons_of_mem _ ht)
  rw [List.getD_eq_getElem?_getD, List.getD_eq_getElem?_getD] at e
  by_cases hl : t < T.length
  · rw [List.getElem?_eq_getElem hl, List.getElem?_eq_getElem (by rw [h.1]; exact hl)] at e ⊢
    simp only [Option.getD_some] at e
    simp only [Option.map_some, e]
  · have hl' : ¬ t < T'.length := by rw [h.1]; exact hl
    rw [List.getElem?_eq_none (Nat.le_of_not_lt hl'), List.getElem?_eq_none (Nat.le_of_not_lt hl)]
theorem exec_frz {E : Eff} (s : Nat) (x : V) (hsl : s < T.length) (hx : T.at s = x) (hf : x.freezable = true) (h : Exec P C o rd (T.app [(s, false, x.frz)]) E) : Exec P C o (s :: rd) T ((s, false, x.frz) :: E) := fun T' a w hsm hs Q K hK => by
  have hw := weak_frz (C := C) (T := T') s x (by rw [hsm.1]; exact hsl) (by rw [hsm.at_ List.mem_cons_self]; exact hx) hf a w hs
  exact h _ a w (same_app hsm) hw Q K fun a' w' h1 => hK a' w' h1
end
end Go.Proofs.Ytepeoiimdefnpaa.Vm
namespace Go.Proofs.Ytepeoiimdefnpaa.Vm
open Go
theorem asInt_int (P : Program) (k : IntKind) (n : Int) (w : World) : (asIntOf (.int k n)).run P w = .ok (k, n) w := rfl
section
variable {P : Program} {C : Ctx} {T : St} {rd : List Nat} {o : Oper} {d : Nat}
theorem exec_index_str {t : TypeId} {x ix : Operand} {s : ByteArray} {k : IntKind} {n : Int} (hop : o.op = .index t x ix) (hd : o.dst = some d) (hdn : d < C.nt) (hdl : d < T.length) (hdp : C.pin d = none) (ht : P.underlying t = some .string)
    (hx : opnd C T rd x (.string s)) (hi : opnd C T rd ix (.int k n)) (h0 : 0 ≤ n) (hn : n.toNat < s.size) : Exec P C o rd T [(d, false, .sc (.int .u8 (s.get n.toNat hn).toNat))] :=
  exec_free _ hd hdn hdl hdp fun T' a w S F loc hs hsim => ⟨_, by
    have e : (if 0 ≤ n then s[n.toNat]? else none) = some (s.get n.toNat hn) := by
      rw [if_pos h0]
      exact getElem?_pos s n.toNat hn
    simp only [execOp, hop, opnd_eval hx hs hsim, opnd_eval hi hs hsim, Instr.index, Sem.run_bind, asInt_int, run_underlying ht, Result.andThen_ok, e, Sem.run_pure], .sc ..⟩
theorem sbound_run {k : IntKind} {n : Int} {y : Nat} {c : BoundsCode} (h0 : 0 ≤ n) (h1 : n ≤ y) (w : World) : (Instr.sliceBound (.int k n) y c).run P w = .ok n.toNat w := by
  simp only [Instr.sliceBound, Sem.run_bind, asInt_int, Result.andThen_ok, if_pos (show 0 ≤ n ∧ n ≤ (y : Int) from ⟨h0, h1⟩), Sem.run_pure]
/-- A bound that is told, or isn't. -/
def sbnd (C : Ctx) (T : St) (rd : List Nat) (z : Nat) : Option Operand → Nat → Prop
  | none, n => n = z
  | some x, n => ∃ k, opnd C T rd x (.int k (n : Int))
theorem exec_slice_str {t : TypeId} {x : Operand} {lo hi : Option Operand} {s : ByteArray} {l h : Nat} (hop : o.op = .slice t x lo hi none) (hd : o.dst = some d) (hdn : d < C.nt) (hdl : d < T.length) (hdp : C.pin d = none) (ht : P.underlying t = some .string)
    (hx : opnd C T rd x (.string s)) (hl : sbnd C T rd 0 lo l) (hh : sbnd C T rd s.size hi h) (h1 : l ≤ h) (h2 : h ≤ s.size) : Exec P C o rd T [(d, false, .sc (.string (s.extract l h)))] :=
  exec_free _ hd hdn hdl hdp fun T' a w S F loc hs hsim => ⟨_, by
    have b : (Instr.sliceBounds false s.size s.size (lo.map a.eval) (hi.map a.eval) none).run P w = .ok (l, h, s.size) w := by
      have h2' : (h : Int) ≤ (s.size : Int) := by omega
      have h1' : (l : Int) ≤ (h : Int) := by omega
      cases lo with
      | none =>
        have el : l = 0 := hl
        cases hi with
        | none =>
          have eh : h = s.size := hh
          subst el eh
          rfl
        | some y =>
          obtain ⟨k, hk⟩ := hh
          subst el
          simp only [Instr.sliceBounds, Option.map_none, Option.map_some, opnd_eval hk hs hsim, Sem.run_bind, Sem.run_pure, Result.andThen_ok, sbound_run (P := P) (Int.natCast_nonneg h) h2', Int.toNat_natCast]
      | some z =>
        obtain ⟨k', hk'⟩ := hl
        cases hi with
        | none =>
          have eh : h = s.size := hh
          subst eh
          simp only [Instr.sliceBounds, Option.map_none, Option.map_some, opnd_eval hk' hs hsim, Sem.run_bind, Sem.run_pure, Result.andThen_ok, sbound_run (P := P) (Int.natCast_nonneg l) h1', Int.toNat_natCast]
        | some y =>
          obtain ⟨k, hk⟩ := hh
          simp only [Instr.sliceBounds, Option.map_some, opnd_eval hk hs hsim, opnd_eval hk' hs hsim, Sem.run_bind, Sem.run_pure, Result.andThen_ok, sbound_run (P := P) (Int.natCast_nonneg h) h2', sbound_run (P := P) (Int.natCast_nonneg l) h1', Int.toNat_natCast]
    simp only [execOp, hop, opnd_eval hx hs hsim, Instr.sliceAt, Instr.slice, Option.map_none, Option.isSome_none, Bool.false_eq_true, if_false, Sem.run_bind, run_underlying ht, Result.andThen_ok, b, Sem.run_pure], .sc ..⟩
theorem exec_range {t : TypeId} {x : Operand} {s : ByteArray} (hop : o.op = .range t x) (hd : o.dst = some d) (hdn : d < C.nt) (hdl : d < T.length) (hdp : C.pin d = none) (ht : P.underlying t = some .string) (hx : opnd C T rd x (.string s)) : Exec P C o rd T [(d, false, .iter s 0)] :=
  exec_of [] (.iter s 0) hd hdn hdl hdp (fun s hs => by simp at hs) fun T' a w S F loc hs hsim => by
    refine ⟨.pointer (some ⟨w.heap.size, 0, none⟩), w.alloc (.stringIter s 0), S, fun b _ => b = w.heap.size, ?_, ⟨rfl, rfl, rfl, by simp, Agree.alloc w _ _ fun b o' hb => hb.1⟩, fun _ _ h => h, fun _ _ h => .inl h, fun b o' hb => .inr ⟨by omega, by subst hb; simp, fun hS => by subst hb; have := hsim.stay _ _ (.inl hS); omega⟩, fun s hs => by simp at hs, .inl ?_⟩
    · simp only [execOp, hop, opnd_eval hx hs hsim, Instr.range, Sem.run_bind, run_underlying ht, Result.andThen_ok, Sem.run_pure]
      rfl
    · exact .iter _ _ s 0 w.heap.size (by show (w.heap.push _)[w.heap.size]? = _; simp) fun _ => rfl
def wput (w : World) (b : Nat) (x : Obj) : World := { w with heap := w.heap.setIfInBounds b x }
/-- An iterator of a slot's own goes on. -/
theorem SimB.goOn {a : Act} {w : World} {S : Foot} {F : Nat → Foot} {loc : Nat → Addr} (h : SimB C T a w S F loc) {r : Nat} (hr : r < C.nt) (hrl : r < T.length) {s : ByteArray} {p q b : Nat} (hx : T.at r = .iter s p) (hv : conc C a w loc r = some (.pointer (some ⟨b, 0, none⟩))) (hb : w.heap[b]? = some (.stringIter s p)) (hF : ∀ o, F r b o) :
    SimB C (T.app [(r, true, .iter s q)]) a (wput w b (.stringIter s q)) S F loc := by
  have hne : ∀ c, c ≠ b → (wput w b (.stringIter s q)).heap[c]? = w.heap[c]? := fun c hc => by
    simp [wput, Array.getElem?_setIfInBounds_ne (Ne.symm hc)]
  have hbl : b < w.heap.size := (Array.getElem?_eq_some_iff.1 hb).1
  have heq : (wput w b (.stringIter s q)).heap[b]? = some (.stringIter s q) := by
    simp [wput, hbl]
  have hsz : (wput w b (.stringIter s q)).heap.size = w.heap.size := by simp [wput]
  have hat : (T.app [(r, true, .iter s q)]).at r = .iter s q := St.at_last T [] r true _ hrl
  have hnot : ∀ t, t ∉ [r] → (T.app [(r, true, .iter s q)]).getD t (0, .no) = T.getD t (0, .no) := fun t ht => St.app_not T _ t (by simpa using ht)
  refine h.upd [r] hnot rfl h.defers h.pins ⟨rfl, rfl, rfl, by rw [hsz]; exact Nat.le_refl _, ?_⟩ (fun _ _ h => h) (fun _ _ h => .inl h) (fun _ _ => rfl) (fun k hk => ⟨rfl, ?_⟩) (fun _ _ _ _ => rfl) (fun _ _ _ => rfl) (fun t ht _ _ => ?_) (fun t _ => St.gen_app _ _ _) (fun t u _ htu b' o' h1 h2 => h.apart t u htu b' o' h1 h2) (fun t _ b' o' h1 => ?_) (fun t ht x g hg => ?_) (fun t ht => ?_) (fun t ht hn => ?_) (fun s' r' hd hr' hw => ?_)
  · have key : ∀ b' o', others C w S F [r] b' o' → b' ≠ b := fun b' o' hA e => by
      subst e
      have m := h.mine r b' o' (hF o')
      rcases hA.2 with hA | hA | ⟨s', hs'', hA⟩ | ⟨hA, hA'⟩
      · exact m.1 hA
      · exact m.2.1 hA
      · exact h.apart s' r (fun e => hs'' (by simp [e])) b' o' hA (hF o')
      · rcases m.2.2.2 with h5 | h5
        · omega
        · exact hA' h5
    exact ⟨fun b' hA => hne b' (key b' 0 (hA 0)), fun b' o' hA => World.cell?_of_block (hne b' (key b' o' hA)), fun b' o' hA => World.frozen?_of_block (hne b' (key b' o' hA))⟩
  · by_cases e : k = r
    · subst e; rw [hat]; simp
    · have := hnot k (by simpa using e)
      unfold St.at
      rw [this]
      exact hk
  · obtain rfl : t = r := by simpa using ht
    unfold conc
    rw [if_pos hr, if_pos hr]
  · have m := h.mine t b' o' h1
    rw [hsz]
    exact m
  · obtain rfl : t = r := by simpa using ht
    rw [hat] at hg
    simp [V.root] at hg
  · obtain rfl : t = r := by simpa using ht
    rw [hat]
    refine SlotOk.plain ⟨_, ?_, .iter _ _ s q b heq fun o' => ⟨hF o', fun q => by omega⟩⟩
    unfold conc at hv ⊢
    rw [if_pos hr] at hv ⊢
    exact hv
  · obtain rfl : t = r := by simpa using ht
    omega
  · exfalso
    by_cases hs' : s' = r
    · subst hs'; rw [hat] at hd; cases hd
    · have hr2 : r' = r := by simpa [hs'] using hw
      subst hr2
      have e : (T.app [(r', true, .iter s q)]).at s' = T.at s' := congrArg Prod.snd (hnot s' (by simpa using hs'))
      rw [e] at hd hr'
      rw [St.gen_keep1] at hr'
      obtain ⟨_, _, y, _, _, h3, h4, _⟩ := h.deep s' r' hd hr'
      rw [hx] at h3
      cases hp : (T.at s').path with
      | nil => rw [hp] at h3; injection h3 with h3; subst h3; cases h4
      | cons => rw [hp] at h3; cases h3
theorem St.app_app (T : St) (E E' : Eff) : (T.app E).app E' = T.app (E ++ E') := by unfold St.app; rw [List.foldl_append]
theorem run_getObj_iter {w : World} {b p : Nat} {s : ByteArray} (h : w.heap[b]? = some (.stringIter s p)) : (getObj b).run P w = .ok (.stringIter s p) w := by simp [getObj, Sem.run, h]
theorem run_setObj_iter {w : World} {b p : Nat} {s : ByteArray} (x : Obj) (h : w.heap[b]? = some (.stringIter s p)) : (setObj b x).run P w = .ok () (wput w b x) := by simp [setObj, Sem.run, h, wput]
theorem next_get {a : Act} {w : World} {S : Foot} {F : Nat → Foot} {loc : Nat → Addr} {T' : St} (hsim : SimB C T' a w S F loc) {r : Nat} {s : ByteArray} {p : Nat} (hx : T'.at r = .iter s p) : ∃ b, conc C a w loc r = some (.pointer (some ⟨b, 0, none⟩)) ∧ w.heap[b]? = some (.stringIter s p) ∧ ∀ o, F r b o := by
  have hsl := hsim.slot r
  rw [hx] at hsl
  obtain ⟨v, hv, hh⟩ := hsl.held (by simp) (fun _ => by simp) rfl
  cases hh with
  | iter _ _ _ _ b hb hF => exact ⟨b, hv, hb, fun o => (hF o).1⟩
/-- There is a rune more. -/
theorem exec_next {r p : Nat} {s : ByteArray} (hop : o.op = .next (.tmp r) true) (hd : o.dst = some d) (hdn : d < C.nt) (hdl : d < T.length) (hdp : C.pin d = none) (hrr : r ∈ rd) (hr : r < C.nt) (hrl : r < T.length) (hx : T.at r = .iter s p) (hp : p < s.size) :
    Exec P C o rd T [(r, true, .iter s (p + (Utf8.decode s p).2)), (d, false, .tup [.sc (.bool true), .sc (.int .i64 p), .sc (.int .i32 (Utf8.decode s p).1)])] := by
  intro T' a w hsm ⟨S, F, loc, hsim⟩ Q K hK
  obtain ⟨b, hv, hb, hF⟩ := next_get hsim ((hsm.at_ hrr).trans hx)
  have hrun : (execOp a.eval o).run P w = .ok (.value (.tuple #[.bool true, goInt p, .int .i32 (Utf8.decode s p).1])) (wput w b (.stringIter s (p + (Utf8.decode s p).2))) := by
    simp only [execOp, hop, conc_eval hr hv, Instr.next, Sem.run_bind, run_getObj_iter hb, Result.andThen_ok, if_pos hp, run_setObj_iter _ hb, Sem.run_pure]
  unfold Oper.wp
  rw [hrun]
  show K (a.put o.dst _) _
  rw [hd]
  refine hK _ _ ?_
  have h1 := hsim.goOn (q := p + (Utf8.decode s p).2) hr (by rw [hsm.1]; exact hrl) ((hsm.at_ hrr).trans hx) hv hb hF
  have h2 := h1.put [] d (.tup [.sc (.bool true), .sc (.int .i64 p), .sc (.int .i32 (Utf8.decode s p).1)]) (.tuple #[.bool true, goInt p, .int .i32 (Utf8.decode s p).1]) Foot.none hdn (by rw [St.length_app, hsm.1]; exact hdl) hdp (fun s hs => by simp at hs) (.refl _ _) (fun _ _ h => h) (fun _ _ h => .inl h) (fun _ _ h => h.elim) (fun s hs => by simp at hs) (.inl ?_)
  · rw [St.app_app] at h2
    exact h2
  · refine .tup _ _ _ _ (fun _ => Foot.none) rfl (Split.none _) fun i u c hu hc => ?_
    match i with
    | 0 => simp at hu hc; subst hu hc; exact .sc ..
    | 1 => simp at hu hc; subst hu hc; exact .sc ..
    | 2 => simp at hu hc; subst hu hc; exact .sc ..
    | i + 3 => simp at hc
/-- There is none. -/
theorem exec_next_over {r p : Nat} {s : ByteArray} (hop : o.op = .next (.tmp r) true) (hd : o.dst = some d) (hdn : d < C.nt) (hdl : d < T.length) (hdp : C.pin d = none) (hrr : r ∈ rd) (hr : r < C.nt) (hx : T.at r = .iter s p) (hp : s.size ≤ p) :
    Exec P C o rd T [(d, false, .tup [.sc (.bool false)])] :=
  exec_free _ hd hdn hdl hdp fun T' a w S F loc hs hsim => by
    obtain ⟨b, hv, hb, hF⟩ := next_get hsim ((hs.at_ hrr).trans hx)
    refine ⟨.tuple #[.bool false], ?_, .tup _ _ _ _ (fun _ => Foot.none) rfl (Split.none _) fun i u c hu hc => ?_⟩
    · simp only [execOp, hop, conc_eval hr hv, Instr.next, Sem.run_bind, run_getObj_iter hb, Result.andThen_ok, if_neg (show ¬ p < s.size by omega), Sem.run_pure]
    · match i with
      | 0 => simp at hu hc; subst hu hc; exact .sc ..
      | i + 1 => simp at hc
end
/-- A part of several results that nobody uses: what is read is that there are several. -/
theorem step_part {P : Program} {C : Ctx} {T : St} {rd : List Nat} {ops : Array Oper} {i : Nat} {o : Oper} {d : Nat} (s ix : Nat) (ho : ops[i]? = some o) (hg : o.guard = none) (hop : o.op = .extract (.tmp s) ix) (hd : o.dst = some d) (hdn : d < C.nt) (hdl : d < T.length) (hdp : C.pin d = none) (hs : s < C.nt) (hix : ix < 2) (hr : T.length + s ∈ rd) : StepJ P C ops i rd T [(d, false, .dead)] := by
  intro T' a w hsm hshp ⟨S, F, loc, h⟩ Q K hK
  have hp := hshp s (by rw [hsm.1]; exact hr)
  obtain ⟨cs, hxs, hcs⟩ : ∃ cs, T'.at s = .tup cs ∧ 2 ≤ cs.length := by
    cases hx : T'.at s <;> rw [hx] at hp <;> first | cases hp | exact ⟨_, rfl, Nat.le_of_ble_eq_true hp⟩
  have hsl' := h.slot s
  rw [hxs] at hsl'
  obtain ⟨v, h5, hh⟩ := hsl'.held (by simp) (fun _ => by simp) rfl
  cases hh with
  | tup _ _ vs _ G hn hs' hi =>
  have hv : vs[ix]? = some vs[ix] := Array.getElem?_eq_getElem (by omega)
  have hr : (execOp a.eval o).run P w = .ok (.value vs[ix]) w := by simp [execOp, hop, conc_eval hs h5, Instr.extract, hv]
  unfold wpOp
  simp only [ho, Region.wanted, hg, if_true]
  refine .inl ?_
  unfold Oper.wp
  rw [hr]
  show K (a.put o.dst _) w
  rw [hd]
  exact hK _ _ (h.put [] d .dead _ Foot.none hdn (by rw [hsm.1]; exact hdl) hdp (fun s hs => by simp at hs) (.refl _ _) (fun _ _ h => h) (fun _ _ h => .inl h) (fun _ _ h => h.elim) (fun s hs => by simp at hs) (.inl (.dead ..)))
/-- A part is taken out of a call's results; the others stay. -/
theorem exec_extract_part {P : Program} {C : Ctx} {T : St} {rd : List Nat} {o : Oper} {d : Nat} (s ix : Nat) (cs cs' : List V) (c : V) (hop : o.op = .extract (.tmp s) ix) (hd : o.dst = some d) (hdn : d < C.nt) (hdl : d < T.length) (hdp : C.pin d = none) (hsr : s ∈ rd) (hs : s < C.nt) (hsl : s < T.length) (hsd : s ≠ d) (hx : T.at s = .tup cs) (hc : cs[ix]? = some c) (ht : cs.set ix .dead = cs') :
    Exec P C o rd T [(s, false, .tup cs'), (d, false, c)] := by
  intro T' a w hsm ⟨S, F, loc, h⟩ Q K hK
  subst ht
  have hxs : T'.at s = .tup cs := (hsm.at_ hsr).trans hx
  have hsl' := h.slot s
  rw [hxs] at hsl'
  obtain ⟨v, h5, hh⟩ := hsl'.held (by simp) (fun _ => by simp) rfl
  have hTl := hsm.1
  generalize hIF : inner C (F s) loc s = IF at hh
  have hthin : ∃ vs, v = .tuple vs ∧ Hold w S C.B IF (.tuple vs) (.tup cs) := by
    cases hh with
    | tup _ _ vs _ G hn hs' hi => exact ⟨vs, rfl, .tup _ _ vs _ G hn hs' hi⟩
  obtain ⟨vs, rfl, hh⟩ := hthin
  cases hh with
  | tup _ _ _ _ G hn hs' hi =>
  have hix := (List.getElem?_eq_some_iff.1 hc).1
  have hv : vs[ix]? = some vs[ix] := Array.getElem?_eq_getElem (by omega)
  have hr : (execOp a.eval o).run P w = .ok (.value vs[ix]) w := by simp [execOp, hop, conc_eval hs h5, Instr.extract, hv]
  unfold Oper.wp
  rw [hr]
  show K (a.put o.dst _) w
  rw [hd]
  refine hK _ _ ?_
  have hcu := hi ix _ c hv hc
  have hpl := hold_plain hcu
  have hW : ∀ t, t ∈ [s, d] ↔ t = s ∨ t = d := fun t => by simp
  have hatd : (T'.app [(s, false, .tup (cs.set ix .dead)), (d, false, c)]).at d = c := St.at_last T' [(s, false, .tup (cs.set ix .dead))] d false c (by omega)
  have hats : (T'.app [(s, false, .tup (cs.set ix .dead)), (d, false, c)]).at s = .tup (cs.set ix .dead) := by
    rw [show [(s, false, V.tup (cs.set ix .dead)), (d, false, c)] = [(s, false, V.tup (cs.set ix .dead))] ++ [(d, false, c)] from rfl, St.at_mid T' _ s d false c (Ne.symm hsd)]
    exact St.app_one T' s _ (by omega)
  have hnot : ∀ t, t ∉ [s, d] → (T'.app [(s, false, .tup (cs.set ix .dead)), (d, false, c)]).getD t (0, .no) = T'.getD t (0, .no) := fun t ht => St.app_not T' _ t (by simpa using ht)
  have hgl : ∀ t, t ∈ [s, d] → T'.gen t < St.gen (T'.app [(s, false, .tup (cs.set ix .dead)), (d, false, c)]) t := fun t ht => by
    rcases (hW t).1 ht with rfl | rfl
    · exact St.gen_lt T' _ _ (by omega) ⟨.tup (cs.set ix .dead), by simp⟩
    · exact St.gen_lt T' _ _ (by omega) ⟨c, by simp⟩
  have hsub : ∀ b o', G ix b o' → F s b o' := fun b o' hg => by
    have := hs'.sub ix b o' hg
    rw [← hIF] at this
    exact this.1
  refine ⟨S, fun t => if t = d then G ix else if t = s then (fun b o' => F s b o' ∧ ¬ G ix b o') else F t, loc, h.upd [s, d] hnot (by simp [Act.put]) (by simpa [Act.put] using h.defers) (fun t v' hv' => by
      rw [put_get (fun e => by rw [← e, hdp] at hv'; cases hv')]
      exact h.pins t v' hv') (.refl _ _) (fun _ _ h => h) (fun _ _ h => .inl h) (fun t ht => ?_) (fun t ht => ⟨rfl, ?_⟩) (fun _ _ _ _ => rfl) (fun t ht _ => put_get fun e => ht ((hW t).2 (.inr e.symm)))
    (fun r hr he _ => absurd he (by have := hgl r hr; omega)) (fun r hr => Nat.le_of_lt (hgl r hr)) (fun t t' ht htt b o' hb hb' => ?_) (fun t ht b o' hb => ?_) (fun t ht r g hr => ?_) (fun t ht => ?_) (fun t ht hns hx' => ?_) (h.nodeep hnot hgl fun t ht => ?_)⟩
  · have e1 : t ≠ d := fun e => ht ((hW t).2 (.inr e))
    have e2 : t ≠ s := fun e => ht ((hW t).2 (.inl e))
    simp [e1, e2]
  · by_cases htd : t = d
    · subst htd; rw [hatd]; exact hpl.1
    · by_cases hts : t = s
      · subst hts; rw [hats]; simp
      · have := hnot t (fun hm => ((hW t).1 hm).elim hts htd)
        unfold St.at
        rw [this]
        exact ht
  · have part : ∀ t b o', (if t = d then G ix else if t = s then (fun b o' => F s b o' ∧ ¬ G ix b o') else F t : Foot) b o' → (t = d ∧ G ix b o') ∨ (t = s ∧ F s b o' ∧ ¬ G ix b o') ∨ (t ≠ d ∧ t ≠ s ∧ F t b o') := fun t b o' hb => by
      by_cases h0 : t = d
      · rw [if_pos h0] at hb; exact .inl ⟨h0, hb⟩
      · rw [if_neg h0] at hb
        by_cases h1 : t = s
        · rw [if_pos h1] at hb; exact .inr (.inl ⟨h1, hb⟩)
        · rw [if_neg h1] at hb; exact .inr (.inr ⟨h0, h1, hb⟩)
    rcases part t b o' hb with ⟨p1, p2⟩ | ⟨p1, p2⟩ | ⟨p1, p2, p3⟩ <;> rcases part t' b o' hb' with ⟨q1, q2⟩ | ⟨q1, q2⟩ | ⟨q1, q2, q3⟩
    · exact htt (p1.trans q1.symm)
    · exact q2.2 p2
    · exact h.apart s t' (Ne.symm q2) _ _ (hsub _ _ p2) q3
    · exact p2.2 q2
    · exact htt (p1.trans q1.symm)
    · exact h.apart s t' (Ne.symm q2) _ _ p2.1 q3
    · exact h.apart s t (Ne.symm p2) _ _ (hsub _ _ q2) p3
    · exact h.apart s t (Ne.symm p2) _ _ q2.1 p3
    · exact h.apart t t' htt _ _ p3 q3
  · rcases (hW t).1 ht with rfl | rfl
    · rw [if_neg hsd, if_pos rfl] at hb
      exact h.mine t b o' hb.1
    · rw [if_pos rfl] at hb
      exact h.mine s b o' (hsub _ _ hb)
  · rcases (hW t).1 ht with rfl | rfl
    · rw [hats] at hr; simp [V.root] at hr
    · rw [hatd, hpl.2.2] at hr; cases hr
  · rcases (hW t).1 ht with rfl | rfl
    · rw [hats]
      have hdie : Hold w S C.B (fun b o' => F t b o' ∧ ¬ G ix b o') (.tuple vs) (.tup (cs.set ix .dead)) := by
        refine .tup _ _ vs _ (fun k => if k = ix then Foot.none else G k) (by simpa using hn) ⟨fun k b o' hb => ?_, fun k k' hk b o' hb hb' => ?_⟩ fun i u c0 hu hc0 => ?_
        · by_cases e : k = ix
          · rw [if_pos e] at hb; exact hb.elim
          · rw [if_neg e] at hb
            have := hs'.sub k b o' hb
            rw [← hIF] at this
            exact ⟨this.1, fun q => hs'.apart k ix e b o' hb q⟩
        · by_cases e : k = ix
          · rw [if_pos e] at hb; exact hb.elim
          · by_cases e' : k' = ix
            · rw [if_pos e'] at hb'; exact hb'.elim
            · rw [if_neg e] at hb
              rw [if_neg e'] at hb'
              exact hs'.apart k k' hk b o' hb hb'
        · by_cases e : i = ix
          · rw [if_pos e]
            subst e
            rw [List.getElem?_set_self hix] at hc0
            injection hc0 with hc0
            subst hc0
            exact .dead ..
          · rw [if_neg e]
            rw [List.getElem?_set_ne (Ne.symm e)] at hc0
            exact hi i u c0 hu hc0
      refine SlotOk.plain ⟨.tuple vs, ?_, hdie.mono (fun _ _ h => h) (fun _ _ h => h) fun b o' hb => ⟨by rw [if_neg hsd, if_pos rfl]; exact hb, fun e => by have := e.1; omega⟩⟩
      unfold conc at h5 ⊢
      rw [if_pos hs] at h5 ⊢
      rw [put_get (Ne.symm hsd)]
      exact h5
    · rw [hatd]
      refine SlotOk.plain ⟨_, ?_, hcu.mono (fun _ _ h => h) (fun _ _ h => h) fun b o' hb => ⟨?_, fun e => by have := e.1; omega⟩⟩
      · unfold conc
        rw [if_pos hdn]
        exact put_self (by rw [h.size]; exact hdn)
      · simpa using hb
  · rcases (hW t).1 ht with rfl | rfl
    · omega
    · omega
  · rcases (hW t).1 ht with rfl | rfl
    · rw [hats]; rfl
    · rw [hatd]; exact V.not_deep hpl.2.2
end Go.Proofs.Ytepeoiimdefnpaa.Vm
namespace Go.Proofs.Ytepeoiimdefnpaa.Vm
open Go
/-- A string's bytes, each a cell. -/
def strVs (s : ByteArray) : List (List V) := s.data.toList.map fun b => [.sc (.int .u8 b.toNat)]
theorem strVs_length (s : ByteArray) : (strVs s).length = s.size := by rw [strVs, List.length_map, Array.length_toList]; rfl
theorem strCells_get (s : ByteArray) (j : Nat) : (Lib.strCells s)[j]? = (s.data.toList[j]?).map fun b => Value.int .u8 b.toNat := by rw [Lib.strCells, List.getElem?_map]
/-- append of a string: where the new row lies. -/
theorem append_str_run {P : Program} {w : World} {t u ty e : Nat} (ht : P.underlying t = some (.slice e)) (hu : P.underlying u = some .string) (he : elemT P e (.int .u8 0) 1 1) {v : Value} {n : Nat} {xs : List Value} (hown : w.ownsRow 0 e 1 v n xs) (s : ByteArray)
    (hb : n + s.size ≤ 140737488355328) (h63 : n + s.size ≤ maxLen) :
    ∃ v' w', (Builtin.append_ #[t, u] ty #[v, .string s]).run P w = .ok v' w' ∧ w'.ownsRow 0 e 1 v' (n + s.size) (xs ++ Lib.strCells s) ∧ w.grownBy w' v.ownBlock ∧ (v'.ownBlock = v.ownBlock ∨ v'.ownBlock = some w.heap.size ∧ w.heap.size < w'.heap.size) := by
  obtain ⟨i, hi, hz, hs, hby⟩ := he.get
  obtain ⟨v', w', hr, h2, h3, h4⟩ := Lib.run_append_own_string (P := P) w 0 t u ty e i ht hu hi hz hs hby v n xs hown s h63 hb (Nat.zero_le _)
  refine ⟨v', w', hr, h2, h3, ?_⟩
  simp only [maxLen] at h63
  have hxl : xs.length = n := by simpa using hown.1
  rcases hown.2 with ⟨rfl, rfl⟩ | ⟨g, cap, cur, rfl, hbg, hg, hnc, hcm, hcs, htake⟩
  · by_cases hm : s.size = 0
    · rw [h4.2 ⟨rfl, hm⟩]; exact .inl rfl
    · have := run_append_nil_string (P := P) w t u ty e i (.int .u8 0) ht hu hi hz s (by omega) (by omega) (by rw [hby]; omega)
      rw [this] at hr
      injection hr with e1 e2
      subst e1 e2
      exact .inr ⟨rfl, by simp⟩
  · by_cases hroom : n + s.size ≤ cap
    · have hcc : cur.size = cap := by simpa using hcs
      have := Lib.run_append_room_string (P := P) w t u ty e i ht hu hi hs g n cap cur hg s hroom (by omega)
      rw [this] at hr
      injection hr with e1 e2
      subst e1
      exact .inl rfl
    · have := Lib.run_append_grow_string (P := P) w t u ty e i (.int .u8 0) ht hu hi hz ⟨g, 0, none⟩ n cap xs (by rw [hs]; simpa using hxl) (hown.cells (g := g) rfl) s (by omega) (by omega) (by rw [hby]; exact growslice_fits (by omega) (by omega))
      rw [this] at hr
      injection hr with e1 e2
      subst e1 e2
      exact .inr ⟨rfl, by simp⟩
section
variable {P : Program} {C : Ctx} {T : St} {rd : List Nat} {o : Oper} {d : Nat}
theorem exec_append_str {s r t u e : Nat} {x : Operand} {es : List (List V)} {str : ByteArray} (hop : o.op = .call { callee := .builtin .append, args := #[.tmp s, x], argTypes := #[t, u] }) (hd : o.dst = some d) (hdn : d < C.nt) (hdl : d < T.length) (hdp : C.pin d = none) (hrl : r < T.length)
    (ht : P.underlying t = some (.slice e)) (hu : P.underlying u = some .string) (he : elemT P e (.int .u8 0) 1 1) (ho : Own1 C T rd s r e 1 es) (hx : opnd C T rd x (.string str)) (hb : es.length + str.size ≤ 140737488355328) (h63 : es.length + str.size ≤ maxLen) :
    Exec P C o rd T [(r, false, .dead), (d, false, .own e 1 (es ++ strVs str))] :=
  exec_of [r] _ hd hdn hdl hdp (fun s hs => by rw [List.mem_singleton.1 hs]; exact hrl) fun T' a w S F loc hsm hsim => by
    obtain ⟨e1, _, _, v, e2, _, hh⟩ := ho.get hsm hsim
    have e3 := opnd_eval hx hsm hsim
    have hmine : ∀ s b o', inner C (F s) loc s b o' → b < w.heap.size := fun s b o' h => (hsim.mine s b o' h.1).2.2.1
    have hown : ∃ us, w.ownsRow 0 e 1 v es.length us ∧ ∀ b, v.ownBlock = some b → ∀ o', inner C (F r) loc r b o' := by
      cases hh with
      | own _ _ _ _ _ _ us G hz hp how hFv hs hG hone hi => exact ⟨us, how, hFv⟩
    obtain ⟨us, how, hFv⟩ := hown
    obtain ⟨v', w', hrun, hr1, hr2, hr3⟩ := append_str_run (P := P) (ty := o.type) ht hu he how str hb h63
    have hmv : Agree w w' (spare C w F loc [r]) := Agree.grown hr2 _ fun b o' h => ⟨h.1, fun e' => h.2 r (by simp) (hFv b e'.symm o')⟩
    refine ⟨v', w', S, fun b o' => (∃ s, s ∈ [r] ∧ inner C (F s) loc s b o') ∨ b = w.heap.size ∧ w.heap.size < w'.heap.size, ?_, ⟨hr2.os, hr2.tape, hr2.output, hr2.size, hmv⟩, fun _ _ h => h, fun _ _ h => .inl h, fun b o' h => ?_, fun s hs => ?_, .inl ?_⟩
    · simp only [execOp, hop, resolve, invoke, builtin, Sem.run_bind, Sem.run_pure, Result.andThen_ok, List.map_toArray, List.map_cons, List.map_nil, e2, e3, hrun]
    · rcases h with h | ⟨rfl, h⟩
      · exact .inl h
      · exact .inr ⟨Nat.le_refl _, h, fun hS => by have := hsim.stay _ _ (.inl hS); omega⟩
    · rw [List.mem_singleton.1 hs, e1]; simp
    · have one : ∀ (j i : Nat) (el : List V) (c : V) (u : Value), (strVs str)[j]? = some el → el[i]? = some c → (Lib.strCells str)[j * 1 + i]? = some u → Hold w' S Foot.none Foot.none u c := fun j i el c u hel hc hu => by
        rw [strVs, List.getElem?_map] at hel
        obtain ⟨b, hb, rfl⟩ := Option.map_eq_some_iff.1 hel
        have hi : i = 0 := by
          have := (List.getElem?_eq_some_iff.1 hc).1
          simp at this; omega
        subst hi
        rw [Nat.mul_one, Nat.add_zero, strCells_get, hb] at hu
        simp only [List.getElem?_cons_zero, Option.some.injEq] at hc
        simp only [Option.map_some, Option.some.injEq] at hu
        subst hc hu
        exact .sc ..
      refine hh.append (news := Lib.strCells str) (es2 := strVs str) (fun us' hus' => by rw [owns_unique how hus', strVs_length]; exact ⟨hr1, hr2, hr3⟩) (fun e he => ?_) (fun u hu => Lib.strCells_oneCell str u hu) (fun _ => Foot.none) (fun _ _ _ _ _ h => h.elim) one (fun b o' h => .inl ⟨r, by simp, h⟩) (fun k b o' h => h.elim) (fun h o' => .inr ⟨rfl, h⟩) (fun b o' h => hmine r b o' h) (fun b o' hS h => (hsim.mine r b o' h.1).1 hS) (fun b o' hS => hsim.stay b o' (.inl hS))
      rw [strVs] at he
      obtain ⟨b, _, rfl⟩ := List.mem_map.1 he
      rfl
/-- A row of bytes as a string. -/
theorem exec_bytes_str {s src dst e : Nat} {xs : List Int} (hop : o.op = .convert src dst (.tmp s)) (hd : o.dst = some d) (hdn : d < C.nt) (hdl : d < T.length) (hdp : C.pin d = none)
    (hs : P.underlying src = some (.slice e)) (he : P.underlying e = some (.int .u8)) (hdst : P.underlying dst = some .string) (hr : Rowy C T rd s 1 (xs.map fun n => [V.sc (.int .u8 n)])) : Exec P C o rd T [(d, false, .sc (.string (strOfNums xs)))] :=
  exec_free _ hd hdn hdl hdp fun T' a w S F loc hsm hsim => ⟨_, by
    obtain ⟨v, A, cap, ev, rv⟩ := hr.get hsm hsim
    have e3 : v = .slice A xs.length cap := by rw [rv.eq, List.length_map]
    subst e3
    have cl : ∀ j, j < xs.length → ∃ ad, A = some ad ∧ w.cell? (ad.add j) = some (.int .u8 (xs.getD j 0)) := fun j hj => by
      obtain ⟨ad, u, h1, h2, h3, h4⟩ := rv.cell j 0 [V.sc (.int .u8 (xs.getD j 0))] _ (by rw [List.getElem?_map, List.getElem?_eq_getElem hj]; simp [List.getD, List.getElem?_eq_getElem hj]) rfl
      refine ⟨ad, h1, ?_⟩
      rw [Nat.mul_one, Nat.add_zero] at h2
      rw [h2]
      cases h4 rfl
      rfl
    have hc : (convert src dst (.slice A xs.length cap)).run P w = .ok (.string (strOfNums xs)) w := by
      cases A with
      | none =>
        have h0 : xs = [] := by
          cases xs with
          | nil => rfl
          | cons x xs => obtain ⟨_, h, _⟩ := cl 0 (by simp); cases h
        subst h0
        exact run_convert_bytes_nil w src e hs he _ _ dst hdst
      | some ad =>
        have hl : (loadCells ad xs.length).run P w = .ok (xs.map (Value.int .u8)).toArray w := by
          have := run_loadCells_list (P := P) w ad (xs.map (Value.int .u8)) (fun j v hj => by
            have hjl : j < xs.length := by
              have := (List.getElem?_eq_some_iff.1 hj).1
              simpa using this
            obtain ⟨ad', h1, h2⟩ := cl j hjl
            injection h1 with h1
            subst h1
            rw [h2]
            rw [List.getElem?_map, List.getElem?_eq_getElem hjl] at hj
            simp only [Option.map_some, Option.some.injEq] at hj
            subst hj
            simp [List.getD, List.getElem?_eq_getElem hjl])
          simpa using this
        rw [run_convert_bytes_string w src dst e _ xs.length cap hs he hdst, run_bytesToString w _ xs.length cap xs hl, foldl_push_bytes]
        simp [strOfNums, ByteArray.empty, ByteArray.emptyWithCapacity]
        rfl
    simp only [execOp, hop, ev, hc, Sem.run_bind, Sem.run_pure, Result.andThen_ok], .sc ..⟩
end
end Go.Proofs.Ytepeoiimdefnpaa.Vm
namespace Go.Proofs.Ytepeoiimdefnpaa.Vm
open Go
/-- What lies behind a path is another. -/
def V.setp : V → List (Nat × Nat × Nat) → V → V
  | _, [], y => y
  | .own E sz es, q :: pa, y => match es[q.2.1]? with
    | some e => match e[q.2.2]? with
      | some c => .own E sz (es.set q.2.1 (e.set q.2.2 (c.setp pa y)))
      | none => .dead
    | none => .dead
  | _, _ :: _, _ => .dead
theorem Hold.setp {w w' : World} {S A F0 : Foot} {b : Nat} {v : Value} {y y' : V} (hag : Agree w w' (fun b' _ => b' ≠ b)) (hS : ∀ o, ¬ S b o)
    (hnew : ∀ B' F', (∀ b o, F' b o → F0 b o) → Hold w S B' F' v y → (∀ o, F' b o) ∧ Hold w' S B' F' v y') : ∀ {pa : List (Nat × Nat × Nat)} {B F : Foot} {u : Value} {X : V}, (∀ b o, F b o → F0 b o) → Hold w S B F u X → Path w A u pa v → X.getp pa = some y → (∀ o, F b o) ∧ Hold w' S B F u (X.setp pa y')
  | [], B, F, u, X, h0, h, hp, hy => by
    simp only [V.getp, Option.some.injEq] at hy
    subst hy
    obtain rfl : v = u := hp
    exact hnew B F h0 h
  | q :: pa, B, F, u, X, h0, h, hp, hy => by
    obtain ⟨E, es, e, c, rfl, h1, h2, h3, h4⟩ := getp_own hy
    obtain ⟨b0, n, cap, u', rfl, _, hcell, hp'⟩ := hp
    cases h with
    | own _ _ _ _ _ _ us G hz hpos ho hF hs hG h1c hi =>
      have hj := (List.getElem?_eq_some_iff.1 h2).1
      have hil := (List.getElem?_eq_some_iff.1 h3).1
      have hel := hz e (List.mem_of_getElem? h2)
      have hlt : ∀ j i, j < es.length → i < q.1 → j * q.1 + i < us.length := fun j i hj hi => by
        rw [ho.1]
        calc j * q.1 + i < j * q.1 + q.1 := by omega
          _ = (j + 1) * q.1 := by rw [Nat.succ_mul]
          _ ≤ es.length * q.1 := Nat.mul_le_mul_right _ hj
      have hu : us[fl q]? = some (us[fl q]'(hlt _ _ hj h1)) := List.getElem?_eq_getElem (hlt _ _ hj h1)
      have hue : us[fl q]'(hlt _ _ hj h1) = u' := by
        have hc2 := ho.cells (g := b0) rfl _ _ hu
        rw [addr_add_of, Nat.zero_add, hcell] at hc2
        injection hc2 with hc2
        exact hc2.symm
      rw [hue] at hu
      have hin := hi _ _ e c u' h2 h3 hu
      obtain ⟨k1, k2⟩ := Hold.setp hag hS hnew (fun b o hg => h0 b o (hs.sub _ b o hg)) hin hp' h4
      have hb0 : b0 ≠ b := fun e0 => hG (fl q) b 0 (by rw [e0]; rfl) (k1 0)
      refine ⟨fun o => hs.sub _ b o (k1 o), ?_⟩
      simp only [V.setp, h2, h3]
      have hcl : ∀ k, k ≠ fl q → ∀ o, ¬ G k b o := fun k hk o hg => hs.apart k _ hk b o hg (k1 o)
      refine .own _ _ E q.1 _ _ us G (fun e' he' => ?_) hpos ?_ hF hs hG h1c fun j i e' c' u he' hc' hu' => ?_
      · rcases List.mem_or_eq_of_mem_set he' with he' | rfl
        · exact hz e' he'
        · rw [List.length_set]; exact hel
      · rw [List.length_set]
        refine ⟨ho.1, ho.2.imp id ?_⟩
        rintro ⟨g, cap', cur, hv, e1, hh, r⟩
        refine ⟨g, cap', cur, hv, e1, (hag.block g fun o => ?_).trans hh, r⟩
        have : b0 = g := by injection hv with hv; injection hv with hv; injection hv
        rw [← this]
        exact hb0
      · have fr : ∀ k u c, k ≠ fl q → Hold w S Foot.none (G k) u c → Hold w' S Foot.none (G k) u c := fun k u c hk hh => hh.frame (hag.mono fun b' o' hb' e' => by
          subst e'
          rcases hb' with hb' | hb' | hb'
          · exact hS o' hb'
          · exact hb'
          · exact hcl k hk o' hb')
        by_cases e1 : j = q.2.1
        · subst e1
          rw [List.getElem?_set_self hj] at he'
          injection he' with he'
          subst he'
          by_cases e2 : i = q.2.2
          · subst e2
            rw [List.getElem?_set_self hil] at hc'
            injection hc' with hc'
            subst hc'
            rw [hu] at hu'
            injection hu' with hu'
            subst hu'
            exact k2
          · rw [List.getElem?_set_ne (Ne.symm e2)] at hc'
            exact fr _ _ _ (by unfold fl; omega) (hi _ _ e c' u h2 hc' hu')
        · rw [List.getElem?_set_ne (Ne.symm e1)] at he'
          have hi' := (List.getElem?_eq_some_iff.1 hc').1
          rw [hz e' (List.mem_of_getElem? he')] at hi'
          refine fr _ _ _ (fun e2 => ?_) (hi _ _ e' c' u he' hc' hu')
          unfold fl at e2
          rcases Nat.lt_or_gt_of_ne e1 with e3 | e3
          · have : (j + 1) * q.1 ≤ q.2.1 * q.1 := Nat.mul_le_mul_right _ e3
            rw [Nat.succ_mul] at this
            omega
          · have : (q.2.1 + 1) * q.1 ≤ j * q.1 := Nat.mul_le_mul_right _ e3
            rw [Nat.succ_mul] at this
            omega
theorem setp_own : ∀ {pa : List (Nat × Nat × Nat)} {X y y' : V}, X.getp pa = some y → X.isOwn = true → y'.isOwn = true → (X.setp pa y').isOwn = true
  | [], _, _, _, _, _, h => h
  | q :: pa, X, y, y', h, _, _ => by
    obtain ⟨E, es, e, c, rfl, h1, h2, h3, h4⟩ := getp_own h
    simp only [V.setp, h2, h3]
    rfl
section
variable {P : Program} {C : Ctx} {T T' : St} {a : Act} {w : World} {S : Foot} {F : Nat → Foot} {loc : Nat → Addr} {rd : List Nat} {o : Oper} {d : Nat}
theorem own_plain {x : V} (h : x.isOwn = true) : x ≠ .no ∧ (∀ k, x ≠ .at_ k) ∧ x.root = none := by
  cases x <;> first | (cases h; done) | exact ⟨by simp, fun _ => by simp, rfl⟩
/-- What a row's slot has. -/
theorem root_held (hsm : Same T T' rd) (hsim : SimB C T' a w S F loc) {r : Nat} (hrr : r ∈ rd) (ho : (T.at r).isOwn = true) : ∃ u, conc C a w loc r = some u ∧ Hold w S C.B (inner C (F r) loc r) u (T.at r) := by
  obtain ⟨p1, p2, p3⟩ := own_plain ho
  have hsl := hsim.slot r
  rw [hsm.at_ hrr] at hsl
  exact hsl.held p1 p2 p3
/-- What such a name leads to. -/
theorem deep_get (hsm : Same T T' rd) (hsim : SimB C T' a w S F loc) {s r : Nat} {x : V} (hsr : s ∈ rd) (hrr : r ∈ rd) (hx : T.at s = x) (hd : x.isDeep = true) (hr : x.root = some (r, T.gen r)) (ho : (T.at r).isOwn = true) :
    ∃ u v, conc C a w loc r = some u ∧ conc C a w loc s = some v ∧ DL w S (F r) u v x ∧ ∀ pa v0 y, Path w (F r) u pa v0 → (T.at r).getp pa = some y → ∃ F', (∀ b o, F' b o → inner C (F r) loc r b o) ∧ Hold w S C.B F' v0 y := by
  have et : T'.at s = x := (hsm.at_ hsr).trans hx
  obtain ⟨u, v, y, f1, f2, _, _, f5⟩ := hsim.deep s r (by rw [et]; exact hd) (by rw [et, hsm.gen_ hrr]; exact hr)
  rw [et] at f5
  obtain ⟨u', e1, e2⟩ := root_held hsm hsim hrr ho
  obtain rfl : u = u' := by rw [f1] at e1; injection e1
  refine ⟨u, v, f1, f2, f5, fun pa v0 y hp hy => ?_⟩
  obtain ⟨_, F', h1, h2⟩ := e2.getp hp hy
  exact ⟨F', h1, h2⟩
/-- A pointer into a slot's row, or into a row within. -/
def PtrP (T : St) (s r : Nat) (pa : List (Nat × Nat × Nat)) (sz j p : Nat) : Prop := T.at s = .ref r (T.gen r) sz j p ∧ pa = [] ∨ T.at s = .refp r (T.gen r) pa sz j p
theorem PtrP.get {s r : Nat} {pa : List (Nat × Nat × Nat)} {sz j p : Nat} (h : PtrP T s r pa sz j p) (hsm : Same T T' rd) (hsim : SimB C T' a w S F loc) (hsr : s ∈ rd) (hrr : r ∈ rd) (ho : (T.at r).isOwn = true) {y : V} (hy : (T.at r).getp pa = some y) :
    ∃ u b n cap F', conc C a w loc r = some u ∧ Path w (F r) u pa (.slice (some ⟨b, 0, none⟩) n cap) ∧ conc C a w loc s = some (.pointer (some ⟨b, j * sz + p, none⟩)) ∧ (∀ b o, F' b o → inner C (F r) loc r b o) ∧ Hold w S C.B F' (.slice (some ⟨b, 0, none⟩) n cap) y ∧ Hold w S C.B (inner C (F r) loc r) u (T.at r) := by
  rcases h with ⟨h, rfl⟩ | h
  · obtain ⟨u, e1, e2⟩ := root_held hsm hsim hrr ho
    have h1 := hsim.slot s
    rw [hsm.at_ hsr, h] at h1
    obtain ⟨u', v, f1, f2, b, n, cap, rfl, rfl⟩ := h1.linked rfl (hsm.gen_ hrr)
    rw [e1] at f1
    injection f1 with f1
    subst f1
    injection hy with hy
    subst hy
    exact ⟨_, b, n, cap, _, e1, rfl, f2, fun _ _ h => h, e2, e2⟩
  · obtain ⟨u, v, f1, f2, ⟨b, n, cap, f5, rfl⟩, f6⟩ := deep_get hsm hsim hsr hrr h rfl rfl ho
    obtain ⟨F', g1, g2⟩ := f6 _ _ _ f5 hy
    obtain ⟨u', e1, e2⟩ := root_held hsm hsim hrr ho
    obtain rfl : u = u' := by rw [f1] at e1; injection e1
    exact ⟨u, b, n, cap, F', f1, f5, f2, g1, g2, e2⟩
/-- len of a row within. -/
theorem exec_len_alp (s r t e E sz : Nat) (pa : List (Nat × Nat × Nat)) (es : List (List V)) (hop : o.op = .call { callee := .builtin .len, args := #[.tmp s], argTypes := #[t] }) (hd : o.dst = some d) (hdn : d < C.nt) (hdl : d < T.length) (hdp : C.pin d = none) (ht : P.underlying t = some (.slice e)) (hs : s < C.nt) (hsr : s ∈ rd) (hrr : r ∈ rd)
    (hx : T.at s = .alp r (T.gen r) pa) (ho : (T.at r).isOwn = true) (hy : (T.at r).getp pa = some (.own E sz es)) : Exec P C o rd T [(d, false, .sc (.int .i64 es.length))] :=
  exec_free _ hd hdn hdl hdp fun T' a w S F loc hsm hsim => by
    obtain ⟨u, v, f1, f2, f5, f6⟩ := deep_get hsm hsim hsr hrr hx rfl rfl ho
    obtain ⟨F', g1, g2⟩ := f6 _ _ _ f5 hy
    obtain ⟨A, cap, hrd, _⟩ := own_cells g2
    refine ⟨.int .i64 es.length, ?_, .sc ..⟩
    simp [execOp, hop, resolve, invoke, builtin, Builtin.len_, run_underlying ht, conc_eval hs f2, hrd.eq, goInt]
/-- The address of an element of a row within. -/
theorem exec_index_alp (s r t e E sz : Nat) (pa : List (Nat × Nat × Nat)) (es : List (List V)) (ix : Operand) (k : IntKind) (n : Int) (hop : o.op = .indexAddr t (.tmp s) ix) (hd : o.dst = some d) (hdn : d < C.nt) (hdl : d < T.length) (hdp : C.pin d = none) (hne : r ≠ d) (ht : P.underlying t = some (.slice e)) (hsz : (P.info? e).map (·.size) = some sz)
    (hs : s < C.nt) (hsr : s ∈ rd) (hrr : r ∈ rd) (hx : T.at s = .alp r (T.gen r) pa) (ho : (T.at r).isOwn = true) (hy : (T.at r).getp pa = some (.own E sz es)) (hi : opv C T rd (.int k n) ix) (h0 : 0 ≤ n) (hlt : n.toNat < es.length) :
    Exec P C o rd T [(d, false, .refp r (T.gen r) pa sz n.toNat 0)] :=
  exec_deep _ r rfl rfl hrr hne hd hdn hdl hdp fun T' a w S F loc hsm hsim => by
    obtain ⟨u, v, f1, f2, f5, f6⟩ := deep_get hsm hsim hsr hrr hx rfl rfl ho
    obtain ⟨F', g1, g2⟩ := f6 _ _ _ f5 hy
    obtain ⟨A, cap, hrd, hA⟩ := own_cells g2
    obtain ⟨b, rfl⟩ := hA (by omega)
    have hie := opv_eval hi hsm hsim
    refine ⟨u, .pointer (some ⟨b, n.toNat * sz + 0, none⟩), _, ?_, f1, by rw [hsm.at_ hrr]; exact hy, rfl, b, es.length, cap, by rw [← hrd.eq]; exact f5, rfl⟩
    simp [execOp, hop, Instr.indexAt, run_underlying ht, conc_eval hs f2, hrd.eq, hie, asIntOf, size_run hsz, h0, show n < (es.length : Int) by omega, addr_add_of]
theorem exec_field_refp (s r t f off sz j p : Nat) (pa : List (Nat × Nat × Nat)) (hop : o.op = .fieldAddr t (.tmp s) f) (hd : o.dst = some d) (hdn : d < C.nt) (hdl : d < T.length) (hdp : C.pin d = none) (hne : r ≠ d) (hsr : s ∈ rd) (hrr : r ∈ rd) (hs : s < C.nt) (hf : fieldAt P t f = some (off, false)) (hx : T.at s = .refp r (T.gen r) pa sz j p) : Exec P C o rd T [(d, false, .refp r (T.gen r) pa sz j (p + off))] :=
  exec_deep _ r rfl rfl hrr hne hd hdn hdl hdp fun T' a w S F loc hsm hsim => by
    have et := (hsm.at_ hsr).trans hx
    obtain ⟨u, v, y, f1, f2, f3, f4, f5⟩ := hsim.deep s r (by rw [et]; rfl) (by rw [et, hsm.gen_ hrr]; rfl)
    rw [et] at f3 f5
    obtain ⟨b, n, cap, f5, rfl⟩ := f5
    refine ⟨u, .pointer (some ⟨b, j * sz + (p + off), none⟩), y, ?_, f1, f3, f4, b, n, cap, f5, rfl⟩
    simp [execOp, hop, conc_eval hs f2, field_run hf, addr_add_of, Nat.add_assoc]
/-- A row within: its handle, read. -/
theorem exec_load_alp (s r t E sz E2 sz2 j p : Nat) (pa : List (Nat × Nat × Nat)) (es es2 : List (List V)) (e : List V) (hop : o.op = .load t (.tmp s)) (hd : o.dst = some d) (hdn : d < C.nt) (hdl : d < T.length) (hdp : C.pin d = none) (hne : r ≠ d) (hsr : s ∈ rd) (hrr : r ∈ rd) (hs : s < C.nt) (ht : aggT P t = some false)
    (hx : PtrP T s r pa sz j p) (ho : (T.at r).isOwn = true) (hy : (T.at r).getp pa = some (.own E sz es)) (he : es[j]? = some e) (hc : e[p]? = some (.own E2 sz2 es2)) (hps : p < sz) : Exec P C o rd T [(d, false, .alp r (T.gen r) (pa ++ [(sz, j, p)]))] :=
  exec_deep _ r rfl rfl hrr hne hd hdn hdl hdp fun T' a w S F loc hsm hsim => by
    obtain ⟨u, b, n, cap, F', f1, f2, f3, f4, f5, _⟩ := hx.get hsm hsim hsr hrr ho hy
    obtain ⟨G, v, _, _, g3, g4, _, _, _⟩ := own_at f5 he hc
    refine ⟨u, v, _, ?_, f1, by rw [hsm.at_ hrr]; exact getp_snoc hy hps he hc, rfl, f2.snoc (f4 _ _ (g3 _)).1 g4⟩
    simp [execOp, hop, conc_eval hs f3, load_plain ht g4]
/-- A cell of a row within. -/
theorem exec_load_refp (s r t E sz j p : Nat) (pa : List (Nat × Nat × Nat)) (es : List (List V)) (e : List V) (c : V) (hop : o.op = .load t (.tmp s)) (hd : o.dst = some d) (hdn : d < C.nt) (hdl : d < T.length) (hdp : C.pin d = none) (hsr : s ∈ rd) (hrr : r ∈ rd) (hs : s < C.nt) (ht : aggT P t = some false)
    (hx : PtrP T s r pa sz j p) (ho : (T.at r).isOwn = true) (hy : (T.at r).getp pa = some (.own E sz es)) (he : es[j]? = some e) (hc : e[p]? = some c) (hf : c.free = true) : Exec P C o rd T [(d, false, c)] :=
  exec_free _ hd hdn hdl hdp fun T' a w S F loc hsm hsim => by
    obtain ⟨u, b, n, cap, F', f1, f2, f3, f4, f5, _⟩ := hx.get hsm hsim hsr hrr ho hy
    obtain ⟨G, v, _, _, g3, g4, _, _, g7⟩ := own_at f5 he hc
    refine ⟨v, ?_, (g7.unfoot hf).mono (fun _ _ h => h) (fun _ _ h => h.elim) fun _ _ h => h⟩
    simp [execOp, hop, conc_eval hs f3, load_plain ht g4]
theorem exec_load_refp_agg (s r t n E sz j p : Nat) (pa : List (Nat × Nat × Nat)) (es : List (List V)) (e cs : List V) (hop : o.op = .load t (.tmp s)) (hd : o.dst = some d) (hdn : d < C.nt) (hdl : d < T.length) (hdp : C.pin d = none) (hsr : s ∈ rd) (hrr : r ∈ rd) (hs : s < C.nt) (ht : aggT P t = some true) (hsz : (P.info? t).map (·.size) = some n)
    (hx : PtrP T s r pa sz j p) (ho : (T.at r).isOwn = true) (hy : (T.at r).getp pa = some (.own E sz es)) (he : es[j]? = some e) (hget : ∀ m c, cs[m]? = some c → e[p + m]? = some c) (hn : cs.length = n) (hf : (V.agg cs).free = true) : Exec P C o rd T [(d, false, .agg cs)] :=
  exec_free _ hd hdn hdl hdp fun T' a w S F loc hsm hsim => by
    obtain ⟨u, b, n', cap, F', f1, f2, f3, f4, f5, _⟩ := hx.get hsm hsim hsr hrr ho hy
    have hcell : ∀ m c, cs[m]? = some c → ∃ v, w.cell? ((⟨b, j * sz + p, none⟩ : Addr).add m) = some v ∧ v.oneCell' = true ∧ Hold w S C.B Foot.none v c := fun m c hc => by
      obtain ⟨G, v, _, _, _, g4, g5, _, g7⟩ := own_at f5 he (hget m c hc)
      refine ⟨v, by rw [addr_add_of, Nat.add_assoc]; exact g4, g5, ?_⟩
      exact (g7.unfoot (V.free_go (by simpa [V.free] using hf) c (List.mem_of_getElem? hc))).mono (fun _ _ h => h) (fun _ _ h => h.elim) fun _ _ h => h
    refine ⟨_, ?_, Hold.agg_of (ad := ⟨b, j * sz + p, none⟩) (fun _ => Foot.none) (Split.none _) fun m c hc => hcell m c hc⟩
    rw [hn]
    simp [execOp, hop, conc_eval hs f3, load_agg ht hsz fun m hm => by
      obtain ⟨v, h3, _⟩ := hcell m _ (List.getElem?_eq_getElem (by omega))
      exact ⟨v, h3⟩]
/-- A record in a row (within), one of whose cells is a row of one's own: its copy names that row. -/
theorem exec_load_cap (s r t n E sz E2 sz2 j p i : Nat) (pa : List (Nat × Nat × Nat)) (es es2 : List (List V)) (e : List V) (ws : List Value) (hop : o.op = .load t (.tmp s)) (hd : o.dst = some d) (hdn : d < C.nt) (hdl : d < T.length) (hdp : C.pin d = none) (hne : r ≠ d) (hsr : s ∈ rd) (hrr : r ∈ rd) (hs : s < C.nt) (ht : aggT P t = some true) (hsz : (P.info? t).map (·.size) = some n)
    (hx : PtrP T s r pa sz j p) (ho : (T.at r).isOwn = true) (hy : (T.at r).getp pa = some (.own E sz es)) (he : es[j]? = some e) (hi : i < n) (hl : ws.length = n) (h1 : ∀ x, x ∈ ws → x.oneCell' = true) (hw : ∀ m, m < n → m ≠ i → ∃ v, ws[m]? = some v ∧ e[p + m]? = some (.sc v)) (hc : e[p + i]? = some (.own E2 sz2 es2)) (hps : p + i < sz) :
    Exec P C o rd T [(d, false, .cap r (T.gen r) (pa ++ [(sz, j, p + i)]) i ws)] :=
  exec_deep _ r rfl rfl hrr hne hd hdn hdl hdp fun T' a w S F loc hsm hsim => by
    obtain ⟨u, b, n', cap, F', f1, f2, f3, f4, f5, _⟩ := hx.get hsm hsim hsr hrr ho hy
    obtain ⟨G, v, _, _, g3, g4, g5, _, _⟩ := own_at f5 he hc
    have hcell : ∀ m, m < n → w.cell? ((⟨b, j * sz + p, none⟩ : Addr).add m) = (ws.set i v)[m]? := fun m hm => by
      rw [addr_add_of]
      by_cases e1 : m = i
      · subst e1
        rw [List.getElem?_set_self (by omega), Nat.add_assoc, g4]
      · obtain ⟨x, k1, k2⟩ := hw m hm e1
        obtain ⟨_, v', _, _, _, k3, _, _, k4⟩ := own_at f5 he k2
        cases k4
        rw [List.getElem?_set_ne (Ne.symm e1), k1, Nat.add_assoc, k3]
    refine ⟨u, .agg (ws.set i v).toArray, _, ?_, f1, by rw [hsm.at_ hrr]; exact getp_snoc hy hps he hc, rfl, v, f2.snoc (f4 _ _ (g3 _)).1 g4, by omega, g5, h1, rfl⟩
    have hget : ∀ m, m < n → ∃ x, (ws.set i v)[m]? = some x := fun m hm => ⟨_, List.getElem?_eq_getElem (by simpa using by omega)⟩
    have e : (List.range n).map (fun m => (w.cell? ((⟨b, j * sz + p, none⟩ : Addr).add m)).getD undef) = ws.set i v := by
      refine List.ext_getElem? fun m => ?_
      by_cases hm : m < n
      · obtain ⟨x, hx⟩ := hget m hm
        rw [List.getElem?_map, List.getElem?_range hm, Option.map_some, hcell m hm, hx]
        rfl
      · rw [List.getElem?_eq_none (by simp; omega), List.getElem?_eq_none (by simp; omega)]
    simp [execOp, hop, conc_eval hs f3, load_agg ht hsz fun m hm => by
      obtain ⟨x, hx⟩ := hget m hm
      exact ⟨x, (hcell m hm).trans hx⟩, e]
/-- The same of a box's cells. -/
theorem exec_load_ca (s k i t n E sz : Nat) (es : List (List V)) (ws : List Value) (hop : o.op = .load t (.tmp s)) (hd : o.dst = some d) (hdn : d < C.nt) (hdl : d < T.length) (hdp : C.pin d = none) (hsr : s ∈ rd) (hkr : ∀ j, j < n → k + j ∈ rd) (hs : s < C.nt) (ht : aggT P t = some true) (hsz : (P.info? t).map (·.size) = some n) (hx : T.at s = .at_ k)
    (hb : ∀ j, j < n → C.base (k + j) = C.base k) (hle : C.base k ≤ k) (hi : i < n) (hne : k + i ≠ d) (hl : ws.length = n) (h1 : ∀ x, x ∈ ws → x.oneCell' = true) (hw : ∀ j, j < n → j ≠ i → ∃ v, ws[j]? = some v ∧ T.at (k + j) = .sc v) (hk : T.at (k + i) = .own E sz es) :
    Exec P C o rd T [(d, false, .cap (k + i) (T.gen (k + i)) [] i ws)] :=
  exec_deep _ (k + i) rfl rfl (hkr i hi) hne hd hdn hdl hdp fun T' a w S F loc hsm hsim => by
    have g1 := hsim.slot s
    rw [hsm.at_ hsr, hx] at g1
    obtain ⟨h2, h3, h5⟩ := g1
    have hp : ∀ j, j < n → T.at (k + j) ≠ .no ∧ (∀ i, T.at (k + j) ≠ .at_ i) ∧ (T.at (k + j)).root = none := fun j hj => by
      by_cases e : j = i
      · subst e; rw [hk]; exact ⟨by simp, fun _ => by simp, rfl⟩
      · obtain ⟨v, _, e⟩ := hw j hj e; rw [e]; exact ⟨by simp, fun _ => by simp, rfl⟩
    have hcell : ∀ j, j < n → loc (k + j) = (loc k).add j ∧ ∃ u, w.cell? ((loc k).add j) = some u ∧ Hold w S C.B (inner C (F (k + j)) loc (k + j)) u (T.at (k + j)) ∧ u.oneCell' = true := fun j hj => by
      have he := hsm.at_ (hkr j hj)
      have hl := hsim.loc_add h3 h5 (by rw [he]; exact (hp j hj).1) (hb j hj) hle
      rw [← hl]
      exact ⟨rfl, at_cell hsim (by omega) he (hp j hj).1 (hp j hj).2.1 (hp j hj).2.2⟩
    obtain ⟨l6, u, h6, h7, h8⟩ := hcell i hi
    refine ⟨u, .agg (ws.set i u).toArray, _, ?_, ?_, rfl, by rw [hsm.at_ (hkr i hi), hk]; rfl, u, rfl, by omega, h8, h1, rfl⟩
    · have e : (List.range n).map (fun j => (w.cell? ((loc k).add j)).getD undef) = ws.set i u := by
        refine List.ext_getElem? fun j => ?_
        by_cases hj : j < n
        · rw [List.getElem?_map, List.getElem?_range hj, Option.map_some]
          by_cases e : j = i
          · subst e
            rw [List.getElem?_set_self (by omega), h6]; rfl
          · rw [List.getElem?_set_ne (Ne.symm e)]
            obtain ⟨v, e1, e2⟩ := hw j hj e
            obtain ⟨_, u', c1, c2, _⟩ := hcell j hj
            rw [e2] at c2
            cases c2
            rw [e1, c1]; rfl
        · rw [List.getElem?_eq_none (by simp; omega), List.getElem?_eq_none (by simp; omega)]
      simp [execOp, hop, conc_eval hs h2, load_agg ht hsz fun j hj => ⟨_, (hcell j hj).2.choose_spec.1⟩, e]
    · unfold conc
      rw [if_neg (by omega), l6, h6]
/-- A row of one record whose copy names a row of one's own. -/
theorem exec_build_cpr (s r t e i bytes : Nat) (z : Value) (pa : List (Nat × Nat × Nat)) (ws : List Value) (hop : o.op = .buildSlice t 1 #[(0, .tmp s)]) (hd : o.dst = some d) (hdn : d < C.nt) (hdl : d < T.length) (hdp : C.pin d = none) (hne : r ≠ d) (hsr : s ∈ rd) (hrr : r ∈ rd) (hs : s < C.nt) (ht : P.underlying t = some (.slice e)) (he : elemT P e z ws.length bytes) (hsmall : ws.length ≤ 16777216)
    (hx : T.at s = .cap r (T.gen r) pa i ws) : Exec P C o rd T [(d, false, .cpr r (T.gen r) pa i ws)] :=
  exec_of [] _ hd hdn hdl hdp (fun s hs => by simp at hs) fun T' a w S F loc hsm hsim => by
    have et := (hsm.at_ hsr).trans hx
    obtain ⟨u, v, y, f1, f2, f3, f4, f5⟩ := hsim.deep s r (by rw [et]; rfl) (by rw [et, hsm.gen_ hrr]; rfl)
    rw [et] at f3 f5
    obtain ⟨v', q0, q1, q2, q3, rfl⟩ := f5
    obtain ⟨ti, hi, hz, hsz, hby⟩ := he.get
    have hzs := he.2.1
    have hzr : (zeroValue e).run P w = .ok z w := by simp [zeroValue, typeInfo, hi, hz]
    have hsr' : (sizeOf e).run P w = .ok ws.length w := size_run (by rw [hi]; simp [hsz]) w
    have hbig : ¬ 1 * ws.length > 2 ^ 24 := by omega
    have h0 : ¬ 1 * ws.length = 0 := by omega
    have hcells : (Value.agg (ws.set i v').toArray).cells = (ws.set i v').toArray := rfl
    have hfill : Instr.fill (fun i => some (i * ws.length, ws.length)) ((Array.range (1 * ws.length)).map (z.cells[· % z.cells.size]!)) [(0, .agg (ws.set i v').toArray)] = some (ws.set i v').toArray := by
      have hf := fold_get 0 (ws.set i v') 0 ((Array.range (1 * ws.length)).map (z.cells[· % z.cells.size]!)) (by simp)
      simp only [Instr.fill, hcells, Nat.zero_mul]
      rw [if_neg (by simp)]
      congr 1
      refine Array.ext_getElem? fun k => ?_
      have := hf.2 k
      simp only [Nat.zero_add, Nat.zero_le, true_and, Nat.sub_zero] at this
      rw [← Array.foldl_toList, Array.toList_zipIdx]
      simp only [Nat.zero_add] at this ⊢
      rw [this]
      split
      · rw [List.getElem?_toArray]
      · rename_i hk
        have hk' : ¬ k < ws.length := by simpa using hk
        rw [Array.getElem?_eq_none (by simp only [Array.size_map, Array.size_range]; omega), Array.getElem?_eq_none (by simp only [List.size_toArray, List.length_set]; omega)]
    have hno : T'.at r ≠ .no := fun e => by have := getp_root f3 f4; rw [e] at this; cases this
    have hrun : (execOp a.eval o).run P w = .ok (.value (.slice (some ⟨w.heap.size, 0, none⟩) 1 1)) (w.alloc (.cells (ws.set i v').toArray e)) := by
      simp only [execOp, hop, Instr.buildSlice, Sem.run_bind, run_underlying ht, Result.andThen_ok, hsr', hbig, h0, ↓reduceIte, Sem.run_pure, hzr, newRow, newObj, List.map_toArray, List.map_cons, List.map_nil, conc_eval hs f2, hfill]
      rfl
    have hag : ∀ A : Foot, (∀ b o, A b o → b < w.heap.size) → Agree w (w.alloc (.cells (ws.set i v').toArray e)) A := fun A hA => Agree.alloc w _ _ hA
    refine ⟨_, _, fun b o => S b o ∨ (b = w.heap.size ∧ o < ws.length), Foot.none, hrun, ⟨rfl, rfl, rfl, by simp, Agree.alloc w _ _ fun b o' hb => hb.1⟩, fun _ _ h => .inl h, fun b o h => h.imp id fun h => .inl ⟨by omega, by simp; omega⟩, fun _ _ h => h.elim, fun s hs => by simp at hs, .inr (.inr ⟨r, u, by rw [hsm.gen_ hrr]; rfl, hne, by simp, f1, trivial, .inr hno, fun _ => ⟨⟨y, f3, f4⟩, v', w.heap.size, 1, q0.frame (hag _ fun b o hb => (hsim.mine r b o hb).2.2.1) fun _ _ h => h, q1, q2, q3, rfl, Nat.le_refl _, fun j x hj => ?_⟩⟩)⟩
    have hjl := (List.getElem?_eq_some_iff.1 hj).1
    rw [List.length_set] at hjl
    exact ⟨by rw [World.cell?_alloc_new, List.getElem?_toArray]; exact hj, .inr ⟨rfl, hjl⟩⟩
/-- A name of a row within, copied. -/
theorem exec_redeep (s r : Nat) (x : V) (hop : o.op = .move (.tmp s) ∨ o.op = .assign (.tmp s)) (hd : o.dst = some d) (hdn : d < C.nt) (hdl : d < T.length) (hdp : C.pin d = none) (hsr : s ∈ rd) (hrr : r ∈ rd) (hs : s < C.nt) (hx : T.at s = x) (hdx : x.isDeep = true) (hr : x.root = some (r, T.gen r)) (hne : r ≠ d) : Exec P C o rd T [(d, false, x)] :=
  exec_deep x r hr hdx hrr hne hd hdn hdl hdp fun T' a w S F loc hsm hsim => by
    have et := (hsm.at_ hsr).trans hx
    obtain ⟨u, v, y, f1, f2, f3, f4, f5⟩ := hsim.deep s r (by rw [et]; exact hdx) (by rw [et, hsm.gen_ hrr]; exact hr)
    rw [et] at f3 f5
    refine ⟨u, v, y, ?_, f1, f3, f4, f5⟩
    have hv := conc_eval hs f2
    rcases hop with hop | hop <;> simp [execOp, hop, pure, hv]
/-- A store into a row within: of what no memory is in. -/
theorem exec_store_refp (s r t n E sz j p : Nat) (pa : List (Nat × Nat × Nat)) (y : Operand) (x : V) (es : List (List V)) (e : List V) (hop : o.op = .store t (.tmp s) y) (hd : o.dst = none) (hsr : s ∈ rd) (hrr : r ∈ rd) (hs : s < C.nt) (hx : T.at s = .refp r (T.gen r) pa sz j p) (ho : (T.at r).isOwn = true) (hrl : r < T.length)
    (hg : (T.at r).getp pa = some (.own E sz es)) (he : es[j]? = some e) (hsz : (P.info? t).map (·.size) = some n) (hy : opV C T rd x [] y) (hok : x.okc = true) (hsh : ∀ c, c ∈ x.cells → c.shr = true) (hn : x.cells.length = n) (hpn : p + n ≤ sz) :
    Exec P C o rd T [(r, false, (T.at r).setp pa (.own E sz (es.set j (lay e p x.cells))))] := by
  intro T' a w hsm ⟨S, F, loc, hsim⟩ Q K hK
  obtain ⟨u, b, n', cap, F', f1, f2, f3, f4, f5, f6⟩ := PtrP.get (.inr hx) hsm hsim hsr hrr ho hg
  obtain ⟨G0, hyh, hG0, hno⟩ := opV_get hy hsm hsim
  have hG0' : ∀ b o, ¬ G0 b o := fun b o h => by obtain ⟨s', h', _⟩ := hG0 b o h; simp at h'
  obtain ⟨hlen, Gx, hs', hi⟩ := hyh.cells hok
  have hone : ∀ u, u ∈ (a.eval y).cells.toList → u.oneCell' = true := fun u hu => by
    obtain ⟨j, hj⟩ := List.getElem?_of_mem hu
    rw [Array.getElem?_toList] at hj
    have hjl := (Array.getElem?_eq_some_iff.1 hj).1
    exact (hi j u _ hj (List.getElem?_eq_getElem (by omega))).1
  have hGx : ∀ k b o', ¬ Gx k b o' := fun k b o' h => hG0' b o' (hs'.sub k b o' h)
  have hsetc := fun B' (F1 : Foot) (hF1 : ∀ b o, F1 b o → inner C (F r) loc r b o) (hh : Hold w S B' F1 (.slice (some ⟨b, 0, none⟩) n' cap) (.own E sz es)) =>
    hh.set (Fx := F1) (cs := x.cells) (vs := (a.eval y).cells.toList) rfl he (by rw [hn]; exact hpn) (by simpa using hlen) hone Gx (fun i j hij b o' => hs'.apart i j hij b o') (fun k b o' h _ => hGx k b o' h) (fun j u c hu hc => by
      rw [Array.getElem?_toList] at hu
      exact (hi j u c hu hc).2.unborrow (hsh c (List.mem_of_getElem? hc))) (fun b o' h => h) (fun k b o' h => (hGx k b o' h).elim) (fun b o' hS h => (hsim.mine r b o' (hF1 b o' h).1).1 hS)
  obtain ⟨cur, t', hg', hfit, _⟩ := hsetc C.B F' f4 f5
  have own_all : ∀ {B' F1 : Foot}, Hold w S B' F1 (.slice (some ⟨b, 0, none⟩) n' cap) (.own E sz es) → ∀ o', F1 b o' := fun hh => by
    cases hh with
    | own _ _ _ _ _ _ us G hz hp how hFv hs hG hone hi => exact hFv b rfl
  have hFb : ∀ o', inner C (F r) loc r b o' := fun o' => f4 b o' (own_all f5 o')
  have hst := run_storeCells_at P b (j * sz + p) t' (a.eval y).cells.toList 0 cur w hg' (by simpa using hfit) hone
  simp only [Nat.add_zero] at hst
  generalize hw1 : w.setRow b (cur.toList.take (j * sz + p) ++ (a.eval y).cells.toList ++ cur.toList.drop (j * sz + p + (a.eval y).cells.toList.length)).toArray = w1 at hst
  have hnew := (Hold.setp (w := w) (w' := w1) (S := S) (F0 := inner C (F r) loc r) (b := b) (y' := .own E sz (es.set j (lay e p x.cells))) (by rw [← hw1]; exact setRow_agree w b _ _ fun o h => h rfl) (fun o' h => (hsim.mine r b o' (hFb o').1).1 h) (fun B' F1 hF1 hh => ⟨own_all hh, by
    obtain ⟨cur2, t2, hg2, _, h2⟩ := hsetc B' F1 hF1 hh
    rw [hg'] at hg2
    injection hg2 with hg2
    injection hg2 with hg2
    subst hg2
    rw [← hw1]
    exact h2⟩) (fun _ _ h => h) f6 f2 hg).2
  have hr : (execOp a.eval o).run P w = .ok .skip w1 := by
    have hsc : (a.eval y).cells.size = n := by omega
    simp [execOp, hop, conc_eval hs f3, Instr.storeAt, Instr.sureAddr, storeVar, size_run hsz, hsc, hst]
  unfold Oper.wp
  rw [hr]
  show K (a.put o.dst undef) _
  rw [hd]
  refine hK _ _ ?_
  have hrl' : r < T'.length := by rw [hsm.1]; exact hrl
  have hatr : (T'.app [(r, false, (T.at r).setp pa (.own E sz (es.set j (lay e p x.cells))))]).at r = (T.at r).setp pa (.own E sz (es.set j (lay e p x.cells))) := St.app_one T' r _ hrl'
  have hownr := setp_own (y' := .own E sz (es.set j (lay e p x.cells))) hg ho rfl
  obtain ⟨q1, q2, q3⟩ := own_plain hownr
  generalize (T.at r).setp pa (.own E sz (es.set j (lay e p x.cells))) = X at hatr hownr q1 q2 q3 hnew
  have hnot : ∀ s, s ∉ [r] → (T'.app [(r, false, X)]).getD s (0, .no) = T'.getD s (0, .no) := fun s hs => St.app_not T' _ s (by simpa using hs)
  have hgl : ∀ s, s ∈ [r] → T'.gen s < St.gen (T'.app [(r, false, X)]) s := fun s hs => by
    simp at hs; subst hs
    exact St.gen_lt T' _ _ hrl' ⟨X, by simp⟩
  have hatn : ∀ k, T'.at k ≠ .no → (T'.app [(r, false, X)]).at k ≠ .no := fun k hk => by
    by_cases hkr : k = r
    · subst hkr; rw [hatr]; exact q1
    · have := hnot k (by simpa using hkr)
      unfold St.at
      rw [this]
      exact hk
  have hrno : T'.at r ≠ .no := by rw [hsm.at_ hrr]; exact (own_plain ho).1
  -- cells of boxes are elsewhere
  have hbox : ∀ s, C.nt ≤ s → T'.at s ≠ .no → (loc s).block ≠ b := fun s hns hx' heq => by
    have h3 := (hsim.cells s hns hx').1
    rw [heq] at h3
    have h4 := hFb (loc s).off
    by_cases hsr' : s = r
    · subst hsr'; exact h4.2 ⟨hns, heq.symm, rfl⟩
    · exact hsim.apart s r hsr' _ _ h3 h4.1
  have hcs : ∀ s, C.nt ≤ s → T'.at s ≠ .no → w1.cell? (loc s) = w.cell? (loc s) ∧ w1.frozen? (loc s) = w.frozen? (loc s) := fun s hns hx' => by
    rw [← hw1]
    exact ⟨World.cell?_of_block (setRow_other w b _ _ (hbox s hns hx')), World.frozen?_of_block (setRow_other w b _ _ (hbox s hns hx'))⟩
  have hconc : ∀ s, (s < C.nt ∨ T'.at s ≠ .no) → conc C a w1 loc s = conc C a w loc s := fun s hns => by
    unfold conc
    split
    · rfl
    · rename_i hlt
      exact (hcs s (by omega) (hns.resolve_left hlt)).1
  have hagw : ∀ A : Foot, (∀ o, ¬ A b o) → Agree w w1 A := fun A h => by rw [← hw1]; exact setRow_agree w b _ _ h
  have hw1s : w1.heap.size = w.heap.size := by rw [← hw1]; exact setRow_size ..
  refine ⟨S, F, loc,
    hsim.upd [r] hnot rfl hsim.defers hsim.pins ⟨by rw [← hw1]; simp, by rw [← hw1]; simp, by rw [← hw1]; simp, by rw [hw1s]; exact Nat.le_refl _, hagw _ fun o' hA => ?_⟩ (fun _ _ h => h) (fun _ _ h => .inl h) (fun s hs => rfl) (fun k hk => ⟨rfl, hatn k hk⟩) (fun _ _ _ _ => rfl) (fun _ _ _ => rfl) (fun r' hr' hg' hn' => hconc r' hn') (fun r' hr' => St.gen_app _ _ _) (fun s t hs hst b' o' hb hb' => hsim.apart s t hst b' o' hb hb') (fun s hs b' o' hb => ?_) (fun s hs r' g' hr' => ?_) (fun s hs => ?_) (fun s hs hns hx' => ?_) (hsim.nodeep hnot hgl fun s hs => ?_)⟩
  · have h4 := hFb o'
    rcases hA.2 with hA | hA | ⟨s', hs'', hA⟩ | ⟨hA, hA'⟩
    · exact (hsim.mine r b o' h4.1).1 hA
    · exact (hsim.mine r b o' h4.1).2.1 hA
    · exact hsim.apart s' r (fun e => hs'' (by simp [e])) b o' hA h4.1
    · rcases (hsim.mine r b o' h4.1).2.2.2 with h5 | h5
      · omega
      · exact hA' h5
  · rw [hw1s]
    exact hsim.mine s b' o' hb
  · simp at hs; subst hs; rw [hatr, q3] at hr'; cases hr'
  · simp at hs
    subst hs
    rw [hatr]
    exact SlotOk.plain ⟨_, (hconc s (.inr hrno)).trans f1, hnew⟩
  · simp at hs
    subst hs
    obtain ⟨c1, c2, ⟨u, c3, c3'⟩, c4⟩ := hsim.cells s hns hrno
    obtain ⟨d1, d2⟩ := hcs s hns hrno
    exact ⟨c1, d2.trans c2, ⟨u, d1.trans c3, c3'⟩, c4⟩
  · simp at hs
    subst hs
    rw [hatr]
    exact V.not_deep q3
end
end Go.Proofs.Ytepeoiimdefnpaa.Vm
namespace Go.Proofs.Ytepeoiimdefnpaa.Vm
open Go
universe u v
/-- A bind of the evaluator's own: the kernel unfolds it ahead of what is printed. -/
abbrev _root_.Option.ob {α : Type u} {β : Type v} (x : Option α) (f : α → Option β) : Option β := match x with
  | some a => f a
  | none => none
theorem of_ob {α : Type u} {β : Type v} {x : Option α} {f : α → Option β} {r : β} (h : x.ob f = some r) : ∃ a, x = some a ∧ f a = some r := by
  cases x with
  | none => cases h
  | some a => exact ⟨a, rfl, h⟩
/-- One of two, unfolded ahead of what is printed. -/
abbrev _root_.bsel {α : Sort u} (b : Bool) (x y : α) : α := match b with
  | true => x
  | false => y
theorem bsel_t {β : Type v} {x y : β} {r : β} (h : bsel true x y = r) : x = r := h
theorem bsel_f {β : Type v} {x y : β} {r : β} (h : bsel false x y = r) : y = r := h
theorem of_bsel {b : Bool} {β : Type v} {x : Option β} {r : β} (h : bsel b x none = some r) : b = true ∧ x = some r := by
  cases b with
  | true => exact ⟨rfl, h⟩
  | false => cases h
/-- What is to be proved is decided. -/
abbrev _root_.decB {p : Prop} {β : Type v} (i : Decidable p) (x : p → Option β) : Option β := match i with
  | .isTrue h => x h
  | .isFalse _ => none
theorem of_decB {p : Prop} {β : Type v} {i : Decidable p} {x : p → Option β} {r : β} (h : decB i x = some r) : ∃ hp : p, x hp = some r := by
  cases i with
  | isTrue hp => exact ⟨hp, h⟩
  | isFalse _ => cases h
/-- Types of values: a cell's, or several cells' side by side. -/
inductive Ty where
  | i (k : IntKind)
  | b
  | s
  | row (f : Bool) (c : Ty)
  | own (E : Nat) (c : Ty)
  | ptr (f : Bool) (c : Ty)
  | cons (a r : Ty)
  deriving DecidableEq
@[reducible] def Ty.den : Ty → Type
  | .i _ => Int
  | .b => Bool
  | .s => ByteArray
  | .row _ c => List c.den
  | .own _ c => List c.den
  | .ptr _ c => c.den
  | .cons a r => a.den × r.den
/-- How many cells. -/
def Ty.n : Ty → Nat
  | .cons a r => a.n + r.n
  | _ => 1
def enc : (t : Ty) → t.den → List V
  | .i k, x => [.sc (.int k x)]
  | .b, x => [.sc (.bool x)]
  | .s, x => [.sc (.string x)]
  | .row f c, xs => [.row f c.n (xs.map (enc c))]
  | .own E c, xs => [.own E c.n (xs.map (enc c))]
  | .ptr f c, x => [.box f (enc c x)]
  | .cons a r, x => enc a x.1 ++ enc r x.2
theorem enc_length : ∀ (t : Ty) (x : t.den), (enc t x).length = t.n
  | .i _, _ | .b, _ | .s, _ | .row _ _, _ | .own _ _, _ | .ptr _ _, _ => rfl
  | .cons a r, x => by simp [enc, Ty.n, enc_length a, enc_length r]
theorem Ty.n_pos : ∀ t : Ty, 0 < t.n
  | .i _ | .b | .s | .row _ _ | .own _ _ | .ptr _ _ => Nat.one_pos
  | .cons a r => by have := Ty.n_pos a; simp only [Ty.n]; omega
/-- One cell's. -/
def Ty.leaf : Ty → Bool
  | .cons _ _ => false
  | _ => true
/-- Cells in a row, no struct within them. -/
def Ty.flat : Ty → Bool
  | .cons a r => a.leaf && r.flat
  | _ => true
/-- Nothing of one's own is in it. -/
def Ty.free : Ty → Bool
  | .own _ _ => false
  | .cons a r => a.free && r.free
  | _ => true
theorem enc_free : ∀ (t : Ty) (x : t.den), t.free = true → V.free.go (enc t x) = true
  | .i _, _, _ | .b, _, _ | .s, _, _ | .row _ _, _, _ | .ptr _ _, _, _ => rfl
  | .own _ _, _, h => by simp [Ty.free] at h
  | .cons a r, x, h => by
    simp only [Ty.free, Bool.and_eq_true] at h
    have h1 := enc_free a x.1 h.1
    have h2 := enc_free r x.2 h.2
    have key : ∀ (l l' : List V), V.free.go l = true → V.free.go l' = true → V.free.go (l ++ l') = true := by
      intro l l' hl hl'
      induction l with
      | nil => exact hl'
      | cons c l ih => simp only [V.free.go, Bool.and_eq_true, List.cons_append] at hl ⊢; exact ⟨hl.1, ih hl.2⟩
    exact key _ _ h1 h2
/-- It may lie in a row of one's own. -/
def Ty.shr : Ty → Bool
  | .row true _ | .ptr true _ => false
  | .cons a r => a.shr && r.shr
  | _ => true
theorem enc_shr : ∀ (t : Ty) (x : t.den), t.shr = true → ∀ c, c ∈ enc t x → c.shr = true
  | .i _, _, _ | .b, _, _ | .s, _, _ | .own _ _, _, _ | .row false _, _, _ | .ptr false _, _, _ => fun c hc => by
    simp only [enc, List.mem_singleton] at hc; subst hc; rfl
  | .row true _, _, h | .ptr true _, _, h => by simp [Ty.shr] at h
  | .cons a r, x, h => fun c hc => by
    simp only [Ty.shr, Bool.and_eq_true] at h
    rcases List.mem_append.1 hc with hc | hc
    · exact enc_shr a x.1 h.1 c hc
    · exact enc_shr r x.2 h.2 c hc
/-- What is lent for a call: it's read. -/
def Ty.lend : Ty → Ty
  | .row _ c => .row true c.lend
  | .own _ c => .row true c.lend
  | .ptr _ c => .ptr true c.lend
  | .cons a r => .cons a.lend r.lend
  | t => t
/-- What is written no more. -/
def Ty.frz : Ty → Ty
  | .own _ c => .row false c.frz
  | .cons a r => .cons a.frz r.frz
  | t => t
theorem lend_den : ∀ t : Ty, t.lend.den = t.den
  | .i _ | .b | .s => rfl
  | .row _ c | .own _ c => by simp only [Ty.lend, Ty.den, lend_den c]
  | .ptr _ c => by simp only [Ty.lend, Ty.den, lend_den c]
  | .cons a r => by simp only [Ty.lend, Ty.den, lend_den a, lend_den r]
theorem frz_den : ∀ t : Ty, t.frz.den = t.den
  | .i _ | .b | .s | .row _ _ | .ptr _ _ => rfl
  | .own _ c => by simp only [Ty.frz, Ty.den, frz_den c]
  | .cons a r => by simp only [Ty.frz, Ty.den, frz_den a, frz_den r]
theorem lend_n : ∀ t : Ty, t.lend.n = t.n
  | .i _ | .b | .s | .row _ _ | .own _ _ | .ptr _ _ => rfl
  | .cons a r => by simp only [Ty.lend, Ty.n, lend_n a, lend_n r]
theorem frz_n : ∀ t : Ty, t.frz.n = t.n
  | .i _ | .b | .s | .row _ _ | .own _ _ | .ptr _ _ => rfl
  | .cons a r => by simp only [Ty.frz, Ty.n, frz_n a, frz_n r]
theorem cast_prod {a a' r r' : Type} (ha : a = a') (hr : r = r') (x : a × r) (h : (a × r) = (a' × r')) : cast h x = (cast ha x.1, cast hr x.2) := by
  subst ha; subst hr; rfl
theorem cast_list {a a' : Type} (ha : a = a') (xs : List a) (h : List a = List a') : cast h xs = xs.map (cast ha) := by
  subst ha; exact (List.map_id xs).symm
theorem go_append {f : List V → List V} {g : V → V} (hf : ∀ l, f l = l.map g) (l l' : List V) : f (l ++ l') = f l ++ f l' := by simp [hf]
theorem enc_lend : ∀ (t : Ty) (x : t.den), enc t.lend (cast (lend_den t).symm x) = V.lend.go (enc t x)
  | .i _, _ | .b, _ | .s, _ => rfl
  | .row _ c, xs => by
    refine (congrArg (enc (Ty.row true c.lend)) (cast_list (lend_den c).symm xs _)).trans ?_
    simp only [enc, V.lend.go, V.lend, lend_go2, List.map_map, lend_n]
    congr 2
    refine List.map_congr_left fun x _ => ?_
    simp only [Function.comp, enc_lend c x, lend_go]
  | .own _ c, xs => by
    refine (congrArg (enc (Ty.row true c.lend)) (cast_list (lend_den c).symm xs _)).trans ?_
    simp only [enc, V.lend.go, V.lend, lend_go2, List.map_map, lend_n]
    congr 2
    refine List.map_congr_left fun x _ => ?_
    simp only [Function.comp, enc_lend c x, lend_go]
  | .ptr _ c, x => by
    exact congrArg (fun l => [V.box true l]) (enc_lend c x)
  | .cons a r, x => by
    refine (congrArg (enc (Ty.cons a.lend r.lend)) (cast_prod (lend_den a).symm (lend_den r).symm x _)).trans ?_
    simp only [enc]
    rw [go_append lend_go, enc_lend a, enc_lend r]
theorem enc_frz : ∀ (t : Ty) (x : t.den), enc t.frz (cast (frz_den t).symm x) = V.frz.go (enc t x)
  | .i _, _ | .b, _ | .s, _ | .row _ _, _ | .ptr _ _, _ => rfl
  | .own _ c, xs => by
    refine (congrArg (enc (Ty.row false c.frz)) (cast_list (frz_den c).symm xs _)).trans ?_
    simp only [enc, V.frz.go, V.frz, frz_go2, List.map_map, frz_n]
    congr 2
    refine List.map_congr_left fun x _ => ?_
    simp only [Function.comp, enc_frz c x, frz_go]
  | .cons a r, x => by
    refine (congrArg (enc (Ty.cons a.frz r.frz)) (cast_prod (frz_den a).symm (frz_den r).symm x _)).trans ?_
    simp only [enc]
    rw [go_append frz_go, enc_frz a, enc_frz r]
theorem go_and {f : List V → Bool} {g : V → Bool} (h0 : f [] = true) (hf : ∀ c l, f (c :: l) = (g c && f l)) : ∀ l l', f l = true → f l' = true → f (l ++ l') = true
  | [], _, _, h => h
  | c :: l, l', h1, h2 => by
    rw [hf, Bool.and_eq_true] at h1
    rw [List.cons_append, hf, Bool.and_eq_true]
    exact ⟨h1.1, go_and h0 hf l l' h1.2 h2⟩
theorem go2_all {f : List V → Bool} {f2 : List (List V) → Bool} {α : Type} (e : α → List V) (h0 : f2 [] = true) (hf : ∀ c l, f2 (c :: l) = (f c && f2 l)) (h : ∀ x, f (e x) = true) : ∀ xs : List α, f2 (xs.map e) = true
  | [] => h0
  | x :: xs => by rw [List.map_cons, hf, h, go2_all e h0 hf h xs]; rfl
theorem enc_lendable : ∀ (t : Ty) (x : t.den), V.lendable.go (enc t x) = true
  | .i _, _ | .b, _ | .s, _ => rfl
  | .row _ c, xs => by simp only [enc, V.lendable.go, V.lendable, Bool.and_true]; exact go2_all _ rfl (fun _ _ => rfl) (enc_lendable c) xs
  | .own _ c, xs => by simp only [enc, V.lendable.go, V.lendable, Bool.and_true]; exact go2_all _ rfl (fun _ _ => rfl) (enc_lendable c) xs
  | .ptr _ c, x => by simp only [enc, V.lendable.go, V.lendable, Bool.and_true]; exact enc_lendable c x
  | .cons a r, x => go_and (g := V.lendable) rfl (fun _ _ => rfl) _ _ (enc_lendable a x.1) (enc_lendable r x.2)
theorem enc_freezable : ∀ (t : Ty) (x : t.den), V.freezable.go (enc t x) = true
  | .i _, _ | .b, _ | .s, _ | .row _ _, _ | .ptr _ _, _ => rfl
  | .own _ c, xs => by simp only [enc, V.freezable.go, V.freezable, Bool.and_true]; exact go2_all _ rfl (fun _ _ => rfl) (enc_freezable c) xs
  | .cons a r, x => go_and (g := V.freezable) rfl (fun _ _ => rfl) _ _ (enc_freezable a x.1) (enc_freezable r x.2)
/-- Values that are alone in cells; others: nothing. -/
def valsV (cs : List V) : List Value := cs.map fun c => match c with
  | .sc v => v
  | _ => .bool false
/-- Names that lead into a slot's row, with what lies there. -/
inductive DV where
  | alp (pa : List (Nat × Nat × Nat)) (E : Nat) (c : Ty) (xs : List c.den)
  | refp (pa : List (Nat × Nat × Nat)) (j o E : Nat) (c : Ty) (xs : List c.den)
  | cap (pa : List (Nat × Nat × Nat)) (i : Nat) (t : Ty) (x : t.den)
  | cpr (pa : List (Nat × Nat × Nat)) (i : Nat) (t : Ty) (x : t.den)
def DV.toV (r g : Nat) : DV → V
  | .alp pa _ _ _ => .alp r g pa
  | .refp pa j o _ c _ => .refp r g pa c.n j o
  | .cap pa i t x => .cap r g pa i (valsV (enc t x))
  | .cpr pa i t x => .cpr r g pa i (valsV (enc t x))
theorem DV.deep (r g : Nat) (x : DV) : (x.toV r g).isDeep = true ∧ (x.toV r g).root = some (r, g) := by cases x <;> exact ⟨rfl, rfl⟩
/-- What a slot has. -/
inductive SV where
  | v (t : Ty) (x : t.den)
  | agg (t : Ty) (x : t.den)
  | tup (l : List SV)
  | at_ (k : Nat)
  | atv (k n j : Nat)
  | al (r : Nat)
  | ref (r sz i o : Nat)
  | vw (r sz lo n : Nat)
  | obx (t : Ty) (x : t.den)
  | iter (s : ByteArray) (p : Nat)
  | np
  | u0
  | un
  | dead
  | opt (t : Ty) (x : Option t.den)
  | kb (b : Bool)
  | refv (r sz i n j : Nat)
  | dp (r : Nat) (x : DV)
  | optb (t : Ty) (x : Option t.den)
def g0 : Nat → Nat := fun _ => 0
/-- The same among the values without types. -/
def SV.toV0 : SV → V
  | .v t x => match enc t x with
    | [c] => c
    | cs => .agg cs
  | .agg t x => .agg (enc t x)
  | .tup l => .tup (go l)
  | .at_ k => .at_ k
  | .atv k _ j => .at_ (k + j)
  | .al r => .al r 0
  | .ref r sz i o => .ref r 0 sz i o
  | .vw r sz lo n => .vw r 0 sz lo n
  | .refv r sz i _ j => .ref r 0 sz i j
  | .dp r x => x.toV r 0
  | .obx t x => .obx (enc t x)
  | .iter s p => .iter s p
  | .np => .sc (.pointer none)
  | .u0 => .sc (.tuple #[])
  | .un => .sc undef
  | .dead => .dead
  | .kb b => .sc (.bool b)
  | .opt _ none => .sc (.pointer none)
  | .opt t (some x) => .box false (enc t x)
  | .optb _ none => .sc (.pointer none)
  | .optb t (some x) => .box true (enc t x)
where
  go : List SV → List V
    | [] => []
    | x :: l => SV.toV0 x :: go l
theorem toV_go (l : List SV) : SV.toV0.go l = l.map SV.toV0 := by
  induction l with
  | nil => rfl
  | cons x l ih => simp [SV.toV0.go, ih]
/-- g: the numbers of the rows' handles. -/
def SV.toV (g : Nat → Nat) : SV → V
  | .al r => .al r (g r)
  | .ref r sz i o => .ref r (g r) sz i o
  | .vw r sz lo n => .vw r (g r) sz lo n
  | .refv r sz i _ j => .ref r (g r) sz i j
  | .dp r x => x.toV r (g r)
  | x => x.toV0
/-- The slot in whose row it lies. -/
def SV.root? : SV → Option Nat
  | .al r => some r
  | .ref r _ _ _ => some r
  | .vw r _ _ _ => some r
  | .refv r _ _ _ _ => some r
  | .dp r _ => some r
  | _ => none
theorem toV_v (g : Nat → Nat) (t : Ty) (x : t.den) : (SV.v t x).toV g = match enc t x with | [c] => c | cs => .agg cs := rfl
/-- A bool that is known is told as any other. -/
def SV.nb : SV → SV
  | .kb b => .v .b b
  | x => x
theorem nb_toV0 (x : SV) : x.nb.toV0 = x.toV0 := by cases x <;> rfl
theorem nb_toV (g : Nat → Nat) (x : SV) : x.nb.toV g = x.toV g := by cases x <;> rfl
theorem nb_root (x : SV) : x.nb.root? = x.root? := by cases x <;> rfl
theorem toV_none (g g' : Nat → Nat) : ∀ (x : SV), x.root? = none → x.toV g = x.toV g' := by
  intro x h
  cases x <;> first | rfl | (simp [SV.root?] at h; done)
theorem enc_leaf {t : Ty} (h : t.leaf = true) (x : t.den) : ∃ c, enc t x = [c] := by
  cases t <;> first | exact ⟨_, rfl⟩ | simp [Ty.leaf] at h
theorem enc_plain : ∀ (t : Ty) (x : t.den) (c : V), c ∈ enc t x → c ≠ .no ∧ c ≠ .dead ∧ (∀ k, c ≠ .at_ k) ∧ c.root = none
  | .i _, _, c, h | .b, _, c, h | .s, _, c, h | .row _ _, _, c, h | .own _ _, _, c, h | .ptr _ _, _, c, h => by
    simp only [enc, List.mem_singleton] at h; subst h; exact ⟨by simp, by simp, fun _ => by simp, rfl⟩
  | .cons a r, x, c, h => by
    rcases List.mem_append.1 h with h | h
    · exact enc_plain a x.1 c h
    · exact enc_plain r x.2 c h
theorem toV_plain (g : Nat → Nat) (x : SV) : (x.toV g ≠ .no) ∧ ((x.toV g).root = none ∨ ∃ r, x.root? = some r ∧ (x.toV g).root = some (r, g r)) := by
  cases x with
  | v t x =>
    rw [toV_v]
    split
    · rename_i c hc
      obtain ⟨h1, _, _, h2⟩ := enc_plain t x c (by rw [hc]; simp)
      exact ⟨h1, .inl h2⟩
    · exact ⟨by simp, .inl rfl⟩
  | al r => exact ⟨by simp [SV.toV], .inr ⟨r, rfl, rfl⟩⟩
  | ref r sz i o => exact ⟨by simp [SV.toV], .inr ⟨r, rfl, rfl⟩⟩
  | vw r sz lo n => exact ⟨by simp [SV.toV], .inr ⟨r, rfl, rfl⟩⟩
  | refv r sz i n j => exact ⟨by simp [SV.toV], .inr ⟨r, rfl, rfl⟩⟩
  | dp r x =>
    refine ⟨fun e => ?_, .inr ⟨r, rfl, (x.deep r (g r)).2⟩⟩
    have h := (x.deep r (g r)).1
    simp only [SV.toV] at e
    rw [e] at h
    cases h
  | opt t x => cases x <;> exact ⟨by simp [SV.toV, SV.toV0], .inl rfl⟩
  | optb t x => cases x <;> exact ⟨by simp [SV.toV, SV.toV0], .inl rfl⟩
  | _ => exact ⟨by simp [SV.toV, SV.toV0], .inl rfl⟩
end Go.Proofs.Ytepeoiimdefnpaa.Vm
namespace Go.Proofs.Ytepeoiimdefnpaa.Vm
open Go
abbrev TS := List (Nat × SV)
def look? : TS → Nat → Option SV
  | [], _ => none
  | p :: l, s => bsel (p.1.beq s) (some p.2) <| look? l s
theorem look?_mem {l : TS} {s : Nat} {x : SV} (h : look? l s = some x) : (s, x) ∈ l := by
  induction l with
  | nil => simp [look?] at h
  | cons p l ih =>
    simp only [look?] at h
    cases hb : p.1.beq s with
    | true =>
      rw [hb] at h
      have := Nat.eq_of_beq_eq_true hb
      injection h with h
      subst this h
      exact List.mem_cons_self
    | false => rw [hb] at h; exact List.mem_cons_of_mem _ (ih h)
def SV.isDead : SV → Bool
  | .dead => true
  | _ => false
/-- What such a name tells of the row. -/
def contOk (T : St) : SV → Prop
  | .dp r (.alp pa E c xs) => (T.at r).getp pa = some (.own E c.n (xs.map (enc c)))
  | .dp r (.refp pa _ _ E c xs) => (T.at r).getp pa = some (.own E c.n (xs.map (enc c)))
  | .dp r (.cap pa i t x) => ∃ y, (enc t x)[i]? = some y ∧ (T.at r).getp pa = some y
  | .dp r (.cpr pa i t x) => ∃ y, (enc t x)[i]? = some y ∧ (T.at r).getp pa = some y
  | _ => True
theorem contOk_none {T : St} {x : SV} (h : x.root? = none) : contOk T x := by cases x <;> first | trivial | cases h
theorem contOk_at {T T' : St} {x : SV} (h : contOk T x) (ha : ∀ r, x.root? = some r → T'.at r = T.at r) : contOk T' x := by
  cases x <;> first | trivial | skip
  rename_i r x
  have := ha r rfl
  cases x <;> simp only [contOk, this] at h ⊢ <;> exact h
def SV.isDp : SV → Bool
  | .dp _ _ => true
  | _ => false
/-- n slots, nt of them the frame's. -/
structure Tells (nt n : Nat) (T : St) (l : TS) : Prop where
  len : T.length = n
  all : ∀ p, p ∈ l → p.1 < n ∧ (p.2.isDead = true ∧ p.1 < nt ∨ nrm T p.1 = p.2.toV g0)
  cell : ∀ p, p ∈ l → nt ≤ p.1 → p.2.root? = none ∧ (T.at p.1).root = none
  no : ∀ s, nt ≤ s → s < n → look? l s = none → T.at s = .no
  cont : ∀ p, p ∈ l → contOk T p.2
theorem toV_dead {x : SV} (h : x.toV g0 = .dead) : x.isDead = true := by
  cases x with
  | v t x =>
    rw [toV_v] at h
    split at h
    · rename_i c hc
      exact absurd h (enc_plain t x c (by rw [hc]; simp)).2.1
    · cases h
  | dead => rfl
  | opt t x => cases x <;> simp [SV.toV, SV.toV0] at h
  | optb t x => cases x <;> simp [SV.toV, SV.toV0] at h
  | dp r x => cases x <;> simp [SV.toV, DV.toV] at h
  | _ => simp [SV.toV, SV.toV0, undef] at h
section
variable {nt n : Nat} {T : St} {l : TS}
theorem Tells.lt (h : Tells nt n T l) {s : Nat} {x : SV} (hx : look? l s = some x) : s < n := (h.all _ (look?_mem hx)).1
theorem nrm_plain {T : St} {s : Nat} {y : V} (h : nrm T s = y) (hd : y ≠ .dead) (hr : y.root = none) : T.at s = y := by
  rcases nrm_cases T s with ⟨h1, _⟩ | ⟨r, g, _, ⟨_, h2⟩ | ⟨_, h2, _⟩⟩
  · rw [← h1, h]
  · rw [h2] at h; exact absurd h.symm hd
  · rw [h] at h2; rw [hr] at h2; cases h2
/-- What a slot has that is no handle. -/
theorem Tells.nrm_ (h : Tells nt n T l) {s : Nat} {x : SV} (hx : look? l s = some x) (hd : x.isDead = false) : nrm T s = x.toV g0 := by
  rcases (h.all _ (look?_mem hx)).2 with h1 | h1
  · rw [hd] at h1; exact absurd h1.1 (by simp)
  · exact h1
theorem Tells.plain (h : Tells nt n T l) {s : Nat} {x : SV} (hx : look? l s = some x) (hr : x.root? = none) (hd : x.isDead = false) : T.at s = x.toV g0 := by
  refine nrm_plain (h.nrm_ hx hd) (fun e => by rw [toV_dead e] at hd; cases hd) ?_
  rcases (toV_plain g0 x).2 with h1 | ⟨r, h1, _⟩
  · exact h1
  · rw [hr] at h1; cases h1
def V.setg (g : Nat) : V → V
  | .al r _ => .al r g
  | .ref r _ sz i o => .ref r g sz i o
  | .vw r _ sz lo n => .vw r g sz lo n
  | .alp r _ pa => .alp r g pa
  | .refp r _ pa sz j o => .refp r g pa sz j o
  | .cap r _ pa i ws => .cap r g pa i ws
  | .cpr r _ pa i ws => .cpr r g pa i ws
  | x => x
theorem nrm_root {T : St} {s : Nat} {y : V} {r : Nat} (h : nrm T s = y) (hr : y.root = some (r, 0)) : T.at s = y.setg (T.gen r) := by
  unfold nrm at h
  split at h
  case h_8 =>
    rename_i h1 h2 h3 h4 h5 h6 h7
    exfalso
    cases y <;> first
      | exact h1 _ _ h
      | exact h2 _ _ _ _ _ h
      | exact h3 _ _ _ _ _ h
      | exact h4 _ _ _ h
      | exact h5 _ _ _ _ _ _ h
      | exact h6 _ _ _ _ _ h
      | exact h7 _ _ _ _ _ h
      | cases hr
  all_goals
    rename_i heq
    split at h
    · rename_i hg
      subst h
      simp only [V.root, Option.some.injEq, Prod.mk.injEq, and_true] at hr
      subst hr
      rw [heq, hg]
      rfl
    · subst h; cases hr
theorem Tells.al (h : Tells nt n T l) {s r : Nat} (hx : look? l s = some (.al r)) : T.at s = .al r (T.gen r) := nrm_root (h.nrm_ hx rfl) rfl
theorem Tells.ref (h : Tells nt n T l) {s r sz i o : Nat} (hx : look? l s = some (.ref r sz i o)) : T.at s = .ref r (T.gen r) sz i o := nrm_root (h.nrm_ hx rfl) rfl
theorem Tells.refv (h : Tells nt n T l) {s r sz i n' o : Nat} (hx : look? l s = some (.refv r sz i n' o)) : T.at s = .ref r (T.gen r) sz i o := nrm_root (h.nrm_ hx rfl) rfl
theorem Tells.vw (h : Tells nt n T l) {s r sz lo m : Nat} (hx : look? l s = some (.vw r sz lo m)) : T.at s = .vw r (T.gen r) sz lo m := nrm_root (h.nrm_ hx rfl) rfl
theorem Tells.alp (h : Tells nt n T l) {s r E : Nat} {pa : List (Nat × Nat × Nat)} {c : Ty} {xs : List c.den} (hx : look? l s = some (.dp r (.alp pa E c xs))) : T.at s = .alp r (T.gen r) pa ∧ (T.at r).getp pa = some (.own E c.n (xs.map (enc c))) := ⟨nrm_root (h.nrm_ hx rfl) rfl, h.cont _ (look?_mem hx)⟩
theorem Tells.refp (h : Tells nt n T l) {s r j o E : Nat} {pa : List (Nat × Nat × Nat)} {c : Ty} {xs : List c.den} (hx : look? l s = some (.dp r (.refp pa j o E c xs))) : T.at s = .refp r (T.gen r) pa c.n j o ∧ (T.at r).getp pa = some (.own E c.n (xs.map (enc c))) := ⟨nrm_root (h.nrm_ hx rfl) rfl, h.cont _ (look?_mem hx)⟩
theorem Tells.cap (h : Tells nt n T l) {s r i : Nat} {pa : List (Nat × Nat × Nat)} {t : Ty} {x : t.den} (hx : look? l s = some (.dp r (.cap pa i t x))) : T.at s = .cap r (T.gen r) pa i (valsV (enc t x)) ∧ ∃ y, (enc t x)[i]? = some y ∧ (T.at r).getp pa = some y := ⟨nrm_root (h.nrm_ hx rfl) rfl, h.cont _ (look?_mem hx)⟩
theorem Tells.cpr (h : Tells nt n T l) {s r i : Nat} {pa : List (Nat × Nat × Nat)} {t : Ty} {x : t.den} (hx : look? l s = some (.dp r (.cpr pa i t x))) : T.at s = .cpr r (T.gen r) pa i (valsV (enc t x)) ∧ ∃ y, (enc t x)[i]? = some y ∧ (T.at r).getp pa = some y := ⟨nrm_root (h.nrm_ hx rfl) rfl, h.cont _ (look?_mem hx)⟩
end
/-- A slot gets a value; kill: handles of what it had are none any more. -/
def over (kill : Bool) (s : Nat) (x : SV) : Bool := bsel (kill || x.isDp) (match x.root? with
  | some r => r.beq s
  | none => false) <| false
def putL (s : Nat) (kill : Bool) (x : SV) : TS → TS
  | [] => []
  | p :: l => (bsel (p.1.beq s) ((s, x)) <| bsel (over kill s p.2) ((p.1, .dead)) <| p) :: putL s kill x l
def putS (s : Nat) (kill : Bool) (x : SV) (l : TS) : TS := match look? l s with
  | some _ => putL s kill x l
  | none => putL s kill x l ++ [(s, x)]
theorem putL_mem {s : Nat} {kill : Bool} {x : SV} {l : TS} {p : Nat × SV} (h : p ∈ putL s kill x l) : p = (s, x) ∨ (p.1 ≠ s ∧ ∃ q, q ∈ l ∧ q.1 = p.1 ∧ (p.2 = q.2 ∧ over kill s q.2 = false ∨ p.2 = .dead ∧ over kill s q.2 = true)) := by
  induction l with
  | nil => simp [putL] at h
  | cons q l ih =>
    simp only [putL] at h
    rcases List.mem_cons.1 h with h | h
    · cases hb : q.1.beq s with
      | true => rw [hb] at h; exact .inl h
      | false =>
        have hne : q.1 ≠ s := fun e => by rw [e, Nat.beq_refl] at hb; cases hb
        rw [hb] at h
        cases ho : over kill s q.2 with
        | true => rw [ho] at h; subst h; exact .inr ⟨hne, q, List.mem_cons_self, rfl, .inr ⟨rfl, ho⟩⟩
        | false => rw [ho] at h; subst h; exact .inr ⟨hne, p, List.mem_cons_self, rfl, .inl ⟨rfl, ho⟩⟩
    · rcases ih h with h | ⟨h1, q', h2, h3⟩
      · exact .inl h
      · exact .inr ⟨h1, q', List.mem_cons_of_mem _ h2, h3⟩
theorem putS_mem {s : Nat} {kill : Bool} {x : SV} {l : TS} {p : Nat × SV} (h : p ∈ putS s kill x l) : p = (s, x) ∨ (p.1 ≠ s ∧ ∃ q, q ∈ l ∧ q.1 = p.1 ∧ (p.2 = q.2 ∧ over kill s q.2 = false ∨ p.2 = .dead ∧ over kill s q.2 = true)) := by
  unfold putS at h
  split at h
  · exact putL_mem h
  · rcases List.mem_append.1 h with h | h
    · exact putL_mem h
    · exact .inl (by simpa using h)
theorem look?_putL {s : Nat} {kill : Bool} {x : SV} {l : TS} {t : Nat} (h : look? (putL s kill x l) t = none) : look? l t = none := by
  induction l with
  | nil => rfl
  | cons q l ih =>
    simp only [putL, look?] at h ⊢
    have e : (bsel (q.1.beq s) ((s, x)) <| bsel (over kill s q.2) ((q.1, SV.dead)) <| q).1 = q.1 := by
      cases hb : q.1.beq s with
      | true => exact (Nat.eq_of_beq_eq_true hb).symm
      | false => cases over kill s q.2 <;> rfl
    rw [e] at h
    cases hb : q.1.beq t with
    | true => rw [hb] at h; cases h
    | false => rw [hb] at h; exact ih h
theorem look?_append {l l' : TS} {t : Nat} : look? (l ++ l') t = match look? l t with | some x => some x | none => look? l' t := by
  induction l with
  | nil => rfl
  | cons q l ih =>
    simp only [List.cons_append, look?]
    cases q.1.beq t with
    | true => rfl
    | false => exact ih
theorem look?_putS {s : Nat} {kill : Bool} {x : SV} {l : TS} {t : Nat} (h : look? (putS s kill x l) t = none) : look? l t = none ∧ (look? l s = none → t ≠ s) := by
  unfold putS at h
  split at h
  · rename_i y hy
    exact ⟨look?_putL h, fun e => by rw [e] at hy; cases hy⟩
  · rw [look?_append] at h
    split at h
    · cases h
    · rename_i hn
      refine ⟨look?_putL hn, fun _ e => ?_⟩
      subst e
      simp [look?] at h
/-- One slot is written. -/
theorem Tells.put {nt n : Nat} {T : St} {l : TS} (h : Tells nt n T l) {s : Nat} {keep : Bool} {x : SV} {v : V} (hs : s < n) (hv : nrm (T.app [(s, keep, v)]) s = x.toV g0) (hc : nt ≤ s → x.root? = none ∧ v.root = none) (hco : contOk (T.app [(s, keep, v)]) x) : Tells nt n (T.app [(s, keep, v)]) (putS s (!keep) x l) := by
  have hlen : (T.app [(s, keep, v)]).length = n := (St.length_app _ _).trans h.len
  have hne : ∀ t, t ≠ s → (T.app [(s, keep, v)]).getD t (0, .no) = T.getD t (0, .no) := fun t ht => St.app_not T _ t (by simpa using ht)
  have hat : ∀ t, t ≠ s → (T.app [(s, keep, v)]).at t = T.at t := fun t ht => congrArg Prod.snd (hne t ht)
  have hge : ∀ t, t ≠ s → (T.app [(s, keep, v)]).gen t = T.gen t := fun t ht => congrArg Prod.fst (hne t ht)
  have hsl : s < T.length := by rw [h.len]; exact hs
  have hgs : (T.app [(s, keep, v)]).gen s = if keep then T.gen s else T.gen s + 1 := by
    simp [St.app, St.gen, hsl]
  have hats : (T.app [(s, keep, v)]).at s = v := St.at_last T [] s keep v hsl
  have plain : ∀ t, t ≠ s → (T.at t).root = none → nrm (T.app [(s, keep, v)]) t = nrm T t := by
    intro t ht hr
    have e : ∀ T : St, (T.at t).root = none → nrm T t = T.at t := fun T hr => by
      rcases nrm_cases T t with ⟨h1, _⟩ | ⟨r', g', h1, _⟩
      · exact h1
      · rw [hr] at h1; cases h1
    rw [e _ hr, e _ (by rw [hat t ht]; exact hr), hat t ht]
  have other : ∀ t, t ≠ s → ∀ r, (nrm T t).root = some (r, 0) → ¬ (r = s ∧ keep = false) → nrm (T.app [(s, keep, v)]) t = nrm T t := by
    intro t ht r hr hn
    rcases nrm_cases T t with ⟨h1, h2⟩ | ⟨r', g', h1, ⟨_, h2⟩ | ⟨h2, h3, _⟩⟩
    · rw [h1, h2] at hr; cases hr
    · rw [h2] at hr; simp [V.root] at hr
    · have hrr : r' = r := by rw [h3] at hr; injection hr with hr; injection hr
      subst hrr
      have e2 : (T.app [(s, keep, v)]).gen r' = g' := by
        by_cases ers : r' = s
        · subst ers
          have : keep = true := by cases keep with
            | true => rfl
            | false => exact absurd ⟨rfl, rfl⟩ hn
          rw [hgs, this, if_pos rfl, h2]
        · rw [hge r' ers, h2]
      have key : ∀ y, T.at t = y → y.root = some (r', g') → nrm (T.app [(s, keep, v)]) t = nrm T t := by
        intro y hy hyr
        unfold nrm
        rw [hat t ht, hy]
        cases y with
        | al a b => simp only [V.root, Option.some.injEq, Prod.mk.injEq] at hyr; obtain ⟨rfl, rfl⟩ := hyr; simp only [if_pos e2, if_pos h2]
        | ref a b c d e' => simp only [V.root, Option.some.injEq, Prod.mk.injEq] at hyr; obtain ⟨rfl, rfl⟩ := hyr; simp only [if_pos e2, if_pos h2]
        | vw a b c d e' => simp only [V.root, Option.some.injEq, Prod.mk.injEq] at hyr; obtain ⟨rfl, rfl⟩ := hyr; simp only [if_pos e2, if_pos h2]
        | alp a b c => simp only [V.root, Option.some.injEq, Prod.mk.injEq] at hyr; obtain ⟨rfl, rfl⟩ := hyr; simp only [if_pos e2, if_pos h2]
        | refp a b c d e' f' => simp only [V.root, Option.some.injEq, Prod.mk.injEq] at hyr; obtain ⟨rfl, rfl⟩ := hyr; simp only [if_pos e2, if_pos h2]
        | cap a b c d e' => simp only [V.root, Option.some.injEq, Prod.mk.injEq] at hyr; obtain ⟨rfl, rfl⟩ := hyr; simp only [if_pos e2, if_pos h2]
        | cpr a b c d e' => simp only [V.root, Option.some.injEq, Prod.mk.injEq] at hyr; obtain ⟨rfl, rfl⟩ := hyr; simp only [if_pos e2, if_pos h2]
        | _ => simp [V.root] at hyr
      exact key _ rfl h1
  refine ⟨hlen, fun p hp => ?_, fun p hp hpn => ?_, fun t ht htn hlk => ?_, fun p hp => ?_⟩
  · rcases putS_mem hp with rfl | ⟨hps, q, hq, hq1, ⟨h2, h3⟩ | ⟨h2, h3⟩⟩
    · exact ⟨hs, .inr hv⟩
    · obtain ⟨a1, a2⟩ := h.all q hq
      rw [hq1] at a1 a2
      refine ⟨a1, ?_⟩
      rw [h2]
      rcases a2 with a2 | a2
      · exact .inl a2
      · by_cases hd : q.2.isDead = true ∧ p.1 < nt
        · exact .inl hd
        · refine .inr ?_
          rw [← a2]
          rcases (toV_plain g0 q.2).2 with h4 | ⟨r, h4, h5⟩
          · refine plain p.1 hps ?_
            by_cases hdd : q.2.isDead = true
            · have := (h.cell q hq (by rw [hq1]; exact Nat.le_of_not_lt fun e => hd ⟨hdd, e⟩)).2
              rw [hq1] at this
              exact this
            · have := nrm_plain a2 (fun e => hdd (toV_dead e)) h4
              rw [this]; exact h4
          · refine other p.1 hps r (by rw [a2, h5]; rfl) fun ⟨e1, e2⟩ => ?_
            subst e1 e2
            simp [over, h4, Nat.beq_refl] at h3
    · obtain ⟨a1, a2⟩ := h.all q hq
      rw [hq1] at a1
      refine ⟨a1, .inl ⟨by rw [h2]; rfl, Nat.lt_of_not_le fun e => ?_⟩⟩
      have := (h.cell q hq (by rw [hq1]; exact e)).1
      unfold over at h3
      rw [this] at h3
      revert h3
      cases keep <;> cases q.2.isDp <;> simp
  · rcases putS_mem hp with rfl | ⟨hps, q, hq, hq1, h2⟩
    · rw [hats]; exact hc hpn
    · obtain ⟨a1, a2⟩ := h.cell q hq (by rw [hq1]; exact hpn)
      rw [hq1] at a2
      rw [hat p.1 hps]
      refine ⟨?_, a2⟩
      rcases h2 with ⟨h2, _⟩ | ⟨h2, _⟩
      · rw [h2]; exact a1
      · rw [h2]; rfl
  · obtain ⟨h1, h2⟩ := look?_putS hlk
    have hts : t ≠ s := by
      cases hls : look? l s with
      | none => exact h2 hls
      | some y => intro e; rw [e, hls] at h1; cases h1
    rw [hat t hts]
    exact h.no t ht htn h1
  · rcases putS_mem hp with rfl | ⟨hps, q, hq, hq1, ⟨h2, h3⟩ | ⟨h2, _⟩⟩
    · exact hco
    · rw [h2]
      cases hd : q.2.isDp with
      | false => cases hx : q.2 <;> first | trivial | (rw [hx] at hd; cases hd)
      | true =>
        refine contOk_at (h.cont q hq) fun r hr => hat r fun e => ?_
        subst e
        simp [over, hd, hr, Nat.beq_refl] at h3
    · rw [h2]; trivial
/-- What an operation writes. -/
abbrev ES := List (Nat × Bool × SV)
def ES.eff (T : St) (E : ES) : Eff := E.map fun e => (e.1, e.2.1, e.2.2.toV T.gen)
def putE : ES → TS → TS
  | [], l => l
  | e :: E, l => putE E (putS e.1 (!e.2.1) e.2.2 l)
/-- No handles are written, but alone. -/
def EOk (nt n : Nat) (T : St) (E : ES) : Prop := (∀ e, e ∈ E → e.1 < n ∧ e.2.2.root? = none) ∨ ∃ e r, E = [e] ∧ e.1 < nt ∧ e.1 < n ∧ e.2.2.root? = some r ∧ r ≠ e.1 ∧ contOk T e.2.2
theorem tells_putE {nt n : Nat} : ∀ {E : ES} {T : St} {l : TS} (g : Nat → Nat), Tells nt n T l → (∀ e, e ∈ E → e.1 < n ∧ e.2.2.root? = none) → Tells nt n (T.app (E.map fun e => (e.1, e.2.1, e.2.2.toV g))) (putE E l)
  | [], _, _, _, h, _ => h
  | e :: E, T, l, g, h, he => by
    obtain ⟨h1, h2⟩ := he e List.mem_cons_self
    have hsl : e.1 < T.length := by rw [h.len]; exact h1
    have hr : (e.2.2.toV g).root = none := by
      rcases (toV_plain g e.2.2).2 with h3 | ⟨r, h3, _⟩
      · exact h3
      · rw [h2] at h3; cases h3
    have hat : (T.app [(e.1, e.2.1, e.2.2.toV g)]).at e.1 = e.2.2.toV g := St.at_last T [] _ _ _ hsl
    have := Tells.put h (s := e.1) (keep := e.2.1) (x := e.2.2) (v := e.2.2.toV g) h1 (by
      rcases nrm_cases (T.app [(e.1, e.2.1, e.2.2.toV g)]) e.1 with ⟨h3, _⟩ | ⟨r', g', h3, _⟩
      · rw [h3, hat, toV_none g g0 _ h2]
      · rw [hat, hr] at h3; cases h3) (fun _ => ⟨h2, hr⟩) (contOk_none h2)
    exact tells_putE (E := E) (T := T.app [(e.1, e.2.1, e.2.2.toV g)]) (l := putS e.1 (!e.2.1) e.2.2 l) g this fun e' he' => he e' (List.mem_cons_of_mem _ he')
theorem Tells.puts {nt n : Nat} {E : ES} {T : St} {l : TS} (h : Tells nt n T l) (he : EOk nt n T E) : Tells nt n (T.app (E.eff T)) (putE E l) := by
  rcases he with he | ⟨e, r, rfl, h1, h2, h3, h4, h5⟩
  · exact tells_putE _ h he
  · have hsl : e.1 < T.length := by rw [h.len]; exact h2
    refine Tells.put h (x := e.2.2) h2 ?_ (fun hn => by omega) (contOk_at h5 fun r' hr' => congrArg Prod.snd (St.app_not T _ r' (by rw [h3] at hr'; injection hr' with hr'; subst hr'; simpa using h4)))
    have hat : (T.app [(e.1, e.2.1, e.2.2.toV T.gen)]).at e.1 = e.2.2.toV T.gen := St.at_last T [] _ _ _ hsl
    have hg : (T.app [(e.1, e.2.1, e.2.2.toV T.gen)]).gen r = T.gen r := congrArg Prod.fst (St.app_not T _ r (by simpa using h4))
    have key : ∀ T' : St, T'.at e.1 = e.2.2.toV T.gen → T'.gen r = T.gen r → nrm T' e.1 = e.2.2.toV g0 := by
      intro T' h5 h6
      generalize e.2.2 = x at h3 h5 ⊢
      unfold nrm
      rw [h5]
      cases x <;> simp only [SV.root?, Option.some.injEq, reduceCtorEq] at h3
      all_goals
        subst h3
        first
          | exact if_pos h6
          | (rename_i x; cases x <;> exact if_pos h6)
    exact key _ hat hg
end Go.Proofs.Ytepeoiimdefnpaa.Vm
