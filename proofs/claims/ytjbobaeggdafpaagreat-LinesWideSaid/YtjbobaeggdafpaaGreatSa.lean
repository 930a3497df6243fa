/- Words of 64 bits: products of two, four words times one, which is less; badness by them. -/
import Derived.Test.YtjbobaeggdafpaaGreatQz
import Derived.Test.YtjbobaeggdafpaaGreatKit
import Derived.Test.YtjbobaeggdafpaaGreatBadM
namespace Go.Proofs.YtjbobaeggdafpaaGreat.Vm
open Go
open _root_.Go.RowKit (wrap64)
open Go.Proofs.YtjbobaeggdafpaaGreat.BadM (clamp clamp_le clamp_ge clamp_id clamp_clamp cube cube_pos bad bad_five bad_search bad_range)
theorem and32 {x : Int} (h : U64 x) : andI .u64 x 4294967295 = x % 4294967296 := by
 obtain ⟨h0, h1⟩ := h
 obtain ⟨n, rfl⟩ := Int.eq_ofNat_of_zero_le h0
 have hn : n < 18446744073709551616 := by omega
 have e : (BitVec.ofInt 64 (n : Int) &&& BitVec.ofInt 64 4294967295).toNat = n % 4294967296 := by
  rw [BitVec.toNat_and, BitVec.toNat_ofInt, BitVec.toNat_ofInt]
  have a1 : ((n : Int) % ((2 ^ 64 : Nat) : Int)).toNat = n := by omega
  have a2 : ((4294967295 : Int) % ((2 ^ 64 : Nat) : Int)).toNat = 2 ^ 32 - 1 := by decide
  rw [a1, a2, Nat.and_two_pow_sub_one_eq_mod]
 show IntKind.u64.wrap ((BitVec.ofInt 64 (n : Int) &&& BitVec.ofInt 64 4294967295).toNat : Int) = _
 rw [e, u64id (by omega) (by omega)]
 omega
theorem shr32 {x : Int} (_ : U64 x) : shrI .u64 x 32 = x / 4294967296 := by
 show x.fdiv (2 ^ min (Int.toNat 32) 64) = _
 rw [show ((2 : Int) ^ min (Int.toNat 32) 64) = 4294967296 by decide]
 exact Int.fdiv_eq_ediv_of_nonneg _ (by omega)
theorem mul_lt {a b m n : Int} (h0 : 0 ≤ a) (h1 : a < m) (k0 : 0 ≤ b) (k1 : b < n) : 0 ≤ a * b ∧ a * b ≤ (m - 1) * (n - 1) :=
 ⟨Int.mul_nonneg h0 k0, Int.mul_le_mul (by omega) (by omega) k0 (by omega)⟩
theorem times_bound {a b : Int} (ha : U64 a) (hb : U64 b) : 0 ≤ a * b ∧ a * b ≤ 340282366920938463426481119284349108225 := by
 have := mul_lt ha.1 ha.2 hb.1 hb.2
 omega
theorem mul64_eq {a b : Int} (ha : U64 a) (hb : U64 b) (k : Nat) : bits_Mul64.f k a b = some (a * b / 18446744073709551616, a * b % 18446744073709551616) := by
 unfold bits_Mul64.f
 have hw : IntKind.u64.wrap (a * b) = a * b % 18446744073709551616 := by simp [IntKind.wrap, IntKind.bits, IntKind.signed]
 rw [hw, and32 ha, and32 hb, shr32 ha, shr32 hb]
 obtain ⟨a0, a1⟩ := ha
 obtain ⟨b0, b1⟩ := hb
 have e1 : a = 4294967296 * (a / 4294967296) + a % 4294967296 := by omega
 have e2 : b = 4294967296 * (b / 4294967296) + b % 4294967296 := by omega
 have x0 : 0 ≤ a % 4294967296 ∧ a % 4294967296 < 4294967296 := by omega
 have y0 : 0 ≤ b % 4294967296 ∧ b % 4294967296 < 4294967296 := by omega
 have x1 : 0 ≤ a / 4294967296 ∧ a / 4294967296 < 4294967296 := by omega
 have y1 : 0 ≤ b / 4294967296 ∧ b / 4294967296 < 4294967296 := by omega
 have hprod : a * b = 18446744073709551616 * (a / 4294967296 * (b / 4294967296)) + 4294967296 * (a / 4294967296 * (b % 4294967296)) + 4294967296 * (a % 4294967296 * (b / 4294967296)) + a % 4294967296 * (b % 4294967296) := by
  generalize a / 4294967296 = p at *
  generalize a % 4294967296 = q at *
  generalize b / 4294967296 = r at *
  generalize b % 4294967296 = s at *
  subst e1 e2
  simp only [Int.add_mul, Int.mul_add, Int.mul_assoc]
  rw [show p * (4294967296 * r) = 4294967296 * (p * r) by rw [Int.mul_left_comm], show q * (4294967296 * r) = 4294967296 * (q * r) by rw [Int.mul_left_comm]]
  omega
 have m1 := mul_lt x0.1 x0.2 y0.1 y0.2
 have m2 := mul_lt x1.1 x1.2 y0.1 y0.2
 have m3 := mul_lt x0.1 x0.2 y1.1 y1.2
 have m4 := mul_lt x1.1 x1.2 y1.1 y1.2
 rw [hprod]
 clear hprod e1 e2 hw
 generalize a % 4294967296 * (b % 4294967296) = w0 at *
 generalize a / 4294967296 * (b % 4294967296) = w1 at *
 generalize a % 4294967296 * (b / 4294967296) = w2 at *
 generalize a / 4294967296 * (b / 4294967296) = w3 at *
 clear x0 y0 x1 y1 a0 a1 b0 b1
 rw [u64id (x := w0) (by omega) (by omega), u64id (x := w1) (by omega) (by omega), u64id (x := w2) (by omega) (by omega), u64id (x := w3) (by omega) (by omega)]
 rw [shr32 (x := w0) ⟨by omega, by omega⟩, u64id (x := w1 + w0 / 4294967296) (by omega) (by omega), and32 (x := w1 + w0 / 4294967296) ⟨by omega, by omega⟩, shr32 (x := w1 + w0 / 4294967296) ⟨by omega, by omega⟩]
 rw [u64id (x := (w1 + w0 / 4294967296) % 4294967296 + w2) (by omega) (by omega), shr32 (x := (w1 + w0 / 4294967296) % 4294967296 + w2) ⟨by omega, by omega⟩, u64id (x := w3 + (w1 + w0 / 4294967296) / 4294967296) (by omega) (by omega), u64id (by omega) (by omega)]
 congr 2
 omega
def wideV (w : Int × Int × Int × Int) : Int := w.1 + 18446744073709551616 * w.2.1 + 340282366920938463463374607431768211456 * w.2.2.1 + 6277101735386680763835789423207666416102355444464034512896 * w.2.2.2
structure Wide (w : Int × Int × Int × Int) (v : Int) : Prop where
 u0 : U64 w.1
 u1 : U64 w.2.1
 u2 : U64 w.2.2.1
 u3 : U64 w.2.2.2
 val : wideV w = v
theorem product_ev {a b : Int} (ha : U64 a) (hb : U64 b) : ∃ w, Wide w (a * b) ∧ Ev (fun k => scaled_product.f k a b) w := by
 have h := times_bound ha hb
 refine ⟨(a * b % 18446744073709551616, a * b / 18446744073709551616, 0, 0), ?_, Ev.bind (Ev.congr (fun k => mul64_eq ha hb k) (Ev.now _)) (Ev.now _)⟩
 generalize a * b = q at *
 constructor <;> (first | (unfold U64; dsimp only; omega) | (unfold wideV; dsimp only; omega))
theorem wide_times_ev {w : Int × Int × Int × Int} {v b : Int} (h : Wide w v) (hb : U64 b) (hv : v * b < 115792089237316195423570985008687907853269984665640564039457584007913129639936) :
 ∃ r, Wide r (v * b) ∧ Ev (fun k => scaled_wide_times.f k w b) r := by
 obtain ⟨w0, w1, w2, w3⟩ := w
 obtain ⟨u0, u1, u2, u3, hval⟩ := h
 dsimp only at u0 u1 u2 u3
 have p0 := times_bound u0 hb
 have p1 := times_bound u1 hb
 have p2 := times_bound u2 hb
 have p3 := times_bound u3 hb
 have z1 : wrap64 (0 + 1) = 1 := w64 (x := 0 + 1) (by omega) (by omega)
 have z2 : wrap64 (1 + 1) = 2 := w64 (x := 1 + 1) (by omega) (by omega)
 have z3 : wrap64 (2 + 1) = 3 := w64 (x := 2 + 1) (by omega) (by omega)
 have z4 : wrap64 (3 + 1) = 4 := w64 (x := 3 + 1) (by omega) (by omega)
 have ul : ∀ {x y : Int}, 0 ≤ x → x ≤ 340282366920938463426481119284349108225 → 0 ≤ y → y ≤ 18446744073709551615 → IntKind.u64.wrap (x / 18446744073709551616 + (x % 18446744073709551616 + y + (0 : Int)) / 18446744073709551616) = (x + y) / 18446744073709551616 := by
  intro x y a1 a2 a3 a4
  rw [u64id (by omega) (by omega)]
  omega
 have e : v * b = w0 * b + 18446744073709551616 * (w1 * b) + 340282366920938463463374607431768211456 * (w2 * b) + 6277101735386680763835789423207666416102355444464034512896 * (w3 * b) := by
  rw [← hval]; unfold wideV; simp only [Int.add_mul, Int.mul_assoc]
 rw [e] at hv ⊢
 have step : ∀ (c x i : Int) (o : Int × Int × Int × Int) (r : Int × Int × Int × Int), 0 ≤ i → i < 4 → rd [w0, w1, w2, w3] i = x → U64 x → 0 ≤ x * b ∧ x * b ≤ 340282366920938463426481119284349108225 → 0 ≤ c → c ≤ 18446744073709551615 →
  Ev (fun k => scaled_wide_times.l0 k b ((x * b + c) / 18446744073709551616) (w0, w1, w2, w3) (wrap64 (i + 1)) (0, 0, 0, 0) (if i.toNat = 0 then (x * b + c) % 18446744073709551616 else o.1, if i.toNat = 1 then (x * b + c) % 18446744073709551616 else o.2.1, if i.toNat = 2 then (x * b + c) % 18446744073709551616 else o.2.2.1, if i.toNat = 3 then (x * b + c) % 18446744073709551616 else o.2.2.2)) r →
  Ev (fun k => scaled_wide_times.l0 k b c (w0, w1, w2, w3) i (0, 0, 0, 0) o) r := by
  intro c x i o r i0 i4 hx ux hb' c0 c1 H
  refine Ev.st (fun k => by rw [scaled_wide_times.l0]) (Ev.dp i4 (Ev.at_ i0 (by simpa using i4) ?_))
  rw [hx]
  refine Ev.bind (Ev.congr (fun k => mul64_eq ux hb k) (Ev.now _)) ?_
  dsimp only
  generalize x * b = q at *
  refine Ev.ifp (by omega) (Ev.ifp (by omega) (Ev.ifp (by omega) ?_))
  rw [ul hb'.1 hb'.2 c0 c1, show (q % 18446744073709551616 + c + (0 : Int)) % 18446744073709551616 = (q + c) % 18446744073709551616 by omega]
  exact H
 have last : ∀ c o, Ev (fun k => scaled_wide_times.l0 k b c (w0, w1, w2, w3) 4 (0, 0, 0, 0) o) o := fun c o => Ev.st (fun k => by rw [scaled_wide_times.l0]) (Ev.dn (by omega) (Ev.now _))
 have run : ∃ r, Ev (fun k => scaled_wide_times.f k (w0, w1, w2, w3) b) r ∧ r = ((w0 * b + 0) % 18446744073709551616, (w1 * b + (w0 * b + 0) / 18446744073709551616) % 18446744073709551616, (w2 * b + (w1 * b + (w0 * b + 0) / 18446744073709551616) / 18446744073709551616) % 18446744073709551616, (w3 * b + (w2 * b + (w1 * b + (w0 * b + 0) / 18446744073709551616) / 18446744073709551616) / 18446744073709551616) % 18446744073709551616) := by
  refine ⟨_, ?_, rfl⟩
  refine step 0 w0 0 _ _ (by omega) (by omega) rfl u0 p0 (by omega) (by omega) ?_
  rw [z1]
  refine step _ w1 1 _ _ (by omega) (by omega) rfl u1 p1 (by omega) (by omega) ?_
  rw [z2]
  refine step _ w2 2 _ _ (by omega) (by omega) rfl u2 p2 (by omega) (by omega) ?_
  rw [z3]
  refine step _ w3 3 _ _ (by omega) (by omega) rfl u3 p3 (by omega) (by omega) ?_
  rw [z4]
  exact last _ _
 obtain ⟨r, hr, rfl⟩ := run
 refine ⟨_, ?_, hr⟩
 generalize w0 * b = q0 at *
 generalize w1 * b = q1 at *
 generalize w2 * b = q2 at *
 generalize w3 * b = q3 at *
 constructor <;> (first | (unfold U64; dsimp only; omega) | (unfold wideV; dsimp only; omega))
theorem smaller_ev {a b : Int × Int × Int × Int} {v u : Int} (h : Wide a v) (k : Wide b u) : Ev (fun k => scaled_smaller.f k a b) (decide (v < u)) := by
 obtain ⟨a0, a1, a2, a3⟩ := a
 obtain ⟨b0, b1, b2, b3⟩ := b
 obtain ⟨u0, u1, u2, u3, hval⟩ := h
 obtain ⟨t0, t1, t2, t3, kval⟩ := k
 unfold wideV at hval kval
 unfold U64 at *
 dsimp only at *
 have z3 : wrap64 (3 - 1) = 2 := w64 (x := 3 - 1) (by omega) (by omega)
 have z2 : wrap64 (2 - 1) = 1 := w64 (x := 2 - 1) (by omega) (by omega)
 have z1 : wrap64 (1 - 1) = 0 := w64 (x := 1 - 1) (by omega) (by omega)
 have z0 : wrap64 (0 - 1) = -1 := w64 (x := 0 - 1) (by omega) (by omega)
 have step : ∀ (i x y : Int) (r : Bool), 0 ≤ i → i < 4 → ([a0, a1, a2, a3] : List Int)[i.toNat]? = some x → ([b0, b1, b2, b3] : List Int)[i.toNat]? = some y → (x ≠ y → r = decide (x < y)) → (x = y → Ev (fun k => scaled_smaller.l0 k (wrap64 (i - 1)) (a0, a1, a2, a3) (b0, b1, b2, b3)) r) →
  Ev (fun k => scaled_smaller.l0 k i (a0, a1, a2, a3) (b0, b1, b2, b3)) r := by
  intro i x y r i0 i4 hx hy h1 h2
  have hi : 0 ≤ i ∧ i < (4 : Int) := ⟨i0, i4⟩
  refine Ev.st (fun k => by rw [scaled_smaller.l0]) (Ev.dp i0 (Ev.ifp hi (Ev.ix hx ?_)))
  refine Ev.ifp hi (Ev.ix hy ?_)
  refine Ev.xc (fun c => ?_) (fun c => h2 c)
  refine Ev.ifp hi (Ev.ix hx ?_)
  refine Ev.ifp hi (Ev.ix hy ?_)
  exact Ev.some_ (h1 c).symm
 refine step 3 a3 b3 _ (by omega) (by omega) rfl rfl (fun c => by rw [decide_eq_decide]; omega) (fun c3 => ?_)
 rw [z3]
 refine step 2 a2 b2 _ (by omega) (by omega) rfl rfl (fun c => by rw [decide_eq_decide]; omega) (fun c2 => ?_)
 rw [z2]
 refine step 1 a1 b1 _ (by omega) (by omega) rfl rfl (fun c => by rw [decide_eq_decide]; omega) (fun c1 => ?_)
 rw [z1]
 refine step 0 a0 b0 _ (by omega) (by omega) rfl rfl (fun c => by rw [decide_eq_decide]; omega) (fun c0 => ?_)
 rw [z0]
 exact Ev.st (fun k => by rw [scaled_smaller.l0]) (Ev.dn (by omega) (Ev.some_ (by symm; rw [decide_eq_false_iff_not]; omega)))
theorem scaled_Clamp_ev (a : Int) : Ev (fun k => scaled_Clamp.f k a) (clamp a) := by
 refine Ev.some_ ?_
 unfold clamp
 repeat' split
 all_goals omega
theorem mul3_le {a b c : Int} (h0 : 0 ≤ a) (h1 : 0 ≤ b) (h2 : 0 ≤ c) (ha : a ≤ 1152921504606846976) (hb : b ≤ 1152921504606846976) (hc : c ≤ 1152921504606846976) : 0 ≤ a * b ∧ a * b ≤ 1329227995784915872903807060280344576 ∧ 0 ≤ a * b * c ∧ a * b * c ≤ 1532495540865888858358347027150309183618739122183602176 := by
 have x := Int.mul_le_mul ha hb h1 (by omega)
 have y := Int.mul_nonneg h0 h1
 have x' : a * b ≤ 1329227995784915872903807060280344576 := by omega
 have z := Int.mul_le_mul x' hc h2 (by omega)
 exact ⟨y, x', Int.mul_nonneg y h2, by omega⟩
theorem bad_loop {t s : Int} (ht : 0 < t) (hs : 0 < s) (hs2 : s ≤ 1152921504606846976) {a b : Int × Int × Int × Int} (hl : Wide a (100 * cube t)) (hc : Wide b (cube s)) : ∀ (d : Nat) (lo hi : Int), 0 ≤ lo → lo ≤ hi → hi ≤ 10000 → hi - lo ≤ d → lo * cube s ≤ 100 * cube t → (hi = 10000 ∨ 100 * cube t < (hi + 1) * cube s) →
 Ev (fun k => scaled_Bad.l1 k lo hi a b) (bad t s) := by
 have hcp := cube_pos hs
 have hcb : cube s ≤ 1532495540865888858358347027150309183618739122183602176 := (mul3_le (a := s) (b := s) (c := s) (by omega) (by omega) (by omega) hs2 hs2 hs2).2.2.2
 intro d
 induction d using Nat.strongRecOn with
 | _ d ih =>
  intro lo hi h0 h1 h2 h3 h4 h5
  by_cases c : lo < hi
  · refine Ev.st (fun k => by rw [scaled_Bad.l1]) (Ev.dp c ?_)
    rw [w64 (x := lo + hi) (by omega) (by omega), w64 (x := lo + hi + 1) (by omega) (by omega), Int.tdiv_eq_ediv_of_nonneg (by omega), w64 (x := (lo + hi + 1) / 2) (by omega) (by omega)]
    have b1 : lo < (lo + hi + 1) / 2 := by omega
    have b2 : (lo + hi + 1) / 2 ≤ hi := by omega
    generalize hmid : (lo + hi + 1) / 2 = mid at *
    have hm : cube s * mid ≤ 1532495540865888858358347027150309183618739122183602176 * 10000 := Int.mul_le_mul hcb (by omega) (by omega) (by omega)
    obtain ⟨r, e2, e1⟩ := wide_times_ev hc (b := mid) ⟨by omega, by omega⟩ (by omega)
    rw [u64id (x := mid) (by omega) (by omega), w64 (x := mid - 1) (by omega) (by omega)]
    refine Ev.bind e1 (Ev.bind (smaller_ev hl e2) (Ev.dc (fun q => ?_) (fun q => ?_)))
    · refine ih (mid - 1 - lo).toNat (by omega) lo (mid - 1) h0 (by omega) (by omega) (by omega) h4 (.inr ?_)
      rw [Int.sub_add_cancel, Int.mul_comm mid]; exact q
    · exact ih (hi - mid).toNat (by omega) mid hi (by omega) b2 h2 (by omega) (by rw [Int.mul_comm]; omega) h5
  · have e : lo = hi := by omega
    subst e
    exact Ev.st (fun k => by rw [scaled_Bad.l1]) (Ev.dn c (Ev.some_ (bad_search ht hs h0 h2 h4 h5).symm))
theorem scaled_Bad_ev (a b : Int) : Ev (fun k => scaled_Bad.f k a b) (bad (clamp a) (clamp b)) := by
 have ha := clamp_le a
 have hb := clamp_le b
 refine Ev.bind (scaled_Clamp_ev a) (Ev.bind (scaled_Clamp_ev b) ?_)
 generalize clamp a = t at *
 generalize clamp b = s at *
 refine Ev.dc (fun c => Ev.some_ (by unfold bad; rw [if_pos c])) (fun c1 => ?_)
 refine Ev.dc (fun c => Ev.some_ (by unfold bad; rw [if_neg c1, if_pos c])) (fun c2 => Ev.ifp (by omega) ?_)
 rw [Int.tdiv_eq_ediv_of_nonneg (show 0 ≤ t by omega)]
 have hq : 0 ≤ t / s := Int.ediv_nonneg (by omega) (by omega)
 have hq2 : t / s ≤ t := Int.ediv_le_self _ (by omega)
 rw [w64 (x := t / s) (by omega) (by omega)]
 refine Ev.dc (fun c3 => Ev.some_ (bad_five (by omega) ((Int.le_ediv_iff_mul_le (by omega)).1 c3)).symm) (fun c3 => ?_)
 refine Ev.st (fun k => by rw [scaled_Bad.j0]) ?_
 rw [u64id (x := t) (by omega) (by omega), u64id (x := s) (by omega) (by omega)]
 have ut : U64 t := ⟨by omega, by omega⟩
 have us : U64 s := ⟨by omega, by omega⟩
 have bt := mul3_le (a := t) (b := t) (c := t) (by omega) (by omega) (by omega) ha ha ha
 have bs := mul3_le (a := s) (b := s) (c := s) (by omega) (by omega) (by omega) hb hb hb
 obtain ⟨w1, v1, e1⟩ := product_ev ut ut
 obtain ⟨w2, v2, e2⟩ := wide_times_ev v1 ut (by omega)
 obtain ⟨w3, v3, e3⟩ := wide_times_ev v2 (b := 100) ⟨by omega, by omega⟩ (by omega)
 obtain ⟨w4, v4, e4⟩ := product_ev us us
 obtain ⟨w5, v5, e5⟩ := wide_times_ev v4 us (by omega)
 refine Ev.bind e1 (Ev.bind e2 (Ev.bind e3 (Ev.bind e4 (Ev.bind e5 ?_))))
 rw [show t * t * t * 100 = 100 * cube t by unfold cube; omega] at v3
 have hp := cube_pos (a := t) (by omega)
 exact bad_loop (by omega) (by omega) hb v3 v5 10000 0 10000 (by omega) (by omega) (by omega) (by omega) (by omega) (.inl rfl)
end Go.Proofs.YtjbobaeggdafpaaGreat.Vm
