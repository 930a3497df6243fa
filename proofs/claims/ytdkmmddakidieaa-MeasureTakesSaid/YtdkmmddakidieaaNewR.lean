/- Four rows of numbers are appended to in one statement of measure.New: in whatever order, each is longer by its number. -/
import Derived.Test.YtdkmmddakidieaaPx0
import Derived.Test.YtdkmmddakidieaaHp
import Derived.Test.YtdkmmddakidieaaWo
import Derived.Test.YtdkmmddakidieaaWe
namespace Go.Proofs.Ytdkmmddakidieaa.P
open Go.RowKit Go.Proofs.YtdkmmddakidieaaW.PrintWords Go.Proofs.YtdkmmddakidieaaW.PrintLast Go.Proofs.YtdkmmddakidieaaW.PrintMore
set_option linter.unusedVariables false
set_option linter.unusedSimpArgs false
theorem measure_New.infoI : (Try.prog.info? 3).map (fun i => (i.zero, i.size, i.bytes)) = some (some (.int .i64 0), 1, 8) := by kernel_rfl
def measure_New.T9 : Bool × List (List Nat × List Nat) := (true, [([], []), ([], []), ([], []), ([], []), ([], []), ([4], [4]), ([5], [5]), ([6], [6]), ([], []), ([8], [8]), ([7, 9], [7, 9]), ([], []), ([11], [11]), ([12], [12]), ([13], [13]), ([], []), ([15], [15]), ([14, 16, 10], [14, 16]), ([], []), ([18], [18]), ([19], [19]), ([20], [20]), ([], []), ([22], [22]), ([21, 23, 17], [21, 23]), ([], []), ([25], [25]), ([26], [26]), ([27], [27]), ([], []), ([29], [29]), ([28, 30, 24], [28, 30]), ([0, 0, 4, 5, 6, 7, 8, 9, 10, 14, 17, 21, 24, 28, 31], [0]), ([32, 0, 4, 5, 6, 7, 8, 9, 10, 14, 17, 21, 24, 28, 31], [32]), ([33, 10, 31, 0, 4, 5, 6, 7, 8, 9, 10, 14, 17, 21, 24, 28, 31], [10, 33]), ([1, 0, 1, 4, 5, 6, 7, 8, 9, 10, 11, 12, 13, 14, 15, 16, 17, 21, 24, 28, 31, 32, 33, 34], [1]), ([35, 0, 1, 4, 5, 6, 7, 8, 9, 10, 11, 12, 13, 14, 15, 16, 17, 21, 24, 28, 31, 32, 33, 34], [35]), ([36, 17, 34, 0, 1, 4, 5, 6, 7, 8, 9, 10, 11, 12, 13, 14, 15, 16, 17, 21, 24, 28, 31, 32, 33, 34], [17, 36]), ([2, 0, 1, 2, 4, 5, 6, 7, 8, 9, 10, 11, 12, 13, 14, 15, 16, 17, 18, 19, 20, 21, 22, 23, 24, 28, 31, 32, 33, 34, 35, 36, 37], [2]), ([38, 0, 1, 2, 4, 5, 6, 7, 8, 9, 10, 11, 12, 13, 14, 15, 16, 17, 18, 19, 20, 21, 22, 23, 24, 28, 31, 32, 33, 34, 35, 36, 37], [38]), ([39, 24, 37, 0, 1, 2, 4, 5, 6, 7, 8, 9, 10, 11, 12, 13, 14, 15, 16, 17, 18, 19, 20, 21, 22, 23, 24, 28, 31, 32, 33, 34, 35, 36, 37], [24, 39]), ([3, 0, 1, 2, 3, 4, 5, 6, 7, 8, 9, 10, 11, 12, 13, 14, 15, 16, 17, 18, 19, 20, 21, 22, 23, 24, 25, 26, 27, 28, 29, 30, 31, 32, 33, 34, 35, 36, 37, 38, 39, 40], [3]), ([41, 0, 1, 2, 3, 4, 5, 6, 7, 8, 9, 10, 11, 12, 13, 14, 15, 16, 17, 18, 19, 20, 21, 22, 23, 24, 25, 26, 27, 28, 29, 30, 31, 32, 33, 34, 35, 36, 37, 38, 39, 40], [41]), ([42, 31, 40, 0, 1, 2, 3, 4, 5, 6, 7, 8, 9, 10, 11, 12, 13, 14, 15, 16, 17, 18, 19, 20, 21, 22, 23, 24, 25, 26, 27, 28, 29, 30, 31, 32, 33, 34, 35, 36, 37, 38, 39, 40], [31, 42])])
def measure_New.B9 : List Nat := [0, 0, 0, 0, 0, 16, 48, 112, 0, 256, 1008, 0, 2048, 6144, 14336, 0, 32768, 131056, 0, 262144, 786432, 1835008, 0, 4194304, 16777200, 0, 33554432, 100663296, 234881024, 0, 536870912, 2147483632, 4294967281, 8589934577, 17179869169, 34359738355, 68719476723, 137438953459, 274877906935, 549755813879, 1099511627767, 2199023255551, 4398046511103, 8796093022207]
theorem measure_New.tab9 : rtab .any (opsOf Try.f18 9) = measure_New.T9 := by kernel_rfl
theorem measure_New.bits9 : waitsOk measure_New.T9.2 measure_New.B9 = true := by kernel_rfl
set_option maxHeartbeats 8000000 in
set_option maxRecDepth 100000 in
theorem measure_New.reg9 {ops : Array Oper} (ho_ : opsOf Try.f18 9 = ops) {Q : Exit → Act → World → Prop} (hP : ∀ c (a : Act) (N : Tmp) (v : Value) (W : World), Q (.panic c) (a.put (some N) v) W → Q (.panic c) a W) {x0 x1 x2 x3 x4 x10 x11 x12 x13 x14 x15 x16 x17 x18 x19 x20 x21 x22 x23 x24 x25 x26 x27 x28 x29 x30 x31 x32 x33 x34 x35 x36 x37 x38 x39 x40 x41 x42 x43 x44 x45 x46 x47 x48 x49 x50 x51 x52 x53 x54 x55 x56 x57 x58 x59 x60 x61 x62 x63 x64 x65 x66 x67 x68 x69 x70 x71 x72 x73 x74 x75 x76 x77 x78 x79 x80 x81 x82 x83 x84 x85 x86 x87 x88 x89 x90 x91 x92 x93 x94 x95 x96 x97 x98 x99 x100 x101 x102 x103 x104 x105 x106 x107 x108 x109 x110 x111 x112 x113 x114 x115 x116 x117 x118 x119 x120 x121 x122 x123 x124 x125 x126 x127 x128 x129 x130 x131 x132 x133 x134 x135 x136 x137 x138 x139 x140 x141 x142 x143 x144 x145 x146 x147 x148 x149 x150 x151 x152 x153 x154 x155 x156 x157 x158 x159 x160 x161 x162 x163 x164 x165 x166 x167 x168 x169 x170 x171 x172 x173 x174 x175 x176 x177 x178 x179 x180 x181 x182 x183 x184 x185 x186 x187 x188 x189 x190 x191 x192 x193 x194 x195 x196 x197 x198 x199 x200 x201 x202 x203 x204 x205 x206 x207 x208 x209 x210 x211 x212 x213 x214 x215 : Value} {w0 w : World} {gp : Nat} {c0 c5 c6 v0 v1 v2 v3 v4 : Value} {X0 X1 X2 X3 X4 : List Int} {n0 n1 n2 n3 : Int} {bsr : List (Nat × Obj)}
    (H : Hp w0 ((gp, .cells #[c0, v0, v1, v2, v3, c5, c6, v4] 75 (0, 0)) :: bsr) [rI 3 v0 X0, rI 3 v1 X1, rI 3 v2 X2, rI 3 v3 X3, rI 3 v4 X4, rN 3, rN 3, rN 3, rN 3] w)
    (hl0 : X0.length + 1 ≤ 17592186044416)
    (hl1 : X1.length + 1 ≤ 17592186044416)
    (hl2 : X2.length + 1 ≤ 17592186044416)
    (hl3 : X3.length + 1 ≤ 17592186044416)
    (hQ : ∀ (y0 y1 y2 y3 y4 y5 y6 y7 y8 y9 y10 y11 y12 y13 y14 y15 y16 y17 y18 y19 y20 y21 y22 y23 y24 y25 y26 y27 y28 y29 y30 y31 y32 y33 y34 y35 y36 y37 y38 y39 r0 r1 r2 r3 : Value) (w' : World), Hp w0 ((gp, .cells #[c0, r0, r1, r2, r3, c5, c6, v4] 75 (0, 0)) :: bsr) [rI 3 r0 (X0 ++ [n0]), rI 3 r1 (X1 ++ [n1]), rI 3 r2 (X2 ++ [n2]), rI 3 r3 (X3 ++ [n3]), rI 3 v4 X4] w' → Q .normal { tmps := #[x0, x1, x2, x3, x4, .pointer (some ⟨gp, 0, none⟩), .int .i64 n0, .int .i64 n1, .int .i64 n2, .int .i64 n3, x10, x11, x12, x13, x14, x15, x16, x17, x18, x19, x20, x21, x22, x23, x24, x25, x26, x27, x28, x29, x30, y0, y1, y2, y3, y4, y5, y6, y7, y8, y9, y10, y11, y12, y13, y14, y15, y16, y17, y18, y19, y20, y21, y22, y23, y24, y25, y26, y27, y28, y29, y30, y31, y32, y33, y34, y35, y36, y37, y38, y39, x71, x72, x73, x74, x75, x76, x77, x78, x79, x80, x81, x82, x83, x84, x85, x86, x87, x88, x89, x90, x91, x92, x93, x94, x95, x96, x97, x98, x99, x100, x101, x102, x103, x104, x105, x106, x107, x108, x109, x110, x111, x112, x113, x114, x115, x116, x117, x118, x119, x120, x121, x122, x123, x124, x125, x126, x127, x128, x129, x130, x131, x132, x133, x134, x135, x136, x137, x138, x139, x140, x141, x142, x143, x144, x145, x146, x147, x148, x149, x150, x151, x152, x153, x154, x155, x156, x157, x158, x159, x160, x161, x162, x163, x164, x165, x166, x167, x168, x169, x170, x171, x172, x173, x174, x175, x176, x177, x178, x179, x180, x181, x182, x183, x184, x185, x186, x187, x188, x189, x190, x191, x192, x193, x194, x195, x196, x197, x198, x199, x200, x201, x202, x203, x204, x205, x206, x207, x208, x209, x210, x211, x212, x213, x214, x215], defers := [] } w') :
    Code.wp Try.prog (.region 9 ops true) Q { tmps := #[x0, x1, x2, x3, x4, .pointer (some ⟨gp, 0, none⟩), .int .i64 n0, .int .i64 n1, .int .i64 n2, .int .i64 n3, x10, x11, x12, x13, x14, x15, x16, x17, x18, x19, x20, x21, x22, x23, x24, x25, x26, x27, x28, x29, x30, x31, x32, x33, x34, x35, x36, x37, x38, x39, x40, x41, x42, x43, x44, x45, x46, x47, x48, x49, x50, x51, x52, x53, x54, x55, x56, x57, x58, x59, x60, x61, x62, x63, x64, x65, x66, x67, x68, x69, x70, x71, x72, x73, x74, x75, x76, x77, x78, x79, x80, x81, x82, x83, x84, x85, x86, x87, x88, x89, x90, x91, x92, x93, x94, x95, x96, x97, x98, x99, x100, x101, x102, x103, x104, x105, x106, x107, x108, x109, x110, x111, x112, x113, x114, x115, x116, x117, x118, x119, x120, x121, x122, x123, x124, x125, x126, x127, x128, x129, x130, x131, x132, x133, x134, x135, x136, x137, x138, x139, x140, x141, x142, x143, x144, x145, x146, x147, x148, x149, x150, x151, x152, x153, x154, x155, x156, x157, x158, x159, x160, x161, x162, x163, x164, x165, x166, x167, x168, x169, x170, x171, x172, x173, x174, x175, x176, x177, x178, x179, x180, x181, x182, x183, x184, x185, x186, x187, x188, x189, x190, x191, x192, x193, x194, x195, x196, x197, x198, x199, x200, x201, x202, x203, x204, x205, x206, x207, x208, x209, x210, x211, x212, x213, x214, x215], defers := [] } w := by
 simp only [opsOf, Try.f18, opsIn, Option.bind_some, Option.getD_some, Nat.reduceBEq, Bool.false_eq_true, reduceIte, BEq.rfl] at ho_
 subst ho_
 have sOf : ∀ {rs : List Rw} {W : World}, Hp w0 ((gp, .cells #[c0, v0, v1, v2, v3, c5, c6, v4] 75 (0, 0)) :: bsr) rs W → (fun w' : World => w'.cell? ⟨gp, 0, none⟩ = some (c0) ∧ w'.cell? ⟨gp, 1, none⟩ = some (v0) ∧ w'.cell? ⟨gp, 2, none⟩ = some (v1) ∧ w'.cell? ⟨gp, 3, none⟩ = some (v2) ∧ w'.cell? ⟨gp, 4, none⟩ = some (v3) ∧ w'.cell? ⟨gp, 5, none⟩ = some (c5) ∧ w'.cell? ⟨gp, 6, none⟩ = some (c6) ∧ w'.cell? ⟨gp, 7, none⟩ = some (v4)) W := fun h => ⟨(blk_cell (h.var (i := 0) rfl) 0).trans rfl, (blk_cell (h.var (i := 0) rfl) 1).trans rfl, (blk_cell (h.var (i := 0) rfl) 2).trans rfl, (blk_cell (h.var (i := 0) rfl) 3).trans rfl, (blk_cell (h.var (i := 0) rfl) 4).trans rfl, (blk_cell (h.var (i := 0) rfl) 5).trans rfl, (blk_cell (h.var (i := 0) rfl) 6).trans rfl, (blk_cell (h.var (i := 0) rfl) 7).trans rfl⟩
 refine start_ (n := 44) (S := fun w' => w'.cell? ⟨gp, 0, none⟩ = some (c0) ∧ w'.cell? ⟨gp, 1, none⟩ = some (v0) ∧ w'.cell? ⟨gp, 2, none⟩ = some (v1) ∧ w'.cell? ⟨gp, 3, none⟩ = some (v2) ∧ w'.cell? ⟨gp, 4, none⟩ = some (v3) ∧ w'.cell? ⟨gp, 5, none⟩ = some (c5) ∧ w'.cell? ⟨gp, 6, none⟩ = some (c6) ∧ w'.cell? ⟨gp, 7, none⟩ = some (v4)) (ds := [34, 37, 40, 43]) (bm 44 0) (by kernel_rfl) (by kernel_rfl) rfl (sOf H.drew) (fun hHeld => ?_); refine with_tabW measure_New.tab9 measure_New.bits9 (fun HT_ HW_ => ?_)
 replace H := H.drew
 generalize w.drew = w at H hHeld ⊢
 refine pure_ (i := 0) (N := some 31) (v := ?_) (a' := ?_) (bm 44 1) rfl rfl (aO HT_ (by kernel_rfl)) (fun _ _ _ h => hP _ _ _ _ _ h) (Or.inl ⟨by rfl, ?_⟩) ?_ ?_; rotate_left; intro w'; go_simp; with_reducible rfl; rotate_left; simp only [aP, aS, aZ, aC, aW, aX]; rfl
 refine pure_ (i := 1) (N := some 32) (v := ?_) (a' := ?_) (bm 44 3) rfl rfl (aO HT_ (by kernel_rfl)) (fun _ _ _ h => hP _ _ _ _ _ h) (Or.inl ⟨by rfl, ?_⟩) ?_ ?_; rotate_left; intro w'; go_simp; with_reducible rfl; rotate_left; simp only [aP, aS, aZ, aC, aW, aX]; rfl
 refine pure_ (i := 2) (N := some 33) (v := ?_) (a' := ?_) (bm 44 7) rfl rfl (aO HT_ (by kernel_rfl)) (fun _ _ _ h => hP _ _ _ _ _ h) (Or.inl ⟨by rfl, ?_⟩) ?_ ?_; rotate_left; intro w'; go_simp; with_reducible rfl; rotate_left; simp only [aP, aS, aZ, aC, aW, aX]; rfl
 refine pure_ (i := 3) (N := some 34) (v := ?_) (a' := ?_) (bm 44 15) rfl rfl (aO HT_ (by kernel_rfl)) (fun _ _ _ h => hP _ _ _ _ _ h) (Or.inl ⟨by rfl, ?_⟩) ?_ ?_; rotate_left; intro w'; go_simp; with_reducible rfl; rotate_left; simp only [aP, aS, aZ, aC, aW, aX]; rfl
 refine pure_ (i := 4) (N := some 35) (v := ?_) (a' := ?_) (bm 44 31) rfl rfl (aO HT_ (by kernel_rfl)) (fun _ _ _ h => hP _ _ _ _ _ h) (Or.inl ⟨by rfl, ?_⟩) ?_ ?_; rotate_left; intro w'; go_simp; with_reducible rfl; rotate_left; simp only [aP, aS, aZ, aC, aW, aX]; rfl
 refine pure_ (i := 5) (N := some 36) (v := ?_) (a' := ?_) (bm 44 63) rfl rfl (aO HT_ (by kernel_rfl)) (fun _ _ _ h => hP _ _ _ _ _ h) (Or.inl ⟨by rfl, ?_⟩) ?_ ?_; rotate_left; intro w'; go_simp; with_reducible rfl; rotate_left; simp only [aP, aS, aZ, aC, aW, aX]; rfl
 refine pure_ (i := 6) (N := some 37) (v := ?_) (a' := ?_) (bm 44 127) rfl rfl (aO HT_ (by kernel_rfl)) (fun _ _ _ h => hP _ _ _ _ _ h) (Or.inl ⟨by rfl, ?_⟩) ?_ ?_; rotate_left; intro w'; go_simp; with_reducible rfl; rotate_left; simp only [aP, aS, aZ, aC, aW, aX]; rfl
 refine pure_ (i := 8) (N := some 39) (v := ?_) (a' := ?_) (bm 44 383) rfl rfl (aO HT_ (by kernel_rfl)) (fun _ _ _ h => hP _ _ _ _ _ h) (Or.inl ⟨by rfl, ?_⟩) ?_ ?_; rotate_left; intro w'; go_simp; with_reducible rfl; rotate_left; simp only [aP, aS, aZ, aC, aW, aX]; rfl
 refine pure_ (i := 11) (N := some 42) (v := ?_) (a' := ?_) (bm 44 2431) rfl rfl (aO HT_ (by kernel_rfl)) (fun _ _ _ h => hP _ _ _ _ _ h) (Or.inl ⟨by rfl, ?_⟩) ?_ ?_; rotate_left; intro w'; go_simp; with_reducible rfl; rotate_left; simp only [aP, aS, aZ, aC, aW, aX]; rfl
 refine pure_ (i := 12) (N := some 43) (v := ?_) (a' := ?_) (bm 44 6527) rfl rfl (aO HT_ (by kernel_rfl)) (fun _ _ _ h => hP _ _ _ _ _ h) (Or.inl ⟨by rfl, ?_⟩) ?_ ?_; rotate_left; intro w'; go_simp; with_reducible rfl; rotate_left; simp only [aP, aS, aZ, aC, aW, aX]; rfl
 refine pure_ (i := 13) (N := some 44) (v := ?_) (a' := ?_) (bm 44 14719) rfl rfl (aO HT_ (by kernel_rfl)) (fun _ _ _ h => hP _ _ _ _ _ h) (Or.inl ⟨by rfl, ?_⟩) ?_ ?_; rotate_left; intro w'; go_simp; with_reducible rfl; rotate_left; simp only [aP, aS, aZ, aC, aW, aX]; rfl
 refine pure_ (i := 15) (N := some 46) (v := ?_) (a' := ?_) (bm 44 47487) rfl rfl (aO HT_ (by kernel_rfl)) (fun _ _ _ h => hP _ _ _ _ _ h) (Or.inl ⟨by rfl, ?_⟩) ?_ ?_; rotate_left; intro w'; go_simp; with_reducible rfl; rotate_left; simp only [aP, aS, aZ, aC, aW, aX]; rfl
 refine pure_ (i := 18) (N := some 49) (v := ?_) (a' := ?_) (bm 44 309631) rfl rfl (aO HT_ (by kernel_rfl)) (fun _ _ _ h => hP _ _ _ _ _ h) (Or.inl ⟨by rfl, ?_⟩) ?_ ?_; rotate_left; intro w'; go_simp; with_reducible rfl; rotate_left; simp only [aP, aS, aZ, aC, aW, aX]; rfl
 refine pure_ (i := 19) (N := some 50) (v := ?_) (a' := ?_) (bm 44 833919) rfl rfl (aO HT_ (by kernel_rfl)) (fun _ _ _ h => hP _ _ _ _ _ h) (Or.inl ⟨by rfl, ?_⟩) ?_ ?_; rotate_left; intro w'; go_simp; with_reducible rfl; rotate_left; simp only [aP, aS, aZ, aC, aW, aX]; rfl
 refine pure_ (i := 20) (N := some 51) (v := ?_) (a' := ?_) (bm 44 1882495) rfl rfl (aO HT_ (by kernel_rfl)) (fun _ _ _ h => hP _ _ _ _ _ h) (Or.inl ⟨by rfl, ?_⟩) ?_ ?_; rotate_left; intro w'; go_simp; with_reducible rfl; rotate_left; simp only [aP, aS, aZ, aC, aW, aX]; rfl
 refine pure_ (i := 22) (N := some 53) (v := ?_) (a' := ?_) (bm 44 6076799) rfl rfl (aO HT_ (by kernel_rfl)) (fun _ _ _ h => hP _ _ _ _ _ h) (Or.inl ⟨by rfl, ?_⟩) ?_ ?_; rotate_left; intro w'; go_simp; with_reducible rfl; rotate_left; simp only [aP, aS, aZ, aC, aW, aX]; rfl
 refine pure_ (i := 25) (N := some 56) (v := ?_) (a' := ?_) (bm 44 39631231) rfl rfl (aO HT_ (by kernel_rfl)) (fun _ _ _ h => hP _ _ _ _ _ h) (Or.inl ⟨by rfl, ?_⟩) ?_ ?_; rotate_left; intro w'; go_simp; with_reducible rfl; rotate_left; simp only [aP, aS, aZ, aC, aW, aX]; rfl
 refine pure_ (i := 26) (N := some 57) (v := ?_) (a' := ?_) (bm 44 106740095) rfl rfl (aO HT_ (by kernel_rfl)) (fun _ _ _ h => hP _ _ _ _ _ h) (Or.inl ⟨by rfl, ?_⟩) ?_ ?_; rotate_left; intro w'; go_simp; with_reducible rfl; rotate_left; simp only [aP, aS, aZ, aC, aW, aX]; rfl
 refine pure_ (i := 27) (N := some 58) (v := ?_) (a' := ?_) (bm 44 240957823) rfl rfl (aO HT_ (by kernel_rfl)) (fun _ _ _ h => hP _ _ _ _ _ h) (Or.inl ⟨by rfl, ?_⟩) ?_ ?_; rotate_left; intro w'; go_simp; with_reducible rfl; rotate_left; simp only [aP, aS, aZ, aC, aW, aX]; rfl
 refine pure_ (i := 29) (N := some 60) (v := ?_) (a' := ?_) (bm 44 777828735) rfl rfl (aO HT_ (by kernel_rfl)) (fun _ _ _ h => hP _ _ _ _ _ h) (Or.inl ⟨by rfl, ?_⟩) ?_ ?_; rotate_left; intro w'; go_simp; with_reducible rfl; rotate_left; simp only [aP, aS, aZ, aC, aW, aX]; rfl
 refine take_ (i := 7) (N := some 38) (v := ?_) (a' := ?_) (bm 44 777828863) rfl rfl (take_ofW HT_.out HW_.out (by kernel_rfl)) (fun _ _ _ h => hP _ _ _ _ _ h) (Or.inl ⟨by rfl, ?_⟩) hHeld ?_ ?_; rotate_left; rintro w' ⟨s0, s1, s2, s3, s4, s5, s6, s7⟩; go_simp; with_reducible rfl; rotate_left; simp only [aP, aS, aZ, aC, aW, aX]; rfl
 refine take_ (i := 14) (N := some 45) (v := ?_) (a' := ?_) (bm 44 777845247) rfl rfl (take_ofW HT_.out HW_.out (by kernel_rfl)) (fun _ _ _ h => hP _ _ _ _ _ h) (Or.inl ⟨by rfl, ?_⟩) hHeld ?_ ?_; rotate_left; rintro w' ⟨s0, s1, s2, s3, s4, s5, s6, s7⟩; go_simp; with_reducible rfl; rotate_left; simp only [aP, aS, aZ, aC, aW, aX]; rfl
 refine take_ (i := 21) (N := some 52) (v := ?_) (a' := ?_) (bm 44 779942399) rfl rfl (take_ofW HT_.out HW_.out (by kernel_rfl)) (fun _ _ _ h => hP _ _ _ _ _ h) (Or.inl ⟨by rfl, ?_⟩) hHeld ?_ ?_; rotate_left; rintro w' ⟨s0, s1, s2, s3, s4, s5, s6, s7⟩; go_simp; with_reducible rfl; rotate_left; simp only [aP, aS, aZ, aC, aW, aX]; rfl
 refine take_ (i := 28) (N := some 59) (v := ?_) (a' := ?_) (bm 44 1048377855) rfl rfl (take_ofW HT_.out HW_.out (by kernel_rfl)) (fun _ _ _ h => hP _ _ _ _ _ h) (Or.inl ⟨by rfl, ?_⟩) hHeld ?_ ?_; rotate_left; rintro w' ⟨s0, s1, s2, s3, s4, s5, s6, s7⟩; go_simp; with_reducible rfl; rotate_left; simp only [aP, aS, aZ, aC, aW, aX]; rfl
 refine join_ (σ := V8) 12 (bm 44 4294967295) (fun s_ => [(40, s_.1), (47, s_.2.1), (54, s_.2.2.1), (61, s_.2.2.2.1), (41, s_.2.2.2.2.1), (48, s_.2.2.2.2.2.1), (55, s_.2.2.2.2.2.2.1), (62, s_.2.2.2.2.2.2.2)]) (fun s_ w' => Hp w0 ((gp, .cells #[c0, v0, v1, v2, v3, c5, c6, v4] 75 (0, 0)) :: bsr) [rI 3 s_.2.2.2.2.1 (X0 ++ [n0]), rI 3 s_.2.2.2.2.2.1 (X1 ++ [n1]), rI 3 s_.2.2.2.2.2.2.1 (X2 ++ [n2]), rI 3 s_.2.2.2.2.2.2.2 (X3 ++ [n3]), rI 3 v4 X4, rI 3 s_.1 [n0], rI 3 s_.2.1 [n1], rI 3 s_.2.2.1 [n2], rI 3 s_.2.2.2.1 [n3]] w') ?_ ?_
 · rintro ⟨q0, q1, q2, q3, q4, q5, q6, q7⟩ w1 H
   obtain ⟨Aq0, cq0, eq0, _, _⟩ := H.reads (i := 0) rfl
   simp only [List.length_append, List.length_cons, List.length_nil, Nat.zero_add] at eq0
   obtain rfl : q4 = _ := eq0
   obtain ⟨Aq1, cq1, eq1, _, _⟩ := H.reads (i := 1) rfl
   simp only [List.length_append, List.length_cons, List.length_nil, Nat.zero_add] at eq1
   obtain rfl : q5 = _ := eq1
   obtain ⟨Aq2, cq2, eq2, _, _⟩ := H.reads (i := 2) rfl
   simp only [List.length_append, List.length_cons, List.length_nil, Nat.zero_add] at eq2
   obtain rfl : q6 = _ := eq2
   obtain ⟨Aq3, cq3, eq3, _, _⟩ := H.reads (i := 3) rfl
   simp only [List.length_append, List.length_cons, List.length_nil, Nat.zero_add] at eq3
   obtain rfl : q7 = _ := eq3
   refine norm_ (a' := ?_) ?_ ?_
   rotate_left
   · simp only [putAll, aP, aS, aZ, aC]
     rfl
   refine pure_ (i := 32) (N := some 63) (v := ?_) (a' := ?_) (bm 44 8589934591) rfl rfl (aO HT_ (by kernel_rfl)) (fun _ _ _ h => hP _ _ _ _ _ h) (Or.inl ⟨by rfl, ?_⟩) ?_ ?_; rotate_left; intro w'; go_simp; with_reducible rfl; rotate_left; simp only [aP, aS, aZ, aC, aW, aX]; rfl
   refine pure_ (i := 33) (N := some 64) (v := ?_) (a' := ?_) (bm 44 17179869183) rfl rfl (aO HT_ (by kernel_rfl)) (fun _ _ _ h => hP _ _ _ _ _ h) (Or.inl ⟨by rfl, ?_⟩) ?_ ?_; rotate_left; intro w'; go_simp; with_reducible rfl; rotate_left; simp only [aP, aS, aZ, aC, aW, aX]; rfl
   refine last_ (i := 34) (N := none) (bm 44 34359738367) rfl rfl (one_of HT_.out (by kernel_rfl)) (by decide) (fun K hK => ?_)
   have hs0 : w1.cell? ⟨gp, 1, none⟩ = some v0 := (blk_cell (H.var (i := 0) rfl) 1).trans rfl
   have hf0 := blk_frozen (H.var (i := 0) rfl) 1
   refine skip_ (w1 := ?_) (by rfl) rfl ?_ ?_
   rotate_left
   · go_simp
     rfl
   refine hK.out _ _ ?_
   clear hK K hs0 hf0; replace H : Hp w0 ((gp, .cells #[c0, (.slice Aq0 (X0.length + 1) cq0), v1, v2, v3, c5, c6, v4] 75 (0, 0)) :: bsr) _ _ := H.set (i := 0) rfl 1 ((.slice Aq0 (X0.length + 1) cq0))
   generalize w1.setCell ⟨gp, 1, none⟩ ((.slice Aq0 (X0.length + 1) cq0)) = w1 at H ⊢
   refine pure_ (i := 35) (N := some 65) (v := ?_) (a' := ?_) (bm 44 68719476735) rfl rfl (aO HT_ (by kernel_rfl)) (fun _ _ _ h => hP _ _ _ _ _ h) (Or.inl ⟨by rfl, ?_⟩) ?_ ?_; rotate_left; intro w'; go_simp; with_reducible rfl; rotate_left; simp only [aP, aS, aZ, aC, aW, aX]; rfl
   refine pure_ (i := 36) (N := some 66) (v := ?_) (a' := ?_) (bm 44 137438953471) rfl rfl (aO HT_ (by kernel_rfl)) (fun _ _ _ h => hP _ _ _ _ _ h) (Or.inl ⟨by rfl, ?_⟩) ?_ ?_; rotate_left; intro w'; go_simp; with_reducible rfl; rotate_left; simp only [aP, aS, aZ, aC, aW, aX]; rfl
   refine last_ (i := 37) (N := none) (bm 44 274877906943) rfl rfl (one_of HT_.out (by kernel_rfl)) (by decide) (fun K hK => ?_)
   have hs1 : w1.cell? ⟨gp, 2, none⟩ = some v1 := (blk_cell (H.var (i := 0) rfl) 2).trans rfl
   have hf1 := blk_frozen (H.var (i := 0) rfl) 2
   refine skip_ (w1 := ?_) (by rfl) rfl ?_ ?_
   rotate_left
   · go_simp
     rfl
   refine hK.out _ _ ?_
   clear hK K hs1 hf1; replace H : Hp w0 ((gp, .cells #[c0, (.slice Aq0 (X0.length + 1) cq0), (.slice Aq1 (X1.length + 1) cq1), v2, v3, c5, c6, v4] 75 (0, 0)) :: bsr) _ _ := H.set (i := 0) rfl 2 ((.slice Aq1 (X1.length + 1) cq1))
   generalize w1.setCell ⟨gp, 2, none⟩ ((.slice Aq1 (X1.length + 1) cq1)) = w1 at H ⊢
   refine pure_ (i := 38) (N := some 67) (v := ?_) (a' := ?_) (bm 44 549755813887) rfl rfl (aO HT_ (by kernel_rfl)) (fun _ _ _ h => hP _ _ _ _ _ h) (Or.inl ⟨by rfl, ?_⟩) ?_ ?_; rotate_left; intro w'; go_simp; with_reducible rfl; rotate_left; simp only [aP, aS, aZ, aC, aW, aX]; rfl
   refine pure_ (i := 39) (N := some 68) (v := ?_) (a' := ?_) (bm 44 1099511627775) rfl rfl (aO HT_ (by kernel_rfl)) (fun _ _ _ h => hP _ _ _ _ _ h) (Or.inl ⟨by rfl, ?_⟩) ?_ ?_; rotate_left; intro w'; go_simp; with_reducible rfl; rotate_left; simp only [aP, aS, aZ, aC, aW, aX]; rfl
   refine last_ (i := 40) (N := none) (bm 44 2199023255551) rfl rfl (one_of HT_.out (by kernel_rfl)) (by decide) (fun K hK => ?_)
   have hs2 : w1.cell? ⟨gp, 3, none⟩ = some v2 := (blk_cell (H.var (i := 0) rfl) 3).trans rfl
   have hf2 := blk_frozen (H.var (i := 0) rfl) 3
   refine skip_ (w1 := ?_) (by rfl) rfl ?_ ?_
   rotate_left
   · go_simp
     rfl
   refine hK.out _ _ ?_
   clear hK K hs2 hf2; replace H : Hp w0 ((gp, .cells #[c0, (.slice Aq0 (X0.length + 1) cq0), (.slice Aq1 (X1.length + 1) cq1), (.slice Aq2 (X2.length + 1) cq2), v3, c5, c6, v4] 75 (0, 0)) :: bsr) _ _ := H.set (i := 0) rfl 3 ((.slice Aq2 (X2.length + 1) cq2))
   generalize w1.setCell ⟨gp, 3, none⟩ ((.slice Aq2 (X2.length + 1) cq2)) = w1 at H ⊢
   refine pure_ (i := 41) (N := some 69) (v := ?_) (a' := ?_) (bm 44 4398046511103) rfl rfl (aO HT_ (by kernel_rfl)) (fun _ _ _ h => hP _ _ _ _ _ h) (Or.inl ⟨by rfl, ?_⟩) ?_ ?_; rotate_left; intro w'; go_simp; with_reducible rfl; rotate_left; simp only [aP, aS, aZ, aC, aW, aX]; rfl
   refine pure_ (i := 42) (N := some 70) (v := ?_) (a' := ?_) (bm 44 8796093022207) rfl rfl (aO HT_ (by kernel_rfl)) (fun _ _ _ h => hP _ _ _ _ _ h) (Or.inl ⟨by rfl, ?_⟩) ?_ ?_; rotate_left; intro w'; go_simp; with_reducible rfl; rotate_left; simp only [aP, aS, aZ, aC, aW, aX]; rfl
   refine last_ (i := 43) (N := none) (bm 44 17592186044415) rfl rfl (one_of HT_.out (by kernel_rfl)) (by decide) (fun K hK => ?_)
   have hs3 : w1.cell? ⟨gp, 4, none⟩ = some v3 := (blk_cell (H.var (i := 0) rfl) 4).trans rfl
   have hf3 := blk_frozen (H.var (i := 0) rfl) 4
   refine skip_ (w1 := ?_) (by rfl) rfl ?_ ?_
   rotate_left
   · go_simp
     rfl
   refine hK.out _ _ ?_
   clear hK K hs3 hf3; replace H : Hp w0 ((gp, .cells #[c0, (.slice Aq0 (X0.length + 1) cq0), (.slice Aq1 (X1.length + 1) cq1), (.slice Aq2 (X2.length + 1) cq2), (.slice Aq3 (X3.length + 1) cq3), c5, c6, v4] 75 (0, 0)) :: bsr) _ _ := H.set (i := 0) rfl 4 ((.slice Aq3 (X3.length + 1) cq3))
   generalize w1.setCell ⟨gp, 4, none⟩ ((.slice Aq3 (X3.length + 1) cq3)) = w1 at H ⊢
   refine done_ (done_of HT_.out (by kernel_rfl)) ?_
   exact hQ _ _ _ _ _ _ _ _ _ _ _ _ _ _ _ _ _ _ _ _ _ _ _ _ _ _ _ _ _ _ _ _ _ _ _ _ _ _ _ _ _ _ _ _ _ (H.rows 5)
 intro hJ4_0123
 refine join_ (σ := V8) 13 (bm 44 2147483647) (fun s_ => [(40, s_.1), (47, s_.2.1), (54, s_.2.2.1), (61, s_.2.2.2.1), (41, s_.2.2.2.2.1), (48, s_.2.2.2.2.2.1), (55, s_.2.2.2.2.2.2.1)]) (fun s_ w' => Hp w0 ((gp, .cells #[c0, v0, v1, v2, v3, c5, c6, v4] 75 (0, 0)) :: bsr) [rI 3 s_.2.2.2.2.1 (X0 ++ [n0]), rI 3 s_.2.2.2.2.2.1 (X1 ++ [n1]), rI 3 s_.2.2.2.2.2.2.1 (X2 ++ [n2]), rI 3 v3 X3, rI 3 v4 X4, rI 3 s_.1 [n0], rI 3 s_.2.1 [n1], rI 3 s_.2.2.1 [n2], rI 3 s_.2.2.2.1 [n3]] w') ?_ ?_
 · intro s_ w1 H
   refine norm_ (a' := ?_) ?_ ?_
   rotate_left
   · simp only [putAll, aP, aS, aZ, aC]
     rfl
   refine one_ (i := 31) (N := some 62) (bm 44 4294967295) rfl rfl (one_of HT_.out (by kernel_rfl)) (by decide) (fun K hK => ?_)
   · refine H.app_step (i := 3) (j := 8) rfl rfl ?hg (.tmp 59) (.tmp 61) 48 ?ho Try.underlying48 measure_New.infoI ?hs ?hx ?hl (N := 62) ?hd ?_; (case hd => rfl); (case hg => rfl); (case ho => rfl); (case hs => rfl); (case hx => rfl); (case hl => simp; omega)
     intro v_ w1 H1; exact hK.out _ _ (sOf H1) (fun _ => norm_ (by simp only [putAll, aP, aS, aZ, aC]) (hJ4_0123 (s_.1, s_.2.1, s_.2.2.1, s_.2.2.2.1, s_.2.2.2.2.1, s_.2.2.2.2.2.1, s_.2.2.2.2.2.2.1, v_) w1 H1))
 intro hJ3_0123
 refine join_ (σ := V8) 14 (bm 44 2130706431) (fun s_ => [(40, s_.1), (47, s_.2.1), (54, s_.2.2.1), (61, s_.2.2.2.1), (41, s_.2.2.2.2.1), (48, s_.2.2.2.2.2.1)]) (fun s_ w' => Hp w0 ((gp, .cells #[c0, v0, v1, v2, v3, c5, c6, v4] 75 (0, 0)) :: bsr) [rI 3 s_.2.2.2.2.1 (X0 ++ [n0]), rI 3 s_.2.2.2.2.2.1 (X1 ++ [n1]), rI 3 v2 X2, rI 3 v3 X3, rI 3 v4 X4, rI 3 s_.1 [n0], rI 3 s_.2.1 [n1], rI 3 s_.2.2.1 [n2], rI 3 s_.2.2.2.1 [n3]] w') ?_ ?_
 · intro s_ w1 H
   refine norm_ (a' := ?_) ?_ ?_
   rotate_left
   · simp only [putAll, aP, aS, aZ, aC]
     rfl
   refine one_ (i := 24) (N := some 55) (bm 44 2147483647) rfl rfl (one_of HT_.out (by kernel_rfl)) (by decide) (fun K hK => ?_)
   · refine H.app_step (i := 2) (j := 7) rfl rfl ?hg (.tmp 52) (.tmp 54) 48 ?ho Try.underlying48 measure_New.infoI ?hs ?hx ?hl (N := 55) ?hd ?_; (case hd => rfl); (case hg => rfl); (case ho => rfl); (case hs => rfl); (case hx => rfl); (case hl => simp; omega)
     intro v_ w1 H1; exact hK.out _ _ (sOf H1) (fun _ => norm_ (by simp only [putAll, aP, aS, aZ, aC]) (hJ3_0123 (s_.1, s_.2.1, s_.2.2.1, s_.2.2.2.1, s_.2.2.2.2.1, s_.2.2.2.2.2.1, v_, s_.2.2.2.2.2.2.2) w1 H1))
 intro hJ2_0123
 refine join_ (σ := V8) 14 (bm 44 1073741823) (fun s_ => [(40, s_.1), (47, s_.2.1), (54, s_.2.2.1), (41, s_.2.2.2.2.1), (48, s_.2.2.2.2.2.1), (55, s_.2.2.2.2.2.2.1)]) (fun s_ w' => Hp w0 ((gp, .cells #[c0, v0, v1, v2, v3, c5, c6, v4] 75 (0, 0)) :: bsr) [rI 3 s_.2.2.2.2.1 (X0 ++ [n0]), rI 3 s_.2.2.2.2.2.1 (X1 ++ [n1]), rI 3 s_.2.2.2.2.2.2.1 (X2 ++ [n2]), rI 3 v3 X3, rI 3 v4 X4, rI 3 s_.1 [n0], rI 3 s_.2.1 [n1], rI 3 s_.2.2.1 [n2], rN 3] w') ?_ ?_
 · intro s_ w1 H
   refine norm_ (a' := ?_) ?_ ?_
   rotate_left
   · simp only [putAll, aP, aS, aZ, aC]
     rfl
   refine one_ (i := 30) (N := some 61) (bm 44 2147483647) rfl rfl (one_of HT_.out (by kernel_rfl)) (by decide) (fun K hK => ?_)
   · refine H.lit_step 8 3 ?hg (N := 61) ?hd (n := n3) ?hr ?_; (case hd => rfl); (case hg => rfl); (case hr => first | (go_simp; done) | (go_simp; rfl))
     intro v_ w1 H1; exact hK.out _ _ (sOf H1) (fun _ => norm_ (by simp only [putAll, aP, aS, aZ, aC]) (hJ3_0123 (s_.1, s_.2.1, s_.2.2.1, v_, s_.2.2.2.2.1, s_.2.2.2.2.2.1, s_.2.2.2.2.2.2.1, s_.2.2.2.2.2.2.2) w1 H1))
 intro hJ3_012
 refine join_ (σ := V8) 15 (bm 44 2130575359) (fun s_ => [(40, s_.1), (47, s_.2.1), (54, s_.2.2.1), (61, s_.2.2.2.1), (41, s_.2.2.2.2.1)]) (fun s_ w' => Hp w0 ((gp, .cells #[c0, v0, v1, v2, v3, c5, c6, v4] 75 (0, 0)) :: bsr) [rI 3 s_.2.2.2.2.1 (X0 ++ [n0]), rI 3 v1 X1, rI 3 v2 X2, rI 3 v3 X3, rI 3 v4 X4, rI 3 s_.1 [n0], rI 3 s_.2.1 [n1], rI 3 s_.2.2.1 [n2], rI 3 s_.2.2.2.1 [n3]] w') ?_ ?_
 · intro s_ w1 H
   refine norm_ (a' := ?_) ?_ ?_
   rotate_left
   · simp only [putAll, aP, aS, aZ, aC]
     rfl
   refine one_ (i := 17) (N := some 48) (bm 44 2130706431) rfl rfl (one_of HT_.out (by kernel_rfl)) (by decide) (fun K hK => ?_)
   · refine H.app_step (i := 1) (j := 6) rfl rfl ?hg (.tmp 45) (.tmp 47) 48 ?ho Try.underlying48 measure_New.infoI ?hs ?hx ?hl (N := 48) ?hd ?_; (case hd => rfl); (case hg => rfl); (case ho => rfl); (case hs => rfl); (case hx => rfl); (case hl => simp; omega)
     intro v_ w1 H1; exact hK.out _ _ (sOf H1) (fun _ => norm_ (by simp only [putAll, aP, aS, aZ, aC]) (hJ2_0123 (s_.1, s_.2.1, s_.2.2.1, s_.2.2.2.1, s_.2.2.2.2.1, v_, s_.2.2.2.2.2.2.1, s_.2.2.2.2.2.2.2) w1 H1))
 intro hJ1_0123
 refine join_ (σ := V8) 15 (bm 44 1056964607) (fun s_ => [(40, s_.1), (47, s_.2.1), (54, s_.2.2.1), (41, s_.2.2.2.2.1), (48, s_.2.2.2.2.2.1)]) (fun s_ w' => Hp w0 ((gp, .cells #[c0, v0, v1, v2, v3, c5, c6, v4] 75 (0, 0)) :: bsr) [rI 3 s_.2.2.2.2.1 (X0 ++ [n0]), rI 3 s_.2.2.2.2.2.1 (X1 ++ [n1]), rI 3 v2 X2, rI 3 v3 X3, rI 3 v4 X4, rI 3 s_.1 [n0], rI 3 s_.2.1 [n1], rI 3 s_.2.2.1 [n2], rN 3] w') ?_ ?_
 · intro s_ w1 H
   refine norm_ (a' := ?_) ?_ ?_
   rotate_left
   · simp only [putAll, aP, aS, aZ, aC]
     rfl
   refine two_ (i := 24) (j := 30) (Ni := some 55) (Nj := some 61) (bm 44 1073741823) (bm 44 2130706431) rfl rfl rfl rfl (two_of HT_.out (by kernel_rfl)) (by decide) (by decide) (fun K hK => ?_) (fun K hK => ?_)
   · refine H.app_step (i := 2) (j := 7) rfl rfl ?hg (.tmp 52) (.tmp 54) 48 ?ho Try.underlying48 measure_New.infoI ?hs ?hx ?hl (N := 55) ?hd ?_; (case hd => rfl); (case hg => rfl); (case ho => rfl); (case hs => rfl); (case hx => rfl); (case hl => simp; omega)
     intro v_ w1 H1; exact hK.out _ _ (sOf H1) (fun _ => norm_ (by simp only [putAll, aP, aS, aZ, aC]) (hJ3_012 (s_.1, s_.2.1, s_.2.2.1, s_.2.2.2.1, s_.2.2.2.2.1, s_.2.2.2.2.2.1, v_, s_.2.2.2.2.2.2.2) w1 H1))
   · refine H.lit_step 8 3 ?hg (N := 61) ?hd (n := n3) ?hr ?_; (case hd => rfl); (case hg => rfl); (case hr => first | (go_simp; done) | (go_simp; rfl))
     intro v_ w1 H1; exact hK.out _ _ (sOf H1) (fun _ => norm_ (by simp only [putAll, aP, aS, aZ, aC]) (hJ2_0123 (s_.1, s_.2.1, s_.2.2.1, v_, s_.2.2.2.2.1, s_.2.2.2.2.2.1, s_.2.2.2.2.2.2.1, s_.2.2.2.2.2.2.2) w1 H1))
 intro hJ2_012
 refine join_ (σ := V8) 15 (bm 44 2122317823) (fun s_ => [(40, s_.1), (47, s_.2.1), (61, s_.2.2.2.1), (41, s_.2.2.2.2.1), (48, s_.2.2.2.2.2.1)]) (fun s_ w' => Hp w0 ((gp, .cells #[c0, v0, v1, v2, v3, c5, c6, v4] 75 (0, 0)) :: bsr) [rI 3 s_.2.2.2.2.1 (X0 ++ [n0]), rI 3 s_.2.2.2.2.2.1 (X1 ++ [n1]), rI 3 v2 X2, rI 3 v3 X3, rI 3 v4 X4, rI 3 s_.1 [n0], rI 3 s_.2.1 [n1], rN 3, rI 3 s_.2.2.2.1 [n3]] w') ?_ ?_
 · intro s_ w1 H
   refine norm_ (a' := ?_) ?_ ?_
   rotate_left
   · simp only [putAll, aP, aS, aZ, aC]
     rfl
   refine one_ (i := 23) (N := some 54) (bm 44 2130706431) rfl rfl (one_of HT_.out (by kernel_rfl)) (by decide) (fun K hK => ?_)
   · refine H.lit_step 7 3 ?hg (N := 54) ?hd (n := n2) ?hr ?_; (case hd => rfl); (case hg => rfl); (case hr => first | (go_simp; done) | (go_simp; rfl))
     intro v_ w1 H1; exact hK.out _ _ (sOf H1) (fun _ => norm_ (by simp only [putAll, aP, aS, aZ, aC]) (hJ2_0123 (s_.1, s_.2.1, v_, s_.2.2.2.1, s_.2.2.2.2.1, s_.2.2.2.2.2.1, s_.2.2.2.2.2.2.1, s_.2.2.2.2.2.2.2) w1 H1))
 intro hJ2_013
 refine join_ (σ := V8) 16 (bm 44 2130574335) (fun s_ => [(40, s_.1), (47, s_.2.1), (54, s_.2.2.1), (61, s_.2.2.2.1)]) (fun s_ w' => Hp w0 ((gp, .cells #[c0, v0, v1, v2, v3, c5, c6, v4] 75 (0, 0)) :: bsr) [rI 3 v0 X0, rI 3 v1 X1, rI 3 v2 X2, rI 3 v3 X3, rI 3 v4 X4, rI 3 s_.1 [n0], rI 3 s_.2.1 [n1], rI 3 s_.2.2.1 [n2], rI 3 s_.2.2.2.1 [n3]] w') ?_ ?_
 · intro s_ w1 H
   refine norm_ (a' := ?_) ?_ ?_
   rotate_left
   · simp only [putAll, aP, aS, aZ, aC]
     rfl
   refine one_ (i := 10) (N := some 41) (bm 44 2130575359) rfl rfl (one_of HT_.out (by kernel_rfl)) (by decide) (fun K hK => ?_)
   · refine H.app_step (i := 0) (j := 5) rfl rfl ?hg (.tmp 38) (.tmp 40) 48 ?ho Try.underlying48 measure_New.infoI ?hs ?hx ?hl (N := 41) ?hd ?_; (case hd => rfl); (case hg => rfl); (case ho => rfl); (case hs => rfl); (case hx => rfl); (case hl => simp; omega)
     intro v_ w1 H1; exact hK.out _ _ (sOf H1) (fun _ => norm_ (by simp only [putAll, aP, aS, aZ, aC]) (hJ1_0123 (s_.1, s_.2.1, s_.2.2.1, s_.2.2.2.1, v_, s_.2.2.2.2.2.1, s_.2.2.2.2.2.2.1, s_.2.2.2.2.2.2.2) w1 H1))
 intro hJ0_0123
 refine join_ (σ := V8) 16 (bm 44 1056833535) (fun s_ => [(40, s_.1), (47, s_.2.1), (54, s_.2.2.1), (41, s_.2.2.2.2.1)]) (fun s_ w' => Hp w0 ((gp, .cells #[c0, v0, v1, v2, v3, c5, c6, v4] 75 (0, 0)) :: bsr) [rI 3 s_.2.2.2.2.1 (X0 ++ [n0]), rI 3 v1 X1, rI 3 v2 X2, rI 3 v3 X3, rI 3 v4 X4, rI 3 s_.1 [n0], rI 3 s_.2.1 [n1], rI 3 s_.2.2.1 [n2], rN 3] w') ?_ ?_
 · intro s_ w1 H
   refine norm_ (a' := ?_) ?_ ?_
   rotate_left
   · simp only [putAll, aP, aS, aZ, aC]
     rfl
   refine two_ (i := 17) (j := 30) (Ni := some 48) (Nj := some 61) (bm 44 1056964607) (bm 44 2130575359) rfl rfl rfl rfl (two_of HT_.out (by kernel_rfl)) (by decide) (by decide) (fun K hK => ?_) (fun K hK => ?_)
   · refine H.app_step (i := 1) (j := 6) rfl rfl ?hg (.tmp 45) (.tmp 47) 48 ?ho Try.underlying48 measure_New.infoI ?hs ?hx ?hl (N := 48) ?hd ?_; (case hd => rfl); (case hg => rfl); (case ho => rfl); (case hs => rfl); (case hx => rfl); (case hl => simp; omega)
     intro v_ w1 H1; exact hK.out _ _ (sOf H1) (fun _ => norm_ (by simp only [putAll, aP, aS, aZ, aC]) (hJ2_012 (s_.1, s_.2.1, s_.2.2.1, s_.2.2.2.1, s_.2.2.2.2.1, v_, s_.2.2.2.2.2.2.1, s_.2.2.2.2.2.2.2) w1 H1))
   · refine H.lit_step 8 3 ?hg (N := 61) ?hd (n := n3) ?hr ?_; (case hd => rfl); (case hg => rfl); (case hr => first | (go_simp; done) | (go_simp; rfl))
     intro v_ w1 H1; exact hK.out _ _ (sOf H1) (fun _ => norm_ (by simp only [putAll, aP, aS, aZ, aC]) (hJ1_0123 (s_.1, s_.2.1, s_.2.2.1, v_, s_.2.2.2.2.1, s_.2.2.2.2.2.1, s_.2.2.2.2.2.2.1, s_.2.2.2.2.2.2.2) w1 H1))
 intro hJ1_012
 refine join_ (σ := V8) 16 (bm 44 2122186751) (fun s_ => [(40, s_.1), (47, s_.2.1), (61, s_.2.2.2.1), (41, s_.2.2.2.2.1)]) (fun s_ w' => Hp w0 ((gp, .cells #[c0, v0, v1, v2, v3, c5, c6, v4] 75 (0, 0)) :: bsr) [rI 3 s_.2.2.2.2.1 (X0 ++ [n0]), rI 3 v1 X1, rI 3 v2 X2, rI 3 v3 X3, rI 3 v4 X4, rI 3 s_.1 [n0], rI 3 s_.2.1 [n1], rN 3, rI 3 s_.2.2.2.1 [n3]] w') ?_ ?_
 · intro s_ w1 H
   refine norm_ (a' := ?_) ?_ ?_
   rotate_left
   · simp only [putAll, aP, aS, aZ, aC]
     rfl
   refine two_ (i := 17) (j := 23) (Ni := some 48) (Nj := some 54) (bm 44 2122317823) (bm 44 2130575359) rfl rfl rfl rfl (two_of HT_.out (by kernel_rfl)) (by decide) (by decide) (fun K hK => ?_) (fun K hK => ?_)
   · refine H.app_step (i := 1) (j := 6) rfl rfl ?hg (.tmp 45) (.tmp 47) 48 ?ho Try.underlying48 measure_New.infoI ?hs ?hx ?hl (N := 48) ?hd ?_; (case hd => rfl); (case hg => rfl); (case ho => rfl); (case hs => rfl); (case hx => rfl); (case hl => simp; omega)
     intro v_ w1 H1; exact hK.out _ _ (sOf H1) (fun _ => norm_ (by simp only [putAll, aP, aS, aZ, aC]) (hJ2_013 (s_.1, s_.2.1, s_.2.2.1, s_.2.2.2.1, s_.2.2.2.2.1, v_, s_.2.2.2.2.2.2.1, s_.2.2.2.2.2.2.2) w1 H1))
   · refine H.lit_step 7 3 ?hg (N := 54) ?hd (n := n2) ?hr ?_; (case hd => rfl); (case hg => rfl); (case hr => first | (go_simp; done) | (go_simp; rfl))
     intro v_ w1 H1; exact hK.out _ _ (sOf H1) (fun _ => norm_ (by simp only [putAll, aP, aS, aZ, aC]) (hJ1_0123 (s_.1, s_.2.1, v_, s_.2.2.2.1, s_.2.2.2.2.1, s_.2.2.2.2.2.1, s_.2.2.2.2.2.2.1, s_.2.2.2.2.2.2.2) w1 H1))
 intro hJ1_013
 refine join_ (σ := V8) 16 (bm 44 2130509823) (fun s_ => [(40, s_.1), (54, s_.2.2.1), (61, s_.2.2.2.1), (41, s_.2.2.2.2.1)]) (fun s_ w' => Hp w0 ((gp, .cells #[c0, v0, v1, v2, v3, c5, c6, v4] 75 (0, 0)) :: bsr) [rI 3 s_.2.2.2.2.1 (X0 ++ [n0]), rI 3 v1 X1, rI 3 v2 X2, rI 3 v3 X3, rI 3 v4 X4, rI 3 s_.1 [n0], rN 3, rI 3 s_.2.2.1 [n2], rI 3 s_.2.2.2.1 [n3]] w') ?_ ?_
 · intro s_ w1 H
   refine norm_ (a' := ?_) ?_ ?_
   rotate_left
   · simp only [putAll, aP, aS, aZ, aC]
     rfl
   refine one_ (i := 16) (N := some 47) (bm 44 2130575359) rfl rfl (one_of HT_.out (by kernel_rfl)) (by decide) (fun K hK => ?_)
   · refine H.lit_step 6 3 ?hg (N := 47) ?hd (n := n1) ?hr ?_; (case hd => rfl); (case hg => rfl); (case hr => first | (go_simp; done) | (go_simp; rfl))
     intro v_ w1 H1; exact hK.out _ _ (sOf H1) (fun _ => norm_ (by simp only [putAll, aP, aS, aZ, aC]) (hJ1_0123 (s_.1, v_, s_.2.2.1, s_.2.2.2.1, s_.2.2.2.2.1, s_.2.2.2.2.2.1, s_.2.2.2.2.2.2.1, s_.2.2.2.2.2.2.2) w1 H1))
 intro hJ1_023
 refine join_ (σ := V8) 16 (bm 44 1048575999) (fun s_ => [(40, s_.1), (47, s_.2.1), (41, s_.2.2.2.2.1), (48, s_.2.2.2.2.2.1)]) (fun s_ w' => Hp w0 ((gp, .cells #[c0, v0, v1, v2, v3, c5, c6, v4] 75 (0, 0)) :: bsr) [rI 3 s_.2.2.2.2.1 (X0 ++ [n0]), rI 3 s_.2.2.2.2.2.1 (X1 ++ [n1]), rI 3 v2 X2, rI 3 v3 X3, rI 3 v4 X4, rI 3 s_.1 [n0], rI 3 s_.2.1 [n1], rN 3, rN 3] w') ?_ ?_
 · intro s_ w1 H
   refine norm_ (a' := ?_) ?_ ?_
   rotate_left
   · simp only [putAll, aP, aS, aZ, aC]
     rfl
   refine two_ (i := 23) (j := 30) (Ni := some 54) (Nj := some 61) (bm 44 1056964607) (bm 44 2122317823) rfl rfl rfl rfl (two_of HT_.out (by kernel_rfl)) (by decide) (by decide) (fun K hK => ?_) (fun K hK => ?_)
   · refine H.lit_step 7 3 ?hg (N := 54) ?hd (n := n2) ?hr ?_; (case hd => rfl); (case hg => rfl); (case hr => first | (go_simp; done) | (go_simp; rfl))
     intro v_ w1 H1; exact hK.out _ _ (sOf H1) (fun _ => norm_ (by simp only [putAll, aP, aS, aZ, aC]) (hJ2_012 (s_.1, s_.2.1, v_, s_.2.2.2.1, s_.2.2.2.2.1, s_.2.2.2.2.2.1, s_.2.2.2.2.2.2.1, s_.2.2.2.2.2.2.2) w1 H1))
   · refine H.lit_step 8 3 ?hg (N := 61) ?hd (n := n3) ?hr ?_; (case hd => rfl); (case hg => rfl); (case hr => first | (go_simp; done) | (go_simp; rfl))
     intro v_ w1 H1; exact hK.out _ _ (sOf H1) (fun _ => norm_ (by simp only [putAll, aP, aS, aZ, aC]) (hJ2_013 (s_.1, s_.2.1, s_.2.2.1, v_, s_.2.2.2.2.1, s_.2.2.2.2.2.1, s_.2.2.2.2.2.2.1, s_.2.2.2.2.2.2.2) w1 H1))
 intro hJ2_01
 refine join_ (σ := V8) 17 (bm 44 1056832511) (fun s_ => [(40, s_.1), (47, s_.2.1), (54, s_.2.2.1)]) (fun s_ w' => Hp w0 ((gp, .cells #[c0, v0, v1, v2, v3, c5, c6, v4] 75 (0, 0)) :: bsr) [rI 3 v0 X0, rI 3 v1 X1, rI 3 v2 X2, rI 3 v3 X3, rI 3 v4 X4, rI 3 s_.1 [n0], rI 3 s_.2.1 [n1], rI 3 s_.2.2.1 [n2], rN 3] w') ?_ ?_
 · intro s_ w1 H
   refine norm_ (a' := ?_) ?_ ?_
   rotate_left
   · simp only [putAll, aP, aS, aZ, aC]
     rfl
   refine two_ (i := 10) (j := 30) (Ni := some 41) (Nj := some 61) (bm 44 1056833535) (bm 44 2130574335) rfl rfl rfl rfl (two_of HT_.out (by kernel_rfl)) (by decide) (by decide) (fun K hK => ?_) (fun K hK => ?_)
   · refine H.app_step (i := 0) (j := 5) rfl rfl ?hg (.tmp 38) (.tmp 40) 48 ?ho Try.underlying48 measure_New.infoI ?hs ?hx ?hl (N := 41) ?hd ?_; (case hd => rfl); (case hg => rfl); (case ho => rfl); (case hs => rfl); (case hx => rfl); (case hl => simp; omega)
     intro v_ w1 H1; exact hK.out _ _ (sOf H1) (fun _ => norm_ (by simp only [putAll, aP, aS, aZ, aC]) (hJ1_012 (s_.1, s_.2.1, s_.2.2.1, s_.2.2.2.1, v_, s_.2.2.2.2.2.1, s_.2.2.2.2.2.2.1, s_.2.2.2.2.2.2.2) w1 H1))
   · refine H.lit_step 8 3 ?hg (N := 61) ?hd (n := n3) ?hr ?_; (case hd => rfl); (case hg => rfl); (case hr => first | (go_simp; done) | (go_simp; rfl))
     intro v_ w1 H1; exact hK.out _ _ (sOf H1) (fun _ => norm_ (by simp only [putAll, aP, aS, aZ, aC]) (hJ0_0123 (s_.1, s_.2.1, s_.2.2.1, v_, s_.2.2.2.2.1, s_.2.2.2.2.2.1, s_.2.2.2.2.2.2.1, s_.2.2.2.2.2.2.2) w1 H1))
 intro hJ0_012
 refine join_ (σ := V8) 17 (bm 44 2122185727) (fun s_ => [(40, s_.1), (47, s_.2.1), (61, s_.2.2.2.1)]) (fun s_ w' => Hp w0 ((gp, .cells #[c0, v0, v1, v2, v3, c5, c6, v4] 75 (0, 0)) :: bsr) [rI 3 v0 X0, rI 3 v1 X1, rI 3 v2 X2, rI 3 v3 X3, rI 3 v4 X4, rI 3 s_.1 [n0], rI 3 s_.2.1 [n1], rN 3, rI 3 s_.2.2.2.1 [n3]] w') ?_ ?_
 · intro s_ w1 H
   refine norm_ (a' := ?_) ?_ ?_
   rotate_left
   · simp only [putAll, aP, aS, aZ, aC]
     rfl
   refine two_ (i := 10) (j := 23) (Ni := some 41) (Nj := some 54) (bm 44 2122186751) (bm 44 2130574335) rfl rfl rfl rfl (two_of HT_.out (by kernel_rfl)) (by decide) (by decide) (fun K hK => ?_) (fun K hK => ?_)
   · refine H.app_step (i := 0) (j := 5) rfl rfl ?hg (.tmp 38) (.tmp 40) 48 ?ho Try.underlying48 measure_New.infoI ?hs ?hx ?hl (N := 41) ?hd ?_; (case hd => rfl); (case hg => rfl); (case ho => rfl); (case hs => rfl); (case hx => rfl); (case hl => simp; omega)
     intro v_ w1 H1; exact hK.out _ _ (sOf H1) (fun _ => norm_ (by simp only [putAll, aP, aS, aZ, aC]) (hJ1_013 (s_.1, s_.2.1, s_.2.2.1, s_.2.2.2.1, v_, s_.2.2.2.2.2.1, s_.2.2.2.2.2.2.1, s_.2.2.2.2.2.2.2) w1 H1))
   · refine H.lit_step 7 3 ?hg (N := 54) ?hd (n := n2) ?hr ?_; (case hd => rfl); (case hg => rfl); (case hr => first | (go_simp; done) | (go_simp; rfl))
     intro v_ w1 H1; exact hK.out _ _ (sOf H1) (fun _ => norm_ (by simp only [putAll, aP, aS, aZ, aC]) (hJ0_0123 (s_.1, s_.2.1, v_, s_.2.2.2.1, s_.2.2.2.2.1, s_.2.2.2.2.2.1, s_.2.2.2.2.2.2.1, s_.2.2.2.2.2.2.2) w1 H1))
 intro hJ0_013
 refine join_ (σ := V8) 17 (bm 44 2130508799) (fun s_ => [(40, s_.1), (54, s_.2.2.1), (61, s_.2.2.2.1)]) (fun s_ w' => Hp w0 ((gp, .cells #[c0, v0, v1, v2, v3, c5, c6, v4] 75 (0, 0)) :: bsr) [rI 3 v0 X0, rI 3 v1 X1, rI 3 v2 X2, rI 3 v3 X3, rI 3 v4 X4, rI 3 s_.1 [n0], rN 3, rI 3 s_.2.2.1 [n2], rI 3 s_.2.2.2.1 [n3]] w') ?_ ?_
 · intro s_ w1 H
   refine norm_ (a' := ?_) ?_ ?_
   rotate_left
   · simp only [putAll, aP, aS, aZ, aC]
     rfl
   refine two_ (i := 10) (j := 16) (Ni := some 41) (Nj := some 47) (bm 44 2130509823) (bm 44 2130574335) rfl rfl rfl rfl (two_of HT_.out (by kernel_rfl)) (by decide) (by decide) (fun K hK => ?_) (fun K hK => ?_)
   · refine H.app_step (i := 0) (j := 5) rfl rfl ?hg (.tmp 38) (.tmp 40) 48 ?ho Try.underlying48 measure_New.infoI ?hs ?hx ?hl (N := 41) ?hd ?_; (case hd => rfl); (case hg => rfl); (case ho => rfl); (case hs => rfl); (case hx => rfl); (case hl => simp; omega)
     intro v_ w1 H1; exact hK.out _ _ (sOf H1) (fun _ => norm_ (by simp only [putAll, aP, aS, aZ, aC]) (hJ1_023 (s_.1, s_.2.1, s_.2.2.1, s_.2.2.2.1, v_, s_.2.2.2.2.2.1, s_.2.2.2.2.2.2.1, s_.2.2.2.2.2.2.2) w1 H1))
   · refine H.lit_step 6 3 ?hg (N := 47) ?hd (n := n1) ?hr ?_; (case hd => rfl); (case hg => rfl); (case hr => first | (go_simp; done) | (go_simp; rfl))
     intro v_ w1 H1; exact hK.out _ _ (sOf H1) (fun _ => norm_ (by simp only [putAll, aP, aS, aZ, aC]) (hJ0_0123 (s_.1, v_, s_.2.2.1, s_.2.2.2.1, s_.2.2.2.2.1, s_.2.2.2.2.2.1, s_.2.2.2.2.2.2.1, s_.2.2.2.2.2.2.2) w1 H1))
 intro hJ0_023
 refine join_ (σ := V8) 17 (bm 44 2130573823) (fun s_ => [(47, s_.2.1), (54, s_.2.2.1), (61, s_.2.2.2.1)]) (fun s_ w' => Hp w0 ((gp, .cells #[c0, v0, v1, v2, v3, c5, c6, v4] 75 (0, 0)) :: bsr) [rI 3 v0 X0, rI 3 v1 X1, rI 3 v2 X2, rI 3 v3 X3, rI 3 v4 X4, rN 3, rI 3 s_.2.1 [n1], rI 3 s_.2.2.1 [n2], rI 3 s_.2.2.2.1 [n3]] w') ?_ ?_
 · intro s_ w1 H
   refine norm_ (a' := ?_) ?_ ?_
   rotate_left
   · simp only [putAll, aP, aS, aZ, aC]
     rfl
   refine one_ (i := 9) (N := some 40) (bm 44 2130574335) rfl rfl (one_of HT_.out (by kernel_rfl)) (by decide) (fun K hK => ?_)
   · refine H.lit_step 5 3 ?hg (N := 40) ?hd (n := n0) ?hr ?_; (case hd => rfl); (case hg => rfl); (case hr => first | (go_simp; done) | (go_simp; rfl))
     intro v_ w1 H1; exact hK.out _ _ (sOf H1) (fun _ => norm_ (by simp only [putAll, aP, aS, aZ, aC]) (hJ0_0123 (v_, s_.2.1, s_.2.2.1, s_.2.2.2.1, s_.2.2.2.2.1, s_.2.2.2.2.2.1, s_.2.2.2.2.2.2.1, s_.2.2.2.2.2.2.2) w1 H1))
 intro hJ0_123
 refine join_ (σ := V8) 17 (bm 44 1048444927) (fun s_ => [(40, s_.1), (47, s_.2.1), (41, s_.2.2.2.2.1)]) (fun s_ w' => Hp w0 ((gp, .cells #[c0, v0, v1, v2, v3, c5, c6, v4] 75 (0, 0)) :: bsr) [rI 3 s_.2.2.2.2.1 (X0 ++ [n0]), rI 3 v1 X1, rI 3 v2 X2, rI 3 v3 X3, rI 3 v4 X4, rI 3 s_.1 [n0], rI 3 s_.2.1 [n1], rN 3, rN 3] w') ?_ ?_
 · intro s_ w1 H
   refine norm_ (a' := ?_) ?_ ?_
   rotate_left
   · simp only [putAll, aP, aS, aZ, aC]
     rfl
   refine three_ (i := 17) (j := 23) (k := 30) (Ni := some 48) (Nj := some 54) (Nk := some 61) (bm 44 1048575999) (bm 44 1056833535) (bm 44 2122186751) rfl rfl rfl rfl rfl rfl (three_of HT_.out (by kernel_rfl)) (by decide) (by decide) (by decide) (fun K hK => ?_) (fun K hK => ?_) (fun K hK => ?_)
   · refine H.app_step (i := 1) (j := 6) rfl rfl ?hg (.tmp 45) (.tmp 47) 48 ?ho Try.underlying48 measure_New.infoI ?hs ?hx ?hl (N := 48) ?hd ?_; (case hd => rfl); (case hg => rfl); (case ho => rfl); (case hs => rfl); (case hx => rfl); (case hl => simp; omega)
     intro v_ w1 H1; exact hK.out _ _ (sOf H1) (fun _ => norm_ (by simp only [putAll, aP, aS, aZ, aC]) (hJ2_01 (s_.1, s_.2.1, s_.2.2.1, s_.2.2.2.1, s_.2.2.2.2.1, v_, s_.2.2.2.2.2.2.1, s_.2.2.2.2.2.2.2) w1 H1))
   · refine H.lit_step 7 3 ?hg (N := 54) ?hd (n := n2) ?hr ?_; (case hd => rfl); (case hg => rfl); (case hr => first | (go_simp; done) | (go_simp; rfl))
     intro v_ w1 H1; exact hK.out _ _ (sOf H1) (fun _ => norm_ (by simp only [putAll, aP, aS, aZ, aC]) (hJ1_012 (s_.1, s_.2.1, v_, s_.2.2.2.1, s_.2.2.2.2.1, s_.2.2.2.2.2.1, s_.2.2.2.2.2.2.1, s_.2.2.2.2.2.2.2) w1 H1))
   · refine H.lit_step 8 3 ?hg (N := 61) ?hd (n := n3) ?hr ?_; (case hd => rfl); (case hg => rfl); (case hr => first | (go_simp; done) | (go_simp; rfl))
     intro v_ w1 H1; exact hK.out _ _ (sOf H1) (fun _ => norm_ (by simp only [putAll, aP, aS, aZ, aC]) (hJ1_013 (s_.1, s_.2.1, s_.2.2.1, v_, s_.2.2.2.2.1, s_.2.2.2.2.2.1, s_.2.2.2.2.2.2.1, s_.2.2.2.2.2.2.2) w1 H1))
 intro hJ1_01
 refine join_ (σ := V8) 17 (bm 44 1056767999) (fun s_ => [(40, s_.1), (54, s_.2.2.1), (41, s_.2.2.2.2.1)]) (fun s_ w' => Hp w0 ((gp, .cells #[c0, v0, v1, v2, v3, c5, c6, v4] 75 (0, 0)) :: bsr) [rI 3 s_.2.2.2.2.1 (X0 ++ [n0]), rI 3 v1 X1, rI 3 v2 X2, rI 3 v3 X3, rI 3 v4 X4, rI 3 s_.1 [n0], rN 3, rI 3 s_.2.2.1 [n2], rN 3] w') ?_ ?_
 · intro s_ w1 H
   refine norm_ (a' := ?_) ?_ ?_
   rotate_left
   · simp only [putAll, aP, aS, aZ, aC]
     rfl
   refine two_ (i := 16) (j := 30) (Ni := some 47) (Nj := some 61) (bm 44 1056833535) (bm 44 2130509823) rfl rfl rfl rfl (two_of HT_.out (by kernel_rfl)) (by decide) (by decide) (fun K hK => ?_) (fun K hK => ?_)
   · refine H.lit_step 6 3 ?hg (N := 47) ?hd (n := n1) ?hr ?_; (case hd => rfl); (case hg => rfl); (case hr => first | (go_simp; done) | (go_simp; rfl))
     intro v_ w1 H1; exact hK.out _ _ (sOf H1) (fun _ => norm_ (by simp only [putAll, aP, aS, aZ, aC]) (hJ1_012 (s_.1, v_, s_.2.2.1, s_.2.2.2.1, s_.2.2.2.2.1, s_.2.2.2.2.2.1, s_.2.2.2.2.2.2.1, s_.2.2.2.2.2.2.2) w1 H1))
   · refine H.lit_step 8 3 ?hg (N := 61) ?hd (n := n3) ?hr ?_; (case hd => rfl); (case hg => rfl); (case hr => first | (go_simp; done) | (go_simp; rfl))
     intro v_ w1 H1; exact hK.out _ _ (sOf H1) (fun _ => norm_ (by simp only [putAll, aP, aS, aZ, aC]) (hJ1_023 (s_.1, s_.2.1, s_.2.2.1, v_, s_.2.2.2.2.1, s_.2.2.2.2.2.1, s_.2.2.2.2.2.2.1, s_.2.2.2.2.2.2.2) w1 H1))
 intro hJ1_02
 refine join_ (σ := V8) 17 (bm 44 2122121215) (fun s_ => [(40, s_.1), (61, s_.2.2.2.1), (41, s_.2.2.2.2.1)]) (fun s_ w' => Hp w0 ((gp, .cells #[c0, v0, v1, v2, v3, c5, c6, v4] 75 (0, 0)) :: bsr) [rI 3 s_.2.2.2.2.1 (X0 ++ [n0]), rI 3 v1 X1, rI 3 v2 X2, rI 3 v3 X3, rI 3 v4 X4, rI 3 s_.1 [n0], rN 3, rN 3, rI 3 s_.2.2.2.1 [n3]] w') ?_ ?_
 · intro s_ w1 H
   refine norm_ (a' := ?_) ?_ ?_
   rotate_left
   · simp only [putAll, aP, aS, aZ, aC]
     rfl
   refine two_ (i := 16) (j := 23) (Ni := some 47) (Nj := some 54) (bm 44 2122186751) (bm 44 2130509823) rfl rfl rfl rfl (two_of HT_.out (by kernel_rfl)) (by decide) (by decide) (fun K hK => ?_) (fun K hK => ?_)
   · refine H.lit_step 6 3 ?hg (N := 47) ?hd (n := n1) ?hr ?_; (case hd => rfl); (case hg => rfl); (case hr => first | (go_simp; done) | (go_simp; rfl))
     intro v_ w1 H1; exact hK.out _ _ (sOf H1) (fun _ => norm_ (by simp only [putAll, aP, aS, aZ, aC]) (hJ1_013 (s_.1, v_, s_.2.2.1, s_.2.2.2.1, s_.2.2.2.2.1, s_.2.2.2.2.2.1, s_.2.2.2.2.2.2.1, s_.2.2.2.2.2.2.2) w1 H1))
   · refine H.lit_step 7 3 ?hg (N := 54) ?hd (n := n2) ?hr ?_; (case hd => rfl); (case hg => rfl); (case hr => first | (go_simp; done) | (go_simp; rfl))
     intro v_ w1 H1; exact hK.out _ _ (sOf H1) (fun _ => norm_ (by simp only [putAll, aP, aS, aZ, aC]) (hJ1_023 (s_.1, s_.2.1, v_, s_.2.2.2.1, s_.2.2.2.2.1, s_.2.2.2.2.2.1, s_.2.2.2.2.2.2.1, s_.2.2.2.2.2.2.2) w1 H1))
 intro hJ1_03
 refine join_ (σ := V8) 18 (bm 44 1048443903) (fun s_ => [(40, s_.1), (47, s_.2.1)]) (fun s_ w' => Hp w0 ((gp, .cells #[c0, v0, v1, v2, v3, c5, c6, v4] 75 (0, 0)) :: bsr) [rI 3 v0 X0, rI 3 v1 X1, rI 3 v2 X2, rI 3 v3 X3, rI 3 v4 X4, rI 3 s_.1 [n0], rI 3 s_.2.1 [n1], rN 3, rN 3] w') ?_ ?_
 · intro s_ w1 H
   refine norm_ (a' := ?_) ?_ ?_
   rotate_left
   · simp only [putAll, aP, aS, aZ, aC]
     rfl
   refine three_ (i := 10) (j := 23) (k := 30) (Ni := some 41) (Nj := some 54) (Nk := some 61) (bm 44 1048444927) (bm 44 1056832511) (bm 44 2122185727) rfl rfl rfl rfl rfl rfl (three_of HT_.out (by kernel_rfl)) (by decide) (by decide) (by decide) (fun K hK => ?_) (fun K hK => ?_) (fun K hK => ?_)
   · refine H.app_step (i := 0) (j := 5) rfl rfl ?hg (.tmp 38) (.tmp 40) 48 ?ho Try.underlying48 measure_New.infoI ?hs ?hx ?hl (N := 41) ?hd ?_; (case hd => rfl); (case hg => rfl); (case ho => rfl); (case hs => rfl); (case hx => rfl); (case hl => simp; omega)
     intro v_ w1 H1; exact hK.out _ _ (sOf H1) (fun _ => norm_ (by simp only [putAll, aP, aS, aZ, aC]) (hJ1_01 (s_.1, s_.2.1, s_.2.2.1, s_.2.2.2.1, v_, s_.2.2.2.2.2.1, s_.2.2.2.2.2.2.1, s_.2.2.2.2.2.2.2) w1 H1))
   · refine H.lit_step 7 3 ?hg (N := 54) ?hd (n := n2) ?hr ?_; (case hd => rfl); (case hg => rfl); (case hr => first | (go_simp; done) | (go_simp; rfl))
     intro v_ w1 H1; exact hK.out _ _ (sOf H1) (fun _ => norm_ (by simp only [putAll, aP, aS, aZ, aC]) (hJ0_012 (s_.1, s_.2.1, v_, s_.2.2.2.1, s_.2.2.2.2.1, s_.2.2.2.2.2.1, s_.2.2.2.2.2.2.1, s_.2.2.2.2.2.2.2) w1 H1))
   · refine H.lit_step 8 3 ?hg (N := 61) ?hd (n := n3) ?hr ?_; (case hd => rfl); (case hg => rfl); (case hr => first | (go_simp; done) | (go_simp; rfl))
     intro v_ w1 H1; exact hK.out _ _ (sOf H1) (fun _ => norm_ (by simp only [putAll, aP, aS, aZ, aC]) (hJ0_013 (s_.1, s_.2.1, s_.2.2.1, v_, s_.2.2.2.2.1, s_.2.2.2.2.2.1, s_.2.2.2.2.2.2.1, s_.2.2.2.2.2.2.2) w1 H1))
 intro hJ0_01
 refine join_ (σ := V8) 18 (bm 44 1056766975) (fun s_ => [(40, s_.1), (54, s_.2.2.1)]) (fun s_ w' => Hp w0 ((gp, .cells #[c0, v0, v1, v2, v3, c5, c6, v4] 75 (0, 0)) :: bsr) [rI 3 v0 X0, rI 3 v1 X1, rI 3 v2 X2, rI 3 v3 X3, rI 3 v4 X4, rI 3 s_.1 [n0], rN 3, rI 3 s_.2.2.1 [n2], rN 3] w') ?_ ?_
 · intro s_ w1 H
   refine norm_ (a' := ?_) ?_ ?_
   rotate_left
   · simp only [putAll, aP, aS, aZ, aC]
     rfl
   refine three_ (i := 10) (j := 16) (k := 30) (Ni := some 41) (Nj := some 47) (Nk := some 61) (bm 44 1056767999) (bm 44 1056832511) (bm 44 2130508799) rfl rfl rfl rfl rfl rfl (three_of HT_.out (by kernel_rfl)) (by decide) (by decide) (by decide) (fun K hK => ?_) (fun K hK => ?_) (fun K hK => ?_)
   · refine H.app_step (i := 0) (j := 5) rfl rfl ?hg (.tmp 38) (.tmp 40) 48 ?ho Try.underlying48 measure_New.infoI ?hs ?hx ?hl (N := 41) ?hd ?_; (case hd => rfl); (case hg => rfl); (case ho => rfl); (case hs => rfl); (case hx => rfl); (case hl => simp; omega)
     intro v_ w1 H1; exact hK.out _ _ (sOf H1) (fun _ => norm_ (by simp only [putAll, aP, aS, aZ, aC]) (hJ1_02 (s_.1, s_.2.1, s_.2.2.1, s_.2.2.2.1, v_, s_.2.2.2.2.2.1, s_.2.2.2.2.2.2.1, s_.2.2.2.2.2.2.2) w1 H1))
   · refine H.lit_step 6 3 ?hg (N := 47) ?hd (n := n1) ?hr ?_; (case hd => rfl); (case hg => rfl); (case hr => first | (go_simp; done) | (go_simp; rfl))
     intro v_ w1 H1; exact hK.out _ _ (sOf H1) (fun _ => norm_ (by simp only [putAll, aP, aS, aZ, aC]) (hJ0_012 (s_.1, v_, s_.2.2.1, s_.2.2.2.1, s_.2.2.2.2.1, s_.2.2.2.2.2.1, s_.2.2.2.2.2.2.1, s_.2.2.2.2.2.2.2) w1 H1))
   · refine H.lit_step 8 3 ?hg (N := 61) ?hd (n := n3) ?hr ?_; (case hd => rfl); (case hg => rfl); (case hr => first | (go_simp; done) | (go_simp; rfl))
     intro v_ w1 H1; exact hK.out _ _ (sOf H1) (fun _ => norm_ (by simp only [putAll, aP, aS, aZ, aC]) (hJ0_023 (s_.1, s_.2.1, s_.2.2.1, v_, s_.2.2.2.2.1, s_.2.2.2.2.2.1, s_.2.2.2.2.2.2.1, s_.2.2.2.2.2.2.2) w1 H1))
 intro hJ0_02
 refine join_ (σ := V8) 18 (bm 44 2122120191) (fun s_ => [(40, s_.1), (61, s_.2.2.2.1)]) (fun s_ w' => Hp w0 ((gp, .cells #[c0, v0, v1, v2, v3, c5, c6, v4] 75 (0, 0)) :: bsr) [rI 3 v0 X0, rI 3 v1 X1, rI 3 v2 X2, rI 3 v3 X3, rI 3 v4 X4, rI 3 s_.1 [n0], rN 3, rN 3, rI 3 s_.2.2.2.1 [n3]] w') ?_ ?_
 · intro s_ w1 H
   refine norm_ (a' := ?_) ?_ ?_
   rotate_left
   · simp only [putAll, aP, aS, aZ, aC]
     rfl
   refine three_ (i := 10) (j := 16) (k := 23) (Ni := some 41) (Nj := some 47) (Nk := some 54) (bm 44 2122121215) (bm 44 2122185727) (bm 44 2130508799) rfl rfl rfl rfl rfl rfl (three_of HT_.out (by kernel_rfl)) (by decide) (by decide) (by decide) (fun K hK => ?_) (fun K hK => ?_) (fun K hK => ?_)
   · refine H.app_step (i := 0) (j := 5) rfl rfl ?hg (.tmp 38) (.tmp 40) 48 ?ho Try.underlying48 measure_New.infoI ?hs ?hx ?hl (N := 41) ?hd ?_; (case hd => rfl); (case hg => rfl); (case ho => rfl); (case hs => rfl); (case hx => rfl); (case hl => simp; omega)
     intro v_ w1 H1; exact hK.out _ _ (sOf H1) (fun _ => norm_ (by simp only [putAll, aP, aS, aZ, aC]) (hJ1_03 (s_.1, s_.2.1, s_.2.2.1, s_.2.2.2.1, v_, s_.2.2.2.2.2.1, s_.2.2.2.2.2.2.1, s_.2.2.2.2.2.2.2) w1 H1))
   · refine H.lit_step 6 3 ?hg (N := 47) ?hd (n := n1) ?hr ?_; (case hd => rfl); (case hg => rfl); (case hr => first | (go_simp; done) | (go_simp; rfl))
     intro v_ w1 H1; exact hK.out _ _ (sOf H1) (fun _ => norm_ (by simp only [putAll, aP, aS, aZ, aC]) (hJ0_013 (s_.1, v_, s_.2.2.1, s_.2.2.2.1, s_.2.2.2.2.1, s_.2.2.2.2.2.1, s_.2.2.2.2.2.2.1, s_.2.2.2.2.2.2.2) w1 H1))
   · refine H.lit_step 7 3 ?hg (N := 54) ?hd (n := n2) ?hr ?_; (case hd => rfl); (case hg => rfl); (case hr => first | (go_simp; done) | (go_simp; rfl))
     intro v_ w1 H1; exact hK.out _ _ (sOf H1) (fun _ => norm_ (by simp only [putAll, aP, aS, aZ, aC]) (hJ0_023 (s_.1, s_.2.1, v_, s_.2.2.2.1, s_.2.2.2.2.1, s_.2.2.2.2.2.1, s_.2.2.2.2.2.2.1, s_.2.2.2.2.2.2.2) w1 H1))
 intro hJ0_03
 refine join_ (σ := V8) 18 (bm 44 1056831999) (fun s_ => [(47, s_.2.1), (54, s_.2.2.1)]) (fun s_ w' => Hp w0 ((gp, .cells #[c0, v0, v1, v2, v3, c5, c6, v4] 75 (0, 0)) :: bsr) [rI 3 v0 X0, rI 3 v1 X1, rI 3 v2 X2, rI 3 v3 X3, rI 3 v4 X4, rN 3, rI 3 s_.2.1 [n1], rI 3 s_.2.2.1 [n2], rN 3] w') ?_ ?_
 · intro s_ w1 H
   refine norm_ (a' := ?_) ?_ ?_
   rotate_left
   · simp only [putAll, aP, aS, aZ, aC]
     rfl
   refine two_ (i := 9) (j := 30) (Ni := some 40) (Nj := some 61) (bm 44 1056832511) (bm 44 2130573823) rfl rfl rfl rfl (two_of HT_.out (by kernel_rfl)) (by decide) (by decide) (fun K hK => ?_) (fun K hK => ?_)
   · refine H.lit_step 5 3 ?hg (N := 40) ?hd (n := n0) ?hr ?_; (case hd => rfl); (case hg => rfl); (case hr => first | (go_simp; done) | (go_simp; rfl))
     intro v_ w1 H1; exact hK.out _ _ (sOf H1) (fun _ => norm_ (by simp only [putAll, aP, aS, aZ, aC]) (hJ0_012 (v_, s_.2.1, s_.2.2.1, s_.2.2.2.1, s_.2.2.2.2.1, s_.2.2.2.2.2.1, s_.2.2.2.2.2.2.1, s_.2.2.2.2.2.2.2) w1 H1))
   · refine H.lit_step 8 3 ?hg (N := 61) ?hd (n := n3) ?hr ?_; (case hd => rfl); (case hg => rfl); (case hr => first | (go_simp; done) | (go_simp; rfl))
     intro v_ w1 H1; exact hK.out _ _ (sOf H1) (fun _ => norm_ (by simp only [putAll, aP, aS, aZ, aC]) (hJ0_123 (s_.1, s_.2.1, s_.2.2.1, v_, s_.2.2.2.2.1, s_.2.2.2.2.2.1, s_.2.2.2.2.2.2.1, s_.2.2.2.2.2.2.2) w1 H1))
 intro hJ0_12
 refine join_ (σ := V8) 18 (bm 44 2122185215) (fun s_ => [(47, s_.2.1), (61, s_.2.2.2.1)]) (fun s_ w' => Hp w0 ((gp, .cells #[c0, v0, v1, v2, v3, c5, c6, v4] 75 (0, 0)) :: bsr) [rI 3 v0 X0, rI 3 v1 X1, rI 3 v2 X2, rI 3 v3 X3, rI 3 v4 X4, rN 3, rI 3 s_.2.1 [n1], rN 3, rI 3 s_.2.2.2.1 [n3]] w') ?_ ?_
 · intro s_ w1 H
   refine norm_ (a' := ?_) ?_ ?_
   rotate_left
   · simp only [putAll, aP, aS, aZ, aC]
     rfl
   refine two_ (i := 9) (j := 23) (Ni := some 40) (Nj := some 54) (bm 44 2122185727) (bm 44 2130573823) rfl rfl rfl rfl (two_of HT_.out (by kernel_rfl)) (by decide) (by decide) (fun K hK => ?_) (fun K hK => ?_)
   · refine H.lit_step 5 3 ?hg (N := 40) ?hd (n := n0) ?hr ?_; (case hd => rfl); (case hg => rfl); (case hr => first | (go_simp; done) | (go_simp; rfl))
     intro v_ w1 H1; exact hK.out _ _ (sOf H1) (fun _ => norm_ (by simp only [putAll, aP, aS, aZ, aC]) (hJ0_013 (v_, s_.2.1, s_.2.2.1, s_.2.2.2.1, s_.2.2.2.2.1, s_.2.2.2.2.2.1, s_.2.2.2.2.2.2.1, s_.2.2.2.2.2.2.2) w1 H1))
   · refine H.lit_step 7 3 ?hg (N := 54) ?hd (n := n2) ?hr ?_; (case hd => rfl); (case hg => rfl); (case hr => first | (go_simp; done) | (go_simp; rfl))
     intro v_ w1 H1; exact hK.out _ _ (sOf H1) (fun _ => norm_ (by simp only [putAll, aP, aS, aZ, aC]) (hJ0_123 (s_.1, s_.2.1, v_, s_.2.2.2.1, s_.2.2.2.2.1, s_.2.2.2.2.2.1, s_.2.2.2.2.2.2.1, s_.2.2.2.2.2.2.2) w1 H1))
 intro hJ0_13
 refine join_ (σ := V8) 18 (bm 44 2130508287) (fun s_ => [(54, s_.2.2.1), (61, s_.2.2.2.1)]) (fun s_ w' => Hp w0 ((gp, .cells #[c0, v0, v1, v2, v3, c5, c6, v4] 75 (0, 0)) :: bsr) [rI 3 v0 X0, rI 3 v1 X1, rI 3 v2 X2, rI 3 v3 X3, rI 3 v4 X4, rN 3, rN 3, rI 3 s_.2.2.1 [n2], rI 3 s_.2.2.2.1 [n3]] w') ?_ ?_
 · intro s_ w1 H
   refine norm_ (a' := ?_) ?_ ?_
   rotate_left
   · simp only [putAll, aP, aS, aZ, aC]
     rfl
   refine two_ (i := 9) (j := 16) (Ni := some 40) (Nj := some 47) (bm 44 2130508799) (bm 44 2130573823) rfl rfl rfl rfl (two_of HT_.out (by kernel_rfl)) (by decide) (by decide) (fun K hK => ?_) (fun K hK => ?_)
   · refine H.lit_step 5 3 ?hg (N := 40) ?hd (n := n0) ?hr ?_; (case hd => rfl); (case hg => rfl); (case hr => first | (go_simp; done) | (go_simp; rfl))
     intro v_ w1 H1; exact hK.out _ _ (sOf H1) (fun _ => norm_ (by simp only [putAll, aP, aS, aZ, aC]) (hJ0_023 (v_, s_.2.1, s_.2.2.1, s_.2.2.2.1, s_.2.2.2.2.1, s_.2.2.2.2.2.1, s_.2.2.2.2.2.2.1, s_.2.2.2.2.2.2.2) w1 H1))
   · refine H.lit_step 6 3 ?hg (N := 47) ?hd (n := n1) ?hr ?_; (case hd => rfl); (case hg => rfl); (case hr => first | (go_simp; done) | (go_simp; rfl))
     intro v_ w1 H1; exact hK.out _ _ (sOf H1) (fun _ => norm_ (by simp only [putAll, aP, aS, aZ, aC]) (hJ0_123 (s_.1, v_, s_.2.2.1, s_.2.2.2.1, s_.2.2.2.2.1, s_.2.2.2.2.2.1, s_.2.2.2.2.2.2.1, s_.2.2.2.2.2.2.2) w1 H1))
 intro hJ0_23
 refine join_ (σ := V8) 18 (bm 44 1048379391) (fun s_ => [(40, s_.1), (41, s_.2.2.2.2.1)]) (fun s_ w' => Hp w0 ((gp, .cells #[c0, v0, v1, v2, v3, c5, c6, v4] 75 (0, 0)) :: bsr) [rI 3 s_.2.2.2.2.1 (X0 ++ [n0]), rI 3 v1 X1, rI 3 v2 X2, rI 3 v3 X3, rI 3 v4 X4, rI 3 s_.1 [n0], rN 3, rN 3, rN 3] w') ?_ ?_
 · intro s_ w1 H
   refine norm_ (a' := ?_) ?_ ?_
   rotate_left
   · simp only [putAll, aP, aS, aZ, aC]
     rfl
   refine three_ (i := 16) (j := 23) (k := 30) (Ni := some 47) (Nj := some 54) (Nk := some 61) (bm 44 1048444927) (bm 44 1056767999) (bm 44 2122121215) rfl rfl rfl rfl rfl rfl (three_of HT_.out (by kernel_rfl)) (by decide) (by decide) (by decide) (fun K hK => ?_) (fun K hK => ?_) (fun K hK => ?_)
   · refine H.lit_step 6 3 ?hg (N := 47) ?hd (n := n1) ?hr ?_; (case hd => rfl); (case hg => rfl); (case hr => first | (go_simp; done) | (go_simp; rfl))
     intro v_ w1 H1; exact hK.out _ _ (sOf H1) (fun _ => norm_ (by simp only [putAll, aP, aS, aZ, aC]) (hJ1_01 (s_.1, v_, s_.2.2.1, s_.2.2.2.1, s_.2.2.2.2.1, s_.2.2.2.2.2.1, s_.2.2.2.2.2.2.1, s_.2.2.2.2.2.2.2) w1 H1))
   · refine H.lit_step 7 3 ?hg (N := 54) ?hd (n := n2) ?hr ?_; (case hd => rfl); (case hg => rfl); (case hr => first | (go_simp; done) | (go_simp; rfl))
     intro v_ w1 H1; exact hK.out _ _ (sOf H1) (fun _ => norm_ (by simp only [putAll, aP, aS, aZ, aC]) (hJ1_02 (s_.1, s_.2.1, v_, s_.2.2.2.1, s_.2.2.2.2.1, s_.2.2.2.2.2.1, s_.2.2.2.2.2.2.1, s_.2.2.2.2.2.2.2) w1 H1))
   · refine H.lit_step 8 3 ?hg (N := 61) ?hd (n := n3) ?hr ?_; (case hd => rfl); (case hg => rfl); (case hr => first | (go_simp; done) | (go_simp; rfl))
     intro v_ w1 H1; exact hK.out _ _ (sOf H1) (fun _ => norm_ (by simp only [putAll, aP, aS, aZ, aC]) (hJ1_03 (s_.1, s_.2.1, s_.2.2.1, v_, s_.2.2.2.2.1, s_.2.2.2.2.2.1, s_.2.2.2.2.2.2.1, s_.2.2.2.2.2.2.2) w1 H1))
 intro hJ1_0
 refine join_ (σ := V8) 19 (bm 44 1048378367) (fun s_ => [(40, s_.1)]) (fun s_ w' => Hp w0 ((gp, .cells #[c0, v0, v1, v2, v3, c5, c6, v4] 75 (0, 0)) :: bsr) [rI 3 v0 X0, rI 3 v1 X1, rI 3 v2 X2, rI 3 v3 X3, rI 3 v4 X4, rI 3 s_.1 [n0], rN 3, rN 3, rN 3] w') ?_ ?_
 · intro s_ w1 H
   refine norm_ (a' := ?_) ?_ ?_
   rotate_left
   · simp only [putAll, aP, aS, aZ, aC]
     rfl
   refine four_ (i := 10) (j := 16) (k := 23) (m := 30) (Ni := some 41) (Nj := some 47) (Nk := some 54) (Nm := some 61) (bm 44 1048379391) (bm 44 1048443903) (bm 44 1056766975) (bm 44 2122120191) rfl rfl rfl rfl rfl rfl rfl rfl (four_of HT_.out (by kernel_rfl)) (by decide) (by decide) (by decide) (by decide) (fun K hK => ?_) (fun K hK => ?_) (fun K hK => ?_) (fun K hK => ?_)
   · refine H.app_step (i := 0) (j := 5) rfl rfl ?hg (.tmp 38) (.tmp 40) 48 ?ho Try.underlying48 measure_New.infoI ?hs ?hx ?hl (N := 41) ?hd ?_; (case hd => rfl); (case hg => rfl); (case ho => rfl); (case hs => rfl); (case hx => rfl); (case hl => simp; omega)
     intro v_ w1 H1; exact hK.out _ _ (sOf H1) (fun _ => norm_ (by simp only [putAll, aP, aS, aZ, aC]) (hJ1_0 (s_.1, s_.2.1, s_.2.2.1, s_.2.2.2.1, v_, s_.2.2.2.2.2.1, s_.2.2.2.2.2.2.1, s_.2.2.2.2.2.2.2) w1 H1))
   · refine H.lit_step 6 3 ?hg (N := 47) ?hd (n := n1) ?hr ?_; (case hd => rfl); (case hg => rfl); (case hr => first | (go_simp; done) | (go_simp; rfl))
     intro v_ w1 H1; exact hK.out _ _ (sOf H1) (fun _ => norm_ (by simp only [putAll, aP, aS, aZ, aC]) (hJ0_01 (s_.1, v_, s_.2.2.1, s_.2.2.2.1, s_.2.2.2.2.1, s_.2.2.2.2.2.1, s_.2.2.2.2.2.2.1, s_.2.2.2.2.2.2.2) w1 H1))
   · refine H.lit_step 7 3 ?hg (N := 54) ?hd (n := n2) ?hr ?_; (case hd => rfl); (case hg => rfl); (case hr => first | (go_simp; done) | (go_simp; rfl))
     intro v_ w1 H1; exact hK.out _ _ (sOf H1) (fun _ => norm_ (by simp only [putAll, aP, aS, aZ, aC]) (hJ0_02 (s_.1, s_.2.1, v_, s_.2.2.2.1, s_.2.2.2.2.1, s_.2.2.2.2.2.1, s_.2.2.2.2.2.2.1, s_.2.2.2.2.2.2.2) w1 H1))
   · refine H.lit_step 8 3 ?hg (N := 61) ?hd (n := n3) ?hr ?_; (case hd => rfl); (case hg => rfl); (case hr => first | (go_simp; done) | (go_simp; rfl))
     intro v_ w1 H1; exact hK.out _ _ (sOf H1) (fun _ => norm_ (by simp only [putAll, aP, aS, aZ, aC]) (hJ0_03 (s_.1, s_.2.1, s_.2.2.1, v_, s_.2.2.2.2.1, s_.2.2.2.2.2.1, s_.2.2.2.2.2.2.1, s_.2.2.2.2.2.2.2) w1 H1))
 intro hJ0_0
 refine join_ (σ := V8) 19 (bm 44 1048443391) (fun s_ => [(47, s_.2.1)]) (fun s_ w' => Hp w0 ((gp, .cells #[c0, v0, v1, v2, v3, c5, c6, v4] 75 (0, 0)) :: bsr) [rI 3 v0 X0, rI 3 v1 X1, rI 3 v2 X2, rI 3 v3 X3, rI 3 v4 X4, rN 3, rI 3 s_.2.1 [n1], rN 3, rN 3] w') ?_ ?_
 · intro s_ w1 H
   refine norm_ (a' := ?_) ?_ ?_
   rotate_left
   · simp only [putAll, aP, aS, aZ, aC]
     rfl
   refine three_ (i := 9) (j := 23) (k := 30) (Ni := some 40) (Nj := some 54) (Nk := some 61) (bm 44 1048443903) (bm 44 1056831999) (bm 44 2122185215) rfl rfl rfl rfl rfl rfl (three_of HT_.out (by kernel_rfl)) (by decide) (by decide) (by decide) (fun K hK => ?_) (fun K hK => ?_) (fun K hK => ?_)
   · refine H.lit_step 5 3 ?hg (N := 40) ?hd (n := n0) ?hr ?_; (case hd => rfl); (case hg => rfl); (case hr => first | (go_simp; done) | (go_simp; rfl))
     intro v_ w1 H1; exact hK.out _ _ (sOf H1) (fun _ => norm_ (by simp only [putAll, aP, aS, aZ, aC]) (hJ0_01 (v_, s_.2.1, s_.2.2.1, s_.2.2.2.1, s_.2.2.2.2.1, s_.2.2.2.2.2.1, s_.2.2.2.2.2.2.1, s_.2.2.2.2.2.2.2) w1 H1))
   · refine H.lit_step 7 3 ?hg (N := 54) ?hd (n := n2) ?hr ?_; (case hd => rfl); (case hg => rfl); (case hr => first | (go_simp; done) | (go_simp; rfl))
     intro v_ w1 H1; exact hK.out _ _ (sOf H1) (fun _ => norm_ (by simp only [putAll, aP, aS, aZ, aC]) (hJ0_12 (s_.1, s_.2.1, v_, s_.2.2.2.1, s_.2.2.2.2.1, s_.2.2.2.2.2.1, s_.2.2.2.2.2.2.1, s_.2.2.2.2.2.2.2) w1 H1))
   · refine H.lit_step 8 3 ?hg (N := 61) ?hd (n := n3) ?hr ?_; (case hd => rfl); (case hg => rfl); (case hr => first | (go_simp; done) | (go_simp; rfl))
     intro v_ w1 H1; exact hK.out _ _ (sOf H1) (fun _ => norm_ (by simp only [putAll, aP, aS, aZ, aC]) (hJ0_13 (s_.1, s_.2.1, s_.2.2.1, v_, s_.2.2.2.2.1, s_.2.2.2.2.2.1, s_.2.2.2.2.2.2.1, s_.2.2.2.2.2.2.2) w1 H1))
 intro hJ0_1
 refine join_ (σ := V8) 19 (bm 44 1056766463) (fun s_ => [(54, s_.2.2.1)]) (fun s_ w' => Hp w0 ((gp, .cells #[c0, v0, v1, v2, v3, c5, c6, v4] 75 (0, 0)) :: bsr) [rI 3 v0 X0, rI 3 v1 X1, rI 3 v2 X2, rI 3 v3 X3, rI 3 v4 X4, rN 3, rN 3, rI 3 s_.2.2.1 [n2], rN 3] w') ?_ ?_
 · intro s_ w1 H
   refine norm_ (a' := ?_) ?_ ?_
   rotate_left
   · simp only [putAll, aP, aS, aZ, aC]
     rfl
   refine three_ (i := 9) (j := 16) (k := 30) (Ni := some 40) (Nj := some 47) (Nk := some 61) (bm 44 1056766975) (bm 44 1056831999) (bm 44 2130508287) rfl rfl rfl rfl rfl rfl (three_of HT_.out (by kernel_rfl)) (by decide) (by decide) (by decide) (fun K hK => ?_) (fun K hK => ?_) (fun K hK => ?_)
   · refine H.lit_step 5 3 ?hg (N := 40) ?hd (n := n0) ?hr ?_; (case hd => rfl); (case hg => rfl); (case hr => first | (go_simp; done) | (go_simp; rfl))
     intro v_ w1 H1; exact hK.out _ _ (sOf H1) (fun _ => norm_ (by simp only [putAll, aP, aS, aZ, aC]) (hJ0_02 (v_, s_.2.1, s_.2.2.1, s_.2.2.2.1, s_.2.2.2.2.1, s_.2.2.2.2.2.1, s_.2.2.2.2.2.2.1, s_.2.2.2.2.2.2.2) w1 H1))
   · refine H.lit_step 6 3 ?hg (N := 47) ?hd (n := n1) ?hr ?_; (case hd => rfl); (case hg => rfl); (case hr => first | (go_simp; done) | (go_simp; rfl))
     intro v_ w1 H1; exact hK.out _ _ (sOf H1) (fun _ => norm_ (by simp only [putAll, aP, aS, aZ, aC]) (hJ0_12 (s_.1, v_, s_.2.2.1, s_.2.2.2.1, s_.2.2.2.2.1, s_.2.2.2.2.2.1, s_.2.2.2.2.2.2.1, s_.2.2.2.2.2.2.2) w1 H1))
   · refine H.lit_step 8 3 ?hg (N := 61) ?hd (n := n3) ?hr ?_; (case hd => rfl); (case hg => rfl); (case hr => first | (go_simp; done) | (go_simp; rfl))
     intro v_ w1 H1; exact hK.out _ _ (sOf H1) (fun _ => norm_ (by simp only [putAll, aP, aS, aZ, aC]) (hJ0_23 (s_.1, s_.2.1, s_.2.2.1, v_, s_.2.2.2.2.1, s_.2.2.2.2.2.1, s_.2.2.2.2.2.2.1, s_.2.2.2.2.2.2.2) w1 H1))
 intro hJ0_2
 refine join_ (σ := V8) 19 (bm 44 2122119679) (fun s_ => [(61, s_.2.2.2.1)]) (fun s_ w' => Hp w0 ((gp, .cells #[c0, v0, v1, v2, v3, c5, c6, v4] 75 (0, 0)) :: bsr) [rI 3 v0 X0, rI 3 v1 X1, rI 3 v2 X2, rI 3 v3 X3, rI 3 v4 X4, rN 3, rN 3, rN 3, rI 3 s_.2.2.2.1 [n3]] w') ?_ ?_
 · intro s_ w1 H
   refine norm_ (a' := ?_) ?_ ?_
   rotate_left
   · simp only [putAll, aP, aS, aZ, aC]
     rfl
   refine three_ (i := 9) (j := 16) (k := 23) (Ni := some 40) (Nj := some 47) (Nk := some 54) (bm 44 2122120191) (bm 44 2122185215) (bm 44 2130508287) rfl rfl rfl rfl rfl rfl (three_of HT_.out (by kernel_rfl)) (by decide) (by decide) (by decide) (fun K hK => ?_) (fun K hK => ?_) (fun K hK => ?_)
   · refine H.lit_step 5 3 ?hg (N := 40) ?hd (n := n0) ?hr ?_; (case hd => rfl); (case hg => rfl); (case hr => first | (go_simp; done) | (go_simp; rfl))
     intro v_ w1 H1; exact hK.out _ _ (sOf H1) (fun _ => norm_ (by simp only [putAll, aP, aS, aZ, aC]) (hJ0_03 (v_, s_.2.1, s_.2.2.1, s_.2.2.2.1, s_.2.2.2.2.1, s_.2.2.2.2.2.1, s_.2.2.2.2.2.2.1, s_.2.2.2.2.2.2.2) w1 H1))
   · refine H.lit_step 6 3 ?hg (N := 47) ?hd (n := n1) ?hr ?_; (case hd => rfl); (case hg => rfl); (case hr => first | (go_simp; done) | (go_simp; rfl))
     intro v_ w1 H1; exact hK.out _ _ (sOf H1) (fun _ => norm_ (by simp only [putAll, aP, aS, aZ, aC]) (hJ0_13 (s_.1, v_, s_.2.2.1, s_.2.2.2.1, s_.2.2.2.2.1, s_.2.2.2.2.2.1, s_.2.2.2.2.2.2.1, s_.2.2.2.2.2.2.2) w1 H1))
   · refine H.lit_step 7 3 ?hg (N := 54) ?hd (n := n2) ?hr ?_; (case hd => rfl); (case hg => rfl); (case hr => first | (go_simp; done) | (go_simp; rfl))
     intro v_ w1 H1; exact hK.out _ _ (sOf H1) (fun _ => norm_ (by simp only [putAll, aP, aS, aZ, aC]) (hJ0_23 (s_.1, s_.2.1, v_, s_.2.2.2.1, s_.2.2.2.2.1, s_.2.2.2.2.2.1, s_.2.2.2.2.2.2.1, s_.2.2.2.2.2.2.2) w1 H1))
 intro hJ0_3
 refine four_ (i := 9) (j := 16) (k := 23) (m := 30) (Ni := some 40) (Nj := some 47) (Nk := some 54) (Nm := some 61) (bm 44 1048378367) (bm 44 1048443391) (bm 44 1056766463) (bm 44 2122119679) rfl rfl rfl rfl rfl rfl rfl rfl (four_of HT_.out (by kernel_rfl)) (by decide) (by decide) (by decide) (by decide) (fun K hK => ?_) (fun K hK => ?_) (fun K hK => ?_) (fun K hK => ?_)
 · refine H.lit_step 5 3 ?hg (N := 40) ?hd (n := n0) ?hr ?_; (case hd => rfl); (case hg => rfl); (case hr => first | (go_simp; done) | (go_simp; rfl))
   intro v_ w1 H1; exact hK.out _ _ (sOf H1) (fun _ => norm_ (by simp only [putAll, aP, aS, aZ, aC]) (hJ0_0 (v_, .bool false, .bool false, .bool false, .bool false, .bool false, .bool false, .bool false) w1 H1))
 · refine H.lit_step 6 3 ?hg (N := 47) ?hd (n := n1) ?hr ?_; (case hd => rfl); (case hg => rfl); (case hr => first | (go_simp; done) | (go_simp; rfl))
   intro v_ w1 H1; exact hK.out _ _ (sOf H1) (fun _ => norm_ (by simp only [putAll, aP, aS, aZ, aC]) (hJ0_1 (.bool false, v_, .bool false, .bool false, .bool false, .bool false, .bool false, .bool false) w1 H1))
 · refine H.lit_step 7 3 ?hg (N := 54) ?hd (n := n2) ?hr ?_; (case hd => rfl); (case hg => rfl); (case hr => first | (go_simp; done) | (go_simp; rfl))
   intro v_ w1 H1; exact hK.out _ _ (sOf H1) (fun _ => norm_ (by simp only [putAll, aP, aS, aZ, aC]) (hJ0_2 (.bool false, .bool false, v_, .bool false, .bool false, .bool false, .bool false, .bool false) w1 H1))
 · refine H.lit_step 8 3 ?hg (N := 61) ?hd (n := n3) ?hr ?_; (case hd => rfl); (case hg => rfl); (case hr => first | (go_simp; done) | (go_simp; rfl))
   intro v_ w1 H1; exact hK.out _ _ (sOf H1) (fun _ => norm_ (by simp only [putAll, aP, aS, aZ, aC]) (hJ0_3 (.bool false, .bool false, .bool false, v_, .bool false, .bool false, .bool false, .bool false) w1 H1))
def measure_New.T18 : Bool × List (List Nat × List Nat) := (true, [([], []), ([], []), ([], []), ([], []), ([], []), ([4], [4]), ([5], [5]), ([6], [6]), ([], []), ([8], [8]), ([7, 9], [7, 9]), ([], []), ([11], [11]), ([12], [12]), ([13], [13]), ([], []), ([15], [15]), ([14, 16, 10], [14, 16]), ([], []), ([18], [18]), ([19], [19]), ([20], [20]), ([], []), ([22], [22]), ([21, 23, 17], [21, 23]), ([], []), ([25], [25]), ([26], [26]), ([27], [27]), ([], []), ([29], [29]), ([28, 30, 24], [28, 30]), ([0, 0, 4, 5, 6, 7, 8, 9, 10, 14, 17, 21, 24, 28, 31], [0]), ([32, 0, 4, 5, 6, 7, 8, 9, 10, 14, 17, 21, 24, 28, 31], [32]), ([33, 10, 31, 0, 4, 5, 6, 7, 8, 9, 10, 14, 17, 21, 24, 28, 31], [10, 33]), ([1, 0, 1, 4, 5, 6, 7, 8, 9, 10, 11, 12, 13, 14, 15, 16, 17, 21, 24, 28, 31, 32, 33, 34], [1]), ([35, 0, 1, 4, 5, 6, 7, 8, 9, 10, 11, 12, 13, 14, 15, 16, 17, 21, 24, 28, 31, 32, 33, 34], [35]), ([36, 17, 34, 0, 1, 4, 5, 6, 7, 8, 9, 10, 11, 12, 13, 14, 15, 16, 17, 21, 24, 28, 31, 32, 33, 34], [17, 36]), ([2, 0, 1, 2, 4, 5, 6, 7, 8, 9, 10, 11, 12, 13, 14, 15, 16, 17, 18, 19, 20, 21, 22, 23, 24, 28, 31, 32, 33, 34, 35, 36, 37], [2]), ([38, 0, 1, 2, 4, 5, 6, 7, 8, 9, 10, 11, 12, 13, 14, 15, 16, 17, 18, 19, 20, 21, 22, 23, 24, 28, 31, 32, 33, 34, 35, 36, 37], [38]), ([39, 24, 37, 0, 1, 2, 4, 5, 6, 7, 8, 9, 10, 11, 12, 13, 14, 15, 16, 17, 18, 19, 20, 21, 22, 23, 24, 28, 31, 32, 33, 34, 35, 36, 37], [24, 39]), ([3, 0, 1, 2, 3, 4, 5, 6, 7, 8, 9, 10, 11, 12, 13, 14, 15, 16, 17, 18, 19, 20, 21, 22, 23, 24, 25, 26, 27, 28, 29, 30, 31, 32, 33, 34, 35, 36, 37, 38, 39, 40], [3]), ([41, 0, 1, 2, 3, 4, 5, 6, 7, 8, 9, 10, 11, 12, 13, 14, 15, 16, 17, 18, 19, 20, 21, 22, 23, 24, 25, 26, 27, 28, 29, 30, 31, 32, 33, 34, 35, 36, 37, 38, 39, 40], [41]), ([42, 31, 40, 0, 1, 2, 3, 4, 5, 6, 7, 8, 9, 10, 11, 12, 13, 14, 15, 16, 17, 18, 19, 20, 21, 22, 23, 24, 25, 26, 27, 28, 29, 30, 31, 32, 33, 34, 35, 36, 37, 38, 39, 40], [31, 42])])
def measure_New.B18 : List Nat := [0, 0, 0, 0, 0, 16, 48, 112, 0, 256, 1008, 0, 2048, 6144, 14336, 0, 32768, 131056, 0, 262144, 786432, 1835008, 0, 4194304, 16777200, 0, 33554432, 100663296, 234881024, 0, 536870912, 2147483632, 4294967281, 8589934577, 17179869169, 34359738355, 68719476723, 137438953459, 274877906935, 549755813879, 1099511627767, 2199023255551, 4398046511103, 8796093022207]
theorem measure_New.tab18 : rtab .any (opsOf Try.f18 18) = measure_New.T18 := by kernel_rfl
theorem measure_New.bits18 : waitsOk measure_New.T18.2 measure_New.B18 = true := by kernel_rfl
set_option maxHeartbeats 8000000 in
set_option maxRecDepth 100000 in
theorem measure_New.reg18 {ops : Array Oper} (ho_ : opsOf Try.f18 18 = ops) {Q : Exit → Act → World → Prop} (hP : ∀ c (a : Act) (N : Tmp) (v : Value) (W : World), Q (.panic c) (a.put (some N) v) W → Q (.panic c) a W) {x0 x1 x2 x3 x4 x10 x11 x12 x13 x14 x15 x16 x17 x18 x19 x20 x21 x22 x23 x24 x25 x26 x27 x28 x29 x30 x31 x32 x33 x34 x35 x36 x37 x38 x39 x40 x41 x42 x43 x44 x45 x46 x47 x48 x49 x50 x51 x52 x53 x54 x55 x56 x57 x58 x59 x60 x61 x62 x63 x64 x65 x66 x67 x68 x69 x70 x71 x72 x73 x74 x75 x76 x77 x78 x79 x80 x81 x82 x83 x84 x85 x86 x87 x88 x89 x90 x91 x92 x93 x94 x95 x96 x97 x98 x99 x100 x101 x102 x103 x104 x105 x106 x107 x108 x109 x110 x111 x112 x113 x114 x115 x116 x117 x118 x119 x120 x121 x122 x123 x124 x125 x126 x127 x128 x129 x130 x131 x132 x133 x134 x135 x136 x137 x138 x139 x140 x141 x142 x143 x144 x145 x146 x147 x148 x149 x150 x151 x152 x153 x154 x155 x156 x157 x158 x159 x160 x161 x162 x163 x164 x165 x166 x167 x168 x169 x170 x171 x172 x173 x174 x175 x176 x177 x178 x179 x180 x181 x182 x183 x184 x185 x186 x187 x188 x189 x190 x191 x192 x193 x194 x195 x196 x197 x198 x199 x200 x201 x202 x203 x204 x205 x206 x207 x208 x209 x210 x211 x212 x213 x214 x215 : Value} {w0 w : World} {gp : Nat} {c0 c5 c6 v0 v1 v2 v3 v4 : Value} {X0 X1 X2 X3 X4 : List Int} {n0 n1 n2 n3 : Int} {bsr : List (Nat × Obj)}
    (H : Hp w0 ((gp, .cells #[c0, v0, v1, v2, v3, c5, c6, v4] 75 (0, 0)) :: bsr) [rI 3 v0 X0, rI 3 v1 X1, rI 3 v2 X2, rI 3 v3 X3, rI 3 v4 X4, rN 3, rN 3, rN 3, rN 3] w)
    (hl0 : X0.length + 1 ≤ 17592186044416)
    (hl1 : X1.length + 1 ≤ 17592186044416)
    (hl2 : X2.length + 1 ≤ 17592186044416)
    (hl3 : X3.length + 1 ≤ 17592186044416)
    (hQ : ∀ (y0 y1 y2 y3 y4 y5 y6 y7 y8 y9 y10 y11 y12 y13 y14 y15 y16 y17 y18 y19 y20 y21 y22 y23 y24 y25 y26 y27 y28 y29 y30 y31 y32 y33 y34 y35 y36 y37 y38 y39 r0 r1 r2 r3 : Value) (w' : World), Hp w0 ((gp, .cells #[c0, r0, r1, r2, r3, c5, c6, v4] 75 (0, 0)) :: bsr) [rI 3 r0 (X0 ++ [n0]), rI 3 r1 (X1 ++ [n1]), rI 3 r2 (X2 ++ [n2]), rI 3 r3 (X3 ++ [n3]), rI 3 v4 X4] w' → Q .normal { tmps := #[x0, x1, x2, x3, x4, .pointer (some ⟨gp, 0, none⟩), .int .i64 n0, .int .i64 n1, .int .i64 n2, .int .i64 n3, x10, x11, x12, x13, x14, x15, x16, x17, x18, x19, x20, x21, x22, x23, x24, x25, x26, x27, x28, x29, x30, x31, x32, x33, x34, x35, x36, x37, x38, x39, x40, x41, x42, x43, x44, x45, x46, x47, x48, x49, x50, x51, x52, x53, x54, x55, x56, x57, x58, x59, x60, x61, x62, x63, x64, x65, x66, x67, x68, x69, x70, x71, x72, x73, x74, x75, x76, x77, x78, x79, x80, x81, x82, x83, x84, x85, x86, x87, x88, x89, x90, x91, x92, x93, x94, x95, x96, x97, x98, x99, x100, x101, x102, x103, x104, x105, x106, x107, x108, x109, x110, x111, x112, x113, y0, y1, y2, y3, y4, y5, y6, y7, y8, y9, y10, y11, y12, y13, y14, y15, y16, y17, y18, y19, y20, y21, y22, y23, y24, y25, y26, y27, y28, y29, y30, y31, y32, y33, y34, y35, y36, y37, y38, y39, x154, x155, x156, x157, x158, x159, x160, x161, x162, x163, x164, x165, x166, x167, x168, x169, x170, x171, x172, x173, x174, x175, x176, x177, x178, x179, x180, x181, x182, x183, x184, x185, x186, x187, x188, x189, x190, x191, x192, x193, x194, x195, x196, x197, x198, x199, x200, x201, x202, x203, x204, x205, x206, x207, x208, x209, x210, x211, x212, x213, x214, x215], defers := [] } w') :
    Code.wp Try.prog (.region 18 ops true) Q { tmps := #[x0, x1, x2, x3, x4, .pointer (some ⟨gp, 0, none⟩), .int .i64 n0, .int .i64 n1, .int .i64 n2, .int .i64 n3, x10, x11, x12, x13, x14, x15, x16, x17, x18, x19, x20, x21, x22, x23, x24, x25, x26, x27, x28, x29, x30, x31, x32, x33, x34, x35, x36, x37, x38, x39, x40, x41, x42, x43, x44, x45, x46, x47, x48, x49, x50, x51, x52, x53, x54, x55, x56, x57, x58, x59, x60, x61, x62, x63, x64, x65, x66, x67, x68, x69, x70, x71, x72, x73, x74, x75, x76, x77, x78, x79, x80, x81, x82, x83, x84, x85, x86, x87, x88, x89, x90, x91, x92, x93, x94, x95, x96, x97, x98, x99, x100, x101, x102, x103, x104, x105, x106, x107, x108, x109, x110, x111, x112, x113, x114, x115, x116, x117, x118, x119, x120, x121, x122, x123, x124, x125, x126, x127, x128, x129, x130, x131, x132, x133, x134, x135, x136, x137, x138, x139, x140, x141, x142, x143, x144, x145, x146, x147, x148, x149, x150, x151, x152, x153, x154, x155, x156, x157, x158, x159, x160, x161, x162, x163, x164, x165, x166, x167, x168, x169, x170, x171, x172, x173, x174, x175, x176, x177, x178, x179, x180, x181, x182, x183, x184, x185, x186, x187, x188, x189, x190, x191, x192, x193, x194, x195, x196, x197, x198, x199, x200, x201, x202, x203, x204, x205, x206, x207, x208, x209, x210, x211, x212, x213, x214, x215], defers := [] } w := by
 simp only [opsOf, Try.f18, opsIn, Option.bind_some, Option.getD_some, Nat.reduceBEq, Bool.false_eq_true, reduceIte, BEq.rfl] at ho_
 subst ho_
 have sOf : ∀ {rs : List Rw} {W : World}, Hp w0 ((gp, .cells #[c0, v0, v1, v2, v3, c5, c6, v4] 75 (0, 0)) :: bsr) rs W → (fun w' : World => w'.cell? ⟨gp, 0, none⟩ = some (c0) ∧ w'.cell? ⟨gp, 1, none⟩ = some (v0) ∧ w'.cell? ⟨gp, 2, none⟩ = some (v1) ∧ w'.cell? ⟨gp, 3, none⟩ = some (v2) ∧ w'.cell? ⟨gp, 4, none⟩ = some (v3) ∧ w'.cell? ⟨gp, 5, none⟩ = some (c5) ∧ w'.cell? ⟨gp, 6, none⟩ = some (c6) ∧ w'.cell? ⟨gp, 7, none⟩ = some (v4)) W := fun h => ⟨(blk_cell (h.var (i := 0) rfl) 0).trans rfl, (blk_cell (h.var (i := 0) rfl) 1).trans rfl, (blk_cell (h.var (i := 0) rfl) 2).trans rfl, (blk_cell (h.var (i := 0) rfl) 3).trans rfl, (blk_cell (h.var (i := 0) rfl) 4).trans rfl, (blk_cell (h.var (i := 0) rfl) 5).trans rfl, (blk_cell (h.var (i := 0) rfl) 6).trans rfl, (blk_cell (h.var (i := 0) rfl) 7).trans rfl⟩
 refine start_ (n := 44) (S := fun w' => w'.cell? ⟨gp, 0, none⟩ = some (c0) ∧ w'.cell? ⟨gp, 1, none⟩ = some (v0) ∧ w'.cell? ⟨gp, 2, none⟩ = some (v1) ∧ w'.cell? ⟨gp, 3, none⟩ = some (v2) ∧ w'.cell? ⟨gp, 4, none⟩ = some (v3) ∧ w'.cell? ⟨gp, 5, none⟩ = some (c5) ∧ w'.cell? ⟨gp, 6, none⟩ = some (c6) ∧ w'.cell? ⟨gp, 7, none⟩ = some (v4)) (ds := [34, 37, 40, 43]) (bm 44 0) (by kernel_rfl) (by kernel_rfl) rfl (sOf H.drew) (fun hHeld => ?_); refine with_tabW measure_New.tab18 measure_New.bits18 (fun HT_ HW_ => ?_)
 replace H := H.drew
 generalize w.drew = w at H hHeld ⊢
 refine pure_ (i := 0) (N := some 114) (v := ?_) (a' := ?_) (bm 44 1) rfl rfl (aO HT_ (by kernel_rfl)) (fun _ _ _ h => hP _ _ _ _ _ h) (Or.inl ⟨by rfl, ?_⟩) ?_ ?_; rotate_left; intro w'; go_simp; with_reducible rfl; rotate_left; simp only [aP, aS, aZ, aC, aW, aX]; rfl
 refine pure_ (i := 1) (N := some 115) (v := ?_) (a' := ?_) (bm 44 3) rfl rfl (aO HT_ (by kernel_rfl)) (fun _ _ _ h => hP _ _ _ _ _ h) (Or.inl ⟨by rfl, ?_⟩) ?_ ?_; rotate_left; intro w'; go_simp; with_reducible rfl; rotate_left; simp only [aP, aS, aZ, aC, aW, aX]; rfl
 refine pure_ (i := 2) (N := some 116) (v := ?_) (a' := ?_) (bm 44 7) rfl rfl (aO HT_ (by kernel_rfl)) (fun _ _ _ h => hP _ _ _ _ _ h) (Or.inl ⟨by rfl, ?_⟩) ?_ ?_; rotate_left; intro w'; go_simp; with_reducible rfl; rotate_left; simp only [aP, aS, aZ, aC, aW, aX]; rfl
 refine pure_ (i := 3) (N := some 117) (v := ?_) (a' := ?_) (bm 44 15) rfl rfl (aO HT_ (by kernel_rfl)) (fun _ _ _ h => hP _ _ _ _ _ h) (Or.inl ⟨by rfl, ?_⟩) ?_ ?_; rotate_left; intro w'; go_simp; with_reducible rfl; rotate_left; simp only [aP, aS, aZ, aC, aW, aX]; rfl
 refine pure_ (i := 4) (N := some 118) (v := ?_) (a' := ?_) (bm 44 31) rfl rfl (aO HT_ (by kernel_rfl)) (fun _ _ _ h => hP _ _ _ _ _ h) (Or.inl ⟨by rfl, ?_⟩) ?_ ?_; rotate_left; intro w'; go_simp; with_reducible rfl; rotate_left; simp only [aP, aS, aZ, aC, aW, aX]; rfl
 refine pure_ (i := 5) (N := some 119) (v := ?_) (a' := ?_) (bm 44 63) rfl rfl (aO HT_ (by kernel_rfl)) (fun _ _ _ h => hP _ _ _ _ _ h) (Or.inl ⟨by rfl, ?_⟩) ?_ ?_; rotate_left; intro w'; go_simp; with_reducible rfl; rotate_left; simp only [aP, aS, aZ, aC, aW, aX]; rfl
 refine pure_ (i := 6) (N := some 120) (v := ?_) (a' := ?_) (bm 44 127) rfl rfl (aO HT_ (by kernel_rfl)) (fun _ _ _ h => hP _ _ _ _ _ h) (Or.inl ⟨by rfl, ?_⟩) ?_ ?_; rotate_left; intro w'; go_simp; with_reducible rfl; rotate_left; simp only [aP, aS, aZ, aC, aW, aX]; rfl
 refine pure_ (i := 8) (N := some 122) (v := ?_) (a' := ?_) (bm 44 383) rfl rfl (aO HT_ (by kernel_rfl)) (fun _ _ _ h => hP _ _ _ _ _ h) (Or.inl ⟨by rfl, ?_⟩) ?_ ?_; rotate_left; intro w'; go_simp; with_reducible rfl; rotate_left; simp only [aP, aS, aZ, aC, aW, aX]; rfl
 refine pure_ (i := 11) (N := some 125) (v := ?_) (a' := ?_) (bm 44 2431) rfl rfl (aO HT_ (by kernel_rfl)) (fun _ _ _ h => hP _ _ _ _ _ h) (Or.inl ⟨by rfl, ?_⟩) ?_ ?_; rotate_left; intro w'; go_simp; with_reducible rfl; rotate_left; simp only [aP, aS, aZ, aC, aW, aX]; rfl
 refine pure_ (i := 12) (N := some 126) (v := ?_) (a' := ?_) (bm 44 6527) rfl rfl (aO HT_ (by kernel_rfl)) (fun _ _ _ h => hP _ _ _ _ _ h) (Or.inl ⟨by rfl, ?_⟩) ?_ ?_; rotate_left; intro w'; go_simp; with_reducible rfl; rotate_left; simp only [aP, aS, aZ, aC, aW, aX]; rfl
 refine pure_ (i := 13) (N := some 127) (v := ?_) (a' := ?_) (bm 44 14719) rfl rfl (aO HT_ (by kernel_rfl)) (fun _ _ _ h => hP _ _ _ _ _ h) (Or.inl ⟨by rfl, ?_⟩) ?_ ?_; rotate_left; intro w'; go_simp; with_reducible rfl; rotate_left; simp only [aP, aS, aZ, aC, aW, aX]; rfl
 refine pure_ (i := 15) (N := some 129) (v := ?_) (a' := ?_) (bm 44 47487) rfl rfl (aO HT_ (by kernel_rfl)) (fun _ _ _ h => hP _ _ _ _ _ h) (Or.inl ⟨by rfl, ?_⟩) ?_ ?_; rotate_left; intro w'; go_simp; with_reducible rfl; rotate_left; simp only [aP, aS, aZ, aC, aW, aX]; rfl
 refine pure_ (i := 18) (N := some 132) (v := ?_) (a' := ?_) (bm 44 309631) rfl rfl (aO HT_ (by kernel_rfl)) (fun _ _ _ h => hP _ _ _ _ _ h) (Or.inl ⟨by rfl, ?_⟩) ?_ ?_; rotate_left; intro w'; go_simp; with_reducible rfl; rotate_left; simp only [aP, aS, aZ, aC, aW, aX]; rfl
 refine pure_ (i := 19) (N := some 133) (v := ?_) (a' := ?_) (bm 44 833919) rfl rfl (aO HT_ (by kernel_rfl)) (fun _ _ _ h => hP _ _ _ _ _ h) (Or.inl ⟨by rfl, ?_⟩) ?_ ?_; rotate_left; intro w'; go_simp; with_reducible rfl; rotate_left; simp only [aP, aS, aZ, aC, aW, aX]; rfl
 refine pure_ (i := 20) (N := some 134) (v := ?_) (a' := ?_) (bm 44 1882495) rfl rfl (aO HT_ (by kernel_rfl)) (fun _ _ _ h => hP _ _ _ _ _ h) (Or.inl ⟨by rfl, ?_⟩) ?_ ?_; rotate_left; intro w'; go_simp; with_reducible rfl; rotate_left; simp only [aP, aS, aZ, aC, aW, aX]; rfl
 refine pure_ (i := 22) (N := some 136) (v := ?_) (a' := ?_) (bm 44 6076799) rfl rfl (aO HT_ (by kernel_rfl)) (fun _ _ _ h => hP _ _ _ _ _ h) (Or.inl ⟨by rfl, ?_⟩) ?_ ?_; rotate_left; intro w'; go_simp; with_reducible rfl; rotate_left; simp only [aP, aS, aZ, aC, aW, aX]; rfl
 refine pure_ (i := 25) (N := some 139) (v := ?_) (a' := ?_) (bm 44 39631231) rfl rfl (aO HT_ (by kernel_rfl)) (fun _ _ _ h => hP _ _ _ _ _ h) (Or.inl ⟨by rfl, ?_⟩) ?_ ?_; rotate_left; intro w'; go_simp; with_reducible rfl; rotate_left; simp only [aP, aS, aZ, aC, aW, aX]; rfl
 refine pure_ (i := 26) (N := some 140) (v := ?_) (a' := ?_) (bm 44 106740095) rfl rfl (aO HT_ (by kernel_rfl)) (fun _ _ _ h => hP _ _ _ _ _ h) (Or.inl ⟨by rfl, ?_⟩) ?_ ?_; rotate_left; intro w'; go_simp; with_reducible rfl; rotate_left; simp only [aP, aS, aZ, aC, aW, aX]; rfl
 refine pure_ (i := 27) (N := some 141) (v := ?_) (a' := ?_) (bm 44 240957823) rfl rfl (aO HT_ (by kernel_rfl)) (fun _ _ _ h => hP _ _ _ _ _ h) (Or.inl ⟨by rfl, ?_⟩) ?_ ?_; rotate_left; intro w'; go_simp; with_reducible rfl; rotate_left; simp only [aP, aS, aZ, aC, aW, aX]; rfl
 refine pure_ (i := 29) (N := some 143) (v := ?_) (a' := ?_) (bm 44 777828735) rfl rfl (aO HT_ (by kernel_rfl)) (fun _ _ _ h => hP _ _ _ _ _ h) (Or.inl ⟨by rfl, ?_⟩) ?_ ?_; rotate_left; intro w'; go_simp; with_reducible rfl; rotate_left; simp only [aP, aS, aZ, aC, aW, aX]; rfl
 refine take_ (i := 7) (N := some 121) (v := ?_) (a' := ?_) (bm 44 777828863) rfl rfl (take_ofW HT_.out HW_.out (by kernel_rfl)) (fun _ _ _ h => hP _ _ _ _ _ h) (Or.inl ⟨by rfl, ?_⟩) hHeld ?_ ?_; rotate_left; rintro w' ⟨s0, s1, s2, s3, s4, s5, s6, s7⟩; go_simp; with_reducible rfl; rotate_left; simp only [aP, aS, aZ, aC, aW, aX]; rfl
 refine take_ (i := 14) (N := some 128) (v := ?_) (a' := ?_) (bm 44 777845247) rfl rfl (take_ofW HT_.out HW_.out (by kernel_rfl)) (fun _ _ _ h => hP _ _ _ _ _ h) (Or.inl ⟨by rfl, ?_⟩) hHeld ?_ ?_; rotate_left; rintro w' ⟨s0, s1, s2, s3, s4, s5, s6, s7⟩; go_simp; with_reducible rfl; rotate_left; simp only [aP, aS, aZ, aC, aW, aX]; rfl
 refine take_ (i := 21) (N := some 135) (v := ?_) (a' := ?_) (bm 44 779942399) rfl rfl (take_ofW HT_.out HW_.out (by kernel_rfl)) (fun _ _ _ h => hP _ _ _ _ _ h) (Or.inl ⟨by rfl, ?_⟩) hHeld ?_ ?_; rotate_left; rintro w' ⟨s0, s1, s2, s3, s4, s5, s6, s7⟩; go_simp; with_reducible rfl; rotate_left; simp only [aP, aS, aZ, aC, aW, aX]; rfl
 refine take_ (i := 28) (N := some 142) (v := ?_) (a' := ?_) (bm 44 1048377855) rfl rfl (take_ofW HT_.out HW_.out (by kernel_rfl)) (fun _ _ _ h => hP _ _ _ _ _ h) (Or.inl ⟨by rfl, ?_⟩) hHeld ?_ ?_; rotate_left; rintro w' ⟨s0, s1, s2, s3, s4, s5, s6, s7⟩; go_simp; with_reducible rfl; rotate_left; simp only [aP, aS, aZ, aC, aW, aX]; rfl
 refine join_ (σ := V8) 12 (bm 44 4294967295) (fun s_ => [(123, s_.1), (130, s_.2.1), (137, s_.2.2.1), (144, s_.2.2.2.1), (124, s_.2.2.2.2.1), (131, s_.2.2.2.2.2.1), (138, s_.2.2.2.2.2.2.1), (145, s_.2.2.2.2.2.2.2)]) (fun s_ w' => Hp w0 ((gp, .cells #[c0, v0, v1, v2, v3, c5, c6, v4] 75 (0, 0)) :: bsr) [rI 3 s_.2.2.2.2.1 (X0 ++ [n0]), rI 3 s_.2.2.2.2.2.1 (X1 ++ [n1]), rI 3 s_.2.2.2.2.2.2.1 (X2 ++ [n2]), rI 3 s_.2.2.2.2.2.2.2 (X3 ++ [n3]), rI 3 v4 X4, rI 3 s_.1 [n0], rI 3 s_.2.1 [n1], rI 3 s_.2.2.1 [n2], rI 3 s_.2.2.2.1 [n3]] w') ?_ ?_
 · rintro ⟨q0, q1, q2, q3, q4, q5, q6, q7⟩ w1 H
   obtain ⟨Aq0, cq0, eq0, _, _⟩ := H.reads (i := 0) rfl
   simp only [List.length_append, List.length_cons, List.length_nil, Nat.zero_add] at eq0
   obtain rfl : q4 = _ := eq0
   obtain ⟨Aq1, cq1, eq1, _, _⟩ := H.reads (i := 1) rfl
   simp only [List.length_append, List.length_cons, List.length_nil, Nat.zero_add] at eq1
   obtain rfl : q5 = _ := eq1
   obtain ⟨Aq2, cq2, eq2, _, _⟩ := H.reads (i := 2) rfl
   simp only [List.length_append, List.length_cons, List.length_nil, Nat.zero_add] at eq2
   obtain rfl : q6 = _ := eq2
   obtain ⟨Aq3, cq3, eq3, _, _⟩ := H.reads (i := 3) rfl
   simp only [List.length_append, List.length_cons, List.length_nil, Nat.zero_add] at eq3
   obtain rfl : q7 = _ := eq3
   refine norm_ (a' := ?_) ?_ ?_
   rotate_left
   · simp only [putAll, aP, aS, aZ, aC]
     rfl
   refine pure_ (i := 32) (N := some 146) (v := ?_) (a' := ?_) (bm 44 8589934591) rfl rfl (aO HT_ (by kernel_rfl)) (fun _ _ _ h => hP _ _ _ _ _ h) (Or.inl ⟨by rfl, ?_⟩) ?_ ?_; rotate_left; intro w'; go_simp; with_reducible rfl; rotate_left; simp only [aP, aS, aZ, aC, aW, aX]; rfl
   refine pure_ (i := 33) (N := some 147) (v := ?_) (a' := ?_) (bm 44 17179869183) rfl rfl (aO HT_ (by kernel_rfl)) (fun _ _ _ h => hP _ _ _ _ _ h) (Or.inl ⟨by rfl, ?_⟩) ?_ ?_; rotate_left; intro w'; go_simp; with_reducible rfl; rotate_left; simp only [aP, aS, aZ, aC, aW, aX]; rfl
   refine last_ (i := 34) (N := none) (bm 44 34359738367) rfl rfl (one_of HT_.out (by kernel_rfl)) (by decide) (fun K hK => ?_)
   have hs0 : w1.cell? ⟨gp, 1, none⟩ = some v0 := (blk_cell (H.var (i := 0) rfl) 1).trans rfl
   have hf0 := blk_frozen (H.var (i := 0) rfl) 1
   refine skip_ (w1 := ?_) (by rfl) rfl ?_ ?_
   rotate_left
   · go_simp
     rfl
   refine hK.out _ _ ?_
   clear hK K hs0 hf0; replace H : Hp w0 ((gp, .cells #[c0, (.slice Aq0 (X0.length + 1) cq0), v1, v2, v3, c5, c6, v4] 75 (0, 0)) :: bsr) _ _ := H.set (i := 0) rfl 1 ((.slice Aq0 (X0.length + 1) cq0))
   generalize w1.setCell ⟨gp, 1, none⟩ ((.slice Aq0 (X0.length + 1) cq0)) = w1 at H ⊢
   refine pure_ (i := 35) (N := some 148) (v := ?_) (a' := ?_) (bm 44 68719476735) rfl rfl (aO HT_ (by kernel_rfl)) (fun _ _ _ h => hP _ _ _ _ _ h) (Or.inl ⟨by rfl, ?_⟩) ?_ ?_; rotate_left; intro w'; go_simp; with_reducible rfl; rotate_left; simp only [aP, aS, aZ, aC, aW, aX]; rfl
   refine pure_ (i := 36) (N := some 149) (v := ?_) (a' := ?_) (bm 44 137438953471) rfl rfl (aO HT_ (by kernel_rfl)) (fun _ _ _ h => hP _ _ _ _ _ h) (Or.inl ⟨by rfl, ?_⟩) ?_ ?_; rotate_left; intro w'; go_simp; with_reducible rfl; rotate_left; simp only [aP, aS, aZ, aC, aW, aX]; rfl
   refine last_ (i := 37) (N := none) (bm 44 274877906943) rfl rfl (one_of HT_.out (by kernel_rfl)) (by decide) (fun K hK => ?_)
   have hs1 : w1.cell? ⟨gp, 2, none⟩ = some v1 := (blk_cell (H.var (i := 0) rfl) 2).trans rfl
   have hf1 := blk_frozen (H.var (i := 0) rfl) 2
   refine skip_ (w1 := ?_) (by rfl) rfl ?_ ?_
   rotate_left
   · go_simp
     rfl
   refine hK.out _ _ ?_
   clear hK K hs1 hf1; replace H : Hp w0 ((gp, .cells #[c0, (.slice Aq0 (X0.length + 1) cq0), (.slice Aq1 (X1.length + 1) cq1), v2, v3, c5, c6, v4] 75 (0, 0)) :: bsr) _ _ := H.set (i := 0) rfl 2 ((.slice Aq1 (X1.length + 1) cq1))
   generalize w1.setCell ⟨gp, 2, none⟩ ((.slice Aq1 (X1.length + 1) cq1)) = w1 at H ⊢
   refine pure_ (i := 38) (N := some 150) (v := ?_) (a' := ?_) (bm 44 549755813887) rfl rfl (aO HT_ (by kernel_rfl)) (fun _ _ _ h => hP _ _ _ _ _ h) (Or.inl ⟨by rfl, ?_⟩) ?_ ?_; rotate_left; intro w'; go_simp; with_reducible rfl; rotate_left; simp only [aP, aS, aZ, aC, aW, aX]; rfl
   refine pure_ (i := 39) (N := some 151) (v := ?_) (a' := ?_) (bm 44 1099511627775) rfl rfl (aO HT_ (by kernel_rfl)) (fun _ _ _ h => hP _ _ _ _ _ h) (Or.inl ⟨by rfl, ?_⟩) ?_ ?_; rotate_left; intro w'; go_simp; with_reducible rfl; rotate_left; simp only [aP, aS, aZ, aC, aW, aX]; rfl
   refine last_ (i := 40) (N := none) (bm 44 2199023255551) rfl rfl (one_of HT_.out (by kernel_rfl)) (by decide) (fun K hK => ?_)
   have hs2 : w1.cell? ⟨gp, 3, none⟩ = some v2 := (blk_cell (H.var (i := 0) rfl) 3).trans rfl
   have hf2 := blk_frozen (H.var (i := 0) rfl) 3
   refine skip_ (w1 := ?_) (by rfl) rfl ?_ ?_
   rotate_left
   · go_simp
     rfl
   refine hK.out _ _ ?_
   clear hK K hs2 hf2; replace H : Hp w0 ((gp, .cells #[c0, (.slice Aq0 (X0.length + 1) cq0), (.slice Aq1 (X1.length + 1) cq1), (.slice Aq2 (X2.length + 1) cq2), v3, c5, c6, v4] 75 (0, 0)) :: bsr) _ _ := H.set (i := 0) rfl 3 ((.slice Aq2 (X2.length + 1) cq2))
   generalize w1.setCell ⟨gp, 3, none⟩ ((.slice Aq2 (X2.length + 1) cq2)) = w1 at H ⊢
   refine pure_ (i := 41) (N := some 152) (v := ?_) (a' := ?_) (bm 44 4398046511103) rfl rfl (aO HT_ (by kernel_rfl)) (fun _ _ _ h => hP _ _ _ _ _ h) (Or.inl ⟨by rfl, ?_⟩) ?_ ?_; rotate_left; intro w'; go_simp; with_reducible rfl; rotate_left; simp only [aP, aS, aZ, aC, aW, aX]; rfl
   refine pure_ (i := 42) (N := some 153) (v := ?_) (a' := ?_) (bm 44 8796093022207) rfl rfl (aO HT_ (by kernel_rfl)) (fun _ _ _ h => hP _ _ _ _ _ h) (Or.inl ⟨by rfl, ?_⟩) ?_ ?_; rotate_left; intro w'; go_simp; with_reducible rfl; rotate_left; simp only [aP, aS, aZ, aC, aW, aX]; rfl
   refine last_ (i := 43) (N := none) (bm 44 17592186044415) rfl rfl (one_of HT_.out (by kernel_rfl)) (by decide) (fun K hK => ?_)
   have hs3 : w1.cell? ⟨gp, 4, none⟩ = some v3 := (blk_cell (H.var (i := 0) rfl) 4).trans rfl
   have hf3 := blk_frozen (H.var (i := 0) rfl) 4
   refine skip_ (w1 := ?_) (by rfl) rfl ?_ ?_
   rotate_left
   · go_simp
     rfl
   refine hK.out _ _ ?_
   clear hK K hs3 hf3; replace H : Hp w0 ((gp, .cells #[c0, (.slice Aq0 (X0.length + 1) cq0), (.slice Aq1 (X1.length + 1) cq1), (.slice Aq2 (X2.length + 1) cq2), (.slice Aq3 (X3.length + 1) cq3), c5, c6, v4] 75 (0, 0)) :: bsr) _ _ := H.set (i := 0) rfl 4 ((.slice Aq3 (X3.length + 1) cq3))
   generalize w1.setCell ⟨gp, 4, none⟩ ((.slice Aq3 (X3.length + 1) cq3)) = w1 at H ⊢
   refine done_ (done_of HT_.out (by kernel_rfl)) ?_
   exact hQ _ _ _ _ _ _ _ _ _ _ _ _ _ _ _ _ _ _ _ _ _ _ _ _ _ _ _ _ _ _ _ _ _ _ _ _ _ _ _ _ _ _ _ _ _ (H.rows 5)
 intro hJ4_0123
 refine join_ (σ := V8) 13 (bm 44 2147483647) (fun s_ => [(123, s_.1), (130, s_.2.1), (137, s_.2.2.1), (144, s_.2.2.2.1), (124, s_.2.2.2.2.1), (131, s_.2.2.2.2.2.1), (138, s_.2.2.2.2.2.2.1)]) (fun s_ w' => Hp w0 ((gp, .cells #[c0, v0, v1, v2, v3, c5, c6, v4] 75 (0, 0)) :: bsr) [rI 3 s_.2.2.2.2.1 (X0 ++ [n0]), rI 3 s_.2.2.2.2.2.1 (X1 ++ [n1]), rI 3 s_.2.2.2.2.2.2.1 (X2 ++ [n2]), rI 3 v3 X3, rI 3 v4 X4, rI 3 s_.1 [n0], rI 3 s_.2.1 [n1], rI 3 s_.2.2.1 [n2], rI 3 s_.2.2.2.1 [n3]] w') ?_ ?_
 · intro s_ w1 H
   refine norm_ (a' := ?_) ?_ ?_
   rotate_left
   · simp only [putAll, aP, aS, aZ, aC]
     rfl
   refine one_ (i := 31) (N := some 145) (bm 44 4294967295) rfl rfl (one_of HT_.out (by kernel_rfl)) (by decide) (fun K hK => ?_)
   · refine H.app_step (i := 3) (j := 8) rfl rfl ?hg (.tmp 142) (.tmp 144) 48 ?ho Try.underlying48 measure_New.infoI ?hs ?hx ?hl (N := 145) ?hd ?_; (case hd => rfl); (case hg => rfl); (case ho => rfl); (case hs => rfl); (case hx => rfl); (case hl => simp; omega)
     intro v_ w1 H1; exact hK.out _ _ (sOf H1) (fun _ => norm_ (by simp only [putAll, aP, aS, aZ, aC]) (hJ4_0123 (s_.1, s_.2.1, s_.2.2.1, s_.2.2.2.1, s_.2.2.2.2.1, s_.2.2.2.2.2.1, s_.2.2.2.2.2.2.1, v_) w1 H1))
 intro hJ3_0123
 refine join_ (σ := V8) 14 (bm 44 2130706431) (fun s_ => [(123, s_.1), (130, s_.2.1), (137, s_.2.2.1), (144, s_.2.2.2.1), (124, s_.2.2.2.2.1), (131, s_.2.2.2.2.2.1)]) (fun s_ w' => Hp w0 ((gp, .cells #[c0, v0, v1, v2, v3, c5, c6, v4] 75 (0, 0)) :: bsr) [rI 3 s_.2.2.2.2.1 (X0 ++ [n0]), rI 3 s_.2.2.2.2.2.1 (X1 ++ [n1]), rI 3 v2 X2, rI 3 v3 X3, rI 3 v4 X4, rI 3 s_.1 [n0], rI 3 s_.2.1 [n1], rI 3 s_.2.2.1 [n2], rI 3 s_.2.2.2.1 [n3]] w') ?_ ?_
 · intro s_ w1 H
   refine norm_ (a' := ?_) ?_ ?_
   rotate_left
   · simp only [putAll, aP, aS, aZ, aC]
     rfl
   refine one_ (i := 24) (N := some 138) (bm 44 2147483647) rfl rfl (one_of HT_.out (by kernel_rfl)) (by decide) (fun K hK => ?_)
   · refine H.app_step (i := 2) (j := 7) rfl rfl ?hg (.tmp 135) (.tmp 137) 48 ?ho Try.underlying48 measure_New.infoI ?hs ?hx ?hl (N := 138) ?hd ?_; (case hd => rfl); (case hg => rfl); (case ho => rfl); (case hs => rfl); (case hx => rfl); (case hl => simp; omega)
     intro v_ w1 H1; exact hK.out _ _ (sOf H1) (fun _ => norm_ (by simp only [putAll, aP, aS, aZ, aC]) (hJ3_0123 (s_.1, s_.2.1, s_.2.2.1, s_.2.2.2.1, s_.2.2.2.2.1, s_.2.2.2.2.2.1, v_, s_.2.2.2.2.2.2.2) w1 H1))
 intro hJ2_0123
 refine join_ (σ := V8) 14 (bm 44 1073741823) (fun s_ => [(123, s_.1), (130, s_.2.1), (137, s_.2.2.1), (124, s_.2.2.2.2.1), (131, s_.2.2.2.2.2.1), (138, s_.2.2.2.2.2.2.1)]) (fun s_ w' => Hp w0 ((gp, .cells #[c0, v0, v1, v2, v3, c5, c6, v4] 75 (0, 0)) :: bsr) [rI 3 s_.2.2.2.2.1 (X0 ++ [n0]), rI 3 s_.2.2.2.2.2.1 (X1 ++ [n1]), rI 3 s_.2.2.2.2.2.2.1 (X2 ++ [n2]), rI 3 v3 X3, rI 3 v4 X4, rI 3 s_.1 [n0], rI 3 s_.2.1 [n1], rI 3 s_.2.2.1 [n2], rN 3] w') ?_ ?_
 · intro s_ w1 H
   refine norm_ (a' := ?_) ?_ ?_
   rotate_left
   · simp only [putAll, aP, aS, aZ, aC]
     rfl
   refine one_ (i := 30) (N := some 144) (bm 44 2147483647) rfl rfl (one_of HT_.out (by kernel_rfl)) (by decide) (fun K hK => ?_)
   · refine H.lit_step 8 3 ?hg (N := 144) ?hd (n := n3) ?hr ?_; (case hd => rfl); (case hg => rfl); (case hr => first | (go_simp; done) | (go_simp; rfl))
     intro v_ w1 H1; exact hK.out _ _ (sOf H1) (fun _ => norm_ (by simp only [putAll, aP, aS, aZ, aC]) (hJ3_0123 (s_.1, s_.2.1, s_.2.2.1, v_, s_.2.2.2.2.1, s_.2.2.2.2.2.1, s_.2.2.2.2.2.2.1, s_.2.2.2.2.2.2.2) w1 H1))
 intro hJ3_012
 refine join_ (σ := V8) 15 (bm 44 2130575359) (fun s_ => [(123, s_.1), (130, s_.2.1), (137, s_.2.2.1), (144, s_.2.2.2.1), (124, s_.2.2.2.2.1)]) (fun s_ w' => Hp w0 ((gp, .cells #[c0, v0, v1, v2, v3, c5, c6, v4] 75 (0, 0)) :: bsr) [rI 3 s_.2.2.2.2.1 (X0 ++ [n0]), rI 3 v1 X1, rI 3 v2 X2, rI 3 v3 X3, rI 3 v4 X4, rI 3 s_.1 [n0], rI 3 s_.2.1 [n1], rI 3 s_.2.2.1 [n2], rI 3 s_.2.2.2.1 [n3]] w') ?_ ?_
 · intro s_ w1 H
   refine norm_ (a' := ?_) ?_ ?_
   rotate_left
   · simp only [putAll, aP, aS, aZ, aC]
     rfl
   refine one_ (i := 17) (N := some 131) (bm 44 2130706431) rfl rfl (one_of HT_.out (by kernel_rfl)) (by decide) (fun K hK => ?_)
   · refine H.app_step (i := 1) (j := 6) rfl rfl ?hg (.tmp 128) (.tmp 130) 48 ?ho Try.underlying48 measure_New.infoI ?hs ?hx ?hl (N := 131) ?hd ?_; (case hd => rfl); (case hg => rfl); (case ho => rfl); (case hs => rfl); (case hx => rfl); (case hl => simp; omega)
     intro v_ w1 H1; exact hK.out _ _ (sOf H1) (fun _ => norm_ (by simp only [putAll, aP, aS, aZ, aC]) (hJ2_0123 (s_.1, s_.2.1, s_.2.2.1, s_.2.2.2.1, s_.2.2.2.2.1, v_, s_.2.2.2.2.2.2.1, s_.2.2.2.2.2.2.2) w1 H1))
 intro hJ1_0123
 refine join_ (σ := V8) 15 (bm 44 1056964607) (fun s_ => [(123, s_.1), (130, s_.2.1), (137, s_.2.2.1), (124, s_.2.2.2.2.1), (131, s_.2.2.2.2.2.1)]) (fun s_ w' => Hp w0 ((gp, .cells #[c0, v0, v1, v2, v3, c5, c6, v4] 75 (0, 0)) :: bsr) [rI 3 s_.2.2.2.2.1 (X0 ++ [n0]), rI 3 s_.2.2.2.2.2.1 (X1 ++ [n1]), rI 3 v2 X2, rI 3 v3 X3, rI 3 v4 X4, rI 3 s_.1 [n0], rI 3 s_.2.1 [n1], rI 3 s_.2.2.1 [n2], rN 3] w') ?_ ?_
 · intro s_ w1 H
   refine norm_ (a' := ?_) ?_ ?_
   rotate_left
   · simp only [putAll, aP, aS, aZ, aC]
     rfl
   refine two_ (i := 24) (j := 30) (Ni := some 138) (Nj := some 144) (bm 44 1073741823) (bm 44 2130706431) rfl rfl rfl rfl (two_of HT_.out (by kernel_rfl)) (by decide) (by decide) (fun K hK => ?_) (fun K hK => ?_)
   · refine H.app_step (i := 2) (j := 7) rfl rfl ?hg (.tmp 135) (.tmp 137) 48 ?ho Try.underlying48 measure_New.infoI ?hs ?hx ?hl (N := 138) ?hd ?_; (case hd => rfl); (case hg => rfl); (case ho => rfl); (case hs => rfl); (case hx => rfl); (case hl => simp; omega)
     intro v_ w1 H1; exact hK.out _ _ (sOf H1) (fun _ => norm_ (by simp only [putAll, aP, aS, aZ, aC]) (hJ3_012 (s_.1, s_.2.1, s_.2.2.1, s_.2.2.2.1, s_.2.2.2.2.1, s_.2.2.2.2.2.1, v_, s_.2.2.2.2.2.2.2) w1 H1))
   · refine H.lit_step 8 3 ?hg (N := 144) ?hd (n := n3) ?hr ?_; (case hd => rfl); (case hg => rfl); (case hr => first | (go_simp; done) | (go_simp; rfl))
     intro v_ w1 H1; exact hK.out _ _ (sOf H1) (fun _ => norm_ (by simp only [putAll, aP, aS, aZ, aC]) (hJ2_0123 (s_.1, s_.2.1, s_.2.2.1, v_, s_.2.2.2.2.1, s_.2.2.2.2.2.1, s_.2.2.2.2.2.2.1, s_.2.2.2.2.2.2.2) w1 H1))
 intro hJ2_012
 refine join_ (σ := V8) 15 (bm 44 2122317823) (fun s_ => [(123, s_.1), (130, s_.2.1), (144, s_.2.2.2.1), (124, s_.2.2.2.2.1), (131, s_.2.2.2.2.2.1)]) (fun s_ w' => Hp w0 ((gp, .cells #[c0, v0, v1, v2, v3, c5, c6, v4] 75 (0, 0)) :: bsr) [rI 3 s_.2.2.2.2.1 (X0 ++ [n0]), rI 3 s_.2.2.2.2.2.1 (X1 ++ [n1]), rI 3 v2 X2, rI 3 v3 X3, rI 3 v4 X4, rI 3 s_.1 [n0], rI 3 s_.2.1 [n1], rN 3, rI 3 s_.2.2.2.1 [n3]] w') ?_ ?_
 · intro s_ w1 H
   refine norm_ (a' := ?_) ?_ ?_
   rotate_left
   · simp only [putAll, aP, aS, aZ, aC]
     rfl
   refine one_ (i := 23) (N := some 137) (bm 44 2130706431) rfl rfl (one_of HT_.out (by kernel_rfl)) (by decide) (fun K hK => ?_)
   · refine H.lit_step 7 3 ?hg (N := 137) ?hd (n := n2) ?hr ?_; (case hd => rfl); (case hg => rfl); (case hr => first | (go_simp; done) | (go_simp; rfl))
     intro v_ w1 H1; exact hK.out _ _ (sOf H1) (fun _ => norm_ (by simp only [putAll, aP, aS, aZ, aC]) (hJ2_0123 (s_.1, s_.2.1, v_, s_.2.2.2.1, s_.2.2.2.2.1, s_.2.2.2.2.2.1, s_.2.2.2.2.2.2.1, s_.2.2.2.2.2.2.2) w1 H1))
 intro hJ2_013
 refine join_ (σ := V8) 16 (bm 44 2130574335) (fun s_ => [(123, s_.1), (130, s_.2.1), (137, s_.2.2.1), (144, s_.2.2.2.1)]) (fun s_ w' => Hp w0 ((gp, .cells #[c0, v0, v1, v2, v3, c5, c6, v4] 75 (0, 0)) :: bsr) [rI 3 v0 X0, rI 3 v1 X1, rI 3 v2 X2, rI 3 v3 X3, rI 3 v4 X4, rI 3 s_.1 [n0], rI 3 s_.2.1 [n1], rI 3 s_.2.2.1 [n2], rI 3 s_.2.2.2.1 [n3]] w') ?_ ?_
 · intro s_ w1 H
   refine norm_ (a' := ?_) ?_ ?_
   rotate_left
   · simp only [putAll, aP, aS, aZ, aC]
     rfl
   refine one_ (i := 10) (N := some 124) (bm 44 2130575359) rfl rfl (one_of HT_.out (by kernel_rfl)) (by decide) (fun K hK => ?_)
   · refine H.app_step (i := 0) (j := 5) rfl rfl ?hg (.tmp 121) (.tmp 123) 48 ?ho Try.underlying48 measure_New.infoI ?hs ?hx ?hl (N := 124) ?hd ?_; (case hd => rfl); (case hg => rfl); (case ho => rfl); (case hs => rfl); (case hx => rfl); (case hl => simp; omega)
     intro v_ w1 H1; exact hK.out _ _ (sOf H1) (fun _ => norm_ (by simp only [putAll, aP, aS, aZ, aC]) (hJ1_0123 (s_.1, s_.2.1, s_.2.2.1, s_.2.2.2.1, v_, s_.2.2.2.2.2.1, s_.2.2.2.2.2.2.1, s_.2.2.2.2.2.2.2) w1 H1))
 intro hJ0_0123
 refine join_ (σ := V8) 16 (bm 44 1056833535) (fun s_ => [(123, s_.1), (130, s_.2.1), (137, s_.2.2.1), (124, s_.2.2.2.2.1)]) (fun s_ w' => Hp w0 ((gp, .cells #[c0, v0, v1, v2, v3, c5, c6, v4] 75 (0, 0)) :: bsr) [rI 3 s_.2.2.2.2.1 (X0 ++ [n0]), rI 3 v1 X1, rI 3 v2 X2, rI 3 v3 X3, rI 3 v4 X4, rI 3 s_.1 [n0], rI 3 s_.2.1 [n1], rI 3 s_.2.2.1 [n2], rN 3] w') ?_ ?_
 · intro s_ w1 H
   refine norm_ (a' := ?_) ?_ ?_
   rotate_left
   · simp only [putAll, aP, aS, aZ, aC]
     rfl
   refine two_ (i := 17) (j := 30) (Ni := some 131) (Nj := some 144) (bm 44 1056964607) (bm 44 2130575359) rfl rfl rfl rfl (two_of HT_.out (by kernel_rfl)) (by decide) (by decide) (fun K hK => ?_) (fun K hK => ?_)
   · refine H.app_step (i := 1) (j := 6) rfl rfl ?hg (.tmp 128) (.tmp 130) 48 ?ho Try.underlying48 measure_New.infoI ?hs ?hx ?hl (N := 131) ?hd ?_; (case hd => rfl); (case hg => rfl); (case ho => rfl); (case hs => rfl); (case hx => rfl); (case hl => simp; omega)
     intro v_ w1 H1; exact hK.out _ _ (sOf H1) (fun _ => norm_ (by simp only [putAll, aP, aS, aZ, aC]) (hJ2_012 (s_.1, s_.2.1, s_.2.2.1, s_.2.2.2.1, s_.2.2.2.2.1, v_, s_.2.2.2.2.2.2.1, s_.2.2.2.2.2.2.2) w1 H1))
   · refine H.lit_step 8 3 ?hg (N := 144) ?hd (n := n3) ?hr ?_; (case hd => rfl); (case hg => rfl); (case hr => first | (go_simp; done) | (go_simp; rfl))
     intro v_ w1 H1; exact hK.out _ _ (sOf H1) (fun _ => norm_ (by simp only [putAll, aP, aS, aZ, aC]) (hJ1_0123 (s_.1, s_.2.1, s_.2.2.1, v_, s_.2.2.2.2.1, s_.2.2.2.2.2.1, s_.2.2.2.2.2.2.1, s_.2.2.2.2.2.2.2) w1 H1))
 intro hJ1_012
 refine join_ (σ := V8) 16 (bm 44 2122186751) (fun s_ => [(123, s_.1), (130, s_.2.1), (144, s_.2.2.2.1), (124, s_.2.2.2.2.1)]) (fun s_ w' => Hp w0 ((gp, .cells #[c0, v0, v1, v2, v3, c5, c6, v4] 75 (0, 0)) :: bsr) [rI 3 s_.2.2.2.2.1 (X0 ++ [n0]), rI 3 v1 X1, rI 3 v2 X2, rI 3 v3 X3, rI 3 v4 X4, rI 3 s_.1 [n0], rI 3 s_.2.1 [n1], rN 3, rI 3 s_.2.2.2.1 [n3]] w') ?_ ?_
 · intro s_ w1 H
   refine norm_ (a' := ?_) ?_ ?_
   rotate_left
   · simp only [putAll, aP, aS, aZ, aC]
     rfl
   refine two_ (i := 17) (j := 23) (Ni := some 131) (Nj := some 137) (bm 44 2122317823) (bm 44 2130575359) rfl rfl rfl rfl (two_of HT_.out (by kernel_rfl)) (by decide) (by decide) (fun K hK => ?_) (fun K hK => ?_)
   · refine H.app_step (i := 1) (j := 6) rfl rfl ?hg (.tmp 128) (.tmp 130) 48 ?ho Try.underlying48 measure_New.infoI ?hs ?hx ?hl (N := 131) ?hd ?_; (case hd => rfl); (case hg => rfl); (case ho => rfl); (case hs => rfl); (case hx => rfl); (case hl => simp; omega)
     intro v_ w1 H1; exact hK.out _ _ (sOf H1) (fun _ => norm_ (by simp only [putAll, aP, aS, aZ, aC]) (hJ2_013 (s_.1, s_.2.1, s_.2.2.1, s_.2.2.2.1, s_.2.2.2.2.1, v_, s_.2.2.2.2.2.2.1, s_.2.2.2.2.2.2.2) w1 H1))
   · refine H.lit_step 7 3 ?hg (N := 137) ?hd (n := n2) ?hr ?_; (case hd => rfl); (case hg => rfl); (case hr => first | (go_simp; done) | (go_simp; rfl))
     intro v_ w1 H1; exact hK.out _ _ (sOf H1) (fun _ => norm_ (by simp only [putAll, aP, aS, aZ, aC]) (hJ1_0123 (s_.1, s_.2.1, v_, s_.2.2.2.1, s_.2.2.2.2.1, s_.2.2.2.2.2.1, s_.2.2.2.2.2.2.1, s_.2.2.2.2.2.2.2) w1 H1))
 intro hJ1_013
 refine join_ (σ := V8) 16 (bm 44 2130509823) (fun s_ => [(123, s_.1), (137, s_.2.2.1), (144, s_.2.2.2.1), (124, s_.2.2.2.2.1)]) (fun s_ w' => Hp w0 ((gp, .cells #[c0, v0, v1, v2, v3, c5, c6, v4] 75 (0, 0)) :: bsr) [rI 3 s_.2.2.2.2.1 (X0 ++ [n0]), rI 3 v1 X1, rI 3 v2 X2, rI 3 v3 X3, rI 3 v4 X4, rI 3 s_.1 [n0], rN 3, rI 3 s_.2.2.1 [n2], rI 3 s_.2.2.2.1 [n3]] w') ?_ ?_
 · intro s_ w1 H
   refine norm_ (a' := ?_) ?_ ?_
   rotate_left
   · simp only [putAll, aP, aS, aZ, aC]
     rfl
   refine one_ (i := 16) (N := some 130) (bm 44 2130575359) rfl rfl (one_of HT_.out (by kernel_rfl)) (by decide) (fun K hK => ?_)
   · refine H.lit_step 6 3 ?hg (N := 130) ?hd (n := n1) ?hr ?_; (case hd => rfl); (case hg => rfl); (case hr => first | (go_simp; done) | (go_simp; rfl))
     intro v_ w1 H1; exact hK.out _ _ (sOf H1) (fun _ => norm_ (by simp only [putAll, aP, aS, aZ, aC]) (hJ1_0123 (s_.1, v_, s_.2.2.1, s_.2.2.2.1, s_.2.2.2.2.1, s_.2.2.2.2.2.1, s_.2.2.2.2.2.2.1, s_.2.2.2.2.2.2.2) w1 H1))
 intro hJ1_023
 refine join_ (σ := V8) 16 (bm 44 1048575999) (fun s_ => [(123, s_.1), (130, s_.2.1), (124, s_.2.2.2.2.1), (131, s_.2.2.2.2.2.1)]) (fun s_ w' => Hp w0 ((gp, .cells #[c0, v0, v1, v2, v3, c5, c6, v4] 75 (0, 0)) :: bsr) [rI 3 s_.2.2.2.2.1 (X0 ++ [n0]), rI 3 s_.2.2.2.2.2.1 (X1 ++ [n1]), rI 3 v2 X2, rI 3 v3 X3, rI 3 v4 X4, rI 3 s_.1 [n0], rI 3 s_.2.1 [n1], rN 3, rN 3] w') ?_ ?_
 · intro s_ w1 H
   refine norm_ (a' := ?_) ?_ ?_
   rotate_left
   · simp only [putAll, aP, aS, aZ, aC]
     rfl
   refine two_ (i := 23) (j := 30) (Ni := some 137) (Nj := some 144) (bm 44 1056964607) (bm 44 2122317823) rfl rfl rfl rfl (two_of HT_.out (by kernel_rfl)) (by decide) (by decide) (fun K hK => ?_) (fun K hK => ?_)
   · refine H.lit_step 7 3 ?hg (N := 137) ?hd (n := n2) ?hr ?_; (case hd => rfl); (case hg => rfl); (case hr => first | (go_simp; done) | (go_simp; rfl))
     intro v_ w1 H1; exact hK.out _ _ (sOf H1) (fun _ => norm_ (by simp only [putAll, aP, aS, aZ, aC]) (hJ2_012 (s_.1, s_.2.1, v_, s_.2.2.2.1, s_.2.2.2.2.1, s_.2.2.2.2.2.1, s_.2.2.2.2.2.2.1, s_.2.2.2.2.2.2.2) w1 H1))
   · refine H.lit_step 8 3 ?hg (N := 144) ?hd (n := n3) ?hr ?_; (case hd => rfl); (case hg => rfl); (case hr => first | (go_simp; done) | (go_simp; rfl))
     intro v_ w1 H1; exact hK.out _ _ (sOf H1) (fun _ => norm_ (by simp only [putAll, aP, aS, aZ, aC]) (hJ2_013 (s_.1, s_.2.1, s_.2.2.1, v_, s_.2.2.2.2.1, s_.2.2.2.2.2.1, s_.2.2.2.2.2.2.1, s_.2.2.2.2.2.2.2) w1 H1))
 intro hJ2_01
 refine join_ (σ := V8) 17 (bm 44 1056832511) (fun s_ => [(123, s_.1), (130, s_.2.1), (137, s_.2.2.1)]) (fun s_ w' => Hp w0 ((gp, .cells #[c0, v0, v1, v2, v3, c5, c6, v4] 75 (0, 0)) :: bsr) [rI 3 v0 X0, rI 3 v1 X1, rI 3 v2 X2, rI 3 v3 X3, rI 3 v4 X4, rI 3 s_.1 [n0], rI 3 s_.2.1 [n1], rI 3 s_.2.2.1 [n2], rN 3] w') ?_ ?_
 · intro s_ w1 H
   refine norm_ (a' := ?_) ?_ ?_
   rotate_left
   · simp only [putAll, aP, aS, aZ, aC]
     rfl
   refine two_ (i := 10) (j := 30) (Ni := some 124) (Nj := some 144) (bm 44 1056833535) (bm 44 2130574335) rfl rfl rfl rfl (two_of HT_.out (by kernel_rfl)) (by decide) (by decide) (fun K hK => ?_) (fun K hK => ?_)
   · refine H.app_step (i := 0) (j := 5) rfl rfl ?hg (.tmp 121) (.tmp 123) 48 ?ho Try.underlying48 measure_New.infoI ?hs ?hx ?hl (N := 124) ?hd ?_; (case hd => rfl); (case hg => rfl); (case ho => rfl); (case hs => rfl); (case hx => rfl); (case hl => simp; omega)
     intro v_ w1 H1; exact hK.out _ _ (sOf H1) (fun _ => norm_ (by simp only [putAll, aP, aS, aZ, aC]) (hJ1_012 (s_.1, s_.2.1, s_.2.2.1, s_.2.2.2.1, v_, s_.2.2.2.2.2.1, s_.2.2.2.2.2.2.1, s_.2.2.2.2.2.2.2) w1 H1))
   · refine H.lit_step 8 3 ?hg (N := 144) ?hd (n := n3) ?hr ?_; (case hd => rfl); (case hg => rfl); (case hr => first | (go_simp; done) | (go_simp; rfl))
     intro v_ w1 H1; exact hK.out _ _ (sOf H1) (fun _ => norm_ (by simp only [putAll, aP, aS, aZ, aC]) (hJ0_0123 (s_.1, s_.2.1, s_.2.2.1, v_, s_.2.2.2.2.1, s_.2.2.2.2.2.1, s_.2.2.2.2.2.2.1, s_.2.2.2.2.2.2.2) w1 H1))
 intro hJ0_012
 refine join_ (σ := V8) 17 (bm 44 2122185727) (fun s_ => [(123, s_.1), (130, s_.2.1), (144, s_.2.2.2.1)]) (fun s_ w' => Hp w0 ((gp, .cells #[c0, v0, v1, v2, v3, c5, c6, v4] 75 (0, 0)) :: bsr) [rI 3 v0 X0, rI 3 v1 X1, rI 3 v2 X2, rI 3 v3 X3, rI 3 v4 X4, rI 3 s_.1 [n0], rI 3 s_.2.1 [n1], rN 3, rI 3 s_.2.2.2.1 [n3]] w') ?_ ?_
 · intro s_ w1 H
   refine norm_ (a' := ?_) ?_ ?_
   rotate_left
   · simp only [putAll, aP, aS, aZ, aC]
     rfl
   refine two_ (i := 10) (j := 23) (Ni := some 124) (Nj := some 137) (bm 44 2122186751) (bm 44 2130574335) rfl rfl rfl rfl (two_of HT_.out (by kernel_rfl)) (by decide) (by decide) (fun K hK => ?_) (fun K hK => ?_)
   · refine H.app_step (i := 0) (j := 5) rfl rfl ?hg (.tmp 121) (.tmp 123) 48 ?ho Try.underlying48 measure_New.infoI ?hs ?hx ?hl (N := 124) ?hd ?_; (case hd => rfl); (case hg => rfl); (case ho => rfl); (case hs => rfl); (case hx => rfl); (case hl => simp; omega)
     intro v_ w1 H1; exact hK.out _ _ (sOf H1) (fun _ => norm_ (by simp only [putAll, aP, aS, aZ, aC]) (hJ1_013 (s_.1, s_.2.1, s_.2.2.1, s_.2.2.2.1, v_, s_.2.2.2.2.2.1, s_.2.2.2.2.2.2.1, s_.2.2.2.2.2.2.2) w1 H1))
   · refine H.lit_step 7 3 ?hg (N := 137) ?hd (n := n2) ?hr ?_; (case hd => rfl); (case hg => rfl); (case hr => first | (go_simp; done) | (go_simp; rfl))
     intro v_ w1 H1; exact hK.out _ _ (sOf H1) (fun _ => norm_ (by simp only [putAll, aP, aS, aZ, aC]) (hJ0_0123 (s_.1, s_.2.1, v_, s_.2.2.2.1, s_.2.2.2.2.1, s_.2.2.2.2.2.1, s_.2.2.2.2.2.2.1, s_.2.2.2.2.2.2.2) w1 H1))
 intro hJ0_013
 refine join_ (σ := V8) 17 (bm 44 2130508799) (fun s_ => [(123, s_.1), (137, s_.2.2.1), (144, s_.2.2.2.1)]) (fun s_ w' => Hp w0 ((gp, .cells #[c0, v0, v1, v2, v3, c5, c6, v4] 75 (0, 0)) :: bsr) [rI 3 v0 X0, rI 3 v1 X1, rI 3 v2 X2, rI 3 v3 X3, rI 3 v4 X4, rI 3 s_.1 [n0], rN 3, rI 3 s_.2.2.1 [n2], rI 3 s_.2.2.2.1 [n3]] w') ?_ ?_
 · intro s_ w1 H
   refine norm_ (a' := ?_) ?_ ?_
   rotate_left
   · simp only [putAll, aP, aS, aZ, aC]
     rfl
   refine two_ (i := 10) (j := 16) (Ni := some 124) (Nj := some 130) (bm 44 2130509823) (bm 44 2130574335) rfl rfl rfl rfl (two_of HT_.out (by kernel_rfl)) (by decide) (by decide) (fun K hK => ?_) (fun K hK => ?_)
   · refine H.app_step (i := 0) (j := 5) rfl rfl ?hg (.tmp 121) (.tmp 123) 48 ?ho Try.underlying48 measure_New.infoI ?hs ?hx ?hl (N := 124) ?hd ?_; (case hd => rfl); (case hg => rfl); (case ho => rfl); (case hs => rfl); (case hx => rfl); (case hl => simp; omega)
     intro v_ w1 H1; exact hK.out _ _ (sOf H1) (fun _ => norm_ (by simp only [putAll, aP, aS, aZ, aC]) (hJ1_023 (s_.1, s_.2.1, s_.2.2.1, s_.2.2.2.1, v_, s_.2.2.2.2.2.1, s_.2.2.2.2.2.2.1, s_.2.2.2.2.2.2.2) w1 H1))
   · refine H.lit_step 6 3 ?hg (N := 130) ?hd (n := n1) ?hr ?_; (case hd => rfl); (case hg => rfl); (case hr => first | (go_simp; done) | (go_simp; rfl))
     intro v_ w1 H1; exact hK.out _ _ (sOf H1) (fun _ => norm_ (by simp only [putAll, aP, aS, aZ, aC]) (hJ0_0123 (s_.1, v_, s_.2.2.1, s_.2.2.2.1, s_.2.2.2.2.1, s_.2.2.2.2.2.1, s_.2.2.2.2.2.2.1, s_.2.2.2.2.2.2.2) w1 H1))
 intro hJ0_023
 refine join_ (σ := V8) 17 (bm 44 2130573823) (fun s_ => [(130, s_.2.1), (137, s_.2.2.1), (144, s_.2.2.2.1)]) (fun s_ w' => Hp w0 ((gp, .cells #[c0, v0, v1, v2, v3, c5, c6, v4] 75 (0, 0)) :: bsr) [rI 3 v0 X0, rI 3 v1 X1, rI 3 v2 X2, rI 3 v3 X3, rI 3 v4 X4, rN 3, rI 3 s_.2.1 [n1], rI 3 s_.2.2.1 [n2], rI 3 s_.2.2.2.1 [n3]] w') ?_ ?_
 · intro s_ w1 H
   refine norm_ (a' := ?_) ?_ ?_
   rotate_left
   · simp only [putAll, aP, aS, aZ, aC]
     rfl
   refine one_ (i := 9) (N := some 123) (bm 44 2130574335) rfl rfl (one_of HT_.out (by kernel_rfl)) (by decide) (fun K hK => ?_)
   · refine H.lit_step 5 3 ?hg (N := 123) ?hd (n := n0) ?hr ?_; (case hd => rfl); (case hg => rfl); (case hr => first | (go_simp; done) | (go_simp; rfl))
     intro v_ w1 H1; exact hK.out _ _ (sOf H1) (fun _ => norm_ (by simp only [putAll, aP, aS, aZ, aC]) (hJ0_0123 (v_, s_.2.1, s_.2.2.1, s_.2.2.2.1, s_.2.2.2.2.1, s_.2.2.2.2.2.1, s_.2.2.2.2.2.2.1, s_.2.2.2.2.2.2.2) w1 H1))
 intro hJ0_123
 refine join_ (σ := V8) 17 (bm 44 1048444927) (fun s_ => [(123, s_.1), (130, s_.2.1), (124, s_.2.2.2.2.1)]) (fun s_ w' => Hp w0 ((gp, .cells #[c0, v0, v1, v2, v3, c5, c6, v4] 75 (0, 0)) :: bsr) [rI 3 s_.2.2.2.2.1 (X0 ++ [n0]), rI 3 v1 X1, rI 3 v2 X2, rI 3 v3 X3, rI 3 v4 X4, rI 3 s_.1 [n0], rI 3 s_.2.1 [n1], rN 3, rN 3] w') ?_ ?_
 · intro s_ w1 H
   refine norm_ (a' := ?_) ?_ ?_
   rotate_left
   · simp only [putAll, aP, aS, aZ, aC]
     rfl
   refine three_ (i := 17) (j := 23) (k := 30) (Ni := some 131) (Nj := some 137) (Nk := some 144) (bm 44 1048575999) (bm 44 1056833535) (bm 44 2122186751) rfl rfl rfl rfl rfl rfl (three_of HT_.out (by kernel_rfl)) (by decide) (by decide) (by decide) (fun K hK => ?_) (fun K hK => ?_) (fun K hK => ?_)
   · refine H.app_step (i := 1) (j := 6) rfl rfl ?hg (.tmp 128) (.tmp 130) 48 ?ho Try.underlying48 measure_New.infoI ?hs ?hx ?hl (N := 131) ?hd ?_; (case hd => rfl); (case hg => rfl); (case ho => rfl); (case hs => rfl); (case hx => rfl); (case hl => simp; omega)
     intro v_ w1 H1; exact hK.out _ _ (sOf H1) (fun _ => norm_ (by simp only [putAll, aP, aS, aZ, aC]) (hJ2_01 (s_.1, s_.2.1, s_.2.2.1, s_.2.2.2.1, s_.2.2.2.2.1, v_, s_.2.2.2.2.2.2.1, s_.2.2.2.2.2.2.2) w1 H1))
   · refine H.lit_step 7 3 ?hg (N := 137) ?hd (n := n2) ?hr ?_; (case hd => rfl); (case hg => rfl); (case hr => first | (go_simp; done) | (go_simp; rfl))
     intro v_ w1 H1; exact hK.out _ _ (sOf H1) (fun _ => norm_ (by simp only [putAll, aP, aS, aZ, aC]) (hJ1_012 (s_.1, s_.2.1, v_, s_.2.2.2.1, s_.2.2.2.2.1, s_.2.2.2.2.2.1, s_.2.2.2.2.2.2.1, s_.2.2.2.2.2.2.2) w1 H1))
   · refine H.lit_step 8 3 ?hg (N := 144) ?hd (n := n3) ?hr ?_; (case hd => rfl); (case hg => rfl); (case hr => first | (go_simp; done) | (go_simp; rfl))
     intro v_ w1 H1; exact hK.out _ _ (sOf H1) (fun _ => norm_ (by simp only [putAll, aP, aS, aZ, aC]) (hJ1_013 (s_.1, s_.2.1, s_.2.2.1, v_, s_.2.2.2.2.1, s_.2.2.2.2.2.1, s_.2.2.2.2.2.2.1, s_.2.2.2.2.2.2.2) w1 H1))
 intro hJ1_01
 refine join_ (σ := V8) 17 (bm 44 1056767999) (fun s_ => [(123, s_.1), (137, s_.2.2.1), (124, s_.2.2.2.2.1)]) (fun s_ w' => Hp w0 ((gp, .cells #[c0, v0, v1, v2, v3, c5, c6, v4] 75 (0, 0)) :: bsr) [rI 3 s_.2.2.2.2.1 (X0 ++ [n0]), rI 3 v1 X1, rI 3 v2 X2, rI 3 v3 X3, rI 3 v4 X4, rI 3 s_.1 [n0], rN 3, rI 3 s_.2.2.1 [n2], rN 3] w') ?_ ?_
 · intro s_ w1 H
   refine norm_ (a' := ?_) ?_ ?_
   rotate_left
   · simp only [putAll, aP, aS, aZ, aC]
     rfl
   refine two_ (i := 16) (j := 30) (Ni := some 130) (Nj := some 144) (bm 44 1056833535) (bm 44 2130509823) rfl rfl rfl rfl (two_of HT_.out (by kernel_rfl)) (by decide) (by decide) (fun K hK => ?_) (fun K hK => ?_)
   · refine H.lit_step 6 3 ?hg (N := 130) ?hd (n := n1) ?hr ?_; (case hd => rfl); (case hg => rfl); (case hr => first | (go_simp; done) | (go_simp; rfl))
     intro v_ w1 H1; exact hK.out _ _ (sOf H1) (fun _ => norm_ (by simp only [putAll, aP, aS, aZ, aC]) (hJ1_012 (s_.1, v_, s_.2.2.1, s_.2.2.2.1, s_.2.2.2.2.1, s_.2.2.2.2.2.1, s_.2.2.2.2.2.2.1, s_.2.2.2.2.2.2.2) w1 H1))
   · refine H.lit_step 8 3 ?hg (N := 144) ?hd (n := n3) ?hr ?_; (case hd => rfl); (case hg => rfl); (case hr => first | (go_simp; done) | (go_simp; rfl))
     intro v_ w1 H1; exact hK.out _ _ (sOf H1) (fun _ => norm_ (by simp only [putAll, aP, aS, aZ, aC]) (hJ1_023 (s_.1, s_.2.1, s_.2.2.1, v_, s_.2.2.2.2.1, s_.2.2.2.2.2.1, s_.2.2.2.2.2.2.1, s_.2.2.2.2.2.2.2) w1 H1))
 intro hJ1_02
 refine join_ (σ := V8) 17 (bm 44 2122121215) (fun s_ => [(123, s_.1), (144, s_.2.2.2.1), (124, s_.2.2.2.2.1)]) (fun s_ w' => Hp w0 ((gp, .cells #[c0, v0, v1, v2, v3, c5, c6, v4] 75 (0, 0)) :: bsr) [rI 3 s_.2.2.2.2.1 (X0 ++ [n0]), rI 3 v1 X1, rI 3 v2 X2, rI 3 v3 X3, rI 3 v4 X4, rI 3 s_.1 [n0], rN 3, rN 3, rI 3 s_.2.2.2.1 [n3]] w') ?_ ?_
 · intro s_ w1 H
   refine norm_ (a' := ?_) ?_ ?_
   rotate_left
   · simp only [putAll, aP, aS, aZ, aC]
     rfl
   refine two_ (i := 16) (j := 23) (Ni := some 130) (Nj := some 137) (bm 44 2122186751) (bm 44 2130509823) rfl rfl rfl rfl (two_of HT_.out (by kernel_rfl)) (by decide) (by decide) (fun K hK => ?_) (fun K hK => ?_)
   · refine H.lit_step 6 3 ?hg (N := 130) ?hd (n := n1) ?hr ?_; (case hd => rfl); (case hg => rfl); (case hr => first | (go_simp; done) | (go_simp; rfl))
     intro v_ w1 H1; exact hK.out _ _ (sOf H1) (fun _ => norm_ (by simp only [putAll, aP, aS, aZ, aC]) (hJ1_013 (s_.1, v_, s_.2.2.1, s_.2.2.2.1, s_.2.2.2.2.1, s_.2.2.2.2.2.1, s_.2.2.2.2.2.2.1, s_.2.2.2.2.2.2.2) w1 H1))
   · refine H.lit_step 7 3 ?hg (N := 137) ?hd (n := n2) ?hr ?_; (case hd => rfl); (case hg => rfl); (case hr => first | (go_simp; done) | (go_simp; rfl))
     intro v_ w1 H1; exact hK.out _ _ (sOf H1) (fun _ => norm_ (by simp only [putAll, aP, aS, aZ, aC]) (hJ1_023 (s_.1, s_.2.1, v_, s_.2.2.2.1, s_.2.2.2.2.1, s_.2.2.2.2.2.1, s_.2.2.2.2.2.2.1, s_.2.2.2.2.2.2.2) w1 H1))
 intro hJ1_03
 refine join_ (σ := V8) 18 (bm 44 1048443903) (fun s_ => [(123, s_.1), (130, s_.2.1)]) (fun s_ w' => Hp w0 ((gp, .cells #[c0, v0, v1, v2, v3, c5, c6, v4] 75 (0, 0)) :: bsr) [rI 3 v0 X0, rI 3 v1 X1, rI 3 v2 X2, rI 3 v3 X3, rI 3 v4 X4, rI 3 s_.1 [n0], rI 3 s_.2.1 [n1], rN 3, rN 3] w') ?_ ?_
 · intro s_ w1 H
   refine norm_ (a' := ?_) ?_ ?_
   rotate_left
   · simp only [putAll, aP, aS, aZ, aC]
     rfl
   refine three_ (i := 10) (j := 23) (k := 30) (Ni := some 124) (Nj := some 137) (Nk := some 144) (bm 44 1048444927) (bm 44 1056832511) (bm 44 2122185727) rfl rfl rfl rfl rfl rfl (three_of HT_.out (by kernel_rfl)) (by decide) (by decide) (by decide) (fun K hK => ?_) (fun K hK => ?_) (fun K hK => ?_)
   · refine H.app_step (i := 0) (j := 5) rfl rfl ?hg (.tmp 121) (.tmp 123) 48 ?ho Try.underlying48 measure_New.infoI ?hs ?hx ?hl (N := 124) ?hd ?_; (case hd => rfl); (case hg => rfl); (case ho => rfl); (case hs => rfl); (case hx => rfl); (case hl => simp; omega)
     intro v_ w1 H1; exact hK.out _ _ (sOf H1) (fun _ => norm_ (by simp only [putAll, aP, aS, aZ, aC]) (hJ1_01 (s_.1, s_.2.1, s_.2.2.1, s_.2.2.2.1, v_, s_.2.2.2.2.2.1, s_.2.2.2.2.2.2.1, s_.2.2.2.2.2.2.2) w1 H1))
   · refine H.lit_step 7 3 ?hg (N := 137) ?hd (n := n2) ?hr ?_; (case hd => rfl); (case hg => rfl); (case hr => first | (go_simp; done) | (go_simp; rfl))
     intro v_ w1 H1; exact hK.out _ _ (sOf H1) (fun _ => norm_ (by simp only [putAll, aP, aS, aZ, aC]) (hJ0_012 (s_.1, s_.2.1, v_, s_.2.2.2.1, s_.2.2.2.2.1, s_.2.2.2.2.2.1, s_.2.2.2.2.2.2.1, s_.2.2.2.2.2.2.2) w1 H1))
   · refine H.lit_step 8 3 ?hg (N := 144) ?hd (n := n3) ?hr ?_; (case hd => rfl); (case hg => rfl); (case hr => first | (go_simp; done) | (go_simp; rfl))
     intro v_ w1 H1; exact hK.out _ _ (sOf H1) (fun _ => norm_ (by simp only [putAll, aP, aS, aZ, aC]) (hJ0_013 (s_.1, s_.2.1, s_.2.2.1, v_, s_.2.2.2.2.1, s_.2.2.2.2.2.1, s_.2.2.2.2.2.2.1, s_.2.2.2.2.2.2.2) w1 H1))
 intro hJ0_01
 refine join_ (σ := V8) 18 (bm 44 1056766975) (fun s_ => [(123, s_.1), (137, s_.2.2.1)]) (fun s_ w' => Hp w0 ((gp, .cells #[c0, v0, v1, v2, v3, c5, c6, v4] 75 (0, 0)) :: bsr) [rI 3 v0 X0, rI 3 v1 X1, rI 3 v2 X2, rI 3 v3 X3, rI 3 v4 X4, rI 3 s_.1 [n0], rN 3, rI 3 s_.2.2.1 [n2], rN 3] w') ?_ ?_
 · intro s_ w1 H
   refine norm_ (a' := ?_) ?_ ?_
   rotate_left
   · simp only [putAll, aP, aS, aZ, aC]
     rfl
   refine three_ (i := 10) (j := 16) (k := 30) (Ni := some 124) (Nj := some 130) (Nk := some 144) (bm 44 1056767999) (bm 44 1056832511) (bm 44 2130508799) rfl rfl rfl rfl rfl rfl (three_of HT_.out (by kernel_rfl)) (by decide) (by decide) (by decide) (fun K hK => ?_) (fun K hK => ?_) (fun K hK => ?_)
   · refine H.app_step (i := 0) (j := 5) rfl rfl ?hg (.tmp 121) (.tmp 123) 48 ?ho Try.underlying48 measure_New.infoI ?hs ?hx ?hl (N := 124) ?hd ?_; (case hd => rfl); (case hg => rfl); (case ho => rfl); (case hs => rfl); (case hx => rfl); (case hl => simp; omega)
     intro v_ w1 H1; exact hK.out _ _ (sOf H1) (fun _ => norm_ (by simp only [putAll, aP, aS, aZ, aC]) (hJ1_02 (s_.1, s_.2.1, s_.2.2.1, s_.2.2.2.1, v_, s_.2.2.2.2.2.1, s_.2.2.2.2.2.2.1, s_.2.2.2.2.2.2.2) w1 H1))
   · refine H.lit_step 6 3 ?hg (N := 130) ?hd (n := n1) ?hr ?_; (case hd => rfl); (case hg => rfl); (case hr => first | (go_simp; done) | (go_simp; rfl))
     intro v_ w1 H1; exact hK.out _ _ (sOf H1) (fun _ => norm_ (by simp only [putAll, aP, aS, aZ, aC]) (hJ0_012 (s_.1, v_, s_.2.2.1, s_.2.2.2.1, s_.2.2.2.2.1, s_.2.2.2.2.2.1, s_.2.2.2.2.2.2.1, s_.2.2.2.2.2.2.2) w1 H1))
   · refine H.lit_step 8 3 ?hg (N := 144) ?hd (n := n3) ?hr ?_; (case hd => rfl); (case hg => rfl); (case hr => first | (go_simp; done) | (go_simp; rfl))
     intro v_ w1 H1; exact hK.out _ _ (sOf H1) (fun _ => norm_ (by simp only [putAll, aP, aS, aZ, aC]) (hJ0_023 (s_.1, s_.2.1, s_.2.2.1, v_, s_.2.2.2.2.1, s_.2.2.2.2.2.1, s_.2.2.2.2.2.2.1, s_.2.2.2.2.2.2.2) w1 H1))
 intro hJ0_02
 refine join_ (σ := V8) 18 (bm 44 2122120191) (fun s_ => [(123, s_.1), (144, s_.2.2.2.1)]) (fun s_ w' => Hp w0 ((gp, .cells #[c0, v0, v1, v2, v3, c5, c6, v4] 75 (0, 0)) :: bsr) [rI 3 v0 X0, rI 3 v1 X1, rI 3 v2 X2, rI 3 v3 X3, rI 3 v4 X4, rI 3 s_.1 [n0], rN 3, rN 3, rI 3 s_.2.2.2.1 [n3]] w') ?_ ?_
 · intro s_ w1 H
   refine norm_ (a' := ?_) ?_ ?_
   rotate_left
   · simp only [putAll, aP, aS, aZ, aC]
     rfl
   refine three_ (i := 10) (j := 16) (k := 23) (Ni := some 124) (Nj := some 130) (Nk := some 137) (bm 44 2122121215) (bm 44 2122185727) (bm 44 2130508799) rfl rfl rfl rfl rfl rfl (three_of HT_.out (by kernel_rfl)) (by decide) (by decide) (by decide) (fun K hK => ?_) (fun K hK => ?_) (fun K hK => ?_)
   · refine H.app_step (i := 0) (j := 5) rfl rfl ?hg (.tmp 121) (.tmp 123) 48 ?ho Try.underlying48 measure_New.infoI ?hs ?hx ?hl (N := 124) ?hd ?_; (case hd => rfl); (case hg => rfl); (case ho => rfl); (case hs => rfl); (case hx => rfl); (case hl => simp; omega)
     intro v_ w1 H1; exact hK.out _ _ (sOf H1) (fun _ => norm_ (by simp only [putAll, aP, aS, aZ, aC]) (hJ1_03 (s_.1, s_.2.1, s_.2.2.1, s_.2.2.2.1, v_, s_.2.2.2.2.2.1, s_.2.2.2.2.2.2.1, s_.2.2.2.2.2.2.2) w1 H1))
   · refine H.lit_step 6 3 ?hg (N := 130) ?hd (n := n1) ?hr ?_; (case hd => rfl); (case hg => rfl); (case hr => first | (go_simp; done) | (go_simp; rfl))
     intro v_ w1 H1; exact hK.out _ _ (sOf H1) (fun _ => norm_ (by simp only [putAll, aP, aS, aZ, aC]) (hJ0_013 (s_.1, v_, s_.2.2.1, s_.2.2.2.1, s_.2.2.2.2.1, s_.2.2.2.2.2.1, s_.2.2.2.2.2.2.1, s_.2.2.2.2.2.2.2) w1 H1))
   · refine H.lit_step 7 3 ?hg (N := 137) ?hd (n := n2) ?hr ?_; (case hd => rfl); (case hg => rfl); (case hr => first | (go_simp; done) | (go_simp; rfl))
     intro v_ w1 H1; exact hK.out _ _ (sOf H1) (fun _ => norm_ (by simp only [putAll, aP, aS, aZ, aC]) (hJ0_023 (s_.1, s_.2.1, v_, s_.2.2.2.1, s_.2.2.2.2.1, s_.2.2.2.2.2.1, s_.2.2.2.2.2.2.1, s_.2.2.2.2.2.2.2) w1 H1))
 intro hJ0_03
 refine join_ (σ := V8) 18 (bm 44 1056831999) (fun s_ => [(130, s_.2.1), (137, s_.2.2.1)]) (fun s_ w' => Hp w0 ((gp, .cells #[c0, v0, v1, v2, v3, c5, c6, v4] 75 (0, 0)) :: bsr) [rI 3 v0 X0, rI 3 v1 X1, rI 3 v2 X2, rI 3 v3 X3, rI 3 v4 X4, rN 3, rI 3 s_.2.1 [n1], rI 3 s_.2.2.1 [n2], rN 3] w') ?_ ?_
 · intro s_ w1 H
   refine norm_ (a' := ?_) ?_ ?_
   rotate_left
   · simp only [putAll, aP, aS, aZ, aC]
     rfl
   refine two_ (i := 9) (j := 30) (Ni := some 123) (Nj := some 144) (bm 44 1056832511) (bm 44 2130573823) rfl rfl rfl rfl (two_of HT_.out (by kernel_rfl)) (by decide) (by decide) (fun K hK => ?_) (fun K hK => ?_)
   · refine H.lit_step 5 3 ?hg (N := 123) ?hd (n := n0) ?hr ?_; (case hd => rfl); (case hg => rfl); (case hr => first | (go_simp; done) | (go_simp; rfl))
     intro v_ w1 H1; exact hK.out _ _ (sOf H1) (fun _ => norm_ (by simp only [putAll, aP, aS, aZ, aC]) (hJ0_012 (v_, s_.2.1, s_.2.2.1, s_.2.2.2.1, s_.2.2.2.2.1, s_.2.2.2.2.2.1, s_.2.2.2.2.2.2.1, s_.2.2.2.2.2.2.2) w1 H1))
   · refine H.lit_step 8 3 ?hg (N := 144) ?hd (n := n3) ?hr ?_; (case hd => rfl); (case hg => rfl); (case hr => first | (go_simp; done) | (go_simp; rfl))
     intro v_ w1 H1; exact hK.out _ _ (sOf H1) (fun _ => norm_ (by simp only [putAll, aP, aS, aZ, aC]) (hJ0_123 (s_.1, s_.2.1, s_.2.2.1, v_, s_.2.2.2.2.1, s_.2.2.2.2.2.1, s_.2.2.2.2.2.2.1, s_.2.2.2.2.2.2.2) w1 H1))
 intro hJ0_12
 refine join_ (σ := V8) 18 (bm 44 2122185215) (fun s_ => [(130, s_.2.1), (144, s_.2.2.2.1)]) (fun s_ w' => Hp w0 ((gp, .cells #[c0, v0, v1, v2, v3, c5, c6, v4] 75 (0, 0)) :: bsr) [rI 3 v0 X0, rI 3 v1 X1, rI 3 v2 X2, rI 3 v3 X3, rI 3 v4 X4, rN 3, rI 3 s_.2.1 [n1], rN 3, rI 3 s_.2.2.2.1 [n3]] w') ?_ ?_
 · intro s_ w1 H
   refine norm_ (a' := ?_) ?_ ?_
   rotate_left
   · simp only [putAll, aP, aS, aZ, aC]
     rfl
   refine two_ (i := 9) (j := 23) (Ni := some 123) (Nj := some 137) (bm 44 2122185727) (bm 44 2130573823) rfl rfl rfl rfl (two_of HT_.out (by kernel_rfl)) (by decide) (by decide) (fun K hK => ?_) (fun K hK => ?_)
   · refine H.lit_step 5 3 ?hg (N := 123) ?hd (n := n0) ?hr ?_; (case hd => rfl); (case hg => rfl); (case hr => first | (go_simp; done) | (go_simp; rfl))
     intro v_ w1 H1; exact hK.out _ _ (sOf H1) (fun _ => norm_ (by simp only [putAll, aP, aS, aZ, aC]) (hJ0_013 (v_, s_.2.1, s_.2.2.1, s_.2.2.2.1, s_.2.2.2.2.1, s_.2.2.2.2.2.1, s_.2.2.2.2.2.2.1, s_.2.2.2.2.2.2.2) w1 H1))
   · refine H.lit_step 7 3 ?hg (N := 137) ?hd (n := n2) ?hr ?_; (case hd => rfl); (case hg => rfl); (case hr => first | (go_simp; done) | (go_simp; rfl))
     intro v_ w1 H1; exact hK.out _ _ (sOf H1) (fun _ => norm_ (by simp only [putAll, aP, aS, aZ, aC]) (hJ0_123 (s_.1, s_.2.1, v_, s_.2.2.2.1, s_.2.2.2.2.1, s_.2.2.2.2.2.1, s_.2.2.2.2.2.2.1, s_.2.2.2.2.2.2.2) w1 H1))
 intro hJ0_13
 refine join_ (σ := V8) 18 (bm 44 2130508287) (fun s_ => [(137, s_.2.2.1), (144, s_.2.2.2.1)]) (fun s_ w' => Hp w0 ((gp, .cells #[c0, v0, v1, v2, v3, c5, c6, v4] 75 (0, 0)) :: bsr) [rI 3 v0 X0, rI 3 v1 X1, rI 3 v2 X2, rI 3 v3 X3, rI 3 v4 X4, rN 3, rN 3, rI 3 s_.2.2.1 [n2], rI 3 s_.2.2.2.1 [n3]] w') ?_ ?_
 · intro s_ w1 H
   refine norm_ (a' := ?_) ?_ ?_
   rotate_left
   · simp only [putAll, aP, aS, aZ, aC]
     rfl
   refine two_ (i := 9) (j := 16) (Ni := some 123) (Nj := some 130) (bm 44 2130508799) (bm 44 2130573823) rfl rfl rfl rfl (two_of HT_.out (by kernel_rfl)) (by decide) (by decide) (fun K hK => ?_) (fun K hK => ?_)
   · refine H.lit_step 5 3 ?hg (N := 123) ?hd (n := n0) ?hr ?_; (case hd => rfl); (case hg => rfl); (case hr => first | (go_simp; done) | (go_simp; rfl))
     intro v_ w1 H1; exact hK.out _ _ (sOf H1) (fun _ => norm_ (by simp only [putAll, aP, aS, aZ, aC]) (hJ0_023 (v_, s_.2.1, s_.2.2.1, s_.2.2.2.1, s_.2.2.2.2.1, s_.2.2.2.2.2.1, s_.2.2.2.2.2.2.1, s_.2.2.2.2.2.2.2) w1 H1))
   · refine H.lit_step 6 3 ?hg (N := 130) ?hd (n := n1) ?hr ?_; (case hd => rfl); (case hg => rfl); (case hr => first | (go_simp; done) | (go_simp; rfl))
     intro v_ w1 H1; exact hK.out _ _ (sOf H1) (fun _ => norm_ (by simp only [putAll, aP, aS, aZ, aC]) (hJ0_123 (s_.1, v_, s_.2.2.1, s_.2.2.2.1, s_.2.2.2.2.1, s_.2.2.2.2.2.1, s_.2.2.2.2.2.2.1, s_.2.2.2.2.2.2.2) w1 H1))
 intro hJ0_23
 refine join_ (σ := V8) 18 (bm 44 1048379391) (fun s_ => [(123, s_.1), (124, s_.2.2.2.2.1)]) (fun s_ w' => Hp w0 ((gp, .cells #[c0, v0, v1, v2, v3, c5, c6, v4] 75 (0, 0)) :: bsr) [rI 3 s_.2.2.2.2.1 (X0 ++ [n0]), rI 3 v1 X1, rI 3 v2 X2, rI 3 v3 X3, rI 3 v4 X4, rI 3 s_.1 [n0], rN 3, rN 3, rN 3] w') ?_ ?_
 · intro s_ w1 H
   refine norm_ (a' := ?_) ?_ ?_
   rotate_left
   · simp only [putAll, aP, aS, aZ, aC]
     rfl
   refine three_ (i := 16) (j := 23) (k := 30) (Ni := some 130) (Nj := some 137) (Nk := some 144) (bm 44 1048444927) (bm 44 1056767999) (bm 44 2122121215) rfl rfl rfl rfl rfl rfl (three_of HT_.out (by kernel_rfl)) (by decide) (by decide) (by decide) (fun K hK => ?_) (fun K hK => ?_) (fun K hK => ?_)
   · refine H.lit_step 6 3 ?hg (N := 130) ?hd (n := n1) ?hr ?_; (case hd => rfl); (case hg => rfl); (case hr => first | (go_simp; done) | (go_simp; rfl))
     intro v_ w1 H1; exact hK.out _ _ (sOf H1) (fun _ => norm_ (by simp only [putAll, aP, aS, aZ, aC]) (hJ1_01 (s_.1, v_, s_.2.2.1, s_.2.2.2.1, s_.2.2.2.2.1, s_.2.2.2.2.2.1, s_.2.2.2.2.2.2.1, s_.2.2.2.2.2.2.2) w1 H1))
   · refine H.lit_step 7 3 ?hg (N := 137) ?hd (n := n2) ?hr ?_; (case hd => rfl); (case hg => rfl); (case hr => first | (go_simp; done) | (go_simp; rfl))
     intro v_ w1 H1; exact hK.out _ _ (sOf H1) (fun _ => norm_ (by simp only [putAll, aP, aS, aZ, aC]) (hJ1_02 (s_.1, s_.2.1, v_, s_.2.2.2.1, s_.2.2.2.2.1, s_.2.2.2.2.2.1, s_.2.2.2.2.2.2.1, s_.2.2.2.2.2.2.2) w1 H1))
   · refine H.lit_step 8 3 ?hg (N := 144) ?hd (n := n3) ?hr ?_; (case hd => rfl); (case hg => rfl); (case hr => first | (go_simp; done) | (go_simp; rfl))
     intro v_ w1 H1; exact hK.out _ _ (sOf H1) (fun _ => norm_ (by simp only [putAll, aP, aS, aZ, aC]) (hJ1_03 (s_.1, s_.2.1, s_.2.2.1, v_, s_.2.2.2.2.1, s_.2.2.2.2.2.1, s_.2.2.2.2.2.2.1, s_.2.2.2.2.2.2.2) w1 H1))
 intro hJ1_0
 refine join_ (σ := V8) 19 (bm 44 1048378367) (fun s_ => [(123, s_.1)]) (fun s_ w' => Hp w0 ((gp, .cells #[c0, v0, v1, v2, v3, c5, c6, v4] 75 (0, 0)) :: bsr) [rI 3 v0 X0, rI 3 v1 X1, rI 3 v2 X2, rI 3 v3 X3, rI 3 v4 X4, rI 3 s_.1 [n0], rN 3, rN 3, rN 3] w') ?_ ?_
 · intro s_ w1 H
   refine norm_ (a' := ?_) ?_ ?_
   rotate_left
   · simp only [putAll, aP, aS, aZ, aC]
     rfl
   refine four_ (i := 10) (j := 16) (k := 23) (m := 30) (Ni := some 124) (Nj := some 130) (Nk := some 137) (Nm := some 144) (bm 44 1048379391) (bm 44 1048443903) (bm 44 1056766975) (bm 44 2122120191) rfl rfl rfl rfl rfl rfl rfl rfl (four_of HT_.out (by kernel_rfl)) (by decide) (by decide) (by decide) (by decide) (fun K hK => ?_) (fun K hK => ?_) (fun K hK => ?_) (fun K hK => ?_)
   · refine H.app_step (i := 0) (j := 5) rfl rfl ?hg (.tmp 121) (.tmp 123) 48 ?ho Try.underlying48 measure_New.infoI ?hs ?hx ?hl (N := 124) ?hd ?_; (case hd => rfl); (case hg => rfl); (case ho => rfl); (case hs => rfl); (case hx => rfl); (case hl => simp; omega)
     intro v_ w1 H1; exact hK.out _ _ (sOf H1) (fun _ => norm_ (by simp only [putAll, aP, aS, aZ, aC]) (hJ1_0 (s_.1, s_.2.1, s_.2.2.1, s_.2.2.2.1, v_, s_.2.2.2.2.2.1, s_.2.2.2.2.2.2.1, s_.2.2.2.2.2.2.2) w1 H1))
   · refine H.lit_step 6 3 ?hg (N := 130) ?hd (n := n1) ?hr ?_; (case hd => rfl); (case hg => rfl); (case hr => first | (go_simp; done) | (go_simp; rfl))
     intro v_ w1 H1; exact hK.out _ _ (sOf H1) (fun _ => norm_ (by simp only [putAll, aP, aS, aZ, aC]) (hJ0_01 (s_.1, v_, s_.2.2.1, s_.2.2.2.1, s_.2.2.2.2.1, s_.2.2.2.2.2.1, s_.2.2.2.2.2.2.1, s_.2.2.2.2.2.2.2) w1 H1))
   · refine H.lit_step 7 3 ?hg (N := 137) ?hd (n := n2) ?hr ?_; (case hd => rfl); (case hg => rfl); (case hr => first | (go_simp; done) | (go_simp; rfl))
     intro v_ w1 H1; exact hK.out _ _ (sOf H1) (fun _ => norm_ (by simp only [putAll, aP, aS, aZ, aC]) (hJ0_02 (s_.1, s_.2.1, v_, s_.2.2.2.1, s_.2.2.2.2.1, s_.2.2.2.2.2.1, s_.2.2.2.2.2.2.1, s_.2.2.2.2.2.2.2) w1 H1))
   · refine H.lit_step 8 3 ?hg (N := 144) ?hd (n := n3) ?hr ?_; (case hd => rfl); (case hg => rfl); (case hr => first | (go_simp; done) | (go_simp; rfl))
     intro v_ w1 H1; exact hK.out _ _ (sOf H1) (fun _ => norm_ (by simp only [putAll, aP, aS, aZ, aC]) (hJ0_03 (s_.1, s_.2.1, s_.2.2.1, v_, s_.2.2.2.2.1, s_.2.2.2.2.2.1, s_.2.2.2.2.2.2.1, s_.2.2.2.2.2.2.2) w1 H1))
 intro hJ0_0
 refine join_ (σ := V8) 19 (bm 44 1048443391) (fun s_ => [(130, s_.2.1)]) (fun s_ w' => Hp w0 ((gp, .cells #[c0, v0, v1, v2, v3, c5, c6, v4] 75 (0, 0)) :: bsr) [rI 3 v0 X0, rI 3 v1 X1, rI 3 v2 X2, rI 3 v3 X3, rI 3 v4 X4, rN 3, rI 3 s_.2.1 [n1], rN 3, rN 3] w') ?_ ?_
 · intro s_ w1 H
   refine norm_ (a' := ?_) ?_ ?_
   rotate_left
   · simp only [putAll, aP, aS, aZ, aC]
     rfl
   refine three_ (i := 9) (j := 23) (k := 30) (Ni := some 123) (Nj := some 137) (Nk := some 144) (bm 44 1048443903) (bm 44 1056831999) (bm 44 2122185215) rfl rfl rfl rfl rfl rfl (three_of HT_.out (by kernel_rfl)) (by decide) (by decide) (by decide) (fun K hK => ?_) (fun K hK => ?_) (fun K hK => ?_)
   · refine H.lit_step 5 3 ?hg (N := 123) ?hd (n := n0) ?hr ?_; (case hd => rfl); (case hg => rfl); (case hr => first | (go_simp; done) | (go_simp; rfl))
     intro v_ w1 H1; exact hK.out _ _ (sOf H1) (fun _ => norm_ (by simp only [putAll, aP, aS, aZ, aC]) (hJ0_01 (v_, s_.2.1, s_.2.2.1, s_.2.2.2.1, s_.2.2.2.2.1, s_.2.2.2.2.2.1, s_.2.2.2.2.2.2.1, s_.2.2.2.2.2.2.2) w1 H1))
   · refine H.lit_step 7 3 ?hg (N := 137) ?hd (n := n2) ?hr ?_; (case hd => rfl); (case hg => rfl); (case hr => first | (go_simp; done) | (go_simp; rfl))
     intro v_ w1 H1; exact hK.out _ _ (sOf H1) (fun _ => norm_ (by simp only [putAll, aP, aS, aZ, aC]) (hJ0_12 (s_.1, s_.2.1, v_, s_.2.2.2.1, s_.2.2.2.2.1, s_.2.2.2.2.2.1, s_.2.2.2.2.2.2.1, s_.2.2.2.2.2.2.2) w1 H1))
   · refine H.lit_step 8 3 ?hg (N := 144) ?hd (n := n3) ?hr ?_; (case hd => rfl); (case hg => rfl); (case hr => first | (go_simp; done) | (go_simp; rfl))
     intro v_ w1 H1; exact hK.out _ _ (sOf H1) (fun _ => norm_ (by simp only [putAll, aP, aS, aZ, aC]) (hJ0_13 (s_.1, s_.2.1, s_.2.2.1, v_, s_.2.2.2.2.1, s_.2.2.2.2.2.1, s_.2.2.2.2.2.2.1, s_.2.2.2.2.2.2.2) w1 H1))
 intro hJ0_1
 refine join_ (σ := V8) 19 (bm 44 1056766463) (fun s_ => [(137, s_.2.2.1)]) (fun s_ w' => Hp w0 ((gp, .cells #[c0, v0, v1, v2, v3, c5, c6, v4] 75 (0, 0)) :: bsr) [rI 3 v0 X0, rI 3 v1 X1, rI 3 v2 X2, rI 3 v3 X3, rI 3 v4 X4, rN 3, rN 3, rI 3 s_.2.2.1 [n2], rN 3] w') ?_ ?_
 · intro s_ w1 H
   refine norm_ (a' := ?_) ?_ ?_
   rotate_left
   · simp only [putAll, aP, aS, aZ, aC]
     rfl
   refine three_ (i := 9) (j := 16) (k := 30) (Ni := some 123) (Nj := some 130) (Nk := some 144) (bm 44 1056766975) (bm 44 1056831999) (bm 44 2130508287) rfl rfl rfl rfl rfl rfl (three_of HT_.out (by kernel_rfl)) (by decide) (by decide) (by decide) (fun K hK => ?_) (fun K hK => ?_) (fun K hK => ?_)
   · refine H.lit_step 5 3 ?hg (N := 123) ?hd (n := n0) ?hr ?_; (case hd => rfl); (case hg => rfl); (case hr => first | (go_simp; done) | (go_simp; rfl))
     intro v_ w1 H1; exact hK.out _ _ (sOf H1) (fun _ => norm_ (by simp only [putAll, aP, aS, aZ, aC]) (hJ0_02 (v_, s_.2.1, s_.2.2.1, s_.2.2.2.1, s_.2.2.2.2.1, s_.2.2.2.2.2.1, s_.2.2.2.2.2.2.1, s_.2.2.2.2.2.2.2) w1 H1))
   · refine H.lit_step 6 3 ?hg (N := 130) ?hd (n := n1) ?hr ?_; (case hd => rfl); (case hg => rfl); (case hr => first | (go_simp; done) | (go_simp; rfl))
     intro v_ w1 H1; exact hK.out _ _ (sOf H1) (fun _ => norm_ (by simp only [putAll, aP, aS, aZ, aC]) (hJ0_12 (s_.1, v_, s_.2.2.1, s_.2.2.2.1, s_.2.2.2.2.1, s_.2.2.2.2.2.1, s_.2.2.2.2.2.2.1, s_.2.2.2.2.2.2.2) w1 H1))
   · refine H.lit_step 8 3 ?hg (N := 144) ?hd (n := n3) ?hr ?_; (case hd => rfl); (case hg => rfl); (case hr => first | (go_simp; done) | (go_simp; rfl))
     intro v_ w1 H1; exact hK.out _ _ (sOf H1) (fun _ => norm_ (by simp only [putAll, aP, aS, aZ, aC]) (hJ0_23 (s_.1, s_.2.1, s_.2.2.1, v_, s_.2.2.2.2.1, s_.2.2.2.2.2.1, s_.2.2.2.2.2.2.1, s_.2.2.2.2.2.2.2) w1 H1))
 intro hJ0_2
 refine join_ (σ := V8) 19 (bm 44 2122119679) (fun s_ => [(144, s_.2.2.2.1)]) (fun s_ w' => Hp w0 ((gp, .cells #[c0, v0, v1, v2, v3, c5, c6, v4] 75 (0, 0)) :: bsr) [rI 3 v0 X0, rI 3 v1 X1, rI 3 v2 X2, rI 3 v3 X3, rI 3 v4 X4, rN 3, rN 3, rN 3, rI 3 s_.2.2.2.1 [n3]] w') ?_ ?_
 · intro s_ w1 H
   refine norm_ (a' := ?_) ?_ ?_
   rotate_left
   · simp only [putAll, aP, aS, aZ, aC]
     rfl
   refine three_ (i := 9) (j := 16) (k := 23) (Ni := some 123) (Nj := some 130) (Nk := some 137) (bm 44 2122120191) (bm 44 2122185215) (bm 44 2130508287) rfl rfl rfl rfl rfl rfl (three_of HT_.out (by kernel_rfl)) (by decide) (by decide) (by decide) (fun K hK => ?_) (fun K hK => ?_) (fun K hK => ?_)
   · refine H.lit_step 5 3 ?hg (N := 123) ?hd (n := n0) ?hr ?_; (case hd => rfl); (case hg => rfl); (case hr => first | (go_simp; done) | (go_simp; rfl))
     intro v_ w1 H1; exact hK.out _ _ (sOf H1) (fun _ => norm_ (by simp only [putAll, aP, aS, aZ, aC]) (hJ0_03 (v_, s_.2.1, s_.2.2.1, s_.2.2.2.1, s_.2.2.2.2.1, s_.2.2.2.2.2.1, s_.2.2.2.2.2.2.1, s_.2.2.2.2.2.2.2) w1 H1))
   · refine H.lit_step 6 3 ?hg (N := 130) ?hd (n := n1) ?hr ?_; (case hd => rfl); (case hg => rfl); (case hr => first | (go_simp; done) | (go_simp; rfl))
     intro v_ w1 H1; exact hK.out _ _ (sOf H1) (fun _ => norm_ (by simp only [putAll, aP, aS, aZ, aC]) (hJ0_13 (s_.1, v_, s_.2.2.1, s_.2.2.2.1, s_.2.2.2.2.1, s_.2.2.2.2.2.1, s_.2.2.2.2.2.2.1, s_.2.2.2.2.2.2.2) w1 H1))
   · refine H.lit_step 7 3 ?hg (N := 137) ?hd (n := n2) ?hr ?_; (case hd => rfl); (case hg => rfl); (case hr => first | (go_simp; done) | (go_simp; rfl))
     intro v_ w1 H1; exact hK.out _ _ (sOf H1) (fun _ => norm_ (by simp only [putAll, aP, aS, aZ, aC]) (hJ0_23 (s_.1, s_.2.1, v_, s_.2.2.2.1, s_.2.2.2.2.1, s_.2.2.2.2.2.1, s_.2.2.2.2.2.2.1, s_.2.2.2.2.2.2.2) w1 H1))
 intro hJ0_3
 refine four_ (i := 9) (j := 16) (k := 23) (m := 30) (Ni := some 123) (Nj := some 130) (Nk := some 137) (Nm := some 144) (bm 44 1048378367) (bm 44 1048443391) (bm 44 1056766463) (bm 44 2122119679) rfl rfl rfl rfl rfl rfl rfl rfl (four_of HT_.out (by kernel_rfl)) (by decide) (by decide) (by decide) (by decide) (fun K hK => ?_) (fun K hK => ?_) (fun K hK => ?_) (fun K hK => ?_)
 · refine H.lit_step 5 3 ?hg (N := 123) ?hd (n := n0) ?hr ?_; (case hd => rfl); (case hg => rfl); (case hr => first | (go_simp; done) | (go_simp; rfl))
   intro v_ w1 H1; exact hK.out _ _ (sOf H1) (fun _ => norm_ (by simp only [putAll, aP, aS, aZ, aC]) (hJ0_0 (v_, .bool false, .bool false, .bool false, .bool false, .bool false, .bool false, .bool false) w1 H1))
 · refine H.lit_step 6 3 ?hg (N := 130) ?hd (n := n1) ?hr ?_; (case hd => rfl); (case hg => rfl); (case hr => first | (go_simp; done) | (go_simp; rfl))
   intro v_ w1 H1; exact hK.out _ _ (sOf H1) (fun _ => norm_ (by simp only [putAll, aP, aS, aZ, aC]) (hJ0_1 (.bool false, v_, .bool false, .bool false, .bool false, .bool false, .bool false, .bool false) w1 H1))
 · refine H.lit_step 7 3 ?hg (N := 137) ?hd (n := n2) ?hr ?_; (case hd => rfl); (case hg => rfl); (case hr => first | (go_simp; done) | (go_simp; rfl))
   intro v_ w1 H1; exact hK.out _ _ (sOf H1) (fun _ => norm_ (by simp only [putAll, aP, aS, aZ, aC]) (hJ0_2 (.bool false, .bool false, v_, .bool false, .bool false, .bool false, .bool false, .bool false) w1 H1))
 · refine H.lit_step 8 3 ?hg (N := 144) ?hd (n := n3) ?hr ?_; (case hd => rfl); (case hg => rfl); (case hr => first | (go_simp; done) | (go_simp; rfl))
   intro v_ w1 H1; exact hK.out _ _ (sOf H1) (fun _ => norm_ (by simp only [putAll, aP, aS, aZ, aC]) (hJ0_3 (.bool false, .bool false, .bool false, v_, .bool false, .bool false, .bool false, .bool false) w1 H1))
end Go.Proofs.Ytdkmmddakidieaa.P
