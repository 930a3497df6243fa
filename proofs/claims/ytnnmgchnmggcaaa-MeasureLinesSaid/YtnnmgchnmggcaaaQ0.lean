-- PRINTED by vq.py. Not trusted: Lean checks it.
import Derived.Test.YtnnmgchnmggcaaaV3
import Derived.Test.YtnnmgchnmggcaaaProg
namespace Go.Proofs.Ytnnmgchnmggcaaa.Vm
open Go
open _root_.Go.RowKit (wrap64)
set_option maxRecDepth 100000
set_option linter.unusedVariables false
abbrev runtime_boundsError := Int × Int × Bool × Int
abbrev runtime_errorAddressString := ByteArray × Int
abbrev api_Fit := Int × Int × Int × Int × Bool
abbrev measure_Sum := Int × Int × Int × Int
abbrev api_Item := Int × Int × Int × Int × Bool × Int × Bool × Int × Int
abbrev api_Settings := Int × Int × Int × Int × Int × Int × Int
abbrev measure_Para := List api_Item × List Int × List Int × List Int × List Int × List Int × Int × List Int
abbrev y0 : Ty := .cons (.i .u64) (.i .u64)
abbrev y1 : Ty := .cons (.i .u64) y0
abbrev y2 : Ty := .cons (.i .u64) y1
abbrev y3 : Ty := .cons (.i .i64) .b
abbrev y4 : Ty := .cons (.i .i64) y3
abbrev y5 : Ty := .cons (.i .i64) y4
abbrev y6 : Ty := .cons (.i .i64) y5
abbrev y7 : Ty := .cons (.i .i64) (.i .i64)
abbrev y8 : Ty := .cons (.i .i64) y7
abbrev y9 : Ty := .cons (.i .i64) y8
abbrev y10 : Ty := .cons (.i .i64) y9
abbrev y11 : Ty := .cons (.i .i64) y10
abbrev y12 : Ty := .cons (.i .i64) y11
abbrev y13 : Ty := .cons .b y7
abbrev y14 : Ty := .cons (.i .i64) y13
abbrev y15 : Ty := .cons .b y14
abbrev y16 : Ty := .cons (.i .i64) y15
abbrev y17 : Ty := .cons (.i .i64) y16
abbrev y18 : Ty := .cons (.i .i64) y17
abbrev y19 : Ty := .cons (.i .i64) y18
abbrev y20 : Ty := .own 3 (.i .i64)
abbrev y21 : Ty := .row true y19
abbrev y22 : Ty := .own 40 y19
abbrev y23 : Ty := .cons (.i .i64) y20
abbrev y24 : Ty := .cons y20 y23
abbrev y25 : Ty := .cons y20 y24
abbrev y26 : Ty := .cons y20 y25
abbrev y27 : Ty := .cons y20 y26
abbrev y28 : Ty := .cons y20 y27
abbrev y29 : Ty := .cons y22 y28
abbrev y30 : Ty := .row true (.i .i64)
abbrev y31 : Ty := .cons (.i .i64) y30
abbrev y32 : Ty := .cons y30 y31
abbrev y33 : Ty := .cons y30 y32
abbrev y34 : Ty := .cons y30 y33
abbrev y35 : Ty := .cons y30 y34
abbrev y36 : Ty := .cons y30 y35
abbrev y37 : Ty := .cons y21 y36
abbrev y38 : Ty := .ptr true y37
abbrev y39 : Ty := .row false y19
abbrev y40 : Ty := .row false (.i .i64)
abbrev y41 : Ty := .cons (.i .i64) y40
abbrev y42 : Ty := .cons y40 y41
abbrev y43 : Ty := .cons y40 y42
abbrev y44 : Ty := .cons y40 y43
abbrev y45 : Ty := .cons y40 y44
abbrev y46 : Ty := .cons y40 y45
abbrev y47 : Ty := .cons y39 y46
abbrev y48 : Ty := .ptr false y47
def ti3 : TI := { k := .x, ag := false, sz := 1, by_ := 8, z := .int .i64 0, z0 := [.v (.i .i64) 0], fs := [], c := (.i .i64) }
def ti4 : TI := { k := .bool, ag := false, sz := 1, by_ := 1, z := .bool false, z0 := [.v .b (false)], fs := [], c := .b }
def ti22 : TI := { k := .sl 40, ag := false, sz := 1, by_ := 24, z := .slice none 0 0, z0 := [.v y22 ([] : List api_Item)], fs := [], c := y22 }
def ti23 : TI := { k := .arr 2 3, ag := true, sz := 2, by_ := 16, z := .agg #[.int .i64 0, .int .i64 0], z0 := [.v (.i .i64) 0, .v (.i .i64) 0], fs := [], c := y7 }
def ti25 : TI := { k := .x, ag := false, sz := 1, by_ := 8, z := .pointer none, z0 := [.np], fs := [], c := y48 }
def ti28 : TI := { k := .x, ag := true, sz := 5, by_ := 40, z := .agg #[.int .i64 0, .int .i64 0, .int .i64 0, .int .i64 0, .bool false], z0 := [.v (.i .i64) 0, .v (.i .i64) 0, .v (.i .i64) 0, .v (.i .i64) 0, .v .b (false)], fs := [(0, false, 1), (1, false, 1), (2, false, 1), (3, false, 1), (4, false, 1)], c := y6 }
def ti33 : TI := { k := .x, ag := true, sz := 4, by_ := 32, z := .agg #[.int .i64 0, .int .i64 0, .int .i64 0, .int .i64 0], z0 := [.v (.i .i64) 0, .v (.i .i64) 0, .v (.i .i64) 0, .v (.i .i64) 0], fs := [(0, false, 1), (1, false, 1), (2, false, 1), (3, false, 1)], c := y9 }
def ti35 : TI := { k := .x, ag := true, sz := 4, by_ := 32, z := .agg #[.int .i64 0, .int .i64 0, .int .i64 0, .int .i64 0], z0 := [.v (.i .i64) 0, .v (.i .i64) 0, .v (.i .i64) 0, .v (.i .i64) 0], fs := [(0, false, 1), (1, false, 1), (2, false, 1), (3, false, 1)], c := y9 }
def ti40 : TI := { k := .x, ag := true, sz := 9, by_ := 72, z := .agg #[.int .i64 0, .int .i64 0, .int .i64 0, .int .i64 0, .bool false, .int .i64 0, .bool false, .int .i64 0, .int .i64 0], z0 := [.v (.i .i64) 0, .v (.i .i64) 0, .v (.i .i64) 0, .v (.i .i64) 0, .v .b (false), .v (.i .i64) 0, .v .b (false), .v (.i .i64) 0, .v (.i .i64) 0], fs := [(0, false, 1), (1, false, 1), (2, false, 1), (3, false, 1), (4, false, 1), (5, false, 1), (6, false, 1), (7, false, 1), (8, false, 1)], c := y19 }
def ti48 : TI := { k := .x, ag := true, sz := 7, by_ := 56, z := .agg #[.int .i64 0, .int .i64 0, .int .i64 0, .int .i64 0, .int .i64 0, .int .i64 0, .int .i64 0], z0 := [.v (.i .i64) 0, .v (.i .i64) 0, .v (.i .i64) 0, .v (.i .i64) 0, .v (.i .i64) 0, .v (.i .i64) 0, .v (.i .i64) 0], fs := [(0, false, 1), (1, false, 1), (2, false, 1), (3, false, 1), (4, false, 1), (5, false, 1), (6, false, 1)], c := y12 }
def ti51 : TI := { k := .x, ag := false, sz := 1, by_ := 8, z := .int .i64 0, z0 := [.v (.i .i64) 0], fs := [], c := (.i .i64) }
def ti55 : TI := { k := .sl 3, ag := false, sz := 1, by_ := 24, z := .slice none 0 0, z0 := [.v y20 ([] : List Int)], fs := [], c := y20 }
def ti57 : TI := { k := .x, ag := true, sz := 8, by_ := 176, z := .agg #[.slice none 0 0, .slice none 0 0, .slice none 0 0, .slice none 0 0, .slice none 0 0, .slice none 0 0, .int .i64 0, .slice none 0 0], z0 := [.v y22 ([] : List api_Item), .v y20 ([] : List Int), .v y20 ([] : List Int), .v y20 ([] : List Int), .v y20 ([] : List Int), .v y20 ([] : List Int), .v (.i .i64) 0, .v y20 ([] : List Int)], fs := [(0, false, 1), (1, false, 1), (2, false, 1), (3, false, 1), (4, false, 1), (5, false, 1), (6, false, 1), (7, false, 1)], c := y29 }
def ti66 : TI := { k := .x, ag := false, sz := 1, by_ := 8, z := .int .u64 0, z0 := [.v (.i .u64) 0], fs := [], c := (.i .u64) }
def ti68 : TI := { k := .arr 4 66, ag := true, sz := 4, by_ := 32, z := .agg #[.int .u64 0, .int .u64 0, .int .u64 0, .int .u64 0], z0 := [.v (.i .u64) 0, .v (.i .u64) 0, .v (.i .u64) 0, .v (.i .u64) 0], fs := [], c := y2 }
def ti72 : TI := { k := .sl 3, ag := false, sz := 1, by_ := 24, z := .slice none 0 0, z0 := [.v y20 ([] : List Int)], fs := [], c := y20 }
def TT : List (Nat × TI) := [(3, ti3), (4, ti4), (22, ti22), (23, ti23), (25, ti25), (28, ti28), (33, ti33), (35, ti35), (40, ti40), (48, ti48), (51, ti51), (55, ti55), (57, ti57), (66, ti66), (68, ti68), (72, ti72)]
theorem ti3_ok : TIok Try.prog 3 ti3 := ⟨trivial, by kernel_rfl, by kernel_rfl, by kernel_rfl, eq_true (lt_of rfl), eq_true (lt_of rfl), ⟨rfl, rfl, trivial⟩, trivial, trivial⟩
theorem ti4_ok : TIok Try.prog 4 ti4 := ⟨(by kernel_rfl : Try.prog.underlying 4 = some (.bool)), by kernel_rfl, by kernel_rfl, by kernel_rfl, eq_true (lt_of rfl), eq_true (lt_of rfl), ⟨rfl, rfl, trivial⟩, trivial, trivial⟩
theorem ti22_ok : TIok Try.prog 22 ti22 := ⟨(by kernel_rfl : Try.prog.underlying 22 = some (.slice 40)), by kernel_rfl, by kernel_rfl, by kernel_rfl, eq_true (lt_of rfl), eq_true (lt_of rfl), ⟨lt_of rfl, rfl, trivial⟩, trivial, trivial⟩
theorem ti23_ok : TIok Try.prog 23 ti23 := ⟨(by kernel_rfl : Try.prog.underlying 23 = some (.array 2 3)), by kernel_rfl, by kernel_rfl, by kernel_rfl, eq_true (lt_of rfl), eq_true (lt_of rfl), ⟨rfl, rfl, rfl, rfl, trivial⟩, trivial, trivial⟩
theorem ti25_ok : TIok Try.prog 25 ti25 := ⟨trivial, by kernel_rfl, by kernel_rfl, by kernel_rfl, eq_true (lt_of rfl), eq_true (lt_of rfl), ⟨rfl, rfl, trivial⟩, trivial, trivial⟩
theorem ti28_ok : TIok Try.prog 28 ti28 := ⟨trivial, by kernel_rfl, by kernel_rfl, by kernel_rfl, eq_true (lt_of rfl), eq_true (lt_of rfl), ⟨rfl, rfl, rfl, rfl, rfl, rfl, rfl, rfl, rfl, rfl, trivial⟩, ⟨by kernel_rfl, by kernel_rfl, by kernel_rfl, by kernel_rfl, by kernel_rfl, by kernel_rfl, by kernel_rfl, by kernel_rfl, by kernel_rfl, by kernel_rfl, trivial⟩, (by kernel_rfl : places Try.prog 28 = some (ti28.fs.map fun q => (q.1, q.2.2)).toArray)⟩
theorem ti33_ok : TIok Try.prog 33 ti33 := ⟨trivial, by kernel_rfl, by kernel_rfl, by kernel_rfl, eq_true (lt_of rfl), eq_true (lt_of rfl), ⟨rfl, rfl, rfl, rfl, rfl, rfl, rfl, rfl, trivial⟩, ⟨by kernel_rfl, by kernel_rfl, by kernel_rfl, by kernel_rfl, by kernel_rfl, by kernel_rfl, by kernel_rfl, by kernel_rfl, trivial⟩, (by kernel_rfl : places Try.prog 33 = some (ti33.fs.map fun q => (q.1, q.2.2)).toArray)⟩
theorem ti35_ok : TIok Try.prog 35 ti35 := ⟨trivial, by kernel_rfl, by kernel_rfl, by kernel_rfl, eq_true (lt_of rfl), eq_true (lt_of rfl), ⟨rfl, rfl, rfl, rfl, rfl, rfl, rfl, rfl, trivial⟩, ⟨by kernel_rfl, by kernel_rfl, by kernel_rfl, by kernel_rfl, by kernel_rfl, by kernel_rfl, by kernel_rfl, by kernel_rfl, trivial⟩, (by kernel_rfl : places Try.prog 35 = some (ti35.fs.map fun q => (q.1, q.2.2)).toArray)⟩
theorem ti40_ok : TIok Try.prog 40 ti40 := ⟨trivial, by kernel_rfl, by kernel_rfl, by kernel_rfl, eq_true (lt_of rfl), eq_true (lt_of rfl), ⟨rfl, rfl, rfl, rfl, rfl, rfl, rfl, rfl, rfl, rfl, rfl, rfl, rfl, rfl, rfl, rfl, rfl, rfl, trivial⟩, ⟨by kernel_rfl, by kernel_rfl, by kernel_rfl, by kernel_rfl, by kernel_rfl, by kernel_rfl, by kernel_rfl, by kernel_rfl, by kernel_rfl, by kernel_rfl, by kernel_rfl, by kernel_rfl, by kernel_rfl, by kernel_rfl, by kernel_rfl, by kernel_rfl, by kernel_rfl, by kernel_rfl, trivial⟩, (by kernel_rfl : places Try.prog 40 = some (ti40.fs.map fun q => (q.1, q.2.2)).toArray)⟩
theorem ti48_ok : TIok Try.prog 48 ti48 := ⟨trivial, by kernel_rfl, by kernel_rfl, by kernel_rfl, eq_true (lt_of rfl), eq_true (lt_of rfl), ⟨rfl, rfl, rfl, rfl, rfl, rfl, rfl, rfl, rfl, rfl, rfl, rfl, rfl, rfl, trivial⟩, ⟨by kernel_rfl, by kernel_rfl, by kernel_rfl, by kernel_rfl, by kernel_rfl, by kernel_rfl, by kernel_rfl, by kernel_rfl, by kernel_rfl, by kernel_rfl, by kernel_rfl, by kernel_rfl, by kernel_rfl, by kernel_rfl, trivial⟩, (by kernel_rfl : places Try.prog 48 = some (ti48.fs.map fun q => (q.1, q.2.2)).toArray)⟩
theorem ti51_ok : TIok Try.prog 51 ti51 := ⟨trivial, by kernel_rfl, by kernel_rfl, by kernel_rfl, eq_true (lt_of rfl), eq_true (lt_of rfl), ⟨rfl, rfl, trivial⟩, trivial, trivial⟩
theorem ti55_ok : TIok Try.prog 55 ti55 := ⟨(by kernel_rfl : Try.prog.underlying 55 = some (.slice 3)), by kernel_rfl, by kernel_rfl, by kernel_rfl, eq_true (lt_of rfl), eq_true (lt_of rfl), ⟨lt_of rfl, rfl, trivial⟩, trivial, trivial⟩
theorem ti57_ok : TIok Try.prog 57 ti57 := ⟨trivial, by kernel_rfl, by kernel_rfl, by kernel_rfl, eq_true (lt_of rfl), eq_true (lt_of rfl), ⟨lt_of rfl, rfl, lt_of rfl, rfl, lt_of rfl, rfl, lt_of rfl, rfl, lt_of rfl, rfl, lt_of rfl, rfl, rfl, rfl, lt_of rfl, rfl, trivial⟩, ⟨by kernel_rfl, by kernel_rfl, by kernel_rfl, by kernel_rfl, by kernel_rfl, by kernel_rfl, by kernel_rfl, by kernel_rfl, by kernel_rfl, by kernel_rfl, by kernel_rfl, by kernel_rfl, by kernel_rfl, by kernel_rfl, by kernel_rfl, by kernel_rfl, trivial⟩, (by kernel_rfl : places Try.prog 57 = some (ti57.fs.map fun q => (q.1, q.2.2)).toArray)⟩
theorem ti66_ok : TIok Try.prog 66 ti66 := ⟨trivial, by kernel_rfl, by kernel_rfl, by kernel_rfl, eq_true (lt_of rfl), eq_true (lt_of rfl), ⟨rfl, rfl, trivial⟩, trivial, trivial⟩
theorem ti68_ok : TIok Try.prog 68 ti68 := ⟨(by kernel_rfl : Try.prog.underlying 68 = some (.array 4 66)), by kernel_rfl, by kernel_rfl, by kernel_rfl, eq_true (lt_of rfl), eq_true (lt_of rfl), ⟨rfl, rfl, rfl, rfl, rfl, rfl, rfl, rfl, trivial⟩, trivial, trivial⟩
theorem ti72_ok : TIok Try.prog 72 ti72 := ⟨(by kernel_rfl : Try.prog.underlying 72 = some (.slice 3)), by kernel_rfl, by kernel_rfl, by kernel_rfl, eq_true (lt_of rfl), eq_true (lt_of rfl), ⟨lt_of rfl, rfl, trivial⟩, trivial, trivial⟩
theorem TT_ok : ∀ p, p ∈ TT → TIok Try.prog p.1 p.2 := List.forall_mem_cons.2 ⟨ti3_ok, List.forall_mem_cons.2 ⟨ti4_ok, List.forall_mem_cons.2 ⟨ti22_ok, List.forall_mem_cons.2 ⟨ti23_ok, List.forall_mem_cons.2 ⟨ti25_ok, List.forall_mem_cons.2 ⟨ti28_ok, List.forall_mem_cons.2 ⟨ti33_ok, List.forall_mem_cons.2 ⟨ti35_ok, List.forall_mem_cons.2 ⟨ti40_ok, List.forall_mem_cons.2 ⟨ti48_ok, List.forall_mem_cons.2 ⟨ti51_ok, List.forall_mem_cons.2 ⟨ti55_ok, List.forall_mem_cons.2 ⟨ti57_ok, List.forall_mem_cons.2 ⟨ti66_ok, List.forall_mem_cons.2 ⟨ti68_ok, List.forall_mem_cons.2 ⟨ti72_ok, fun _ h => nomatch h⟩⟩⟩⟩⟩⟩⟩⟩⟩⟩⟩⟩⟩⟩⟩⟩
def AD : List Nat := [45]
theorem AD_ok : ∀ f, f ∈ AD → AddOk Try.prog f := List.forall_mem_cons.2 ⟨fun x y c hx hy h0 h1 w => by rw [run_callFunc_extern Try.func45 (by kernel_rfl) (by kernel_rfl) (by kernel_rfl) (e := add64Entry) (by kernel_rfl), run_add64 x y c hx hy h0 h1]; rfl, fun _ h => nomatch h⟩
end Go.Proofs.Ytnnmgchnmggcaaa.Vm
