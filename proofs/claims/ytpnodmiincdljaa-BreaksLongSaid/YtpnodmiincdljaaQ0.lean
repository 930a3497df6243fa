-- PRINTED by vq.py. Not trusted: Lean checks it.
import Derived.Test.YtpnodmiincdljaaV3
import Derived.Test.YtpnodmiincdljaaProg
namespace Go.Proofs.Ytpnodmiincdljaa.Vm
open Go
open _root_.Go.RowKit (wrap64)
set_option maxRecDepth 100000
set_option linter.unusedVariables false
abbrev runtime_boundsError := Int × Int × Bool × Int
abbrev runtime_errorAddressString := ByteArray × Int
abbrev api_Settings := Int × Int × Int × Int × Int × Int × Int
abbrev api_Breaking := List Int × Int × Bool
abbrev regletlaw09_Setting := Int × Int × Int × Int × Int × Int × Int × Int
abbrev api_Item := Int × Int × Int × Int × Bool × Int × Bool × Int × Int
abbrev breaks_search := (List api_Item × List Int × List Int × List Int × List Int × List Int × Int × List Int) × Int × Int × Int × Int × Int × Int × Int × Int × Bool × (List (Int × Int × Int × Int)) × List Int
abbrev api_Fit := Int × Int × Int × Int × Bool
abbrev measure_Para := List api_Item × List Int × List Int × List Int × List Int × List Int × Int × List Int
abbrev regletref08_Sum := Int × Int × Int × Int
abbrev measure_Ahead := Int × Bool
abbrev y0 : Ty := .cons (.i .i64) (.i .i64)
abbrev y1 : Ty := .cons .b y0
abbrev y2 : Ty := .cons (.i .i64) y1
abbrev y3 : Ty := .cons .b y2
abbrev y4 : Ty := .cons (.i .i64) y3
abbrev y5 : Ty := .cons (.i .i64) y4
abbrev y6 : Ty := .cons (.i .i64) y5
abbrev y7 : Ty := .cons (.i .i64) y6
abbrev y8 : Ty := .row true y7
abbrev y9 : Ty := .own 3 (.i .i64)
abbrev y10 : Ty := .own 47 y7
abbrev y11 : Ty := .cons (.i .i64) y9
abbrev y12 : Ty := .cons y9 y11
abbrev y13 : Ty := .cons y9 y12
abbrev y14 : Ty := .cons y9 y13
abbrev y15 : Ty := .cons y9 y14
abbrev y16 : Ty := .cons y9 y15
abbrev y17 : Ty := .cons y10 y16
abbrev y18 : Ty := .cons (.i .i64) y0
abbrev y19 : Ty := .cons (.i .i64) y18
abbrev y20 : Ty := .cons (.i .i64) y19
abbrev y21 : Ty := .cons (.i .i64) y20
abbrev y22 : Ty := .cons (.i .i64) y21
abbrev y23 : Ty := .row true (.i .i64)
abbrev y24 : Ty := .cons (.i .i64) y23
abbrev y25 : Ty := .cons y23 y24
abbrev y26 : Ty := .cons y23 y25
abbrev y27 : Ty := .cons y23 y26
abbrev y28 : Ty := .cons y23 y27
abbrev y29 : Ty := .cons y23 y28
abbrev y30 : Ty := .cons y8 y29
abbrev y31 : Ty := .ptr true y30
abbrev y32 : Ty := .row false y7
abbrev y33 : Ty := .row false (.i .i64)
abbrev y34 : Ty := .cons (.i .i64) y33
abbrev y35 : Ty := .cons y33 y34
abbrev y36 : Ty := .cons y33 y35
abbrev y37 : Ty := .cons y33 y36
abbrev y38 : Ty := .cons y33 y37
abbrev y39 : Ty := .cons y33 y38
abbrev y40 : Ty := .cons y32 y39
abbrev y41 : Ty := .ptr false y40
abbrev y42 : Ty := .own 86 y19
abbrev y43 : Ty := .cons y42 y9
abbrev y44 : Ty := .cons .b y43
abbrev y45 : Ty := .cons (.i .i64) y44
abbrev y46 : Ty := .cons (.i .i64) y45
abbrev y47 : Ty := .cons (.i .i64) y46
abbrev y48 : Ty := .cons (.i .i64) y47
abbrev y49 : Ty := .cons (.i .i64) y48
abbrev y50 : Ty := .cons (.i .i64) y49
abbrev y51 : Ty := .cons (.i .i64) y50
abbrev y52 : Ty := .cons (.i .i64) y51
abbrev y53 : Ty := .cons y41 y52
abbrev y54 : Ty := .cons (.i .u64) (.i .u64)
abbrev y55 : Ty := .cons (.i .u64) y54
abbrev y56 : Ty := .cons (.i .u64) y55
abbrev y57 : Ty := .cons (.i .i64) .b
abbrev y58 : Ty := .cons (.i .i64) y57
abbrev y59 : Ty := .cons (.i .i64) y58
abbrev y60 : Ty := .cons (.i .i64) y59
abbrev y61 : Ty := .row true y19
abbrev y62 : Ty := .cons y61 y23
abbrev y63 : Ty := .cons .b y62
abbrev y64 : Ty := .cons (.i .i64) y63
abbrev y65 : Ty := .cons (.i .i64) y64
abbrev y66 : Ty := .cons (.i .i64) y65
abbrev y67 : Ty := .cons (.i .i64) y66
abbrev y68 : Ty := .cons (.i .i64) y67
abbrev y69 : Ty := .cons (.i .i64) y68
abbrev y70 : Ty := .cons (.i .i64) y69
abbrev y71 : Ty := .cons (.i .i64) y70
abbrev y72 : Ty := .cons y31 y71
abbrev y73 : Ty := .ptr true y72
abbrev y74 : Ty := .cons y9 y57
abbrev y75 : Ty := .cons y23 y57
abbrev y76 : Ty := .cons y33 y57
abbrev y77 : Ty := .row false y19
abbrev y78 : Ty := .cons y77 y33
abbrev y79 : Ty := .cons .b y78
abbrev y80 : Ty := .cons (.i .i64) y79
abbrev y81 : Ty := .cons (.i .i64) y80
abbrev y82 : Ty := .cons (.i .i64) y81
abbrev y83 : Ty := .cons (.i .i64) y82
abbrev y84 : Ty := .cons (.i .i64) y83
abbrev y85 : Ty := .cons (.i .i64) y84
abbrev y86 : Ty := .cons (.i .i64) y85
abbrev y87 : Ty := .cons (.i .i64) y86
abbrev y88 : Ty := .cons y41 y87
abbrev y89 : Ty := .ptr false y88
def ti3 : TI := { k := .x, ag := false, sz := 1, by_ := 8, z := .int .i64 0, z0 := [.v (.i .i64) 0], fs := [], c := (.i .i64) }
def ti4 : TI := { k := .bool, ag := false, sz := 1, by_ := 1, z := .bool false, z0 := [.v .b (false)], fs := [], c := .b }
def ti22 : TI := { k := .sl 47, ag := false, sz := 1, by_ := 24, z := .slice none 0 0, z0 := [.v y10 ([] : List api_Item)], fs := [], c := y10 }
def ti24 : TI := { k := .x, ag := true, sz := 7, by_ := 56, z := .agg #[.int .i64 0, .int .i64 0, .int .i64 0, .int .i64 0, .int .i64 0, .int .i64 0, .int .i64 0], z0 := [.v (.i .i64) 0, .v (.i .i64) 0, .v (.i .i64) 0, .v (.i .i64) 0, .v (.i .i64) 0, .v (.i .i64) 0, .v (.i .i64) 0], fs := [(0, false, 1), (1, false, 1), (2, false, 1), (3, false, 1), (4, false, 1), (5, false, 1), (6, false, 1)], c := y22 }
def ti26 : TI := { k := .x, ag := false, sz := 1, by_ := 8, z := .pointer none, z0 := [.np], fs := [], c := y41 }
def ti29 : TI := { k := .sl 3, ag := false, sz := 1, by_ := 24, z := .slice none 0 0, z0 := [.v y9 ([] : List Int)], fs := [], c := y9 }
def ti31 : TI := { k := .x, ag := true, sz := 3, by_ := 40, z := .agg #[.slice none 0 0, .int .i64 0, .bool false], z0 := [.v y9 ([] : List Int), .v (.i .i64) 0, .v .b (false)], fs := [(0, false, 1), (1, false, 1), (2, false, 1)], c := y74 }
def ti32 : TI := { k := .x, ag := false, sz := 1, by_ := 8, z := .int .i64 0, z0 := [.v (.i .i64) 0], fs := [], c := (.i .i64) }
def ti47 : TI := { k := .x, ag := true, sz := 9, by_ := 72, z := .agg #[.int .i64 0, .int .i64 0, .int .i64 0, .int .i64 0, .bool false, .int .i64 0, .bool false, .int .i64 0, .int .i64 0], z0 := [.v (.i .i64) 0, .v (.i .i64) 0, .v (.i .i64) 0, .v (.i .i64) 0, .v .b (false), .v (.i .i64) 0, .v .b (false), .v (.i .i64) 0, .v (.i .i64) 0], fs := [(0, false, 1), (1, false, 1), (2, false, 1), (3, false, 1), (4, false, 1), (5, false, 1), (6, false, 1), (7, false, 1), (8, false, 1)], c := y7 }
def ti58 : TI := { k := .x, ag := false, sz := 1, by_ := 8, z := .pointer none, z0 := [.np], fs := [], c := y89 }
def ti59 : TI := { k := .sl 86, ag := false, sz := 1, by_ := 24, z := .slice none 0 0, z0 := [.v y42 ([] : List regletref08_Sum)], fs := [], c := y42 }
def ti61 : TI := { k := .x, ag := true, sz := 12, by_ := 128, z := .agg #[.pointer none, .int .i64 0, .int .i64 0, .int .i64 0, .int .i64 0, .int .i64 0, .int .i64 0, .int .i64 0, .int .i64 0, .bool false, .slice none 0 0, .slice none 0 0], z0 := [.np, .v (.i .i64) 0, .v (.i .i64) 0, .v (.i .i64) 0, .v (.i .i64) 0, .v (.i .i64) 0, .v (.i .i64) 0, .v (.i .i64) 0, .v (.i .i64) 0, .v .b (false), .v y42 ([] : List regletref08_Sum), .v y9 ([] : List Int)], fs := [(0, false, 1), (1, false, 1), (2, true, 7), (9, false, 1), (10, false, 1), (11, false, 1)], c := y53 }
def ti65 : TI := { k := .x, ag := true, sz := 3, by_ := 40, z := .agg #[.slice none 0 0, .int .i64 0, .bool false], z0 := [.v y9 ([] : List Int), .v (.i .i64) 0, .v .b (false)], fs := [(0, false, 1), (1, false, 1), (2, false, 1)], c := y74 }
def ti67 : TI := { k := .sl 86, ag := false, sz := 1, by_ := 24, z := .slice none 0 0, z0 := [.v y42 ([] : List regletref08_Sum)], fs := [], c := y42 }
def ti77 : TI := { k := .x, ag := true, sz := 5, by_ := 40, z := .agg #[.int .i64 0, .int .i64 0, .int .i64 0, .int .i64 0, .bool false], z0 := [.v (.i .i64) 0, .v (.i .i64) 0, .v (.i .i64) 0, .v (.i .i64) 0, .v .b (false)], fs := [(0, false, 1), (1, false, 1), (2, false, 1), (3, false, 1), (4, false, 1)], c := y60 }
def ti84 : TI := { k := .x, ag := true, sz := 8, by_ := 176, z := .agg #[.slice none 0 0, .slice none 0 0, .slice none 0 0, .slice none 0 0, .slice none 0 0, .slice none 0 0, .int .i64 0, .slice none 0 0], z0 := [.v y10 ([] : List api_Item), .v y9 ([] : List Int), .v y9 ([] : List Int), .v y9 ([] : List Int), .v y9 ([] : List Int), .v y9 ([] : List Int), .v (.i .i64) 0, .v y9 ([] : List Int)], fs := [(0, false, 1), (1, false, 1), (2, false, 1), (3, false, 1), (4, false, 1), (5, false, 1), (6, false, 1), (7, false, 1)], c := y17 }
def ti86 : TI := { k := .arr 4 3, ag := true, sz := 4, by_ := 32, z := .agg #[.int .i64 0, .int .i64 0, .int .i64 0, .int .i64 0], z0 := [.v (.i .i64) 0, .v (.i .i64) 0, .v (.i .i64) 0, .v (.i .i64) 0], fs := [], c := y19 }
def ti93 : TI := { k := .x, ag := true, sz := 4, by_ := 32, z := .agg #[.int .i64 0, .int .i64 0, .int .i64 0, .int .i64 0], z0 := [.v (.i .i64) 0, .v (.i .i64) 0, .v (.i .i64) 0, .v (.i .i64) 0], fs := [(0, false, 1), (1, false, 1), (2, false, 1), (3, false, 1)], c := y19 }
def ti101 : TI := { k := .x, ag := true, sz := 2, by_ := 16, z := .agg #[.int .i64 0, .bool false], z0 := [.v (.i .i64) 0, .v .b (false)], fs := [(0, false, 1), (1, false, 1)], c := y57 }
def ti108 : TI := { k := .x, ag := true, sz := 4, by_ := 32, z := .agg #[.int .i64 0, .int .i64 0, .int .i64 0, .int .i64 0], z0 := [.v (.i .i64) 0, .v (.i .i64) 0, .v (.i .i64) 0, .v (.i .i64) 0], fs := [(0, false, 1), (1, false, 1), (2, false, 1), (3, false, 1)], c := y19 }
def ti112 : TI := { k := .sl 3, ag := false, sz := 1, by_ := 24, z := .slice none 0 0, z0 := [.v y9 ([] : List Int)], fs := [], c := y9 }
def ti120 : TI := { k := .x, ag := false, sz := 1, by_ := 8, z := .int .u64 0, z0 := [.v (.i .u64) 0], fs := [], c := (.i .u64) }
def ti122 : TI := { k := .arr 4 120, ag := true, sz := 4, by_ := 32, z := .agg #[.int .u64 0, .int .u64 0, .int .u64 0, .int .u64 0], z0 := [.v (.i .u64) 0, .v (.i .u64) 0, .v (.i .u64) 0, .v (.i .u64) 0], fs := [], c := y56 }
def TT : List (Nat × TI) := [(3, ti3), (4, ti4), (22, ti22), (24, ti24), (26, ti26), (29, ti29), (31, ti31), (32, ti32), (47, ti47), (58, ti58), (59, ti59), (61, ti61), (65, ti65), (67, ti67), (77, ti77), (84, ti84), (86, ti86), (93, ti93), (101, ti101), (108, ti108), (112, ti112), (120, ti120), (122, ti122)]
theorem ti3_ok : TIok Try.prog 3 ti3 := ⟨trivial, by kernel_rfl, by kernel_rfl, by kernel_rfl, eq_true (lt_of rfl), eq_true (lt_of rfl), ⟨rfl, rfl, trivial⟩, trivial, trivial⟩
theorem ti4_ok : TIok Try.prog 4 ti4 := ⟨(by kernel_rfl : Try.prog.underlying 4 = some (.bool)), by kernel_rfl, by kernel_rfl, by kernel_rfl, eq_true (lt_of rfl), eq_true (lt_of rfl), ⟨rfl, rfl, trivial⟩, trivial, trivial⟩
theorem ti22_ok : TIok Try.prog 22 ti22 := ⟨(by kernel_rfl : Try.prog.underlying 22 = some (.slice 47)), by kernel_rfl, by kernel_rfl, by kernel_rfl, eq_true (lt_of rfl), eq_true (lt_of rfl), ⟨lt_of rfl, rfl, trivial⟩, trivial, trivial⟩
theorem ti24_ok : TIok Try.prog 24 ti24 := ⟨trivial, by kernel_rfl, by kernel_rfl, by kernel_rfl, eq_true (lt_of rfl), eq_true (lt_of rfl), ⟨rfl, rfl, rfl, rfl, rfl, rfl, rfl, rfl, rfl, rfl, rfl, rfl, rfl, rfl, trivial⟩, ⟨by kernel_rfl, by kernel_rfl, by kernel_rfl, by kernel_rfl, by kernel_rfl, by kernel_rfl, by kernel_rfl, by kernel_rfl, by kernel_rfl, by kernel_rfl, by kernel_rfl, by kernel_rfl, by kernel_rfl, by kernel_rfl, trivial⟩, (by kernel_rfl : places Try.prog 24 = some (ti24.fs.map fun q => (q.1, q.2.2)).toArray)⟩
theorem ti26_ok : TIok Try.prog 26 ti26 := ⟨trivial, by kernel_rfl, by kernel_rfl, by kernel_rfl, eq_true (lt_of rfl), eq_true (lt_of rfl), ⟨rfl, rfl, trivial⟩, trivial, trivial⟩
theorem ti29_ok : TIok Try.prog 29 ti29 := ⟨(by kernel_rfl : Try.prog.underlying 29 = some (.slice 3)), by kernel_rfl, by kernel_rfl, by kernel_rfl, eq_true (lt_of rfl), eq_true (lt_of rfl), ⟨lt_of rfl, rfl, trivial⟩, trivial, trivial⟩
theorem ti31_ok : TIok Try.prog 31 ti31 := ⟨trivial, by kernel_rfl, by kernel_rfl, by kernel_rfl, eq_true (lt_of rfl), eq_true (lt_of rfl), ⟨lt_of rfl, rfl, rfl, rfl, rfl, rfl, trivial⟩, ⟨by kernel_rfl, by kernel_rfl, by kernel_rfl, by kernel_rfl, by kernel_rfl, by kernel_rfl, trivial⟩, (by kernel_rfl : places Try.prog 31 = some (ti31.fs.map fun q => (q.1, q.2.2)).toArray)⟩
theorem ti32_ok : TIok Try.prog 32 ti32 := ⟨trivial, by kernel_rfl, by kernel_rfl, by kernel_rfl, eq_true (lt_of rfl), eq_true (lt_of rfl), ⟨rfl, rfl, trivial⟩, trivial, trivial⟩
theorem ti47_ok : TIok Try.prog 47 ti47 := ⟨trivial, by kernel_rfl, by kernel_rfl, by kernel_rfl, eq_true (lt_of rfl), eq_true (lt_of rfl), ⟨rfl, rfl, rfl, rfl, rfl, rfl, rfl, rfl, rfl, rfl, rfl, rfl, rfl, rfl, rfl, rfl, rfl, rfl, trivial⟩, ⟨by kernel_rfl, by kernel_rfl, by kernel_rfl, by kernel_rfl, by kernel_rfl, by kernel_rfl, by kernel_rfl, by kernel_rfl, by kernel_rfl, by kernel_rfl, by kernel_rfl, by kernel_rfl, by kernel_rfl, by kernel_rfl, by kernel_rfl, by kernel_rfl, by kernel_rfl, by kernel_rfl, trivial⟩, (by kernel_rfl : places Try.prog 47 = some (ti47.fs.map fun q => (q.1, q.2.2)).toArray)⟩
theorem ti58_ok : TIok Try.prog 58 ti58 := ⟨trivial, by kernel_rfl, by kernel_rfl, by kernel_rfl, eq_true (lt_of rfl), eq_true (lt_of rfl), ⟨rfl, rfl, trivial⟩, trivial, trivial⟩
theorem ti59_ok : TIok Try.prog 59 ti59 := ⟨(by kernel_rfl : Try.prog.underlying 59 = some (.slice 86)), by kernel_rfl, by kernel_rfl, by kernel_rfl, eq_true (lt_of rfl), eq_true (lt_of rfl), ⟨lt_of rfl, rfl, trivial⟩, trivial, trivial⟩
theorem ti61_ok : TIok Try.prog 61 ti61 := ⟨trivial, by kernel_rfl, by kernel_rfl, by kernel_rfl, eq_true (lt_of rfl), eq_true (lt_of rfl), ⟨rfl, rfl, rfl, rfl, rfl, rfl, rfl, rfl, rfl, rfl, rfl, rfl, rfl, rfl, rfl, rfl, rfl, rfl, rfl, rfl, lt_of rfl, rfl, lt_of rfl, rfl, trivial⟩, ⟨by kernel_rfl, by kernel_rfl, by kernel_rfl, by kernel_rfl, by kernel_rfl, by kernel_rfl, by kernel_rfl, by kernel_rfl, by kernel_rfl, by kernel_rfl, by kernel_rfl, by kernel_rfl, trivial⟩, (by kernel_rfl : places Try.prog 61 = some (ti61.fs.map fun q => (q.1, q.2.2)).toArray)⟩
theorem ti65_ok : TIok Try.prog 65 ti65 := ⟨trivial, by kernel_rfl, by kernel_rfl, by kernel_rfl, eq_true (lt_of rfl), eq_true (lt_of rfl), ⟨lt_of rfl, rfl, rfl, rfl, rfl, rfl, trivial⟩, ⟨by kernel_rfl, by kernel_rfl, by kernel_rfl, by kernel_rfl, by kernel_rfl, by kernel_rfl, trivial⟩, (by kernel_rfl : places Try.prog 65 = some (ti65.fs.map fun q => (q.1, q.2.2)).toArray)⟩
theorem ti67_ok : TIok Try.prog 67 ti67 := ⟨(by kernel_rfl : Try.prog.underlying 67 = some (.slice 86)), by kernel_rfl, by kernel_rfl, by kernel_rfl, eq_true (lt_of rfl), eq_true (lt_of rfl), ⟨lt_of rfl, rfl, trivial⟩, trivial, trivial⟩
theorem ti77_ok : TIok Try.prog 77 ti77 := ⟨trivial, by kernel_rfl, by kernel_rfl, by kernel_rfl, eq_true (lt_of rfl), eq_true (lt_of rfl), ⟨rfl, rfl, rfl, rfl, rfl, rfl, rfl, rfl, rfl, rfl, trivial⟩, ⟨by kernel_rfl, by kernel_rfl, by kernel_rfl, by kernel_rfl, by kernel_rfl, by kernel_rfl, by kernel_rfl, by kernel_rfl, by kernel_rfl, by kernel_rfl, trivial⟩, (by kernel_rfl : places Try.prog 77 = some (ti77.fs.map fun q => (q.1, q.2.2)).toArray)⟩
theorem ti84_ok : TIok Try.prog 84 ti84 := ⟨trivial, by kernel_rfl, by kernel_rfl, by kernel_rfl, eq_true (lt_of rfl), eq_true (lt_of rfl), ⟨lt_of rfl, rfl, lt_of rfl, rfl, lt_of rfl, rfl, lt_of rfl, rfl, lt_of rfl, rfl, lt_of rfl, rfl, rfl, rfl, lt_of rfl, rfl, trivial⟩, ⟨by kernel_rfl, by kernel_rfl, by kernel_rfl, by kernel_rfl, by kernel_rfl, by kernel_rfl, by kernel_rfl, by kernel_rfl, by kernel_rfl, by kernel_rfl, by kernel_rfl, by kernel_rfl, by kernel_rfl, by kernel_rfl, by kernel_rfl, by kernel_rfl, trivial⟩, (by kernel_rfl : places Try.prog 84 = some (ti84.fs.map fun q => (q.1, q.2.2)).toArray)⟩
theorem ti86_ok : TIok Try.prog 86 ti86 := ⟨(by kernel_rfl : Try.prog.underlying 86 = some (.array 4 3)), by kernel_rfl, by kernel_rfl, by kernel_rfl, eq_true (lt_of rfl), eq_true (lt_of rfl), ⟨rfl, rfl, rfl, rfl, rfl, rfl, rfl, rfl, trivial⟩, trivial, trivial⟩
theorem ti93_ok : TIok Try.prog 93 ti93 := ⟨trivial, by kernel_rfl, by kernel_rfl, by kernel_rfl, eq_true (lt_of rfl), eq_true (lt_of rfl), ⟨rfl, rfl, rfl, rfl, rfl, rfl, rfl, rfl, trivial⟩, ⟨by kernel_rfl, by kernel_rfl, by kernel_rfl, by kernel_rfl, by kernel_rfl, by kernel_rfl, by kernel_rfl, by kernel_rfl, trivial⟩, (by kernel_rfl : places Try.prog 93 = some (ti93.fs.map fun q => (q.1, q.2.2)).toArray)⟩
theorem ti101_ok : TIok Try.prog 101 ti101 := ⟨trivial, by kernel_rfl, by kernel_rfl, by kernel_rfl, eq_true (lt_of rfl), eq_true (lt_of rfl), ⟨rfl, rfl, rfl, rfl, trivial⟩, ⟨by kernel_rfl, by kernel_rfl, by kernel_rfl, by kernel_rfl, trivial⟩, (by kernel_rfl : places Try.prog 101 = some (ti101.fs.map fun q => (q.1, q.2.2)).toArray)⟩
theorem ti108_ok : TIok Try.prog 108 ti108 := ⟨trivial, by kernel_rfl, by kernel_rfl, by kernel_rfl, eq_true (lt_of rfl), eq_true (lt_of rfl), ⟨rfl, rfl, rfl, rfl, rfl, rfl, rfl, rfl, trivial⟩, ⟨by kernel_rfl, by kernel_rfl, by kernel_rfl, by kernel_rfl, by kernel_rfl, by kernel_rfl, by kernel_rfl, by kernel_rfl, trivial⟩, (by kernel_rfl : places Try.prog 108 = some (ti108.fs.map fun q => (q.1, q.2.2)).toArray)⟩
theorem ti112_ok : TIok Try.prog 112 ti112 := ⟨(by kernel_rfl : Try.prog.underlying 112 = some (.slice 3)), by kernel_rfl, by kernel_rfl, by kernel_rfl, eq_true (lt_of rfl), eq_true (lt_of rfl), ⟨lt_of rfl, rfl, trivial⟩, trivial, trivial⟩
theorem ti120_ok : TIok Try.prog 120 ti120 := ⟨trivial, by kernel_rfl, by kernel_rfl, by kernel_rfl, eq_true (lt_of rfl), eq_true (lt_of rfl), ⟨rfl, rfl, trivial⟩, trivial, trivial⟩
theorem ti122_ok : TIok Try.prog 122 ti122 := ⟨(by kernel_rfl : Try.prog.underlying 122 = some (.array 4 120)), by kernel_rfl, by kernel_rfl, by kernel_rfl, eq_true (lt_of rfl), eq_true (lt_of rfl), ⟨rfl, rfl, rfl, rfl, rfl, rfl, rfl, rfl, trivial⟩, trivial, trivial⟩
theorem TT_ok : ∀ p, p ∈ TT → TIok Try.prog p.1 p.2 := List.forall_mem_cons.2 ⟨ti3_ok, List.forall_mem_cons.2 ⟨ti4_ok, List.forall_mem_cons.2 ⟨ti22_ok, List.forall_mem_cons.2 ⟨ti24_ok, List.forall_mem_cons.2 ⟨ti26_ok, List.forall_mem_cons.2 ⟨ti29_ok, List.forall_mem_cons.2 ⟨ti31_ok, List.forall_mem_cons.2 ⟨ti32_ok, List.forall_mem_cons.2 ⟨ti47_ok, List.forall_mem_cons.2 ⟨ti58_ok, List.forall_mem_cons.2 ⟨ti59_ok, List.forall_mem_cons.2 ⟨ti61_ok, List.forall_mem_cons.2 ⟨ti65_ok, List.forall_mem_cons.2 ⟨ti67_ok, List.forall_mem_cons.2 ⟨ti77_ok, List.forall_mem_cons.2 ⟨ti84_ok, List.forall_mem_cons.2 ⟨ti86_ok, List.forall_mem_cons.2 ⟨ti93_ok, List.forall_mem_cons.2 ⟨ti101_ok, List.forall_mem_cons.2 ⟨ti108_ok, List.forall_mem_cons.2 ⟨ti112_ok, List.forall_mem_cons.2 ⟨ti120_ok, List.forall_mem_cons.2 ⟨ti122_ok, fun _ h => nomatch h⟩⟩⟩⟩⟩⟩⟩⟩⟩⟩⟩⟩⟩⟩⟩⟩⟩⟩⟩⟩⟩⟩⟩
def AD : List Nat := [100]
theorem AD_ok : ∀ f, f ∈ AD → AddOk Try.prog f := List.forall_mem_cons.2 ⟨fun x y c hx hy h0 h1 w => by rw [run_callFunc_extern Try.func100 (by kernel_rfl) (by kernel_rfl) (by kernel_rfl) (e := add64Entry) (by kernel_rfl), run_add64 x y c hx hy h0 h1]; rfl, fun _ h => nomatch h⟩
end Go.Proofs.Ytpnodmiincdljaa.Vm
