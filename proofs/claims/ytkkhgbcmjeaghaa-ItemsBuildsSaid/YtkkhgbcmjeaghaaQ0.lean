-- PRINTED by vq.py. Not trusted: Lean checks it.
import Derived.Test.YtkkhgbcmjeaghaaV3
import Derived.Test.YtkkhgbcmjeaghaaProg
namespace Go.Proofs.Ytkkhgbcmjeaghaa.Vm
open Go
open _root_.Go.RowKit (wrap64)
set_option maxRecDepth 100000
set_option linter.unusedVariables false
abbrev runtime_boundsError := Int × Int × Bool × Int
abbrev runtime_errorAddressString := ByteArray × Int
abbrev api_Item := Int × Int × Int × Int × Bool × Int × Bool × Int × Int
abbrev api_Run := Int × Int
abbrev api_Style := Int × Int × Int × Int × Int × Int × (List (Int × Int × Int)) × Bool
abbrev items_builder := List api_Style × List api_Item × Int × Bool
abbrev api_Range := Int × Int × Int
abbrev metrics_Table := List (Int × Int × Int × Int × Int × Int × List api_Range × Bool)
abbrev y0 : Ty := .cons (.i .i64) (.i .i64)
abbrev y1 : Ty := .cons (.i .i64) y0
abbrev y2 : Ty := .row true y1
abbrev y3 : Ty := .cons y2 .b
abbrev y4 : Ty := .cons (.i .i64) y3
abbrev y5 : Ty := .cons (.i .i64) y4
abbrev y6 : Ty := .cons (.i .i64) y5
abbrev y7 : Ty := .cons (.i .i64) y6
abbrev y8 : Ty := .cons (.i .i64) y7
abbrev y9 : Ty := .cons (.i .i64) y8
abbrev y10 : Ty := .own 3 (.i .i64)
abbrev y11 : Ty := .row true y9
abbrev y12 : Ty := .own 77 y1
abbrev y13 : Ty := .cons y12 .b
abbrev y14 : Ty := .cons (.i .i64) y13
abbrev y15 : Ty := .cons (.i .i64) y14
abbrev y16 : Ty := .cons (.i .i64) y15
abbrev y17 : Ty := .cons (.i .i64) y16
abbrev y18 : Ty := .cons (.i .i64) y17
abbrev y19 : Ty := .cons (.i .i64) y18
abbrev y20 : Ty := .own 53 y19
abbrev y21 : Ty := .ptr true y11
abbrev y22 : Ty := .row true y0
abbrev y23 : Ty := .cons .b y0
abbrev y24 : Ty := .cons (.i .i64) y23
abbrev y25 : Ty := .cons .b y24
abbrev y26 : Ty := .cons (.i .i64) y25
abbrev y27 : Ty := .cons (.i .i64) y26
abbrev y28 : Ty := .cons (.i .i64) y27
abbrev y29 : Ty := .cons (.i .i64) y28
abbrev y30 : Ty := .row false y1
abbrev y31 : Ty := .cons y30 .b
abbrev y32 : Ty := .cons (.i .i64) y31
abbrev y33 : Ty := .cons (.i .i64) y32
abbrev y34 : Ty := .cons (.i .i64) y33
abbrev y35 : Ty := .cons (.i .i64) y34
abbrev y36 : Ty := .cons (.i .i64) y35
abbrev y37 : Ty := .cons (.i .i64) y36
abbrev y38 : Ty := .row false y37
abbrev y39 : Ty := .ptr false y38
abbrev y40 : Ty := .own 40 y29
abbrev y41 : Ty := .cons (.i .i64) .b
abbrev y42 : Ty := .cons y40 y41
abbrev y43 : Ty := .cons y39 y42
abbrev y44 : Ty := .row false y0
abbrev y45 : Ty := .row true y29
abbrev y46 : Ty := .row true (.i .i64)
abbrev y47 : Ty := .row false (.i .i64)
abbrev y48 : Ty := .row false y47
abbrev y49 : Ty := .row false y29
abbrev y50 : Ty := .own 47 y0
abbrev y51 : Ty := .cons y49 y41
abbrev y52 : Ty := .cons y39 y51
abbrev y53 : Ty := .ptr false y52
abbrev y54 : Ty := .own 41 y10
def ti3 : TI := { k := .x, ag := false, sz := 1, by_ := 8, z := .int .i64 0, z0 := [.v (.i .i64) 0], fs := [], c := (.i .i64) }
def ti4 : TI := { k := .bool, ag := false, sz := 1, by_ := 1, z := .bool false, z0 := [.v .b (false)], fs := [], c := .b }
def ti5 : TI := { k := .x, ag := false, sz := 1, by_ := 1, z := .int .u8 0, z0 := [.v (.i .u8) 0], fs := [], c := (.i .u8) }
def ti9 : TI := { k := .str, ag := false, sz := 1, by_ := 16, z := .string ByteArray.empty, z0 := [.v .s ByteArray.empty], fs := [], c := .s }
def ti21 : TI := { k := .x, ag := false, sz := 1, by_ := 4, z := .int .i32 0, z0 := [.v (.i .i32) 0], fs := [], c := (.i .i32) }
def ti22 : TI := { k := .sl 53, ag := false, sz := 1, by_ := 24, z := .slice none 0 0, z0 := [.v y20 ([] : List (Int × Int × Int × Int × Int × Int × List api_Range × Bool))], fs := [], c := y20 }
def ti23 : TI := { k := .sl 47, ag := false, sz := 1, by_ := 24, z := .slice none 0 0, z0 := [.v y50 ([] : List api_Run)], fs := [], c := y50 }
def ti25 : TI := { k := .x, ag := false, sz := 1, by_ := 8, z := .pointer none, z0 := [.np], fs := [], c := y39 }
def ti28 : TI := { k := .sl 40, ag := false, sz := 1, by_ := 24, z := .slice none 0 0, z0 := [.v y40 ([] : List api_Item)], fs := [], c := y40 }
def ti29 : TI := { k := .x, ag := false, sz := 1, by_ := 8, z := .int .i64 0, z0 := [.v (.i .i64) 0], fs := [], c := (.i .i64) }
def ti40 : TI := { k := .x, ag := true, sz := 9, by_ := 72, z := .agg #[.int .i64 0, .int .i64 0, .int .i64 0, .int .i64 0, .bool false, .int .i64 0, .bool false, .int .i64 0, .int .i64 0], z0 := [.v (.i .i64) 0, .v (.i .i64) 0, .v (.i .i64) 0, .v (.i .i64) 0, .v .b (false), .v (.i .i64) 0, .v .b (false), .v (.i .i64) 0, .v (.i .i64) 0], fs := [(0, false, 1), (1, false, 1), (2, false, 1), (3, false, 1), (4, false, 1), (5, false, 1), (6, false, 1), (7, false, 1), (8, false, 1)], c := y29 }
def ti41 : TI := { k := .sl 3, ag := false, sz := 1, by_ := 24, z := .slice none 0 0, z0 := [.v y10 ([] : List Int)], fs := [], c := y10 }
def ti47 : TI := { k := .x, ag := true, sz := 2, by_ := 16, z := .agg #[.int .i64 0, .int .i64 0], z0 := [.v (.i .i64) 0, .v (.i .i64) 0], fs := [(0, false, 1), (1, false, 1)], c := y0 }
def ti51 : TI := { k := .sl 77, ag := false, sz := 1, by_ := 24, z := .slice none 0 0, z0 := [.v y12 ([] : List api_Range)], fs := [], c := y12 }
def ti53 : TI := { k := .x, ag := true, sz := 8, by_ := 80, z := .agg #[.int .i64 0, .int .i64 0, .int .i64 0, .int .i64 0, .int .i64 0, .int .i64 0, .slice none 0 0, .bool false], z0 := [.v (.i .i64) 0, .v (.i .i64) 0, .v (.i .i64) 0, .v (.i .i64) 0, .v (.i .i64) 0, .v (.i .i64) 0, .v y12 ([] : List api_Range), .v .b (false)], fs := [(0, false, 1), (1, false, 1), (2, false, 1), (3, false, 1), (4, false, 1), (5, false, 1), (6, false, 1), (7, false, 1)], c := y19 }
def ti58 : TI := { k := .x, ag := false, sz := 1, by_ := 8, z := .pointer none, z0 := [.np], fs := [], c := y53 }
def ti60 : TI := { k := .x, ag := true, sz := 4, by_ := 48, z := .agg #[.pointer none, .slice none 0 0, .int .i64 0, .bool false], z0 := [.np, .v y40 ([] : List api_Item), .v (.i .i64) 0, .v .b (false)], fs := [(0, false, 1), (1, false, 1), (2, false, 1), (3, false, 1)], c := y43 }
def ti77 : TI := { k := .x, ag := true, sz := 3, by_ := 24, z := .agg #[.int .i64 0, .int .i64 0, .int .i64 0], z0 := [.v (.i .i64) 0, .v (.i .i64) 0, .v (.i .i64) 0], fs := [(0, false, 1), (1, false, 1), (2, false, 1)], c := y1 }
def ti80 : TI := { k := .x, ag := true, sz := 1, by_ := 24, z := .agg #[.slice none 0 0], z0 := [.v y20 ([] : List (Int × Int × Int × Int × Int × Int × List api_Range × Bool))], fs := [(0, false, 1)], c := y20 }
def ti90 : TI := { k := .sl 41, ag := false, sz := 1, by_ := 24, z := .slice none 0 0, z0 := [.v y54 ([] : List (List Int))], fs := [], c := y54 }
def TT : List (Nat × TI) := [(3, ti3), (4, ti4), (5, ti5), (9, ti9), (21, ti21), (22, ti22), (23, ti23), (25, ti25), (28, ti28), (29, ti29), (40, ti40), (41, ti41), (47, ti47), (51, ti51), (53, ti53), (58, ti58), (60, ti60), (77, ti77), (80, ti80), (90, ti90)]
theorem ti3_ok : TIok Try.prog 3 ti3 := ⟨trivial, by kernel_rfl, by kernel_rfl, by kernel_rfl, eq_true (lt_of rfl), eq_true (lt_of rfl), ⟨rfl, rfl, trivial⟩, trivial, trivial⟩
theorem ti4_ok : TIok Try.prog 4 ti4 := ⟨(by kernel_rfl : Try.prog.underlying 4 = some (.bool)), by kernel_rfl, by kernel_rfl, by kernel_rfl, eq_true (lt_of rfl), eq_true (lt_of rfl), ⟨rfl, rfl, trivial⟩, trivial, trivial⟩
theorem ti5_ok : TIok Try.prog 5 ti5 := ⟨trivial, by kernel_rfl, by kernel_rfl, by kernel_rfl, eq_true (lt_of rfl), eq_true (lt_of rfl), ⟨rfl, rfl, trivial⟩, trivial, trivial⟩
theorem ti9_ok : TIok Try.prog 9 ti9 := ⟨(by kernel_rfl : Try.prog.underlying 9 = some (.string)), by kernel_rfl, by kernel_rfl, by kernel_rfl, eq_true (lt_of rfl), eq_true (lt_of rfl), ⟨rfl, rfl, trivial⟩, trivial, trivial⟩
theorem ti21_ok : TIok Try.prog 21 ti21 := ⟨trivial, by kernel_rfl, by kernel_rfl, by kernel_rfl, eq_true (lt_of rfl), eq_true (lt_of rfl), ⟨rfl, rfl, trivial⟩, trivial, trivial⟩
theorem ti22_ok : TIok Try.prog 22 ti22 := ⟨(by kernel_rfl : Try.prog.underlying 22 = some (.slice 53)), by kernel_rfl, by kernel_rfl, by kernel_rfl, eq_true (lt_of rfl), eq_true (lt_of rfl), ⟨lt_of rfl, rfl, trivial⟩, trivial, trivial⟩
theorem ti23_ok : TIok Try.prog 23 ti23 := ⟨(by kernel_rfl : Try.prog.underlying 23 = some (.slice 47)), by kernel_rfl, by kernel_rfl, by kernel_rfl, eq_true (lt_of rfl), eq_true (lt_of rfl), ⟨lt_of rfl, rfl, trivial⟩, trivial, trivial⟩
theorem ti25_ok : TIok Try.prog 25 ti25 := ⟨trivial, by kernel_rfl, by kernel_rfl, by kernel_rfl, eq_true (lt_of rfl), eq_true (lt_of rfl), ⟨rfl, rfl, trivial⟩, trivial, trivial⟩
theorem ti28_ok : TIok Try.prog 28 ti28 := ⟨(by kernel_rfl : Try.prog.underlying 28 = some (.slice 40)), by kernel_rfl, by kernel_rfl, by kernel_rfl, eq_true (lt_of rfl), eq_true (lt_of rfl), ⟨lt_of rfl, rfl, trivial⟩, trivial, trivial⟩
theorem ti29_ok : TIok Try.prog 29 ti29 := ⟨trivial, by kernel_rfl, by kernel_rfl, by kernel_rfl, eq_true (lt_of rfl), eq_true (lt_of rfl), ⟨rfl, rfl, trivial⟩, trivial, trivial⟩
theorem ti40_ok : TIok Try.prog 40 ti40 := ⟨trivial, by kernel_rfl, by kernel_rfl, by kernel_rfl, eq_true (lt_of rfl), eq_true (lt_of rfl), ⟨rfl, rfl, rfl, rfl, rfl, rfl, rfl, rfl, rfl, rfl, rfl, rfl, rfl, rfl, rfl, rfl, rfl, rfl, trivial⟩, ⟨by kernel_rfl, by kernel_rfl, by kernel_rfl, by kernel_rfl, by kernel_rfl, by kernel_rfl, by kernel_rfl, by kernel_rfl, by kernel_rfl, by kernel_rfl, by kernel_rfl, by kernel_rfl, by kernel_rfl, by kernel_rfl, by kernel_rfl, by kernel_rfl, by kernel_rfl, by kernel_rfl, trivial⟩, (by kernel_rfl : places Try.prog 40 = some (ti40.fs.map fun q => (q.1, q.2.2)).toArray)⟩
theorem ti41_ok : TIok Try.prog 41 ti41 := ⟨(by kernel_rfl : Try.prog.underlying 41 = some (.slice 3)), by kernel_rfl, by kernel_rfl, by kernel_rfl, eq_true (lt_of rfl), eq_true (lt_of rfl), ⟨lt_of rfl, rfl, trivial⟩, trivial, trivial⟩
theorem ti47_ok : TIok Try.prog 47 ti47 := ⟨trivial, by kernel_rfl, by kernel_rfl, by kernel_rfl, eq_true (lt_of rfl), eq_true (lt_of rfl), ⟨rfl, rfl, rfl, rfl, trivial⟩, ⟨by kernel_rfl, by kernel_rfl, by kernel_rfl, by kernel_rfl, trivial⟩, (by kernel_rfl : places Try.prog 47 = some (ti47.fs.map fun q => (q.1, q.2.2)).toArray)⟩
theorem ti51_ok : TIok Try.prog 51 ti51 := ⟨(by kernel_rfl : Try.prog.underlying 51 = some (.slice 77)), by kernel_rfl, by kernel_rfl, by kernel_rfl, eq_true (lt_of rfl), eq_true (lt_of rfl), ⟨lt_of rfl, rfl, trivial⟩, trivial, trivial⟩
theorem ti53_ok : TIok Try.prog 53 ti53 := ⟨trivial, by kernel_rfl, by kernel_rfl, by kernel_rfl, eq_true (lt_of rfl), eq_true (lt_of rfl), ⟨rfl, rfl, rfl, rfl, rfl, rfl, rfl, rfl, rfl, rfl, rfl, rfl, lt_of rfl, rfl, rfl, rfl, trivial⟩, ⟨by kernel_rfl, by kernel_rfl, by kernel_rfl, by kernel_rfl, by kernel_rfl, by kernel_rfl, by kernel_rfl, by kernel_rfl, by kernel_rfl, by kernel_rfl, by kernel_rfl, by kernel_rfl, by kernel_rfl, by kernel_rfl, by kernel_rfl, by kernel_rfl, trivial⟩, (by kernel_rfl : places Try.prog 53 = some (ti53.fs.map fun q => (q.1, q.2.2)).toArray)⟩
theorem ti58_ok : TIok Try.prog 58 ti58 := ⟨trivial, by kernel_rfl, by kernel_rfl, by kernel_rfl, eq_true (lt_of rfl), eq_true (lt_of rfl), ⟨rfl, rfl, trivial⟩, trivial, trivial⟩
theorem ti60_ok : TIok Try.prog 60 ti60 := ⟨trivial, by kernel_rfl, by kernel_rfl, by kernel_rfl, eq_true (lt_of rfl), eq_true (lt_of rfl), ⟨rfl, rfl, lt_of rfl, rfl, rfl, rfl, rfl, rfl, trivial⟩, ⟨by kernel_rfl, by kernel_rfl, by kernel_rfl, by kernel_rfl, by kernel_rfl, by kernel_rfl, by kernel_rfl, by kernel_rfl, trivial⟩, (by kernel_rfl : places Try.prog 60 = some (ti60.fs.map fun q => (q.1, q.2.2)).toArray)⟩
theorem ti77_ok : TIok Try.prog 77 ti77 := ⟨trivial, by kernel_rfl, by kernel_rfl, by kernel_rfl, eq_true (lt_of rfl), eq_true (lt_of rfl), ⟨rfl, rfl, rfl, rfl, rfl, rfl, trivial⟩, ⟨by kernel_rfl, by kernel_rfl, by kernel_rfl, by kernel_rfl, by kernel_rfl, by kernel_rfl, trivial⟩, (by kernel_rfl : places Try.prog 77 = some (ti77.fs.map fun q => (q.1, q.2.2)).toArray)⟩
theorem ti80_ok : TIok Try.prog 80 ti80 := ⟨trivial, by kernel_rfl, by kernel_rfl, by kernel_rfl, eq_true (lt_of rfl), eq_true (lt_of rfl), ⟨lt_of rfl, rfl, trivial⟩, ⟨by kernel_rfl, by kernel_rfl, trivial⟩, (by kernel_rfl : places Try.prog 80 = some (ti80.fs.map fun q => (q.1, q.2.2)).toArray)⟩
theorem ti90_ok : TIok Try.prog 90 ti90 := ⟨(by kernel_rfl : Try.prog.underlying 90 = some (.slice 41)), by kernel_rfl, by kernel_rfl, by kernel_rfl, eq_true (lt_of rfl), eq_true (lt_of rfl), ⟨lt_of rfl, rfl, trivial⟩, trivial, trivial⟩
theorem TT_ok : ∀ p, p ∈ TT → TIok Try.prog p.1 p.2 := List.forall_mem_cons.2 ⟨ti3_ok, List.forall_mem_cons.2 ⟨ti4_ok, List.forall_mem_cons.2 ⟨ti5_ok, List.forall_mem_cons.2 ⟨ti9_ok, List.forall_mem_cons.2 ⟨ti21_ok, List.forall_mem_cons.2 ⟨ti22_ok, List.forall_mem_cons.2 ⟨ti23_ok, List.forall_mem_cons.2 ⟨ti25_ok, List.forall_mem_cons.2 ⟨ti28_ok, List.forall_mem_cons.2 ⟨ti29_ok, List.forall_mem_cons.2 ⟨ti40_ok, List.forall_mem_cons.2 ⟨ti41_ok, List.forall_mem_cons.2 ⟨ti47_ok, List.forall_mem_cons.2 ⟨ti51_ok, List.forall_mem_cons.2 ⟨ti53_ok, List.forall_mem_cons.2 ⟨ti58_ok, List.forall_mem_cons.2 ⟨ti60_ok, List.forall_mem_cons.2 ⟨ti77_ok, List.forall_mem_cons.2 ⟨ti80_ok, List.forall_mem_cons.2 ⟨ti90_ok, fun _ h => nomatch h⟩⟩⟩⟩⟩⟩⟩⟩⟩⟩⟩⟩⟩⟩⟩⟩⟩⟩⟩⟩
def AD : List Nat := []
theorem AD_ok : ∀ f, f ∈ AD → AddOk Try.prog f := fun _ h => nomatch h
end Go.Proofs.Ytkkhgbcmjeaghaa.Vm
