
import Derived.Test.YtnlocbjojbgdcaaV3
import Derived.Test.YtnlocbjojbgdcaaProg
namespace Go.Proofs.Ytnlocbjojbgdcaa.Vm
open Go
open _root_.Go.RowKit (wrap64)
set_option maxRecDepth 100000
set_option linter.unusedVariables false
abbrev runtime_boundsError := Int × Int × Bool × Int
abbrev runtime_errorAddressString := ByteArray × Int
abbrev api_Settings := Int × Int × Int × Int × Int × Int × Int
abbrev regletlaw13_Start := (List (Int × Int × Int × Bool)) × Int × Int × Int × Int × Int × Int × Int × Int
abbrev regletlaw13_Op := Int × Int × (List (Int × Int × Int × Bool)) × Int
abbrev repage_Book := (List (Int × Int × Int × Bool)) × List Int × Int × Int × Int × Int × Int × Int × Int × Int
abbrev api_Slot := Int × Int × Int × Bool
abbrev A0 := List api_Slot × List Int × Int × Int × Int × Int × Int × Int × Int × Int
abbrev A1 := Int × Int × Int × (List api_Slot × List Int × Int × Int × Int × Int × Int × Int × Int × Int)
abbrev A2 := (Option (List api_Slot × List Int × Int × Int × Int × Int × Int × Int × Int × Int)) × Int
abbrev A3 := (Option (List api_Slot × List Int × Int × Int × Int × Int × Int × Int × Int × Int)) × (List api_Slot × Int × Int × Int × Int × Int × Int × Int × Int) × Bool
abbrev A4 := List api_Slot × Int × Int × Int × Int × Int × Int × Int × Int
abbrev A5 := Int × Int × List api_Slot × Int
abbrev A6 := Option (List api_Slot × List Int × Int × Int × Int × Int × Int × Int × Int × Int)
abbrev A7 := (Option (List api_Slot × List Int × Int × Int × Int × Int × Int × Int × Int × Int))
abbrev A8 := Int × Int × (List api_Slot × List Int × Int × Int × Int × Int × Int × Int × Int × Int)
abbrev A9 := (List api_Slot × Int × Int × Int × Int × Int × Int × Int × Int) × Int × Int
abbrev A10 := (List api_Slot × Int × Int × Int × Int × Int × Int × Int × Int) × Bool × (List api_Slot × List Int × Int × Int × Int × Int × Int × Int × Int × Int)
abbrev A11 := List (Int × Int × List api_Slot × Int)
abbrev y0 : Ty := .own 3 (.i .i64)
abbrev y1 : Ty := .cons (.i .i64) .b
abbrev y2 : Ty := .cons (.i .i64) y1
abbrev y3 : Ty := .cons (.i .i64) y2
abbrev y4 : Ty := .row true y3
abbrev y5 : Ty := .row true (.i .i64)
abbrev y6 : Ty := .cons (.i .i64) (.i .i64)
abbrev y7 : Ty := .cons (.i .i64) y6
abbrev y8 : Ty := .cons (.i .i64) y7
abbrev y9 : Ty := .cons (.i .i64) y8
abbrev y10 : Ty := .cons (.i .i64) y9
abbrev y11 : Ty := .cons (.i .i64) y10
abbrev y12 : Ty := .cons (.i .i64) y11
abbrev y13 : Ty := .cons y5 y12
abbrev y14 : Ty := .cons y4 y13
abbrev y15 : Ty := .ptr true y14
abbrev y16 : Ty := .own 71 y3
abbrev y17 : Ty := .cons y0 y12
abbrev y18 : Ty := .cons y16 y17
abbrev y19 : Ty := .cons y4 y12
abbrev y20 : Ty := .cons y16 y12
abbrev y21 : Ty := .row false y3
abbrev y22 : Ty := .cons y21 y12
abbrev y23 : Ty := .cons y21 (.i .i64)
abbrev y24 : Ty := .cons (.i .i64) y23
abbrev y25 : Ty := .cons (.i .i64) y24
abbrev y26 : Ty := .row false (.i .i64)
abbrev y27 : Ty := .cons y26 y12
abbrev y28 : Ty := .cons y21 y27
abbrev y29 : Ty := .row false y25
abbrev y30 : Ty := .cons y16 (.i .i64)
abbrev y31 : Ty := .cons (.i .i64) y30
abbrev y32 : Ty := .cons (.i .i64) y31
abbrev y33 : Ty := .ptr false y28
abbrev y34 : Ty := .own 28 y32
def ti3 : TI := { k := .x, ag := false, sz := 1, by_ := 8, z := .int .i64 0, z0 := [.v (.i .i64) 0], fs := [], c := (.i .i64) }
def ti4 : TI := { k := .bool, ag := false, sz := 1, by_ := 1, z := .bool false, z0 := [.v .b (false)], fs := [], c := .b }
def ti22 : TI := { k := .sl 71, ag := false, sz := 1, by_ := 24, z := .slice none 0 0, z0 := [.v y16 ([] : List api_Slot)], fs := [], c := y16 }
def ti24 : TI := { k := .x, ag := true, sz := 7, by_ := 56, z := .agg #[.int .i64 0, .int .i64 0, .int .i64 0, .int .i64 0, .int .i64 0, .int .i64 0, .int .i64 0], z0 := [.v (.i .i64) 0, .v (.i .i64) 0, .v (.i .i64) 0, .v (.i .i64) 0, .v (.i .i64) 0, .v (.i .i64) 0, .v (.i .i64) 0], fs := [(0, false, 1), (1, false, 1), (2, false, 1), (3, false, 1), (4, false, 1), (5, false, 1), (6, false, 1)], c := y11 }
def ti26 : TI := { k := .x, ag := true, sz := 9, by_ := 88, z := .agg #[.slice none 0 0, .int .i64 0, .int .i64 0, .int .i64 0, .int .i64 0, .int .i64 0, .int .i64 0, .int .i64 0, .int .i64 0], z0 := [.v y16 ([] : List api_Slot), .v (.i .i64) 0, .v (.i .i64) 0, .v (.i .i64) 0, .v (.i .i64) 0, .v (.i .i64) 0, .v (.i .i64) 0, .v (.i .i64) 0, .v (.i .i64) 0], fs := [(0, false, 1), (1, false, 1), (2, true, 7)], c := y20 }
def ti28 : TI := { k := .x, ag := true, sz := 4, by_ := 48, z := .agg #[.int .i64 0, .int .i64 0, .slice none 0 0, .int .i64 0], z0 := [.v (.i .i64) 0, .v (.i .i64) 0, .v y16 ([] : List api_Slot), .v (.i .i64) 0], fs := [(0, false, 1), (1, false, 1), (2, false, 1), (3, false, 1)], c := y32 }
def ti30 : TI := { k := .x, ag := false, sz := 1, by_ := 8, z := .pointer none, z0 := [.np], fs := [], c := y33 }
def ti32 : TI := { k := .x, ag := true, sz := 9, by_ := 88, z := .agg #[.slice none 0 0, .int .i64 0, .int .i64 0, .int .i64 0, .int .i64 0, .int .i64 0, .int .i64 0, .int .i64 0, .int .i64 0], z0 := [.v y16 ([] : List api_Slot), .v (.i .i64) 0, .v (.i .i64) 0, .v (.i .i64) 0, .v (.i .i64) 0, .v (.i .i64) 0, .v (.i .i64) 0, .v (.i .i64) 0, .v (.i .i64) 0], fs := [(0, false, 1), (1, false, 1), (2, true, 7)], c := y20 }
def ti36 : TI := { k := .sl 3, ag := false, sz := 1, by_ := 24, z := .slice none 0 0, z0 := [.v y0 ([] : List Int)], fs := [], c := y0 }
def ti38 : TI := { k := .x, ag := false, sz := 1, by_ := 8, z := .int .i64 0, z0 := [.v (.i .i64) 0], fs := [], c := (.i .i64) }
def ti52 : TI := { k := .sl 28, ag := false, sz := 1, by_ := 24, z := .slice none 0 0, z0 := [.v y34 ([] : List (Int × Int × List api_Slot × Int))], fs := [], c := y34 }
def ti62 : TI := { k := .x, ag := true, sz := 10, by_ := 112, z := .agg #[.slice none 0 0, .slice none 0 0, .int .i64 0, .int .i64 0, .int .i64 0, .int .i64 0, .int .i64 0, .int .i64 0, .int .i64 0, .int .i64 0], z0 := [.v y16 ([] : List api_Slot), .v y0 ([] : List Int), .v (.i .i64) 0, .v (.i .i64) 0, .v (.i .i64) 0, .v (.i .i64) 0, .v (.i .i64) 0, .v (.i .i64) 0, .v (.i .i64) 0, .v (.i .i64) 0], fs := [(0, false, 1), (1, false, 1), (2, false, 1), (3, true, 7)], c := y18 }
def ti71 : TI := { k := .x, ag := true, sz := 4, by_ := 32, z := .agg #[.int .i64 0, .int .i64 0, .int .i64 0, .bool false], z0 := [.v (.i .i64) 0, .v (.i .i64) 0, .v (.i .i64) 0, .v .b (false)], fs := [(0, false, 1), (1, false, 1), (2, false, 1), (3, false, 1)], c := y3 }
def TT : List (Nat × TI) := [(3, ti3), (4, ti4), (22, ti22), (24, ti24), (26, ti26), (28, ti28), (30, ti30), (32, ti32), (36, ti36), (38, ti38), (52, ti52), (62, ti62), (71, ti71)]
theorem ti3_ok : TIok Try.prog 3 ti3 := ⟨trivial, by kernel_rfl, by kernel_rfl, by kernel_rfl, eq_true (lt_of rfl), eq_true (lt_of rfl), ⟨rfl, rfl, trivial⟩, trivial, trivial⟩
theorem ti4_ok : TIok Try.prog 4 ti4 := ⟨(by kernel_rfl : Try.prog.underlying 4 = some (.bool)), by kernel_rfl, by kernel_rfl, by kernel_rfl, eq_true (lt_of rfl), eq_true (lt_of rfl), ⟨rfl, rfl, trivial⟩, trivial, trivial⟩
theorem ti22_ok : TIok Try.prog 22 ti22 := ⟨(by kernel_rfl : Try.prog.underlying 22 = some (.slice 71)), by kernel_rfl, by kernel_rfl, by kernel_rfl, eq_true (lt_of rfl), eq_true (lt_of rfl), ⟨lt_of rfl, rfl, trivial⟩, trivial, trivial⟩
theorem ti24_ok : TIok Try.prog 24 ti24 := ⟨trivial, by kernel_rfl, by kernel_rfl, by kernel_rfl, eq_true (lt_of rfl), eq_true (lt_of rfl), ⟨rfl, rfl, rfl, rfl, rfl, rfl, rfl, rfl, rfl, rfl, rfl, rfl, rfl, rfl, trivial⟩, ⟨by kernel_rfl, by kernel_rfl, by kernel_rfl, by kernel_rfl, by kernel_rfl, by kernel_rfl, by kernel_rfl, by kernel_rfl, by kernel_rfl, by kernel_rfl, by kernel_rfl, by kernel_rfl, by kernel_rfl, by kernel_rfl, trivial⟩, (by kernel_rfl : places Try.prog 24 = some (ti24.fs.map fun q => (q.1, q.2.2)).toArray)⟩
theorem ti26_ok : TIok Try.prog 26 ti26 := ⟨trivial, by kernel_rfl, by kernel_rfl, by kernel_rfl, eq_true (lt_of rfl), eq_true (lt_of rfl), ⟨lt_of rfl, rfl, rfl, rfl, rfl, rfl, rfl, rfl, rfl, rfl, rfl, rfl, rfl, rfl, rfl, rfl, rfl, rfl, trivial⟩, ⟨by kernel_rfl, by kernel_rfl, by kernel_rfl, by kernel_rfl, by kernel_rfl, by kernel_rfl, trivial⟩, (by kernel_rfl : places Try.prog 26 = some (ti26.fs.map fun q => (q.1, q.2.2)).toArray)⟩
theorem ti28_ok : TIok Try.prog 28 ti28 := ⟨trivial, by kernel_rfl, by kernel_rfl, by kernel_rfl, eq_true (lt_of rfl), eq_true (lt_of rfl), ⟨rfl, rfl, rfl, rfl, lt_of rfl, rfl, rfl, rfl, trivial⟩, ⟨by kernel_rfl, by kernel_rfl, by kernel_rfl, by kernel_rfl, by kernel_rfl, by kernel_rfl, by kernel_rfl, by kernel_rfl, trivial⟩, (by kernel_rfl : places Try.prog 28 = some (ti28.fs.map fun q => (q.1, q.2.2)).toArray)⟩
theorem ti30_ok : TIok Try.prog 30 ti30 := ⟨trivial, by kernel_rfl, by kernel_rfl, by kernel_rfl, eq_true (lt_of rfl), eq_true (lt_of rfl), ⟨rfl, rfl, trivial⟩, trivial, trivial⟩
theorem ti32_ok : TIok Try.prog 32 ti32 := ⟨trivial, by kernel_rfl, by kernel_rfl, by kernel_rfl, eq_true (lt_of rfl), eq_true (lt_of rfl), ⟨lt_of rfl, rfl, rfl, rfl, rfl, rfl, rfl, rfl, rfl, rfl, rfl, rfl, rfl, rfl, rfl, rfl, rfl, rfl, trivial⟩, ⟨by kernel_rfl, by kernel_rfl, by kernel_rfl, by kernel_rfl, by kernel_rfl, by kernel_rfl, trivial⟩, (by kernel_rfl : places Try.prog 32 = some (ti32.fs.map fun q => (q.1, q.2.2)).toArray)⟩
theorem ti36_ok : TIok Try.prog 36 ti36 := ⟨(by kernel_rfl : Try.prog.underlying 36 = some (.slice 3)), by kernel_rfl, by kernel_rfl, by kernel_rfl, eq_true (lt_of rfl), eq_true (lt_of rfl), ⟨lt_of rfl, rfl, trivial⟩, trivial, trivial⟩
theorem ti38_ok : TIok Try.prog 38 ti38 := ⟨trivial, by kernel_rfl, by kernel_rfl, by kernel_rfl, eq_true (lt_of rfl), eq_true (lt_of rfl), ⟨rfl, rfl, trivial⟩, trivial, trivial⟩
theorem ti52_ok : TIok Try.prog 52 ti52 := ⟨(by kernel_rfl : Try.prog.underlying 52 = some (.slice 28)), by kernel_rfl, by kernel_rfl, by kernel_rfl, eq_true (lt_of rfl), eq_true (lt_of rfl), ⟨lt_of rfl, rfl, trivial⟩, trivial, trivial⟩
theorem ti62_ok : TIok Try.prog 62 ti62 := ⟨trivial, by kernel_rfl, by kernel_rfl, by kernel_rfl, eq_true (lt_of rfl), eq_true (lt_of rfl), ⟨lt_of rfl, rfl, lt_of rfl, rfl, rfl, rfl, rfl, rfl, rfl, rfl, rfl, rfl, rfl, rfl, rfl, rfl, rfl, rfl, rfl, rfl, trivial⟩, ⟨by kernel_rfl, by kernel_rfl, by kernel_rfl, by kernel_rfl, by kernel_rfl, by kernel_rfl, by kernel_rfl, by kernel_rfl, trivial⟩, (by kernel_rfl : places Try.prog 62 = some (ti62.fs.map fun q => (q.1, q.2.2)).toArray)⟩
theorem ti71_ok : TIok Try.prog 71 ti71 := ⟨trivial, by kernel_rfl, by kernel_rfl, by kernel_rfl, eq_true (lt_of rfl), eq_true (lt_of rfl), ⟨rfl, rfl, rfl, rfl, rfl, rfl, rfl, rfl, trivial⟩, ⟨by kernel_rfl, by kernel_rfl, by kernel_rfl, by kernel_rfl, by kernel_rfl, by kernel_rfl, by kernel_rfl, by kernel_rfl, trivial⟩, (by kernel_rfl : places Try.prog 71 = some (ti71.fs.map fun q => (q.1, q.2.2)).toArray)⟩
theorem TT_ok : ∀ p, p ∈ TT → TIok Try.prog p.1 p.2 := List.forall_mem_cons.2 ⟨ti3_ok, List.forall_mem_cons.2 ⟨ti4_ok, List.forall_mem_cons.2 ⟨ti22_ok, List.forall_mem_cons.2 ⟨ti24_ok, List.forall_mem_cons.2 ⟨ti26_ok, List.forall_mem_cons.2 ⟨ti28_ok, List.forall_mem_cons.2 ⟨ti30_ok, List.forall_mem_cons.2 ⟨ti32_ok, List.forall_mem_cons.2 ⟨ti36_ok, List.forall_mem_cons.2 ⟨ti38_ok, List.forall_mem_cons.2 ⟨ti52_ok, List.forall_mem_cons.2 ⟨ti62_ok, List.forall_mem_cons.2 ⟨ti71_ok, fun _ h => nomatch h⟩⟩⟩⟩⟩⟩⟩⟩⟩⟩⟩⟩⟩
def AD : List Nat := []
theorem AD_ok : ∀ f, f ∈ AD → AddOk Try.prog f := fun _ h => nomatch h
noncomputable abbrev SS : SD := ⟨Try.prog, TT, AD, TT_ok, AD_ok⟩
end Go.Proofs.Ytnlocbjojbgdcaa.Vm
