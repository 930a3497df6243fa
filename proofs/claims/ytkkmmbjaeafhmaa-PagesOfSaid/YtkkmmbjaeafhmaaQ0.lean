-- PRINTED by vq.py. Not trusted: Lean checks it.
import Derived.Test.YtkkmmbjaeafhmaaV4
import Derived.Test.YtkkmmbjaeafhmaaProg
namespace Go.Proofs.Ytkkmmbjaeafhmaa.Vm
open Go
open _root_.Go.RowKit (wrap64)
set_option maxRecDepth 100000
set_option linter.unusedVariables false
abbrev runtime_boundsError := Int × Int × Bool × Int
abbrev runtime_errorAddressString := ByteArray × Int
abbrev api_Line := ByteArray × (List (Int × Int)) × Int × Int × Int × Bool × Int × Bool × Bool
abbrev api_Run := Int × Int
abbrev api_Settings := Int × Int × Int × Int × Int × Int × Int
abbrev api_Slot := Int × Int × Int × Bool
abbrev A0 := (List (List (ByteArray × List api_Run × Int × Int × Int × Bool × Int × Bool × Bool)))
abbrev A1 := List (ByteArray × List api_Run × Int × Int × Int × Bool × Int × Bool × Bool)
abbrev A2 := List (List (ByteArray × List api_Run × Int × Int × Int × Bool × Int × Bool × Bool))
abbrev A3 := ByteArray × List api_Run × Int × Int × Int × Bool × Int × Bool × Bool
abbrev y0 : Ty := .cons (.i .i64) (.i .i64)
abbrev y1 : Ty := .cons (.i .i64) y0
abbrev y2 : Ty := .cons (.i .i64) y1
abbrev y3 : Ty := .cons (.i .i64) y2
abbrev y4 : Ty := .cons (.i .i64) y3
abbrev y5 : Ty := .cons (.i .i64) y4
abbrev y6 : Ty := .own 3 (.i .i64)
abbrev y7 : Ty := .cons (.i .i64) .b
abbrev y8 : Ty := .cons (.i .i64) y7
abbrev y9 : Ty := .cons (.i .i64) y8
abbrev y10 : Ty := .row true y9
abbrev y11 : Ty := .own 50 y9
abbrev y12 : Ty := .row true (.i .i64)
abbrev y13 : Ty := .own 35 y0
abbrev y14 : Ty := .cons .b .b
abbrev y15 : Ty := .cons (.i .i64) y14
abbrev y16 : Ty := .cons .b y15
abbrev y17 : Ty := .cons (.i .i64) y16
abbrev y18 : Ty := .cons (.i .i64) y17
abbrev y19 : Ty := .cons (.i .i64) y18
abbrev y20 : Ty := .cons y13 y19
abbrev y21 : Ty := .cons .s y20
abbrev y22 : Ty := .own 27 y21
abbrev y23 : Ty := .own 32 y22
abbrev y24 : Ty := .row true y0
abbrev y25 : Ty := .cons y24 y19
abbrev y26 : Ty := .cons .s y25
abbrev y27 : Ty := .row true y26
abbrev y28 : Ty := .row false y0
abbrev y29 : Ty := .cons y28 y19
abbrev y30 : Ty := .cons .s y29
abbrev y31 : Ty := .row false y30
abbrev y32 : Ty := .row false (.i .i64)
def ti3 : TI := { k := .x, ag := false, sz := 1, by_ := 8, z := .int .i64 0, z0 := [.v (.i .i64) 0], fs := [], c := (.i .i64) }
def ti4 : TI := { k := .bool, ag := false, sz := 1, by_ := 1, z := .bool false, z0 := [.v .b (false)], fs := [], c := .b }
def ti9 : TI := { k := .str, ag := false, sz := 1, by_ := 16, z := .string ByteArray.empty, z0 := [.v .s ByteArray.empty], fs := [], c := .s }
def ti22 : TI := { k := .sl 27, ag := false, sz := 1, by_ := 24, z := .slice none 0 0, z0 := [.v y22 ([] : List (ByteArray × List api_Run × Int × Int × Int × Bool × Int × Bool × Bool))], fs := [], c := y22 }
def ti23 : TI := { k := .sl 3, ag := false, sz := 1, by_ := 24, z := .slice none 0 0, z0 := [.v y6 ([] : List Int)], fs := [], c := y6 }
def ti25 : TI := { k := .sl 35, ag := false, sz := 1, by_ := 24, z := .slice none 0 0, z0 := [.v y13 ([] : List api_Run)], fs := [], c := y13 }
def ti27 : TI := { k := .x, ag := true, sz := 9, by_ := 88, z := .agg #[.string ByteArray.empty, .slice none 0 0, .int .i64 0, .int .i64 0, .int .i64 0, .bool false, .int .i64 0, .bool false, .bool false], z0 := [.v .s ByteArray.empty, .v y13 ([] : List api_Run), .v (.i .i64) 0, .v (.i .i64) 0, .v (.i .i64) 0, .v .b (false), .v (.i .i64) 0, .v .b (false), .v .b (false)], fs := [(0, false, 1), (1, false, 1), (2, false, 1), (3, false, 1), (4, false, 1), (5, false, 1), (6, false, 1), (7, false, 1), (8, false, 1)], c := y21 }
def ti28 : TI := { k := .sl 32, ag := false, sz := 1, by_ := 24, z := .slice none 0 0, z0 := [.v y23 ([] : List (List (ByteArray × List api_Run × Int × Int × Int × Bool × Int × Bool × Bool)))], fs := [], c := y23 }
def ti32 : TI := { k := .x, ag := true, sz := 1, by_ := 24, z := .agg #[.slice none 0 0], z0 := [.v y22 ([] : List (ByteArray × List api_Run × Int × Int × Int × Bool × Int × Bool × Bool))], fs := [(0, false, 1)], c := y22 }
def ti35 : TI := { k := .x, ag := true, sz := 2, by_ := 16, z := .agg #[.int .i64 0, .int .i64 0], z0 := [.v (.i .i64) 0, .v (.i .i64) 0], fs := [(0, false, 1), (1, false, 1)], c := y0 }
def ti37 : TI := { k := .x, ag := false, sz := 1, by_ := 8, z := .int .i64 0, z0 := [.v (.i .i64) 0], fs := [], c := (.i .i64) }
def ti40 : TI := { k := .sl 50, ag := false, sz := 1, by_ := 24, z := .slice none 0 0, z0 := [.v y11 ([] : List api_Slot)], fs := [], c := y11 }
def ti43 : TI := { k := .x, ag := true, sz := 7, by_ := 56, z := .agg #[.int .i64 0, .int .i64 0, .int .i64 0, .int .i64 0, .int .i64 0, .int .i64 0, .int .i64 0], z0 := [.v (.i .i64) 0, .v (.i .i64) 0, .v (.i .i64) 0, .v (.i .i64) 0, .v (.i .i64) 0, .v (.i .i64) 0, .v (.i .i64) 0], fs := [(0, false, 1), (1, false, 1), (2, false, 1), (3, false, 1), (4, false, 1), (5, false, 1), (6, false, 1)], c := y5 }
def ti50 : TI := { k := .x, ag := true, sz := 4, by_ := 32, z := .agg #[.int .i64 0, .int .i64 0, .int .i64 0, .bool false], z0 := [.v (.i .i64) 0, .v (.i .i64) 0, .v (.i .i64) 0, .v .b (false)], fs := [(0, false, 1), (1, false, 1), (2, false, 1), (3, false, 1)], c := y9 }
def TT : List (Nat × TI) := [(3, ti3), (4, ti4), (9, ti9), (22, ti22), (23, ti23), (25, ti25), (27, ti27), (28, ti28), (32, ti32), (35, ti35), (37, ti37), (40, ti40), (43, ti43), (50, ti50)]
theorem ti3_ok : TIok Try.prog 3 ti3 := ⟨trivial, by kernel_rfl, by kernel_rfl, by kernel_rfl, eq_true (lt_of rfl), eq_true (lt_of rfl), ⟨rfl, rfl, trivial⟩, trivial, trivial⟩
theorem ti4_ok : TIok Try.prog 4 ti4 := ⟨(by kernel_rfl : Try.prog.underlying 4 = some (.bool)), by kernel_rfl, by kernel_rfl, by kernel_rfl, eq_true (lt_of rfl), eq_true (lt_of rfl), ⟨rfl, rfl, trivial⟩, trivial, trivial⟩
theorem ti9_ok : TIok Try.prog 9 ti9 := ⟨(by kernel_rfl : Try.prog.underlying 9 = some (.string)), by kernel_rfl, by kernel_rfl, by kernel_rfl, eq_true (lt_of rfl), eq_true (lt_of rfl), ⟨rfl, rfl, trivial⟩, trivial, trivial⟩
theorem ti22_ok : TIok Try.prog 22 ti22 := ⟨(by kernel_rfl : Try.prog.underlying 22 = some (.slice 27)), by kernel_rfl, by kernel_rfl, by kernel_rfl, eq_true (lt_of rfl), eq_true (lt_of rfl), ⟨lt_of rfl, rfl, trivial⟩, trivial, trivial⟩
theorem ti23_ok : TIok Try.prog 23 ti23 := ⟨(by kernel_rfl : Try.prog.underlying 23 = some (.slice 3)), by kernel_rfl, by kernel_rfl, by kernel_rfl, eq_true (lt_of rfl), eq_true (lt_of rfl), ⟨lt_of rfl, rfl, trivial⟩, trivial, trivial⟩
theorem ti25_ok : TIok Try.prog 25 ti25 := ⟨(by kernel_rfl : Try.prog.underlying 25 = some (.slice 35)), by kernel_rfl, by kernel_rfl, by kernel_rfl, eq_true (lt_of rfl), eq_true (lt_of rfl), ⟨lt_of rfl, rfl, trivial⟩, trivial, trivial⟩
theorem ti27_ok : TIok Try.prog 27 ti27 := ⟨trivial, by kernel_rfl, by kernel_rfl, by kernel_rfl, eq_true (lt_of rfl), eq_true (lt_of rfl), ⟨rfl, rfl, lt_of rfl, rfl, rfl, rfl, rfl, rfl, rfl, rfl, rfl, rfl, rfl, rfl, rfl, rfl, rfl, rfl, trivial⟩, ⟨by kernel_rfl, by kernel_rfl, by kernel_rfl, by kernel_rfl, by kernel_rfl, by kernel_rfl, by kernel_rfl, by kernel_rfl, by kernel_rfl, by kernel_rfl, by kernel_rfl, by kernel_rfl, by kernel_rfl, by kernel_rfl, by kernel_rfl, by kernel_rfl, by kernel_rfl, by kernel_rfl, trivial⟩, (by kernel_rfl : places Try.prog 27 = some (ti27.fs.map fun q => (q.1, q.2.2)).toArray)⟩
theorem ti28_ok : TIok Try.prog 28 ti28 := ⟨(by kernel_rfl : Try.prog.underlying 28 = some (.slice 32)), by kernel_rfl, by kernel_rfl, by kernel_rfl, eq_true (lt_of rfl), eq_true (lt_of rfl), ⟨lt_of rfl, rfl, trivial⟩, trivial, trivial⟩
theorem ti32_ok : TIok Try.prog 32 ti32 := ⟨trivial, by kernel_rfl, by kernel_rfl, by kernel_rfl, eq_true (lt_of rfl), eq_true (lt_of rfl), ⟨lt_of rfl, rfl, trivial⟩, ⟨by kernel_rfl, by kernel_rfl, trivial⟩, (by kernel_rfl : places Try.prog 32 = some (ti32.fs.map fun q => (q.1, q.2.2)).toArray)⟩
theorem ti35_ok : TIok Try.prog 35 ti35 := ⟨trivial, by kernel_rfl, by kernel_rfl, by kernel_rfl, eq_true (lt_of rfl), eq_true (lt_of rfl), ⟨rfl, rfl, rfl, rfl, trivial⟩, ⟨by kernel_rfl, by kernel_rfl, by kernel_rfl, by kernel_rfl, trivial⟩, (by kernel_rfl : places Try.prog 35 = some (ti35.fs.map fun q => (q.1, q.2.2)).toArray)⟩
theorem ti37_ok : TIok Try.prog 37 ti37 := ⟨trivial, by kernel_rfl, by kernel_rfl, by kernel_rfl, eq_true (lt_of rfl), eq_true (lt_of rfl), ⟨rfl, rfl, trivial⟩, trivial, trivial⟩
theorem ti40_ok : TIok Try.prog 40 ti40 := ⟨(by kernel_rfl : Try.prog.underlying 40 = some (.slice 50)), by kernel_rfl, by kernel_rfl, by kernel_rfl, eq_true (lt_of rfl), eq_true (lt_of rfl), ⟨lt_of rfl, rfl, trivial⟩, trivial, trivial⟩
theorem ti43_ok : TIok Try.prog 43 ti43 := ⟨trivial, by kernel_rfl, by kernel_rfl, by kernel_rfl, eq_true (lt_of rfl), eq_true (lt_of rfl), ⟨rfl, rfl, rfl, rfl, rfl, rfl, rfl, rfl, rfl, rfl, rfl, rfl, rfl, rfl, trivial⟩, ⟨by kernel_rfl, by kernel_rfl, by kernel_rfl, by kernel_rfl, by kernel_rfl, by kernel_rfl, by kernel_rfl, by kernel_rfl, by kernel_rfl, by kernel_rfl, by kernel_rfl, by kernel_rfl, by kernel_rfl, by kernel_rfl, trivial⟩, (by kernel_rfl : places Try.prog 43 = some (ti43.fs.map fun q => (q.1, q.2.2)).toArray)⟩
theorem ti50_ok : TIok Try.prog 50 ti50 := ⟨trivial, by kernel_rfl, by kernel_rfl, by kernel_rfl, eq_true (lt_of rfl), eq_true (lt_of rfl), ⟨rfl, rfl, rfl, rfl, rfl, rfl, rfl, rfl, trivial⟩, ⟨by kernel_rfl, by kernel_rfl, by kernel_rfl, by kernel_rfl, by kernel_rfl, by kernel_rfl, by kernel_rfl, by kernel_rfl, trivial⟩, (by kernel_rfl : places Try.prog 50 = some (ti50.fs.map fun q => (q.1, q.2.2)).toArray)⟩
theorem TT_ok : ∀ p, p ∈ TT → TIok Try.prog p.1 p.2 := List.forall_mem_cons.2 ⟨ti3_ok, List.forall_mem_cons.2 ⟨ti4_ok, List.forall_mem_cons.2 ⟨ti9_ok, List.forall_mem_cons.2 ⟨ti22_ok, List.forall_mem_cons.2 ⟨ti23_ok, List.forall_mem_cons.2 ⟨ti25_ok, List.forall_mem_cons.2 ⟨ti27_ok, List.forall_mem_cons.2 ⟨ti28_ok, List.forall_mem_cons.2 ⟨ti32_ok, List.forall_mem_cons.2 ⟨ti35_ok, List.forall_mem_cons.2 ⟨ti37_ok, List.forall_mem_cons.2 ⟨ti40_ok, List.forall_mem_cons.2 ⟨ti43_ok, List.forall_mem_cons.2 ⟨ti50_ok, fun _ h => nomatch h⟩⟩⟩⟩⟩⟩⟩⟩⟩⟩⟩⟩⟩⟩
def AD : List Nat := []
theorem AD_ok : ∀ f, f ∈ AD → AddOk Try.prog f := fun _ h => nomatch h
noncomputable abbrev SS : SD := ⟨Try.prog, TT, AD, TT_ok, AD_ok⟩
end Go.Proofs.Ytkkmmbjaeafhmaa.Vm
