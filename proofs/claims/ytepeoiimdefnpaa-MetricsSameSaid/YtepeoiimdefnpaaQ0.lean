-- PRINTED by vq.py. Not trusted: Lean checks it.
import Derived.Test.YtepeoiimdefnpaaV4
import Derived.Test.YtepeoiimdefnpaaProg
namespace Go.Proofs.Ytepeoiimdefnpaa.Vm
open Go
open _root_.Go.RowKit (wrap64)
set_option maxRecDepth 100000
set_option linter.unusedVariables false
abbrev runtime_boundsError := Int × Int × Bool × Int
abbrev runtime_errorAddressString := ByteArray × Int
abbrev api_Style := Int × Int × Int × Int × Int × Int × (List (Int × Int × Int)) × Bool
abbrev api_Range := Int × Int × Int
abbrev metrics_Table := List (Int × Int × Int × Int × Int × Int × List api_Range × Bool)
abbrev A0 := Int × Int × Int × Int × Int × Int × List api_Range × Bool
abbrev A1 := (Option (List (Int × Int × Int × Int × Int × Int × List api_Range × Bool))) × Int × Int
abbrev A2 := List (Int × Int × Int × Int × Int × Int × List api_Range × Bool)
abbrev A3 := (Option (List (Int × Int × Int × Int × Int × Int × List api_Range × Bool)))
abbrev A4 := (Int × Int × Int × Int × Int × Int × List api_Range × Bool)
abbrev A5 := ByteArray × Nat
abbrev A6 := Option (List (Int × Int × Int × Int × Int × Int × List api_Range × Bool))
abbrev y0 : Ty := .cons (.i .i64) (.i .i64)
abbrev y1 : Ty := .cons (.i .i64) y0
abbrev y2 : Ty := .row true y1
abbrev y3 : Ty := .cons y2 .b
abbrev y4 : Ty := .cons (.i .i64) y3
abbrev y5 : Ty := .cons (.i .i64) y4
abbrev y6 : Ty := .cons (.i .i64) y5
abbrev y7 : Ty := .cons (.i .i64) y6
abbrev y8 : Ty := .cons (.i .i64) y7
abbrev y9 : Ty := .cons (.i .i64) y8
abbrev y10 : Ty := .own 43 y1
abbrev y11 : Ty := .cons y10 .b
abbrev y12 : Ty := .cons (.i .i64) y11
abbrev y13 : Ty := .cons (.i .i64) y12
abbrev y14 : Ty := .cons (.i .i64) y13
abbrev y15 : Ty := .cons (.i .i64) y14
abbrev y16 : Ty := .cons (.i .i64) y15
abbrev y17 : Ty := .cons (.i .i64) y16
abbrev y18 : Ty := .own 27 y17
abbrev y19 : Ty := .row true y9
abbrev y20 : Ty := .own 3 (.i .i64)
abbrev y21 : Ty := .ptr true y19
abbrev y22 : Ty := .row false y1
abbrev y23 : Ty := .cons y22 .b
abbrev y24 : Ty := .cons (.i .i64) y23
abbrev y25 : Ty := .cons (.i .i64) y24
abbrev y26 : Ty := .cons (.i .i64) y25
abbrev y27 : Ty := .cons (.i .i64) y26
abbrev y28 : Ty := .cons (.i .i64) y27
abbrev y29 : Ty := .cons (.i .i64) y28
abbrev y30 : Ty := .row false y29
abbrev y31 : Ty := .ptr false y30
def ti3 : TI := { k := .x, ag := false, sz := 1, by_ := 8, z := .int .i64 0, z0 := [.v (.i .i64) 0], fs := [], c := (.i .i64) }
def ti4 : TI := { k := .bool, ag := false, sz := 1, by_ := 1, z := .bool false, z0 := [.v .b (false)], fs := [], c := .b }
def ti9 : TI := { k := .str, ag := false, sz := 1, by_ := 16, z := .string ByteArray.empty, z0 := [.v .s ByteArray.empty], fs := [], c := .s }
def ti21 : TI := { k := .x, ag := false, sz := 1, by_ := 4, z := .int .i32 0, z0 := [.v (.i .i32) 0], fs := [], c := (.i .i32) }
def ti23 : TI := { k := .sl 27, ag := false, sz := 1, by_ := 24, z := .slice none 0 0, z0 := [.v y18 ([] : List (Int × Int × Int × Int × Int × Int × List api_Range × Bool))], fs := [], c := y18 }
def ti25 : TI := { k := .sl 43, ag := false, sz := 1, by_ := 24, z := .slice none 0 0, z0 := [.v y10 ([] : List api_Range)], fs := [], c := y10 }
def ti27 : TI := { k := .x, ag := true, sz := 8, by_ := 80, z := .agg #[.int .i64 0, .int .i64 0, .int .i64 0, .int .i64 0, .int .i64 0, .int .i64 0, .slice none 0 0, .bool false], z0 := [.v (.i .i64) 0, .v (.i .i64) 0, .v (.i .i64) 0, .v (.i .i64) 0, .v (.i .i64) 0, .v (.i .i64) 0, .v y10 ([] : List api_Range), .v .b (false)], fs := [(0, false, 1), (1, false, 1), (2, false, 1), (3, false, 1), (4, false, 1), (5, false, 1), (6, false, 1), (7, false, 1)], c := y17 }
def ti28 : TI := { k := .x, ag := false, sz := 1, by_ := 8, z := .pointer none, z0 := [.np], fs := [], c := y31 }
def ti29 : TI := { k := .x, ag := false, sz := 1, by_ := 8, z := .int .i64 0, z0 := [.v (.i .i64) 0], fs := [], c := (.i .i64) }
def ti43 : TI := { k := .x, ag := true, sz := 3, by_ := 24, z := .agg #[.int .i64 0, .int .i64 0, .int .i64 0], z0 := [.v (.i .i64) 0, .v (.i .i64) 0, .v (.i .i64) 0], fs := [(0, false, 1), (1, false, 1), (2, false, 1)], c := y1 }
def ti51 : TI := { k := .x, ag := true, sz := 1, by_ := 24, z := .agg #[.slice none 0 0], z0 := [.v y18 ([] : List (Int × Int × Int × Int × Int × Int × List api_Range × Bool))], fs := [(0, false, 1)], c := y18 }
def ti60 : TI := { k := .sl 3, ag := false, sz := 1, by_ := 24, z := .slice none 0 0, z0 := [.v y20 ([] : List Int)], fs := [], c := y20 }
def TT : List (Nat × TI) := [(3, ti3), (4, ti4), (9, ti9), (21, ti21), (23, ti23), (25, ti25), (27, ti27), (28, ti28), (29, ti29), (43, ti43), (51, ti51), (60, ti60)]
theorem ti3_ok : TIok Try.prog 3 ti3 := ⟨trivial, by kernel_rfl, by kernel_rfl, by kernel_rfl, eq_true (lt_of rfl), eq_true (lt_of rfl), ⟨rfl, rfl, trivial⟩, trivial, trivial⟩
theorem ti4_ok : TIok Try.prog 4 ti4 := ⟨(by kernel_rfl : Try.prog.underlying 4 = some (.bool)), by kernel_rfl, by kernel_rfl, by kernel_rfl, eq_true (lt_of rfl), eq_true (lt_of rfl), ⟨rfl, rfl, trivial⟩, trivial, trivial⟩
theorem ti9_ok : TIok Try.prog 9 ti9 := ⟨(by kernel_rfl : Try.prog.underlying 9 = some (.string)), by kernel_rfl, by kernel_rfl, by kernel_rfl, eq_true (lt_of rfl), eq_true (lt_of rfl), ⟨rfl, rfl, trivial⟩, trivial, trivial⟩
theorem ti21_ok : TIok Try.prog 21 ti21 := ⟨trivial, by kernel_rfl, by kernel_rfl, by kernel_rfl, eq_true (lt_of rfl), eq_true (lt_of rfl), ⟨rfl, rfl, trivial⟩, trivial, trivial⟩
theorem ti23_ok : TIok Try.prog 23 ti23 := ⟨(by kernel_rfl : Try.prog.underlying 23 = some (.slice 27)), by kernel_rfl, by kernel_rfl, by kernel_rfl, eq_true (lt_of rfl), eq_true (lt_of rfl), ⟨lt_of rfl, rfl, trivial⟩, trivial, trivial⟩
theorem ti25_ok : TIok Try.prog 25 ti25 := ⟨(by kernel_rfl : Try.prog.underlying 25 = some (.slice 43)), by kernel_rfl, by kernel_rfl, by kernel_rfl, eq_true (lt_of rfl), eq_true (lt_of rfl), ⟨lt_of rfl, rfl, trivial⟩, trivial, trivial⟩
theorem ti27_ok : TIok Try.prog 27 ti27 := ⟨trivial, by kernel_rfl, by kernel_rfl, by kernel_rfl, eq_true (lt_of rfl), eq_true (lt_of rfl), ⟨rfl, rfl, rfl, rfl, rfl, rfl, rfl, rfl, rfl, rfl, rfl, rfl, lt_of rfl, rfl, rfl, rfl, trivial⟩, ⟨by kernel_rfl, by kernel_rfl, by kernel_rfl, by kernel_rfl, by kernel_rfl, by kernel_rfl, by kernel_rfl, by kernel_rfl, by kernel_rfl, by kernel_rfl, by kernel_rfl, by kernel_rfl, by kernel_rfl, by kernel_rfl, by kernel_rfl, by kernel_rfl, trivial⟩, (by kernel_rfl : places Try.prog 27 = some (ti27.fs.map fun q => (q.1, q.2.2)).toArray)⟩
theorem ti28_ok : TIok Try.prog 28 ti28 := ⟨trivial, by kernel_rfl, by kernel_rfl, by kernel_rfl, eq_true (lt_of rfl), eq_true (lt_of rfl), ⟨rfl, rfl, trivial⟩, trivial, trivial⟩
theorem ti29_ok : TIok Try.prog 29 ti29 := ⟨trivial, by kernel_rfl, by kernel_rfl, by kernel_rfl, eq_true (lt_of rfl), eq_true (lt_of rfl), ⟨rfl, rfl, trivial⟩, trivial, trivial⟩
theorem ti43_ok : TIok Try.prog 43 ti43 := ⟨trivial, by kernel_rfl, by kernel_rfl, by kernel_rfl, eq_true (lt_of rfl), eq_true (lt_of rfl), ⟨rfl, rfl, rfl, rfl, rfl, rfl, trivial⟩, ⟨by kernel_rfl, by kernel_rfl, by kernel_rfl, by kernel_rfl, by kernel_rfl, by kernel_rfl, trivial⟩, (by kernel_rfl : places Try.prog 43 = some (ti43.fs.map fun q => (q.1, q.2.2)).toArray)⟩
theorem ti51_ok : TIok Try.prog 51 ti51 := ⟨trivial, by kernel_rfl, by kernel_rfl, by kernel_rfl, eq_true (lt_of rfl), eq_true (lt_of rfl), ⟨lt_of rfl, rfl, trivial⟩, ⟨by kernel_rfl, by kernel_rfl, trivial⟩, (by kernel_rfl : places Try.prog 51 = some (ti51.fs.map fun q => (q.1, q.2.2)).toArray)⟩
theorem ti60_ok : TIok Try.prog 60 ti60 := ⟨(by kernel_rfl : Try.prog.underlying 60 = some (.slice 3)), by kernel_rfl, by kernel_rfl, by kernel_rfl, eq_true (lt_of rfl), eq_true (lt_of rfl), ⟨lt_of rfl, rfl, trivial⟩, trivial, trivial⟩
theorem TT_ok : ∀ p, p ∈ TT → TIok Try.prog p.1 p.2 := List.forall_mem_cons.2 ⟨ti3_ok, List.forall_mem_cons.2 ⟨ti4_ok, List.forall_mem_cons.2 ⟨ti9_ok, List.forall_mem_cons.2 ⟨ti21_ok, List.forall_mem_cons.2 ⟨ti23_ok, List.forall_mem_cons.2 ⟨ti25_ok, List.forall_mem_cons.2 ⟨ti27_ok, List.forall_mem_cons.2 ⟨ti28_ok, List.forall_mem_cons.2 ⟨ti29_ok, List.forall_mem_cons.2 ⟨ti43_ok, List.forall_mem_cons.2 ⟨ti51_ok, List.forall_mem_cons.2 ⟨ti60_ok, fun _ h => nomatch h⟩⟩⟩⟩⟩⟩⟩⟩⟩⟩⟩⟩
def AD : List Nat := []
theorem AD_ok : ∀ f, f ∈ AD → AddOk Try.prog f := fun _ h => nomatch h
noncomputable abbrev SS : SD := ⟨Try.prog, TT, AD, TT_ok, AD_ok⟩
end Go.Proofs.Ytepeoiimdefnpaa.Vm
