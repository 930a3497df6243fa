-- PRINTED by vq.py. Not trusted: Lean checks it.
import Derived.Test.YtjbobaeggdafpaaV4
import Derived.Test.YtjbobaeggdafpaaProg
namespace Go.Proofs.Ytjbobaeggdafpaa.Vm
open Go
open _root_.Go.RowKit (wrap64)
set_option maxRecDepth 100000
set_option linter.unusedVariables false
abbrev runtime_boundsError := Int × Int × Bool × Int
abbrev runtime_errorAddressString := ByteArray × Int
abbrev api_Settings := Int × Int × Int × Int × Int × Int × Int
abbrev regletlaw10_Para := ByteArray × (List (Int × Int)) × Int × Int × Int × Int × Int × Int × Int × Int
abbrev api_Breaking := List Int × Int × Bool
abbrev api_Line := ByteArray × (List (Int × Int)) × Int × Int × Int × Bool × Int × Bool × Bool
abbrev api_Run := Int × Int
abbrev api_Slot := Int × Int × Int × Bool
abbrev api_Style := Int × Int × Int × Int × Int × Int × (List (Int × Int × Int)) × Bool
abbrev items_builder := List api_Style × (List (Int × Int × Int × Int × Bool × Int × Bool × Int × Int)) × Int × Bool
abbrev measure_Para := (List (Int × Int × Int × Int × Bool × Int × Bool × Int × Int)) × List Int × List Int × List Int × List Int × List Int × Int × List Int
abbrev api_Item := Int × Int × Int × Int × Bool × Int × Bool × Int × Int
abbrev breaks_search := (List api_Item × List Int × List Int × List Int × List Int × List Int × Int × List Int) × Int × Int × Int × Int × Int × Int × Int × Int × Bool × (List (Int × Int × Int × Int)) × List Int
abbrev api_Fit := Int × Int × Int × Int × Bool
abbrev runs_List := List api_Run × Int × Int
abbrev api_Range := Int × Int × Int
abbrev measure_Sum := Int × Int × Int × Int
abbrev measure_Ahead := Int × Bool
abbrev A0 := Int × Int × Int × Int × Int × Int × List api_Range × Bool
abbrev A1 := List (Int × Int × Int × Int × Int × Int × List api_Range × Bool)
abbrev A2 := (Option (List (Int × Int × Int × Int × Int × Int × List api_Range × Bool))) × Int × Int
abbrev A3 := (Option (List (Int × Int × Int × Int × Int × Int × List api_Range × Bool)))
abbrev A4 := ByteArray × Nat
abbrev A5 := ((List (Int × Int × Int × Int × Int × Int × List api_Range × Bool)) × List api_Item × Int × Bool)
abbrev A6 := (List (Int × Int × Int × Int × Int × Int × List api_Range × Bool)) × List api_Item × Int × Bool
abbrev A7 := (Int × Int × Int × Int × Int × Int × List api_Range × Bool)
abbrev A8 := Int × Int × Int
abbrev A9 := List api_Item × Int
abbrev A10 := (Option (List api_Item × List Int × List Int × List Int × List Int × List Int × Int × List Int)) × Int
abbrev A11 := List api_Item × List Int × List Int × List Int × List Int × List Int × Int × List Int
abbrev A12 := ((List api_Item × List Int × List Int × List Int × List Int × List Int × Int × List Int) × Int × Int × Int × Int × Int × Int × Int × Int × Bool × List measure_Sum × List Int)
abbrev A13 := (List api_Item × List Int × List Int × List Int × List Int × List Int × Int × List Int) × Int × Int × Int × Int × Int × Int × Int × Int × Bool × List measure_Sum × List Int
abbrev A14 := Int × Int × Bool
abbrev A15 := Int × ((List api_Item × List Int × List Int × List Int × List Int × List Int × Int × List Int) × Int × Int × Int × Int × Int × Int × Int × Int × Bool × List measure_Sum × List Int)
abbrev A16 := api_Breaking × Int
abbrev A17 := (List (ByteArray × List api_Run × Int × Int × Int × Bool × Int × Bool × Bool))
abbrev A18 := List (ByteArray × List api_Run × Int × Int × Int × Bool × Int × Bool × Bool)
abbrev A19 := (List (ByteArray × List api_Run × Int × Int × Int × Bool × Int × Bool × Bool)) × api_Breaking × Int
abbrev A20 := (ByteArray × List api_Run × Int × Int × Int × Bool × Int × Bool × Bool)
abbrev A21 := ByteArray × List api_Run × Int × Int × Int × Bool × Int × Bool × Bool
abbrev y0 : Ty := .cons (.i .i64) (.i .i64)
abbrev y1 : Ty := .cons (.i .i64) y0
abbrev y2 : Ty := .row true y1
abbrev y3 : Ty := .cons y2 .b
abbrev y4 : Ty := .cons (.i .i64) y3
abbrev y5 : Ty := .cons (.i .i64) y4
abbrev y6 : Ty := .cons (.i .i64) y5
abbrev y7 : Ty := .cons (.i .i64) y6
abbrev y8 : Ty := .cons (.i .i64) y7
abbrev y9 : Ty := .cons (.i .i64) y8
abbrev y10 : Ty := .own 3 (.i .i64)
abbrev y11 : Ty := .row true y9
abbrev y12 : Ty := .own 123 y1
abbrev y13 : Ty := .cons y12 .b
abbrev y14 : Ty := .cons (.i .i64) y13
abbrev y15 : Ty := .cons (.i .i64) y14
abbrev y16 : Ty := .cons (.i .i64) y15
abbrev y17 : Ty := .cons (.i .i64) y16
abbrev y18 : Ty := .cons (.i .i64) y17
abbrev y19 : Ty := .cons (.i .i64) y18
abbrev y20 : Ty := .own 59 y19
abbrev y21 : Ty := .ptr true y11
abbrev y22 : Ty := .row true y0
abbrev y23 : Ty := .cons .b y0
abbrev y24 : Ty := .cons (.i .i64) y23
abbrev y25 : Ty := .cons .b y24
abbrev y26 : Ty := .cons (.i .i64) y25
abbrev y27 : Ty := .cons (.i .i64) y26
abbrev y28 : Ty := .cons (.i .i64) y27
abbrev y29 : Ty := .cons (.i .i64) y28
abbrev y30 : Ty := .row false y1
abbrev y31 : Ty := .cons y30 .b
abbrev y32 : Ty := .cons (.i .i64) y31
abbrev y33 : Ty := .cons (.i .i64) y32
abbrev y34 : Ty := .cons (.i .i64) y33
abbrev y35 : Ty := .cons (.i .i64) y34
abbrev y36 : Ty := .cons (.i .i64) y35
abbrev y37 : Ty := .cons (.i .i64) y36
abbrev y38 : Ty := .row false y37
abbrev y39 : Ty := .ptr false y38
abbrev y40 : Ty := .own 98 y29
abbrev y41 : Ty := .cons (.i .i64) .b
abbrev y42 : Ty := .cons y40 y41
abbrev y43 : Ty := .cons y39 y42
abbrev y44 : Ty := .row false y0
abbrev y45 : Ty := .cons (.i .i64) y1
abbrev y46 : Ty := .cons (.i .i64) y45
abbrev y47 : Ty := .cons (.i .i64) y46
abbrev y48 : Ty := .cons (.i .i64) y47
abbrev y49 : Ty := .row true y29
abbrev y50 : Ty := .cons (.i .i64) y10
abbrev y51 : Ty := .cons y10 y50
abbrev y52 : Ty := .cons y10 y51
abbrev y53 : Ty := .cons y10 y52
abbrev y54 : Ty := .cons y10 y53
abbrev y55 : Ty := .cons y10 y54
abbrev y56 : Ty := .cons y40 y55
abbrev y57 : Ty := .row true (.i .i64)
abbrev y58 : Ty := .cons (.i .i64) y57
abbrev y59 : Ty := .cons y57 y58
abbrev y60 : Ty := .cons y57 y59
abbrev y61 : Ty := .cons y57 y60
abbrev y62 : Ty := .cons y57 y61
abbrev y63 : Ty := .cons y57 y62
abbrev y64 : Ty := .cons y49 y63
abbrev y65 : Ty := .ptr true y64
abbrev y66 : Ty := .row false y29
abbrev y67 : Ty := .row false (.i .i64)
abbrev y68 : Ty := .cons (.i .i64) y67
abbrev y69 : Ty := .cons y67 y68
abbrev y70 : Ty := .cons y67 y69
abbrev y71 : Ty := .cons y67 y70
abbrev y72 : Ty := .cons y67 y71
abbrev y73 : Ty := .cons y67 y72
abbrev y74 : Ty := .cons y66 y73
abbrev y75 : Ty := .ptr false y74
abbrev y76 : Ty := .own 134 y45
abbrev y77 : Ty := .cons y76 y10
abbrev y78 : Ty := .cons .b y77
abbrev y79 : Ty := .cons (.i .i64) y78
abbrev y80 : Ty := .cons (.i .i64) y79
abbrev y81 : Ty := .cons (.i .i64) y80
abbrev y82 : Ty := .cons (.i .i64) y81
abbrev y83 : Ty := .cons (.i .i64) y82
abbrev y84 : Ty := .cons (.i .i64) y83
abbrev y85 : Ty := .cons (.i .i64) y84
abbrev y86 : Ty := .cons (.i .i64) y85
abbrev y87 : Ty := .cons y75 y86
abbrev y88 : Ty := .cons (.i .u64) (.i .u64)
abbrev y89 : Ty := .cons (.i .u64) y88
abbrev y90 : Ty := .cons (.i .u64) y89
abbrev y91 : Ty := .cons (.i .i64) y41
abbrev y92 : Ty := .cons (.i .i64) y91
abbrev y93 : Ty := .cons (.i .i64) y92
abbrev y94 : Ty := .row true y45
abbrev y95 : Ty := .cons y94 y57
abbrev y96 : Ty := .cons .b y95
abbrev y97 : Ty := .cons (.i .i64) y96
abbrev y98 : Ty := .cons (.i .i64) y97
abbrev y99 : Ty := .cons (.i .i64) y98
abbrev y100 : Ty := .cons (.i .i64) y99
abbrev y101 : Ty := .cons (.i .i64) y100
abbrev y102 : Ty := .cons (.i .i64) y101
abbrev y103 : Ty := .cons (.i .i64) y102
abbrev y104 : Ty := .cons (.i .i64) y103
abbrev y105 : Ty := .cons y65 y104
abbrev y106 : Ty := .ptr true y105
abbrev y107 : Ty := .cons y10 y41
abbrev y108 : Ty := .own 43 y0
abbrev y109 : Ty := .cons .b .b
abbrev y110 : Ty := .cons (.i .i64) y109
abbrev y111 : Ty := .cons .b y110
abbrev y112 : Ty := .cons (.i .i64) y111
abbrev y113 : Ty := .cons (.i .i64) y112
abbrev y114 : Ty := .cons (.i .i64) y113
abbrev y115 : Ty := .cons y108 y114
abbrev y116 : Ty := .cons .s y115
abbrev y117 : Ty := .own 41 y116
abbrev y118 : Ty := .cons y67 y41
abbrev y119 : Ty := .cons y22 y114
abbrev y120 : Ty := .cons .s y119
abbrev y121 : Ty := .cons y108 y0
abbrev y122 : Ty := .cons y44 y114
abbrev y123 : Ty := .cons .s y122
abbrev y124 : Ty := .cons y66 y41
abbrev y125 : Ty := .cons y39 y124
abbrev y126 : Ty := .ptr false y125
abbrev y127 : Ty := .row false y45
abbrev y128 : Ty := .cons y127 y67
abbrev y129 : Ty := .cons .b y128
abbrev y130 : Ty := .cons (.i .i64) y129
abbrev y131 : Ty := .cons (.i .i64) y130
abbrev y132 : Ty := .cons (.i .i64) y131
abbrev y133 : Ty := .cons (.i .i64) y132
abbrev y134 : Ty := .cons (.i .i64) y133
abbrev y135 : Ty := .cons (.i .i64) y134
abbrev y136 : Ty := .cons (.i .i64) y135
abbrev y137 : Ty := .cons (.i .i64) y136
abbrev y138 : Ty := .cons y75 y137
abbrev y139 : Ty := .ptr false y138
abbrev y140 : Ty := .cons y44 y0
abbrev y141 : Ty := .ptr false y140
def ti3 : TI := { k := .x, ag := false, sz := 1, by_ := 8, z := .int .i64 0, z0 := [.v (.i .i64) 0], fs := [], c := (.i .i64) }
def ti4 : TI := { k := .bool, ag := false, sz := 1, by_ := 1, z := .bool false, z0 := [.v .b (false)], fs := [], c := .b }
def ti5 : TI := { k := .x, ag := false, sz := 1, by_ := 1, z := .int .u8 0, z0 := [.v (.i .u8) 0], fs := [], c := (.i .u8) }
def ti9 : TI := { k := .str, ag := false, sz := 1, by_ := 16, z := .string ByteArray.empty, z0 := [.v .s ByteArray.empty], fs := [], c := .s }
def ti21 : TI := { k := .x, ag := false, sz := 1, by_ := 4, z := .int .i32 0, z0 := [.v (.i .i32) 0], fs := [], c := (.i .i32) }
def ti22 : TI := { k := .sl 59, ag := false, sz := 1, by_ := 24, z := .slice none 0 0, z0 := [.v y20 ([] : List (Int × Int × Int × Int × Int × Int × List api_Range × Bool))], fs := [], c := y20 }
def ti23 : TI := { k := .sl 43, ag := false, sz := 1, by_ := 24, z := .slice none 0 0, z0 := [.v y108 ([] : List api_Run)], fs := [], c := y108 }
def ti25 : TI := { k := .x, ag := true, sz := 7, by_ := 56, z := .agg #[.int .i64 0, .int .i64 0, .int .i64 0, .int .i64 0, .int .i64 0, .int .i64 0, .int .i64 0], z0 := [.v (.i .i64) 0, .v (.i .i64) 0, .v (.i .i64) 0, .v (.i .i64) 0, .v (.i .i64) 0, .v (.i .i64) 0, .v (.i .i64) 0], fs := [(0, false, 1), (1, false, 1), (2, false, 1), (3, false, 1), (4, false, 1), (5, false, 1), (6, false, 1)], c := y48 }
def ti29 : TI := { k := .x, ag := false, sz := 1, by_ := 8, z := .pointer none, z0 := [.np], fs := [], c := y39 }
def ti32 : TI := { k := .sl 41, ag := false, sz := 1, by_ := 24, z := .slice none 0 0, z0 := [.v y117 ([] : List (ByteArray × List api_Run × Int × Int × Int × Bool × Int × Bool × Bool))], fs := [], c := y117 }
def ti33 : TI := { k := .sl 3, ag := false, sz := 1, by_ := 24, z := .slice none 0 0, z0 := [.v y10 ([] : List Int)], fs := [], c := y10 }
def ti35 : TI := { k := .x, ag := true, sz := 3, by_ := 40, z := .agg #[.slice none 0 0, .int .i64 0, .bool false], z0 := [.v y10 ([] : List Int), .v (.i .i64) 0, .v .b (false)], fs := [(0, false, 1), (1, false, 1), (2, false, 1)], c := y107 }
def ti36 : TI := { k := .x, ag := false, sz := 1, by_ := 8, z := .int .i64 0, z0 := [.v (.i .i64) 0], fs := [], c := (.i .i64) }
def ti41 : TI := { k := .x, ag := true, sz := 9, by_ := 88, z := .agg #[.string ByteArray.empty, .slice none 0 0, .int .i64 0, .int .i64 0, .int .i64 0, .bool false, .int .i64 0, .bool false, .bool false], z0 := [.v .s ByteArray.empty, .v y108 ([] : List api_Run), .v (.i .i64) 0, .v (.i .i64) 0, .v (.i .i64) 0, .v .b (false), .v (.i .i64) 0, .v .b (false), .v .b (false)], fs := [(0, false, 1), (1, false, 1), (2, false, 1), (3, false, 1), (4, false, 1), (5, false, 1), (6, false, 1), (7, false, 1), (8, false, 1)], c := y116 }
def ti43 : TI := { k := .x, ag := true, sz := 2, by_ := 16, z := .agg #[.int .i64 0, .int .i64 0], z0 := [.v (.i .i64) 0, .v (.i .i64) 0], fs := [(0, false, 1), (1, false, 1)], c := y0 }
def ti57 : TI := { k := .sl 123, ag := false, sz := 1, by_ := 24, z := .slice none 0 0, z0 := [.v y12 ([] : List api_Range)], fs := [], c := y12 }
def ti59 : TI := { k := .x, ag := true, sz := 8, by_ := 80, z := .agg #[.int .i64 0, .int .i64 0, .int .i64 0, .int .i64 0, .int .i64 0, .int .i64 0, .slice none 0 0, .bool false], z0 := [.v (.i .i64) 0, .v (.i .i64) 0, .v (.i .i64) 0, .v (.i .i64) 0, .v (.i .i64) 0, .v (.i .i64) 0, .v y12 ([] : List api_Range), .v .b (false)], fs := [(0, false, 1), (1, false, 1), (2, false, 1), (3, false, 1), (4, false, 1), (5, false, 1), (6, false, 1), (7, false, 1)], c := y19 }
def ti64 : TI := { k := .sl 98, ag := false, sz := 1, by_ := 24, z := .slice none 0 0, z0 := [.v y40 ([] : List api_Item)], fs := [], c := y40 }
def ti68 : TI := { k := .x, ag := false, sz := 1, by_ := 8, z := .pointer none, z0 := [.np], fs := [], c := y75 }
def ti83 : TI := { k := .x, ag := true, sz := 1, by_ := 24, z := .agg #[.slice none 0 0], z0 := [.v y20 ([] : List (Int × Int × Int × Int × Int × Int × List api_Range × Bool))], fs := [(0, false, 1)], c := y20 }
def ti86 : TI := { k := .x, ag := false, sz := 1, by_ := 8, z := .pointer none, z0 := [.np], fs := [], c := y126 }
def ti88 : TI := { k := .x, ag := true, sz := 4, by_ := 48, z := .agg #[.pointer none, .slice none 0 0, .int .i64 0, .bool false], z0 := [.np, .v y40 ([] : List api_Item), .v (.i .i64) 0, .v .b (false)], fs := [(0, false, 1), (1, false, 1), (2, false, 1), (3, false, 1)], c := y43 }
def ti96 : TI := { k := .x, ag := true, sz := 8, by_ := 176, z := .agg #[.slice none 0 0, .slice none 0 0, .slice none 0 0, .slice none 0 0, .slice none 0 0, .slice none 0 0, .int .i64 0, .slice none 0 0], z0 := [.v y40 ([] : List api_Item), .v y10 ([] : List Int), .v y10 ([] : List Int), .v y10 ([] : List Int), .v y10 ([] : List Int), .v y10 ([] : List Int), .v (.i .i64) 0, .v y10 ([] : List Int)], fs := [(0, false, 1), (1, false, 1), (2, false, 1), (3, false, 1), (4, false, 1), (5, false, 1), (6, false, 1), (7, false, 1)], c := y56 }
def ti98 : TI := { k := .x, ag := true, sz := 9, by_ := 72, z := .agg #[.int .i64 0, .int .i64 0, .int .i64 0, .int .i64 0, .bool false, .int .i64 0, .bool false, .int .i64 0, .int .i64 0], z0 := [.v (.i .i64) 0, .v (.i .i64) 0, .v (.i .i64) 0, .v (.i .i64) 0, .v .b (false), .v (.i .i64) 0, .v .b (false), .v (.i .i64) 0, .v (.i .i64) 0], fs := [(0, false, 1), (1, false, 1), (2, false, 1), (3, false, 1), (4, false, 1), (5, false, 1), (6, false, 1), (7, false, 1), (8, false, 1)], c := y29 }
def ti101 : TI := { k := .x, ag := false, sz := 1, by_ := 8, z := .pointer none, z0 := [.np], fs := [], c := y139 }
def ti102 : TI := { k := .sl 134, ag := false, sz := 1, by_ := 24, z := .slice none 0 0, z0 := [.v y76 ([] : List measure_Sum)], fs := [], c := y76 }
def ti104 : TI := { k := .x, ag := true, sz := 12, by_ := 128, z := .agg #[.pointer none, .int .i64 0, .int .i64 0, .int .i64 0, .int .i64 0, .int .i64 0, .int .i64 0, .int .i64 0, .int .i64 0, .bool false, .slice none 0 0, .slice none 0 0], z0 := [.np, .v (.i .i64) 0, .v (.i .i64) 0, .v (.i .i64) 0, .v (.i .i64) 0, .v (.i .i64) 0, .v (.i .i64) 0, .v (.i .i64) 0, .v (.i .i64) 0, .v .b (false), .v y76 ([] : List measure_Sum), .v y10 ([] : List Int)], fs := [(0, false, 1), (1, false, 1), (2, true, 7), (9, false, 1), (10, false, 1), (11, false, 1)], c := y87 }
def ti108 : TI := { k := .x, ag := true, sz := 5, by_ := 40, z := .agg #[.int .i64 0, .int .i64 0, .int .i64 0, .int .i64 0, .bool false], z0 := [.v (.i .i64) 0, .v (.i .i64) 0, .v (.i .i64) 0, .v (.i .i64) 0, .v .b (false)], fs := [(0, false, 1), (1, false, 1), (2, false, 1), (3, false, 1), (4, false, 1)], c := y93 }
def ti118 : TI := { k := .x, ag := false, sz := 1, by_ := 8, z := .pointer none, z0 := [.np], fs := [], c := y141 }
def ti120 : TI := { k := .x, ag := true, sz := 3, by_ := 40, z := .agg #[.slice none 0 0, .int .i64 0, .int .i64 0], z0 := [.v y108 ([] : List api_Run), .v (.i .i64) 0, .v (.i .i64) 0], fs := [(0, false, 1), (1, false, 1), (2, false, 1)], c := y121 }
def ti123 : TI := { k := .x, ag := true, sz := 3, by_ := 24, z := .agg #[.int .i64 0, .int .i64 0, .int .i64 0], z0 := [.v (.i .i64) 0, .v (.i .i64) 0, .v (.i .i64) 0], fs := [(0, false, 1), (1, false, 1), (2, false, 1)], c := y1 }
def ti134 : TI := { k := .arr 4 3, ag := true, sz := 4, by_ := 32, z := .agg #[.int .i64 0, .int .i64 0, .int .i64 0, .int .i64 0], z0 := [.v (.i .i64) 0, .v (.i .i64) 0, .v (.i .i64) 0, .v (.i .i64) 0], fs := [], c := y45 }
def ti142 : TI := { k := .x, ag := true, sz := 4, by_ := 32, z := .agg #[.int .i64 0, .int .i64 0, .int .i64 0, .int .i64 0], z0 := [.v (.i .i64) 0, .v (.i .i64) 0, .v (.i .i64) 0, .v (.i .i64) 0], fs := [(0, false, 1), (1, false, 1), (2, false, 1), (3, false, 1)], c := y45 }
def ti154 : TI := { k := .x, ag := true, sz := 2, by_ := 16, z := .agg #[.int .i64 0, .bool false], z0 := [.v (.i .i64) 0, .v .b (false)], fs := [(0, false, 1), (1, false, 1)], c := y41 }
def ti158 : TI := { k := .x, ag := false, sz := 1, by_ := 8, z := .int .u64 0, z0 := [.v (.i .u64) 0], fs := [], c := (.i .u64) }
def ti160 : TI := { k := .arr 4 158, ag := true, sz := 4, by_ := 32, z := .agg #[.int .u64 0, .int .u64 0, .int .u64 0, .int .u64 0], z0 := [.v (.i .u64) 0, .v (.i .u64) 0, .v (.i .u64) 0, .v (.i .u64) 0], fs := [], c := y90 }
def TT : List (Nat × TI) := [(3, ti3), (4, ti4), (5, ti5), (9, ti9), (21, ti21), (22, ti22), (23, ti23), (25, ti25), (29, ti29), (32, ti32), (33, ti33), (35, ti35), (36, ti36), (41, ti41), (43, ti43), (57, ti57), (59, ti59), (64, ti64), (68, ti68), (83, ti83), (86, ti86), (88, ti88), (96, ti96), (98, ti98), (101, ti101), (102, ti102), (104, ti104), (108, ti108), (118, ti118), (120, ti120), (123, ti123), (134, ti134), (142, ti142), (154, ti154), (158, ti158), (160, ti160)]
theorem ti3_ok : TIok Try.prog 3 ti3 := ⟨trivial, by kernel_rfl, by kernel_rfl, by kernel_rfl, eq_true (lt_of rfl), eq_true (lt_of rfl), ⟨rfl, rfl, trivial⟩, trivial, trivial⟩
theorem ti4_ok : TIok Try.prog 4 ti4 := ⟨(by kernel_rfl : Try.prog.underlying 4 = some (.bool)), by kernel_rfl, by kernel_rfl, by kernel_rfl, eq_true (lt_of rfl), eq_true (lt_of rfl), ⟨rfl, rfl, trivial⟩, trivial, trivial⟩
theorem ti5_ok : TIok Try.prog 5 ti5 := ⟨trivial, by kernel_rfl, by kernel_rfl, by kernel_rfl, eq_true (lt_of rfl), eq_true (lt_of rfl), ⟨rfl, rfl, trivial⟩, trivial, trivial⟩
theorem ti9_ok : TIok Try.prog 9 ti9 := ⟨(by kernel_rfl : Try.prog.underlying 9 = some (.string)), by kernel_rfl, by kernel_rfl, by kernel_rfl, eq_true (lt_of rfl), eq_true (lt_of rfl), ⟨rfl, rfl, trivial⟩, trivial, trivial⟩
theorem ti21_ok : TIok Try.prog 21 ti21 := ⟨trivial, by kernel_rfl, by kernel_rfl, by kernel_rfl, eq_true (lt_of rfl), eq_true (lt_of rfl), ⟨rfl, rfl, trivial⟩, trivial, trivial⟩
theorem ti22_ok : TIok Try.prog 22 ti22 := ⟨(by kernel_rfl : Try.prog.underlying 22 = some (.slice 59)), by kernel_rfl, by kernel_rfl, by kernel_rfl, eq_true (lt_of rfl), eq_true (lt_of rfl), ⟨lt_of rfl, rfl, trivial⟩, trivial, trivial⟩
theorem ti23_ok : TIok Try.prog 23 ti23 := ⟨(by kernel_rfl : Try.prog.underlying 23 = some (.slice 43)), by kernel_rfl, by kernel_rfl, by kernel_rfl, eq_true (lt_of rfl), eq_true (lt_of rfl), ⟨lt_of rfl, rfl, trivial⟩, trivial, trivial⟩
theorem ti25_ok : TIok Try.prog 25 ti25 := ⟨trivial, by kernel_rfl, by kernel_rfl, by kernel_rfl, eq_true (lt_of rfl), eq_true (lt_of rfl), ⟨rfl, rfl, rfl, rfl, rfl, rfl, rfl, rfl, rfl, rfl, rfl, rfl, rfl, rfl, trivial⟩, ⟨by kernel_rfl, by kernel_rfl, by kernel_rfl, by kernel_rfl, by kernel_rfl, by kernel_rfl, by kernel_rfl, by kernel_rfl, by kernel_rfl, by kernel_rfl, by kernel_rfl, by kernel_rfl, by kernel_rfl, by kernel_rfl, trivial⟩, (by kernel_rfl : places Try.prog 25 = some (ti25.fs.map fun q => (q.1, q.2.2)).toArray)⟩
theorem ti29_ok : TIok Try.prog 29 ti29 := ⟨trivial, by kernel_rfl, by kernel_rfl, by kernel_rfl, eq_true (lt_of rfl), eq_true (lt_of rfl), ⟨rfl, rfl, trivial⟩, trivial, trivial⟩
theorem ti32_ok : TIok Try.prog 32 ti32 := ⟨(by kernel_rfl : Try.prog.underlying 32 = some (.slice 41)), by kernel_rfl, by kernel_rfl, by kernel_rfl, eq_true (lt_of rfl), eq_true (lt_of rfl), ⟨lt_of rfl, rfl, trivial⟩, trivial, trivial⟩
theorem ti33_ok : TIok Try.prog 33 ti33 := ⟨(by kernel_rfl : Try.prog.underlying 33 = some (.slice 3)), by kernel_rfl, by kernel_rfl, by kernel_rfl, eq_true (lt_of rfl), eq_true (lt_of rfl), ⟨lt_of rfl, rfl, trivial⟩, trivial, trivial⟩
theorem ti35_ok : TIok Try.prog 35 ti35 := ⟨trivial, by kernel_rfl, by kernel_rfl, by kernel_rfl, eq_true (lt_of rfl), eq_true (lt_of rfl), ⟨lt_of rfl, rfl, rfl, rfl, rfl, rfl, trivial⟩, ⟨by kernel_rfl, by kernel_rfl, by kernel_rfl, by kernel_rfl, by kernel_rfl, by kernel_rfl, trivial⟩, (by kernel_rfl : places Try.prog 35 = some (ti35.fs.map fun q => (q.1, q.2.2)).toArray)⟩
theorem ti36_ok : TIok Try.prog 36 ti36 := ⟨trivial, by kernel_rfl, by kernel_rfl, by kernel_rfl, eq_true (lt_of rfl), eq_true (lt_of rfl), ⟨rfl, rfl, trivial⟩, trivial, trivial⟩
theorem ti41_ok : TIok Try.prog 41 ti41 := ⟨trivial, by kernel_rfl, by kernel_rfl, by kernel_rfl, eq_true (lt_of rfl), eq_true (lt_of rfl), ⟨rfl, rfl, lt_of rfl, rfl, rfl, rfl, rfl, rfl, rfl, rfl, rfl, rfl, rfl, rfl, rfl, rfl, rfl, rfl, trivial⟩, ⟨by kernel_rfl, by kernel_rfl, by kernel_rfl, by kernel_rfl, by kernel_rfl, by kernel_rfl, by kernel_rfl, by kernel_rfl, by kernel_rfl, by kernel_rfl, by kernel_rfl, by kernel_rfl, by kernel_rfl, by kernel_rfl, by kernel_rfl, by kernel_rfl, by kernel_rfl, by kernel_rfl, trivial⟩, (by kernel_rfl : places Try.prog 41 = some (ti41.fs.map fun q => (q.1, q.2.2)).toArray)⟩
theorem ti43_ok : TIok Try.prog 43 ti43 := ⟨trivial, by kernel_rfl, by kernel_rfl, by kernel_rfl, eq_true (lt_of rfl), eq_true (lt_of rfl), ⟨rfl, rfl, rfl, rfl, trivial⟩, ⟨by kernel_rfl, by kernel_rfl, by kernel_rfl, by kernel_rfl, trivial⟩, (by kernel_rfl : places Try.prog 43 = some (ti43.fs.map fun q => (q.1, q.2.2)).toArray)⟩
theorem ti57_ok : TIok Try.prog 57 ti57 := ⟨(by kernel_rfl : Try.prog.underlying 57 = some (.slice 123)), by kernel_rfl, by kernel_rfl, by kernel_rfl, eq_true (lt_of rfl), eq_true (lt_of rfl), ⟨lt_of rfl, rfl, trivial⟩, trivial, trivial⟩
theorem ti59_ok : TIok Try.prog 59 ti59 := ⟨trivial, by kernel_rfl, by kernel_rfl, by kernel_rfl, eq_true (lt_of rfl), eq_true (lt_of rfl), ⟨rfl, rfl, rfl, rfl, rfl, rfl, rfl, rfl, rfl, rfl, rfl, rfl, lt_of rfl, rfl, rfl, rfl, trivial⟩, ⟨by kernel_rfl, by kernel_rfl, by kernel_rfl, by kernel_rfl, by kernel_rfl, by kernel_rfl, by kernel_rfl, by kernel_rfl, by kernel_rfl, by kernel_rfl, by kernel_rfl, by kernel_rfl, by kernel_rfl, by kernel_rfl, by kernel_rfl, by kernel_rfl, trivial⟩, (by kernel_rfl : places Try.prog 59 = some (ti59.fs.map fun q => (q.1, q.2.2)).toArray)⟩
theorem ti64_ok : TIok Try.prog 64 ti64 := ⟨(by kernel_rfl : Try.prog.underlying 64 = some (.slice 98)), by kernel_rfl, by kernel_rfl, by kernel_rfl, eq_true (lt_of rfl), eq_true (lt_of rfl), ⟨lt_of rfl, rfl, trivial⟩, trivial, trivial⟩
theorem ti68_ok : TIok Try.prog 68 ti68 := ⟨trivial, by kernel_rfl, by kernel_rfl, by kernel_rfl, eq_true (lt_of rfl), eq_true (lt_of rfl), ⟨rfl, rfl, trivial⟩, trivial, trivial⟩
theorem ti83_ok : TIok Try.prog 83 ti83 := ⟨trivial, by kernel_rfl, by kernel_rfl, by kernel_rfl, eq_true (lt_of rfl), eq_true (lt_of rfl), ⟨lt_of rfl, rfl, trivial⟩, ⟨by kernel_rfl, by kernel_rfl, trivial⟩, (by kernel_rfl : places Try.prog 83 = some (ti83.fs.map fun q => (q.1, q.2.2)).toArray)⟩
theorem ti86_ok : TIok Try.prog 86 ti86 := ⟨trivial, by kernel_rfl, by kernel_rfl, by kernel_rfl, eq_true (lt_of rfl), eq_true (lt_of rfl), ⟨rfl, rfl, trivial⟩, trivial, trivial⟩
theorem ti88_ok : TIok Try.prog 88 ti88 := ⟨trivial, by kernel_rfl, by kernel_rfl, by kernel_rfl, eq_true (lt_of rfl), eq_true (lt_of rfl), ⟨rfl, rfl, lt_of rfl, rfl, rfl, rfl, rfl, rfl, trivial⟩, ⟨by kernel_rfl, by kernel_rfl, by kernel_rfl, by kernel_rfl, by kernel_rfl, by kernel_rfl, by kernel_rfl, by kernel_rfl, trivial⟩, (by kernel_rfl : places Try.prog 88 = some (ti88.fs.map fun q => (q.1, q.2.2)).toArray)⟩
theorem ti96_ok : TIok Try.prog 96 ti96 := ⟨trivial, by kernel_rfl, by kernel_rfl, by kernel_rfl, eq_true (lt_of rfl), eq_true (lt_of rfl), ⟨lt_of rfl, rfl, lt_of rfl, rfl, lt_of rfl, rfl, lt_of rfl, rfl, lt_of rfl, rfl, lt_of rfl, rfl, rfl, rfl, lt_of rfl, rfl, trivial⟩, ⟨by kernel_rfl, by kernel_rfl, by kernel_rfl, by kernel_rfl, by kernel_rfl, by kernel_rfl, by kernel_rfl, by kernel_rfl, by kernel_rfl, by kernel_rfl, by kernel_rfl, by kernel_rfl, by kernel_rfl, by kernel_rfl, by kernel_rfl, by kernel_rfl, trivial⟩, (by kernel_rfl : places Try.prog 96 = some (ti96.fs.map fun q => (q.1, q.2.2)).toArray)⟩
theorem ti98_ok : TIok Try.prog 98 ti98 := ⟨trivial, by kernel_rfl, by kernel_rfl, by kernel_rfl, eq_true (lt_of rfl), eq_true (lt_of rfl), ⟨rfl, rfl, rfl, rfl, rfl, rfl, rfl, rfl, rfl, rfl, rfl, rfl, rfl, rfl, rfl, rfl, rfl, rfl, trivial⟩, ⟨by kernel_rfl, by kernel_rfl, by kernel_rfl, by kernel_rfl, by kernel_rfl, by kernel_rfl, by kernel_rfl, by kernel_rfl, by kernel_rfl, by kernel_rfl, by kernel_rfl, by kernel_rfl, by kernel_rfl, by kernel_rfl, by kernel_rfl, by kernel_rfl, by kernel_rfl, by kernel_rfl, trivial⟩, (by kernel_rfl : places Try.prog 98 = some (ti98.fs.map fun q => (q.1, q.2.2)).toArray)⟩
theorem ti101_ok : TIok Try.prog 101 ti101 := ⟨trivial, by kernel_rfl, by kernel_rfl, by kernel_rfl, eq_true (lt_of rfl), eq_true (lt_of rfl), ⟨rfl, rfl, trivial⟩, trivial, trivial⟩
theorem ti102_ok : TIok Try.prog 102 ti102 := ⟨(by kernel_rfl : Try.prog.underlying 102 = some (.slice 134)), by kernel_rfl, by kernel_rfl, by kernel_rfl, eq_true (lt_of rfl), eq_true (lt_of rfl), ⟨lt_of rfl, rfl, trivial⟩, trivial, trivial⟩
theorem ti104_ok : TIok Try.prog 104 ti104 := ⟨trivial, by kernel_rfl, by kernel_rfl, by kernel_rfl, eq_true (lt_of rfl), eq_true (lt_of rfl), ⟨rfl, rfl, rfl, rfl, rfl, rfl, rfl, rfl, rfl, rfl, rfl, rfl, rfl, rfl, rfl, rfl, rfl, rfl, rfl, rfl, lt_of rfl, rfl, lt_of rfl, rfl, trivial⟩, ⟨by kernel_rfl, by kernel_rfl, by kernel_rfl, by kernel_rfl, by kernel_rfl, by kernel_rfl, by kernel_rfl, by kernel_rfl, by kernel_rfl, by kernel_rfl, by kernel_rfl, by kernel_rfl, trivial⟩, (by kernel_rfl : places Try.prog 104 = some (ti104.fs.map fun q => (q.1, q.2.2)).toArray)⟩
theorem ti108_ok : TIok Try.prog 108 ti108 := ⟨trivial, by kernel_rfl, by kernel_rfl, by kernel_rfl, eq_true (lt_of rfl), eq_true (lt_of rfl), ⟨rfl, rfl, rfl, rfl, rfl, rfl, rfl, rfl, rfl, rfl, trivial⟩, ⟨by kernel_rfl, by kernel_rfl, by kernel_rfl, by kernel_rfl, by kernel_rfl, by kernel_rfl, by kernel_rfl, by kernel_rfl, by kernel_rfl, by kernel_rfl, trivial⟩, (by kernel_rfl : places Try.prog 108 = some (ti108.fs.map fun q => (q.1, q.2.2)).toArray)⟩
theorem ti118_ok : TIok Try.prog 118 ti118 := ⟨trivial, by kernel_rfl, by kernel_rfl, by kernel_rfl, eq_true (lt_of rfl), eq_true (lt_of rfl), ⟨rfl, rfl, trivial⟩, trivial, trivial⟩
theorem ti120_ok : TIok Try.prog 120 ti120 := ⟨trivial, by kernel_rfl, by kernel_rfl, by kernel_rfl, eq_true (lt_of rfl), eq_true (lt_of rfl), ⟨lt_of rfl, rfl, rfl, rfl, rfl, rfl, trivial⟩, ⟨by kernel_rfl, by kernel_rfl, by kernel_rfl, by kernel_rfl, by kernel_rfl, by kernel_rfl, trivial⟩, (by kernel_rfl : places Try.prog 120 = some (ti120.fs.map fun q => (q.1, q.2.2)).toArray)⟩
theorem ti123_ok : TIok Try.prog 123 ti123 := ⟨trivial, by kernel_rfl, by kernel_rfl, by kernel_rfl, eq_true (lt_of rfl), eq_true (lt_of rfl), ⟨rfl, rfl, rfl, rfl, rfl, rfl, trivial⟩, ⟨by kernel_rfl, by kernel_rfl, by kernel_rfl, by kernel_rfl, by kernel_rfl, by kernel_rfl, trivial⟩, (by kernel_rfl : places Try.prog 123 = some (ti123.fs.map fun q => (q.1, q.2.2)).toArray)⟩
theorem ti134_ok : TIok Try.prog 134 ti134 := ⟨(by kernel_rfl : Try.prog.underlying 134 = some (.array 4 3)), by kernel_rfl, by kernel_rfl, by kernel_rfl, eq_true (lt_of rfl), eq_true (lt_of rfl), ⟨rfl, rfl, rfl, rfl, rfl, rfl, rfl, rfl, trivial⟩, trivial, trivial⟩
theorem ti142_ok : TIok Try.prog 142 ti142 := ⟨trivial, by kernel_rfl, by kernel_rfl, by kernel_rfl, eq_true (lt_of rfl), eq_true (lt_of rfl), ⟨rfl, rfl, rfl, rfl, rfl, rfl, rfl, rfl, trivial⟩, ⟨by kernel_rfl, by kernel_rfl, by kernel_rfl, by kernel_rfl, by kernel_rfl, by kernel_rfl, by kernel_rfl, by kernel_rfl, trivial⟩, (by kernel_rfl : places Try.prog 142 = some (ti142.fs.map fun q => (q.1, q.2.2)).toArray)⟩
theorem ti154_ok : TIok Try.prog 154 ti154 := ⟨trivial, by kernel_rfl, by kernel_rfl, by kernel_rfl, eq_true (lt_of rfl), eq_true (lt_of rfl), ⟨rfl, rfl, rfl, rfl, trivial⟩, ⟨by kernel_rfl, by kernel_rfl, by kernel_rfl, by kernel_rfl, trivial⟩, (by kernel_rfl : places Try.prog 154 = some (ti154.fs.map fun q => (q.1, q.2.2)).toArray)⟩
theorem ti158_ok : TIok Try.prog 158 ti158 := ⟨trivial, by kernel_rfl, by kernel_rfl, by kernel_rfl, eq_true (lt_of rfl), eq_true (lt_of rfl), ⟨rfl, rfl, trivial⟩, trivial, trivial⟩
theorem ti160_ok : TIok Try.prog 160 ti160 := ⟨(by kernel_rfl : Try.prog.underlying 160 = some (.array 4 158)), by kernel_rfl, by kernel_rfl, by kernel_rfl, eq_true (lt_of rfl), eq_true (lt_of rfl), ⟨rfl, rfl, rfl, rfl, rfl, rfl, rfl, rfl, trivial⟩, trivial, trivial⟩
theorem TT_ok : ∀ p, p ∈ TT → TIok Try.prog p.1 p.2 := List.forall_mem_cons.2 ⟨ti3_ok, List.forall_mem_cons.2 ⟨ti4_ok, List.forall_mem_cons.2 ⟨ti5_ok, List.forall_mem_cons.2 ⟨ti9_ok, List.forall_mem_cons.2 ⟨ti21_ok, List.forall_mem_cons.2 ⟨ti22_ok, List.forall_mem_cons.2 ⟨ti23_ok, List.forall_mem_cons.2 ⟨ti25_ok, List.forall_mem_cons.2 ⟨ti29_ok, List.forall_mem_cons.2 ⟨ti32_ok, List.forall_mem_cons.2 ⟨ti33_ok, List.forall_mem_cons.2 ⟨ti35_ok, List.forall_mem_cons.2 ⟨ti36_ok, List.forall_mem_cons.2 ⟨ti41_ok, List.forall_mem_cons.2 ⟨ti43_ok, List.forall_mem_cons.2 ⟨ti57_ok, List.forall_mem_cons.2 ⟨ti59_ok, List.forall_mem_cons.2 ⟨ti64_ok, List.forall_mem_cons.2 ⟨ti68_ok, List.forall_mem_cons.2 ⟨ti83_ok, List.forall_mem_cons.2 ⟨ti86_ok, List.forall_mem_cons.2 ⟨ti88_ok, List.forall_mem_cons.2 ⟨ti96_ok, List.forall_mem_cons.2 ⟨ti98_ok, List.forall_mem_cons.2 ⟨ti101_ok, List.forall_mem_cons.2 ⟨ti102_ok, List.forall_mem_cons.2 ⟨ti104_ok, List.forall_mem_cons.2 ⟨ti108_ok, List.forall_mem_cons.2 ⟨ti118_ok, List.forall_mem_cons.2 ⟨ti120_ok, List.forall_mem_cons.2 ⟨ti123_ok, List.forall_mem_cons.2 ⟨ti134_ok, List.forall_mem_cons.2 ⟨ti142_ok, List.forall_mem_cons.2 ⟨ti154_ok, List.forall_mem_cons.2 ⟨ti158_ok, List.forall_mem_cons.2 ⟨ti160_ok, fun _ h => nomatch h⟩⟩⟩⟩⟩⟩⟩⟩⟩⟩⟩⟩⟩⟩⟩⟩⟩⟩⟩⟩⟩⟩⟩⟩⟩⟩⟩⟩⟩⟩⟩⟩⟩⟩⟩⟩
def AD : List Nat := [104]
theorem AD_ok : ∀ f, f ∈ AD → AddOk Try.prog f := List.forall_mem_cons.2 ⟨fun x y c hx hy h0 h1 w => by rw [run_callFunc_extern Try.func104 (by kernel_rfl) (by kernel_rfl) (by kernel_rfl) (e := add64Entry) (by kernel_rfl), run_add64 x y c hx hy h0 h1]; rfl, fun _ h => nomatch h⟩
noncomputable abbrev SS : SD := ⟨Try.prog, TT, AD, TT_ok, AD_ok⟩
end Go.Proofs.Ytjbobaeggdafpaa.Vm
