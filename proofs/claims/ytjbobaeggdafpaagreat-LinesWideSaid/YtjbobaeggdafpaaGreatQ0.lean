
import Derived.Test.YtjbobaeggdafpaaGreatV3
import Derived.Test.YtjbobaeggdafpaaGreatProg
namespace Go.Proofs.YtjbobaeggdafpaaGreat.Vm
open Go
open _root_.Go.RowKit (wrap64)
set_option maxRecDepth 100000
set_option linter.unusedVariables false
abbrev runtime_boundsError := Int × Int × Bool × Int
abbrev runtime_errorAddressString := ByteArray × Int
abbrev api_Settings := Int × Int × Int × Int × Int × Int × Int
abbrev regletlaw10_Para := ByteArray × (List (Int × Int)) × Int × Int × Int × Int × Int × Int × Int × Int
abbrev api_Breaking := List Int × Int × Bool
abbrev regletref08_Sum := Int × Int × Int × Int
abbrev api_Item := Int × Int × Int × Int × Bool × Int × Bool × Int × Int
abbrev api_Line := ByteArray × (List (Int × Int)) × Int × Int × Int × Bool × Int × Bool × Bool
abbrev api_Style := Int × Int × Int × Int × Int × Int × (List (Int × Int × Int)) × Bool
abbrev api_Run := Int × Int
abbrev api_Fit := Int × Int × Int × Int × Bool
abbrev measure_Para := List api_Item × List Int × List Int × List Int × List Int × List Int × Int × List Int
abbrev items_builder := List api_Style × List api_Item × Int × Bool
abbrev breaks_search := measure_Para × Int × Int × Int × Int × Int × Int × Int × Int × Bool × List regletref08_Sum × List Int
abbrev api_Range := Int × Int × Int
abbrev measure_Ahead := Int × Bool
abbrev A0 := Int × Int × Int × Int × Int × Int × List api_Range × Bool
abbrev A1 := List (Int × Int × Int × Int × Int × Int × List api_Range × Bool)
abbrev A2 := (Option (List (Int × Int × Int × Int × Int × Int × List api_Range × Bool))) × Int × Int
abbrev A3 := (Option (List (Int × Int × Int × Int × Int × Int × List api_Range × Bool)))
abbrev A4 := Option measure_Para × Int
abbrev A5 := (Int × Int × Int × Int × Int × Int × List api_Range × Bool)
abbrev A6 := (List (ByteArray × List api_Run × Int × Int × Int × Bool × Int × Bool × Bool))
abbrev A7 := List (ByteArray × List api_Run × Int × Int × Int × Bool × Int × Bool × Bool)
abbrev A8 := ByteArray × Nat
abbrev A9 := ((List (Int × Int × Int × Int × Int × Int × List api_Range × Bool)) × List api_Item × Int × Bool)
abbrev A10 := (List (Int × Int × Int × Int × Int × Int × List api_Range × Bool)) × List api_Item × Int × Bool
abbrev A11 := Int × Int × Int
abbrev A12 := List api_Item × Int
abbrev A13 := Int × Int × Bool
abbrev A14 := Int × breaks_search
abbrev A15 := api_Breaking × Int
abbrev A16 := (List (ByteArray × List api_Run × Int × Int × Int × Bool × Int × Bool × Bool)) × api_Breaking × Int
abbrev A17 := ByteArray × List api_Run × Int × Int × Int × Int × Int × Int × Int × Int
abbrev A18 := List Int × List Int × Int
abbrev A19 := List (List Int)
abbrev A20 := regletref08_Sum × Bool
abbrev y0 : Ty := .cons (.i .i64) (.i .i64)
abbrev y1 : Ty := .cons (.i .i64) y0
abbrev y2 : Ty := .row true y1
abbrev y3 : Ty := .cons y2 .b
abbrev y4 : Ty := .cons (.i .i64) y3
abbrev y5 : Ty := .cons (.i .i64) y4
abbrev y6 : Ty := .cons (.i .i64) y5
abbrev y7 : Ty := .cons (.i .i64) y6
abbrev y8 : Ty := .cons (.i .i64) y7
abbrev y9 : Ty := .cons (.i .i64) y8
abbrev y10 : Ty := .own 3 (.i .i64)
abbrev y11 : Ty := .row true y9
abbrev y12 : Ty := .own 137 y1
abbrev y13 : Ty := .cons y12 .b
abbrev y14 : Ty := .cons (.i .i64) y13
abbrev y15 : Ty := .cons (.i .i64) y14
abbrev y16 : Ty := .cons (.i .i64) y15
abbrev y17 : Ty := .cons (.i .i64) y16
abbrev y18 : Ty := .cons (.i .i64) y17
abbrev y19 : Ty := .cons (.i .i64) y18
abbrev y20 : Ty := .own 68 y19
abbrev y21 : Ty := .cons .b y0
abbrev y22 : Ty := .cons (.i .i64) y21
abbrev y23 : Ty := .cons .b y22
abbrev y24 : Ty := .cons (.i .i64) y23
abbrev y25 : Ty := .cons (.i .i64) y24
abbrev y26 : Ty := .cons (.i .i64) y25
abbrev y27 : Ty := .cons (.i .i64) y26
abbrev y28 : Ty := .row true y27
abbrev y29 : Ty := .own 63 y27
abbrev y30 : Ty := .cons (.i .i64) y10
abbrev y31 : Ty := .cons y10 y30
abbrev y32 : Ty := .cons y10 y31
abbrev y33 : Ty := .cons y10 y32
abbrev y34 : Ty := .cons y10 y33
abbrev y35 : Ty := .cons y10 y34
abbrev y36 : Ty := .cons y29 y35
abbrev y37 : Ty := .row true (.i .i64)
abbrev y38 : Ty := .cons (.i .i64) y37
abbrev y39 : Ty := .cons y37 y38
abbrev y40 : Ty := .cons y37 y39
abbrev y41 : Ty := .cons y37 y40
abbrev y42 : Ty := .cons y37 y41
abbrev y43 : Ty := .cons y37 y42
abbrev y44 : Ty := .cons y28 y43
abbrev y45 : Ty := .ptr true y44
abbrev y46 : Ty := .cons (.i .u64) (.i .u64)
abbrev y47 : Ty := .cons (.i .u64) y46
abbrev y48 : Ty := .cons (.i .u64) y47
abbrev y49 : Ty := .cons (.i .i64) .b
abbrev y50 : Ty := .cons (.i .i64) y49
abbrev y51 : Ty := .cons (.i .i64) y50
abbrev y52 : Ty := .cons (.i .i64) y51
abbrev y53 : Ty := .cons (.i .i64) y1
abbrev y54 : Ty := .own 70 y0
abbrev y55 : Ty := .row true y0
abbrev y56 : Ty := .ptr true y11
abbrev y57 : Ty := .row false y1
abbrev y58 : Ty := .cons y57 .b
abbrev y59 : Ty := .cons (.i .i64) y58
abbrev y60 : Ty := .cons (.i .i64) y59
abbrev y61 : Ty := .cons (.i .i64) y60
abbrev y62 : Ty := .cons (.i .i64) y61
abbrev y63 : Ty := .cons (.i .i64) y62
abbrev y64 : Ty := .cons (.i .i64) y63
abbrev y65 : Ty := .row false y64
abbrev y66 : Ty := .ptr false y65
abbrev y67 : Ty := .row false y0
abbrev y68 : Ty := .cons .b .b
abbrev y69 : Ty := .cons (.i .i64) y68
abbrev y70 : Ty := .cons .b y69
abbrev y71 : Ty := .cons (.i .i64) y70
abbrev y72 : Ty := .cons (.i .i64) y71
abbrev y73 : Ty := .cons (.i .i64) y72
abbrev y74 : Ty := .cons y54 y73
abbrev y75 : Ty := .cons .s y74
abbrev y76 : Ty := .own 65 y75
abbrev y77 : Ty := .row false y27
abbrev y78 : Ty := .row false (.i .i64)
abbrev y79 : Ty := .cons (.i .i64) y78
abbrev y80 : Ty := .cons y78 y79
abbrev y81 : Ty := .cons y78 y80
abbrev y82 : Ty := .cons y78 y81
abbrev y83 : Ty := .cons y78 y82
abbrev y84 : Ty := .cons y78 y83
abbrev y85 : Ty := .cons y77 y84
abbrev y86 : Ty := .ptr false y85
abbrev y87 : Ty := .cons y78 y49
abbrev y88 : Ty := .cons y29 y49
abbrev y89 : Ty := .cons y66 y88
abbrev y90 : Ty := .cons (.i .i64) y53
abbrev y91 : Ty := .cons (.i .i64) y90
abbrev y92 : Ty := .cons (.i .i64) y91
abbrev y93 : Ty := .own 157 y53
abbrev y94 : Ty := .cons y93 y10
abbrev y95 : Ty := .cons .b y94
abbrev y96 : Ty := .cons (.i .i64) y95
abbrev y97 : Ty := .cons (.i .i64) y96
abbrev y98 : Ty := .cons (.i .i64) y97
abbrev y99 : Ty := .cons (.i .i64) y98
abbrev y100 : Ty := .cons (.i .i64) y99
abbrev y101 : Ty := .cons (.i .i64) y100
abbrev y102 : Ty := .cons (.i .i64) y101
abbrev y103 : Ty := .cons (.i .i64) y102
abbrev y104 : Ty := .cons y86 y103
abbrev y105 : Ty := .row true y53
abbrev y106 : Ty := .cons y105 y37
abbrev y107 : Ty := .cons .b y106
abbrev y108 : Ty := .cons (.i .i64) y107
abbrev y109 : Ty := .cons (.i .i64) y108
abbrev y110 : Ty := .cons (.i .i64) y109
abbrev y111 : Ty := .cons (.i .i64) y110
abbrev y112 : Ty := .cons (.i .i64) y111
abbrev y113 : Ty := .cons (.i .i64) y112
abbrev y114 : Ty := .cons (.i .i64) y113
abbrev y115 : Ty := .cons (.i .i64) y114
abbrev y116 : Ty := .cons y45 y115
abbrev y117 : Ty := .ptr true y116
abbrev y118 : Ty := .cons y10 y49
abbrev y119 : Ty := .cons (.i .i64) y92
abbrev y120 : Ty := .cons y55 y119
abbrev y121 : Ty := .cons .s y120
abbrev y122 : Ty := .row false y78
abbrev y123 : Ty := .cons y67 y119
abbrev y124 : Ty := .cons .s y123
abbrev y125 : Ty := .cons y54 y119
abbrev y126 : Ty := .cons .s y125
abbrev y127 : Ty := .cons y77 y49
abbrev y128 : Ty := .cons y66 y127
abbrev y129 : Ty := .ptr false y128
abbrev y130 : Ty := .row false y53
abbrev y131 : Ty := .cons y130 y78
abbrev y132 : Ty := .cons .b y131
abbrev y133 : Ty := .cons (.i .i64) y132
abbrev y134 : Ty := .cons (.i .i64) y133
abbrev y135 : Ty := .cons (.i .i64) y134
abbrev y136 : Ty := .cons (.i .i64) y135
abbrev y137 : Ty := .cons (.i .i64) y136
abbrev y138 : Ty := .cons (.i .i64) y137
abbrev y139 : Ty := .cons (.i .i64) y138
abbrev y140 : Ty := .cons (.i .i64) y139
abbrev y141 : Ty := .cons y86 y140
abbrev y142 : Ty := .ptr false y141
abbrev y143 : Ty := .own 33 y10
def ti3 : TI := { k := .x, ag := false, sz := 1, by_ := 8, z := .int .i64 0, z0 := [.v (.i .i64) 0], fs := [], c := (.i .i64) }
def ti4 : TI := { k := .bool, ag := false, sz := 1, by_ := 1, z := .bool false, z0 := [.v .b (false)], fs := [], c := .b }
def ti5 : TI := { k := .x, ag := false, sz := 1, by_ := 1, z := .int .u8 0, z0 := [.v (.i .u8) 0], fs := [], c := (.i .u8) }
def ti9 : TI := { k := .str, ag := false, sz := 1, by_ := 16, z := .string ByteArray.empty, z0 := [.v .s ByteArray.empty], fs := [], c := .s }
def ti21 : TI := { k := .x, ag := false, sz := 1, by_ := 4, z := .int .i32 0, z0 := [.v (.i .i32) 0], fs := [], c := (.i .i32) }
def ti22 : TI := { k := .sl 68, ag := false, sz := 1, by_ := 24, z := .slice none 0 0, z0 := [.v y20 ([] : List (Int × Int × Int × Int × Int × Int × List api_Range × Bool))], fs := [], c := y20 }
def ti23 : TI := { k := .sl 70, ag := false, sz := 1, by_ := 24, z := .slice none 0 0, z0 := [.v y54 ([] : List api_Run)], fs := [], c := y54 }
def ti25 : TI := { k := .x, ag := true, sz := 7, by_ := 56, z := .agg #[.int .i64 0, .int .i64 0, .int .i64 0, .int .i64 0, .int .i64 0, .int .i64 0, .int .i64 0], z0 := [.v (.i .i64) 0, .v (.i .i64) 0, .v (.i .i64) 0, .v (.i .i64) 0, .v (.i .i64) 0, .v (.i .i64) 0, .v (.i .i64) 0], fs := [(0, false, 1), (1, false, 1), (2, false, 1), (3, false, 1), (4, false, 1), (5, false, 1), (6, false, 1)], c := y92 }
def ti27 : TI := { k := .x, ag := true, sz := 10, by_ := 104, z := .agg #[.string ByteArray.empty, .slice none 0 0, .int .i64 0, .int .i64 0, .int .i64 0, .int .i64 0, .int .i64 0, .int .i64 0, .int .i64 0, .int .i64 0], z0 := [.v .s ByteArray.empty, .v y54 ([] : List api_Run), .v (.i .i64) 0, .v (.i .i64) 0, .v (.i .i64) 0, .v (.i .i64) 0, .v (.i .i64) 0, .v (.i .i64) 0, .v (.i .i64) 0, .v (.i .i64) 0], fs := [(0, false, 1), (1, false, 1), (2, false, 1), (3, true, 7)], c := y126 }
def ti29 : TI := { k := .x, ag := false, sz := 1, by_ := 8, z := .pointer none, z0 := [.np], fs := [], c := y66 }
def ti32 : TI := { k := .sl 65, ag := false, sz := 1, by_ := 24, z := .slice none 0 0, z0 := [.v y76 ([] : List (ByteArray × List api_Run × Int × Int × Int × Bool × Int × Bool × Bool))], fs := [], c := y76 }
def ti33 : TI := { k := .sl 3, ag := false, sz := 1, by_ := 24, z := .slice none 0 0, z0 := [.v y10 ([] : List Int)], fs := [], c := y10 }
def ti35 : TI := { k := .x, ag := true, sz := 3, by_ := 40, z := .agg #[.slice none 0 0, .int .i64 0, .bool false], z0 := [.v y10 ([] : List Int), .v (.i .i64) 0, .v .b (false)], fs := [(0, false, 1), (1, false, 1), (2, false, 1)], c := y118 }
def ti36 : TI := { k := .x, ag := false, sz := 1, by_ := 8, z := .int .i64 0, z0 := [.v (.i .i64) 0], fs := [], c := (.i .i64) }
def ti39 : TI := { k := .sl 63, ag := false, sz := 1, by_ := 24, z := .slice none 0 0, z0 := [.v y29 ([] : List api_Item)], fs := [], c := y29 }
def ti48 : TI := { k := .x, ag := false, sz := 1, by_ := 8, z := .pointer none, z0 := [.np], fs := [], c := y86 }
def ti59 : TI := { k := .x, ag := true, sz := 4, by_ := 32, z := .agg #[.int .i64 0, .int .i64 0, .int .i64 0, .int .i64 0], z0 := [.v (.i .i64) 0, .v (.i .i64) 0, .v (.i .i64) 0, .v (.i .i64) 0], fs := [(0, false, 1), (1, false, 1), (2, false, 1), (3, false, 1)], c := y53 }
def ti63 : TI := { k := .x, ag := true, sz := 9, by_ := 72, z := .agg #[.int .i64 0, .int .i64 0, .int .i64 0, .int .i64 0, .bool false, .int .i64 0, .bool false, .int .i64 0, .int .i64 0], z0 := [.v (.i .i64) 0, .v (.i .i64) 0, .v (.i .i64) 0, .v (.i .i64) 0, .v .b (false), .v (.i .i64) 0, .v .b (false), .v (.i .i64) 0, .v (.i .i64) 0], fs := [(0, false, 1), (1, false, 1), (2, false, 1), (3, false, 1), (4, false, 1), (5, false, 1), (6, false, 1), (7, false, 1), (8, false, 1)], c := y27 }
def ti65 : TI := { k := .x, ag := true, sz := 9, by_ := 88, z := .agg #[.string ByteArray.empty, .slice none 0 0, .int .i64 0, .int .i64 0, .int .i64 0, .bool false, .int .i64 0, .bool false, .bool false], z0 := [.v .s ByteArray.empty, .v y54 ([] : List api_Run), .v (.i .i64) 0, .v (.i .i64) 0, .v (.i .i64) 0, .v .b (false), .v (.i .i64) 0, .v .b (false), .v .b (false)], fs := [(0, false, 1), (1, false, 1), (2, false, 1), (3, false, 1), (4, false, 1), (5, false, 1), (6, false, 1), (7, false, 1), (8, false, 1)], c := y75 }
def ti66 : TI := { k := .sl 137, ag := false, sz := 1, by_ := 24, z := .slice none 0 0, z0 := [.v y12 ([] : List api_Range)], fs := [], c := y12 }
def ti68 : TI := { k := .x, ag := true, sz := 8, by_ := 80, z := .agg #[.int .i64 0, .int .i64 0, .int .i64 0, .int .i64 0, .int .i64 0, .int .i64 0, .slice none 0 0, .bool false], z0 := [.v (.i .i64) 0, .v (.i .i64) 0, .v (.i .i64) 0, .v (.i .i64) 0, .v (.i .i64) 0, .v (.i .i64) 0, .v y12 ([] : List api_Range), .v .b (false)], fs := [(0, false, 1), (1, false, 1), (2, false, 1), (3, false, 1), (4, false, 1), (5, false, 1), (6, false, 1), (7, false, 1)], c := y19 }
def ti70 : TI := { k := .x, ag := true, sz := 2, by_ := 16, z := .agg #[.int .i64 0, .int .i64 0], z0 := [.v (.i .i64) 0, .v (.i .i64) 0], fs := [(0, false, 1), (1, false, 1)], c := y0 }
def ti92 : TI := { k := .x, ag := true, sz := 5, by_ := 40, z := .agg #[.int .i64 0, .int .i64 0, .int .i64 0, .int .i64 0, .bool false], z0 := [.v (.i .i64) 0, .v (.i .i64) 0, .v (.i .i64) 0, .v (.i .i64) 0, .v .b (false)], fs := [(0, false, 1), (1, false, 1), (2, false, 1), (3, false, 1), (4, false, 1)], c := y52 }
def ti101 : TI := { k := .x, ag := true, sz := 8, by_ := 176, z := .agg #[.slice none 0 0, .slice none 0 0, .slice none 0 0, .slice none 0 0, .slice none 0 0, .slice none 0 0, .int .i64 0, .slice none 0 0], z0 := [.v y29 ([] : List api_Item), .v y10 ([] : List Int), .v y10 ([] : List Int), .v y10 ([] : List Int), .v y10 ([] : List Int), .v y10 ([] : List Int), .v (.i .i64) 0, .v y10 ([] : List Int)], fs := [(0, false, 1), (1, false, 1), (2, false, 1), (3, false, 1), (4, false, 1), (5, false, 1), (6, false, 1), (7, false, 1)], c := y36 }
def ti115 : TI := { k := .x, ag := true, sz := 1, by_ := 24, z := .agg #[.slice none 0 0], z0 := [.v y20 ([] : List (Int × Int × Int × Int × Int × Int × List api_Range × Bool))], fs := [(0, false, 1)], c := y20 }
def ti118 : TI := { k := .x, ag := false, sz := 1, by_ := 8, z := .pointer none, z0 := [.np], fs := [], c := y129 }
def ti120 : TI := { k := .x, ag := true, sz := 4, by_ := 48, z := .agg #[.pointer none, .slice none 0 0, .int .i64 0, .bool false], z0 := [.np, .v y29 ([] : List api_Item), .v (.i .i64) 0, .v .b (false)], fs := [(0, false, 1), (1, false, 1), (2, false, 1), (3, false, 1)], c := y89 }
def ti127 : TI := { k := .x, ag := false, sz := 1, by_ := 8, z := .pointer none, z0 := [.np], fs := [], c := y142 }
def ti128 : TI := { k := .sl 157, ag := false, sz := 1, by_ := 24, z := .slice none 0 0, z0 := [.v y93 ([] : List regletref08_Sum)], fs := [], c := y93 }
def ti130 : TI := { k := .x, ag := true, sz := 12, by_ := 128, z := .agg #[.pointer none, .int .i64 0, .int .i64 0, .int .i64 0, .int .i64 0, .int .i64 0, .int .i64 0, .int .i64 0, .int .i64 0, .bool false, .slice none 0 0, .slice none 0 0], z0 := [.np, .v (.i .i64) 0, .v (.i .i64) 0, .v (.i .i64) 0, .v (.i .i64) 0, .v (.i .i64) 0, .v (.i .i64) 0, .v (.i .i64) 0, .v (.i .i64) 0, .v .b (false), .v y93 ([] : List regletref08_Sum), .v y10 ([] : List Int)], fs := [(0, false, 1), (1, false, 1), (2, true, 7), (9, false, 1), (10, false, 1), (11, false, 1)], c := y104 }
def ti137 : TI := { k := .x, ag := true, sz := 3, by_ := 24, z := .agg #[.int .i64 0, .int .i64 0, .int .i64 0], z0 := [.v (.i .i64) 0, .v (.i .i64) 0, .v (.i .i64) 0], fs := [(0, false, 1), (1, false, 1), (2, false, 1)], c := y1 }
def ti138 : TI := { k := .sl 33, ag := false, sz := 1, by_ := 24, z := .slice none 0 0, z0 := [.v y143 ([] : List (List Int))], fs := [], c := y143 }
def ti143 : TI := { k := .x, ag := true, sz := 4, by_ := 32, z := .agg #[.int .i64 0, .int .i64 0, .int .i64 0, .int .i64 0], z0 := [.v (.i .i64) 0, .v (.i .i64) 0, .v (.i .i64) 0, .v (.i .i64) 0], fs := [(0, false, 1), (1, false, 1), (2, false, 1), (3, false, 1)], c := y53 }
def ti157 : TI := { k := .arr 4 3, ag := true, sz := 4, by_ := 32, z := .agg #[.int .i64 0, .int .i64 0, .int .i64 0, .int .i64 0], z0 := [.v (.i .i64) 0, .v (.i .i64) 0, .v (.i .i64) 0, .v (.i .i64) 0], fs := [], c := y53 }
def ti174 : TI := { k := .x, ag := true, sz := 2, by_ := 16, z := .agg #[.int .i64 0, .bool false], z0 := [.v (.i .i64) 0, .v .b (false)], fs := [(0, false, 1), (1, false, 1)], c := y49 }
def ti182 : TI := { k := .x, ag := false, sz := 1, by_ := 8, z := .int .u64 0, z0 := [.v (.i .u64) 0], fs := [], c := (.i .u64) }
def ti184 : TI := { k := .arr 4 182, ag := true, sz := 4, by_ := 32, z := .agg #[.int .u64 0, .int .u64 0, .int .u64 0, .int .u64 0], z0 := [.v (.i .u64) 0, .v (.i .u64) 0, .v (.i .u64) 0, .v (.i .u64) 0], fs := [], c := y48 }
def TT : List (Nat × TI) := [(3, ti3), (4, ti4), (5, ti5), (9, ti9), (21, ti21), (22, ti22), (23, ti23), (25, ti25), (27, ti27), (29, ti29), (32, ti32), (33, ti33), (35, ti35), (36, ti36), (39, ti39), (48, ti48), (59, ti59), (63, ti63), (65, ti65), (66, ti66), (68, ti68), (70, ti70), (92, ti92), (101, ti101), (115, ti115), (118, ti118), (120, ti120), (127, ti127), (128, ti128), (130, ti130), (137, ti137), (138, ti138), (143, ti143), (157, ti157), (174, ti174), (182, ti182), (184, ti184)]
theorem ti3_ok : TIok Tryz.prog 3 ti3 := ⟨trivial, by kernel_rfl, by kernel_rfl, by kernel_rfl, eq_true (lt_of rfl), eq_true (lt_of rfl), ⟨rfl, rfl, trivial⟩, trivial, trivial⟩
theorem ti4_ok : TIok Tryz.prog 4 ti4 := ⟨(by kernel_rfl : Tryz.prog.underlying 4 = some (.bool)), by kernel_rfl, by kernel_rfl, by kernel_rfl, eq_true (lt_of rfl), eq_true (lt_of rfl), ⟨rfl, rfl, trivial⟩, trivial, trivial⟩
theorem ti5_ok : TIok Tryz.prog 5 ti5 := ⟨trivial, by kernel_rfl, by kernel_rfl, by kernel_rfl, eq_true (lt_of rfl), eq_true (lt_of rfl), ⟨rfl, rfl, trivial⟩, trivial, trivial⟩
theorem ti9_ok : TIok Tryz.prog 9 ti9 := ⟨(by kernel_rfl : Tryz.prog.underlying 9 = some (.string)), by kernel_rfl, by kernel_rfl, by kernel_rfl, eq_true (lt_of rfl), eq_true (lt_of rfl), ⟨rfl, rfl, trivial⟩, trivial, trivial⟩
theorem ti21_ok : TIok Tryz.prog 21 ti21 := ⟨trivial, by kernel_rfl, by kernel_rfl, by kernel_rfl, eq_true (lt_of rfl), eq_true (lt_of rfl), ⟨rfl, rfl, trivial⟩, trivial, trivial⟩
theorem ti22_ok : TIok Tryz.prog 22 ti22 := ⟨(by kernel_rfl : Tryz.prog.underlying 22 = some (.slice 68)), by kernel_rfl, by kernel_rfl, by kernel_rfl, eq_true (lt_of rfl), eq_true (lt_of rfl), ⟨lt_of rfl, rfl, trivial⟩, trivial, trivial⟩
theorem ti23_ok : TIok Tryz.prog 23 ti23 := ⟨(by kernel_rfl : Tryz.prog.underlying 23 = some (.slice 70)), by kernel_rfl, by kernel_rfl, by kernel_rfl, eq_true (lt_of rfl), eq_true (lt_of rfl), ⟨lt_of rfl, rfl, trivial⟩, trivial, trivial⟩
theorem ti25_ok : TIok Tryz.prog 25 ti25 := ⟨trivial, by kernel_rfl, by kernel_rfl, by kernel_rfl, eq_true (lt_of rfl), eq_true (lt_of rfl), ⟨rfl, rfl, rfl, rfl, rfl, rfl, rfl, rfl, rfl, rfl, rfl, rfl, rfl, rfl, trivial⟩, ⟨by kernel_rfl, by kernel_rfl, by kernel_rfl, by kernel_rfl, by kernel_rfl, by kernel_rfl, by kernel_rfl, by kernel_rfl, by kernel_rfl, by kernel_rfl, by kernel_rfl, by kernel_rfl, by kernel_rfl, by kernel_rfl, trivial⟩, (by kernel_rfl : places Tryz.prog 25 = some (ti25.fs.map fun q => (q.1, q.2.2)).toArray)⟩
theorem ti27_ok : TIok Tryz.prog 27 ti27 := ⟨trivial, by kernel_rfl, by kernel_rfl, by kernel_rfl, eq_true (lt_of rfl), eq_true (lt_of rfl), ⟨rfl, rfl, lt_of rfl, rfl, rfl, rfl, rfl, rfl, rfl, rfl, rfl, rfl, rfl, rfl, rfl, rfl, rfl, rfl, rfl, rfl, trivial⟩, ⟨by kernel_rfl, by kernel_rfl, by kernel_rfl, by kernel_rfl, by kernel_rfl, by kernel_rfl, by kernel_rfl, by kernel_rfl, trivial⟩, (by kernel_rfl : places Tryz.prog 27 = some (ti27.fs.map fun q => (q.1, q.2.2)).toArray)⟩
theorem ti29_ok : TIok Tryz.prog 29 ti29 := ⟨trivial, by kernel_rfl, by kernel_rfl, by kernel_rfl, eq_true (lt_of rfl), eq_true (lt_of rfl), ⟨rfl, rfl, trivial⟩, trivial, trivial⟩
theorem ti32_ok : TIok Tryz.prog 32 ti32 := ⟨(by kernel_rfl : Tryz.prog.underlying 32 = some (.slice 65)), by kernel_rfl, by kernel_rfl, by kernel_rfl, eq_true (lt_of rfl), eq_true (lt_of rfl), ⟨lt_of rfl, rfl, trivial⟩, trivial, trivial⟩
theorem ti33_ok : TIok Tryz.prog 33 ti33 := ⟨(by kernel_rfl : Tryz.prog.underlying 33 = some (.slice 3)), by kernel_rfl, by kernel_rfl, by kernel_rfl, eq_true (lt_of rfl), eq_true (lt_of rfl), ⟨lt_of rfl, rfl, trivial⟩, trivial, trivial⟩
theorem ti35_ok : TIok Tryz.prog 35 ti35 := ⟨trivial, by kernel_rfl, by kernel_rfl, by kernel_rfl, eq_true (lt_of rfl), eq_true (lt_of rfl), ⟨lt_of rfl, rfl, rfl, rfl, rfl, rfl, trivial⟩, ⟨by kernel_rfl, by kernel_rfl, by kernel_rfl, by kernel_rfl, by kernel_rfl, by kernel_rfl, trivial⟩, (by kernel_rfl : places Tryz.prog 35 = some (ti35.fs.map fun q => (q.1, q.2.2)).toArray)⟩
theorem ti36_ok : TIok Tryz.prog 36 ti36 := ⟨trivial, by kernel_rfl, by kernel_rfl, by kernel_rfl, eq_true (lt_of rfl), eq_true (lt_of rfl), ⟨rfl, rfl, trivial⟩, trivial, trivial⟩
theorem ti39_ok : TIok Tryz.prog 39 ti39 := ⟨(by kernel_rfl : Tryz.prog.underlying 39 = some (.slice 63)), by kernel_rfl, by kernel_rfl, by kernel_rfl, eq_true (lt_of rfl), eq_true (lt_of rfl), ⟨lt_of rfl, rfl, trivial⟩, trivial, trivial⟩
theorem ti48_ok : TIok Tryz.prog 48 ti48 := ⟨trivial, by kernel_rfl, by kernel_rfl, by kernel_rfl, eq_true (lt_of rfl), eq_true (lt_of rfl), ⟨rfl, rfl, trivial⟩, trivial, trivial⟩
theorem ti59_ok : TIok Tryz.prog 59 ti59 := ⟨trivial, by kernel_rfl, by kernel_rfl, by kernel_rfl, eq_true (lt_of rfl), eq_true (lt_of rfl), ⟨rfl, rfl, rfl, rfl, rfl, rfl, rfl, rfl, trivial⟩, ⟨by kernel_rfl, by kernel_rfl, by kernel_rfl, by kernel_rfl, by kernel_rfl, by kernel_rfl, by kernel_rfl, by kernel_rfl, trivial⟩, (by kernel_rfl : places Tryz.prog 59 = some (ti59.fs.map fun q => (q.1, q.2.2)).toArray)⟩
theorem ti63_ok : TIok Tryz.prog 63 ti63 := ⟨trivial, by kernel_rfl, by kernel_rfl, by kernel_rfl, eq_true (lt_of rfl), eq_true (lt_of rfl), ⟨rfl, rfl, rfl, rfl, rfl, rfl, rfl, rfl, rfl, rfl, rfl, rfl, rfl, rfl, rfl, rfl, rfl, rfl, trivial⟩, ⟨by kernel_rfl, by kernel_rfl, by kernel_rfl, by kernel_rfl, by kernel_rfl, by kernel_rfl, by kernel_rfl, by kernel_rfl, by kernel_rfl, by kernel_rfl, by kernel_rfl, by kernel_rfl, by kernel_rfl, by kernel_rfl, by kernel_rfl, by kernel_rfl, by kernel_rfl, by kernel_rfl, trivial⟩, (by kernel_rfl : places Tryz.prog 63 = some (ti63.fs.map fun q => (q.1, q.2.2)).toArray)⟩
theorem ti65_ok : TIok Tryz.prog 65 ti65 := ⟨trivial, by kernel_rfl, by kernel_rfl, by kernel_rfl, eq_true (lt_of rfl), eq_true (lt_of rfl), ⟨rfl, rfl, lt_of rfl, rfl, rfl, rfl, rfl, rfl, rfl, rfl, rfl, rfl, rfl, rfl, rfl, rfl, rfl, rfl, trivial⟩, ⟨by kernel_rfl, by kernel_rfl, by kernel_rfl, by kernel_rfl, by kernel_rfl, by kernel_rfl, by kernel_rfl, by kernel_rfl, by kernel_rfl, by kernel_rfl, by kernel_rfl, by kernel_rfl, by kernel_rfl, by kernel_rfl, by kernel_rfl, by kernel_rfl, by kernel_rfl, by kernel_rfl, trivial⟩, (by kernel_rfl : places Tryz.prog 65 = some (ti65.fs.map fun q => (q.1, q.2.2)).toArray)⟩
theorem ti66_ok : TIok Tryz.prog 66 ti66 := ⟨(by kernel_rfl : Tryz.prog.underlying 66 = some (.slice 137)), by kernel_rfl, by kernel_rfl, by kernel_rfl, eq_true (lt_of rfl), eq_true (lt_of rfl), ⟨lt_of rfl, rfl, trivial⟩, trivial, trivial⟩
theorem ti68_ok : TIok Tryz.prog 68 ti68 := ⟨trivial, by kernel_rfl, by kernel_rfl, by kernel_rfl, eq_true (lt_of rfl), eq_true (lt_of rfl), ⟨rfl, rfl, rfl, rfl, rfl, rfl, rfl, rfl, rfl, rfl, rfl, rfl, lt_of rfl, rfl, rfl, rfl, trivial⟩, ⟨by kernel_rfl, by kernel_rfl, by kernel_rfl, by kernel_rfl, by kernel_rfl, by kernel_rfl, by kernel_rfl, by kernel_rfl, by kernel_rfl, by kernel_rfl, by kernel_rfl, by kernel_rfl, by kernel_rfl, by kernel_rfl, by kernel_rfl, by kernel_rfl, trivial⟩, (by kernel_rfl : places Tryz.prog 68 = some (ti68.fs.map fun q => (q.1, q.2.2)).toArray)⟩
theorem ti70_ok : TIok Tryz.prog 70 ti70 := ⟨trivial, by kernel_rfl, by kernel_rfl, by kernel_rfl, eq_true (lt_of rfl), eq_true (lt_of rfl), ⟨rfl, rfl, rfl, rfl, trivial⟩, ⟨by kernel_rfl, by kernel_rfl, by kernel_rfl, by kernel_rfl, trivial⟩, (by kernel_rfl : places Tryz.prog 70 = some (ti70.fs.map fun q => (q.1, q.2.2)).toArray)⟩
theorem ti92_ok : TIok Tryz.prog 92 ti92 := ⟨trivial, by kernel_rfl, by kernel_rfl, by kernel_rfl, eq_true (lt_of rfl), eq_true (lt_of rfl), ⟨rfl, rfl, rfl, rfl, rfl, rfl, rfl, rfl, rfl, rfl, trivial⟩, ⟨by kernel_rfl, by kernel_rfl, by kernel_rfl, by kernel_rfl, by kernel_rfl, by kernel_rfl, by kernel_rfl, by kernel_rfl, by kernel_rfl, by kernel_rfl, trivial⟩, (by kernel_rfl : places Tryz.prog 92 = some (ti92.fs.map fun q => (q.1, q.2.2)).toArray)⟩
theorem ti101_ok : TIok Tryz.prog 101 ti101 := ⟨trivial, by kernel_rfl, by kernel_rfl, by kernel_rfl, eq_true (lt_of rfl), eq_true (lt_of rfl), ⟨lt_of rfl, rfl, lt_of rfl, rfl, lt_of rfl, rfl, lt_of rfl, rfl, lt_of rfl, rfl, lt_of rfl, rfl, rfl, rfl, lt_of rfl, rfl, trivial⟩, ⟨by kernel_rfl, by kernel_rfl, by kernel_rfl, by kernel_rfl, by kernel_rfl, by kernel_rfl, by kernel_rfl, by kernel_rfl, by kernel_rfl, by kernel_rfl, by kernel_rfl, by kernel_rfl, by kernel_rfl, by kernel_rfl, by kernel_rfl, by kernel_rfl, trivial⟩, (by kernel_rfl : places Tryz.prog 101 = some (ti101.fs.map fun q => (q.1, q.2.2)).toArray)⟩
theorem ti115_ok : TIok Tryz.prog 115 ti115 := ⟨trivial, by kernel_rfl, by kernel_rfl, by kernel_rfl, eq_true (lt_of rfl), eq_true (lt_of rfl), ⟨lt_of rfl, rfl, trivial⟩, ⟨by kernel_rfl, by kernel_rfl, trivial⟩, (by kernel_rfl : places Tryz.prog 115 = some (ti115.fs.map fun q => (q.1, q.2.2)).toArray)⟩
theorem ti118_ok : TIok Tryz.prog 118 ti118 := ⟨trivial, by kernel_rfl, by kernel_rfl, by kernel_rfl, eq_true (lt_of rfl), eq_true (lt_of rfl), ⟨rfl, rfl, trivial⟩, trivial, trivial⟩
theorem ti120_ok : TIok Tryz.prog 120 ti120 := ⟨trivial, by kernel_rfl, by kernel_rfl, by kernel_rfl, eq_true (lt_of rfl), eq_true (lt_of rfl), ⟨rfl, rfl, lt_of rfl, rfl, rfl, rfl, rfl, rfl, trivial⟩, ⟨by kernel_rfl, by kernel_rfl, by kernel_rfl, by kernel_rfl, by kernel_rfl, by kernel_rfl, by kernel_rfl, by kernel_rfl, trivial⟩, (by kernel_rfl : places Tryz.prog 120 = some (ti120.fs.map fun q => (q.1, q.2.2)).toArray)⟩
theorem ti127_ok : TIok Tryz.prog 127 ti127 := ⟨trivial, by kernel_rfl, by kernel_rfl, by kernel_rfl, eq_true (lt_of rfl), eq_true (lt_of rfl), ⟨rfl, rfl, trivial⟩, trivial, trivial⟩
theorem ti128_ok : TIok Tryz.prog 128 ti128 := ⟨(by kernel_rfl : Tryz.prog.underlying 128 = some (.slice 157)), by kernel_rfl, by kernel_rfl, by kernel_rfl, eq_true (lt_of rfl), eq_true (lt_of rfl), ⟨lt_of rfl, rfl, trivial⟩, trivial, trivial⟩
theorem ti130_ok : TIok Tryz.prog 130 ti130 := ⟨trivial, by kernel_rfl, by kernel_rfl, by kernel_rfl, eq_true (lt_of rfl), eq_true (lt_of rfl), ⟨rfl, rfl, rfl, rfl, rfl, rfl, rfl, rfl, rfl, rfl, rfl, rfl, rfl, rfl, rfl, rfl, rfl, rfl, rfl, rfl, lt_of rfl, rfl, lt_of rfl, rfl, trivial⟩, ⟨by kernel_rfl, by kernel_rfl, by kernel_rfl, by kernel_rfl, by kernel_rfl, by kernel_rfl, by kernel_rfl, by kernel_rfl, by kernel_rfl, by kernel_rfl, by kernel_rfl, by kernel_rfl, trivial⟩, (by kernel_rfl : places Tryz.prog 130 = some (ti130.fs.map fun q => (q.1, q.2.2)).toArray)⟩
theorem ti137_ok : TIok Tryz.prog 137 ti137 := ⟨trivial, by kernel_rfl, by kernel_rfl, by kernel_rfl, eq_true (lt_of rfl), eq_true (lt_of rfl), ⟨rfl, rfl, rfl, rfl, rfl, rfl, trivial⟩, ⟨by kernel_rfl, by kernel_rfl, by kernel_rfl, by kernel_rfl, by kernel_rfl, by kernel_rfl, trivial⟩, (by kernel_rfl : places Tryz.prog 137 = some (ti137.fs.map fun q => (q.1, q.2.2)).toArray)⟩
theorem ti138_ok : TIok Tryz.prog 138 ti138 := ⟨(by kernel_rfl : Tryz.prog.underlying 138 = some (.slice 33)), by kernel_rfl, by kernel_rfl, by kernel_rfl, eq_true (lt_of rfl), eq_true (lt_of rfl), ⟨lt_of rfl, rfl, trivial⟩, trivial, trivial⟩
theorem ti143_ok : TIok Tryz.prog 143 ti143 := ⟨trivial, by kernel_rfl, by kernel_rfl, by kernel_rfl, eq_true (lt_of rfl), eq_true (lt_of rfl), ⟨rfl, rfl, rfl, rfl, rfl, rfl, rfl, rfl, trivial⟩, ⟨by kernel_rfl, by kernel_rfl, by kernel_rfl, by kernel_rfl, by kernel_rfl, by kernel_rfl, by kernel_rfl, by kernel_rfl, trivial⟩, (by kernel_rfl : places Tryz.prog 143 = some (ti143.fs.map fun q => (q.1, q.2.2)).toArray)⟩
theorem ti157_ok : TIok Tryz.prog 157 ti157 := ⟨(by kernel_rfl : Tryz.prog.underlying 157 = some (.array 4 3)), by kernel_rfl, by kernel_rfl, by kernel_rfl, eq_true (lt_of rfl), eq_true (lt_of rfl), ⟨rfl, rfl, rfl, rfl, rfl, rfl, rfl, rfl, trivial⟩, trivial, trivial⟩
theorem ti174_ok : TIok Tryz.prog 174 ti174 := ⟨trivial, by kernel_rfl, by kernel_rfl, by kernel_rfl, eq_true (lt_of rfl), eq_true (lt_of rfl), ⟨rfl, rfl, rfl, rfl, trivial⟩, ⟨by kernel_rfl, by kernel_rfl, by kernel_rfl, by kernel_rfl, trivial⟩, (by kernel_rfl : places Tryz.prog 174 = some (ti174.fs.map fun q => (q.1, q.2.2)).toArray)⟩
theorem ti182_ok : TIok Tryz.prog 182 ti182 := ⟨trivial, by kernel_rfl, by kernel_rfl, by kernel_rfl, eq_true (lt_of rfl), eq_true (lt_of rfl), ⟨rfl, rfl, trivial⟩, trivial, trivial⟩
theorem ti184_ok : TIok Tryz.prog 184 ti184 := ⟨(by kernel_rfl : Tryz.prog.underlying 184 = some (.array 4 182)), by kernel_rfl, by kernel_rfl, by kernel_rfl, eq_true (lt_of rfl), eq_true (lt_of rfl), ⟨rfl, rfl, rfl, rfl, rfl, rfl, rfl, rfl, trivial⟩, trivial, trivial⟩
theorem TT_ok : ∀ p, p ∈ TT → TIok Tryz.prog p.1 p.2 := List.forall_mem_cons.2 ⟨ti3_ok, List.forall_mem_cons.2 ⟨ti4_ok, List.forall_mem_cons.2 ⟨ti5_ok, List.forall_mem_cons.2 ⟨ti9_ok, List.forall_mem_cons.2 ⟨ti21_ok, List.forall_mem_cons.2 ⟨ti22_ok, List.forall_mem_cons.2 ⟨ti23_ok, List.forall_mem_cons.2 ⟨ti25_ok, List.forall_mem_cons.2 ⟨ti27_ok, List.forall_mem_cons.2 ⟨ti29_ok, List.forall_mem_cons.2 ⟨ti32_ok, List.forall_mem_cons.2 ⟨ti33_ok, List.forall_mem_cons.2 ⟨ti35_ok, List.forall_mem_cons.2 ⟨ti36_ok, List.forall_mem_cons.2 ⟨ti39_ok, List.forall_mem_cons.2 ⟨ti48_ok, List.forall_mem_cons.2 ⟨ti59_ok, List.forall_mem_cons.2 ⟨ti63_ok, List.forall_mem_cons.2 ⟨ti65_ok, List.forall_mem_cons.2 ⟨ti66_ok, List.forall_mem_cons.2 ⟨ti68_ok, List.forall_mem_cons.2 ⟨ti70_ok, List.forall_mem_cons.2 ⟨ti92_ok, List.forall_mem_cons.2 ⟨ti101_ok, List.forall_mem_cons.2 ⟨ti115_ok, List.forall_mem_cons.2 ⟨ti118_ok, List.forall_mem_cons.2 ⟨ti120_ok, List.forall_mem_cons.2 ⟨ti127_ok, List.forall_mem_cons.2 ⟨ti128_ok, List.forall_mem_cons.2 ⟨ti130_ok, List.forall_mem_cons.2 ⟨ti137_ok, List.forall_mem_cons.2 ⟨ti138_ok, List.forall_mem_cons.2 ⟨ti143_ok, List.forall_mem_cons.2 ⟨ti157_ok, List.forall_mem_cons.2 ⟨ti174_ok, List.forall_mem_cons.2 ⟨ti182_ok, List.forall_mem_cons.2 ⟨ti184_ok, fun _ h => nomatch h⟩⟩⟩⟩⟩⟩⟩⟩⟩⟩⟩⟩⟩⟩⟩⟩⟩⟩⟩⟩⟩⟩⟩⟩⟩⟩⟩⟩⟩⟩⟩⟩⟩⟩⟩⟩⟩
def AD : List Nat := [134]
theorem AD_ok : ∀ f, f ∈ AD → AddOk Tryz.prog f := List.forall_mem_cons.2 ⟨fun x y c hx hy h0 h1 w => by rw [run_callFunc_extern Tryz.func134 (by kernel_rfl) (by kernel_rfl) (by kernel_rfl) (e := add64Entry) (by kernel_rfl), run_add64 x y c hx hy h0 h1]; rfl, fun _ h => nomatch h⟩
noncomputable abbrev SS : SD := ⟨Tryz.prog, TT, AD, TT_ok, AD_ok⟩
end Go.Proofs.YtjbobaeggdafpaaGreat.Vm
