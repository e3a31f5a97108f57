/- The equations of the functions that a law reaches, part 1. No condition. -/
import Derived.Test.YtcdlkadknenodaaGreatV4
import Derived.Test.YtcdlkadknenodaaGreatProg
import Derived.KernelRfl
namespace Go.Proofs.YtcdlkadknenodaaGreat.World
open Go Go.V Go.Proofs
set_option linter.unusedVariables false
set_option linter.unusedSimpArgs false
set_option maxRecDepth 100000
set_option maxHeartbeats 4000000
abbrev I6 : Type := Int × Int × Int × Int × Int × Int
abbrev I4 : Type := Int × Int × Int × Int
abbrev I3 : Type := Int × Int × Int
abbrev I2 : Type := Int × Int
abbrev TLPiece : Type := I2 × (List I2) × List (Int × (List Int) × List Int)
abbrev TPiece : Type := I2 × (List I2) × List (Int × (List Int) × List Int)
abbrev TLProgram : Type := Int × Int × Int × List TPiece
abbrev TProgram : Type := Int × Int × Int × List TPiece
abbrev TLSky : Type := Int × (List I4) × (List I3) × Int × Int × Int × Int × Int × (List I3) × Int
abbrev TSky : Type := Int × (List I4) × (List I3) × Int × Int × Int × Int × Int × (List I3) × Int
abbrev TLWorld : Type := TSky × TProgram × (List Int) × (List Int) × (List I6) × (List (List I6)) × (List I4) × (List Int) × (List (Int × Int × List Int)) × (List I4) × Int × Int × (List I6) × List I4
abbrev TWorld : Type := TSky × TProgram × (List Int) × (List Int) × (List I6) × (List (List I6)) × (List I4) × (List Int) × (List (Int × Int × List Int)) × (List I4) × Int × Int × (List I6) × List I4
abbrev sI4 : Sh := (.a [(.i .i64), (.i .i64), (.i .i64), (.i .i64)])
abbrev sI3 : Sh := (.a [(.i .i64), (.i .i64), (.i .i64)])
abbrev sI2 : Sh := (.a [(.i .i64), (.i .i64)])
abbrev sZone : Sh := (.a [(.i .i64), sI2])
abbrev sLSky : Sh := (.a [(.i .i64), (.l 185 sI4), (.l 187 sI3), (.i .i64), (.i .i64), (.i .i64), (.i .i64), (.i .i64), (.l 191 sZone), (.i .i64)])
abbrev sTable : Sh := (.a [(.i .i64), (.l 3 (.i .i64)), (.l 3 (.i .i64))])
abbrev sLPiece : Sh := (.a [sI2, (.l 220 sI2), (.l 218 sTable)])
abbrev sLProgram : Sh := (.a [(.i .i64), (.i .i64), (.i .i64), (.l 183 sLPiece)])
abbrev sLaw : Sh := (.a [(.l 3 (.i .i64))])
abbrev sI6 : Sh := (.a [(.i .i64), (.i .i64), (.i .i64), (.i .i64), (.i .i64), (.i .i64)])
abbrev sLQueue : Sh := (.a [(.l 167 sI6)])
abbrev sStream : Sh := (.a [(.i .i64), (.i .i64), (.l 3 (.i .i64))])
abbrev sLWorld : Sh := (.a [sLSky, sLProgram, sLaw, (.l 3 (.i .i64)), (.l 159 sI6), (.l 151 sLQueue), (.l 162 sI4), (.l 3 (.i .i64)), (.l 153 sStream), (.l 165 sI4), (.i .i64), (.i .i64), (.l 167 sI6), (.l 169 sI4)])
abbrev sSky : Sh := (.a [(.i .i64), (.l 94 sI4), (.l 97 sI3), (.i .i64), (.i .i64), (.i .i64), (.i .i64), (.i .i64), (.l 102 sZone), (.i .i64)])
abbrev sPiece : Sh := (.a [sI2, (.l 112 sI2), (.l 115 sTable)])
abbrev sProgram : Sh := (.a [(.i .i64), (.i .i64), (.i .i64), (.l 109 sPiece)])
abbrev sQueue : Sh := (.a [(.l 122 sI6)])
abbrev sWorld : Sh := (.a [sSky, sProgram, sLaw, (.l 3 (.i .i64)), (.l 126 sI6), (.l 120 sQueue), (.l 129 sI4), (.l 3 (.i .i64)), (.l 132 sStream), (.l 136 sI4), (.i .i64), (.i .i64), (.l 122 sI6), (.l 139 sI4)])
noncomputable def ty : Nat → Option TyI
  | 3 => some ⟨.one, 1, 8, [(.int .i64 0)], (.i .i64)⟩
  | 4 => some ⟨.one, 1, 1, [(.bool false)], .b⟩
  | 22 => some ⟨.slc 185, 1, 24, [(.slice none 0 0)], (.l 185 sI4)⟩
  | 23 => some ⟨.slc 187, 1, 24, [(.slice none 0 0)], (.l 187 sI3)⟩
  | 24 => some ⟨.slc 191, 1, 24, [(.slice none 0 0)], (.l 191 sZone)⟩
  | 26 => some ⟨.agg [(0, 3), (1, 22), (2, 23), (3, 3), (4, 3), (5, 3), (6, 3), (7, 3), (8, 24), (9, 3)], 10, 128, [(.int .i64 0), (.slice none 0 0), (.slice none 0 0), (.int .i64 0), (.int .i64 0), (.int .i64 0), (.int .i64 0), (.int .i64 0), (.slice none 0 0), (.int .i64 0)], sLSky⟩
  | 27 => some ⟨.slc 183, 1, 24, [(.slice none 0 0)], (.l 183 sLPiece)⟩
  | 29 => some ⟨.agg [(0, 3), (1, 3), (2, 3), (3, 27)], 4, 48, [(.int .i64 0), (.int .i64 0), (.int .i64 0), (.slice none 0 0)], sLProgram⟩
  | 30 => some ⟨.slc 3, 1, 24, [(.slice none 0 0)], (.l 3 (.i .i64))⟩
  | 32 => some ⟨.agg [(0, 30)], 1, 24, [(.slice none 0 0)], sLaw⟩
  | 33 => some ⟨.slc 159, 1, 24, [(.slice none 0 0)], (.l 159 sI6)⟩
  | 34 => some ⟨.slc 151, 1, 24, [(.slice none 0 0)], (.l 151 sLQueue)⟩
  | 35 => some ⟨.slc 162, 1, 24, [(.slice none 0 0)], (.l 162 sI4)⟩
  | 36 => some ⟨.slc 153, 1, 24, [(.slice none 0 0)], (.l 153 sStream)⟩
  | 37 => some ⟨.slc 165, 1, 24, [(.slice none 0 0)], (.l 165 sI4)⟩
  | 38 => some ⟨.slc 167, 1, 24, [(.slice none 0 0)], (.l 167 sI6)⟩
  | 39 => some ⟨.slc 169, 1, 24, [(.slice none 0 0)], (.l 169 sI4)⟩
  | 41 => some ⟨.agg [(0, 26), (10, 29), (14, 32), (15, 30), (16, 33), (17, 34), (18, 35), (19, 30), (20, 36), (21, 37), (22, 3), (23, 3), (24, 38), (25, 39)], 26, 432, [(.int .i64 0), (.slice none 0 0), (.slice none 0 0), (.int .i64 0), (.int .i64 0), (.int .i64 0), (.int .i64 0), (.int .i64 0), (.slice none 0 0), (.int .i64 0), (.int .i64 0), (.int .i64 0), (.int .i64 0), (.slice none 0 0), (.slice none 0 0), (.slice none 0 0), (.slice none 0 0), (.slice none 0 0), (.slice none 0 0), (.slice none 0 0), (.slice none 0 0), (.slice none 0 0), (.int .i64 0), (.int .i64 0), (.slice none 0 0), (.slice none 0 0)], sLWorld⟩
  | 44 => some ⟨.slc 94, 1, 24, [(.slice none 0 0)], (.l 94 sI4)⟩
  | 45 => some ⟨.slc 97, 1, 24, [(.slice none 0 0)], (.l 97 sI3)⟩
  | 46 => some ⟨.slc 102, 1, 24, [(.slice none 0 0)], (.l 102 sZone)⟩
  | 48 => some ⟨.agg [(0, 3), (1, 44), (2, 45), (3, 3), (4, 3), (5, 3), (6, 3), (7, 3), (8, 46), (9, 3)], 10, 128, [(.int .i64 0), (.slice none 0 0), (.slice none 0 0), (.int .i64 0), (.int .i64 0), (.int .i64 0), (.int .i64 0), (.int .i64 0), (.slice none 0 0), (.int .i64 0)], sSky⟩
  | 49 => some ⟨.slc 109, 1, 24, [(.slice none 0 0)], (.l 109 sPiece)⟩
  | 51 => some ⟨.agg [(0, 3), (1, 3), (2, 3), (3, 49)], 4, 48, [(.int .i64 0), (.int .i64 0), (.int .i64 0), (.slice none 0 0)], sProgram⟩
  | 52 => some ⟨.agg [(0, 30)], 1, 24, [(.slice none 0 0)], sLaw⟩
  | 53 => some ⟨.slc 126, 1, 24, [(.slice none 0 0)], (.l 126 sI6)⟩
  | 54 => some ⟨.slc 120, 1, 24, [(.slice none 0 0)], (.l 120 sQueue)⟩
  | 55 => some ⟨.slc 129, 1, 24, [(.slice none 0 0)], (.l 129 sI4)⟩
  | 56 => some ⟨.slc 132, 1, 24, [(.slice none 0 0)], (.l 132 sStream)⟩
  | 57 => some ⟨.slc 136, 1, 24, [(.slice none 0 0)], (.l 136 sI4)⟩
  | 58 => some ⟨.slc 122, 1, 24, [(.slice none 0 0)], (.l 122 sI6)⟩
  | 59 => some ⟨.slc 139, 1, 24, [(.slice none 0 0)], (.l 139 sI4)⟩
  | 61 => some ⟨.agg [(0, 48), (10, 51), (14, 52), (15, 30), (16, 53), (17, 54), (18, 55), (19, 30), (20, 56), (21, 57), (22, 3), (23, 3), (24, 58), (25, 59)], 26, 432, [(.int .i64 0), (.slice none 0 0), (.slice none 0 0), (.int .i64 0), (.int .i64 0), (.int .i64 0), (.int .i64 0), (.int .i64 0), (.slice none 0 0), (.int .i64 0), (.int .i64 0), (.int .i64 0), (.int .i64 0), (.slice none 0 0), (.slice none 0 0), (.slice none 0 0), (.slice none 0 0), (.slice none 0 0), (.slice none 0 0), (.slice none 0 0), (.slice none 0 0), (.slice none 0 0), (.int .i64 0), (.int .i64 0), (.slice none 0 0), (.slice none 0 0)], sWorld⟩
  | 94 => some ⟨.agg [(0, 3), (1, 3), (2, 3), (3, 3)], 4, 32, [(.int .i64 0), (.int .i64 0), (.int .i64 0), (.int .i64 0)], sI4⟩
  | 97 => some ⟨.agg [(0, 3), (1, 3), (2, 3)], 3, 24, [(.int .i64 0), (.int .i64 0), (.int .i64 0)], sI3⟩
  | 100 => some ⟨.agg [(0, 3), (1, 3)], 2, 16, [(.int .i64 0), (.int .i64 0)], sI2⟩
  | 102 => some ⟨.agg [(0, 3), (1, 100)], 3, 24, [(.int .i64 0), (.int .i64 0), (.int .i64 0)], sZone⟩
  | 105 => some ⟨.agg [(0, 3), (1, 3)], 2, 16, [(.int .i64 0), (.int .i64 0)], sI2⟩
  | 106 => some ⟨.slc 112, 1, 24, [(.slice none 0 0)], (.l 112 sI2)⟩
  | 107 => some ⟨.slc 115, 1, 24, [(.slice none 0 0)], (.l 115 sTable)⟩
  | 109 => some ⟨.agg [(0, 105), (2, 106), (3, 107)], 4, 64, [(.int .i64 0), (.int .i64 0), (.slice none 0 0), (.slice none 0 0)], sPiece⟩
  | 112 => some ⟨.agg [(0, 3), (1, 3)], 2, 16, [(.int .i64 0), (.int .i64 0)], sI2⟩
  | 115 => some ⟨.agg [(0, 3), (1, 30), (2, 30)], 3, 56, [(.int .i64 0), (.slice none 0 0), (.slice none 0 0)], sTable⟩
  | 120 => some ⟨.agg [(0, 58)], 1, 24, [(.slice none 0 0)], sQueue⟩
  | 122 => some ⟨.agg [(0, 3), (1, 3), (2, 3), (3, 3), (4, 3), (5, 3)], 6, 48, [(.int .i64 0), (.int .i64 0), (.int .i64 0), (.int .i64 0), (.int .i64 0), (.int .i64 0)], sI6⟩
  | 126 => some ⟨.agg [(0, 3), (1, 3), (2, 3), (3, 3), (4, 3), (5, 3)], 6, 48, [(.int .i64 0), (.int .i64 0), (.int .i64 0), (.int .i64 0), (.int .i64 0), (.int .i64 0)], sI6⟩
  | 129 => some ⟨.agg [(0, 3), (1, 3), (2, 3), (3, 3)], 4, 32, [(.int .i64 0), (.int .i64 0), (.int .i64 0), (.int .i64 0)], sI4⟩
  | 132 => some ⟨.agg [(0, 3), (1, 3), (2, 30)], 3, 40, [(.int .i64 0), (.int .i64 0), (.slice none 0 0)], sStream⟩
  | 136 => some ⟨.agg [(0, 3), (1, 3), (2, 3), (3, 3)], 4, 32, [(.int .i64 0), (.int .i64 0), (.int .i64 0), (.int .i64 0)], sI4⟩
  | 139 => some ⟨.agg [(0, 3), (1, 3), (2, 3), (3, 3)], 4, 32, [(.int .i64 0), (.int .i64 0), (.int .i64 0), (.int .i64 0)], sI4⟩
  | 151 => some ⟨.agg [(0, 38)], 1, 24, [(.slice none 0 0)], sLQueue⟩
  | 153 => some ⟨.agg [(0, 3), (1, 3), (2, 30)], 3, 40, [(.int .i64 0), (.int .i64 0), (.slice none 0 0)], sStream⟩
  | 159 => some ⟨.agg [(0, 3), (1, 3), (2, 3), (3, 3), (4, 3), (5, 3)], 6, 48, [(.int .i64 0), (.int .i64 0), (.int .i64 0), (.int .i64 0), (.int .i64 0), (.int .i64 0)], sI6⟩
  | 162 => some ⟨.agg [(0, 3), (1, 3), (2, 3), (3, 3)], 4, 32, [(.int .i64 0), (.int .i64 0), (.int .i64 0), (.int .i64 0)], sI4⟩
  | 165 => some ⟨.agg [(0, 3), (1, 3), (2, 3), (3, 3)], 4, 32, [(.int .i64 0), (.int .i64 0), (.int .i64 0), (.int .i64 0)], sI4⟩
  | 167 => some ⟨.agg [(0, 3), (1, 3), (2, 3), (3, 3), (4, 3), (5, 3)], 6, 48, [(.int .i64 0), (.int .i64 0), (.int .i64 0), (.int .i64 0), (.int .i64 0), (.int .i64 0)], sI6⟩
  | 169 => some ⟨.agg [(0, 3), (1, 3), (2, 3), (3, 3)], 4, 32, [(.int .i64 0), (.int .i64 0), (.int .i64 0), (.int .i64 0)], sI4⟩
  | 179 => some ⟨.agg [(0, 3), (1, 3)], 2, 16, [(.int .i64 0), (.int .i64 0)], sI2⟩
  | 180 => some ⟨.slc 220, 1, 24, [(.slice none 0 0)], (.l 220 sI2)⟩
  | 181 => some ⟨.slc 218, 1, 24, [(.slice none 0 0)], (.l 218 sTable)⟩
  | 183 => some ⟨.agg [(0, 179), (2, 180), (3, 181)], 4, 64, [(.int .i64 0), (.int .i64 0), (.slice none 0 0), (.slice none 0 0)], sLPiece⟩
  | 185 => some ⟨.agg [(0, 3), (1, 3), (2, 3), (3, 3)], 4, 32, [(.int .i64 0), (.int .i64 0), (.int .i64 0), (.int .i64 0)], sI4⟩
  | 187 => some ⟨.agg [(0, 3), (1, 3), (2, 3)], 3, 24, [(.int .i64 0), (.int .i64 0), (.int .i64 0)], sI3⟩
  | 189 => some ⟨.agg [(0, 3), (1, 3)], 2, 16, [(.int .i64 0), (.int .i64 0)], sI2⟩
  | 191 => some ⟨.agg [(0, 3), (1, 189)], 3, 24, [(.int .i64 0), (.int .i64 0), (.int .i64 0)], sZone⟩
  | 218 => some ⟨.agg [(0, 3), (1, 30), (2, 30)], 3, 56, [(.int .i64 0), (.slice none 0 0), (.slice none 0 0)], sTable⟩
  | 220 => some ⟨.agg [(0, 3), (1, 3)], 2, 16, [(.int .i64 0), (.int .i64 0)], sI2⟩
  | _ => none
noncomputable def fn0 : Nat → Option Func
  | 3 => some Tryz.f3
  | 5 => some Tryz.f5
  | 6 => some Tryz.f6
  | 7 => some Tryz.f7
  | 8 => some Tryz.f8
  | 9 => some Tryz.f9
  | 12 => some Tryz.f12
  | 13 => some Tryz.f13
  | 14 => some Tryz.f14
  | 15 => some Tryz.f15
  | 16 => some Tryz.f16
  | 17 => some Tryz.f17
  | 18 => some Tryz.f18
  | 19 => some Tryz.f19
  | 20 => some Tryz.f20
  | 21 => some Tryz.f21
  | 22 => some Tryz.f22
  | 23 => some Tryz.f23
  | 24 => some Tryz.f24
  | 25 => some Tryz.f25
  | 26 => some Tryz.f26
  | 27 => some Tryz.f27
  | 28 => some Tryz.f28
  | 29 => some Tryz.f29
  | 30 => some Tryz.f30
  | 31 => some Tryz.f31
  | 32 => some Tryz.f32
  | 33 => some Tryz.f33
  | 34 => some Tryz.f34
  | 35 => some Tryz.f35
  | 36 => some Tryz.f36
  | 37 => some Tryz.f37
  | 38 => some Tryz.f38
  | 39 => some Tryz.f39
  | 40 => some Tryz.f40
  | 41 => some Tryz.f41
  | 42 => some Tryz.f42
  | 43 => some Tryz.f43
  | 44 => some Tryz.f44
  | 45 => some Tryz.f45
  | 46 => some Tryz.f46
  | 47 => some Tryz.f47
  | 48 => some Tryz.f48
  | 49 => some Tryz.f49
  | 50 => some Tryz.f50
  | 51 => some Tryz.f51
  | 52 => some Tryz.f52
  | 53 => some Tryz.f53
  | 54 => some Tryz.f54
  | 55 => some Tryz.f55
  | 56 => some Tryz.f56
  | 57 => some Tryz.f57
  | 58 => some Tryz.f58
  | 59 => some Tryz.f59
  | 60 => some Tryz.f60
  | 61 => some Tryz.f61
  | 62 => some Tryz.f62
  | 63 => some Tryz.f63
  | 64 => some Tryz.f64
  | 65 => some Tryz.f65
  | _ => none
noncomputable def fn1 : Nat → Option Func
  | 66 => some Tryz.f66
  | 67 => some Tryz.f67
  | 71 => some Tryz.f71
  | 72 => some Tryz.f72
  | 73 => some Tryz.f73
  | 74 => some Tryz.f74
  | 75 => some Tryz.f75
  | 76 => some Tryz.f76
  | 77 => some Tryz.f77
  | 78 => some Tryz.f78
  | 79 => some Tryz.f79
  | 80 => some Tryz.f80
  | 81 => some Tryz.f81
  | 82 => some Tryz.f82
  | 83 => some Tryz.f83
  | 84 => some Tryz.f84
  | 85 => some Tryz.f85
  | 86 => some Tryz.f86
  | 87 => some Tryz.f87
  | 88 => some Tryz.f88
  | 89 => some Tryz.f89
  | 90 => some Tryz.f90
  | 91 => some Tryz.f91
  | 92 => some Tryz.f92
  | 93 => some Tryz.f93
  | 94 => some Tryz.f94
  | 95 => some Tryz.f95
  | 96 => some Tryz.f96
  | 97 => some Tryz.f97
  | 98 => some Tryz.f98
  | 99 => some Tryz.f99
  | 100 => some Tryz.f100
  | 101 => some Tryz.f101
  | 106 => some Tryz.f106
  | 107 => some Tryz.f107
  | 108 => some Tryz.f108
  | 109 => some Tryz.f109
  | 110 => some Tryz.f110
  | 111 => some Tryz.f111
  | 112 => some Tryz.f112
  | 113 => some Tryz.f113
  | 114 => some Tryz.f114
  | 121 => some Tryz.f121
  | 122 => some Tryz.f122
  | 123 => some Tryz.f123
  | 124 => some Tryz.f124
  | 125 => some Tryz.f125
  | 126 => some Tryz.f126
  | 127 => some Tryz.f127
  | 128 => some Tryz.f128
  | 129 => some Tryz.f129
  | 130 => some Tryz.f130
  | 140 => some Tryz.f140
  | 141 => some Tryz.f141
  | 142 => some Tryz.f142
  | 143 => some Tryz.f143
  | 144 => some Tryz.f144
  | _ => none
noncomputable def fn (f : Nat) : Option Func := (match fn0 f with
  | some F => some F
  | none => fn1 f)
def lv : Nat → List Nat
  | 8 => [0, 1099511627778, 1099511627779, 2199023263743, 2199023271935, 1649267441666, 1649284218882, 1649284268048, 1649300996098, 1649301016583, 1649301045332, 1649317773314, 1649317793799, 1649317822552, 1649334550530, 1649334571015, 1649334583306, 1649334599794, 1649351327746, 1649351348231, 1649351360522, 1649351377015]
  | 17 => [0, 0, 1, 5]
  | 19 => [0, 0, 1, 5]
  | 23 => [0, 2, 3, 5, 6, 7]
  | 24 => [0, 2, 3, 5, 6, 7, 8]
  | 25 => [0, 0, 1, 5]
  | 26 => [0, 2, 3, 5, 6, 7, 8, 9, 10]
  | 27 => [0, 0, 1, 5]
  | 31 => [0, 0, 3, 4]
  | 32 => [0, 0, 3, 4]
  | 33 => [0, 0, 3, 4]
  | 34 => [0, 0, 3, 4]
  | 35 => [0, 0, 3, 4]
  | 36 => [0, 0, 3, 4]
  | 37 => [0, 0, 3, 4]
  | 38 => [0, 0, 3, 4]
  | 39 => [0, 0, 1, 12, 13]
  | 40 => [0, 0, 1, 12, 13]
  | 41 => [0, 0, 1, 12, 13]
  | 42 => [0, 1, 2, 15, 16, 17]
  | 44 => [0, 0, 1, 12, 13]
  | 45 => [0, 1, 2, 15, 16, 17]
  | 47 => [0, 1, 2, 15, 16, 17]
  | 49 => [0, 0, 1, 12, 13]
  | 50 => [0, 0, 1, 12, 13]
  | 51 => [0, 0, 1, 12, 13]
  | 52 => [0, 0, 1, 12, 13]
  | 53 => [0, 1, 2, 15, 16, 17]
  | 55 => [0, 0, 1, 12, 13]
  | 56 => [0, 0, 1, 12, 13]
  | 60 => [0, 0, 1, 5]
  | 61 => [0, 0, 1, 5]
  | 62 => [0, 0, 1, 5]
  | 63 => [0, 0, 1, 5]
  | 64 => [0, 0, 1, 5]
  | 65 => [0, 0, 1, 5]
  | 66 => [0, 0, 1, 5]
  | 67 => [0, 0, 1, 5]
  | 74 => [0, 0, 1, 5]
  | 77 => [0, 0, 1, 5]
  | 80 => [0, 0, 3, 4]
  | 81 => [0, 0, 3, 4]
  | 82 => [0, 0, 3, 4]
  | 83 => [0, 0, 3, 4]
  | 91 => [0, 0, 1, 5]
  | 92 => [0, 0, 1, 5]
  | 93 => [0, 0, 1, 5]
  | 94 => [0, 0, 1, 5]
  | 122 => [0, 0, 1, 5]
  | 125 => [0, 0, 3, 4]
  | 126 => [0, 0, 3, 4]
  | 129 => [0, 0, 1, 5]
  | 130 => [0, 0, 1, 5]
  | _ => []
def rs : Nat → RSh
  | 3 => ⟨false, [.b], 0⟩
  | 5 => ⟨false, [(.i .i64)], 0⟩
  | 6 => ⟨false, [.b], 0⟩
  | 7 => ⟨true, [sWorld], 0⟩
  | 8 => ⟨false, [.b], 0⟩
  | 9 => ⟨false, [.b], 0⟩
  | 12 => ⟨false, [(.i .i64)], 0⟩
  | 13 => ⟨false, [(.i .i64)], 0⟩
  | 14 => ⟨false, [(.i .i64)], 0⟩
  | 15 => ⟨false, [(.i .i64)], 0⟩
  | 16 => ⟨false, [(.i .i64)], 0⟩
  | 17 => ⟨false, [(.i .i64)], 0⟩
  | 18 => ⟨false, [(.i .i64)], 0⟩
  | 19 => ⟨false, [(.i .i64)], 0⟩
  | 20 => ⟨false, [(.i .i64)], 0⟩
  | 21 => ⟨false, [(.i .i64)], 0⟩
  | 22 => ⟨false, [(.i .i64)], 0⟩
  | 23 => ⟨false, [.b], 0⟩
  | 24 => ⟨false, [.b], 0⟩
  | 25 => ⟨false, [.b], 0⟩
  | 26 => ⟨false, [.b], 0⟩
  | 27 => ⟨false, [.b], 0⟩
  | 28 => ⟨true, [sSky], 0⟩
  | 29 => ⟨true, [sProgram], 0⟩
  | 30 => ⟨true, [sLaw], 0⟩
  | 31 => ⟨true, [(.l 3 (.i .i64))], 0⟩
  | 32 => ⟨true, [(.l 126 sI6)], 0⟩
  | 33 => ⟨true, [(.l 120 sQueue)], 0⟩
  | 34 => ⟨true, [(.l 129 sI4)], 0⟩
  | 35 => ⟨true, [(.l 132 sStream)], 0⟩
  | 36 => ⟨true, [(.l 136 sI4)], 0⟩
  | 37 => ⟨true, [(.l 122 sI6)], 0⟩
  | 38 => ⟨true, [(.l 139 sI4)], 0⟩
  | 39 => ⟨false, [.b], 0⟩
  | 40 => ⟨false, [.b], 0⟩
  | 41 => ⟨false, [.b], 0⟩
  | 42 => ⟨false, [.b], 0⟩
  | 43 => ⟨false, [.b], 0⟩
  | 44 => ⟨false, [.b], 0⟩
  | 45 => ⟨false, [.b], 0⟩
  | 46 => ⟨false, [.b], 0⟩
  | 47 => ⟨false, [.b], 0⟩
  | 48 => ⟨false, [.b], 0⟩
  | 49 => ⟨false, [.b], 0⟩
  | 50 => ⟨false, [.b], 0⟩
  | 51 => ⟨false, [.b], 0⟩
  | 52 => ⟨false, [.b], 0⟩
  | 53 => ⟨false, [.b], 0⟩
  | 54 => ⟨false, [.b], 0⟩
  | 55 => ⟨false, [.b], 0⟩
  | 56 => ⟨false, [.b], 0⟩
  | 57 => ⟨false, [.b], 0⟩
  | 58 => ⟨false, [.b], 0⟩
  | 59 => ⟨false, [.b], 0⟩
  | 60 => ⟨false, [.b], 0⟩
  | 61 => ⟨false, [.b], 0⟩
  | 62 => ⟨false, [.b], 0⟩
  | 63 => ⟨false, [.b], 0⟩
  | 64 => ⟨false, [.b], 0⟩
  | 65 => ⟨false, [.b], 0⟩
  | 66 => ⟨false, [.b], 0⟩
  | 67 => ⟨false, [.b], 0⟩
  | 71 => ⟨false, [(.i .i64)], 0⟩
  | 72 => ⟨false, [(.i .i64)], 0⟩
  | 73 => ⟨false, [(.i .i64)], 0⟩
  | 74 => ⟨false, [(.i .i64)], 0⟩
  | 75 => ⟨false, [(.i .i64)], 0⟩
  | 76 => ⟨false, [(.i .i64)], 0⟩
  | 77 => ⟨false, [.b], 0⟩
  | 78 => ⟨false, [.b], 0⟩
  | 79 => ⟨false, [.b], 0⟩
  | 80 => ⟨true, [(.l 94 sI4)], 0⟩
  | 81 => ⟨true, [(.l 97 sI3)], 0⟩
  | 82 => ⟨true, [(.l 102 sZone)], 0⟩
  | 83 => ⟨true, [(.l 109 sPiece)], 0⟩
  | 84 => ⟨false, [sI6], 0⟩
  | 85 => ⟨true, [sQueue], 0⟩
  | 86 => ⟨false, [sI4], 0⟩
  | 87 => ⟨true, [sStream], 0⟩
  | 88 => ⟨false, [sI4], 0⟩
  | 89 => ⟨false, [sI6], 0⟩
  | 90 => ⟨false, [sI4], 0⟩
  | 91 => ⟨false, [.b], 0⟩
  | 92 => ⟨false, [.b], 0⟩
  | 93 => ⟨false, [.b], 0⟩
  | 94 => ⟨false, [.b], 0⟩
  | 95 => ⟨false, [.b], 0⟩
  | 96 => ⟨false, [.b], 0⟩
  | 97 => ⟨false, [.b], 0⟩
  | 98 => ⟨false, [.b], 0⟩
  | 99 => ⟨false, [.b], 0⟩
  | 100 => ⟨false, [.b], 0⟩
  | 101 => ⟨false, [.b], 0⟩
  | 106 => ⟨false, [(.i .i64)], 0⟩
  | 107 => ⟨false, [sI4], 0⟩
  | 108 => ⟨false, [sI3], 0⟩
  | 109 => ⟨false, [sZone], 0⟩
  | 110 => ⟨true, [sPiece], 0⟩
  | 111 => ⟨false, [.b], 0⟩
  | 112 => ⟨false, [.b], 0⟩
  | 113 => ⟨false, [.b], 0⟩
  | 114 => ⟨false, [.b], 0⟩
  | 121 => ⟨false, [(.i .i64)], 0⟩
  | 122 => ⟨false, [(.i .i64)], 0⟩
  | 123 => ⟨false, [sI2], 0⟩
  | 124 => ⟨false, [sI2], 0⟩
  | 125 => ⟨true, [(.l 112 sI2)], 0⟩
  | 126 => ⟨true, [(.l 115 sTable)], 0⟩
  | 127 => ⟨false, [.b], 0⟩
  | 128 => ⟨false, [.b], 0⟩
  | 129 => ⟨false, [.b], 0⟩
  | 130 => ⟨false, [.b], 0⟩
  | 140 => ⟨false, [(.i .i64)], 0⟩
  | 141 => ⟨false, [sI2], 0⟩
  | 142 => ⟨true, [sTable], 0⟩
  | 143 => ⟨false, [.b], 0⟩
  | 144 => ⟨false, [.b], 0⟩
  | _ => ⟨false, [], 0⟩
def tk : Nat → List (Option Sh)
  | _ => []
noncomputable def E : Env := { P := Tryz.prog, fn := fn, ty := ty, lv := lv, rs := rs, tk := tk, ext := fun _ => none }
noncomputable def FgEqual_int (k : Nat) (a0 : List Int) (a1 : List Int) : Option (Bool) := den E k 50 [.c (.l 3 (.i .i64) a0), .c (.l 3 (.i .i64) a1)]
abbrev CgEqual_int_0 : Type := (List Int) × (List Int) × Int
abbrev VgEqual_int_0 : Type := Int
def StgEqual_int_0 (c0 : CgEqual_int_0) (v0 : VgEqual_int_0) : St := ⟨26, 0, [(0, .c (.l 3 (.i .i64) c0.1)), (1, .c (.l 3 (.i .i64) c0.2.1)), (12, cI c0.2.2), (13, cI v0)], []⟩
noncomputable def BgEqual_int_0 {R : Type} (k : Nat) (X0 : VgEqual_int_0 → Int → Int → Option R) (X1 : VgEqual_int_0 → Option R) (c0 : CgEqual_int_0) (rec : VgEqual_int_0 → Option R) (v0 : VgEqual_int_0) : Option R := if (decide (v0 < c0.2.2)) = true then if 0 ≤ v0 then ix c0.1 v0.toNat fun x1 => if 0 ≤ v0 then ix c0.2.1 v0.toNat fun x2 => if (x1 != x2) = true then X0 v0 x1 x2 else rec (IntKind.i64.wrap (v0 + 1)) else none else none else X1 v0
noncomputable def LgEqual_int_0 {R : Type} (k : Nat) (X0 : VgEqual_int_0 → Int → Int → Option R) (X1 : VgEqual_int_0 → Option R) (c : CgEqual_int_0) : Nat → VgEqual_int_0 → Option R
  | 0, _ => none
  | n + 1, v => BgEqual_int_0 k X0 X1 c (LgEqual_int_0 k X0 X1 c n) v
def YgEqual_int_0_0 {R : Type} (K : Ex → St → Option R) (c0 : CgEqual_int_0) (v0 : VgEqual_int_0) (x1 : Int) (x2 : Int) : Option R := K .ret ⟨26, 0, [(0, .c (.l 3 (.i .i64) c0.1)), (1, .c (.l 3 (.i .i64) c0.2.1)), (4, cB false), (5, cI v0), (12, cI c0.2.2), (13, cI v0), (14, cB (decide (v0 < c0.2.2))), (15, cI v0), (16, .c (.l 3 (.i .i64) c0.1)), (17, cI v0), (18, .c (.at_ [vI x1])), (19, cI x1), (20, .c (.l 3 (.i .i64) c0.2.1)), (21, cI v0), (22, .c (.at_ [vI x2])), (23, cI x2), (24, cB (x1 != x2))], []⟩
def YgEqual_int_0_1 {R : Type} (K : Ex → St → Option R) (c0 : CgEqual_int_0) (v0 : VgEqual_int_0) : Option R := K (.exit 0) ⟨26, 0, [(0, .c (.l 3 (.i .i64) c0.1)), (1, .c (.l 3 (.i .i64) c0.2.1)), (12, cI c0.2.2), (13, cI v0), (14, cB (decide (v0 < c0.2.2)))], []⟩
theorem lgEqual_int_0 {R : Type} (k : Nat) (K : Ex → St → Option R) (c0 : CgEqual_int_0) : ∀ (n : Nat) (v : VgEqual_int_0), loopRun [0, 0, 1, 12, 13] (run E (den E k) (lv 50) k (nthLoop Tryz.f50 0)) n (StgEqual_int_0 c0 v) K = LgEqual_int_0 k (YgEqual_int_0_0 K c0) (YgEqual_int_0_1 K c0) c0 n v := loop_law (B := BgEqual_int_0 k (YgEqual_int_0_0 K c0) (YgEqual_int_0_1 K c0) c0) (fun _ => rfl) (fun n v => by kernel_rfl) (fun _ => rfl) (fun _ _ => rfl)
theorem mgEqual_int_0 (k : Nat) (a0 : List Int) (a1 : List Int) : FgEqual_int (k + 1) a0 a1 = if ((a0.length : Int) != (a1.length : Int)) = true then some false else loopRun (R := Bool) [0, 0, 1, 12, 13] (run E (den E k) (lv 50) k (nthLoop Tryz.f50 0)) k (StgEqual_int_0 (a0, a1, (a0.length : Int)) 0) (kontAt E (den E k) (lv 50) k (bodyOf Tryz.f50) 0 [] (finish E (rs 50) Tryz.f50 : Ex → St → Option (Bool))) := by kernel_rfl
theorem egEqual_int (k : Nat) (a0 : List Int) (a1 : List Int) : FgEqual_int (k + 1) a0 a1 = if ((a0.length : Int) != (a1.length : Int)) = true then some false else LgEqual_int_0 k (fun (v0 : Int) (x1 : Int) (x2 : Int) => some false) (fun (v0 : Int) => some true) (a0, a1, (a0.length : Int)) k 0 := by
  rw [mgEqual_int_0]
  simp only [lgEqual_int_0]
  kernel_rfl
noncomputable def FiEqualTables (k : Nat) (a0 : Int × (List Int) × List Int) (a1 : Int × (List Int) × List Int) : Option (Bool) := den E k 46 [.agg (avs sTable a0), .agg (avs sTable a1)]
theorem eiEqualTables (k : Nat) (a0 : Int × (List Int) × List Int) (a1 : Int × (List Int) × List Int) : FiEqualTables (k + 1) a0 a1 = if ((a0.1 == a1.1) == true) = true then (FgEqual_int k a0.2.1 a1.2.1).bind fun p1 => if (p1 == true) = true then (FgEqual_int k a0.2.2 a1.2.2).bind fun p2 => some p2 else some false else some false := by kernel_rfl
noncomputable def FgEqualFunc_Tablev_iEqualTables (k : Nat) (a0 : List (Int × (List Int) × List Int)) (a1 : List (Int × (List Int) × List Int)) : Option (Bool) := den E k 45 [.c (.l 115 sTable a0), .c (.l 115 sTable a1), .c (.v (.func (.func 46) #[] #[]))]
abbrev CgEqualFunc_Tablev_iEqualTables_0 : Type := (List (Int × (List Int) × List Int)) × (List (Int × (List Int) × List Int)) × Int
abbrev VgEqualFunc_Tablev_iEqualTables_0 : Type := Int
def StgEqualFunc_Tablev_iEqualTables_0 (c0 : CgEqualFunc_Tablev_iEqualTables_0) (v0 : VgEqualFunc_Tablev_iEqualTables_0) : St := ⟨32, 0, [(1, .c (.l 115 sTable c0.1)), (2, .c (.v (.func (.func 46) #[] #[]))), (15, .c (.l 115 sTable c0.2.1)), (16, cI c0.2.2), (17, cI v0)], []⟩
noncomputable def BgEqualFunc_Tablev_iEqualTables_0 {R : Type} (k : Nat) (X0 : VgEqualFunc_Tablev_iEqualTables_0 → (Int × (List Int) × List Int) → (Int × (List Int) × List Int) → Bool → Option R) (X1 : VgEqualFunc_Tablev_iEqualTables_0 → Option R) (c0 : CgEqualFunc_Tablev_iEqualTables_0) (rec : VgEqualFunc_Tablev_iEqualTables_0 → Option R) (v0 : VgEqualFunc_Tablev_iEqualTables_0) : Option R := if (decide (v0 < c0.2.2)) = true then if 0 ≤ v0 then ix c0.2.1 v0.toNat fun x1 => if 0 ≤ v0 then ix c0.1 v0.toNat fun x2 => (FiEqualTables k x1 x2).bind fun p3 => if (!p3) = true then X0 v0 x1 x2 p3 else rec (IntKind.i64.wrap (v0 + 1)) else none else none else X1 v0
noncomputable def LgEqualFunc_Tablev_iEqualTables_0 {R : Type} (k : Nat) (X0 : VgEqualFunc_Tablev_iEqualTables_0 → (Int × (List Int) × List Int) → (Int × (List Int) × List Int) → Bool → Option R) (X1 : VgEqualFunc_Tablev_iEqualTables_0 → Option R) (c : CgEqualFunc_Tablev_iEqualTables_0) : Nat → VgEqualFunc_Tablev_iEqualTables_0 → Option R
  | 0, _ => none
  | n + 1, v => BgEqualFunc_Tablev_iEqualTables_0 k X0 X1 c (LgEqualFunc_Tablev_iEqualTables_0 k X0 X1 c n) v
def YgEqualFunc_Tablev_iEqualTables_0_0 {R : Type} (K : Ex → St → Option R) (c0 : CgEqualFunc_Tablev_iEqualTables_0) (v0 : VgEqualFunc_Tablev_iEqualTables_0) (x1 : Int × (List Int) × List Int) (x2 : Int × (List Int) × List Int) (p3 : Bool) : Option R := K .ret ⟨32, 2, [(1, .c (.l 115 sTable c0.1)), (2, .c (.v (.func (.func 46) #[] #[]))), (6, cB false), (7, cI v0), (8, cP 0), (9, cP 1), (15, .c (.l 115 sTable c0.2.1)), (16, cI c0.2.2), (17, cI v0), (18, cB (decide (v0 < c0.2.2))), (19, cI v0), (20, .c (.at_ (avs sTable x1))), (21, .agg (avs sTable x1)), (22, .c (.l 115 sTable c0.1)), (23, cI v0), (24, .c (.at_ (avs sTable x2))), (25, .agg (avs sTable x2)), (26, .c (.v (.func (.func 46) #[] #[]))), (27, .agg (avs sTable x1)), (28, .agg (avs sTable x2)), (29, cB p3), (30, cB (!p3))], [(0, .var (avs sTable x1)), (1, .var (avs sTable x2))]⟩
def YgEqualFunc_Tablev_iEqualTables_0_1 {R : Type} (K : Ex → St → Option R) (c0 : CgEqualFunc_Tablev_iEqualTables_0) (v0 : VgEqualFunc_Tablev_iEqualTables_0) : Option R := K (.exit 0) ⟨32, 0, [(1, .c (.l 115 sTable c0.1)), (2, .c (.v (.func (.func 46) #[] #[]))), (15, .c (.l 115 sTable c0.2.1)), (16, cI c0.2.2), (17, cI v0), (18, cB (decide (v0 < c0.2.2)))], []⟩
theorem lgEqualFunc_Tablev_iEqualTables_0 {R : Type} (k : Nat) (K : Ex → St → Option R) (c0 : CgEqualFunc_Tablev_iEqualTables_0) : ∀ (n : Nat) (v : VgEqualFunc_Tablev_iEqualTables_0), loopRun [0, 1, 2, 15, 16, 17] (run E (den E k) (lv 45) k (nthLoop Tryz.f45 0)) n (StgEqualFunc_Tablev_iEqualTables_0 c0 v) K = LgEqualFunc_Tablev_iEqualTables_0 k (YgEqualFunc_Tablev_iEqualTables_0_0 K c0) (YgEqualFunc_Tablev_iEqualTables_0_1 K c0) c0 n v := loop_law (B := BgEqualFunc_Tablev_iEqualTables_0 k (YgEqualFunc_Tablev_iEqualTables_0_0 K c0) (YgEqualFunc_Tablev_iEqualTables_0_1 K c0) c0) (fun _ => rfl) (fun n v => by kernel_rfl) (fun _ => rfl) (fun _ _ => rfl)
theorem mgEqualFunc_Tablev_iEqualTables_0 (k : Nat) (a0 : List (Int × (List Int) × List Int)) (a1 : List (Int × (List Int) × List Int)) : FgEqualFunc_Tablev_iEqualTables (k + 1) a0 a1 = if ((a0.length : Int) != (a1.length : Int)) = true then some false else loopRun (R := Bool) [0, 1, 2, 15, 16, 17] (run E (den E k) (lv 45) k (nthLoop Tryz.f45 0)) k (StgEqualFunc_Tablev_iEqualTables_0 (a1, a0, (a0.length : Int)) 0) (kontAt E (den E k) (lv 45) k (bodyOf Tryz.f45) 0 [] (finish E (rs 45) Tryz.f45 : Ex → St → Option (Bool))) := by kernel_rfl
theorem egEqualFunc_Tablev_iEqualTables (k : Nat) (a0 : List (Int × (List Int) × List Int)) (a1 : List (Int × (List Int) × List Int)) : FgEqualFunc_Tablev_iEqualTables (k + 1) a0 a1 = if ((a0.length : Int) != (a1.length : Int)) = true then some false else LgEqualFunc_Tablev_iEqualTables_0 k (fun (v0 : Int) (x1 : Int × (List Int) × List Int) (x2 : Int × (List Int) × List Int) (p3 : Bool) => some false) (fun (v0 : Int) => some true) (a1, a0, (a0.length : Int)) k 0 := by
  rw [mgEqualFunc_Tablev_iEqualTables_0]
  simp only [lgEqualFunc_Tablev_iEqualTables_0]
  kernel_rfl
noncomputable def FgEqual_Link (k : Nat) (a0 : List I2) (a1 : List I2) : Option (Bool) := den E k 44 [.c (.l 112 sI2 a0), .c (.l 112 sI2 a1)]
abbrev CgEqual_Link_0 : Type := (List I2) × (List I2) × Int
abbrev VgEqual_Link_0 : Type := Int
def StgEqual_Link_0 (c0 : CgEqual_Link_0) (v0 : VgEqual_Link_0) : St := ⟨26, 0, [(0, .c (.l 112 sI2 c0.1)), (1, .c (.l 112 sI2 c0.2.1)), (12, cI c0.2.2), (13, cI v0)], []⟩
noncomputable def BgEqual_Link_0 {R : Type} (k : Nat) (X0 : VgEqual_Link_0 → I2 → I2 → Option R) (X1 : VgEqual_Link_0 → Option R) (c0 : CgEqual_Link_0) (rec : VgEqual_Link_0 → Option R) (v0 : VgEqual_Link_0) : Option R := if (decide (v0 < c0.2.2)) = true then if 0 ≤ v0 then ix c0.1 v0.toNat fun x1 => if 0 ≤ v0 then ix c0.2.1 v0.toNat fun x2 => if (!(eqT sI2 x1 x2)) = true then X0 v0 x1 x2 else rec (IntKind.i64.wrap (v0 + 1)) else none else none else X1 v0
noncomputable def LgEqual_Link_0 {R : Type} (k : Nat) (X0 : VgEqual_Link_0 → I2 → I2 → Option R) (X1 : VgEqual_Link_0 → Option R) (c : CgEqual_Link_0) : Nat → VgEqual_Link_0 → Option R
  | 0, _ => none
  | n + 1, v => BgEqual_Link_0 k X0 X1 c (LgEqual_Link_0 k X0 X1 c n) v
def YgEqual_Link_0_0 {R : Type} (K : Ex → St → Option R) (c0 : CgEqual_Link_0) (v0 : VgEqual_Link_0) (x1 : I2) (x2 : I2) : Option R := K .ret ⟨26, 0, [(0, .c (.l 112 sI2 c0.1)), (1, .c (.l 112 sI2 c0.2.1)), (4, cB false), (5, cI v0), (12, cI c0.2.2), (13, cI v0), (14, cB (decide (v0 < c0.2.2))), (15, cI v0), (16, .c (.l 112 sI2 c0.1)), (17, cI v0), (18, .c (.at_ [vI x1.1, vI x1.2])), (19, .agg [vI x1.1, vI x1.2]), (20, .c (.l 112 sI2 c0.2.1)), (21, cI v0), (22, .c (.at_ [vI x2.1, vI x2.2])), (23, .agg [vI x2.1, vI x2.2]), (24, cB (!(eqT sI2 x1 x2)))], []⟩
def YgEqual_Link_0_1 {R : Type} (K : Ex → St → Option R) (c0 : CgEqual_Link_0) (v0 : VgEqual_Link_0) : Option R := K (.exit 0) ⟨26, 0, [(0, .c (.l 112 sI2 c0.1)), (1, .c (.l 112 sI2 c0.2.1)), (12, cI c0.2.2), (13, cI v0), (14, cB (decide (v0 < c0.2.2)))], []⟩
theorem lgEqual_Link_0 {R : Type} (k : Nat) (K : Ex → St → Option R) (c0 : CgEqual_Link_0) : ∀ (n : Nat) (v : VgEqual_Link_0), loopRun [0, 0, 1, 12, 13] (run E (den E k) (lv 44) k (nthLoop Tryz.f44 0)) n (StgEqual_Link_0 c0 v) K = LgEqual_Link_0 k (YgEqual_Link_0_0 K c0) (YgEqual_Link_0_1 K c0) c0 n v := loop_law (B := BgEqual_Link_0 k (YgEqual_Link_0_0 K c0) (YgEqual_Link_0_1 K c0) c0) (fun _ => rfl) (fun n v => by kernel_rfl) (fun _ => rfl) (fun _ _ => rfl)
theorem mgEqual_Link_0 (k : Nat) (a0 : List I2) (a1 : List I2) : FgEqual_Link (k + 1) a0 a1 = if ((a0.length : Int) != (a1.length : Int)) = true then some false else loopRun (R := Bool) [0, 0, 1, 12, 13] (run E (den E k) (lv 44) k (nthLoop Tryz.f44 0)) k (StgEqual_Link_0 (a0, a1, (a0.length : Int)) 0) (kontAt E (den E k) (lv 44) k (bodyOf Tryz.f44) 0 [] (finish E (rs 44) Tryz.f44 : Ex → St → Option (Bool))) := by kernel_rfl
theorem egEqual_Link (k : Nat) (a0 : List I2) (a1 : List I2) : FgEqual_Link (k + 1) a0 a1 = if ((a0.length : Int) != (a1.length : Int)) = true then some false else LgEqual_Link_0 k (fun (v0 : Int) (x1 : I2) (x2 : I2) => some false) (fun (v0 : Int) => some true) (a0, a1, (a0.length : Int)) k 0 := by
  rw [mgEqual_Link_0]
  simp only [lgEqual_Link_0]
  kernel_rfl
noncomputable def FiEqualWorlds_1 (k : Nat) (a0 : TPiece) (a1 : TPiece) : Option (Bool) := den E k 43 [.agg (avs sPiece a0), .agg (avs sPiece a1)]
theorem eiEqualWorlds_1 (k : Nat) (a0 : TPiece) (a1 : TPiece) : FiEqualWorlds_1 (k + 1) a0 a1 = if ((eqT sI2 a0.1 a1.1) == true) = true then (FgEqual_Link k a0.2.1 a1.2.1).bind fun p1 => if (p1 == true) = true then (FgEqualFunc_Tablev_iEqualTables k a0.2.2 a1.2.2).bind fun p2 => some p2 else some false else some false := by kernel_rfl
noncomputable def FgEqualFunc_Piecev_iEqualWorlds_1 (k : Nat) (a0 : List TPiece) (a1 : List TPiece) : Option (Bool) := den E k 42 [.c (.l 109 sPiece a0), .c (.l 109 sPiece a1), .c (.v (.func (.func 43) #[] #[]))]
abbrev CgEqualFunc_Piecev_iEqualWorlds_1_0 : Type := (List TPiece) × (List TPiece) × Int
abbrev VgEqualFunc_Piecev_iEqualWorlds_1_0 : Type := Int
def StgEqualFunc_Piecev_iEqualWorlds_1_0 (c0 : CgEqualFunc_Piecev_iEqualWorlds_1_0) (v0 : VgEqualFunc_Piecev_iEqualWorlds_1_0) : St := ⟨32, 0, [(1, .c (.l 109 sPiece c0.1)), (2, .c (.v (.func (.func 43) #[] #[]))), (15, .c (.l 109 sPiece c0.2.1)), (16, cI c0.2.2), (17, cI v0)], []⟩
noncomputable def BgEqualFunc_Piecev_iEqualWorlds_1_0 {R : Type} (k : Nat) (X0 : VgEqualFunc_Piecev_iEqualWorlds_1_0 → TPiece → TPiece → Bool → Option R) (X1 : VgEqualFunc_Piecev_iEqualWorlds_1_0 → Option R) (c0 : CgEqualFunc_Piecev_iEqualWorlds_1_0) (rec : VgEqualFunc_Piecev_iEqualWorlds_1_0 → Option R) (v0 : VgEqualFunc_Piecev_iEqualWorlds_1_0) : Option R := if (decide (v0 < c0.2.2)) = true then if 0 ≤ v0 then ix c0.2.1 v0.toNat fun x1 => if 0 ≤ v0 then ix c0.1 v0.toNat fun x2 => (FiEqualWorlds_1 k x1 x2).bind fun p3 => if (!p3) = true then X0 v0 x1 x2 p3 else rec (IntKind.i64.wrap (v0 + 1)) else none else none else X1 v0
noncomputable def LgEqualFunc_Piecev_iEqualWorlds_1_0 {R : Type} (k : Nat) (X0 : VgEqualFunc_Piecev_iEqualWorlds_1_0 → TPiece → TPiece → Bool → Option R) (X1 : VgEqualFunc_Piecev_iEqualWorlds_1_0 → Option R) (c : CgEqualFunc_Piecev_iEqualWorlds_1_0) : Nat → VgEqualFunc_Piecev_iEqualWorlds_1_0 → Option R
  | 0, _ => none
  | n + 1, v => BgEqualFunc_Piecev_iEqualWorlds_1_0 k X0 X1 c (LgEqualFunc_Piecev_iEqualWorlds_1_0 k X0 X1 c n) v
def YgEqualFunc_Piecev_iEqualWorlds_1_0_0 {R : Type} (K : Ex → St → Option R) (c0 : CgEqualFunc_Piecev_iEqualWorlds_1_0) (v0 : VgEqualFunc_Piecev_iEqualWorlds_1_0) (x1 : TPiece) (x2 : TPiece) (p3 : Bool) : Option R := K .ret ⟨32, 2, [(1, .c (.l 109 sPiece c0.1)), (2, .c (.v (.func (.func 43) #[] #[]))), (6, cB false), (7, cI v0), (8, cP 0), (9, cP 1), (15, .c (.l 109 sPiece c0.2.1)), (16, cI c0.2.2), (17, cI v0), (18, cB (decide (v0 < c0.2.2))), (19, cI v0), (20, .c (.at_ (avs sPiece x1))), (21, .agg (avs sPiece x1)), (22, .c (.l 109 sPiece c0.1)), (23, cI v0), (24, .c (.at_ (avs sPiece x2))), (25, .agg (avs sPiece x2)), (26, .c (.v (.func (.func 43) #[] #[]))), (27, .agg (avs sPiece x1)), (28, .agg (avs sPiece x2)), (29, cB p3), (30, cB (!p3))], [(0, .var (avs sPiece x1)), (1, .var (avs sPiece x2))]⟩
def YgEqualFunc_Piecev_iEqualWorlds_1_0_1 {R : Type} (K : Ex → St → Option R) (c0 : CgEqualFunc_Piecev_iEqualWorlds_1_0) (v0 : VgEqualFunc_Piecev_iEqualWorlds_1_0) : Option R := K (.exit 0) ⟨32, 0, [(1, .c (.l 109 sPiece c0.1)), (2, .c (.v (.func (.func 43) #[] #[]))), (15, .c (.l 109 sPiece c0.2.1)), (16, cI c0.2.2), (17, cI v0), (18, cB (decide (v0 < c0.2.2)))], []⟩
theorem lgEqualFunc_Piecev_iEqualWorlds_1_0 {R : Type} (k : Nat) (K : Ex → St → Option R) (c0 : CgEqualFunc_Piecev_iEqualWorlds_1_0) : ∀ (n : Nat) (v : VgEqualFunc_Piecev_iEqualWorlds_1_0), loopRun [0, 1, 2, 15, 16, 17] (run E (den E k) (lv 42) k (nthLoop Tryz.f42 0)) n (StgEqualFunc_Piecev_iEqualWorlds_1_0 c0 v) K = LgEqualFunc_Piecev_iEqualWorlds_1_0 k (YgEqualFunc_Piecev_iEqualWorlds_1_0_0 K c0) (YgEqualFunc_Piecev_iEqualWorlds_1_0_1 K c0) c0 n v := loop_law (B := BgEqualFunc_Piecev_iEqualWorlds_1_0 k (YgEqualFunc_Piecev_iEqualWorlds_1_0_0 K c0) (YgEqualFunc_Piecev_iEqualWorlds_1_0_1 K c0) c0) (fun _ => rfl) (fun n v => by kernel_rfl) (fun _ => rfl) (fun _ _ => rfl)
theorem mgEqualFunc_Piecev_iEqualWorlds_1_0 (k : Nat) (a0 : List TPiece) (a1 : List TPiece) : FgEqualFunc_Piecev_iEqualWorlds_1 (k + 1) a0 a1 = if ((a0.length : Int) != (a1.length : Int)) = true then some false else loopRun (R := Bool) [0, 1, 2, 15, 16, 17] (run E (den E k) (lv 42) k (nthLoop Tryz.f42 0)) k (StgEqualFunc_Piecev_iEqualWorlds_1_0 (a1, a0, (a0.length : Int)) 0) (kontAt E (den E k) (lv 42) k (bodyOf Tryz.f42) 0 [] (finish E (rs 42) Tryz.f42 : Ex → St → Option (Bool))) := by kernel_rfl
theorem egEqualFunc_Piecev_iEqualWorlds_1 (k : Nat) (a0 : List TPiece) (a1 : List TPiece) : FgEqualFunc_Piecev_iEqualWorlds_1 (k + 1) a0 a1 = if ((a0.length : Int) != (a1.length : Int)) = true then some false else LgEqualFunc_Piecev_iEqualWorlds_1_0 k (fun (v0 : Int) (x1 : TPiece) (x2 : TPiece) (p3 : Bool) => some false) (fun (v0 : Int) => some true) (a1, a0, (a0.length : Int)) k 0 := by
  rw [mgEqualFunc_Piecev_iEqualWorlds_1_0]
  simp only [lgEqualFunc_Piecev_iEqualWorlds_1_0]
  kernel_rfl
noncomputable def FgEqual_Packet (k : Nat) (a0 : List I6) (a1 : List I6) : Option (Bool) := den E k 49 [.c (.l 122 sI6 a0), .c (.l 122 sI6 a1)]
abbrev CgEqual_Packet_0 : Type := (List I6) × (List I6) × Int
abbrev VgEqual_Packet_0 : Type := Int
def StgEqual_Packet_0 (c0 : CgEqual_Packet_0) (v0 : VgEqual_Packet_0) : St := ⟨26, 0, [(0, .c (.l 122 sI6 c0.1)), (1, .c (.l 122 sI6 c0.2.1)), (12, cI c0.2.2), (13, cI v0)], []⟩
noncomputable def BgEqual_Packet_0 {R : Type} (k : Nat) (X0 : VgEqual_Packet_0 → I6 → I6 → Option R) (X1 : VgEqual_Packet_0 → Option R) (c0 : CgEqual_Packet_0) (rec : VgEqual_Packet_0 → Option R) (v0 : VgEqual_Packet_0) : Option R := if (decide (v0 < c0.2.2)) = true then if 0 ≤ v0 then ix c0.1 v0.toNat fun x1 => if 0 ≤ v0 then ix c0.2.1 v0.toNat fun x2 => if (!(eqT sI6 x1 x2)) = true then X0 v0 x1 x2 else rec (IntKind.i64.wrap (v0 + 1)) else none else none else X1 v0
noncomputable def LgEqual_Packet_0 {R : Type} (k : Nat) (X0 : VgEqual_Packet_0 → I6 → I6 → Option R) (X1 : VgEqual_Packet_0 → Option R) (c : CgEqual_Packet_0) : Nat → VgEqual_Packet_0 → Option R
  | 0, _ => none
  | n + 1, v => BgEqual_Packet_0 k X0 X1 c (LgEqual_Packet_0 k X0 X1 c n) v
def YgEqual_Packet_0_0 {R : Type} (K : Ex → St → Option R) (c0 : CgEqual_Packet_0) (v0 : VgEqual_Packet_0) (x1 : I6) (x2 : I6) : Option R := K .ret ⟨26, 0, [(0, .c (.l 122 sI6 c0.1)), (1, .c (.l 122 sI6 c0.2.1)), (4, cB false), (5, cI v0), (12, cI c0.2.2), (13, cI v0), (14, cB (decide (v0 < c0.2.2))), (15, cI v0), (16, .c (.l 122 sI6 c0.1)), (17, cI v0), (18, .c (.at_ (avs sI6 x1))), (19, .agg (avs sI6 x1)), (20, .c (.l 122 sI6 c0.2.1)), (21, cI v0), (22, .c (.at_ (avs sI6 x2))), (23, .agg (avs sI6 x2)), (24, cB (!(eqT sI6 x1 x2)))], []⟩
def YgEqual_Packet_0_1 {R : Type} (K : Ex → St → Option R) (c0 : CgEqual_Packet_0) (v0 : VgEqual_Packet_0) : Option R := K (.exit 0) ⟨26, 0, [(0, .c (.l 122 sI6 c0.1)), (1, .c (.l 122 sI6 c0.2.1)), (12, cI c0.2.2), (13, cI v0), (14, cB (decide (v0 < c0.2.2)))], []⟩
theorem lgEqual_Packet_0 {R : Type} (k : Nat) (K : Ex → St → Option R) (c0 : CgEqual_Packet_0) : ∀ (n : Nat) (v : VgEqual_Packet_0), loopRun [0, 0, 1, 12, 13] (run E (den E k) (lv 49) k (nthLoop Tryz.f49 0)) n (StgEqual_Packet_0 c0 v) K = LgEqual_Packet_0 k (YgEqual_Packet_0_0 K c0) (YgEqual_Packet_0_1 K c0) c0 n v := loop_law (B := BgEqual_Packet_0 k (YgEqual_Packet_0_0 K c0) (YgEqual_Packet_0_1 K c0) c0) (fun _ => rfl) (fun n v => by kernel_rfl) (fun _ => rfl) (fun _ _ => rfl)
theorem mgEqual_Packet_0 (k : Nat) (a0 : List I6) (a1 : List I6) : FgEqual_Packet (k + 1) a0 a1 = if ((a0.length : Int) != (a1.length : Int)) = true then some false else loopRun (R := Bool) [0, 0, 1, 12, 13] (run E (den E k) (lv 49) k (nthLoop Tryz.f49 0)) k (StgEqual_Packet_0 (a0, a1, (a0.length : Int)) 0) (kontAt E (den E k) (lv 49) k (bodyOf Tryz.f49) 0 [] (finish E (rs 49) Tryz.f49 : Ex → St → Option (Bool))) := by kernel_rfl
theorem egEqual_Packet (k : Nat) (a0 : List I6) (a1 : List I6) : FgEqual_Packet (k + 1) a0 a1 = if ((a0.length : Int) != (a1.length : Int)) = true then some false else LgEqual_Packet_0 k (fun (v0 : Int) (x1 : I6) (x2 : I6) => some false) (fun (v0 : Int) => some true) (a0, a1, (a0.length : Int)) k 0 := by
  rw [mgEqual_Packet_0]
  simp only [lgEqual_Packet_0]
  kernel_rfl
noncomputable def FiEqualWorlds_2 (k : Nat) (a0 : List I6) (a1 : List I6) : Option (Bool) := den E k 48 [.agg [.l 122 sI6 a0], .agg [.l 122 sI6 a1]]
theorem eiEqualWorlds_2 (k : Nat) (a0 : List I6) (a1 : List I6) : FiEqualWorlds_2 (k + 1) a0 a1 = (FgEqual_Packet k a0 a1).bind fun p1 => some p1 := by kernel_rfl
noncomputable def FgEqualFunc_Queuev_iEqualWorlds_2 (k : Nat) (a0 : List (List I6)) (a1 : List (List I6)) : Option (Bool) := den E k 47 [.c (.l 120 sQueue a0), .c (.l 120 sQueue a1), .c (.v (.func (.func 48) #[] #[]))]
abbrev CgEqualFunc_Queuev_iEqualWorlds_2_0 : Type := (List (List I6)) × (List (List I6)) × Int
abbrev VgEqualFunc_Queuev_iEqualWorlds_2_0 : Type := Int
def StgEqualFunc_Queuev_iEqualWorlds_2_0 (c0 : CgEqualFunc_Queuev_iEqualWorlds_2_0) (v0 : VgEqualFunc_Queuev_iEqualWorlds_2_0) : St := ⟨32, 0, [(1, .c (.l 120 sQueue c0.1)), (2, .c (.v (.func (.func 48) #[] #[]))), (15, .c (.l 120 sQueue c0.2.1)), (16, cI c0.2.2), (17, cI v0)], []⟩
noncomputable def BgEqualFunc_Queuev_iEqualWorlds_2_0 {R : Type} (k : Nat) (X0 : VgEqualFunc_Queuev_iEqualWorlds_2_0 → (List I6) → (List I6) → Bool → Option R) (X1 : VgEqualFunc_Queuev_iEqualWorlds_2_0 → Option R) (c0 : CgEqualFunc_Queuev_iEqualWorlds_2_0) (rec : VgEqualFunc_Queuev_iEqualWorlds_2_0 → Option R) (v0 : VgEqualFunc_Queuev_iEqualWorlds_2_0) : Option R := if (decide (v0 < c0.2.2)) = true then if 0 ≤ v0 then ix c0.2.1 v0.toNat fun x1 => if 0 ≤ v0 then ix c0.1 v0.toNat fun x2 => (FiEqualWorlds_2 k x1 x2).bind fun p3 => if (!p3) = true then X0 v0 x1 x2 p3 else rec (IntKind.i64.wrap (v0 + 1)) else none else none else X1 v0
noncomputable def LgEqualFunc_Queuev_iEqualWorlds_2_0 {R : Type} (k : Nat) (X0 : VgEqualFunc_Queuev_iEqualWorlds_2_0 → (List I6) → (List I6) → Bool → Option R) (X1 : VgEqualFunc_Queuev_iEqualWorlds_2_0 → Option R) (c : CgEqualFunc_Queuev_iEqualWorlds_2_0) : Nat → VgEqualFunc_Queuev_iEqualWorlds_2_0 → Option R
  | 0, _ => none
  | n + 1, v => BgEqualFunc_Queuev_iEqualWorlds_2_0 k X0 X1 c (LgEqualFunc_Queuev_iEqualWorlds_2_0 k X0 X1 c n) v
def YgEqualFunc_Queuev_iEqualWorlds_2_0_0 {R : Type} (K : Ex → St → Option R) (c0 : CgEqualFunc_Queuev_iEqualWorlds_2_0) (v0 : VgEqualFunc_Queuev_iEqualWorlds_2_0) (x1 : List I6) (x2 : List I6) (p3 : Bool) : Option R := K .ret ⟨32, 2, [(1, .c (.l 120 sQueue c0.1)), (2, .c (.v (.func (.func 48) #[] #[]))), (6, cB false), (7, cI v0), (8, cP 0), (9, cP 1), (15, .c (.l 120 sQueue c0.2.1)), (16, cI c0.2.2), (17, cI v0), (18, cB (decide (v0 < c0.2.2))), (19, cI v0), (20, .c (.at_ [.l 122 sI6 x1])), (21, .agg [.l 122 sI6 x1]), (22, .c (.l 120 sQueue c0.1)), (23, cI v0), (24, .c (.at_ [.l 122 sI6 x2])), (25, .agg [.l 122 sI6 x2]), (26, .c (.v (.func (.func 48) #[] #[]))), (27, .agg [.l 122 sI6 x1]), (28, .agg [.l 122 sI6 x2]), (29, cB p3), (30, cB (!p3))], [(0, .var [.l 122 sI6 x1]), (1, .var [.l 122 sI6 x2])]⟩
def YgEqualFunc_Queuev_iEqualWorlds_2_0_1 {R : Type} (K : Ex → St → Option R) (c0 : CgEqualFunc_Queuev_iEqualWorlds_2_0) (v0 : VgEqualFunc_Queuev_iEqualWorlds_2_0) : Option R := K (.exit 0) ⟨32, 0, [(1, .c (.l 120 sQueue c0.1)), (2, .c (.v (.func (.func 48) #[] #[]))), (15, .c (.l 120 sQueue c0.2.1)), (16, cI c0.2.2), (17, cI v0), (18, cB (decide (v0 < c0.2.2)))], []⟩
theorem lgEqualFunc_Queuev_iEqualWorlds_2_0 {R : Type} (k : Nat) (K : Ex → St → Option R) (c0 : CgEqualFunc_Queuev_iEqualWorlds_2_0) : ∀ (n : Nat) (v : VgEqualFunc_Queuev_iEqualWorlds_2_0), loopRun [0, 1, 2, 15, 16, 17] (run E (den E k) (lv 47) k (nthLoop Tryz.f47 0)) n (StgEqualFunc_Queuev_iEqualWorlds_2_0 c0 v) K = LgEqualFunc_Queuev_iEqualWorlds_2_0 k (YgEqualFunc_Queuev_iEqualWorlds_2_0_0 K c0) (YgEqualFunc_Queuev_iEqualWorlds_2_0_1 K c0) c0 n v := loop_law (B := BgEqualFunc_Queuev_iEqualWorlds_2_0 k (YgEqualFunc_Queuev_iEqualWorlds_2_0_0 K c0) (YgEqualFunc_Queuev_iEqualWorlds_2_0_1 K c0) c0) (fun _ => rfl) (fun n v => by kernel_rfl) (fun _ => rfl) (fun _ _ => rfl)
theorem mgEqualFunc_Queuev_iEqualWorlds_2_0 (k : Nat) (a0 : List (List I6)) (a1 : List (List I6)) : FgEqualFunc_Queuev_iEqualWorlds_2 (k + 1) a0 a1 = if ((a0.length : Int) != (a1.length : Int)) = true then some false else loopRun (R := Bool) [0, 1, 2, 15, 16, 17] (run E (den E k) (lv 47) k (nthLoop Tryz.f47 0)) k (StgEqualFunc_Queuev_iEqualWorlds_2_0 (a1, a0, (a0.length : Int)) 0) (kontAt E (den E k) (lv 47) k (bodyOf Tryz.f47) 0 [] (finish E (rs 47) Tryz.f47 : Ex → St → Option (Bool))) := by kernel_rfl
theorem egEqualFunc_Queuev_iEqualWorlds_2 (k : Nat) (a0 : List (List I6)) (a1 : List (List I6)) : FgEqualFunc_Queuev_iEqualWorlds_2 (k + 1) a0 a1 = if ((a0.length : Int) != (a1.length : Int)) = true then some false else LgEqualFunc_Queuev_iEqualWorlds_2_0 k (fun (v0 : Int) (x1 : List I6) (x2 : List I6) (p3 : Bool) => some false) (fun (v0 : Int) => some true) (a1, a0, (a0.length : Int)) k 0 := by
  rw [mgEqualFunc_Queuev_iEqualWorlds_2_0]
  simp only [lgEqualFunc_Queuev_iEqualWorlds_2_0]
  kernel_rfl
noncomputable def FiEqualStreams (k : Nat) (a0 : Int × Int × List Int) (a1 : Int × Int × List Int) : Option (Bool) := den E k 54 [.agg (avs sStream a0), .agg (avs sStream a1)]
theorem eiEqualStreams (k : Nat) (a0 : Int × Int × List Int) (a1 : Int × Int × List Int) : FiEqualStreams (k + 1) a0 a1 = if ((a0.1 == a1.1) == true) = true then if ((a0.2.1 == a1.2.1) == true) = true then (FgEqual_int k a0.2.2 a1.2.2).bind fun p1 => some p1 else some false else some false := by kernel_rfl
noncomputable def FgEqualFunc_Streamv_iEqualStreams (k : Nat) (a0 : List (Int × Int × List Int)) (a1 : List (Int × Int × List Int)) : Option (Bool) := den E k 53 [.c (.l 132 sStream a0), .c (.l 132 sStream a1), .c (.v (.func (.func 54) #[] #[]))]
abbrev CgEqualFunc_Streamv_iEqualStreams_0 : Type := (List (Int × Int × List Int)) × (List (Int × Int × List Int)) × Int
abbrev VgEqualFunc_Streamv_iEqualStreams_0 : Type := Int
def StgEqualFunc_Streamv_iEqualStreams_0 (c0 : CgEqualFunc_Streamv_iEqualStreams_0) (v0 : VgEqualFunc_Streamv_iEqualStreams_0) : St := ⟨32, 0, [(1, .c (.l 132 sStream c0.1)), (2, .c (.v (.func (.func 54) #[] #[]))), (15, .c (.l 132 sStream c0.2.1)), (16, cI c0.2.2), (17, cI v0)], []⟩
noncomputable def BgEqualFunc_Streamv_iEqualStreams_0 {R : Type} (k : Nat) (X0 : VgEqualFunc_Streamv_iEqualStreams_0 → (Int × Int × List Int) → (Int × Int × List Int) → Bool → Option R) (X1 : VgEqualFunc_Streamv_iEqualStreams_0 → Option R) (c0 : CgEqualFunc_Streamv_iEqualStreams_0) (rec : VgEqualFunc_Streamv_iEqualStreams_0 → Option R) (v0 : VgEqualFunc_Streamv_iEqualStreams_0) : Option R := if (decide (v0 < c0.2.2)) = true then if 0 ≤ v0 then ix c0.2.1 v0.toNat fun x1 => if 0 ≤ v0 then ix c0.1 v0.toNat fun x2 => (FiEqualStreams k x1 x2).bind fun p3 => if (!p3) = true then X0 v0 x1 x2 p3 else rec (IntKind.i64.wrap (v0 + 1)) else none else none else X1 v0
noncomputable def LgEqualFunc_Streamv_iEqualStreams_0 {R : Type} (k : Nat) (X0 : VgEqualFunc_Streamv_iEqualStreams_0 → (Int × Int × List Int) → (Int × Int × List Int) → Bool → Option R) (X1 : VgEqualFunc_Streamv_iEqualStreams_0 → Option R) (c : CgEqualFunc_Streamv_iEqualStreams_0) : Nat → VgEqualFunc_Streamv_iEqualStreams_0 → Option R
  | 0, _ => none
  | n + 1, v => BgEqualFunc_Streamv_iEqualStreams_0 k X0 X1 c (LgEqualFunc_Streamv_iEqualStreams_0 k X0 X1 c n) v
def YgEqualFunc_Streamv_iEqualStreams_0_0 {R : Type} (K : Ex → St → Option R) (c0 : CgEqualFunc_Streamv_iEqualStreams_0) (v0 : VgEqualFunc_Streamv_iEqualStreams_0) (x1 : Int × Int × List Int) (x2 : Int × Int × List Int) (p3 : Bool) : Option R := K .ret ⟨32, 2, [(1, .c (.l 132 sStream c0.1)), (2, .c (.v (.func (.func 54) #[] #[]))), (6, cB false), (7, cI v0), (8, cP 0), (9, cP 1), (15, .c (.l 132 sStream c0.2.1)), (16, cI c0.2.2), (17, cI v0), (18, cB (decide (v0 < c0.2.2))), (19, cI v0), (20, .c (.at_ (avs sStream x1))), (21, .agg (avs sStream x1)), (22, .c (.l 132 sStream c0.1)), (23, cI v0), (24, .c (.at_ (avs sStream x2))), (25, .agg (avs sStream x2)), (26, .c (.v (.func (.func 54) #[] #[]))), (27, .agg (avs sStream x1)), (28, .agg (avs sStream x2)), (29, cB p3), (30, cB (!p3))], [(0, .var (avs sStream x1)), (1, .var (avs sStream x2))]⟩
def YgEqualFunc_Streamv_iEqualStreams_0_1 {R : Type} (K : Ex → St → Option R) (c0 : CgEqualFunc_Streamv_iEqualStreams_0) (v0 : VgEqualFunc_Streamv_iEqualStreams_0) : Option R := K (.exit 0) ⟨32, 0, [(1, .c (.l 132 sStream c0.1)), (2, .c (.v (.func (.func 54) #[] #[]))), (15, .c (.l 132 sStream c0.2.1)), (16, cI c0.2.2), (17, cI v0), (18, cB (decide (v0 < c0.2.2)))], []⟩
theorem lgEqualFunc_Streamv_iEqualStreams_0 {R : Type} (k : Nat) (K : Ex → St → Option R) (c0 : CgEqualFunc_Streamv_iEqualStreams_0) : ∀ (n : Nat) (v : VgEqualFunc_Streamv_iEqualStreams_0), loopRun [0, 1, 2, 15, 16, 17] (run E (den E k) (lv 53) k (nthLoop Tryz.f53 0)) n (StgEqualFunc_Streamv_iEqualStreams_0 c0 v) K = LgEqualFunc_Streamv_iEqualStreams_0 k (YgEqualFunc_Streamv_iEqualStreams_0_0 K c0) (YgEqualFunc_Streamv_iEqualStreams_0_1 K c0) c0 n v := loop_law (B := BgEqualFunc_Streamv_iEqualStreams_0 k (YgEqualFunc_Streamv_iEqualStreams_0_0 K c0) (YgEqualFunc_Streamv_iEqualStreams_0_1 K c0) c0) (fun _ => rfl) (fun n v => by kernel_rfl) (fun _ => rfl) (fun _ _ => rfl)
theorem mgEqualFunc_Streamv_iEqualStreams_0 (k : Nat) (a0 : List (Int × Int × List Int)) (a1 : List (Int × Int × List Int)) : FgEqualFunc_Streamv_iEqualStreams (k + 1) a0 a1 = if ((a0.length : Int) != (a1.length : Int)) = true then some false else loopRun (R := Bool) [0, 1, 2, 15, 16, 17] (run E (den E k) (lv 53) k (nthLoop Tryz.f53 0)) k (StgEqualFunc_Streamv_iEqualStreams_0 (a1, a0, (a0.length : Int)) 0) (kontAt E (den E k) (lv 53) k (bodyOf Tryz.f53) 0 [] (finish E (rs 53) Tryz.f53 : Ex → St → Option (Bool))) := by kernel_rfl
theorem egEqualFunc_Streamv_iEqualStreams (k : Nat) (a0 : List (Int × Int × List Int)) (a1 : List (Int × Int × List Int)) : FgEqualFunc_Streamv_iEqualStreams (k + 1) a0 a1 = if ((a0.length : Int) != (a1.length : Int)) = true then some false else LgEqualFunc_Streamv_iEqualStreams_0 k (fun (v0 : Int) (x1 : Int × Int × List Int) (x2 : Int × Int × List Int) (p3 : Bool) => some false) (fun (v0 : Int) => some true) (a1, a0, (a0.length : Int)) k 0 := by
  rw [mgEqualFunc_Streamv_iEqualStreams_0]
  simp only [lgEqualFunc_Streamv_iEqualStreams_0]
  kernel_rfl
noncomputable def FgEqual_Battery (k : Nat) (a0 : List I6) (a1 : List I6) : Option (Bool) := den E k 51 [.c (.l 126 sI6 a0), .c (.l 126 sI6 a1)]
abbrev CgEqual_Battery_0 : Type := (List I6) × (List I6) × Int
abbrev VgEqual_Battery_0 : Type := Int
def StgEqual_Battery_0 (c0 : CgEqual_Battery_0) (v0 : VgEqual_Battery_0) : St := ⟨26, 0, [(0, .c (.l 126 sI6 c0.1)), (1, .c (.l 126 sI6 c0.2.1)), (12, cI c0.2.2), (13, cI v0)], []⟩
noncomputable def BgEqual_Battery_0 {R : Type} (k : Nat) (X0 : VgEqual_Battery_0 → I6 → I6 → Option R) (X1 : VgEqual_Battery_0 → Option R) (c0 : CgEqual_Battery_0) (rec : VgEqual_Battery_0 → Option R) (v0 : VgEqual_Battery_0) : Option R := if (decide (v0 < c0.2.2)) = true then if 0 ≤ v0 then ix c0.1 v0.toNat fun x1 => if 0 ≤ v0 then ix c0.2.1 v0.toNat fun x2 => if (!(eqT sI6 x1 x2)) = true then X0 v0 x1 x2 else rec (IntKind.i64.wrap (v0 + 1)) else none else none else X1 v0
noncomputable def LgEqual_Battery_0 {R : Type} (k : Nat) (X0 : VgEqual_Battery_0 → I6 → I6 → Option R) (X1 : VgEqual_Battery_0 → Option R) (c : CgEqual_Battery_0) : Nat → VgEqual_Battery_0 → Option R
  | 0, _ => none
  | n + 1, v => BgEqual_Battery_0 k X0 X1 c (LgEqual_Battery_0 k X0 X1 c n) v
def YgEqual_Battery_0_0 {R : Type} (K : Ex → St → Option R) (c0 : CgEqual_Battery_0) (v0 : VgEqual_Battery_0) (x1 : I6) (x2 : I6) : Option R := K .ret ⟨26, 0, [(0, .c (.l 126 sI6 c0.1)), (1, .c (.l 126 sI6 c0.2.1)), (4, cB false), (5, cI v0), (12, cI c0.2.2), (13, cI v0), (14, cB (decide (v0 < c0.2.2))), (15, cI v0), (16, .c (.l 126 sI6 c0.1)), (17, cI v0), (18, .c (.at_ (avs sI6 x1))), (19, .agg (avs sI6 x1)), (20, .c (.l 126 sI6 c0.2.1)), (21, cI v0), (22, .c (.at_ (avs sI6 x2))), (23, .agg (avs sI6 x2)), (24, cB (!(eqT sI6 x1 x2)))], []⟩
def YgEqual_Battery_0_1 {R : Type} (K : Ex → St → Option R) (c0 : CgEqual_Battery_0) (v0 : VgEqual_Battery_0) : Option R := K (.exit 0) ⟨26, 0, [(0, .c (.l 126 sI6 c0.1)), (1, .c (.l 126 sI6 c0.2.1)), (12, cI c0.2.2), (13, cI v0), (14, cB (decide (v0 < c0.2.2)))], []⟩
theorem lgEqual_Battery_0 {R : Type} (k : Nat) (K : Ex → St → Option R) (c0 : CgEqual_Battery_0) : ∀ (n : Nat) (v : VgEqual_Battery_0), loopRun [0, 0, 1, 12, 13] (run E (den E k) (lv 51) k (nthLoop Tryz.f51 0)) n (StgEqual_Battery_0 c0 v) K = LgEqual_Battery_0 k (YgEqual_Battery_0_0 K c0) (YgEqual_Battery_0_1 K c0) c0 n v := loop_law (B := BgEqual_Battery_0 k (YgEqual_Battery_0_0 K c0) (YgEqual_Battery_0_1 K c0) c0) (fun _ => rfl) (fun n v => by kernel_rfl) (fun _ => rfl) (fun _ _ => rfl)
theorem mgEqual_Battery_0 (k : Nat) (a0 : List I6) (a1 : List I6) : FgEqual_Battery (k + 1) a0 a1 = if ((a0.length : Int) != (a1.length : Int)) = true then some false else loopRun (R := Bool) [0, 0, 1, 12, 13] (run E (den E k) (lv 51) k (nthLoop Tryz.f51 0)) k (StgEqual_Battery_0 (a0, a1, (a0.length : Int)) 0) (kontAt E (den E k) (lv 51) k (bodyOf Tryz.f51) 0 [] (finish E (rs 51) Tryz.f51 : Ex → St → Option (Bool))) := by kernel_rfl
theorem egEqual_Battery (k : Nat) (a0 : List I6) (a1 : List I6) : FgEqual_Battery (k + 1) a0 a1 = if ((a0.length : Int) != (a1.length : Int)) = true then some false else LgEqual_Battery_0 k (fun (v0 : Int) (x1 : I6) (x2 : I6) => some false) (fun (v0 : Int) => some true) (a0, a1, (a0.length : Int)) k 0 := by
  rw [mgEqual_Battery_0]
  simp only [lgEqual_Battery_0]
  kernel_rfl
noncomputable def FgEqual_Fault (k : Nat) (a0 : List I4) (a1 : List I4) : Option (Bool) := den E k 55 [.c (.l 136 sI4 a0), .c (.l 136 sI4 a1)]
abbrev CgEqual_Fault_0 : Type := (List I4) × (List I4) × Int
abbrev VgEqual_Fault_0 : Type := Int
def StgEqual_Fault_0 (c0 : CgEqual_Fault_0) (v0 : VgEqual_Fault_0) : St := ⟨26, 0, [(0, .c (.l 136 sI4 c0.1)), (1, .c (.l 136 sI4 c0.2.1)), (12, cI c0.2.2), (13, cI v0)], []⟩
noncomputable def BgEqual_Fault_0 {R : Type} (k : Nat) (X0 : VgEqual_Fault_0 → I4 → I4 → Option R) (X1 : VgEqual_Fault_0 → Option R) (c0 : CgEqual_Fault_0) (rec : VgEqual_Fault_0 → Option R) (v0 : VgEqual_Fault_0) : Option R := if (decide (v0 < c0.2.2)) = true then if 0 ≤ v0 then ix c0.1 v0.toNat fun x1 => if 0 ≤ v0 then ix c0.2.1 v0.toNat fun x2 => if (!(eqT sI4 x1 x2)) = true then X0 v0 x1 x2 else rec (IntKind.i64.wrap (v0 + 1)) else none else none else X1 v0
noncomputable def LgEqual_Fault_0 {R : Type} (k : Nat) (X0 : VgEqual_Fault_0 → I4 → I4 → Option R) (X1 : VgEqual_Fault_0 → Option R) (c : CgEqual_Fault_0) : Nat → VgEqual_Fault_0 → Option R
  | 0, _ => none
  | n + 1, v => BgEqual_Fault_0 k X0 X1 c (LgEqual_Fault_0 k X0 X1 c n) v
def YgEqual_Fault_0_0 {R : Type} (K : Ex → St → Option R) (c0 : CgEqual_Fault_0) (v0 : VgEqual_Fault_0) (x1 : I4) (x2 : I4) : Option R := K .ret ⟨26, 0, [(0, .c (.l 136 sI4 c0.1)), (1, .c (.l 136 sI4 c0.2.1)), (4, cB false), (5, cI v0), (12, cI c0.2.2), (13, cI v0), (14, cB (decide (v0 < c0.2.2))), (15, cI v0), (16, .c (.l 136 sI4 c0.1)), (17, cI v0), (18, .c (.at_ (avs sI4 x1))), (19, .agg (avs sI4 x1)), (20, .c (.l 136 sI4 c0.2.1)), (21, cI v0), (22, .c (.at_ (avs sI4 x2))), (23, .agg (avs sI4 x2)), (24, cB (!(eqT sI4 x1 x2)))], []⟩
def YgEqual_Fault_0_1 {R : Type} (K : Ex → St → Option R) (c0 : CgEqual_Fault_0) (v0 : VgEqual_Fault_0) : Option R := K (.exit 0) ⟨26, 0, [(0, .c (.l 136 sI4 c0.1)), (1, .c (.l 136 sI4 c0.2.1)), (12, cI c0.2.2), (13, cI v0), (14, cB (decide (v0 < c0.2.2)))], []⟩
theorem lgEqual_Fault_0 {R : Type} (k : Nat) (K : Ex → St → Option R) (c0 : CgEqual_Fault_0) : ∀ (n : Nat) (v : VgEqual_Fault_0), loopRun [0, 0, 1, 12, 13] (run E (den E k) (lv 55) k (nthLoop Tryz.f55 0)) n (StgEqual_Fault_0 c0 v) K = LgEqual_Fault_0 k (YgEqual_Fault_0_0 K c0) (YgEqual_Fault_0_1 K c0) c0 n v := loop_law (B := BgEqual_Fault_0 k (YgEqual_Fault_0_0 K c0) (YgEqual_Fault_0_1 K c0) c0) (fun _ => rfl) (fun n v => by kernel_rfl) (fun _ => rfl) (fun _ _ => rfl)
theorem mgEqual_Fault_0 (k : Nat) (a0 : List I4) (a1 : List I4) : FgEqual_Fault (k + 1) a0 a1 = if ((a0.length : Int) != (a1.length : Int)) = true then some false else loopRun (R := Bool) [0, 0, 1, 12, 13] (run E (den E k) (lv 55) k (nthLoop Tryz.f55 0)) k (StgEqual_Fault_0 (a0, a1, (a0.length : Int)) 0) (kontAt E (den E k) (lv 55) k (bodyOf Tryz.f55) 0 [] (finish E (rs 55) Tryz.f55 : Ex → St → Option (Bool))) := by kernel_rfl
theorem egEqual_Fault (k : Nat) (a0 : List I4) (a1 : List I4) : FgEqual_Fault (k + 1) a0 a1 = if ((a0.length : Int) != (a1.length : Int)) = true then some false else LgEqual_Fault_0 k (fun (v0 : Int) (x1 : I4) (x2 : I4) => some false) (fun (v0 : Int) => some true) (a0, a1, (a0.length : Int)) k 0 := by
  rw [mgEqual_Fault_0]
  simp only [lgEqual_Fault_0]
  kernel_rfl
noncomputable def FgEqual_Flow (k : Nat) (a0 : List I4) (a1 : List I4) : Option (Bool) := den E k 52 [.c (.l 129 sI4 a0), .c (.l 129 sI4 a1)]
abbrev CgEqual_Flow_0 : Type := (List I4) × (List I4) × Int
abbrev VgEqual_Flow_0 : Type := Int
def StgEqual_Flow_0 (c0 : CgEqual_Flow_0) (v0 : VgEqual_Flow_0) : St := ⟨26, 0, [(0, .c (.l 129 sI4 c0.1)), (1, .c (.l 129 sI4 c0.2.1)), (12, cI c0.2.2), (13, cI v0)], []⟩
noncomputable def BgEqual_Flow_0 {R : Type} (k : Nat) (X0 : VgEqual_Flow_0 → I4 → I4 → Option R) (X1 : VgEqual_Flow_0 → Option R) (c0 : CgEqual_Flow_0) (rec : VgEqual_Flow_0 → Option R) (v0 : VgEqual_Flow_0) : Option R := if (decide (v0 < c0.2.2)) = true then if 0 ≤ v0 then ix c0.1 v0.toNat fun x1 => if 0 ≤ v0 then ix c0.2.1 v0.toNat fun x2 => if (!(eqT sI4 x1 x2)) = true then X0 v0 x1 x2 else rec (IntKind.i64.wrap (v0 + 1)) else none else none else X1 v0
noncomputable def LgEqual_Flow_0 {R : Type} (k : Nat) (X0 : VgEqual_Flow_0 → I4 → I4 → Option R) (X1 : VgEqual_Flow_0 → Option R) (c : CgEqual_Flow_0) : Nat → VgEqual_Flow_0 → Option R
  | 0, _ => none
  | n + 1, v => BgEqual_Flow_0 k X0 X1 c (LgEqual_Flow_0 k X0 X1 c n) v
def YgEqual_Flow_0_0 {R : Type} (K : Ex → St → Option R) (c0 : CgEqual_Flow_0) (v0 : VgEqual_Flow_0) (x1 : I4) (x2 : I4) : Option R := K .ret ⟨26, 0, [(0, .c (.l 129 sI4 c0.1)), (1, .c (.l 129 sI4 c0.2.1)), (4, cB false), (5, cI v0), (12, cI c0.2.2), (13, cI v0), (14, cB (decide (v0 < c0.2.2))), (15, cI v0), (16, .c (.l 129 sI4 c0.1)), (17, cI v0), (18, .c (.at_ (avs sI4 x1))), (19, .agg (avs sI4 x1)), (20, .c (.l 129 sI4 c0.2.1)), (21, cI v0), (22, .c (.at_ (avs sI4 x2))), (23, .agg (avs sI4 x2)), (24, cB (!(eqT sI4 x1 x2)))], []⟩
def YgEqual_Flow_0_1 {R : Type} (K : Ex → St → Option R) (c0 : CgEqual_Flow_0) (v0 : VgEqual_Flow_0) : Option R := K (.exit 0) ⟨26, 0, [(0, .c (.l 129 sI4 c0.1)), (1, .c (.l 129 sI4 c0.2.1)), (12, cI c0.2.2), (13, cI v0), (14, cB (decide (v0 < c0.2.2)))], []⟩
theorem lgEqual_Flow_0 {R : Type} (k : Nat) (K : Ex → St → Option R) (c0 : CgEqual_Flow_0) : ∀ (n : Nat) (v : VgEqual_Flow_0), loopRun [0, 0, 1, 12, 13] (run E (den E k) (lv 52) k (nthLoop Tryz.f52 0)) n (StgEqual_Flow_0 c0 v) K = LgEqual_Flow_0 k (YgEqual_Flow_0_0 K c0) (YgEqual_Flow_0_1 K c0) c0 n v := loop_law (B := BgEqual_Flow_0 k (YgEqual_Flow_0_0 K c0) (YgEqual_Flow_0_1 K c0) c0) (fun _ => rfl) (fun n v => by kernel_rfl) (fun _ => rfl) (fun _ _ => rfl)
theorem mgEqual_Flow_0 (k : Nat) (a0 : List I4) (a1 : List I4) : FgEqual_Flow (k + 1) a0 a1 = if ((a0.length : Int) != (a1.length : Int)) = true then some false else loopRun (R := Bool) [0, 0, 1, 12, 13] (run E (den E k) (lv 52) k (nthLoop Tryz.f52 0)) k (StgEqual_Flow_0 (a0, a1, (a0.length : Int)) 0) (kontAt E (den E k) (lv 52) k (bodyOf Tryz.f52) 0 [] (finish E (rs 52) Tryz.f52 : Ex → St → Option (Bool))) := by kernel_rfl
theorem egEqual_Flow (k : Nat) (a0 : List I4) (a1 : List I4) : FgEqual_Flow (k + 1) a0 a1 = if ((a0.length : Int) != (a1.length : Int)) = true then some false else LgEqual_Flow_0 k (fun (v0 : Int) (x1 : I4) (x2 : I4) => some false) (fun (v0 : Int) => some true) (a0, a1, (a0.length : Int)) k 0 := by
  rw [mgEqual_Flow_0]
  simp only [lgEqual_Flow_0]
  kernel_rfl
noncomputable def FgEqual_Sat (k : Nat) (a0 : List I4) (a1 : List I4) : Option (Bool) := den E k 39 [.c (.l 94 sI4 a0), .c (.l 94 sI4 a1)]
abbrev CgEqual_Sat_0 : Type := (List I4) × (List I4) × Int
abbrev VgEqual_Sat_0 : Type := Int
def StgEqual_Sat_0 (c0 : CgEqual_Sat_0) (v0 : VgEqual_Sat_0) : St := ⟨26, 0, [(0, .c (.l 94 sI4 c0.1)), (1, .c (.l 94 sI4 c0.2.1)), (12, cI c0.2.2), (13, cI v0)], []⟩
noncomputable def BgEqual_Sat_0 {R : Type} (k : Nat) (X0 : VgEqual_Sat_0 → I4 → I4 → Option R) (X1 : VgEqual_Sat_0 → Option R) (c0 : CgEqual_Sat_0) (rec : VgEqual_Sat_0 → Option R) (v0 : VgEqual_Sat_0) : Option R := if (decide (v0 < c0.2.2)) = true then if 0 ≤ v0 then ix c0.1 v0.toNat fun x1 => if 0 ≤ v0 then ix c0.2.1 v0.toNat fun x2 => if (!(eqT sI4 x1 x2)) = true then X0 v0 x1 x2 else rec (IntKind.i64.wrap (v0 + 1)) else none else none else X1 v0
noncomputable def LgEqual_Sat_0 {R : Type} (k : Nat) (X0 : VgEqual_Sat_0 → I4 → I4 → Option R) (X1 : VgEqual_Sat_0 → Option R) (c : CgEqual_Sat_0) : Nat → VgEqual_Sat_0 → Option R
  | 0, _ => none
  | n + 1, v => BgEqual_Sat_0 k X0 X1 c (LgEqual_Sat_0 k X0 X1 c n) v
def YgEqual_Sat_0_0 {R : Type} (K : Ex → St → Option R) (c0 : CgEqual_Sat_0) (v0 : VgEqual_Sat_0) (x1 : I4) (x2 : I4) : Option R := K .ret ⟨26, 0, [(0, .c (.l 94 sI4 c0.1)), (1, .c (.l 94 sI4 c0.2.1)), (4, cB false), (5, cI v0), (12, cI c0.2.2), (13, cI v0), (14, cB (decide (v0 < c0.2.2))), (15, cI v0), (16, .c (.l 94 sI4 c0.1)), (17, cI v0), (18, .c (.at_ (avs sI4 x1))), (19, .agg (avs sI4 x1)), (20, .c (.l 94 sI4 c0.2.1)), (21, cI v0), (22, .c (.at_ (avs sI4 x2))), (23, .agg (avs sI4 x2)), (24, cB (!(eqT sI4 x1 x2)))], []⟩
def YgEqual_Sat_0_1 {R : Type} (K : Ex → St → Option R) (c0 : CgEqual_Sat_0) (v0 : VgEqual_Sat_0) : Option R := K (.exit 0) ⟨26, 0, [(0, .c (.l 94 sI4 c0.1)), (1, .c (.l 94 sI4 c0.2.1)), (12, cI c0.2.2), (13, cI v0), (14, cB (decide (v0 < c0.2.2)))], []⟩
theorem lgEqual_Sat_0 {R : Type} (k : Nat) (K : Ex → St → Option R) (c0 : CgEqual_Sat_0) : ∀ (n : Nat) (v : VgEqual_Sat_0), loopRun [0, 0, 1, 12, 13] (run E (den E k) (lv 39) k (nthLoop Tryz.f39 0)) n (StgEqual_Sat_0 c0 v) K = LgEqual_Sat_0 k (YgEqual_Sat_0_0 K c0) (YgEqual_Sat_0_1 K c0) c0 n v := loop_law (B := BgEqual_Sat_0 k (YgEqual_Sat_0_0 K c0) (YgEqual_Sat_0_1 K c0) c0) (fun _ => rfl) (fun n v => by kernel_rfl) (fun _ => rfl) (fun _ _ => rfl)
theorem mgEqual_Sat_0 (k : Nat) (a0 : List I4) (a1 : List I4) : FgEqual_Sat (k + 1) a0 a1 = if ((a0.length : Int) != (a1.length : Int)) = true then some false else loopRun (R := Bool) [0, 0, 1, 12, 13] (run E (den E k) (lv 39) k (nthLoop Tryz.f39 0)) k (StgEqual_Sat_0 (a0, a1, (a0.length : Int)) 0) (kontAt E (den E k) (lv 39) k (bodyOf Tryz.f39) 0 [] (finish E (rs 39) Tryz.f39 : Ex → St → Option (Bool))) := by kernel_rfl
theorem egEqual_Sat (k : Nat) (a0 : List I4) (a1 : List I4) : FgEqual_Sat (k + 1) a0 a1 = if ((a0.length : Int) != (a1.length : Int)) = true then some false else LgEqual_Sat_0 k (fun (v0 : Int) (x1 : I4) (x2 : I4) => some false) (fun (v0 : Int) => some true) (a0, a1, (a0.length : Int)) k 0 := by
  rw [mgEqual_Sat_0]
  simp only [lgEqual_Sat_0]
  kernel_rfl
noncomputable def FgEqual_Sent (k : Nat) (a0 : List I4) (a1 : List I4) : Option (Bool) := den E k 56 [.c (.l 139 sI4 a0), .c (.l 139 sI4 a1)]
abbrev CgEqual_Sent_0 : Type := (List I4) × (List I4) × Int
abbrev VgEqual_Sent_0 : Type := Int
def StgEqual_Sent_0 (c0 : CgEqual_Sent_0) (v0 : VgEqual_Sent_0) : St := ⟨26, 0, [(0, .c (.l 139 sI4 c0.1)), (1, .c (.l 139 sI4 c0.2.1)), (12, cI c0.2.2), (13, cI v0)], []⟩
noncomputable def BgEqual_Sent_0 {R : Type} (k : Nat) (X0 : VgEqual_Sent_0 → I4 → I4 → Option R) (X1 : VgEqual_Sent_0 → Option R) (c0 : CgEqual_Sent_0) (rec : VgEqual_Sent_0 → Option R) (v0 : VgEqual_Sent_0) : Option R := if (decide (v0 < c0.2.2)) = true then if 0 ≤ v0 then ix c0.1 v0.toNat fun x1 => if 0 ≤ v0 then ix c0.2.1 v0.toNat fun x2 => if (!(eqT sI4 x1 x2)) = true then X0 v0 x1 x2 else rec (IntKind.i64.wrap (v0 + 1)) else none else none else X1 v0
noncomputable def LgEqual_Sent_0 {R : Type} (k : Nat) (X0 : VgEqual_Sent_0 → I4 → I4 → Option R) (X1 : VgEqual_Sent_0 → Option R) (c : CgEqual_Sent_0) : Nat → VgEqual_Sent_0 → Option R
  | 0, _ => none
  | n + 1, v => BgEqual_Sent_0 k X0 X1 c (LgEqual_Sent_0 k X0 X1 c n) v
def YgEqual_Sent_0_0 {R : Type} (K : Ex → St → Option R) (c0 : CgEqual_Sent_0) (v0 : VgEqual_Sent_0) (x1 : I4) (x2 : I4) : Option R := K .ret ⟨26, 0, [(0, .c (.l 139 sI4 c0.1)), (1, .c (.l 139 sI4 c0.2.1)), (4, cB false), (5, cI v0), (12, cI c0.2.2), (13, cI v0), (14, cB (decide (v0 < c0.2.2))), (15, cI v0), (16, .c (.l 139 sI4 c0.1)), (17, cI v0), (18, .c (.at_ (avs sI4 x1))), (19, .agg (avs sI4 x1)), (20, .c (.l 139 sI4 c0.2.1)), (21, cI v0), (22, .c (.at_ (avs sI4 x2))), (23, .agg (avs sI4 x2)), (24, cB (!(eqT sI4 x1 x2)))], []⟩
def YgEqual_Sent_0_1 {R : Type} (K : Ex → St → Option R) (c0 : CgEqual_Sent_0) (v0 : VgEqual_Sent_0) : Option R := K (.exit 0) ⟨26, 0, [(0, .c (.l 139 sI4 c0.1)), (1, .c (.l 139 sI4 c0.2.1)), (12, cI c0.2.2), (13, cI v0), (14, cB (decide (v0 < c0.2.2)))], []⟩
theorem lgEqual_Sent_0 {R : Type} (k : Nat) (K : Ex → St → Option R) (c0 : CgEqual_Sent_0) : ∀ (n : Nat) (v : VgEqual_Sent_0), loopRun [0, 0, 1, 12, 13] (run E (den E k) (lv 56) k (nthLoop Tryz.f56 0)) n (StgEqual_Sent_0 c0 v) K = LgEqual_Sent_0 k (YgEqual_Sent_0_0 K c0) (YgEqual_Sent_0_1 K c0) c0 n v := loop_law (B := BgEqual_Sent_0 k (YgEqual_Sent_0_0 K c0) (YgEqual_Sent_0_1 K c0) c0) (fun _ => rfl) (fun n v => by kernel_rfl) (fun _ => rfl) (fun _ _ => rfl)
theorem mgEqual_Sent_0 (k : Nat) (a0 : List I4) (a1 : List I4) : FgEqual_Sent (k + 1) a0 a1 = if ((a0.length : Int) != (a1.length : Int)) = true then some false else loopRun (R := Bool) [0, 0, 1, 12, 13] (run E (den E k) (lv 56) k (nthLoop Tryz.f56 0)) k (StgEqual_Sent_0 (a0, a1, (a0.length : Int)) 0) (kontAt E (den E k) (lv 56) k (bodyOf Tryz.f56) 0 [] (finish E (rs 56) Tryz.f56 : Ex → St → Option (Bool))) := by kernel_rfl
theorem egEqual_Sent (k : Nat) (a0 : List I4) (a1 : List I4) : FgEqual_Sent (k + 1) a0 a1 = if ((a0.length : Int) != (a1.length : Int)) = true then some false else LgEqual_Sent_0 k (fun (v0 : Int) (x1 : I4) (x2 : I4) => some false) (fun (v0 : Int) => some true) (a0, a1, (a0.length : Int)) k 0 := by
  rw [mgEqual_Sent_0]
  simp only [lgEqual_Sent_0]
  kernel_rfl
noncomputable def FgEqual_Site (k : Nat) (a0 : List I3) (a1 : List I3) : Option (Bool) := den E k 40 [.c (.l 97 sI3 a0), .c (.l 97 sI3 a1)]
abbrev CgEqual_Site_0 : Type := (List I3) × (List I3) × Int
abbrev VgEqual_Site_0 : Type := Int
def StgEqual_Site_0 (c0 : CgEqual_Site_0) (v0 : VgEqual_Site_0) : St := ⟨26, 0, [(0, .c (.l 97 sI3 c0.1)), (1, .c (.l 97 sI3 c0.2.1)), (12, cI c0.2.2), (13, cI v0)], []⟩
noncomputable def BgEqual_Site_0 {R : Type} (k : Nat) (X0 : VgEqual_Site_0 → I3 → I3 → Option R) (X1 : VgEqual_Site_0 → Option R) (c0 : CgEqual_Site_0) (rec : VgEqual_Site_0 → Option R) (v0 : VgEqual_Site_0) : Option R := if (decide (v0 < c0.2.2)) = true then if 0 ≤ v0 then ix c0.1 v0.toNat fun x1 => if 0 ≤ v0 then ix c0.2.1 v0.toNat fun x2 => if (!(eqT sI3 x1 x2)) = true then X0 v0 x1 x2 else rec (IntKind.i64.wrap (v0 + 1)) else none else none else X1 v0
noncomputable def LgEqual_Site_0 {R : Type} (k : Nat) (X0 : VgEqual_Site_0 → I3 → I3 → Option R) (X1 : VgEqual_Site_0 → Option R) (c : CgEqual_Site_0) : Nat → VgEqual_Site_0 → Option R
  | 0, _ => none
  | n + 1, v => BgEqual_Site_0 k X0 X1 c (LgEqual_Site_0 k X0 X1 c n) v
def YgEqual_Site_0_0 {R : Type} (K : Ex → St → Option R) (c0 : CgEqual_Site_0) (v0 : VgEqual_Site_0) (x1 : I3) (x2 : I3) : Option R := K .ret ⟨26, 0, [(0, .c (.l 97 sI3 c0.1)), (1, .c (.l 97 sI3 c0.2.1)), (4, cB false), (5, cI v0), (12, cI c0.2.2), (13, cI v0), (14, cB (decide (v0 < c0.2.2))), (15, cI v0), (16, .c (.l 97 sI3 c0.1)), (17, cI v0), (18, .c (.at_ (avs sI3 x1))), (19, .agg (avs sI3 x1)), (20, .c (.l 97 sI3 c0.2.1)), (21, cI v0), (22, .c (.at_ (avs sI3 x2))), (23, .agg (avs sI3 x2)), (24, cB (!(eqT sI3 x1 x2)))], []⟩
def YgEqual_Site_0_1 {R : Type} (K : Ex → St → Option R) (c0 : CgEqual_Site_0) (v0 : VgEqual_Site_0) : Option R := K (.exit 0) ⟨26, 0, [(0, .c (.l 97 sI3 c0.1)), (1, .c (.l 97 sI3 c0.2.1)), (12, cI c0.2.2), (13, cI v0), (14, cB (decide (v0 < c0.2.2)))], []⟩
theorem lgEqual_Site_0 {R : Type} (k : Nat) (K : Ex → St → Option R) (c0 : CgEqual_Site_0) : ∀ (n : Nat) (v : VgEqual_Site_0), loopRun [0, 0, 1, 12, 13] (run E (den E k) (lv 40) k (nthLoop Tryz.f40 0)) n (StgEqual_Site_0 c0 v) K = LgEqual_Site_0 k (YgEqual_Site_0_0 K c0) (YgEqual_Site_0_1 K c0) c0 n v := loop_law (B := BgEqual_Site_0 k (YgEqual_Site_0_0 K c0) (YgEqual_Site_0_1 K c0) c0) (fun _ => rfl) (fun n v => by kernel_rfl) (fun _ => rfl) (fun _ _ => rfl)
theorem mgEqual_Site_0 (k : Nat) (a0 : List I3) (a1 : List I3) : FgEqual_Site (k + 1) a0 a1 = if ((a0.length : Int) != (a1.length : Int)) = true then some false else loopRun (R := Bool) [0, 0, 1, 12, 13] (run E (den E k) (lv 40) k (nthLoop Tryz.f40 0)) k (StgEqual_Site_0 (a0, a1, (a0.length : Int)) 0) (kontAt E (den E k) (lv 40) k (bodyOf Tryz.f40) 0 [] (finish E (rs 40) Tryz.f40 : Ex → St → Option (Bool))) := by kernel_rfl
theorem egEqual_Site (k : Nat) (a0 : List I3) (a1 : List I3) : FgEqual_Site (k + 1) a0 a1 = if ((a0.length : Int) != (a1.length : Int)) = true then some false else LgEqual_Site_0 k (fun (v0 : Int) (x1 : I3) (x2 : I3) => some false) (fun (v0 : Int) => some true) (a0, a1, (a0.length : Int)) k 0 := by
  rw [mgEqual_Site_0]
  simp only [lgEqual_Site_0]
  kernel_rfl
noncomputable def FgEqual_Zone (k : Nat) (a0 : List I3) (a1 : List I3) : Option (Bool) := den E k 41 [.c (.l 102 sZone a0), .c (.l 102 sZone a1)]
abbrev CgEqual_Zone_0 : Type := (List I3) × (List I3) × Int
abbrev VgEqual_Zone_0 : Type := Int
def StgEqual_Zone_0 (c0 : CgEqual_Zone_0) (v0 : VgEqual_Zone_0) : St := ⟨26, 0, [(0, .c (.l 102 sZone c0.1)), (1, .c (.l 102 sZone c0.2.1)), (12, cI c0.2.2), (13, cI v0)], []⟩
noncomputable def BgEqual_Zone_0 {R : Type} (k : Nat) (X0 : VgEqual_Zone_0 → I3 → I3 → Option R) (X1 : VgEqual_Zone_0 → Option R) (c0 : CgEqual_Zone_0) (rec : VgEqual_Zone_0 → Option R) (v0 : VgEqual_Zone_0) : Option R := if (decide (v0 < c0.2.2)) = true then if 0 ≤ v0 then ix c0.1 v0.toNat fun x1 => if 0 ≤ v0 then ix c0.2.1 v0.toNat fun x2 => if (!(eqT sZone x1 x2)) = true then X0 v0 x1 x2 else rec (IntKind.i64.wrap (v0 + 1)) else none else none else X1 v0
noncomputable def LgEqual_Zone_0 {R : Type} (k : Nat) (X0 : VgEqual_Zone_0 → I3 → I3 → Option R) (X1 : VgEqual_Zone_0 → Option R) (c : CgEqual_Zone_0) : Nat → VgEqual_Zone_0 → Option R
  | 0, _ => none
  | n + 1, v => BgEqual_Zone_0 k X0 X1 c (LgEqual_Zone_0 k X0 X1 c n) v
def YgEqual_Zone_0_0 {R : Type} (K : Ex → St → Option R) (c0 : CgEqual_Zone_0) (v0 : VgEqual_Zone_0) (x1 : I3) (x2 : I3) : Option R := K .ret ⟨26, 0, [(0, .c (.l 102 sZone c0.1)), (1, .c (.l 102 sZone c0.2.1)), (4, cB false), (5, cI v0), (12, cI c0.2.2), (13, cI v0), (14, cB (decide (v0 < c0.2.2))), (15, cI v0), (16, .c (.l 102 sZone c0.1)), (17, cI v0), (18, .c (.at_ (avs sI3 x1))), (19, .agg (avs sI3 x1)), (20, .c (.l 102 sZone c0.2.1)), (21, cI v0), (22, .c (.at_ (avs sI3 x2))), (23, .agg (avs sI3 x2)), (24, cB (!(eqT sZone x1 x2)))], []⟩
def YgEqual_Zone_0_1 {R : Type} (K : Ex → St → Option R) (c0 : CgEqual_Zone_0) (v0 : VgEqual_Zone_0) : Option R := K (.exit 0) ⟨26, 0, [(0, .c (.l 102 sZone c0.1)), (1, .c (.l 102 sZone c0.2.1)), (12, cI c0.2.2), (13, cI v0), (14, cB (decide (v0 < c0.2.2)))], []⟩
theorem lgEqual_Zone_0 {R : Type} (k : Nat) (K : Ex → St → Option R) (c0 : CgEqual_Zone_0) : ∀ (n : Nat) (v : VgEqual_Zone_0), loopRun [0, 0, 1, 12, 13] (run E (den E k) (lv 41) k (nthLoop Tryz.f41 0)) n (StgEqual_Zone_0 c0 v) K = LgEqual_Zone_0 k (YgEqual_Zone_0_0 K c0) (YgEqual_Zone_0_1 K c0) c0 n v := loop_law (B := BgEqual_Zone_0 k (YgEqual_Zone_0_0 K c0) (YgEqual_Zone_0_1 K c0) c0) (fun _ => rfl) (fun n v => by kernel_rfl) (fun _ => rfl) (fun _ _ => rfl)
theorem mgEqual_Zone_0 (k : Nat) (a0 : List I3) (a1 : List I3) : FgEqual_Zone (k + 1) a0 a1 = if ((a0.length : Int) != (a1.length : Int)) = true then some false else loopRun (R := Bool) [0, 0, 1, 12, 13] (run E (den E k) (lv 41) k (nthLoop Tryz.f41 0)) k (StgEqual_Zone_0 (a0, a1, (a0.length : Int)) 0) (kontAt E (den E k) (lv 41) k (bodyOf Tryz.f41) 0 [] (finish E (rs 41) Tryz.f41 : Ex → St → Option (Bool))) := by kernel_rfl
theorem egEqual_Zone (k : Nat) (a0 : List I3) (a1 : List I3) : FgEqual_Zone (k + 1) a0 a1 = if ((a0.length : Int) != (a1.length : Int)) = true then some false else LgEqual_Zone_0 k (fun (v0 : Int) (x1 : I3) (x2 : I3) => some false) (fun (v0 : Int) => some true) (a0, a1, (a0.length : Int)) k 0 := by
  rw [mgEqual_Zone_0]
  simp only [lgEqual_Zone_0]
  kernel_rfl
noncomputable def FiEqualWorlds (k : Nat) (a0 : TWorld) (a1 : TWorld) : Option (Bool) := den E k 8 [.agg (avs sWorld a0), .agg (avs sWorld a1)]
noncomputable def NiEqualWorlds : Ex → St → Option (Bool) := finish E (rs 8) Tryz.f8
def SiEqualWorlds_i (a0 : TWorld) (a1 : TWorld) : St := ⟨205, 0, [(0, .agg (avs sWorld a0)), (1, .agg (avs sWorld a1))], []⟩
def SiEqualWorlds_0 (a0 : TWorld) (a1 : TWorld) (v0 : Bool) : St := ⟨205, 2, [(2, cP 0), (3, cP 1), (4, cB v0)], [(0, .var (avs sWorld a0)), (1, .var (avs sWorld a1))]⟩
noncomputable def KiEqualWorlds_0 (k : Nat) (a0 : TWorld) (a1 : TWorld) (v0 : Bool) : Option (Bool) := restK E (den E k) (lv 8) k (bodyOf Tryz.f8) NiEqualWorlds 1 (SiEqualWorlds_0 a0 a1 v0)
def SiEqualWorlds_1 (a0 : TWorld) (a1 : TWorld) (v0 : Bool) : St := ⟨205, 4, [(2, .c (.at_ (avs sWorld a0))), (3, .c (.at_ (avs sWorld a1))), (4, cB v0), (5, cP 2), (6, cP 3)], [(2, .var (avs sSky a0.1)), (3, .var (avs sSky a1.1))]⟩
noncomputable def KiEqualWorlds_1 (k : Nat) (a0 : TWorld) (a1 : TWorld) (v0 : Bool) : Option (Bool) := restK E (den E k) (lv 8) k (bodyOf Tryz.f8) NiEqualWorlds 2 (SiEqualWorlds_1 a0 a1 v0)
def SiEqualWorlds_2 (a0 : TWorld) (a1 : TWorld) (v0 : Bool) (v1 : Bool) : St := ⟨205, 4, [(2, .c (.at_ (avs sWorld a0))), (3, .c (.at_ (avs sWorld a1))), (4, cB v0), (7, cB v1)], [(2, .var (avs sSky a0.1)), (3, .var (avs sSky a1.1))]⟩
noncomputable def KiEqualWorlds_2 (k : Nat) (a0 : TWorld) (a1 : TWorld) (v0 : Bool) (v1 : Bool) : Option (Bool) := restK E (den E k) (lv 8) k (bodyOf Tryz.f8) NiEqualWorlds 3 (SiEqualWorlds_2 a0 a1 v0 v1)
def SiEqualWorlds_3 (a0 : TWorld) (a1 : TWorld) (v0 : Bool) (v1 : Bool) : St := ⟨205, 6, [(2, .c (.at_ (avs sWorld a0))), (3, .c (.at_ (avs sWorld a1))), (4, cB v0), (7, cB v1), (8, cP 4), (9, cP 5)], [(2, .var (avs sSky a0.1)), (3, .var (avs sSky a1.1)), (4, .var (avs sProgram a0.2.1)), (5, .var (avs sProgram a1.2.1))]⟩
noncomputable def KiEqualWorlds_3 (k : Nat) (a0 : TWorld) (a1 : TWorld) (v0 : Bool) (v1 : Bool) : Option (Bool) := restK E (den E k) (lv 8) k (bodyOf Tryz.f8) NiEqualWorlds 4 (SiEqualWorlds_3 a0 a1 v0 v1)
def SiEqualWorlds_4 (a0 : TWorld) (a1 : TWorld) (v0 : Bool) (v1 : Bool) (v2 : Bool) : St := ⟨205, 6, [(2, .c (.at_ (avs sWorld a0))), (3, .c (.at_ (avs sWorld a1))), (4, cB v0), (7, cB v1), (10, cB v2)], [(2, .var (avs sSky a0.1)), (3, .var (avs sSky a1.1)), (4, .var (avs sProgram a0.2.1)), (5, .var (avs sProgram a1.2.1))]⟩
noncomputable def KiEqualWorlds_4 (k : Nat) (a0 : TWorld) (a1 : TWorld) (v0 : Bool) (v1 : Bool) (v2 : Bool) : Option (Bool) := restK E (den E k) (lv 8) k (bodyOf Tryz.f8) NiEqualWorlds 5 (SiEqualWorlds_4 a0 a1 v0 v1 v2)
def SiEqualWorlds_5 (a0 : TWorld) (a1 : TWorld) (v0 : Bool) (v1 : Bool) (v2 : Bool) (v3 : Bool) : St := ⟨205, 6, [(2, .c (.at_ (avs sWorld a0))), (3, .c (.at_ (avs sWorld a1))), (4, cB v0), (7, cB v1), (10, cB v2), (11, cB v3)], [(2, .var (avs sSky a0.1)), (3, .var (avs sSky a1.1)), (4, .var (avs sProgram a0.2.1)), (5, .var (avs sProgram a1.2.1))]⟩
noncomputable def KiEqualWorlds_5 (k : Nat) (a0 : TWorld) (a1 : TWorld) (v0 : Bool) (v1 : Bool) (v2 : Bool) (v3 : Bool) : Option (Bool) := restK E (den E k) (lv 8) k (bodyOf Tryz.f8) NiEqualWorlds 6 (SiEqualWorlds_5 a0 a1 v0 v1 v2 v3)
theorem kiEqualWorlds_5 (k : Nat) (a0 : TWorld) (a1 : TWorld) (v0 : Bool) (v1 : Bool) (v2 : Bool) (v3 : Bool) : KiEqualWorlds_5 k a0 a1 v0 v1 v2 v3 = if (v1 == true) = true then if (v2 == true) = true then if (v3 == true) = true then (FgEqual_int k a0.2.2.1 a1.2.2.1).bind fun p6 => if (p6 == true) = true then (FgEqual_int k a0.2.2.2.1 a1.2.2.2.1).bind fun p7 => if (p7 == true) = true then (FgEqual_Battery k a0.2.2.2.2.1 a1.2.2.2.2.1).bind fun p8 => if (p8 == true) = true then (FgEqual_Flow k a0.2.2.2.2.2.2.1 a1.2.2.2.2.2.2.1).bind fun p9 => if (p9 == true) = true then (FgEqual_int k a0.2.2.2.2.2.2.2.1 a1.2.2.2.2.2.2.2.1).bind fun p10 => if (p10 == true) = true then (FgEqualFunc_Streamv_iEqualStreams k a0.2.2.2.2.2.2.2.2.1 a1.2.2.2.2.2.2.2.2.1).bind fun p11 => if (p11 == true) = true then (FgEqual_Fault k a0.2.2.2.2.2.2.2.2.2.1 a1.2.2.2.2.2.2.2.2.2.1).bind fun p12 => if (p12 == true) = true then if ((a0.2.2.2.2.2.2.2.2.2.2.1 == a1.2.2.2.2.2.2.2.2.2.2.1) == true) = true then if ((a0.2.2.2.2.2.2.2.2.2.2.2.1 == a1.2.2.2.2.2.2.2.2.2.2.2.1) == true) = true then (FgEqual_Packet k a0.2.2.2.2.2.2.2.2.2.2.2.2.1 a1.2.2.2.2.2.2.2.2.2.2.2.2.1).bind fun p13 => if (p13 == true) = true then (FgEqual_Sent k a0.2.2.2.2.2.2.2.2.2.2.2.2.2 a1.2.2.2.2.2.2.2.2.2.2.2.2.2).bind fun p14 => some p14 else some false else some false else some false else some false else some false else some false else some false else some false else some false else some false else some false else some false else some false := by kernel_rfl
theorem riEqualWorlds_5 (k : Nat) (a0 : TWorld) (a1 : TWorld) (v0 : Bool) (v1 : Bool) (v2 : Bool) (K : Ex → St → Option (Bool)) : run E (den E k) (lv 8) k (headOf1 (restOf 5 (bodyOf Tryz.f8))) (SiEqualWorlds_4 a0 a1 v0 v1 v2) K = (FgEqualFunc_Queuev_iEqualWorlds_2 k a0.2.2.2.2.2.1 a1.2.2.2.2.2.1).bind fun p5 => K .normal (SiEqualWorlds_5 a0 a1 v0 v1 v2 p5) := by kernel_rfl
theorem kiEqualWorlds_4 (k : Nat) (a0 : TWorld) (a1 : TWorld) (v0 : Bool) (v1 : Bool) (v2 : Bool) : KiEqualWorlds_4 k a0 a1 v0 v1 v2 = (FgEqualFunc_Queuev_iEqualWorlds_2 k a0.2.2.2.2.2.1 a1.2.2.2.2.2.1).bind fun p5 => KiEqualWorlds_5 k a0 a1 v0 v1 v2 p5 := by
  unfold KiEqualWorlds_4
  rw [restK_step (by kernel_rfl), riEqualWorlds_5]
  simp only [seqK_normal]
  kernel_rfl
theorem riEqualWorlds_4 (k : Nat) (a0 : TWorld) (a1 : TWorld) (v0 : Bool) (v1 : Bool) (K : Ex → St → Option (Bool)) : run E (den E k) (lv 8) k (headOf1 (restOf 4 (bodyOf Tryz.f8))) (SiEqualWorlds_3 a0 a1 v0 v1) K = if ((a0.2.1.1 == a1.2.1.1) == true) = true then if ((a0.2.1.2.1 == a1.2.1.2.1) == true) = true then if ((a0.2.1.2.2.1 == a1.2.1.2.2.1) == true) = true then (FgEqualFunc_Piecev_iEqualWorlds_1 k a0.2.1.2.2.2 a1.2.1.2.2.2).bind fun p4 => K .normal (SiEqualWorlds_4 a0 a1 v0 v1 p4) else K .normal (SiEqualWorlds_4 a0 a1 v0 v1 false) else K .normal (SiEqualWorlds_4 a0 a1 v0 v1 false) else K .normal (SiEqualWorlds_4 a0 a1 v0 v1 false) := by kernel_rfl
theorem kiEqualWorlds_3 (k : Nat) (a0 : TWorld) (a1 : TWorld) (v0 : Bool) (v1 : Bool) : KiEqualWorlds_3 k a0 a1 v0 v1 = if ((a0.2.1.1 == a1.2.1.1) == true) = true then if ((a0.2.1.2.1 == a1.2.1.2.1) == true) = true then if ((a0.2.1.2.2.1 == a1.2.1.2.2.1) == true) = true then (FgEqualFunc_Piecev_iEqualWorlds_1 k a0.2.1.2.2.2 a1.2.1.2.2.2).bind fun p4 => KiEqualWorlds_4 k a0 a1 v0 v1 p4 else KiEqualWorlds_4 k a0 a1 v0 v1 false else KiEqualWorlds_4 k a0 a1 v0 v1 false else KiEqualWorlds_4 k a0 a1 v0 v1 false := by
  unfold KiEqualWorlds_3
  rw [restK_step (by kernel_rfl), riEqualWorlds_4]
  simp only [seqK_normal]
  kernel_rfl
theorem riEqualWorlds_3 (k : Nat) (a0 : TWorld) (a1 : TWorld) (v0 : Bool) (v1 : Bool) (K : Ex → St → Option (Bool)) : run E (den E k) (lv 8) k (headOf1 (restOf 3 (bodyOf Tryz.f8))) (SiEqualWorlds_2 a0 a1 v0 v1) K = K .normal (SiEqualWorlds_3 a0 a1 v0 v1) := by kernel_rfl
theorem kiEqualWorlds_2 (k : Nat) (a0 : TWorld) (a1 : TWorld) (v0 : Bool) (v1 : Bool) : KiEqualWorlds_2 k a0 a1 v0 v1 = KiEqualWorlds_3 k a0 a1 v0 v1 := by
  unfold KiEqualWorlds_2
  rw [restK_step (by kernel_rfl), riEqualWorlds_3]
  simp only [seqK_normal]
  kernel_rfl
theorem riEqualWorlds_2 (k : Nat) (a0 : TWorld) (a1 : TWorld) (v0 : Bool) (K : Ex → St → Option (Bool)) : run E (den E k) (lv 8) k (headOf1 (restOf 2 (bodyOf Tryz.f8))) (SiEqualWorlds_1 a0 a1 v0) K = if ((a0.1.1 == a1.1.1) == true) = true then if ((a0.1.2.2.2.1 == a1.1.2.2.2.1) == true) = true then if ((a0.1.2.2.2.2.1 == a1.1.2.2.2.2.1) == true) = true then if ((a0.1.2.2.2.2.2.1 == a1.1.2.2.2.2.2.1) == true) = true then if ((a0.1.2.2.2.2.2.2.1 == a1.1.2.2.2.2.2.2.1) == true) = true then if ((a0.1.2.2.2.2.2.2.2.1 == a1.1.2.2.2.2.2.2.2.1) == true) = true then if ((a0.1.2.2.2.2.2.2.2.2.2 == a1.1.2.2.2.2.2.2.2.2.2) == true) = true then (FgEqual_Sat k a0.1.2.1 a1.1.2.1).bind fun p1 => if (p1 == true) = true then (FgEqual_Site k a0.1.2.2.1 a1.1.2.2.1).bind fun p2 => if (p2 == true) = true then (FgEqual_Zone k a0.1.2.2.2.2.2.2.2.2.1 a1.1.2.2.2.2.2.2.2.2.1).bind fun p3 => K .normal (SiEqualWorlds_2 a0 a1 v0 p3) else K .normal (SiEqualWorlds_2 a0 a1 v0 false) else K .normal (SiEqualWorlds_2 a0 a1 v0 false) else K .normal (SiEqualWorlds_2 a0 a1 v0 false) else K .normal (SiEqualWorlds_2 a0 a1 v0 false) else K .normal (SiEqualWorlds_2 a0 a1 v0 false) else K .normal (SiEqualWorlds_2 a0 a1 v0 false) else K .normal (SiEqualWorlds_2 a0 a1 v0 false) else K .normal (SiEqualWorlds_2 a0 a1 v0 false) else K .normal (SiEqualWorlds_2 a0 a1 v0 false) := by kernel_rfl
theorem kiEqualWorlds_1 (k : Nat) (a0 : TWorld) (a1 : TWorld) (v0 : Bool) : KiEqualWorlds_1 k a0 a1 v0 = if ((a0.1.1 == a1.1.1) == true) = true then if ((a0.1.2.2.2.1 == a1.1.2.2.2.1) == true) = true then if ((a0.1.2.2.2.2.1 == a1.1.2.2.2.2.1) == true) = true then if ((a0.1.2.2.2.2.2.1 == a1.1.2.2.2.2.2.1) == true) = true then if ((a0.1.2.2.2.2.2.2.1 == a1.1.2.2.2.2.2.2.1) == true) = true then if ((a0.1.2.2.2.2.2.2.2.1 == a1.1.2.2.2.2.2.2.2.1) == true) = true then if ((a0.1.2.2.2.2.2.2.2.2.2 == a1.1.2.2.2.2.2.2.2.2.2) == true) = true then (FgEqual_Sat k a0.1.2.1 a1.1.2.1).bind fun p1 => if (p1 == true) = true then (FgEqual_Site k a0.1.2.2.1 a1.1.2.2.1).bind fun p2 => if (p2 == true) = true then (FgEqual_Zone k a0.1.2.2.2.2.2.2.2.2.1 a1.1.2.2.2.2.2.2.2.2.1).bind fun p3 => KiEqualWorlds_2 k a0 a1 v0 p3 else KiEqualWorlds_2 k a0 a1 v0 false else KiEqualWorlds_2 k a0 a1 v0 false else KiEqualWorlds_2 k a0 a1 v0 false else KiEqualWorlds_2 k a0 a1 v0 false else KiEqualWorlds_2 k a0 a1 v0 false else KiEqualWorlds_2 k a0 a1 v0 false else KiEqualWorlds_2 k a0 a1 v0 false else KiEqualWorlds_2 k a0 a1 v0 false else KiEqualWorlds_2 k a0 a1 v0 false := by
  unfold KiEqualWorlds_1
  rw [restK_step (by kernel_rfl), riEqualWorlds_2]
  simp only [seqK_normal]
  kernel_rfl
theorem riEqualWorlds_1 (k : Nat) (a0 : TWorld) (a1 : TWorld) (v0 : Bool) (K : Ex → St → Option (Bool)) : run E (den E k) (lv 8) k (headOf1 (restOf 1 (bodyOf Tryz.f8))) (SiEqualWorlds_0 a0 a1 v0) K = K .normal (SiEqualWorlds_1 a0 a1 v0) := by kernel_rfl
theorem kiEqualWorlds_0 (k : Nat) (a0 : TWorld) (a1 : TWorld) (v0 : Bool) : KiEqualWorlds_0 k a0 a1 v0 = KiEqualWorlds_1 k a0 a1 v0 := by
  unfold KiEqualWorlds_0
  rw [restK_step (by kernel_rfl), riEqualWorlds_1]
  simp only [seqK_normal]
  kernel_rfl
theorem riEqualWorlds_0 (k : Nat) (a0 : TWorld) (a1 : TWorld) (K : Ex → St → Option (Bool)) : run E (den E k) (lv 8) k (headOf1 (restOf 0 (bodyOf Tryz.f8))) (SiEqualWorlds_i a0 a1) K = K .normal (SiEqualWorlds_0 a0 a1 false) := by kernel_rfl
theorem diEqualWorlds (k : Nat) (a0 : TWorld) (a1 : TWorld) : den E (k + 1) 8 [.agg (avs sWorld a0), .agg (avs sWorld a1)] = run E (den E k) (lv 8) k (bodyOf Tryz.f8) (SiEqualWorlds_i a0 a1) (finish E (E.rs 8) Tryz.f8) := den_step (ys := [.agg (avs sWorld a0), .agg (avs sWorld a1)]) (os := []) (n := 0) (by kernel_rfl) (by kernel_rfl) (by kernel_rfl) (of_decide_eq_true (by kernel_rfl)) (by kernel_rfl) (by kernel_rfl) (by kernel_rfl) (by kernel_rfl)
theorem niEqualWorlds (k : Nat) (a0 : TWorld) (a1 : TWorld) : FiEqualWorlds (k + 1) a0 a1 = restK E (den E k) (lv 8) k (bodyOf Tryz.f8) NiEqualWorlds 0 (SiEqualWorlds_i a0 a1) := diEqualWorlds k a0 a1
theorem eiEqualWorlds (k : Nat) (a0 : TWorld) (a1 : TWorld) : FiEqualWorlds (k + 1) a0 a1 = KiEqualWorlds_0 k a0 a1 false := by
  rw [niEqualWorlds]
  rw [restK_step (by kernel_rfl), riEqualWorlds_0]
  simp only [seqK_normal]
  kernel_rfl
noncomputable def FleqBattery (k : Nat) (a0 : I6) (a1 : I6) : Option (Bool) := den E k 95 [.agg (avs sI6 a0), .agg (avs sI6 a1)]
theorem eleqBattery (k : Nat) (a0 : I6) (a1 : I6) : FleqBattery (k + 1) a0 a1 = if (a0.1 != a1.1) = true then some false else if (a0.2.1 != a1.2.1) = true then some false else if (a0.2.2.1 != a1.2.2.1) = true then some false else if (a0.2.2.2.1 != a1.2.2.2.1) = true then some false else if (a0.2.2.2.2.1 != a1.2.2.2.2.1) = true then some false else if (a0.2.2.2.2.2 != a1.2.2.2.2.2) = true then some false else some true := by kernel_rfl
noncomputable def FleqBatteryS (k : Nat) (a0 : List I6) (a1 : List I6) : Option (Bool) := den E k 61 [.c (.l 126 sI6 a0), .c (.l 126 sI6 a1)]
abbrev CleqBatteryS_0 : Type := (List I6) × (List I6)
abbrev VleqBatteryS_0 : Type := Int
def StleqBatteryS_0 (c0 : CleqBatteryS_0) (v0 : VleqBatteryS_0) : St := ⟨27, 0, [(0, .c (.l 126 sI6 c0.1)), (1, .c (.l 126 sI6 c0.2)), (5, cI v0)], []⟩
noncomputable def BleqBatteryS_0 {R : Type} (k : Nat) (X0 : VleqBatteryS_0 → I6 → I6 → Bool → Option R) (X1 : VleqBatteryS_0 → Option R) (c0 : CleqBatteryS_0) (rec : VleqBatteryS_0 → Option R) (v0 : VleqBatteryS_0) : Option R := if (decide (v0 < (c0.1.length : Int))) = true then if 0 ≤ v0 then ix c0.1 v0.toNat fun x1 => if 0 ≤ v0 then ix c0.2 v0.toNat fun x2 => (FleqBattery k x1 x2).bind fun p3 => if (!p3) = true then X0 v0 x1 x2 p3 else rec (IntKind.i64.wrap (v0 + 1)) else none else none else X1 v0
noncomputable def LleqBatteryS_0 {R : Type} (k : Nat) (X0 : VleqBatteryS_0 → I6 → I6 → Bool → Option R) (X1 : VleqBatteryS_0 → Option R) (c : CleqBatteryS_0) : Nat → VleqBatteryS_0 → Option R
  | 0, _ => none
  | n + 1, v => BleqBatteryS_0 k X0 X1 c (LleqBatteryS_0 k X0 X1 c n) v
def YleqBatteryS_0_0 {R : Type} (K : Ex → St → Option R) (c0 : CleqBatteryS_0) (v0 : VleqBatteryS_0) (x1 : I6) (x2 : I6) (p3 : Bool) : Option R := K .ret ⟨27, 0, [(0, .c (.l 126 sI6 c0.1)), (1, .c (.l 126 sI6 c0.2)), (4, cB false), (5, cI v0), (11, cI v0), (12, .c (.l 126 sI6 c0.1)), (13, cI (c0.1.length : Int)), (14, cB (decide (v0 < (c0.1.length : Int)))), (17, .c (.l 126 sI6 c0.1)), (18, cI v0), (19, .c (.at_ (avs sI6 x1))), (20, .agg (avs sI6 x1)), (21, .c (.l 126 sI6 c0.2)), (22, cI v0), (23, .c (.at_ (avs sI6 x2))), (24, .agg (avs sI6 x2)), (25, cB p3), (26, cB (!p3))], []⟩
def YleqBatteryS_0_1 {R : Type} (K : Ex → St → Option R) (c0 : CleqBatteryS_0) (v0 : VleqBatteryS_0) : Option R := K (.exit 0) ⟨27, 0, [(0, .c (.l 126 sI6 c0.1)), (1, .c (.l 126 sI6 c0.2)), (5, cI v0), (11, cI v0), (12, .c (.l 126 sI6 c0.1)), (13, cI (c0.1.length : Int)), (14, cB (decide (v0 < (c0.1.length : Int))))], []⟩
theorem lleqBatteryS_0 {R : Type} (k : Nat) (K : Ex → St → Option R) (c0 : CleqBatteryS_0) : ∀ (n : Nat) (v : VleqBatteryS_0), loopRun [0, 0, 1, 5] (run E (den E k) (lv 61) k (nthLoop Tryz.f61 0)) n (StleqBatteryS_0 c0 v) K = LleqBatteryS_0 k (YleqBatteryS_0_0 K c0) (YleqBatteryS_0_1 K c0) c0 n v := loop_law (B := BleqBatteryS_0 k (YleqBatteryS_0_0 K c0) (YleqBatteryS_0_1 K c0) c0) (fun _ => rfl) (fun n v => by kernel_rfl) (fun _ => rfl) (fun _ _ => rfl)
theorem mleqBatteryS_0 (k : Nat) (a0 : List I6) (a1 : List I6) : FleqBatteryS (k + 1) a0 a1 = if ((a0.length : Int) != (a1.length : Int)) = true then some false else loopRun (R := Bool) [0, 0, 1, 5] (run E (den E k) (lv 61) k (nthLoop Tryz.f61 0)) k (StleqBatteryS_0 (a0, a1) 0) (kontAt E (den E k) (lv 61) k (bodyOf Tryz.f61) 0 [] (finish E (rs 61) Tryz.f61 : Ex → St → Option (Bool))) := by kernel_rfl
theorem eleqBatteryS (k : Nat) (a0 : List I6) (a1 : List I6) : FleqBatteryS (k + 1) a0 a1 = if ((a0.length : Int) != (a1.length : Int)) = true then some false else LleqBatteryS_0 k (fun (v0 : Int) (x1 : I6) (x2 : I6) (p3 : Bool) => some false) (fun (v0 : Int) => some true) (a0, a1) k 0 := by
  rw [mleqBatteryS_0]
  simp only [lleqBatteryS_0]
  kernel_rfl
noncomputable def FleqFault (k : Nat) (a0 : I4) (a1 : I4) : Option (Bool) := den E k 99 [.agg (avs sI4 a0), .agg (avs sI4 a1)]
theorem eleqFault (k : Nat) (a0 : I4) (a1 : I4) : FleqFault (k + 1) a0 a1 = if (a0.1 != a1.1) = true then some false else if (a0.2.1 != a1.2.1) = true then some false else if (a0.2.2.1 != a1.2.2.1) = true then some false else if (a0.2.2.2 != a1.2.2.2) = true then some false else some true := by kernel_rfl
noncomputable def FleqFaultS (k : Nat) (a0 : List I4) (a1 : List I4) : Option (Bool) := den E k 65 [.c (.l 136 sI4 a0), .c (.l 136 sI4 a1)]
abbrev CleqFaultS_0 : Type := (List I4) × (List I4)
abbrev VleqFaultS_0 : Type := Int
def StleqFaultS_0 (c0 : CleqFaultS_0) (v0 : VleqFaultS_0) : St := ⟨27, 0, [(0, .c (.l 136 sI4 c0.1)), (1, .c (.l 136 sI4 c0.2)), (5, cI v0)], []⟩
noncomputable def BleqFaultS_0 {R : Type} (k : Nat) (X0 : VleqFaultS_0 → I4 → I4 → Bool → Option R) (X1 : VleqFaultS_0 → Option R) (c0 : CleqFaultS_0) (rec : VleqFaultS_0 → Option R) (v0 : VleqFaultS_0) : Option R := if (decide (v0 < (c0.1.length : Int))) = true then if 0 ≤ v0 then ix c0.1 v0.toNat fun x1 => if 0 ≤ v0 then ix c0.2 v0.toNat fun x2 => (FleqFault k x1 x2).bind fun p3 => if (!p3) = true then X0 v0 x1 x2 p3 else rec (IntKind.i64.wrap (v0 + 1)) else none else none else X1 v0
noncomputable def LleqFaultS_0 {R : Type} (k : Nat) (X0 : VleqFaultS_0 → I4 → I4 → Bool → Option R) (X1 : VleqFaultS_0 → Option R) (c : CleqFaultS_0) : Nat → VleqFaultS_0 → Option R
  | 0, _ => none
  | n + 1, v => BleqFaultS_0 k X0 X1 c (LleqFaultS_0 k X0 X1 c n) v
def YleqFaultS_0_0 {R : Type} (K : Ex → St → Option R) (c0 : CleqFaultS_0) (v0 : VleqFaultS_0) (x1 : I4) (x2 : I4) (p3 : Bool) : Option R := K .ret ⟨27, 0, [(0, .c (.l 136 sI4 c0.1)), (1, .c (.l 136 sI4 c0.2)), (4, cB false), (5, cI v0), (11, cI v0), (12, .c (.l 136 sI4 c0.1)), (13, cI (c0.1.length : Int)), (14, cB (decide (v0 < (c0.1.length : Int)))), (17, .c (.l 136 sI4 c0.1)), (18, cI v0), (19, .c (.at_ (avs sI4 x1))), (20, .agg (avs sI4 x1)), (21, .c (.l 136 sI4 c0.2)), (22, cI v0), (23, .c (.at_ (avs sI4 x2))), (24, .agg (avs sI4 x2)), (25, cB p3), (26, cB (!p3))], []⟩
def YleqFaultS_0_1 {R : Type} (K : Ex → St → Option R) (c0 : CleqFaultS_0) (v0 : VleqFaultS_0) : Option R := K (.exit 0) ⟨27, 0, [(0, .c (.l 136 sI4 c0.1)), (1, .c (.l 136 sI4 c0.2)), (5, cI v0), (11, cI v0), (12, .c (.l 136 sI4 c0.1)), (13, cI (c0.1.length : Int)), (14, cB (decide (v0 < (c0.1.length : Int))))], []⟩
theorem lleqFaultS_0 {R : Type} (k : Nat) (K : Ex → St → Option R) (c0 : CleqFaultS_0) : ∀ (n : Nat) (v : VleqFaultS_0), loopRun [0, 0, 1, 5] (run E (den E k) (lv 65) k (nthLoop Tryz.f65 0)) n (StleqFaultS_0 c0 v) K = LleqFaultS_0 k (YleqFaultS_0_0 K c0) (YleqFaultS_0_1 K c0) c0 n v := loop_law (B := BleqFaultS_0 k (YleqFaultS_0_0 K c0) (YleqFaultS_0_1 K c0) c0) (fun _ => rfl) (fun n v => by kernel_rfl) (fun _ => rfl) (fun _ _ => rfl)
theorem mleqFaultS_0 (k : Nat) (a0 : List I4) (a1 : List I4) : FleqFaultS (k + 1) a0 a1 = if ((a0.length : Int) != (a1.length : Int)) = true then some false else loopRun (R := Bool) [0, 0, 1, 5] (run E (den E k) (lv 65) k (nthLoop Tryz.f65 0)) k (StleqFaultS_0 (a0, a1) 0) (kontAt E (den E k) (lv 65) k (bodyOf Tryz.f65) 0 [] (finish E (rs 65) Tryz.f65 : Ex → St → Option (Bool))) := by kernel_rfl
theorem eleqFaultS (k : Nat) (a0 : List I4) (a1 : List I4) : FleqFaultS (k + 1) a0 a1 = if ((a0.length : Int) != (a1.length : Int)) = true then some false else LleqFaultS_0 k (fun (v0 : Int) (x1 : I4) (x2 : I4) (p3 : Bool) => some false) (fun (v0 : Int) => some true) (a0, a1) k 0 := by
  rw [mleqFaultS_0]
  simp only [lleqFaultS_0]
  kernel_rfl
noncomputable def FleqFlow (k : Nat) (a0 : I4) (a1 : I4) : Option (Bool) := den E k 97 [.agg (avs sI4 a0), .agg (avs sI4 a1)]
theorem eleqFlow (k : Nat) (a0 : I4) (a1 : I4) : FleqFlow (k + 1) a0 a1 = if (a0.1 != a1.1) = true then some false else if (a0.2.1 != a1.2.1) = true then some false else if (a0.2.2.1 != a1.2.2.1) = true then some false else if (a0.2.2.2 != a1.2.2.2) = true then some false else some true := by kernel_rfl
noncomputable def FleqFlowS (k : Nat) (a0 : List I4) (a1 : List I4) : Option (Bool) := den E k 63 [.c (.l 129 sI4 a0), .c (.l 129 sI4 a1)]
abbrev CleqFlowS_0 : Type := (List I4) × (List I4)
abbrev VleqFlowS_0 : Type := Int
def StleqFlowS_0 (c0 : CleqFlowS_0) (v0 : VleqFlowS_0) : St := ⟨27, 0, [(0, .c (.l 129 sI4 c0.1)), (1, .c (.l 129 sI4 c0.2)), (5, cI v0)], []⟩
noncomputable def BleqFlowS_0 {R : Type} (k : Nat) (X0 : VleqFlowS_0 → I4 → I4 → Bool → Option R) (X1 : VleqFlowS_0 → Option R) (c0 : CleqFlowS_0) (rec : VleqFlowS_0 → Option R) (v0 : VleqFlowS_0) : Option R := if (decide (v0 < (c0.1.length : Int))) = true then if 0 ≤ v0 then ix c0.1 v0.toNat fun x1 => if 0 ≤ v0 then ix c0.2 v0.toNat fun x2 => (FleqFlow k x1 x2).bind fun p3 => if (!p3) = true then X0 v0 x1 x2 p3 else rec (IntKind.i64.wrap (v0 + 1)) else none else none else X1 v0
noncomputable def LleqFlowS_0 {R : Type} (k : Nat) (X0 : VleqFlowS_0 → I4 → I4 → Bool → Option R) (X1 : VleqFlowS_0 → Option R) (c : CleqFlowS_0) : Nat → VleqFlowS_0 → Option R
  | 0, _ => none
  | n + 1, v => BleqFlowS_0 k X0 X1 c (LleqFlowS_0 k X0 X1 c n) v
def YleqFlowS_0_0 {R : Type} (K : Ex → St → Option R) (c0 : CleqFlowS_0) (v0 : VleqFlowS_0) (x1 : I4) (x2 : I4) (p3 : Bool) : Option R := K .ret ⟨27, 0, [(0, .c (.l 129 sI4 c0.1)), (1, .c (.l 129 sI4 c0.2)), (4, cB false), (5, cI v0), (11, cI v0), (12, .c (.l 129 sI4 c0.1)), (13, cI (c0.1.length : Int)), (14, cB (decide (v0 < (c0.1.length : Int)))), (17, .c (.l 129 sI4 c0.1)), (18, cI v0), (19, .c (.at_ (avs sI4 x1))), (20, .agg (avs sI4 x1)), (21, .c (.l 129 sI4 c0.2)), (22, cI v0), (23, .c (.at_ (avs sI4 x2))), (24, .agg (avs sI4 x2)), (25, cB p3), (26, cB (!p3))], []⟩
def YleqFlowS_0_1 {R : Type} (K : Ex → St → Option R) (c0 : CleqFlowS_0) (v0 : VleqFlowS_0) : Option R := K (.exit 0) ⟨27, 0, [(0, .c (.l 129 sI4 c0.1)), (1, .c (.l 129 sI4 c0.2)), (5, cI v0), (11, cI v0), (12, .c (.l 129 sI4 c0.1)), (13, cI (c0.1.length : Int)), (14, cB (decide (v0 < (c0.1.length : Int))))], []⟩
theorem lleqFlowS_0 {R : Type} (k : Nat) (K : Ex → St → Option R) (c0 : CleqFlowS_0) : ∀ (n : Nat) (v : VleqFlowS_0), loopRun [0, 0, 1, 5] (run E (den E k) (lv 63) k (nthLoop Tryz.f63 0)) n (StleqFlowS_0 c0 v) K = LleqFlowS_0 k (YleqFlowS_0_0 K c0) (YleqFlowS_0_1 K c0) c0 n v := loop_law (B := BleqFlowS_0 k (YleqFlowS_0_0 K c0) (YleqFlowS_0_1 K c0) c0) (fun _ => rfl) (fun n v => by kernel_rfl) (fun _ => rfl) (fun _ _ => rfl)
theorem mleqFlowS_0 (k : Nat) (a0 : List I4) (a1 : List I4) : FleqFlowS (k + 1) a0 a1 = if ((a0.length : Int) != (a1.length : Int)) = true then some false else loopRun (R := Bool) [0, 0, 1, 5] (run E (den E k) (lv 63) k (nthLoop Tryz.f63 0)) k (StleqFlowS_0 (a0, a1) 0) (kontAt E (den E k) (lv 63) k (bodyOf Tryz.f63) 0 [] (finish E (rs 63) Tryz.f63 : Ex → St → Option (Bool))) := by kernel_rfl
theorem eleqFlowS (k : Nat) (a0 : List I4) (a1 : List I4) : FleqFlowS (k + 1) a0 a1 = if ((a0.length : Int) != (a1.length : Int)) = true then some false else LleqFlowS_0 k (fun (v0 : Int) (x1 : I4) (x2 : I4) (p3 : Bool) => some false) (fun (v0 : Int) => some true) (a0, a1) k 0 := by
  rw [mleqFlowS_0]
  simp only [lleqFlowS_0]
  kernel_rfl
noncomputable def FleqIntS (k : Nat) (a0 : List Int) (a1 : List Int) : Option (Bool) := den E k 60 [.c (.l 3 (.i .i64) a0), .c (.l 3 (.i .i64) a1)]
abbrev CleqIntS_0 : Type := (List Int) × (List Int)
abbrev VleqIntS_0 : Type := Int
def StleqIntS_0 (c0 : CleqIntS_0) (v0 : VleqIntS_0) : St := ⟨26, 0, [(0, .c (.l 3 (.i .i64) c0.1)), (1, .c (.l 3 (.i .i64) c0.2)), (5, cI v0)], []⟩
noncomputable def BleqIntS_0 {R : Type} (k : Nat) (X0 : VleqIntS_0 → Int → Int → Option R) (X1 : VleqIntS_0 → Option R) (c0 : CleqIntS_0) (rec : VleqIntS_0 → Option R) (v0 : VleqIntS_0) : Option R := if (decide (v0 < (c0.1.length : Int))) = true then if 0 ≤ v0 then ix c0.1 v0.toNat fun x1 => if 0 ≤ v0 then ix c0.2 v0.toNat fun x2 => if (x1 != x2) = true then X0 v0 x1 x2 else rec (IntKind.i64.wrap (v0 + 1)) else none else none else X1 v0
noncomputable def LleqIntS_0 {R : Type} (k : Nat) (X0 : VleqIntS_0 → Int → Int → Option R) (X1 : VleqIntS_0 → Option R) (c : CleqIntS_0) : Nat → VleqIntS_0 → Option R
  | 0, _ => none
  | n + 1, v => BleqIntS_0 k X0 X1 c (LleqIntS_0 k X0 X1 c n) v
def YleqIntS_0_0 {R : Type} (K : Ex → St → Option R) (c0 : CleqIntS_0) (v0 : VleqIntS_0) (x1 : Int) (x2 : Int) : Option R := K .ret ⟨26, 0, [(0, .c (.l 3 (.i .i64) c0.1)), (1, .c (.l 3 (.i .i64) c0.2)), (4, cB false), (5, cI v0), (11, cI v0), (12, .c (.l 3 (.i .i64) c0.1)), (13, cI (c0.1.length : Int)), (14, cB (decide (v0 < (c0.1.length : Int)))), (17, .c (.l 3 (.i .i64) c0.1)), (18, cI v0), (19, .c (.at_ [vI x1])), (20, cI x1), (21, .c (.l 3 (.i .i64) c0.2)), (22, cI v0), (23, .c (.at_ [vI x2])), (24, cI x2), (25, cB (x1 != x2))], []⟩
def YleqIntS_0_1 {R : Type} (K : Ex → St → Option R) (c0 : CleqIntS_0) (v0 : VleqIntS_0) : Option R := K (.exit 0) ⟨26, 0, [(0, .c (.l 3 (.i .i64) c0.1)), (1, .c (.l 3 (.i .i64) c0.2)), (5, cI v0), (11, cI v0), (12, .c (.l 3 (.i .i64) c0.1)), (13, cI (c0.1.length : Int)), (14, cB (decide (v0 < (c0.1.length : Int))))], []⟩
theorem lleqIntS_0 {R : Type} (k : Nat) (K : Ex → St → Option R) (c0 : CleqIntS_0) : ∀ (n : Nat) (v : VleqIntS_0), loopRun [0, 0, 1, 5] (run E (den E k) (lv 60) k (nthLoop Tryz.f60 0)) n (StleqIntS_0 c0 v) K = LleqIntS_0 k (YleqIntS_0_0 K c0) (YleqIntS_0_1 K c0) c0 n v := loop_law (B := BleqIntS_0 k (YleqIntS_0_0 K c0) (YleqIntS_0_1 K c0) c0) (fun _ => rfl) (fun n v => by kernel_rfl) (fun _ => rfl) (fun _ _ => rfl)
theorem mleqIntS_0 (k : Nat) (a0 : List Int) (a1 : List Int) : FleqIntS (k + 1) a0 a1 = if ((a0.length : Int) != (a1.length : Int)) = true then some false else loopRun (R := Bool) [0, 0, 1, 5] (run E (den E k) (lv 60) k (nthLoop Tryz.f60 0)) k (StleqIntS_0 (a0, a1) 0) (kontAt E (den E k) (lv 60) k (bodyOf Tryz.f60) 0 [] (finish E (rs 60) Tryz.f60 : Ex → St → Option (Bool))) := by kernel_rfl
theorem eleqIntS (k : Nat) (a0 : List Int) (a1 : List Int) : FleqIntS (k + 1) a0 a1 = if ((a0.length : Int) != (a1.length : Int)) = true then some false else LleqIntS_0 k (fun (v0 : Int) (x1 : Int) (x2 : Int) => some false) (fun (v0 : Int) => some true) (a0, a1) k 0 := by
  rw [mleqIntS_0]
  simp only [lleqIntS_0]
  kernel_rfl
noncomputable def FleqLaw (k : Nat) (a0 : List Int) (a1 : List Int) : Option (Bool) := den E k 59 [.agg [.l 3 (.i .i64) a0], .agg [.l 3 (.i .i64) a1]]
theorem eleqLaw (k : Nat) (a0 : List Int) (a1 : List Int) : FleqLaw (k + 1) a0 a1 = (FleqIntS k a0 a1).bind fun p1 => if (!p1) = true then some false else some true := by kernel_rfl
noncomputable def FleqPacket (k : Nat) (a0 : I6) (a1 : I6) : Option (Bool) := den E k 100 [.agg (avs sI6 a0), .agg (avs sI6 a1)]
theorem eleqPacket (k : Nat) (a0 : I6) (a1 : I6) : FleqPacket (k + 1) a0 a1 = if (a0.1 != a1.1) = true then some false else if (a0.2.1 != a1.2.1) = true then some false else if (a0.2.2.1 != a1.2.2.1) = true then some false else if (a0.2.2.2.1 != a1.2.2.2.1) = true then some false else if (a0.2.2.2.2.1 != a1.2.2.2.2.1) = true then some false else if (a0.2.2.2.2.2 != a1.2.2.2.2.2) = true then some false else some true := by kernel_rfl
noncomputable def FleqPacketS (k : Nat) (a0 : List I6) (a1 : List I6) : Option (Bool) := den E k 66 [.c (.l 122 sI6 a0), .c (.l 122 sI6 a1)]
abbrev CleqPacketS_0 : Type := (List I6) × (List I6)
abbrev VleqPacketS_0 : Type := Int
def StleqPacketS_0 (c0 : CleqPacketS_0) (v0 : VleqPacketS_0) : St := ⟨27, 0, [(0, .c (.l 122 sI6 c0.1)), (1, .c (.l 122 sI6 c0.2)), (5, cI v0)], []⟩
noncomputable def BleqPacketS_0 {R : Type} (k : Nat) (X0 : VleqPacketS_0 → I6 → I6 → Bool → Option R) (X1 : VleqPacketS_0 → Option R) (c0 : CleqPacketS_0) (rec : VleqPacketS_0 → Option R) (v0 : VleqPacketS_0) : Option R := if (decide (v0 < (c0.1.length : Int))) = true then if 0 ≤ v0 then ix c0.1 v0.toNat fun x1 => if 0 ≤ v0 then ix c0.2 v0.toNat fun x2 => (FleqPacket k x1 x2).bind fun p3 => if (!p3) = true then X0 v0 x1 x2 p3 else rec (IntKind.i64.wrap (v0 + 1)) else none else none else X1 v0
noncomputable def LleqPacketS_0 {R : Type} (k : Nat) (X0 : VleqPacketS_0 → I6 → I6 → Bool → Option R) (X1 : VleqPacketS_0 → Option R) (c : CleqPacketS_0) : Nat → VleqPacketS_0 → Option R
  | 0, _ => none
  | n + 1, v => BleqPacketS_0 k X0 X1 c (LleqPacketS_0 k X0 X1 c n) v
def YleqPacketS_0_0 {R : Type} (K : Ex → St → Option R) (c0 : CleqPacketS_0) (v0 : VleqPacketS_0) (x1 : I6) (x2 : I6) (p3 : Bool) : Option R := K .ret ⟨27, 0, [(0, .c (.l 122 sI6 c0.1)), (1, .c (.l 122 sI6 c0.2)), (4, cB false), (5, cI v0), (11, cI v0), (12, .c (.l 122 sI6 c0.1)), (13, cI (c0.1.length : Int)), (14, cB (decide (v0 < (c0.1.length : Int)))), (17, .c (.l 122 sI6 c0.1)), (18, cI v0), (19, .c (.at_ (avs sI6 x1))), (20, .agg (avs sI6 x1)), (21, .c (.l 122 sI6 c0.2)), (22, cI v0), (23, .c (.at_ (avs sI6 x2))), (24, .agg (avs sI6 x2)), (25, cB p3), (26, cB (!p3))], []⟩
def YleqPacketS_0_1 {R : Type} (K : Ex → St → Option R) (c0 : CleqPacketS_0) (v0 : VleqPacketS_0) : Option R := K (.exit 0) ⟨27, 0, [(0, .c (.l 122 sI6 c0.1)), (1, .c (.l 122 sI6 c0.2)), (5, cI v0), (11, cI v0), (12, .c (.l 122 sI6 c0.1)), (13, cI (c0.1.length : Int)), (14, cB (decide (v0 < (c0.1.length : Int))))], []⟩
theorem lleqPacketS_0 {R : Type} (k : Nat) (K : Ex → St → Option R) (c0 : CleqPacketS_0) : ∀ (n : Nat) (v : VleqPacketS_0), loopRun [0, 0, 1, 5] (run E (den E k) (lv 66) k (nthLoop Tryz.f66 0)) n (StleqPacketS_0 c0 v) K = LleqPacketS_0 k (YleqPacketS_0_0 K c0) (YleqPacketS_0_1 K c0) c0 n v := loop_law (B := BleqPacketS_0 k (YleqPacketS_0_0 K c0) (YleqPacketS_0_1 K c0) c0) (fun _ => rfl) (fun n v => by kernel_rfl) (fun _ => rfl) (fun _ _ => rfl)
theorem mleqPacketS_0 (k : Nat) (a0 : List I6) (a1 : List I6) : FleqPacketS (k + 1) a0 a1 = if ((a0.length : Int) != (a1.length : Int)) = true then some false else loopRun (R := Bool) [0, 0, 1, 5] (run E (den E k) (lv 66) k (nthLoop Tryz.f66 0)) k (StleqPacketS_0 (a0, a1) 0) (kontAt E (den E k) (lv 66) k (bodyOf Tryz.f66) 0 [] (finish E (rs 66) Tryz.f66 : Ex → St → Option (Bool))) := by kernel_rfl
theorem eleqPacketS (k : Nat) (a0 : List I6) (a1 : List I6) : FleqPacketS (k + 1) a0 a1 = if ((a0.length : Int) != (a1.length : Int)) = true then some false else LleqPacketS_0 k (fun (v0 : Int) (x1 : I6) (x2 : I6) (p3 : Bool) => some false) (fun (v0 : Int) => some true) (a0, a1) k 0 := by
  rw [mleqPacketS_0]
  simp only [lleqPacketS_0]
  kernel_rfl
noncomputable def FleqLink (k : Nat) (a0 : I2) (a1 : I2) : Option (Bool) := den E k 143 [.agg [vI a0.1, vI a0.2], .agg [vI a1.1, vI a1.2]]
theorem eleqLink (k : Nat) (a0 : I2) (a1 : I2) : FleqLink (k + 1) a0 a1 = if (a0.1 != a1.1) = true then some false else if (a0.2 != a1.2) = true then some false else some true := by kernel_rfl
noncomputable def FleqLinkS (k : Nat) (a0 : List I2) (a1 : List I2) : Option (Bool) := den E k 129 [.c (.l 112 sI2 a0), .c (.l 112 sI2 a1)]
abbrev CleqLinkS_0 : Type := (List I2) × (List I2)
abbrev VleqLinkS_0 : Type := Int
def StleqLinkS_0 (c0 : CleqLinkS_0) (v0 : VleqLinkS_0) : St := ⟨27, 0, [(0, .c (.l 112 sI2 c0.1)), (1, .c (.l 112 sI2 c0.2)), (5, cI v0)], []⟩
noncomputable def BleqLinkS_0 {R : Type} (k : Nat) (X0 : VleqLinkS_0 → I2 → I2 → Bool → Option R) (X1 : VleqLinkS_0 → Option R) (c0 : CleqLinkS_0) (rec : VleqLinkS_0 → Option R) (v0 : VleqLinkS_0) : Option R := if (decide (v0 < (c0.1.length : Int))) = true then if 0 ≤ v0 then ix c0.1 v0.toNat fun x1 => if 0 ≤ v0 then ix c0.2 v0.toNat fun x2 => (FleqLink k x1 x2).bind fun p3 => if (!p3) = true then X0 v0 x1 x2 p3 else rec (IntKind.i64.wrap (v0 + 1)) else none else none else X1 v0
noncomputable def LleqLinkS_0 {R : Type} (k : Nat) (X0 : VleqLinkS_0 → I2 → I2 → Bool → Option R) (X1 : VleqLinkS_0 → Option R) (c : CleqLinkS_0) : Nat → VleqLinkS_0 → Option R
  | 0, _ => none
  | n + 1, v => BleqLinkS_0 k X0 X1 c (LleqLinkS_0 k X0 X1 c n) v
def YleqLinkS_0_0 {R : Type} (K : Ex → St → Option R) (c0 : CleqLinkS_0) (v0 : VleqLinkS_0) (x1 : I2) (x2 : I2) (p3 : Bool) : Option R := K .ret ⟨27, 0, [(0, .c (.l 112 sI2 c0.1)), (1, .c (.l 112 sI2 c0.2)), (4, cB false), (5, cI v0), (11, cI v0), (12, .c (.l 112 sI2 c0.1)), (13, cI (c0.1.length : Int)), (14, cB (decide (v0 < (c0.1.length : Int)))), (17, .c (.l 112 sI2 c0.1)), (18, cI v0), (19, .c (.at_ [vI x1.1, vI x1.2])), (20, .agg [vI x1.1, vI x1.2]), (21, .c (.l 112 sI2 c0.2)), (22, cI v0), (23, .c (.at_ [vI x2.1, vI x2.2])), (24, .agg [vI x2.1, vI x2.2]), (25, cB p3), (26, cB (!p3))], []⟩
def YleqLinkS_0_1 {R : Type} (K : Ex → St → Option R) (c0 : CleqLinkS_0) (v0 : VleqLinkS_0) : Option R := K (.exit 0) ⟨27, 0, [(0, .c (.l 112 sI2 c0.1)), (1, .c (.l 112 sI2 c0.2)), (5, cI v0), (11, cI v0), (12, .c (.l 112 sI2 c0.1)), (13, cI (c0.1.length : Int)), (14, cB (decide (v0 < (c0.1.length : Int))))], []⟩
theorem lleqLinkS_0 {R : Type} (k : Nat) (K : Ex → St → Option R) (c0 : CleqLinkS_0) : ∀ (n : Nat) (v : VleqLinkS_0), loopRun [0, 0, 1, 5] (run E (den E k) (lv 129) k (nthLoop Tryz.f129 0)) n (StleqLinkS_0 c0 v) K = LleqLinkS_0 k (YleqLinkS_0_0 K c0) (YleqLinkS_0_1 K c0) c0 n v := loop_law (B := BleqLinkS_0 k (YleqLinkS_0_0 K c0) (YleqLinkS_0_1 K c0) c0) (fun _ => rfl) (fun n v => by kernel_rfl) (fun _ => rfl) (fun _ _ => rfl)
theorem mleqLinkS_0 (k : Nat) (a0 : List I2) (a1 : List I2) : FleqLinkS (k + 1) a0 a1 = if ((a0.length : Int) != (a1.length : Int)) = true then some false else loopRun (R := Bool) [0, 0, 1, 5] (run E (den E k) (lv 129) k (nthLoop Tryz.f129 0)) k (StleqLinkS_0 (a0, a1) 0) (kontAt E (den E k) (lv 129) k (bodyOf Tryz.f129) 0 [] (finish E (rs 129) Tryz.f129 : Ex → St → Option (Bool))) := by kernel_rfl
theorem eleqLinkS (k : Nat) (a0 : List I2) (a1 : List I2) : FleqLinkS (k + 1) a0 a1 = if ((a0.length : Int) != (a1.length : Int)) = true then some false else LleqLinkS_0 k (fun (v0 : Int) (x1 : I2) (x2 : I2) (p3 : Bool) => some false) (fun (v0 : Int) => some true) (a0, a1) k 0 := by
  rw [mleqLinkS_0]
  simp only [lleqLinkS_0]
  kernel_rfl
noncomputable def FleqSpan (k : Nat) (a0 : I2) (a1 : I2) : Option (Bool) := den E k 128 [.agg [vI a0.1, vI a0.2], .agg [vI a1.1, vI a1.2]]
theorem eleqSpan (k : Nat) (a0 : I2) (a1 : I2) : FleqSpan (k + 1) a0 a1 = if (a0.1 != a1.1) = true then some false else if (a0.2 != a1.2) = true then some false else some true := by kernel_rfl
noncomputable def FleqTable (k : Nat) (a0 : Int × (List Int) × List Int) (a1 : Int × (List Int) × List Int) : Option (Bool) := den E k 144 [.agg (avs sTable a0), .agg (avs sTable a1)]
theorem eleqTable (k : Nat) (a0 : Int × (List Int) × List Int) (a1 : Int × (List Int) × List Int) : FleqTable (k + 1) a0 a1 = if (a0.1 != a1.1) = true then some false else (FleqIntS k a0.2.1 a1.2.1).bind fun p1 => if (!p1) = true then some false else (FleqIntS k a0.2.2 a1.2.2).bind fun p2 => if (!p2) = true then some false else some true := by kernel_rfl
noncomputable def FleqTableS (k : Nat) (a0 : List (Int × (List Int) × List Int)) (a1 : List (Int × (List Int) × List Int)) : Option (Bool) := den E k 130 [.c (.l 115 sTable a0), .c (.l 115 sTable a1)]
abbrev CleqTableS_0 : Type := (List (Int × (List Int) × List Int)) × (List (Int × (List Int) × List Int))
abbrev VleqTableS_0 : Type := Int
def StleqTableS_0 (c0 : CleqTableS_0) (v0 : VleqTableS_0) : St := ⟨27, 0, [(0, .c (.l 115 sTable c0.1)), (1, .c (.l 115 sTable c0.2)), (5, cI v0)], []⟩
noncomputable def BleqTableS_0 {R : Type} (k : Nat) (X0 : VleqTableS_0 → (Int × (List Int) × List Int) → (Int × (List Int) × List Int) → Bool → Option R) (X1 : VleqTableS_0 → Option R) (c0 : CleqTableS_0) (rec : VleqTableS_0 → Option R) (v0 : VleqTableS_0) : Option R := if (decide (v0 < (c0.1.length : Int))) = true then if 0 ≤ v0 then ix c0.1 v0.toNat fun x1 => if 0 ≤ v0 then ix c0.2 v0.toNat fun x2 => (FleqTable k x1 x2).bind fun p3 => if (!p3) = true then X0 v0 x1 x2 p3 else rec (IntKind.i64.wrap (v0 + 1)) else none else none else X1 v0
noncomputable def LleqTableS_0 {R : Type} (k : Nat) (X0 : VleqTableS_0 → (Int × (List Int) × List Int) → (Int × (List Int) × List Int) → Bool → Option R) (X1 : VleqTableS_0 → Option R) (c : CleqTableS_0) : Nat → VleqTableS_0 → Option R
  | 0, _ => none
  | n + 1, v => BleqTableS_0 k X0 X1 c (LleqTableS_0 k X0 X1 c n) v
def YleqTableS_0_0 {R : Type} (K : Ex → St → Option R) (c0 : CleqTableS_0) (v0 : VleqTableS_0) (x1 : Int × (List Int) × List Int) (x2 : Int × (List Int) × List Int) (p3 : Bool) : Option R := K .ret ⟨27, 0, [(0, .c (.l 115 sTable c0.1)), (1, .c (.l 115 sTable c0.2)), (4, cB false), (5, cI v0), (11, cI v0), (12, .c (.l 115 sTable c0.1)), (13, cI (c0.1.length : Int)), (14, cB (decide (v0 < (c0.1.length : Int)))), (17, .c (.l 115 sTable c0.1)), (18, cI v0), (19, .c (.at_ (avs sTable x1))), (20, .agg (avs sTable x1)), (21, .c (.l 115 sTable c0.2)), (22, cI v0), (23, .c (.at_ (avs sTable x2))), (24, .agg (avs sTable x2)), (25, cB p3), (26, cB (!p3))], []⟩
def YleqTableS_0_1 {R : Type} (K : Ex → St → Option R) (c0 : CleqTableS_0) (v0 : VleqTableS_0) : Option R := K (.exit 0) ⟨27, 0, [(0, .c (.l 115 sTable c0.1)), (1, .c (.l 115 sTable c0.2)), (5, cI v0), (11, cI v0), (12, .c (.l 115 sTable c0.1)), (13, cI (c0.1.length : Int)), (14, cB (decide (v0 < (c0.1.length : Int))))], []⟩
theorem lleqTableS_0 {R : Type} (k : Nat) (K : Ex → St → Option R) (c0 : CleqTableS_0) : ∀ (n : Nat) (v : VleqTableS_0), loopRun [0, 0, 1, 5] (run E (den E k) (lv 130) k (nthLoop Tryz.f130 0)) n (StleqTableS_0 c0 v) K = LleqTableS_0 k (YleqTableS_0_0 K c0) (YleqTableS_0_1 K c0) c0 n v := loop_law (B := BleqTableS_0 k (YleqTableS_0_0 K c0) (YleqTableS_0_1 K c0) c0) (fun _ => rfl) (fun n v => by kernel_rfl) (fun _ => rfl) (fun _ _ => rfl)
theorem mleqTableS_0 (k : Nat) (a0 : List (Int × (List Int) × List Int)) (a1 : List (Int × (List Int) × List Int)) : FleqTableS (k + 1) a0 a1 = if ((a0.length : Int) != (a1.length : Int)) = true then some false else loopRun (R := Bool) [0, 0, 1, 5] (run E (den E k) (lv 130) k (nthLoop Tryz.f130 0)) k (StleqTableS_0 (a0, a1) 0) (kontAt E (den E k) (lv 130) k (bodyOf Tryz.f130) 0 [] (finish E (rs 130) Tryz.f130 : Ex → St → Option (Bool))) := by kernel_rfl
theorem eleqTableS (k : Nat) (a0 : List (Int × (List Int) × List Int)) (a1 : List (Int × (List Int) × List Int)) : FleqTableS (k + 1) a0 a1 = if ((a0.length : Int) != (a1.length : Int)) = true then some false else LleqTableS_0 k (fun (v0 : Int) (x1 : Int × (List Int) × List Int) (x2 : Int × (List Int) × List Int) (p3 : Bool) => some false) (fun (v0 : Int) => some true) (a0, a1) k 0 := by
  rw [mleqTableS_0]
  simp only [lleqTableS_0]
  kernel_rfl
noncomputable def FleqPiece (k : Nat) (a0 : TPiece) (a1 : TPiece) : Option (Bool) := den E k 114 [.agg (avs sPiece a0), .agg (avs sPiece a1)]
theorem eleqPiece (k : Nat) (a0 : TPiece) (a1 : TPiece) : FleqPiece (k + 1) a0 a1 = (FleqSpan k a0.1 a1.1).bind fun p1 => if (!p1) = true then some false else (FleqLinkS k a0.2.1 a1.2.1).bind fun p2 => if (!p2) = true then some false else (FleqTableS k a0.2.2 a1.2.2).bind fun p3 => if (!p3) = true then some false else some true := by kernel_rfl
noncomputable def FleqPieceS (k : Nat) (a0 : List TPiece) (a1 : List TPiece) : Option (Bool) := den E k 94 [.c (.l 109 sPiece a0), .c (.l 109 sPiece a1)]
abbrev CleqPieceS_0 : Type := (List TPiece) × (List TPiece)
abbrev VleqPieceS_0 : Type := Int
def StleqPieceS_0 (c0 : CleqPieceS_0) (v0 : VleqPieceS_0) : St := ⟨27, 0, [(0, .c (.l 109 sPiece c0.1)), (1, .c (.l 109 sPiece c0.2)), (5, cI v0)], []⟩
noncomputable def BleqPieceS_0 {R : Type} (k : Nat) (X0 : VleqPieceS_0 → TPiece → TPiece → Bool → Option R) (X1 : VleqPieceS_0 → Option R) (c0 : CleqPieceS_0) (rec : VleqPieceS_0 → Option R) (v0 : VleqPieceS_0) : Option R := if (decide (v0 < (c0.1.length : Int))) = true then if 0 ≤ v0 then ix c0.1 v0.toNat fun x1 => if 0 ≤ v0 then ix c0.2 v0.toNat fun x2 => (FleqPiece k x1 x2).bind fun p3 => if (!p3) = true then X0 v0 x1 x2 p3 else rec (IntKind.i64.wrap (v0 + 1)) else none else none else X1 v0
noncomputable def LleqPieceS_0 {R : Type} (k : Nat) (X0 : VleqPieceS_0 → TPiece → TPiece → Bool → Option R) (X1 : VleqPieceS_0 → Option R) (c : CleqPieceS_0) : Nat → VleqPieceS_0 → Option R
  | 0, _ => none
  | n + 1, v => BleqPieceS_0 k X0 X1 c (LleqPieceS_0 k X0 X1 c n) v
def YleqPieceS_0_0 {R : Type} (K : Ex → St → Option R) (c0 : CleqPieceS_0) (v0 : VleqPieceS_0) (x1 : TPiece) (x2 : TPiece) (p3 : Bool) : Option R := K .ret ⟨27, 0, [(0, .c (.l 109 sPiece c0.1)), (1, .c (.l 109 sPiece c0.2)), (4, cB false), (5, cI v0), (11, cI v0), (12, .c (.l 109 sPiece c0.1)), (13, cI (c0.1.length : Int)), (14, cB (decide (v0 < (c0.1.length : Int)))), (17, .c (.l 109 sPiece c0.1)), (18, cI v0), (19, .c (.at_ (avs sPiece x1))), (20, .agg (avs sPiece x1)), (21, .c (.l 109 sPiece c0.2)), (22, cI v0), (23, .c (.at_ (avs sPiece x2))), (24, .agg (avs sPiece x2)), (25, cB p3), (26, cB (!p3))], []⟩
def YleqPieceS_0_1 {R : Type} (K : Ex → St → Option R) (c0 : CleqPieceS_0) (v0 : VleqPieceS_0) : Option R := K (.exit 0) ⟨27, 0, [(0, .c (.l 109 sPiece c0.1)), (1, .c (.l 109 sPiece c0.2)), (5, cI v0), (11, cI v0), (12, .c (.l 109 sPiece c0.1)), (13, cI (c0.1.length : Int)), (14, cB (decide (v0 < (c0.1.length : Int))))], []⟩
theorem lleqPieceS_0 {R : Type} (k : Nat) (K : Ex → St → Option R) (c0 : CleqPieceS_0) : ∀ (n : Nat) (v : VleqPieceS_0), loopRun [0, 0, 1, 5] (run E (den E k) (lv 94) k (nthLoop Tryz.f94 0)) n (StleqPieceS_0 c0 v) K = LleqPieceS_0 k (YleqPieceS_0_0 K c0) (YleqPieceS_0_1 K c0) c0 n v := loop_law (B := BleqPieceS_0 k (YleqPieceS_0_0 K c0) (YleqPieceS_0_1 K c0) c0) (fun _ => rfl) (fun n v => by kernel_rfl) (fun _ => rfl) (fun _ _ => rfl)
theorem mleqPieceS_0 (k : Nat) (a0 : List TPiece) (a1 : List TPiece) : FleqPieceS (k + 1) a0 a1 = if ((a0.length : Int) != (a1.length : Int)) = true then some false else loopRun (R := Bool) [0, 0, 1, 5] (run E (den E k) (lv 94) k (nthLoop Tryz.f94 0)) k (StleqPieceS_0 (a0, a1) 0) (kontAt E (den E k) (lv 94) k (bodyOf Tryz.f94) 0 [] (finish E (rs 94) Tryz.f94 : Ex → St → Option (Bool))) := by kernel_rfl
theorem eleqPieceS (k : Nat) (a0 : List TPiece) (a1 : List TPiece) : FleqPieceS (k + 1) a0 a1 = if ((a0.length : Int) != (a1.length : Int)) = true then some false else LleqPieceS_0 k (fun (v0 : Int) (x1 : TPiece) (x2 : TPiece) (p3 : Bool) => some false) (fun (v0 : Int) => some true) (a0, a1) k 0 := by
  rw [mleqPieceS_0]
  simp only [lleqPieceS_0]
  kernel_rfl
noncomputable def FleqProgram (k : Nat) (a0 : TProgram) (a1 : TProgram) : Option (Bool) := den E k 58 [.agg (avs sProgram a0), .agg (avs sProgram a1)]
theorem eleqProgram (k : Nat) (a0 : TProgram) (a1 : TProgram) : FleqProgram (k + 1) a0 a1 = if (a0.1 != a1.1) = true then some false else if (a0.2.1 != a1.2.1) = true then some false else if (a0.2.2.1 != a1.2.2.1) = true then some false else (FleqPieceS k a0.2.2.2 a1.2.2.2).bind fun p1 => if (!p1) = true then some false else some true := by kernel_rfl
noncomputable def FleqQueue (k : Nat) (a0 : List I6) (a1 : List I6) : Option (Bool) := den E k 96 [.agg [.l 122 sI6 a0], .agg [.l 122 sI6 a1]]
theorem eleqQueue (k : Nat) (a0 : List I6) (a1 : List I6) : FleqQueue (k + 1) a0 a1 = (FleqPacketS k a0 a1).bind fun p1 => if (!p1) = true then some false else some true := by kernel_rfl
noncomputable def FleqQueueS (k : Nat) (a0 : List (List I6)) (a1 : List (List I6)) : Option (Bool) := den E k 62 [.c (.l 120 sQueue a0), .c (.l 120 sQueue a1)]
abbrev CleqQueueS_0 : Type := (List (List I6)) × (List (List I6))
abbrev VleqQueueS_0 : Type := Int
def StleqQueueS_0 (c0 : CleqQueueS_0) (v0 : VleqQueueS_0) : St := ⟨27, 0, [(0, .c (.l 120 sQueue c0.1)), (1, .c (.l 120 sQueue c0.2)), (5, cI v0)], []⟩
noncomputable def BleqQueueS_0 {R : Type} (k : Nat) (X0 : VleqQueueS_0 → (List I6) → (List I6) → Bool → Option R) (X1 : VleqQueueS_0 → Option R) (c0 : CleqQueueS_0) (rec : VleqQueueS_0 → Option R) (v0 : VleqQueueS_0) : Option R := if (decide (v0 < (c0.1.length : Int))) = true then if 0 ≤ v0 then ix c0.1 v0.toNat fun x1 => if 0 ≤ v0 then ix c0.2 v0.toNat fun x2 => (FleqQueue k x1 x2).bind fun p3 => if (!p3) = true then X0 v0 x1 x2 p3 else rec (IntKind.i64.wrap (v0 + 1)) else none else none else X1 v0
noncomputable def LleqQueueS_0 {R : Type} (k : Nat) (X0 : VleqQueueS_0 → (List I6) → (List I6) → Bool → Option R) (X1 : VleqQueueS_0 → Option R) (c : CleqQueueS_0) : Nat → VleqQueueS_0 → Option R
  | 0, _ => none
  | n + 1, v => BleqQueueS_0 k X0 X1 c (LleqQueueS_0 k X0 X1 c n) v
def YleqQueueS_0_0 {R : Type} (K : Ex → St → Option R) (c0 : CleqQueueS_0) (v0 : VleqQueueS_0) (x1 : List I6) (x2 : List I6) (p3 : Bool) : Option R := K .ret ⟨27, 0, [(0, .c (.l 120 sQueue c0.1)), (1, .c (.l 120 sQueue c0.2)), (4, cB false), (5, cI v0), (11, cI v0), (12, .c (.l 120 sQueue c0.1)), (13, cI (c0.1.length : Int)), (14, cB (decide (v0 < (c0.1.length : Int)))), (17, .c (.l 120 sQueue c0.1)), (18, cI v0), (19, .c (.at_ [.l 122 sI6 x1])), (20, .agg [.l 122 sI6 x1]), (21, .c (.l 120 sQueue c0.2)), (22, cI v0), (23, .c (.at_ [.l 122 sI6 x2])), (24, .agg [.l 122 sI6 x2]), (25, cB p3), (26, cB (!p3))], []⟩
def YleqQueueS_0_1 {R : Type} (K : Ex → St → Option R) (c0 : CleqQueueS_0) (v0 : VleqQueueS_0) : Option R := K (.exit 0) ⟨27, 0, [(0, .c (.l 120 sQueue c0.1)), (1, .c (.l 120 sQueue c0.2)), (5, cI v0), (11, cI v0), (12, .c (.l 120 sQueue c0.1)), (13, cI (c0.1.length : Int)), (14, cB (decide (v0 < (c0.1.length : Int))))], []⟩
theorem lleqQueueS_0 {R : Type} (k : Nat) (K : Ex → St → Option R) (c0 : CleqQueueS_0) : ∀ (n : Nat) (v : VleqQueueS_0), loopRun [0, 0, 1, 5] (run E (den E k) (lv 62) k (nthLoop Tryz.f62 0)) n (StleqQueueS_0 c0 v) K = LleqQueueS_0 k (YleqQueueS_0_0 K c0) (YleqQueueS_0_1 K c0) c0 n v := loop_law (B := BleqQueueS_0 k (YleqQueueS_0_0 K c0) (YleqQueueS_0_1 K c0) c0) (fun _ => rfl) (fun n v => by kernel_rfl) (fun _ => rfl) (fun _ _ => rfl)
theorem mleqQueueS_0 (k : Nat) (a0 : List (List I6)) (a1 : List (List I6)) : FleqQueueS (k + 1) a0 a1 = if ((a0.length : Int) != (a1.length : Int)) = true then some false else loopRun (R := Bool) [0, 0, 1, 5] (run E (den E k) (lv 62) k (nthLoop Tryz.f62 0)) k (StleqQueueS_0 (a0, a1) 0) (kontAt E (den E k) (lv 62) k (bodyOf Tryz.f62) 0 [] (finish E (rs 62) Tryz.f62 : Ex → St → Option (Bool))) := by kernel_rfl
theorem eleqQueueS (k : Nat) (a0 : List (List I6)) (a1 : List (List I6)) : FleqQueueS (k + 1) a0 a1 = if ((a0.length : Int) != (a1.length : Int)) = true then some false else LleqQueueS_0 k (fun (v0 : Int) (x1 : List I6) (x2 : List I6) (p3 : Bool) => some false) (fun (v0 : Int) => some true) (a0, a1) k 0 := by
  rw [mleqQueueS_0]
  simp only [lleqQueueS_0]
  kernel_rfl
noncomputable def FleqSent (k : Nat) (a0 : I4) (a1 : I4) : Option (Bool) := den E k 101 [.agg (avs sI4 a0), .agg (avs sI4 a1)]
theorem eleqSent (k : Nat) (a0 : I4) (a1 : I4) : FleqSent (k + 1) a0 a1 = if (a0.1 != a1.1) = true then some false else if (a0.2.1 != a1.2.1) = true then some false else if (a0.2.2.1 != a1.2.2.1) = true then some false else if (a0.2.2.2 != a1.2.2.2) = true then some false else some true := by kernel_rfl
noncomputable def FleqSentS (k : Nat) (a0 : List I4) (a1 : List I4) : Option (Bool) := den E k 67 [.c (.l 139 sI4 a0), .c (.l 139 sI4 a1)]
abbrev CleqSentS_0 : Type := (List I4) × (List I4)
abbrev VleqSentS_0 : Type := Int
def StleqSentS_0 (c0 : CleqSentS_0) (v0 : VleqSentS_0) : St := ⟨27, 0, [(0, .c (.l 139 sI4 c0.1)), (1, .c (.l 139 sI4 c0.2)), (5, cI v0)], []⟩
noncomputable def BleqSentS_0 {R : Type} (k : Nat) (X0 : VleqSentS_0 → I4 → I4 → Bool → Option R) (X1 : VleqSentS_0 → Option R) (c0 : CleqSentS_0) (rec : VleqSentS_0 → Option R) (v0 : VleqSentS_0) : Option R := if (decide (v0 < (c0.1.length : Int))) = true then if 0 ≤ v0 then ix c0.1 v0.toNat fun x1 => if 0 ≤ v0 then ix c0.2 v0.toNat fun x2 => (FleqSent k x1 x2).bind fun p3 => if (!p3) = true then X0 v0 x1 x2 p3 else rec (IntKind.i64.wrap (v0 + 1)) else none else none else X1 v0
noncomputable def LleqSentS_0 {R : Type} (k : Nat) (X0 : VleqSentS_0 → I4 → I4 → Bool → Option R) (X1 : VleqSentS_0 → Option R) (c : CleqSentS_0) : Nat → VleqSentS_0 → Option R
  | 0, _ => none
  | n + 1, v => BleqSentS_0 k X0 X1 c (LleqSentS_0 k X0 X1 c n) v
def YleqSentS_0_0 {R : Type} (K : Ex → St → Option R) (c0 : CleqSentS_0) (v0 : VleqSentS_0) (x1 : I4) (x2 : I4) (p3 : Bool) : Option R := K .ret ⟨27, 0, [(0, .c (.l 139 sI4 c0.1)), (1, .c (.l 139 sI4 c0.2)), (4, cB false), (5, cI v0), (11, cI v0), (12, .c (.l 139 sI4 c0.1)), (13, cI (c0.1.length : Int)), (14, cB (decide (v0 < (c0.1.length : Int)))), (17, .c (.l 139 sI4 c0.1)), (18, cI v0), (19, .c (.at_ (avs sI4 x1))), (20, .agg (avs sI4 x1)), (21, .c (.l 139 sI4 c0.2)), (22, cI v0), (23, .c (.at_ (avs sI4 x2))), (24, .agg (avs sI4 x2)), (25, cB p3), (26, cB (!p3))], []⟩
def YleqSentS_0_1 {R : Type} (K : Ex → St → Option R) (c0 : CleqSentS_0) (v0 : VleqSentS_0) : Option R := K (.exit 0) ⟨27, 0, [(0, .c (.l 139 sI4 c0.1)), (1, .c (.l 139 sI4 c0.2)), (5, cI v0), (11, cI v0), (12, .c (.l 139 sI4 c0.1)), (13, cI (c0.1.length : Int)), (14, cB (decide (v0 < (c0.1.length : Int))))], []⟩
theorem lleqSentS_0 {R : Type} (k : Nat) (K : Ex → St → Option R) (c0 : CleqSentS_0) : ∀ (n : Nat) (v : VleqSentS_0), loopRun [0, 0, 1, 5] (run E (den E k) (lv 67) k (nthLoop Tryz.f67 0)) n (StleqSentS_0 c0 v) K = LleqSentS_0 k (YleqSentS_0_0 K c0) (YleqSentS_0_1 K c0) c0 n v := loop_law (B := BleqSentS_0 k (YleqSentS_0_0 K c0) (YleqSentS_0_1 K c0) c0) (fun _ => rfl) (fun n v => by kernel_rfl) (fun _ => rfl) (fun _ _ => rfl)
theorem mleqSentS_0 (k : Nat) (a0 : List I4) (a1 : List I4) : FleqSentS (k + 1) a0 a1 = if ((a0.length : Int) != (a1.length : Int)) = true then some false else loopRun (R := Bool) [0, 0, 1, 5] (run E (den E k) (lv 67) k (nthLoop Tryz.f67 0)) k (StleqSentS_0 (a0, a1) 0) (kontAt E (den E k) (lv 67) k (bodyOf Tryz.f67) 0 [] (finish E (rs 67) Tryz.f67 : Ex → St → Option (Bool))) := by kernel_rfl
theorem eleqSentS (k : Nat) (a0 : List I4) (a1 : List I4) : FleqSentS (k + 1) a0 a1 = if ((a0.length : Int) != (a1.length : Int)) = true then some false else LleqSentS_0 k (fun (v0 : Int) (x1 : I4) (x2 : I4) (p3 : Bool) => some false) (fun (v0 : Int) => some true) (a0, a1) k 0 := by
  rw [mleqSentS_0]
  simp only [lleqSentS_0]
  kernel_rfl
noncomputable def FleqSat (k : Nat) (a0 : I4) (a1 : I4) : Option (Bool) := den E k 111 [.agg (avs sI4 a0), .agg (avs sI4 a1)]
theorem eleqSat (k : Nat) (a0 : I4) (a1 : I4) : FleqSat (k + 1) a0 a1 = if (a0.1 != a1.1) = true then some false else if (a0.2.1 != a1.2.1) = true then some false else if (a0.2.2.1 != a1.2.2.1) = true then some false else if (a0.2.2.2 != a1.2.2.2) = true then some false else some true := by kernel_rfl
noncomputable def FleqSatS (k : Nat) (a0 : List I4) (a1 : List I4) : Option (Bool) := den E k 91 [.c (.l 94 sI4 a0), .c (.l 94 sI4 a1)]
abbrev CleqSatS_0 : Type := (List I4) × (List I4)
abbrev VleqSatS_0 : Type := Int
def StleqSatS_0 (c0 : CleqSatS_0) (v0 : VleqSatS_0) : St := ⟨27, 0, [(0, .c (.l 94 sI4 c0.1)), (1, .c (.l 94 sI4 c0.2)), (5, cI v0)], []⟩
noncomputable def BleqSatS_0 {R : Type} (k : Nat) (X0 : VleqSatS_0 → I4 → I4 → Bool → Option R) (X1 : VleqSatS_0 → Option R) (c0 : CleqSatS_0) (rec : VleqSatS_0 → Option R) (v0 : VleqSatS_0) : Option R := if (decide (v0 < (c0.1.length : Int))) = true then if 0 ≤ v0 then ix c0.1 v0.toNat fun x1 => if 0 ≤ v0 then ix c0.2 v0.toNat fun x2 => (FleqSat k x1 x2).bind fun p3 => if (!p3) = true then X0 v0 x1 x2 p3 else rec (IntKind.i64.wrap (v0 + 1)) else none else none else X1 v0
noncomputable def LleqSatS_0 {R : Type} (k : Nat) (X0 : VleqSatS_0 → I4 → I4 → Bool → Option R) (X1 : VleqSatS_0 → Option R) (c : CleqSatS_0) : Nat → VleqSatS_0 → Option R
  | 0, _ => none
  | n + 1, v => BleqSatS_0 k X0 X1 c (LleqSatS_0 k X0 X1 c n) v
def YleqSatS_0_0 {R : Type} (K : Ex → St → Option R) (c0 : CleqSatS_0) (v0 : VleqSatS_0) (x1 : I4) (x2 : I4) (p3 : Bool) : Option R := K .ret ⟨27, 0, [(0, .c (.l 94 sI4 c0.1)), (1, .c (.l 94 sI4 c0.2)), (4, cB false), (5, cI v0), (11, cI v0), (12, .c (.l 94 sI4 c0.1)), (13, cI (c0.1.length : Int)), (14, cB (decide (v0 < (c0.1.length : Int)))), (17, .c (.l 94 sI4 c0.1)), (18, cI v0), (19, .c (.at_ (avs sI4 x1))), (20, .agg (avs sI4 x1)), (21, .c (.l 94 sI4 c0.2)), (22, cI v0), (23, .c (.at_ (avs sI4 x2))), (24, .agg (avs sI4 x2)), (25, cB p3), (26, cB (!p3))], []⟩
def YleqSatS_0_1 {R : Type} (K : Ex → St → Option R) (c0 : CleqSatS_0) (v0 : VleqSatS_0) : Option R := K (.exit 0) ⟨27, 0, [(0, .c (.l 94 sI4 c0.1)), (1, .c (.l 94 sI4 c0.2)), (5, cI v0), (11, cI v0), (12, .c (.l 94 sI4 c0.1)), (13, cI (c0.1.length : Int)), (14, cB (decide (v0 < (c0.1.length : Int))))], []⟩
theorem lleqSatS_0 {R : Type} (k : Nat) (K : Ex → St → Option R) (c0 : CleqSatS_0) : ∀ (n : Nat) (v : VleqSatS_0), loopRun [0, 0, 1, 5] (run E (den E k) (lv 91) k (nthLoop Tryz.f91 0)) n (StleqSatS_0 c0 v) K = LleqSatS_0 k (YleqSatS_0_0 K c0) (YleqSatS_0_1 K c0) c0 n v := loop_law (B := BleqSatS_0 k (YleqSatS_0_0 K c0) (YleqSatS_0_1 K c0) c0) (fun _ => rfl) (fun n v => by kernel_rfl) (fun _ => rfl) (fun _ _ => rfl)
theorem mleqSatS_0 (k : Nat) (a0 : List I4) (a1 : List I4) : FleqSatS (k + 1) a0 a1 = if ((a0.length : Int) != (a1.length : Int)) = true then some false else loopRun (R := Bool) [0, 0, 1, 5] (run E (den E k) (lv 91) k (nthLoop Tryz.f91 0)) k (StleqSatS_0 (a0, a1) 0) (kontAt E (den E k) (lv 91) k (bodyOf Tryz.f91) 0 [] (finish E (rs 91) Tryz.f91 : Ex → St → Option (Bool))) := by kernel_rfl
theorem eleqSatS (k : Nat) (a0 : List I4) (a1 : List I4) : FleqSatS (k + 1) a0 a1 = if ((a0.length : Int) != (a1.length : Int)) = true then some false else LleqSatS_0 k (fun (v0 : Int) (x1 : I4) (x2 : I4) (p3 : Bool) => some false) (fun (v0 : Int) => some true) (a0, a1) k 0 := by
  rw [mleqSatS_0]
  simp only [lleqSatS_0]
  kernel_rfl
noncomputable def FleqSite (k : Nat) (a0 : I3) (a1 : I3) : Option (Bool) := den E k 112 [.agg (avs sI3 a0), .agg (avs sI3 a1)]
theorem eleqSite (k : Nat) (a0 : I3) (a1 : I3) : FleqSite (k + 1) a0 a1 = if (a0.1 != a1.1) = true then some false else if (a0.2.1 != a1.2.1) = true then some false else if (a0.2.2 != a1.2.2) = true then some false else some true := by kernel_rfl
noncomputable def FleqSiteS (k : Nat) (a0 : List I3) (a1 : List I3) : Option (Bool) := den E k 92 [.c (.l 97 sI3 a0), .c (.l 97 sI3 a1)]
abbrev CleqSiteS_0 : Type := (List I3) × (List I3)
abbrev VleqSiteS_0 : Type := Int
def StleqSiteS_0 (c0 : CleqSiteS_0) (v0 : VleqSiteS_0) : St := ⟨27, 0, [(0, .c (.l 97 sI3 c0.1)), (1, .c (.l 97 sI3 c0.2)), (5, cI v0)], []⟩
noncomputable def BleqSiteS_0 {R : Type} (k : Nat) (X0 : VleqSiteS_0 → I3 → I3 → Bool → Option R) (X1 : VleqSiteS_0 → Option R) (c0 : CleqSiteS_0) (rec : VleqSiteS_0 → Option R) (v0 : VleqSiteS_0) : Option R := if (decide (v0 < (c0.1.length : Int))) = true then if 0 ≤ v0 then ix c0.1 v0.toNat fun x1 => if 0 ≤ v0 then ix c0.2 v0.toNat fun x2 => (FleqSite k x1 x2).bind fun p3 => if (!p3) = true then X0 v0 x1 x2 p3 else rec (IntKind.i64.wrap (v0 + 1)) else none else none else X1 v0
noncomputable def LleqSiteS_0 {R : Type} (k : Nat) (X0 : VleqSiteS_0 → I3 → I3 → Bool → Option R) (X1 : VleqSiteS_0 → Option R) (c : CleqSiteS_0) : Nat → VleqSiteS_0 → Option R
  | 0, _ => none
  | n + 1, v => BleqSiteS_0 k X0 X1 c (LleqSiteS_0 k X0 X1 c n) v
def YleqSiteS_0_0 {R : Type} (K : Ex → St → Option R) (c0 : CleqSiteS_0) (v0 : VleqSiteS_0) (x1 : I3) (x2 : I3) (p3 : Bool) : Option R := K .ret ⟨27, 0, [(0, .c (.l 97 sI3 c0.1)), (1, .c (.l 97 sI3 c0.2)), (4, cB false), (5, cI v0), (11, cI v0), (12, .c (.l 97 sI3 c0.1)), (13, cI (c0.1.length : Int)), (14, cB (decide (v0 < (c0.1.length : Int)))), (17, .c (.l 97 sI3 c0.1)), (18, cI v0), (19, .c (.at_ (avs sI3 x1))), (20, .agg (avs sI3 x1)), (21, .c (.l 97 sI3 c0.2)), (22, cI v0), (23, .c (.at_ (avs sI3 x2))), (24, .agg (avs sI3 x2)), (25, cB p3), (26, cB (!p3))], []⟩
def YleqSiteS_0_1 {R : Type} (K : Ex → St → Option R) (c0 : CleqSiteS_0) (v0 : VleqSiteS_0) : Option R := K (.exit 0) ⟨27, 0, [(0, .c (.l 97 sI3 c0.1)), (1, .c (.l 97 sI3 c0.2)), (5, cI v0), (11, cI v0), (12, .c (.l 97 sI3 c0.1)), (13, cI (c0.1.length : Int)), (14, cB (decide (v0 < (c0.1.length : Int))))], []⟩
theorem lleqSiteS_0 {R : Type} (k : Nat) (K : Ex → St → Option R) (c0 : CleqSiteS_0) : ∀ (n : Nat) (v : VleqSiteS_0), loopRun [0, 0, 1, 5] (run E (den E k) (lv 92) k (nthLoop Tryz.f92 0)) n (StleqSiteS_0 c0 v) K = LleqSiteS_0 k (YleqSiteS_0_0 K c0) (YleqSiteS_0_1 K c0) c0 n v := loop_law (B := BleqSiteS_0 k (YleqSiteS_0_0 K c0) (YleqSiteS_0_1 K c0) c0) (fun _ => rfl) (fun n v => by kernel_rfl) (fun _ => rfl) (fun _ _ => rfl)
theorem mleqSiteS_0 (k : Nat) (a0 : List I3) (a1 : List I3) : FleqSiteS (k + 1) a0 a1 = if ((a0.length : Int) != (a1.length : Int)) = true then some false else loopRun (R := Bool) [0, 0, 1, 5] (run E (den E k) (lv 92) k (nthLoop Tryz.f92 0)) k (StleqSiteS_0 (a0, a1) 0) (kontAt E (den E k) (lv 92) k (bodyOf Tryz.f92) 0 [] (finish E (rs 92) Tryz.f92 : Ex → St → Option (Bool))) := by kernel_rfl
theorem eleqSiteS (k : Nat) (a0 : List I3) (a1 : List I3) : FleqSiteS (k + 1) a0 a1 = if ((a0.length : Int) != (a1.length : Int)) = true then some false else LleqSiteS_0 k (fun (v0 : Int) (x1 : I3) (x2 : I3) (p3 : Bool) => some false) (fun (v0 : Int) => some true) (a0, a1) k 0 := by
  rw [mleqSiteS_0]
  simp only [lleqSiteS_0]
  kernel_rfl
noncomputable def FleqArc (k : Nat) (a0 : I2) (a1 : I2) : Option (Bool) := den E k 127 [.agg [vI a0.1, vI a0.2], .agg [vI a1.1, vI a1.2]]
theorem eleqArc (k : Nat) (a0 : I2) (a1 : I2) : FleqArc (k + 1) a0 a1 = if (a0.1 != a1.1) = true then some false else if (a0.2 != a1.2) = true then some false else some true := by kernel_rfl
noncomputable def FleqZone (k : Nat) (a0 : I3) (a1 : I3) : Option (Bool) := den E k 113 [.agg (avs sI3 a0), .agg (avs sI3 a1)]
theorem eleqZone (k : Nat) (a0 : I3) (a1 : I3) : FleqZone (k + 1) a0 a1 = if (a0.1 != a1.1) = true then some false else (FleqArc k a0.2 a1.2).bind fun p1 => if (!p1) = true then some false else some true := by kernel_rfl
noncomputable def FleqZoneS (k : Nat) (a0 : List I3) (a1 : List I3) : Option (Bool) := den E k 93 [.c (.l 102 sZone a0), .c (.l 102 sZone a1)]
abbrev CleqZoneS_0 : Type := (List I3) × (List I3)
abbrev VleqZoneS_0 : Type := Int
def StleqZoneS_0 (c0 : CleqZoneS_0) (v0 : VleqZoneS_0) : St := ⟨27, 0, [(0, .c (.l 102 sZone c0.1)), (1, .c (.l 102 sZone c0.2)), (5, cI v0)], []⟩
noncomputable def BleqZoneS_0 {R : Type} (k : Nat) (X0 : VleqZoneS_0 → I3 → I3 → Bool → Option R) (X1 : VleqZoneS_0 → Option R) (c0 : CleqZoneS_0) (rec : VleqZoneS_0 → Option R) (v0 : VleqZoneS_0) : Option R := if (decide (v0 < (c0.1.length : Int))) = true then if 0 ≤ v0 then ix c0.1 v0.toNat fun x1 => if 0 ≤ v0 then ix c0.2 v0.toNat fun x2 => (FleqZone k x1 x2).bind fun p3 => if (!p3) = true then X0 v0 x1 x2 p3 else rec (IntKind.i64.wrap (v0 + 1)) else none else none else X1 v0
noncomputable def LleqZoneS_0 {R : Type} (k : Nat) (X0 : VleqZoneS_0 → I3 → I3 → Bool → Option R) (X1 : VleqZoneS_0 → Option R) (c : CleqZoneS_0) : Nat → VleqZoneS_0 → Option R
  | 0, _ => none
  | n + 1, v => BleqZoneS_0 k X0 X1 c (LleqZoneS_0 k X0 X1 c n) v
def YleqZoneS_0_0 {R : Type} (K : Ex → St → Option R) (c0 : CleqZoneS_0) (v0 : VleqZoneS_0) (x1 : I3) (x2 : I3) (p3 : Bool) : Option R := K .ret ⟨27, 0, [(0, .c (.l 102 sZone c0.1)), (1, .c (.l 102 sZone c0.2)), (4, cB false), (5, cI v0), (11, cI v0), (12, .c (.l 102 sZone c0.1)), (13, cI (c0.1.length : Int)), (14, cB (decide (v0 < (c0.1.length : Int)))), (17, .c (.l 102 sZone c0.1)), (18, cI v0), (19, .c (.at_ (avs sI3 x1))), (20, .agg (avs sI3 x1)), (21, .c (.l 102 sZone c0.2)), (22, cI v0), (23, .c (.at_ (avs sI3 x2))), (24, .agg (avs sI3 x2)), (25, cB p3), (26, cB (!p3))], []⟩
def YleqZoneS_0_1 {R : Type} (K : Ex → St → Option R) (c0 : CleqZoneS_0) (v0 : VleqZoneS_0) : Option R := K (.exit 0) ⟨27, 0, [(0, .c (.l 102 sZone c0.1)), (1, .c (.l 102 sZone c0.2)), (5, cI v0), (11, cI v0), (12, .c (.l 102 sZone c0.1)), (13, cI (c0.1.length : Int)), (14, cB (decide (v0 < (c0.1.length : Int))))], []⟩
theorem lleqZoneS_0 {R : Type} (k : Nat) (K : Ex → St → Option R) (c0 : CleqZoneS_0) : ∀ (n : Nat) (v : VleqZoneS_0), loopRun [0, 0, 1, 5] (run E (den E k) (lv 93) k (nthLoop Tryz.f93 0)) n (StleqZoneS_0 c0 v) K = LleqZoneS_0 k (YleqZoneS_0_0 K c0) (YleqZoneS_0_1 K c0) c0 n v := loop_law (B := BleqZoneS_0 k (YleqZoneS_0_0 K c0) (YleqZoneS_0_1 K c0) c0) (fun _ => rfl) (fun n v => by kernel_rfl) (fun _ => rfl) (fun _ _ => rfl)
theorem mleqZoneS_0 (k : Nat) (a0 : List I3) (a1 : List I3) : FleqZoneS (k + 1) a0 a1 = if ((a0.length : Int) != (a1.length : Int)) = true then some false else loopRun (R := Bool) [0, 0, 1, 5] (run E (den E k) (lv 93) k (nthLoop Tryz.f93 0)) k (StleqZoneS_0 (a0, a1) 0) (kontAt E (den E k) (lv 93) k (bodyOf Tryz.f93) 0 [] (finish E (rs 93) Tryz.f93 : Ex → St → Option (Bool))) := by kernel_rfl
theorem eleqZoneS (k : Nat) (a0 : List I3) (a1 : List I3) : FleqZoneS (k + 1) a0 a1 = if ((a0.length : Int) != (a1.length : Int)) = true then some false else LleqZoneS_0 k (fun (v0 : Int) (x1 : I3) (x2 : I3) (p3 : Bool) => some false) (fun (v0 : Int) => some true) (a0, a1) k 0 := by
  rw [mleqZoneS_0]
  simp only [lleqZoneS_0]
  kernel_rfl
noncomputable def FleqSky (k : Nat) (a0 : TSky) (a1 : TSky) : Option (Bool) := den E k 57 [.agg (avs sSky a0), .agg (avs sSky a1)]
theorem eleqSky (k : Nat) (a0 : TSky) (a1 : TSky) : FleqSky (k + 1) a0 a1 = if (a0.1 != a1.1) = true then some false else (FleqSatS k a0.2.1 a1.2.1).bind fun p1 => if (!p1) = true then some false else (FleqSiteS k a0.2.2.1 a1.2.2.1).bind fun p2 => if (!p2) = true then some false else if (a0.2.2.2.1 != a1.2.2.2.1) = true then some false else if (a0.2.2.2.2.1 != a1.2.2.2.2.1) = true then some false else if (a0.2.2.2.2.2.1 != a1.2.2.2.2.2.1) = true then some false else if (a0.2.2.2.2.2.2.1 != a1.2.2.2.2.2.2.1) = true then some false else if (a0.2.2.2.2.2.2.2.1 != a1.2.2.2.2.2.2.2.1) = true then some false else (FleqZoneS k a0.2.2.2.2.2.2.2.2.1 a1.2.2.2.2.2.2.2.2.1).bind fun p3 => if (!p3) = true then some false else if (a0.2.2.2.2.2.2.2.2.2 != a1.2.2.2.2.2.2.2.2.2) = true then some false else some true := by kernel_rfl
noncomputable def FleqStream (k : Nat) (a0 : Int × Int × List Int) (a1 : Int × Int × List Int) : Option (Bool) := den E k 98 [.agg (avs sStream a0), .agg (avs sStream a1)]
theorem eleqStream (k : Nat) (a0 : Int × Int × List Int) (a1 : Int × Int × List Int) : FleqStream (k + 1) a0 a1 = if (a0.1 != a1.1) = true then some false else if (a0.2.1 != a1.2.1) = true then some false else (FleqIntS k a0.2.2 a1.2.2).bind fun p1 => if (!p1) = true then some false else some true := by kernel_rfl
noncomputable def FleqStreamS (k : Nat) (a0 : List (Int × Int × List Int)) (a1 : List (Int × Int × List Int)) : Option (Bool) := den E k 64 [.c (.l 132 sStream a0), .c (.l 132 sStream a1)]
abbrev CleqStreamS_0 : Type := (List (Int × Int × List Int)) × (List (Int × Int × List Int))
abbrev VleqStreamS_0 : Type := Int
def StleqStreamS_0 (c0 : CleqStreamS_0) (v0 : VleqStreamS_0) : St := ⟨27, 0, [(0, .c (.l 132 sStream c0.1)), (1, .c (.l 132 sStream c0.2)), (5, cI v0)], []⟩
noncomputable def BleqStreamS_0 {R : Type} (k : Nat) (X0 : VleqStreamS_0 → (Int × Int × List Int) → (Int × Int × List Int) → Bool → Option R) (X1 : VleqStreamS_0 → Option R) (c0 : CleqStreamS_0) (rec : VleqStreamS_0 → Option R) (v0 : VleqStreamS_0) : Option R := if (decide (v0 < (c0.1.length : Int))) = true then if 0 ≤ v0 then ix c0.1 v0.toNat fun x1 => if 0 ≤ v0 then ix c0.2 v0.toNat fun x2 => (FleqStream k x1 x2).bind fun p3 => if (!p3) = true then X0 v0 x1 x2 p3 else rec (IntKind.i64.wrap (v0 + 1)) else none else none else X1 v0
noncomputable def LleqStreamS_0 {R : Type} (k : Nat) (X0 : VleqStreamS_0 → (Int × Int × List Int) → (Int × Int × List Int) → Bool → Option R) (X1 : VleqStreamS_0 → Option R) (c : CleqStreamS_0) : Nat → VleqStreamS_0 → Option R
  | 0, _ => none
  | n + 1, v => BleqStreamS_0 k X0 X1 c (LleqStreamS_0 k X0 X1 c n) v
def YleqStreamS_0_0 {R : Type} (K : Ex → St → Option R) (c0 : CleqStreamS_0) (v0 : VleqStreamS_0) (x1 : Int × Int × List Int) (x2 : Int × Int × List Int) (p3 : Bool) : Option R := K .ret ⟨27, 0, [(0, .c (.l 132 sStream c0.1)), (1, .c (.l 132 sStream c0.2)), (4, cB false), (5, cI v0), (11, cI v0), (12, .c (.l 132 sStream c0.1)), (13, cI (c0.1.length : Int)), (14, cB (decide (v0 < (c0.1.length : Int)))), (17, .c (.l 132 sStream c0.1)), (18, cI v0), (19, .c (.at_ (avs sStream x1))), (20, .agg (avs sStream x1)), (21, .c (.l 132 sStream c0.2)), (22, cI v0), (23, .c (.at_ (avs sStream x2))), (24, .agg (avs sStream x2)), (25, cB p3), (26, cB (!p3))], []⟩
def YleqStreamS_0_1 {R : Type} (K : Ex → St → Option R) (c0 : CleqStreamS_0) (v0 : VleqStreamS_0) : Option R := K (.exit 0) ⟨27, 0, [(0, .c (.l 132 sStream c0.1)), (1, .c (.l 132 sStream c0.2)), (5, cI v0), (11, cI v0), (12, .c (.l 132 sStream c0.1)), (13, cI (c0.1.length : Int)), (14, cB (decide (v0 < (c0.1.length : Int))))], []⟩
theorem lleqStreamS_0 {R : Type} (k : Nat) (K : Ex → St → Option R) (c0 : CleqStreamS_0) : ∀ (n : Nat) (v : VleqStreamS_0), loopRun [0, 0, 1, 5] (run E (den E k) (lv 64) k (nthLoop Tryz.f64 0)) n (StleqStreamS_0 c0 v) K = LleqStreamS_0 k (YleqStreamS_0_0 K c0) (YleqStreamS_0_1 K c0) c0 n v := loop_law (B := BleqStreamS_0 k (YleqStreamS_0_0 K c0) (YleqStreamS_0_1 K c0) c0) (fun _ => rfl) (fun n v => by kernel_rfl) (fun _ => rfl) (fun _ _ => rfl)
theorem mleqStreamS_0 (k : Nat) (a0 : List (Int × Int × List Int)) (a1 : List (Int × Int × List Int)) : FleqStreamS (k + 1) a0 a1 = if ((a0.length : Int) != (a1.length : Int)) = true then some false else loopRun (R := Bool) [0, 0, 1, 5] (run E (den E k) (lv 64) k (nthLoop Tryz.f64 0)) k (StleqStreamS_0 (a0, a1) 0) (kontAt E (den E k) (lv 64) k (bodyOf Tryz.f64) 0 [] (finish E (rs 64) Tryz.f64 : Ex → St → Option (Bool))) := by kernel_rfl
theorem eleqStreamS (k : Nat) (a0 : List (Int × Int × List Int)) (a1 : List (Int × Int × List Int)) : FleqStreamS (k + 1) a0 a1 = if ((a0.length : Int) != (a1.length : Int)) = true then some false else LleqStreamS_0 k (fun (v0 : Int) (x1 : Int × Int × List Int) (x2 : Int × Int × List Int) (p3 : Bool) => some false) (fun (v0 : Int) => some true) (a0, a1) k 0 := by
  rw [mleqStreamS_0]
  simp only [lleqStreamS_0]
  kernel_rfl
noncomputable def FleqWorld (k : Nat) (a0 : TWorld) (a1 : TWorld) : Option (Bool) := den E k 9 [.agg (avs sWorld a0), .agg (avs sWorld a1)]
theorem eleqWorld (k : Nat) (a0 : TWorld) (a1 : TWorld) : FleqWorld (k + 1) a0 a1 = (FleqSky k a0.1 a1.1).bind fun p1 => if (!p1) = true then some false else (FleqProgram k a0.2.1 a1.2.1).bind fun p2 => if (!p2) = true then some false else (FleqLaw k a0.2.2.1 a1.2.2.1).bind fun p3 => if (!p3) = true then some false else (FleqIntS k a0.2.2.2.1 a1.2.2.2.1).bind fun p4 => if (!p4) = true then some false else (FleqBatteryS k a0.2.2.2.2.1 a1.2.2.2.2.1).bind fun p5 => if (!p5) = true then some false else (FleqQueueS k a0.2.2.2.2.2.1 a1.2.2.2.2.2.1).bind fun p6 => if (!p6) = true then some false else (FleqFlowS k a0.2.2.2.2.2.2.1 a1.2.2.2.2.2.2.1).bind fun p7 => if (!p7) = true then some false else (FleqIntS k a0.2.2.2.2.2.2.2.1 a1.2.2.2.2.2.2.2.1).bind fun p8 => if (!p8) = true then some false else (FleqStreamS k a0.2.2.2.2.2.2.2.2.1 a1.2.2.2.2.2.2.2.2.1).bind fun p9 => if (!p9) = true then some false else (FleqFaultS k a0.2.2.2.2.2.2.2.2.2.1 a1.2.2.2.2.2.2.2.2.2.1).bind fun p10 => if (!p10) = true then some false else if (a0.2.2.2.2.2.2.2.2.2.2.1 != a1.2.2.2.2.2.2.2.2.2.2.1) = true then some false else if (a0.2.2.2.2.2.2.2.2.2.2.2.1 != a1.2.2.2.2.2.2.2.2.2.2.2.1) = true then some false else (FleqPacketS k a0.2.2.2.2.2.2.2.2.2.2.2.2.1 a1.2.2.2.2.2.2.2.2.2.2.2.2.1).bind fun p11 => if (!p11) = true then some false else (FleqSentS k a0.2.2.2.2.2.2.2.2.2.2.2.2.2 a1.2.2.2.2.2.2.2.2.2.2.2.2.2).bind fun p12 => if (!p12) = true then some false else some true := by kernel_rfl
noncomputable def FlszBatteryS (k : Nat) (a0 : List I6) (a1 : Int) : Option (Int) := den E k 16 [.c (.l 159 sI6 a0), cI a1]
theorem elszBatteryS (k : Nat) (a0 : List I6) (a1 : Int) : FlszBatteryS (k + 1) a0 a1 = if (decide ((IntKind.i64.wrap (a1 - (a0.length : Int))) < 0)) = true then some (-1) else some (IntKind.i64.wrap (a1 - (a0.length : Int))) := by kernel_rfl
noncomputable def FlszFaultS (k : Nat) (a0 : List I4) (a1 : Int) : Option (Int) := den E k 20 [.c (.l 165 sI4 a0), cI a1]
theorem elszFaultS (k : Nat) (a0 : List I4) (a1 : Int) : FlszFaultS (k + 1) a0 a1 = if (decide ((IntKind.i64.wrap (a1 - (a0.length : Int))) < 0)) = true then some (-1) else some (IntKind.i64.wrap (a1 - (a0.length : Int))) := by kernel_rfl
noncomputable def FlszFlowS (k : Nat) (a0 : List I4) (a1 : Int) : Option (Int) := den E k 18 [.c (.l 162 sI4 a0), cI a1]
theorem elszFlowS (k : Nat) (a0 : List I4) (a1 : Int) : FlszFlowS (k + 1) a0 a1 = if (decide ((IntKind.i64.wrap (a1 - (a0.length : Int))) < 0)) = true then some (-1) else some (IntKind.i64.wrap (a1 - (a0.length : Int))) := by kernel_rfl
noncomputable def FlszIntS (k : Nat) (a0 : List Int) (a1 : Int) : Option (Int) := den E k 15 [.c (.l 3 (.i .i64) a0), cI a1]
theorem elszIntS (k : Nat) (a0 : List Int) (a1 : Int) : FlszIntS (k + 1) a0 a1 = if (decide ((IntKind.i64.wrap (a1 - (a0.length : Int))) < 0)) = true then some (-1) else some (IntKind.i64.wrap (a1 - (a0.length : Int))) := by kernel_rfl
noncomputable def FlszLaw (k : Nat) (a0 : List Int) (a1 : Int) : Option (Int) := den E k 14 [.agg [.l 3 (.i .i64) a0], cI a1]
theorem elszLaw (k : Nat) (a0 : List Int) (a1 : Int) : FlszLaw (k + 1) a0 a1 = (FlszIntS k a0 a1).bind fun p1 => if (decide (p1 < 0)) = true then some (-1) else some p1 := by kernel_rfl
noncomputable def FlszPacketS (k : Nat) (a0 : List I6) (a1 : Int) : Option (Int) := den E k 21 [.c (.l 167 sI6 a0), cI a1]
theorem elszPacketS (k : Nat) (a0 : List I6) (a1 : Int) : FlszPacketS (k + 1) a0 a1 = if (decide ((IntKind.i64.wrap (a1 - (a0.length : Int))) < 0)) = true then some (-1) else some (IntKind.i64.wrap (a1 - (a0.length : Int))) := by kernel_rfl
noncomputable def FlszLinkS (k : Nat) (a0 : List I2) (a1 : Int) : Option (Int) := den E k 121 [.c (.l 220 sI2 a0), cI a1]
theorem elszLinkS (k : Nat) (a0 : List I2) (a1 : Int) : FlszLinkS (k + 1) a0 a1 = if (decide ((IntKind.i64.wrap (a1 - (a0.length : Int))) < 0)) = true then some (-1) else some (IntKind.i64.wrap (a1 - (a0.length : Int))) := by kernel_rfl
noncomputable def FlszTable (k : Nat) (a0 : Int × (List Int) × List Int) (a1 : Int) : Option (Int) := den E k 140 [.agg (avs sTable a0), cI a1]
theorem elszTable (k : Nat) (a0 : Int × (List Int) × List Int) (a1 : Int) : FlszTable (k + 1) a0 a1 = (FlszIntS k a0.2.1 a1).bind fun p1 => if (decide (p1 < 0)) = true then some (-1) else (FlszIntS k a0.2.2 p1).bind fun p2 => if (decide (p2 < 0)) = true then some (-1) else some p2 := by kernel_rfl
noncomputable def FlszTableS (k : Nat) (a0 : List (Int × (List Int) × List Int)) (a1 : Int) : Option (Int) := den E k 122 [.c (.l 218 sTable a0), cI a1]
abbrev ClszTableS_0 : Type := (List (Int × (List Int) × List Int))
abbrev VlszTableS_0 : Type := Int × Int
def StlszTableS_0 (c0 : ClszTableS_0) (v0 : VlszTableS_0) : St := ⟨27, 0, [(0, .c (.l 218 sTable c0)), (1, cI v0.1), (5, cI v0.2)], []⟩
noncomputable def BlszTableS_0 {R : Type} (k : Nat) (X0 : VlszTableS_0 → (Int × (List Int) × List Int) → Int → Option R) (X1 : VlszTableS_0 → Option R) (c0 : ClszTableS_0) (rec : VlszTableS_0 → Option R) (v0 : VlszTableS_0) : Option R := if (decide (v0.2 < (c0.length : Int))) = true then if 0 ≤ v0.2 then ix c0 v0.2.toNat fun x1 => (FlszTable k x1 v0.1).bind fun p2 => if (decide (p2 < 0)) = true then X0 v0 x1 p2 else rec (p2, (IntKind.i64.wrap (v0.2 + 1))) else none else X1 v0
noncomputable def LlszTableS_0 {R : Type} (k : Nat) (X0 : VlszTableS_0 → (Int × (List Int) × List Int) → Int → Option R) (X1 : VlszTableS_0 → Option R) (c : ClszTableS_0) : Nat → VlszTableS_0 → Option R
  | 0, _ => none
  | n + 1, v => BlszTableS_0 k X0 X1 c (LlszTableS_0 k X0 X1 c n) v
def YlszTableS_0_0 {R : Type} (K : Ex → St → Option R) (c0 : ClszTableS_0) (v0 : VlszTableS_0) (x1 : Int × (List Int) × List Int) (p2 : Int) : Option R := K .ret ⟨27, 0, [(0, .c (.l 218 sTable c0)), (1, cI p2), (4, cI (-1)), (5, cI v0.2), (12, cI v0.2), (13, .c (.l 218 sTable c0)), (14, cI (c0.length : Int)), (15, cB (decide (v0.2 < (c0.length : Int)))), (18, .c (.l 218 sTable c0)), (19, cI v0.2), (20, .c (.at_ (avs sTable x1))), (21, .agg (avs sTable x1)), (22, cI v0.1), (23, cI p2), (24, cI p2), (25, cB (decide (p2 < 0)))], []⟩
def YlszTableS_0_1 {R : Type} (K : Ex → St → Option R) (c0 : ClszTableS_0) (v0 : VlszTableS_0) : Option R := K (.exit 0) ⟨27, 0, [(0, .c (.l 218 sTable c0)), (1, cI v0.1), (5, cI v0.2), (12, cI v0.2), (13, .c (.l 218 sTable c0)), (14, cI (c0.length : Int)), (15, cB (decide (v0.2 < (c0.length : Int))))], []⟩
theorem llszTableS_0 {R : Type} (k : Nat) (K : Ex → St → Option R) (c0 : ClszTableS_0) : ∀ (n : Nat) (v : VlszTableS_0), loopRun [0, 0, 1, 5] (run E (den E k) (lv 122) k (nthLoop Tryz.f122 0)) n (StlszTableS_0 c0 v) K = LlszTableS_0 k (YlszTableS_0_0 K c0) (YlszTableS_0_1 K c0) c0 n v := loop_law (B := BlszTableS_0 k (YlszTableS_0_0 K c0) (YlszTableS_0_1 K c0) c0) (fun _ => rfl) (fun n v => by kernel_rfl) (fun _ => rfl) (fun _ _ => rfl)
theorem mlszTableS_0 (k : Nat) (a0 : List (Int × (List Int) × List Int)) (a1 : Int) : FlszTableS (k + 1) a0 a1 = if (decide ((IntKind.i64.wrap (a1 - (a0.length : Int))) < 0)) = true then some (-1) else loopRun (R := Int) [0, 0, 1, 5] (run E (den E k) (lv 122) k (nthLoop Tryz.f122 0)) k (StlszTableS_0 a0 ((IntKind.i64.wrap (a1 - (a0.length : Int))), 0)) (kontAt E (den E k) (lv 122) k (bodyOf Tryz.f122) 0 [] (finish E (rs 122) Tryz.f122 : Ex → St → Option (Int))) := by kernel_rfl
theorem elszTableS (k : Nat) (a0 : List (Int × (List Int) × List Int)) (a1 : Int) : FlszTableS (k + 1) a0 a1 = if (decide ((IntKind.i64.wrap (a1 - (a0.length : Int))) < 0)) = true then some (-1) else LlszTableS_0 k (fun (v0 : I2) (x1 : Int × (List Int) × List Int) (p2 : Int) => some (-1)) (fun (v0 : I2) => some v0.1) a0 k ((IntKind.i64.wrap (a1 - (a0.length : Int))), 0) := by
  rw [mlszTableS_0]
  simp only [llszTableS_0]
  kernel_rfl
noncomputable def FlszPiece (k : Nat) (a0 : TPiece) (a1 : Int) : Option (Int) := den E k 106 [.agg (avs sLPiece a0), cI a1]
theorem elszPiece (k : Nat) (a0 : TPiece) (a1 : Int) : FlszPiece (k + 1) a0 a1 = (FlszLinkS k a0.2.1 a1).bind fun p1 => if (decide (p1 < 0)) = true then some (-1) else (FlszTableS k a0.2.2 p1).bind fun p2 => if (decide (p2 < 0)) = true then some (-1) else some p2 := by kernel_rfl
noncomputable def FlszPieceS (k : Nat) (a0 : List TPiece) (a1 : Int) : Option (Int) := den E k 74 [.c (.l 183 sLPiece a0), cI a1]
abbrev ClszPieceS_0 : Type := (List TPiece)
abbrev VlszPieceS_0 : Type := Int × Int
def StlszPieceS_0 (c0 : ClszPieceS_0) (v0 : VlszPieceS_0) : St := ⟨27, 0, [(0, .c (.l 183 sLPiece c0)), (1, cI v0.1), (5, cI v0.2)], []⟩
noncomputable def BlszPieceS_0 {R : Type} (k : Nat) (X0 : VlszPieceS_0 → TPiece → Int → Option R) (X1 : VlszPieceS_0 → Option R) (c0 : ClszPieceS_0) (rec : VlszPieceS_0 → Option R) (v0 : VlszPieceS_0) : Option R := if (decide (v0.2 < (c0.length : Int))) = true then if 0 ≤ v0.2 then ix c0 v0.2.toNat fun x1 => (FlszPiece k x1 v0.1).bind fun p2 => if (decide (p2 < 0)) = true then X0 v0 x1 p2 else rec (p2, (IntKind.i64.wrap (v0.2 + 1))) else none else X1 v0
noncomputable def LlszPieceS_0 {R : Type} (k : Nat) (X0 : VlszPieceS_0 → TPiece → Int → Option R) (X1 : VlszPieceS_0 → Option R) (c : ClszPieceS_0) : Nat → VlszPieceS_0 → Option R
  | 0, _ => none
  | n + 1, v => BlszPieceS_0 k X0 X1 c (LlszPieceS_0 k X0 X1 c n) v
def YlszPieceS_0_0 {R : Type} (K : Ex → St → Option R) (c0 : ClszPieceS_0) (v0 : VlszPieceS_0) (x1 : TPiece) (p2 : Int) : Option R := K .ret ⟨27, 0, [(0, .c (.l 183 sLPiece c0)), (1, cI p2), (4, cI (-1)), (5, cI v0.2), (12, cI v0.2), (13, .c (.l 183 sLPiece c0)), (14, cI (c0.length : Int)), (15, cB (decide (v0.2 < (c0.length : Int)))), (18, .c (.l 183 sLPiece c0)), (19, cI v0.2), (20, .c (.at_ (avs sLPiece x1))), (21, .agg (avs sLPiece x1)), (22, cI v0.1), (23, cI p2), (24, cI p2), (25, cB (decide (p2 < 0)))], []⟩
def YlszPieceS_0_1 {R : Type} (K : Ex → St → Option R) (c0 : ClszPieceS_0) (v0 : VlszPieceS_0) : Option R := K (.exit 0) ⟨27, 0, [(0, .c (.l 183 sLPiece c0)), (1, cI v0.1), (5, cI v0.2), (12, cI v0.2), (13, .c (.l 183 sLPiece c0)), (14, cI (c0.length : Int)), (15, cB (decide (v0.2 < (c0.length : Int))))], []⟩
theorem llszPieceS_0 {R : Type} (k : Nat) (K : Ex → St → Option R) (c0 : ClszPieceS_0) : ∀ (n : Nat) (v : VlszPieceS_0), loopRun [0, 0, 1, 5] (run E (den E k) (lv 74) k (nthLoop Tryz.f74 0)) n (StlszPieceS_0 c0 v) K = LlszPieceS_0 k (YlszPieceS_0_0 K c0) (YlszPieceS_0_1 K c0) c0 n v := loop_law (B := BlszPieceS_0 k (YlszPieceS_0_0 K c0) (YlszPieceS_0_1 K c0) c0) (fun _ => rfl) (fun n v => by kernel_rfl) (fun _ => rfl) (fun _ _ => rfl)
theorem mlszPieceS_0 (k : Nat) (a0 : List TPiece) (a1 : Int) : FlszPieceS (k + 1) a0 a1 = if (decide ((IntKind.i64.wrap (a1 - (a0.length : Int))) < 0)) = true then some (-1) else loopRun (R := Int) [0, 0, 1, 5] (run E (den E k) (lv 74) k (nthLoop Tryz.f74 0)) k (StlszPieceS_0 a0 ((IntKind.i64.wrap (a1 - (a0.length : Int))), 0)) (kontAt E (den E k) (lv 74) k (bodyOf Tryz.f74) 0 [] (finish E (rs 74) Tryz.f74 : Ex → St → Option (Int))) := by kernel_rfl
theorem elszPieceS (k : Nat) (a0 : List TPiece) (a1 : Int) : FlszPieceS (k + 1) a0 a1 = if (decide ((IntKind.i64.wrap (a1 - (a0.length : Int))) < 0)) = true then some (-1) else LlszPieceS_0 k (fun (v0 : I2) (x1 : TPiece) (p2 : Int) => some (-1)) (fun (v0 : I2) => some v0.1) a0 k ((IntKind.i64.wrap (a1 - (a0.length : Int))), 0) := by
  rw [mlszPieceS_0]
  simp only [llszPieceS_0]
  kernel_rfl
noncomputable def FlszProgram (k : Nat) (a0 : TProgram) (a1 : Int) : Option (Int) := den E k 13 [.agg (avs sLProgram a0), cI a1]
theorem elszProgram (k : Nat) (a0 : TProgram) (a1 : Int) : FlszProgram (k + 1) a0 a1 = (FlszPieceS k a0.2.2.2 a1).bind fun p1 => if (decide (p1 < 0)) = true then some (-1) else some p1 := by kernel_rfl
noncomputable def FlszQueue (k : Nat) (a0 : List I6) (a1 : Int) : Option (Int) := den E k 75 [.agg [.l 167 sI6 a0], cI a1]
theorem elszQueue (k : Nat) (a0 : List I6) (a1 : Int) : FlszQueue (k + 1) a0 a1 = (FlszPacketS k a0 a1).bind fun p1 => if (decide (p1 < 0)) = true then some (-1) else some p1 := by kernel_rfl
noncomputable def FlszQueueS (k : Nat) (a0 : List (List I6)) (a1 : Int) : Option (Int) := den E k 17 [.c (.l 151 sLQueue a0), cI a1]
abbrev ClszQueueS_0 : Type := (List (List I6))
abbrev VlszQueueS_0 : Type := Int × Int
def StlszQueueS_0 (c0 : ClszQueueS_0) (v0 : VlszQueueS_0) : St := ⟨27, 0, [(0, .c (.l 151 sLQueue c0)), (1, cI v0.1), (5, cI v0.2)], []⟩
noncomputable def BlszQueueS_0 {R : Type} (k : Nat) (X0 : VlszQueueS_0 → (List I6) → Int → Option R) (X1 : VlszQueueS_0 → Option R) (c0 : ClszQueueS_0) (rec : VlszQueueS_0 → Option R) (v0 : VlszQueueS_0) : Option R := if (decide (v0.2 < (c0.length : Int))) = true then if 0 ≤ v0.2 then ix c0 v0.2.toNat fun x1 => (FlszQueue k x1 v0.1).bind fun p2 => if (decide (p2 < 0)) = true then X0 v0 x1 p2 else rec (p2, (IntKind.i64.wrap (v0.2 + 1))) else none else X1 v0
noncomputable def LlszQueueS_0 {R : Type} (k : Nat) (X0 : VlszQueueS_0 → (List I6) → Int → Option R) (X1 : VlszQueueS_0 → Option R) (c : ClszQueueS_0) : Nat → VlszQueueS_0 → Option R
  | 0, _ => none
  | n + 1, v => BlszQueueS_0 k X0 X1 c (LlszQueueS_0 k X0 X1 c n) v
def YlszQueueS_0_0 {R : Type} (K : Ex → St → Option R) (c0 : ClszQueueS_0) (v0 : VlszQueueS_0) (x1 : List I6) (p2 : Int) : Option R := K .ret ⟨27, 0, [(0, .c (.l 151 sLQueue c0)), (1, cI p2), (4, cI (-1)), (5, cI v0.2), (12, cI v0.2), (13, .c (.l 151 sLQueue c0)), (14, cI (c0.length : Int)), (15, cB (decide (v0.2 < (c0.length : Int)))), (18, .c (.l 151 sLQueue c0)), (19, cI v0.2), (20, .c (.at_ [.l 167 sI6 x1])), (21, .agg [.l 167 sI6 x1]), (22, cI v0.1), (23, cI p2), (24, cI p2), (25, cB (decide (p2 < 0)))], []⟩
def YlszQueueS_0_1 {R : Type} (K : Ex → St → Option R) (c0 : ClszQueueS_0) (v0 : VlszQueueS_0) : Option R := K (.exit 0) ⟨27, 0, [(0, .c (.l 151 sLQueue c0)), (1, cI v0.1), (5, cI v0.2), (12, cI v0.2), (13, .c (.l 151 sLQueue c0)), (14, cI (c0.length : Int)), (15, cB (decide (v0.2 < (c0.length : Int))))], []⟩
theorem llszQueueS_0 {R : Type} (k : Nat) (K : Ex → St → Option R) (c0 : ClszQueueS_0) : ∀ (n : Nat) (v : VlszQueueS_0), loopRun [0, 0, 1, 5] (run E (den E k) (lv 17) k (nthLoop Tryz.f17 0)) n (StlszQueueS_0 c0 v) K = LlszQueueS_0 k (YlszQueueS_0_0 K c0) (YlszQueueS_0_1 K c0) c0 n v := loop_law (B := BlszQueueS_0 k (YlszQueueS_0_0 K c0) (YlszQueueS_0_1 K c0) c0) (fun _ => rfl) (fun n v => by kernel_rfl) (fun _ => rfl) (fun _ _ => rfl)
theorem mlszQueueS_0 (k : Nat) (a0 : List (List I6)) (a1 : Int) : FlszQueueS (k + 1) a0 a1 = if (decide ((IntKind.i64.wrap (a1 - (a0.length : Int))) < 0)) = true then some (-1) else loopRun (R := Int) [0, 0, 1, 5] (run E (den E k) (lv 17) k (nthLoop Tryz.f17 0)) k (StlszQueueS_0 a0 ((IntKind.i64.wrap (a1 - (a0.length : Int))), 0)) (kontAt E (den E k) (lv 17) k (bodyOf Tryz.f17) 0 [] (finish E (rs 17) Tryz.f17 : Ex → St → Option (Int))) := by kernel_rfl
theorem elszQueueS (k : Nat) (a0 : List (List I6)) (a1 : Int) : FlszQueueS (k + 1) a0 a1 = if (decide ((IntKind.i64.wrap (a1 - (a0.length : Int))) < 0)) = true then some (-1) else LlszQueueS_0 k (fun (v0 : I2) (x1 : List I6) (p2 : Int) => some (-1)) (fun (v0 : I2) => some v0.1) a0 k ((IntKind.i64.wrap (a1 - (a0.length : Int))), 0) := by
  rw [mlszQueueS_0]
  simp only [llszQueueS_0]
  kernel_rfl
noncomputable def FlszSentS (k : Nat) (a0 : List I4) (a1 : Int) : Option (Int) := den E k 22 [.c (.l 169 sI4 a0), cI a1]
theorem elszSentS (k : Nat) (a0 : List I4) (a1 : Int) : FlszSentS (k + 1) a0 a1 = if (decide ((IntKind.i64.wrap (a1 - (a0.length : Int))) < 0)) = true then some (-1) else some (IntKind.i64.wrap (a1 - (a0.length : Int))) := by kernel_rfl
noncomputable def FlszSatS (k : Nat) (a0 : List I4) (a1 : Int) : Option (Int) := den E k 71 [.c (.l 185 sI4 a0), cI a1]
theorem elszSatS (k : Nat) (a0 : List I4) (a1 : Int) : FlszSatS (k + 1) a0 a1 = if (decide ((IntKind.i64.wrap (a1 - (a0.length : Int))) < 0)) = true then some (-1) else some (IntKind.i64.wrap (a1 - (a0.length : Int))) := by kernel_rfl
noncomputable def FlszSiteS (k : Nat) (a0 : List I3) (a1 : Int) : Option (Int) := den E k 72 [.c (.l 187 sI3 a0), cI a1]
theorem elszSiteS (k : Nat) (a0 : List I3) (a1 : Int) : FlszSiteS (k + 1) a0 a1 = if (decide ((IntKind.i64.wrap (a1 - (a0.length : Int))) < 0)) = true then some (-1) else some (IntKind.i64.wrap (a1 - (a0.length : Int))) := by kernel_rfl
noncomputable def FlszZoneS (k : Nat) (a0 : List I3) (a1 : Int) : Option (Int) := den E k 73 [.c (.l 191 sZone a0), cI a1]
theorem elszZoneS (k : Nat) (a0 : List I3) (a1 : Int) : FlszZoneS (k + 1) a0 a1 = if (decide ((IntKind.i64.wrap (a1 - (a0.length : Int))) < 0)) = true then some (-1) else some (IntKind.i64.wrap (a1 - (a0.length : Int))) := by kernel_rfl
noncomputable def FlszSky (k : Nat) (a0 : TSky) (a1 : Int) : Option (Int) := den E k 12 [.agg (avs sLSky a0), cI a1]
theorem elszSky (k : Nat) (a0 : TSky) (a1 : Int) : FlszSky (k + 1) a0 a1 = (FlszSatS k a0.2.1 a1).bind fun p1 => if (decide (p1 < 0)) = true then some (-1) else (FlszSiteS k a0.2.2.1 p1).bind fun p2 => if (decide (p2 < 0)) = true then some (-1) else (FlszZoneS k a0.2.2.2.2.2.2.2.2.1 p2).bind fun p3 => if (decide (p3 < 0)) = true then some (-1) else some p3 := by kernel_rfl
noncomputable def FlszStream (k : Nat) (a0 : Int × Int × List Int) (a1 : Int) : Option (Int) := den E k 76 [.agg (avs sStream a0), cI a1]
theorem elszStream (k : Nat) (a0 : Int × Int × List Int) (a1 : Int) : FlszStream (k + 1) a0 a1 = (FlszIntS k a0.2.2 a1).bind fun p1 => if (decide (p1 < 0)) = true then some (-1) else some p1 := by kernel_rfl
noncomputable def FlszStreamS (k : Nat) (a0 : List (Int × Int × List Int)) (a1 : Int) : Option (Int) := den E k 19 [.c (.l 153 sStream a0), cI a1]
abbrev ClszStreamS_0 : Type := (List (Int × Int × List Int))
abbrev VlszStreamS_0 : Type := Int × Int
def StlszStreamS_0 (c0 : ClszStreamS_0) (v0 : VlszStreamS_0) : St := ⟨27, 0, [(0, .c (.l 153 sStream c0)), (1, cI v0.1), (5, cI v0.2)], []⟩
noncomputable def BlszStreamS_0 {R : Type} (k : Nat) (X0 : VlszStreamS_0 → (Int × Int × List Int) → Int → Option R) (X1 : VlszStreamS_0 → Option R) (c0 : ClszStreamS_0) (rec : VlszStreamS_0 → Option R) (v0 : VlszStreamS_0) : Option R := if (decide (v0.2 < (c0.length : Int))) = true then if 0 ≤ v0.2 then ix c0 v0.2.toNat fun x1 => (FlszStream k x1 v0.1).bind fun p2 => if (decide (p2 < 0)) = true then X0 v0 x1 p2 else rec (p2, (IntKind.i64.wrap (v0.2 + 1))) else none else X1 v0
noncomputable def LlszStreamS_0 {R : Type} (k : Nat) (X0 : VlszStreamS_0 → (Int × Int × List Int) → Int → Option R) (X1 : VlszStreamS_0 → Option R) (c : ClszStreamS_0) : Nat → VlszStreamS_0 → Option R
  | 0, _ => none
  | n + 1, v => BlszStreamS_0 k X0 X1 c (LlszStreamS_0 k X0 X1 c n) v
def YlszStreamS_0_0 {R : Type} (K : Ex → St → Option R) (c0 : ClszStreamS_0) (v0 : VlszStreamS_0) (x1 : Int × Int × List Int) (p2 : Int) : Option R := K .ret ⟨27, 0, [(0, .c (.l 153 sStream c0)), (1, cI p2), (4, cI (-1)), (5, cI v0.2), (12, cI v0.2), (13, .c (.l 153 sStream c0)), (14, cI (c0.length : Int)), (15, cB (decide (v0.2 < (c0.length : Int)))), (18, .c (.l 153 sStream c0)), (19, cI v0.2), (20, .c (.at_ (avs sStream x1))), (21, .agg (avs sStream x1)), (22, cI v0.1), (23, cI p2), (24, cI p2), (25, cB (decide (p2 < 0)))], []⟩
def YlszStreamS_0_1 {R : Type} (K : Ex → St → Option R) (c0 : ClszStreamS_0) (v0 : VlszStreamS_0) : Option R := K (.exit 0) ⟨27, 0, [(0, .c (.l 153 sStream c0)), (1, cI v0.1), (5, cI v0.2), (12, cI v0.2), (13, .c (.l 153 sStream c0)), (14, cI (c0.length : Int)), (15, cB (decide (v0.2 < (c0.length : Int))))], []⟩
theorem llszStreamS_0 {R : Type} (k : Nat) (K : Ex → St → Option R) (c0 : ClszStreamS_0) : ∀ (n : Nat) (v : VlszStreamS_0), loopRun [0, 0, 1, 5] (run E (den E k) (lv 19) k (nthLoop Tryz.f19 0)) n (StlszStreamS_0 c0 v) K = LlszStreamS_0 k (YlszStreamS_0_0 K c0) (YlszStreamS_0_1 K c0) c0 n v := loop_law (B := BlszStreamS_0 k (YlszStreamS_0_0 K c0) (YlszStreamS_0_1 K c0) c0) (fun _ => rfl) (fun n v => by kernel_rfl) (fun _ => rfl) (fun _ _ => rfl)
theorem mlszStreamS_0 (k : Nat) (a0 : List (Int × Int × List Int)) (a1 : Int) : FlszStreamS (k + 1) a0 a1 = if (decide ((IntKind.i64.wrap (a1 - (a0.length : Int))) < 0)) = true then some (-1) else loopRun (R := Int) [0, 0, 1, 5] (run E (den E k) (lv 19) k (nthLoop Tryz.f19 0)) k (StlszStreamS_0 a0 ((IntKind.i64.wrap (a1 - (a0.length : Int))), 0)) (kontAt E (den E k) (lv 19) k (bodyOf Tryz.f19) 0 [] (finish E (rs 19) Tryz.f19 : Ex → St → Option (Int))) := by kernel_rfl
theorem elszStreamS (k : Nat) (a0 : List (Int × Int × List Int)) (a1 : Int) : FlszStreamS (k + 1) a0 a1 = if (decide ((IntKind.i64.wrap (a1 - (a0.length : Int))) < 0)) = true then some (-1) else LlszStreamS_0 k (fun (v0 : I2) (x1 : Int × Int × List Int) (p2 : Int) => some (-1)) (fun (v0 : I2) => some v0.1) a0 k ((IntKind.i64.wrap (a1 - (a0.length : Int))), 0) := by
  rw [mlszStreamS_0]
  simp only [llszStreamS_0]
  kernel_rfl
noncomputable def FlszWorld (k : Nat) (a0 : TWorld) (a1 : Int) : Option (Int) := den E k 5 [.agg (avs sLWorld a0), cI a1]
theorem elszWorld (k : Nat) (a0 : TWorld) (a1 : Int) : FlszWorld (k + 1) a0 a1 = (FlszSky k a0.1 a1).bind fun p1 => if (decide (p1 < 0)) = true then some (-1) else (FlszProgram k a0.2.1 p1).bind fun p2 => if (decide (p2 < 0)) = true then some (-1) else (FlszLaw k a0.2.2.1 p2).bind fun p3 => if (decide (p3 < 0)) = true then some (-1) else (FlszIntS k a0.2.2.2.1 p3).bind fun p4 => if (decide (p4 < 0)) = true then some (-1) else (FlszBatteryS k a0.2.2.2.2.1 p4).bind fun p5 => if (decide (p5 < 0)) = true then some (-1) else (FlszQueueS k a0.2.2.2.2.2.1 p5).bind fun p6 => if (decide (p6 < 0)) = true then some (-1) else (FlszFlowS k a0.2.2.2.2.2.2.1 p6).bind fun p7 => if (decide (p7 < 0)) = true then some (-1) else (FlszIntS k a0.2.2.2.2.2.2.2.1 p7).bind fun p8 => if (decide (p8 < 0)) = true then some (-1) else (FlszStreamS k a0.2.2.2.2.2.2.2.2.1 p8).bind fun p9 => if (decide (p9 < 0)) = true then some (-1) else (FlszFaultS k a0.2.2.2.2.2.2.2.2.2.1 p9).bind fun p10 => if (decide (p10 < 0)) = true then some (-1) else (FlszPacketS k a0.2.2.2.2.2.2.2.2.2.2.2.2.1 p10).bind fun p11 => if (decide (p11 < 0)) = true then some (-1) else (FlszSentS k a0.2.2.2.2.2.2.2.2.2.2.2.2.2 p11).bind fun p12 => if (decide (p12 < 0)) = true then some (-1) else some p12 := by kernel_rfl
noncomputable def FltoBattery (k : Nat) (a0 : I6) : Option I6 := den E k 84 [.agg (avs sI6 a0)]
theorem eltoBattery (k : Nat) (a0 : I6) : FltoBattery (k + 1) a0 = some a0 := by kernel_rfl
noncomputable def FltoBatteryS (k : Nat) (a0 : List I6) : Option (List I6) := den E k 32 [.c (.l 159 sI6 a0)]
abbrev CltoBatteryS_0 : Type := (List I6)
abbrev VltoBatteryS_0 : Type := Int × (List I6)
def StltoBatteryS_0 (c0 : CltoBatteryS_0) (v0 : VltoBatteryS_0) : St := ⟨23, 1, [(0, .c (.l 159 sI6 c0)), (3, .c (.ref 0)), (4, cI v0.1)], [(0, .arr 126 sI6 v0.2)]⟩
noncomputable def BltoBatteryS_0 {R : Type} (k : Nat) (X0 : VltoBatteryS_0 → Option R) (c0 : CltoBatteryS_0) (rec : VltoBatteryS_0 → Option R) (v0 : VltoBatteryS_0) : Option R := if (decide (v0.1 < (c0.length : Int))) = true then if 0 ≤ v0.1 then ix c0 v0.1.toNat fun x1 => (FltoBattery k x1).bind fun p2 => if 0 ≤ v0.1 then if v0.1 < (v0.2.length : Int) then ix v0.2 v0.1.toNat fun y3 => rec ((IntKind.i64.wrap (v0.1 + 1)), (v0.2.set v0.1.toNat p2)) else none else none else none else X0 v0
noncomputable def LltoBatteryS_0 {R : Type} (k : Nat) (X0 : VltoBatteryS_0 → Option R) (c : CltoBatteryS_0) : Nat → VltoBatteryS_0 → Option R
  | 0, _ => none
  | n + 1, v => BltoBatteryS_0 k X0 c (LltoBatteryS_0 k X0 c n) v
def YltoBatteryS_0_0 {R : Type} (K : Ex → St → Option R) (c0 : CltoBatteryS_0) (v0 : VltoBatteryS_0) : Option R := K (.exit 0) ⟨23, 1, [(0, .c (.l 159 sI6 c0)), (3, .c (.ref 0)), (4, cI v0.1), (8, cI v0.1), (9, .c (.l 159 sI6 c0)), (10, cI (c0.length : Int)), (11, cB (decide (v0.1 < (c0.length : Int))))], [(0, .arr 126 sI6 v0.2)]⟩
theorem lltoBatteryS_0 {R : Type} (k : Nat) (K : Ex → St → Option R) (c0 : CltoBatteryS_0) : ∀ (n : Nat) (v : VltoBatteryS_0), loopRun [0, 0, 3, 4] (run E (den E k) (lv 32) k (nthLoop Tryz.f32 0)) n (StltoBatteryS_0 c0 v) K = LltoBatteryS_0 k (YltoBatteryS_0_0 K c0) c0 n v := loop_law (B := BltoBatteryS_0 k (YltoBatteryS_0_0 K c0) c0) (fun _ => rfl) (fun n v => by kernel_rfl) (fun _ => rfl) (fun _ _ => rfl)
theorem mltoBatteryS_0 (k : Nat) (a0 : List I6) : FltoBatteryS (k + 1) a0 = if ((a0.length : Int) == (a0.length : Int)) = true then if 0 ≤ (a0.length : Int) then if 48 * (a0.length : Int).toNat ≤ 281474976710656 then loopRun (R := List I6) [0, 0, 3, 4] (run E (den E k) (lv 32) k (nthLoop Tryz.f32 0)) k (StltoBatteryS_0 a0 (0, (List.replicate (a0.length : Int).toNat ((0, 0, 0, 0, 0, 0) : I6)))) (kontAt E (den E k) (lv 32) k (bodyOf Tryz.f32) 0 [] (finish E (rs 32) Tryz.f32 : Ex → St → Option (List I6))) else none else none else none := by kernel_rfl
theorem eltoBatteryS (k : Nat) (a0 : List I6) : FltoBatteryS (k + 1) a0 = if ((a0.length : Int) == (a0.length : Int)) = true then if 0 ≤ (a0.length : Int) then if 48 * (a0.length : Int).toNat ≤ 281474976710656 then LltoBatteryS_0 k (fun (v0 : Int × (List I6)) => some v0.2) a0 k (0, (List.replicate (a0.length : Int).toNat ((0, 0, 0, 0, 0, 0) : I6))) else none else none else none := by
  rw [mltoBatteryS_0]
  simp only [lltoBatteryS_0]
  kernel_rfl
noncomputable def FltoFault (k : Nat) (a0 : I4) : Option I4 := den E k 88 [.agg (avs sI4 a0)]
theorem eltoFault (k : Nat) (a0 : I4) : FltoFault (k + 1) a0 = some a0 := by kernel_rfl
noncomputable def FltoFaultS (k : Nat) (a0 : List I4) : Option (List I4) := den E k 36 [.c (.l 165 sI4 a0)]
abbrev CltoFaultS_0 : Type := (List I4)
abbrev VltoFaultS_0 : Type := Int × (List I4)
def StltoFaultS_0 (c0 : CltoFaultS_0) (v0 : VltoFaultS_0) : St := ⟨23, 1, [(0, .c (.l 165 sI4 c0)), (3, .c (.ref 0)), (4, cI v0.1)], [(0, .arr 136 sI4 v0.2)]⟩
noncomputable def BltoFaultS_0 {R : Type} (k : Nat) (X0 : VltoFaultS_0 → Option R) (c0 : CltoFaultS_0) (rec : VltoFaultS_0 → Option R) (v0 : VltoFaultS_0) : Option R := if (decide (v0.1 < (c0.length : Int))) = true then if 0 ≤ v0.1 then ix c0 v0.1.toNat fun x1 => (FltoFault k x1).bind fun p2 => if 0 ≤ v0.1 then if v0.1 < (v0.2.length : Int) then ix v0.2 v0.1.toNat fun y3 => rec ((IntKind.i64.wrap (v0.1 + 1)), (v0.2.set v0.1.toNat p2)) else none else none else none else X0 v0
noncomputable def LltoFaultS_0 {R : Type} (k : Nat) (X0 : VltoFaultS_0 → Option R) (c : CltoFaultS_0) : Nat → VltoFaultS_0 → Option R
  | 0, _ => none
  | n + 1, v => BltoFaultS_0 k X0 c (LltoFaultS_0 k X0 c n) v
def YltoFaultS_0_0 {R : Type} (K : Ex → St → Option R) (c0 : CltoFaultS_0) (v0 : VltoFaultS_0) : Option R := K (.exit 0) ⟨23, 1, [(0, .c (.l 165 sI4 c0)), (3, .c (.ref 0)), (4, cI v0.1), (8, cI v0.1), (9, .c (.l 165 sI4 c0)), (10, cI (c0.length : Int)), (11, cB (decide (v0.1 < (c0.length : Int))))], [(0, .arr 136 sI4 v0.2)]⟩
theorem lltoFaultS_0 {R : Type} (k : Nat) (K : Ex → St → Option R) (c0 : CltoFaultS_0) : ∀ (n : Nat) (v : VltoFaultS_0), loopRun [0, 0, 3, 4] (run E (den E k) (lv 36) k (nthLoop Tryz.f36 0)) n (StltoFaultS_0 c0 v) K = LltoFaultS_0 k (YltoFaultS_0_0 K c0) c0 n v := loop_law (B := BltoFaultS_0 k (YltoFaultS_0_0 K c0) c0) (fun _ => rfl) (fun n v => by kernel_rfl) (fun _ => rfl) (fun _ _ => rfl)
theorem mltoFaultS_0 (k : Nat) (a0 : List I4) : FltoFaultS (k + 1) a0 = if ((a0.length : Int) == (a0.length : Int)) = true then if 0 ≤ (a0.length : Int) then if 32 * (a0.length : Int).toNat ≤ 281474976710656 then loopRun (R := List I4) [0, 0, 3, 4] (run E (den E k) (lv 36) k (nthLoop Tryz.f36 0)) k (StltoFaultS_0 a0 (0, (List.replicate (a0.length : Int).toNat ((0, 0, 0, 0) : I4)))) (kontAt E (den E k) (lv 36) k (bodyOf Tryz.f36) 0 [] (finish E (rs 36) Tryz.f36 : Ex → St → Option (List I4))) else none else none else none := by kernel_rfl
theorem eltoFaultS (k : Nat) (a0 : List I4) : FltoFaultS (k + 1) a0 = if ((a0.length : Int) == (a0.length : Int)) = true then if 0 ≤ (a0.length : Int) then if 32 * (a0.length : Int).toNat ≤ 281474976710656 then LltoFaultS_0 k (fun (v0 : Int × (List I4)) => some v0.2) a0 k (0, (List.replicate (a0.length : Int).toNat ((0, 0, 0, 0) : I4))) else none else none else none := by
  rw [mltoFaultS_0]
  simp only [lltoFaultS_0]
  kernel_rfl
noncomputable def FltoFlow (k : Nat) (a0 : I4) : Option I4 := den E k 86 [.agg (avs sI4 a0)]
theorem eltoFlow (k : Nat) (a0 : I4) : FltoFlow (k + 1) a0 = some a0 := by kernel_rfl
noncomputable def FltoFlowS (k : Nat) (a0 : List I4) : Option (List I4) := den E k 34 [.c (.l 162 sI4 a0)]
abbrev CltoFlowS_0 : Type := (List I4)
abbrev VltoFlowS_0 : Type := Int × (List I4)
def StltoFlowS_0 (c0 : CltoFlowS_0) (v0 : VltoFlowS_0) : St := ⟨23, 1, [(0, .c (.l 162 sI4 c0)), (3, .c (.ref 0)), (4, cI v0.1)], [(0, .arr 129 sI4 v0.2)]⟩
noncomputable def BltoFlowS_0 {R : Type} (k : Nat) (X0 : VltoFlowS_0 → Option R) (c0 : CltoFlowS_0) (rec : VltoFlowS_0 → Option R) (v0 : VltoFlowS_0) : Option R := if (decide (v0.1 < (c0.length : Int))) = true then if 0 ≤ v0.1 then ix c0 v0.1.toNat fun x1 => (FltoFlow k x1).bind fun p2 => if 0 ≤ v0.1 then if v0.1 < (v0.2.length : Int) then ix v0.2 v0.1.toNat fun y3 => rec ((IntKind.i64.wrap (v0.1 + 1)), (v0.2.set v0.1.toNat p2)) else none else none else none else X0 v0
noncomputable def LltoFlowS_0 {R : Type} (k : Nat) (X0 : VltoFlowS_0 → Option R) (c : CltoFlowS_0) : Nat → VltoFlowS_0 → Option R
  | 0, _ => none
  | n + 1, v => BltoFlowS_0 k X0 c (LltoFlowS_0 k X0 c n) v
def YltoFlowS_0_0 {R : Type} (K : Ex → St → Option R) (c0 : CltoFlowS_0) (v0 : VltoFlowS_0) : Option R := K (.exit 0) ⟨23, 1, [(0, .c (.l 162 sI4 c0)), (3, .c (.ref 0)), (4, cI v0.1), (8, cI v0.1), (9, .c (.l 162 sI4 c0)), (10, cI (c0.length : Int)), (11, cB (decide (v0.1 < (c0.length : Int))))], [(0, .arr 129 sI4 v0.2)]⟩
theorem lltoFlowS_0 {R : Type} (k : Nat) (K : Ex → St → Option R) (c0 : CltoFlowS_0) : ∀ (n : Nat) (v : VltoFlowS_0), loopRun [0, 0, 3, 4] (run E (den E k) (lv 34) k (nthLoop Tryz.f34 0)) n (StltoFlowS_0 c0 v) K = LltoFlowS_0 k (YltoFlowS_0_0 K c0) c0 n v := loop_law (B := BltoFlowS_0 k (YltoFlowS_0_0 K c0) c0) (fun _ => rfl) (fun n v => by kernel_rfl) (fun _ => rfl) (fun _ _ => rfl)
theorem mltoFlowS_0 (k : Nat) (a0 : List I4) : FltoFlowS (k + 1) a0 = if ((a0.length : Int) == (a0.length : Int)) = true then if 0 ≤ (a0.length : Int) then if 32 * (a0.length : Int).toNat ≤ 281474976710656 then loopRun (R := List I4) [0, 0, 3, 4] (run E (den E k) (lv 34) k (nthLoop Tryz.f34 0)) k (StltoFlowS_0 a0 (0, (List.replicate (a0.length : Int).toNat ((0, 0, 0, 0) : I4)))) (kontAt E (den E k) (lv 34) k (bodyOf Tryz.f34) 0 [] (finish E (rs 34) Tryz.f34 : Ex → St → Option (List I4))) else none else none else none := by kernel_rfl
theorem eltoFlowS (k : Nat) (a0 : List I4) : FltoFlowS (k + 1) a0 = if ((a0.length : Int) == (a0.length : Int)) = true then if 0 ≤ (a0.length : Int) then if 32 * (a0.length : Int).toNat ≤ 281474976710656 then LltoFlowS_0 k (fun (v0 : Int × (List I4)) => some v0.2) a0 k (0, (List.replicate (a0.length : Int).toNat ((0, 0, 0, 0) : I4))) else none else none else none := by
  rw [mltoFlowS_0]
  simp only [lltoFlowS_0]
  kernel_rfl
noncomputable def FltoIntS (k : Nat) (a0 : List Int) : Option (List Int) := den E k 31 [.c (.l 3 (.i .i64) a0)]
abbrev CltoIntS_0 : Type := (List Int)
abbrev VltoIntS_0 : Type := Int × (List Int)
def StltoIntS_0 (c0 : CltoIntS_0) (v0 : VltoIntS_0) : St := ⟨22, 1, [(0, .c (.l 3 (.i .i64) c0)), (3, .c (.ref 0)), (4, cI v0.1)], [(0, .arr 3 (.i .i64) v0.2)]⟩
noncomputable def BltoIntS_0 {R : Type} (k : Nat) (X0 : VltoIntS_0 → Option R) (c0 : CltoIntS_0) (rec : VltoIntS_0 → Option R) (v0 : VltoIntS_0) : Option R := if (decide (v0.1 < (c0.length : Int))) = true then if 0 ≤ v0.1 then ix c0 v0.1.toNat fun x1 => if 0 ≤ v0.1 then if v0.1 < (v0.2.length : Int) then ix v0.2 v0.1.toNat fun y2 => rec ((IntKind.i64.wrap (v0.1 + 1)), (v0.2.set v0.1.toNat x1)) else none else none else none else X0 v0
noncomputable def LltoIntS_0 {R : Type} (k : Nat) (X0 : VltoIntS_0 → Option R) (c : CltoIntS_0) : Nat → VltoIntS_0 → Option R
  | 0, _ => none
  | n + 1, v => BltoIntS_0 k X0 c (LltoIntS_0 k X0 c n) v
def YltoIntS_0_0 {R : Type} (K : Ex → St → Option R) (c0 : CltoIntS_0) (v0 : VltoIntS_0) : Option R := K (.exit 0) ⟨22, 1, [(0, .c (.l 3 (.i .i64) c0)), (3, .c (.ref 0)), (4, cI v0.1), (8, cI v0.1), (9, .c (.l 3 (.i .i64) c0)), (10, cI (c0.length : Int)), (11, cB (decide (v0.1 < (c0.length : Int))))], [(0, .arr 3 (.i .i64) v0.2)]⟩
theorem lltoIntS_0 {R : Type} (k : Nat) (K : Ex → St → Option R) (c0 : CltoIntS_0) : ∀ (n : Nat) (v : VltoIntS_0), loopRun [0, 0, 3, 4] (run E (den E k) (lv 31) k (nthLoop Tryz.f31 0)) n (StltoIntS_0 c0 v) K = LltoIntS_0 k (YltoIntS_0_0 K c0) c0 n v := loop_law (B := BltoIntS_0 k (YltoIntS_0_0 K c0) c0) (fun _ => rfl) (fun n v => by kernel_rfl) (fun _ => rfl) (fun _ _ => rfl)
theorem mltoIntS_0 (k : Nat) (a0 : List Int) : FltoIntS (k + 1) a0 = if ((a0.length : Int) == (a0.length : Int)) = true then if 0 ≤ (a0.length : Int) then if 8 * (a0.length : Int).toNat ≤ 281474976710656 then loopRun (R := List Int) [0, 0, 3, 4] (run E (den E k) (lv 31) k (nthLoop Tryz.f31 0)) k (StltoIntS_0 a0 (0, (List.replicate (a0.length : Int).toNat (0 : Int)))) (kontAt E (den E k) (lv 31) k (bodyOf Tryz.f31) 0 [] (finish E (rs 31) Tryz.f31 : Ex → St → Option (List Int))) else none else none else none := by kernel_rfl
theorem eltoIntS (k : Nat) (a0 : List Int) : FltoIntS (k + 1) a0 = if ((a0.length : Int) == (a0.length : Int)) = true then if 0 ≤ (a0.length : Int) then if 8 * (a0.length : Int).toNat ≤ 281474976710656 then LltoIntS_0 k (fun (v0 : Int × (List Int)) => some v0.2) a0 k (0, (List.replicate (a0.length : Int).toNat (0 : Int))) else none else none else none := by
  rw [mltoIntS_0]
  simp only [lltoIntS_0]
  kernel_rfl
noncomputable def FltoLaw (k : Nat) (a0 : List Int) : Option (List Int) := den E k 30 [.agg [.l 3 (.i .i64) a0]]
theorem eltoLaw (k : Nat) (a0 : List Int) : FltoLaw (k + 1) a0 = (FltoIntS k a0).bind fun p1 => some p1 := by kernel_rfl
noncomputable def FltoPacket (k : Nat) (a0 : I6) : Option I6 := den E k 89 [.agg (avs sI6 a0)]
theorem eltoPacket (k : Nat) (a0 : I6) : FltoPacket (k + 1) a0 = some a0 := by kernel_rfl
noncomputable def FltoPacketS (k : Nat) (a0 : List I6) : Option (List I6) := den E k 37 [.c (.l 167 sI6 a0)]
abbrev CltoPacketS_0 : Type := (List I6)
abbrev VltoPacketS_0 : Type := Int × (List I6)
def StltoPacketS_0 (c0 : CltoPacketS_0) (v0 : VltoPacketS_0) : St := ⟨23, 1, [(0, .c (.l 167 sI6 c0)), (3, .c (.ref 0)), (4, cI v0.1)], [(0, .arr 122 sI6 v0.2)]⟩
noncomputable def BltoPacketS_0 {R : Type} (k : Nat) (X0 : VltoPacketS_0 → Option R) (c0 : CltoPacketS_0) (rec : VltoPacketS_0 → Option R) (v0 : VltoPacketS_0) : Option R := if (decide (v0.1 < (c0.length : Int))) = true then if 0 ≤ v0.1 then ix c0 v0.1.toNat fun x1 => (FltoPacket k x1).bind fun p2 => if 0 ≤ v0.1 then if v0.1 < (v0.2.length : Int) then ix v0.2 v0.1.toNat fun y3 => rec ((IntKind.i64.wrap (v0.1 + 1)), (v0.2.set v0.1.toNat p2)) else none else none else none else X0 v0
noncomputable def LltoPacketS_0 {R : Type} (k : Nat) (X0 : VltoPacketS_0 → Option R) (c : CltoPacketS_0) : Nat → VltoPacketS_0 → Option R
  | 0, _ => none
  | n + 1, v => BltoPacketS_0 k X0 c (LltoPacketS_0 k X0 c n) v
def YltoPacketS_0_0 {R : Type} (K : Ex → St → Option R) (c0 : CltoPacketS_0) (v0 : VltoPacketS_0) : Option R := K (.exit 0) ⟨23, 1, [(0, .c (.l 167 sI6 c0)), (3, .c (.ref 0)), (4, cI v0.1), (8, cI v0.1), (9, .c (.l 167 sI6 c0)), (10, cI (c0.length : Int)), (11, cB (decide (v0.1 < (c0.length : Int))))], [(0, .arr 122 sI6 v0.2)]⟩
theorem lltoPacketS_0 {R : Type} (k : Nat) (K : Ex → St → Option R) (c0 : CltoPacketS_0) : ∀ (n : Nat) (v : VltoPacketS_0), loopRun [0, 0, 3, 4] (run E (den E k) (lv 37) k (nthLoop Tryz.f37 0)) n (StltoPacketS_0 c0 v) K = LltoPacketS_0 k (YltoPacketS_0_0 K c0) c0 n v := loop_law (B := BltoPacketS_0 k (YltoPacketS_0_0 K c0) c0) (fun _ => rfl) (fun n v => by kernel_rfl) (fun _ => rfl) (fun _ _ => rfl)
theorem mltoPacketS_0 (k : Nat) (a0 : List I6) : FltoPacketS (k + 1) a0 = if ((a0.length : Int) == (a0.length : Int)) = true then if 0 ≤ (a0.length : Int) then if 48 * (a0.length : Int).toNat ≤ 281474976710656 then loopRun (R := List I6) [0, 0, 3, 4] (run E (den E k) (lv 37) k (nthLoop Tryz.f37 0)) k (StltoPacketS_0 a0 (0, (List.replicate (a0.length : Int).toNat ((0, 0, 0, 0, 0, 0) : I6)))) (kontAt E (den E k) (lv 37) k (bodyOf Tryz.f37) 0 [] (finish E (rs 37) Tryz.f37 : Ex → St → Option (List I6))) else none else none else none := by kernel_rfl
theorem eltoPacketS (k : Nat) (a0 : List I6) : FltoPacketS (k + 1) a0 = if ((a0.length : Int) == (a0.length : Int)) = true then if 0 ≤ (a0.length : Int) then if 48 * (a0.length : Int).toNat ≤ 281474976710656 then LltoPacketS_0 k (fun (v0 : Int × (List I6)) => some v0.2) a0 k (0, (List.replicate (a0.length : Int).toNat ((0, 0, 0, 0, 0, 0) : I6))) else none else none else none := by
  rw [mltoPacketS_0]
  simp only [lltoPacketS_0]
  kernel_rfl
noncomputable def FltoLink (k : Nat) (a0 : I2) : Option I2 := den E k 141 [.agg [vI a0.1, vI a0.2]]
theorem eltoLink (k : Nat) (a0 : I2) : FltoLink (k + 1) a0 = some a0 := by kernel_rfl
noncomputable def FltoLinkS (k : Nat) (a0 : List I2) : Option (List I2) := den E k 125 [.c (.l 220 sI2 a0)]
abbrev CltoLinkS_0 : Type := (List I2)
abbrev VltoLinkS_0 : Type := Int × (List I2)
def StltoLinkS_0 (c0 : CltoLinkS_0) (v0 : VltoLinkS_0) : St := ⟨23, 1, [(0, .c (.l 220 sI2 c0)), (3, .c (.ref 0)), (4, cI v0.1)], [(0, .arr 112 sI2 v0.2)]⟩
noncomputable def BltoLinkS_0 {R : Type} (k : Nat) (X0 : VltoLinkS_0 → Option R) (c0 : CltoLinkS_0) (rec : VltoLinkS_0 → Option R) (v0 : VltoLinkS_0) : Option R := if (decide (v0.1 < (c0.length : Int))) = true then if 0 ≤ v0.1 then ix c0 v0.1.toNat fun x1 => (FltoLink k x1).bind fun p2 => if 0 ≤ v0.1 then if v0.1 < (v0.2.length : Int) then ix v0.2 v0.1.toNat fun y3 => rec ((IntKind.i64.wrap (v0.1 + 1)), (v0.2.set v0.1.toNat p2)) else none else none else none else X0 v0
noncomputable def LltoLinkS_0 {R : Type} (k : Nat) (X0 : VltoLinkS_0 → Option R) (c : CltoLinkS_0) : Nat → VltoLinkS_0 → Option R
  | 0, _ => none
  | n + 1, v => BltoLinkS_0 k X0 c (LltoLinkS_0 k X0 c n) v
def YltoLinkS_0_0 {R : Type} (K : Ex → St → Option R) (c0 : CltoLinkS_0) (v0 : VltoLinkS_0) : Option R := K (.exit 0) ⟨23, 1, [(0, .c (.l 220 sI2 c0)), (3, .c (.ref 0)), (4, cI v0.1), (8, cI v0.1), (9, .c (.l 220 sI2 c0)), (10, cI (c0.length : Int)), (11, cB (decide (v0.1 < (c0.length : Int))))], [(0, .arr 112 sI2 v0.2)]⟩
theorem lltoLinkS_0 {R : Type} (k : Nat) (K : Ex → St → Option R) (c0 : CltoLinkS_0) : ∀ (n : Nat) (v : VltoLinkS_0), loopRun [0, 0, 3, 4] (run E (den E k) (lv 125) k (nthLoop Tryz.f125 0)) n (StltoLinkS_0 c0 v) K = LltoLinkS_0 k (YltoLinkS_0_0 K c0) c0 n v := loop_law (B := BltoLinkS_0 k (YltoLinkS_0_0 K c0) c0) (fun _ => rfl) (fun n v => by kernel_rfl) (fun _ => rfl) (fun _ _ => rfl)
theorem mltoLinkS_0 (k : Nat) (a0 : List I2) : FltoLinkS (k + 1) a0 = if ((a0.length : Int) == (a0.length : Int)) = true then if 0 ≤ (a0.length : Int) then if 16 * (a0.length : Int).toNat ≤ 281474976710656 then loopRun (R := List I2) [0, 0, 3, 4] (run E (den E k) (lv 125) k (nthLoop Tryz.f125 0)) k (StltoLinkS_0 a0 (0, (List.replicate (a0.length : Int).toNat ((0, 0) : I2)))) (kontAt E (den E k) (lv 125) k (bodyOf Tryz.f125) 0 [] (finish E (rs 125) Tryz.f125 : Ex → St → Option (List I2))) else none else none else none := by kernel_rfl
theorem eltoLinkS (k : Nat) (a0 : List I2) : FltoLinkS (k + 1) a0 = if ((a0.length : Int) == (a0.length : Int)) = true then if 0 ≤ (a0.length : Int) then if 16 * (a0.length : Int).toNat ≤ 281474976710656 then LltoLinkS_0 k (fun (v0 : Int × (List I2)) => some v0.2) a0 k (0, (List.replicate (a0.length : Int).toNat ((0, 0) : I2))) else none else none else none := by
  rw [mltoLinkS_0]
  simp only [lltoLinkS_0]
  kernel_rfl
noncomputable def FltoSpan (k : Nat) (a0 : I2) : Option I2 := den E k 124 [.agg [vI a0.1, vI a0.2]]
theorem eltoSpan (k : Nat) (a0 : I2) : FltoSpan (k + 1) a0 = some a0 := by kernel_rfl
noncomputable def FltoTable (k : Nat) (a0 : Int × (List Int) × List Int) : Option (Int × (List Int) × List Int) := den E k 142 [.agg (avs sTable a0)]
theorem eltoTable (k : Nat) (a0 : Int × (List Int) × List Int) : FltoTable (k + 1) a0 = (FltoIntS k a0.2.1).bind fun p1 => (FltoIntS k a0.2.2).bind fun p2 => some (a0.1, p1, p2) := by kernel_rfl
noncomputable def FltoTableS (k : Nat) (a0 : List (Int × (List Int) × List Int)) : Option (List (Int × (List Int) × List Int)) := den E k 126 [.c (.l 218 sTable a0)]
abbrev CltoTableS_0 : Type := (List (Int × (List Int) × List Int))
abbrev VltoTableS_0 : Type := Int × (List (Int × (List Int) × List Int))
def StltoTableS_0 (c0 : CltoTableS_0) (v0 : VltoTableS_0) : St := ⟨23, 1, [(0, .c (.l 218 sTable c0)), (3, .c (.ref 0)), (4, cI v0.1)], [(0, .arr 115 sTable v0.2)]⟩
noncomputable def BltoTableS_0 {R : Type} (k : Nat) (X0 : VltoTableS_0 → Option R) (c0 : CltoTableS_0) (rec : VltoTableS_0 → Option R) (v0 : VltoTableS_0) : Option R := if (decide (v0.1 < (c0.length : Int))) = true then if 0 ≤ v0.1 then ix c0 v0.1.toNat fun x1 => (FltoTable k x1).bind fun p2 => if 0 ≤ v0.1 then if v0.1 < (v0.2.length : Int) then ix v0.2 v0.1.toNat fun y3 => rec ((IntKind.i64.wrap (v0.1 + 1)), (v0.2.set v0.1.toNat p2)) else none else none else none else X0 v0
noncomputable def LltoTableS_0 {R : Type} (k : Nat) (X0 : VltoTableS_0 → Option R) (c : CltoTableS_0) : Nat → VltoTableS_0 → Option R
  | 0, _ => none
  | n + 1, v => BltoTableS_0 k X0 c (LltoTableS_0 k X0 c n) v
def YltoTableS_0_0 {R : Type} (K : Ex → St → Option R) (c0 : CltoTableS_0) (v0 : VltoTableS_0) : Option R := K (.exit 0) ⟨23, 1, [(0, .c (.l 218 sTable c0)), (3, .c (.ref 0)), (4, cI v0.1), (8, cI v0.1), (9, .c (.l 218 sTable c0)), (10, cI (c0.length : Int)), (11, cB (decide (v0.1 < (c0.length : Int))))], [(0, .arr 115 sTable v0.2)]⟩
theorem lltoTableS_0 {R : Type} (k : Nat) (K : Ex → St → Option R) (c0 : CltoTableS_0) : ∀ (n : Nat) (v : VltoTableS_0), loopRun [0, 0, 3, 4] (run E (den E k) (lv 126) k (nthLoop Tryz.f126 0)) n (StltoTableS_0 c0 v) K = LltoTableS_0 k (YltoTableS_0_0 K c0) c0 n v := loop_law (B := BltoTableS_0 k (YltoTableS_0_0 K c0) c0) (fun _ => rfl) (fun n v => by kernel_rfl) (fun _ => rfl) (fun _ _ => rfl)
theorem mltoTableS_0 (k : Nat) (a0 : List (Int × (List Int) × List Int)) : FltoTableS (k + 1) a0 = if ((a0.length : Int) == (a0.length : Int)) = true then if 0 ≤ (a0.length : Int) then if 56 * (a0.length : Int).toNat ≤ 281474976710656 then loopRun (R := List (Int × (List Int) × List Int)) [0, 0, 3, 4] (run E (den E k) (lv 126) k (nthLoop Tryz.f126 0)) k (StltoTableS_0 a0 (0, (List.replicate (a0.length : Int).toNat ((0, [], []) : Int × (List Int) × List Int)))) (kontAt E (den E k) (lv 126) k (bodyOf Tryz.f126) 0 [] (finish E (rs 126) Tryz.f126 : Ex → St → Option (List (Int × (List Int) × List Int)))) else none else none else none := by kernel_rfl
theorem eltoTableS (k : Nat) (a0 : List (Int × (List Int) × List Int)) : FltoTableS (k + 1) a0 = if ((a0.length : Int) == (a0.length : Int)) = true then if 0 ≤ (a0.length : Int) then if 56 * (a0.length : Int).toNat ≤ 281474976710656 then LltoTableS_0 k (fun (v0 : Int × (List (Int × (List Int) × List Int))) => some v0.2) a0 k (0, (List.replicate (a0.length : Int).toNat ((0, [], []) : Int × (List Int) × List Int))) else none else none else none := by
  rw [mltoTableS_0]
  simp only [lltoTableS_0]
  kernel_rfl
noncomputable def FltoPiece (k : Nat) (a0 : TPiece) : Option TPiece := den E k 110 [.agg (avs sLPiece a0)]
theorem eltoPiece (k : Nat) (a0 : TPiece) : FltoPiece (k + 1) a0 = (FltoSpan k a0.1).bind fun p1 => (FltoLinkS k a0.2.1).bind fun p2 => (FltoTableS k a0.2.2).bind fun p3 => some (p1, p2, p3) := by kernel_rfl
noncomputable def FltoPieceS (k : Nat) (a0 : List TPiece) : Option (List TPiece) := den E k 83 [.c (.l 183 sLPiece a0)]
abbrev CltoPieceS_0 : Type := (List TPiece)
abbrev VltoPieceS_0 : Type := Int × (List TPiece)
def StltoPieceS_0 (c0 : CltoPieceS_0) (v0 : VltoPieceS_0) : St := ⟨23, 1, [(0, .c (.l 183 sLPiece c0)), (3, .c (.ref 0)), (4, cI v0.1)], [(0, .arr 109 sPiece v0.2)]⟩
noncomputable def BltoPieceS_0 {R : Type} (k : Nat) (X0 : VltoPieceS_0 → Option R) (c0 : CltoPieceS_0) (rec : VltoPieceS_0 → Option R) (v0 : VltoPieceS_0) : Option R := if (decide (v0.1 < (c0.length : Int))) = true then if 0 ≤ v0.1 then ix c0 v0.1.toNat fun x1 => (FltoPiece k x1).bind fun p2 => if 0 ≤ v0.1 then if v0.1 < (v0.2.length : Int) then ix v0.2 v0.1.toNat fun y3 => rec ((IntKind.i64.wrap (v0.1 + 1)), (v0.2.set v0.1.toNat p2)) else none else none else none else X0 v0
noncomputable def LltoPieceS_0 {R : Type} (k : Nat) (X0 : VltoPieceS_0 → Option R) (c : CltoPieceS_0) : Nat → VltoPieceS_0 → Option R
  | 0, _ => none
  | n + 1, v => BltoPieceS_0 k X0 c (LltoPieceS_0 k X0 c n) v
def YltoPieceS_0_0 {R : Type} (K : Ex → St → Option R) (c0 : CltoPieceS_0) (v0 : VltoPieceS_0) : Option R := K (.exit 0) ⟨23, 1, [(0, .c (.l 183 sLPiece c0)), (3, .c (.ref 0)), (4, cI v0.1), (8, cI v0.1), (9, .c (.l 183 sLPiece c0)), (10, cI (c0.length : Int)), (11, cB (decide (v0.1 < (c0.length : Int))))], [(0, .arr 109 sPiece v0.2)]⟩
theorem lltoPieceS_0 {R : Type} (k : Nat) (K : Ex → St → Option R) (c0 : CltoPieceS_0) : ∀ (n : Nat) (v : VltoPieceS_0), loopRun [0, 0, 3, 4] (run E (den E k) (lv 83) k (nthLoop Tryz.f83 0)) n (StltoPieceS_0 c0 v) K = LltoPieceS_0 k (YltoPieceS_0_0 K c0) c0 n v := loop_law (B := BltoPieceS_0 k (YltoPieceS_0_0 K c0) c0) (fun _ => rfl) (fun n v => by kernel_rfl) (fun _ => rfl) (fun _ _ => rfl)
theorem mltoPieceS_0 (k : Nat) (a0 : List TPiece) : FltoPieceS (k + 1) a0 = if ((a0.length : Int) == (a0.length : Int)) = true then if 0 ≤ (a0.length : Int) then if 64 * (a0.length : Int).toNat ≤ 281474976710656 then loopRun (R := List TPiece) [0, 0, 3, 4] (run E (den E k) (lv 83) k (nthLoop Tryz.f83 0)) k (StltoPieceS_0 a0 (0, (List.replicate (a0.length : Int).toNat (((0, 0), [], []) : TPiece)))) (kontAt E (den E k) (lv 83) k (bodyOf Tryz.f83) 0 [] (finish E (rs 83) Tryz.f83 : Ex → St → Option (List TPiece))) else none else none else none := by kernel_rfl
theorem eltoPieceS (k : Nat) (a0 : List TPiece) : FltoPieceS (k + 1) a0 = if ((a0.length : Int) == (a0.length : Int)) = true then if 0 ≤ (a0.length : Int) then if 64 * (a0.length : Int).toNat ≤ 281474976710656 then LltoPieceS_0 k (fun (v0 : Int × (List TPiece)) => some v0.2) a0 k (0, (List.replicate (a0.length : Int).toNat (((0, 0), [], []) : TPiece))) else none else none else none := by
  rw [mltoPieceS_0]
  simp only [lltoPieceS_0]
  kernel_rfl
noncomputable def FltoProgram (k : Nat) (a0 : TProgram) : Option TProgram := den E k 29 [.agg (avs sLProgram a0)]
theorem eltoProgram (k : Nat) (a0 : TProgram) : FltoProgram (k + 1) a0 = (FltoPieceS k a0.2.2.2).bind fun p1 => some (a0.1, a0.2.1, a0.2.2.1, p1) := by kernel_rfl
noncomputable def FltoQueue (k : Nat) (a0 : List I6) : Option (List I6) := den E k 85 [.agg [.l 167 sI6 a0]]
theorem eltoQueue (k : Nat) (a0 : List I6) : FltoQueue (k + 1) a0 = (FltoPacketS k a0).bind fun p1 => some p1 := by kernel_rfl
noncomputable def FltoQueueS (k : Nat) (a0 : List (List I6)) : Option (List (List I6)) := den E k 33 [.c (.l 151 sLQueue a0)]
abbrev CltoQueueS_0 : Type := (List (List I6))
abbrev VltoQueueS_0 : Type := Int × (List (List I6))
def StltoQueueS_0 (c0 : CltoQueueS_0) (v0 : VltoQueueS_0) : St := ⟨23, 1, [(0, .c (.l 151 sLQueue c0)), (3, .c (.ref 0)), (4, cI v0.1)], [(0, .arr 120 sQueue v0.2)]⟩
noncomputable def BltoQueueS_0 {R : Type} (k : Nat) (X0 : VltoQueueS_0 → Option R) (c0 : CltoQueueS_0) (rec : VltoQueueS_0 → Option R) (v0 : VltoQueueS_0) : Option R := if (decide (v0.1 < (c0.length : Int))) = true then if 0 ≤ v0.1 then ix c0 v0.1.toNat fun x1 => (FltoQueue k x1).bind fun p2 => if 0 ≤ v0.1 then if v0.1 < (v0.2.length : Int) then ix v0.2 v0.1.toNat fun y3 => rec ((IntKind.i64.wrap (v0.1 + 1)), (v0.2.set v0.1.toNat p2)) else none else none else none else X0 v0
noncomputable def LltoQueueS_0 {R : Type} (k : Nat) (X0 : VltoQueueS_0 → Option R) (c : CltoQueueS_0) : Nat → VltoQueueS_0 → Option R
  | 0, _ => none
  | n + 1, v => BltoQueueS_0 k X0 c (LltoQueueS_0 k X0 c n) v
def YltoQueueS_0_0 {R : Type} (K : Ex → St → Option R) (c0 : CltoQueueS_0) (v0 : VltoQueueS_0) : Option R := K (.exit 0) ⟨23, 1, [(0, .c (.l 151 sLQueue c0)), (3, .c (.ref 0)), (4, cI v0.1), (8, cI v0.1), (9, .c (.l 151 sLQueue c0)), (10, cI (c0.length : Int)), (11, cB (decide (v0.1 < (c0.length : Int))))], [(0, .arr 120 sQueue v0.2)]⟩
theorem lltoQueueS_0 {R : Type} (k : Nat) (K : Ex → St → Option R) (c0 : CltoQueueS_0) : ∀ (n : Nat) (v : VltoQueueS_0), loopRun [0, 0, 3, 4] (run E (den E k) (lv 33) k (nthLoop Tryz.f33 0)) n (StltoQueueS_0 c0 v) K = LltoQueueS_0 k (YltoQueueS_0_0 K c0) c0 n v := loop_law (B := BltoQueueS_0 k (YltoQueueS_0_0 K c0) c0) (fun _ => rfl) (fun n v => by kernel_rfl) (fun _ => rfl) (fun _ _ => rfl)
theorem mltoQueueS_0 (k : Nat) (a0 : List (List I6)) : FltoQueueS (k + 1) a0 = if ((a0.length : Int) == (a0.length : Int)) = true then if 0 ≤ (a0.length : Int) then if 24 * (a0.length : Int).toNat ≤ 281474976710656 then loopRun (R := List (List I6)) [0, 0, 3, 4] (run E (den E k) (lv 33) k (nthLoop Tryz.f33 0)) k (StltoQueueS_0 a0 (0, (List.replicate (a0.length : Int).toNat ([] : List I6)))) (kontAt E (den E k) (lv 33) k (bodyOf Tryz.f33) 0 [] (finish E (rs 33) Tryz.f33 : Ex → St → Option (List (List I6)))) else none else none else none := by kernel_rfl
theorem eltoQueueS (k : Nat) (a0 : List (List I6)) : FltoQueueS (k + 1) a0 = if ((a0.length : Int) == (a0.length : Int)) = true then if 0 ≤ (a0.length : Int) then if 24 * (a0.length : Int).toNat ≤ 281474976710656 then LltoQueueS_0 k (fun (v0 : Int × (List (List I6))) => some v0.2) a0 k (0, (List.replicate (a0.length : Int).toNat ([] : List I6))) else none else none else none := by
  rw [mltoQueueS_0]
  simp only [lltoQueueS_0]
  kernel_rfl
noncomputable def FltoSent (k : Nat) (a0 : I4) : Option I4 := den E k 90 [.agg (avs sI4 a0)]
theorem eltoSent (k : Nat) (a0 : I4) : FltoSent (k + 1) a0 = some a0 := by kernel_rfl
noncomputable def FltoSentS (k : Nat) (a0 : List I4) : Option (List I4) := den E k 38 [.c (.l 169 sI4 a0)]
abbrev CltoSentS_0 : Type := (List I4)
abbrev VltoSentS_0 : Type := Int × (List I4)
def StltoSentS_0 (c0 : CltoSentS_0) (v0 : VltoSentS_0) : St := ⟨23, 1, [(0, .c (.l 169 sI4 c0)), (3, .c (.ref 0)), (4, cI v0.1)], [(0, .arr 139 sI4 v0.2)]⟩
noncomputable def BltoSentS_0 {R : Type} (k : Nat) (X0 : VltoSentS_0 → Option R) (c0 : CltoSentS_0) (rec : VltoSentS_0 → Option R) (v0 : VltoSentS_0) : Option R := if (decide (v0.1 < (c0.length : Int))) = true then if 0 ≤ v0.1 then ix c0 v0.1.toNat fun x1 => (FltoSent k x1).bind fun p2 => if 0 ≤ v0.1 then if v0.1 < (v0.2.length : Int) then ix v0.2 v0.1.toNat fun y3 => rec ((IntKind.i64.wrap (v0.1 + 1)), (v0.2.set v0.1.toNat p2)) else none else none else none else X0 v0
noncomputable def LltoSentS_0 {R : Type} (k : Nat) (X0 : VltoSentS_0 → Option R) (c : CltoSentS_0) : Nat → VltoSentS_0 → Option R
  | 0, _ => none
  | n + 1, v => BltoSentS_0 k X0 c (LltoSentS_0 k X0 c n) v
def YltoSentS_0_0 {R : Type} (K : Ex → St → Option R) (c0 : CltoSentS_0) (v0 : VltoSentS_0) : Option R := K (.exit 0) ⟨23, 1, [(0, .c (.l 169 sI4 c0)), (3, .c (.ref 0)), (4, cI v0.1), (8, cI v0.1), (9, .c (.l 169 sI4 c0)), (10, cI (c0.length : Int)), (11, cB (decide (v0.1 < (c0.length : Int))))], [(0, .arr 139 sI4 v0.2)]⟩
theorem lltoSentS_0 {R : Type} (k : Nat) (K : Ex → St → Option R) (c0 : CltoSentS_0) : ∀ (n : Nat) (v : VltoSentS_0), loopRun [0, 0, 3, 4] (run E (den E k) (lv 38) k (nthLoop Tryz.f38 0)) n (StltoSentS_0 c0 v) K = LltoSentS_0 k (YltoSentS_0_0 K c0) c0 n v := loop_law (B := BltoSentS_0 k (YltoSentS_0_0 K c0) c0) (fun _ => rfl) (fun n v => by kernel_rfl) (fun _ => rfl) (fun _ _ => rfl)
theorem mltoSentS_0 (k : Nat) (a0 : List I4) : FltoSentS (k + 1) a0 = if ((a0.length : Int) == (a0.length : Int)) = true then if 0 ≤ (a0.length : Int) then if 32 * (a0.length : Int).toNat ≤ 281474976710656 then loopRun (R := List I4) [0, 0, 3, 4] (run E (den E k) (lv 38) k (nthLoop Tryz.f38 0)) k (StltoSentS_0 a0 (0, (List.replicate (a0.length : Int).toNat ((0, 0, 0, 0) : I4)))) (kontAt E (den E k) (lv 38) k (bodyOf Tryz.f38) 0 [] (finish E (rs 38) Tryz.f38 : Ex → St → Option (List I4))) else none else none else none := by kernel_rfl
theorem eltoSentS (k : Nat) (a0 : List I4) : FltoSentS (k + 1) a0 = if ((a0.length : Int) == (a0.length : Int)) = true then if 0 ≤ (a0.length : Int) then if 32 * (a0.length : Int).toNat ≤ 281474976710656 then LltoSentS_0 k (fun (v0 : Int × (List I4)) => some v0.2) a0 k (0, (List.replicate (a0.length : Int).toNat ((0, 0, 0, 0) : I4))) else none else none else none := by
  rw [mltoSentS_0]
  simp only [lltoSentS_0]
  kernel_rfl
noncomputable def FltoSat (k : Nat) (a0 : I4) : Option I4 := den E k 107 [.agg (avs sI4 a0)]
theorem eltoSat (k : Nat) (a0 : I4) : FltoSat (k + 1) a0 = some a0 := by kernel_rfl
noncomputable def FltoSatS (k : Nat) (a0 : List I4) : Option (List I4) := den E k 80 [.c (.l 185 sI4 a0)]
abbrev CltoSatS_0 : Type := (List I4)
abbrev VltoSatS_0 : Type := Int × (List I4)
def StltoSatS_0 (c0 : CltoSatS_0) (v0 : VltoSatS_0) : St := ⟨23, 1, [(0, .c (.l 185 sI4 c0)), (3, .c (.ref 0)), (4, cI v0.1)], [(0, .arr 94 sI4 v0.2)]⟩
noncomputable def BltoSatS_0 {R : Type} (k : Nat) (X0 : VltoSatS_0 → Option R) (c0 : CltoSatS_0) (rec : VltoSatS_0 → Option R) (v0 : VltoSatS_0) : Option R := if (decide (v0.1 < (c0.length : Int))) = true then if 0 ≤ v0.1 then ix c0 v0.1.toNat fun x1 => (FltoSat k x1).bind fun p2 => if 0 ≤ v0.1 then if v0.1 < (v0.2.length : Int) then ix v0.2 v0.1.toNat fun y3 => rec ((IntKind.i64.wrap (v0.1 + 1)), (v0.2.set v0.1.toNat p2)) else none else none else none else X0 v0
noncomputable def LltoSatS_0 {R : Type} (k : Nat) (X0 : VltoSatS_0 → Option R) (c : CltoSatS_0) : Nat → VltoSatS_0 → Option R
  | 0, _ => none
  | n + 1, v => BltoSatS_0 k X0 c (LltoSatS_0 k X0 c n) v
def YltoSatS_0_0 {R : Type} (K : Ex → St → Option R) (c0 : CltoSatS_0) (v0 : VltoSatS_0) : Option R := K (.exit 0) ⟨23, 1, [(0, .c (.l 185 sI4 c0)), (3, .c (.ref 0)), (4, cI v0.1), (8, cI v0.1), (9, .c (.l 185 sI4 c0)), (10, cI (c0.length : Int)), (11, cB (decide (v0.1 < (c0.length : Int))))], [(0, .arr 94 sI4 v0.2)]⟩
theorem lltoSatS_0 {R : Type} (k : Nat) (K : Ex → St → Option R) (c0 : CltoSatS_0) : ∀ (n : Nat) (v : VltoSatS_0), loopRun [0, 0, 3, 4] (run E (den E k) (lv 80) k (nthLoop Tryz.f80 0)) n (StltoSatS_0 c0 v) K = LltoSatS_0 k (YltoSatS_0_0 K c0) c0 n v := loop_law (B := BltoSatS_0 k (YltoSatS_0_0 K c0) c0) (fun _ => rfl) (fun n v => by kernel_rfl) (fun _ => rfl) (fun _ _ => rfl)
theorem mltoSatS_0 (k : Nat) (a0 : List I4) : FltoSatS (k + 1) a0 = if ((a0.length : Int) == (a0.length : Int)) = true then if 0 ≤ (a0.length : Int) then if 32 * (a0.length : Int).toNat ≤ 281474976710656 then loopRun (R := List I4) [0, 0, 3, 4] (run E (den E k) (lv 80) k (nthLoop Tryz.f80 0)) k (StltoSatS_0 a0 (0, (List.replicate (a0.length : Int).toNat ((0, 0, 0, 0) : I4)))) (kontAt E (den E k) (lv 80) k (bodyOf Tryz.f80) 0 [] (finish E (rs 80) Tryz.f80 : Ex → St → Option (List I4))) else none else none else none := by kernel_rfl
theorem eltoSatS (k : Nat) (a0 : List I4) : FltoSatS (k + 1) a0 = if ((a0.length : Int) == (a0.length : Int)) = true then if 0 ≤ (a0.length : Int) then if 32 * (a0.length : Int).toNat ≤ 281474976710656 then LltoSatS_0 k (fun (v0 : Int × (List I4)) => some v0.2) a0 k (0, (List.replicate (a0.length : Int).toNat ((0, 0, 0, 0) : I4))) else none else none else none := by
  rw [mltoSatS_0]
  simp only [lltoSatS_0]
  kernel_rfl
noncomputable def FltoSite (k : Nat) (a0 : I3) : Option I3 := den E k 108 [.agg (avs sI3 a0)]
theorem eltoSite (k : Nat) (a0 : I3) : FltoSite (k + 1) a0 = some a0 := by kernel_rfl
noncomputable def FltoSiteS (k : Nat) (a0 : List I3) : Option (List I3) := den E k 81 [.c (.l 187 sI3 a0)]
abbrev CltoSiteS_0 : Type := (List I3)
abbrev VltoSiteS_0 : Type := Int × (List I3)
def StltoSiteS_0 (c0 : CltoSiteS_0) (v0 : VltoSiteS_0) : St := ⟨23, 1, [(0, .c (.l 187 sI3 c0)), (3, .c (.ref 0)), (4, cI v0.1)], [(0, .arr 97 sI3 v0.2)]⟩
noncomputable def BltoSiteS_0 {R : Type} (k : Nat) (X0 : VltoSiteS_0 → Option R) (c0 : CltoSiteS_0) (rec : VltoSiteS_0 → Option R) (v0 : VltoSiteS_0) : Option R := if (decide (v0.1 < (c0.length : Int))) = true then if 0 ≤ v0.1 then ix c0 v0.1.toNat fun x1 => (FltoSite k x1).bind fun p2 => if 0 ≤ v0.1 then if v0.1 < (v0.2.length : Int) then ix v0.2 v0.1.toNat fun y3 => rec ((IntKind.i64.wrap (v0.1 + 1)), (v0.2.set v0.1.toNat p2)) else none else none else none else X0 v0
noncomputable def LltoSiteS_0 {R : Type} (k : Nat) (X0 : VltoSiteS_0 → Option R) (c : CltoSiteS_0) : Nat → VltoSiteS_0 → Option R
  | 0, _ => none
  | n + 1, v => BltoSiteS_0 k X0 c (LltoSiteS_0 k X0 c n) v
def YltoSiteS_0_0 {R : Type} (K : Ex → St → Option R) (c0 : CltoSiteS_0) (v0 : VltoSiteS_0) : Option R := K (.exit 0) ⟨23, 1, [(0, .c (.l 187 sI3 c0)), (3, .c (.ref 0)), (4, cI v0.1), (8, cI v0.1), (9, .c (.l 187 sI3 c0)), (10, cI (c0.length : Int)), (11, cB (decide (v0.1 < (c0.length : Int))))], [(0, .arr 97 sI3 v0.2)]⟩
theorem lltoSiteS_0 {R : Type} (k : Nat) (K : Ex → St → Option R) (c0 : CltoSiteS_0) : ∀ (n : Nat) (v : VltoSiteS_0), loopRun [0, 0, 3, 4] (run E (den E k) (lv 81) k (nthLoop Tryz.f81 0)) n (StltoSiteS_0 c0 v) K = LltoSiteS_0 k (YltoSiteS_0_0 K c0) c0 n v := loop_law (B := BltoSiteS_0 k (YltoSiteS_0_0 K c0) c0) (fun _ => rfl) (fun n v => by kernel_rfl) (fun _ => rfl) (fun _ _ => rfl)
theorem mltoSiteS_0 (k : Nat) (a0 : List I3) : FltoSiteS (k + 1) a0 = if ((a0.length : Int) == (a0.length : Int)) = true then if 0 ≤ (a0.length : Int) then if 24 * (a0.length : Int).toNat ≤ 281474976710656 then loopRun (R := List I3) [0, 0, 3, 4] (run E (den E k) (lv 81) k (nthLoop Tryz.f81 0)) k (StltoSiteS_0 a0 (0, (List.replicate (a0.length : Int).toNat ((0, 0, 0) : I3)))) (kontAt E (den E k) (lv 81) k (bodyOf Tryz.f81) 0 [] (finish E (rs 81) Tryz.f81 : Ex → St → Option (List I3))) else none else none else none := by kernel_rfl
theorem eltoSiteS (k : Nat) (a0 : List I3) : FltoSiteS (k + 1) a0 = if ((a0.length : Int) == (a0.length : Int)) = true then if 0 ≤ (a0.length : Int) then if 24 * (a0.length : Int).toNat ≤ 281474976710656 then LltoSiteS_0 k (fun (v0 : Int × (List I3)) => some v0.2) a0 k (0, (List.replicate (a0.length : Int).toNat ((0, 0, 0) : I3))) else none else none else none := by
  rw [mltoSiteS_0]
  simp only [lltoSiteS_0]
  kernel_rfl
noncomputable def FltoArc (k : Nat) (a0 : I2) : Option I2 := den E k 123 [.agg [vI a0.1, vI a0.2]]
theorem eltoArc (k : Nat) (a0 : I2) : FltoArc (k + 1) a0 = some a0 := by kernel_rfl
noncomputable def FltoZone (k : Nat) (a0 : I3) : Option I3 := den E k 109 [.agg (avs sI3 a0)]
theorem eltoZone (k : Nat) (a0 : I3) : FltoZone (k + 1) a0 = (FltoArc k a0.2).bind fun p1 => some (a0.1, p1) := by kernel_rfl
noncomputable def FltoZoneS (k : Nat) (a0 : List I3) : Option (List I3) := den E k 82 [.c (.l 191 sZone a0)]
abbrev CltoZoneS_0 : Type := (List I3)
abbrev VltoZoneS_0 : Type := Int × (List I3)
def StltoZoneS_0 (c0 : CltoZoneS_0) (v0 : VltoZoneS_0) : St := ⟨23, 1, [(0, .c (.l 191 sZone c0)), (3, .c (.ref 0)), (4, cI v0.1)], [(0, .arr 102 sZone v0.2)]⟩
noncomputable def BltoZoneS_0 {R : Type} (k : Nat) (X0 : VltoZoneS_0 → Option R) (c0 : CltoZoneS_0) (rec : VltoZoneS_0 → Option R) (v0 : VltoZoneS_0) : Option R := if (decide (v0.1 < (c0.length : Int))) = true then if 0 ≤ v0.1 then ix c0 v0.1.toNat fun x1 => (FltoZone k x1).bind fun p2 => if 0 ≤ v0.1 then if v0.1 < (v0.2.length : Int) then ix v0.2 v0.1.toNat fun y3 => rec ((IntKind.i64.wrap (v0.1 + 1)), (v0.2.set v0.1.toNat p2)) else none else none else none else X0 v0
noncomputable def LltoZoneS_0 {R : Type} (k : Nat) (X0 : VltoZoneS_0 → Option R) (c : CltoZoneS_0) : Nat → VltoZoneS_0 → Option R
  | 0, _ => none
  | n + 1, v => BltoZoneS_0 k X0 c (LltoZoneS_0 k X0 c n) v
def YltoZoneS_0_0 {R : Type} (K : Ex → St → Option R) (c0 : CltoZoneS_0) (v0 : VltoZoneS_0) : Option R := K (.exit 0) ⟨23, 1, [(0, .c (.l 191 sZone c0)), (3, .c (.ref 0)), (4, cI v0.1), (8, cI v0.1), (9, .c (.l 191 sZone c0)), (10, cI (c0.length : Int)), (11, cB (decide (v0.1 < (c0.length : Int))))], [(0, .arr 102 sZone v0.2)]⟩
theorem lltoZoneS_0 {R : Type} (k : Nat) (K : Ex → St → Option R) (c0 : CltoZoneS_0) : ∀ (n : Nat) (v : VltoZoneS_0), loopRun [0, 0, 3, 4] (run E (den E k) (lv 82) k (nthLoop Tryz.f82 0)) n (StltoZoneS_0 c0 v) K = LltoZoneS_0 k (YltoZoneS_0_0 K c0) c0 n v := loop_law (B := BltoZoneS_0 k (YltoZoneS_0_0 K c0) c0) (fun _ => rfl) (fun n v => by kernel_rfl) (fun _ => rfl) (fun _ _ => rfl)
theorem mltoZoneS_0 (k : Nat) (a0 : List I3) : FltoZoneS (k + 1) a0 = if ((a0.length : Int) == (a0.length : Int)) = true then if 0 ≤ (a0.length : Int) then if 24 * (a0.length : Int).toNat ≤ 281474976710656 then loopRun (R := List I3) [0, 0, 3, 4] (run E (den E k) (lv 82) k (nthLoop Tryz.f82 0)) k (StltoZoneS_0 a0 (0, (List.replicate (a0.length : Int).toNat ((0, (0, 0)) : I3)))) (kontAt E (den E k) (lv 82) k (bodyOf Tryz.f82) 0 [] (finish E (rs 82) Tryz.f82 : Ex → St → Option (List I3))) else none else none else none := by kernel_rfl
theorem eltoZoneS (k : Nat) (a0 : List I3) : FltoZoneS (k + 1) a0 = if ((a0.length : Int) == (a0.length : Int)) = true then if 0 ≤ (a0.length : Int) then if 24 * (a0.length : Int).toNat ≤ 281474976710656 then LltoZoneS_0 k (fun (v0 : Int × (List I3)) => some v0.2) a0 k (0, (List.replicate (a0.length : Int).toNat ((0, (0, 0)) : I3))) else none else none else none := by
  rw [mltoZoneS_0]
  simp only [lltoZoneS_0]
  kernel_rfl
noncomputable def FltoSky (k : Nat) (a0 : TSky) : Option TSky := den E k 28 [.agg (avs sLSky a0)]
theorem eltoSky (k : Nat) (a0 : TSky) : FltoSky (k + 1) a0 = (FltoSatS k a0.2.1).bind fun p1 => (FltoSiteS k a0.2.2.1).bind fun p2 => (FltoZoneS k a0.2.2.2.2.2.2.2.2.1).bind fun p3 => some (a0.1, p1, p2, a0.2.2.2.1, a0.2.2.2.2.1, a0.2.2.2.2.2.1, a0.2.2.2.2.2.2.1, a0.2.2.2.2.2.2.2.1, p3, a0.2.2.2.2.2.2.2.2.2) := by kernel_rfl
noncomputable def FltoStream (k : Nat) (a0 : Int × Int × List Int) : Option (Int × Int × List Int) := den E k 87 [.agg (avs sStream a0)]
theorem eltoStream (k : Nat) (a0 : Int × Int × List Int) : FltoStream (k + 1) a0 = (FltoIntS k a0.2.2).bind fun p1 => some (a0.1, a0.2.1, p1) := by kernel_rfl
noncomputable def FltoStreamS (k : Nat) (a0 : List (Int × Int × List Int)) : Option (List (Int × Int × List Int)) := den E k 35 [.c (.l 153 sStream a0)]
abbrev CltoStreamS_0 : Type := (List (Int × Int × List Int))
abbrev VltoStreamS_0 : Type := Int × (List (Int × Int × List Int))
def StltoStreamS_0 (c0 : CltoStreamS_0) (v0 : VltoStreamS_0) : St := ⟨23, 1, [(0, .c (.l 153 sStream c0)), (3, .c (.ref 0)), (4, cI v0.1)], [(0, .arr 132 sStream v0.2)]⟩
noncomputable def BltoStreamS_0 {R : Type} (k : Nat) (X0 : VltoStreamS_0 → Option R) (c0 : CltoStreamS_0) (rec : VltoStreamS_0 → Option R) (v0 : VltoStreamS_0) : Option R := if (decide (v0.1 < (c0.length : Int))) = true then if 0 ≤ v0.1 then ix c0 v0.1.toNat fun x1 => (FltoStream k x1).bind fun p2 => if 0 ≤ v0.1 then if v0.1 < (v0.2.length : Int) then ix v0.2 v0.1.toNat fun y3 => rec ((IntKind.i64.wrap (v0.1 + 1)), (v0.2.set v0.1.toNat p2)) else none else none else none else X0 v0
noncomputable def LltoStreamS_0 {R : Type} (k : Nat) (X0 : VltoStreamS_0 → Option R) (c : CltoStreamS_0) : Nat → VltoStreamS_0 → Option R
  | 0, _ => none
  | n + 1, v => BltoStreamS_0 k X0 c (LltoStreamS_0 k X0 c n) v
def YltoStreamS_0_0 {R : Type} (K : Ex → St → Option R) (c0 : CltoStreamS_0) (v0 : VltoStreamS_0) : Option R := K (.exit 0) ⟨23, 1, [(0, .c (.l 153 sStream c0)), (3, .c (.ref 0)), (4, cI v0.1), (8, cI v0.1), (9, .c (.l 153 sStream c0)), (10, cI (c0.length : Int)), (11, cB (decide (v0.1 < (c0.length : Int))))], [(0, .arr 132 sStream v0.2)]⟩
theorem lltoStreamS_0 {R : Type} (k : Nat) (K : Ex → St → Option R) (c0 : CltoStreamS_0) : ∀ (n : Nat) (v : VltoStreamS_0), loopRun [0, 0, 3, 4] (run E (den E k) (lv 35) k (nthLoop Tryz.f35 0)) n (StltoStreamS_0 c0 v) K = LltoStreamS_0 k (YltoStreamS_0_0 K c0) c0 n v := loop_law (B := BltoStreamS_0 k (YltoStreamS_0_0 K c0) c0) (fun _ => rfl) (fun n v => by kernel_rfl) (fun _ => rfl) (fun _ _ => rfl)
theorem mltoStreamS_0 (k : Nat) (a0 : List (Int × Int × List Int)) : FltoStreamS (k + 1) a0 = if ((a0.length : Int) == (a0.length : Int)) = true then if 0 ≤ (a0.length : Int) then if 40 * (a0.length : Int).toNat ≤ 281474976710656 then loopRun (R := List (Int × Int × List Int)) [0, 0, 3, 4] (run E (den E k) (lv 35) k (nthLoop Tryz.f35 0)) k (StltoStreamS_0 a0 (0, (List.replicate (a0.length : Int).toNat ((0, 0, []) : Int × Int × List Int)))) (kontAt E (den E k) (lv 35) k (bodyOf Tryz.f35) 0 [] (finish E (rs 35) Tryz.f35 : Ex → St → Option (List (Int × Int × List Int)))) else none else none else none := by kernel_rfl
theorem eltoStreamS (k : Nat) (a0 : List (Int × Int × List Int)) : FltoStreamS (k + 1) a0 = if ((a0.length : Int) == (a0.length : Int)) = true then if 0 ≤ (a0.length : Int) then if 40 * (a0.length : Int).toNat ≤ 281474976710656 then LltoStreamS_0 k (fun (v0 : Int × (List (Int × Int × List Int))) => some v0.2) a0 k (0, (List.replicate (a0.length : Int).toNat ((0, 0, []) : Int × Int × List Int))) else none else none else none := by
  rw [mltoStreamS_0]
  simp only [lltoStreamS_0]
  kernel_rfl
noncomputable def FltoWorld (k : Nat) (a0 : TWorld) : Option TWorld := den E k 7 [.agg (avs sLWorld a0)]
theorem eltoWorld (k : Nat) (a0 : TWorld) : FltoWorld (k + 1) a0 = (FltoSky k a0.1).bind fun p1 => (FltoProgram k a0.2.1).bind fun p2 => (FltoLaw k a0.2.2.1).bind fun p3 => (FltoIntS k a0.2.2.2.1).bind fun p4 => (FltoBatteryS k a0.2.2.2.2.1).bind fun p5 => (FltoQueueS k a0.2.2.2.2.2.1).bind fun p6 => (FltoFlowS k a0.2.2.2.2.2.2.1).bind fun p7 => (FltoIntS k a0.2.2.2.2.2.2.2.1).bind fun p8 => (FltoStreamS k a0.2.2.2.2.2.2.2.2.1).bind fun p9 => (FltoFaultS k a0.2.2.2.2.2.2.2.2.2.1).bind fun p10 => (FltoPacketS k a0.2.2.2.2.2.2.2.2.2.2.2.2.1).bind fun p11 => (FltoSentS k a0.2.2.2.2.2.2.2.2.2.2.2.2.2).bind fun p12 => some (p1, p2, p3, p4, p5, p6, p7, p8, p9, p10, a0.2.2.2.2.2.2.2.2.2.2.1, a0.2.2.2.2.2.2.2.2.2.2.2.1, p11, p12) := by kernel_rfl
noncomputable def FsEqualInts (k : Nat) (a0 : List Int) (a1 : List Int) : Option (Bool) := den E k 25 [.c (.l 3 (.i .i64) a0), .c (.l 3 (.i .i64) a1)]
abbrev CsEqualInts_0 : Type := (List Int) × (List Int)
abbrev VsEqualInts_0 : Type := Int
def StsEqualInts_0 (c0 : CsEqualInts_0) (v0 : VsEqualInts_0) : St := ⟨26, 0, [(0, .c (.l 3 (.i .i64) c0.1)), (1, .c (.l 3 (.i .i64) c0.2)), (5, cI v0)], []⟩
noncomputable def BsEqualInts_0 {R : Type} (k : Nat) (X0 : VsEqualInts_0 → Int → Int → Option R) (X1 : VsEqualInts_0 → Option R) (c0 : CsEqualInts_0) (rec : VsEqualInts_0 → Option R) (v0 : VsEqualInts_0) : Option R := if (decide (v0 < (c0.1.length : Int))) = true then if 0 ≤ v0 then ix c0.1 v0.toNat fun x1 => if 0 ≤ v0 then ix c0.2 v0.toNat fun x2 => if (x1 != x2) = true then X0 v0 x1 x2 else rec (IntKind.i64.wrap (v0 + 1)) else none else none else X1 v0
noncomputable def LsEqualInts_0 {R : Type} (k : Nat) (X0 : VsEqualInts_0 → Int → Int → Option R) (X1 : VsEqualInts_0 → Option R) (c : CsEqualInts_0) : Nat → VsEqualInts_0 → Option R
  | 0, _ => none
  | n + 1, v => BsEqualInts_0 k X0 X1 c (LsEqualInts_0 k X0 X1 c n) v
def YsEqualInts_0_0 {R : Type} (K : Ex → St → Option R) (c0 : CsEqualInts_0) (v0 : VsEqualInts_0) (x1 : Int) (x2 : Int) : Option R := K .ret ⟨26, 0, [(0, .c (.l 3 (.i .i64) c0.1)), (1, .c (.l 3 (.i .i64) c0.2)), (4, cB false), (5, cI v0), (11, cI v0), (12, .c (.l 3 (.i .i64) c0.1)), (13, cI (c0.1.length : Int)), (14, cB (decide (v0 < (c0.1.length : Int)))), (17, .c (.l 3 (.i .i64) c0.1)), (18, cI v0), (19, .c (.at_ [vI x1])), (20, cI x1), (21, .c (.l 3 (.i .i64) c0.2)), (22, cI v0), (23, .c (.at_ [vI x2])), (24, cI x2), (25, cB (x1 != x2))], []⟩
def YsEqualInts_0_1 {R : Type} (K : Ex → St → Option R) (c0 : CsEqualInts_0) (v0 : VsEqualInts_0) : Option R := K (.exit 0) ⟨26, 0, [(0, .c (.l 3 (.i .i64) c0.1)), (1, .c (.l 3 (.i .i64) c0.2)), (5, cI v0), (11, cI v0), (12, .c (.l 3 (.i .i64) c0.1)), (13, cI (c0.1.length : Int)), (14, cB (decide (v0 < (c0.1.length : Int))))], []⟩
theorem lsEqualInts_0 {R : Type} (k : Nat) (K : Ex → St → Option R) (c0 : CsEqualInts_0) : ∀ (n : Nat) (v : VsEqualInts_0), loopRun [0, 0, 1, 5] (run E (den E k) (lv 25) k (nthLoop Tryz.f25 0)) n (StsEqualInts_0 c0 v) K = LsEqualInts_0 k (YsEqualInts_0_0 K c0) (YsEqualInts_0_1 K c0) c0 n v := loop_law (B := BsEqualInts_0 k (YsEqualInts_0_0 K c0) (YsEqualInts_0_1 K c0) c0) (fun _ => rfl) (fun n v => by kernel_rfl) (fun _ => rfl) (fun _ _ => rfl)
theorem msEqualInts_0 (k : Nat) (a0 : List Int) (a1 : List Int) : FsEqualInts (k + 1) a0 a1 = if ((a0.length : Int) != (a1.length : Int)) = true then some false else loopRun (R := Bool) [0, 0, 1, 5] (run E (den E k) (lv 25) k (nthLoop Tryz.f25 0)) k (StsEqualInts_0 (a0, a1) 0) (kontAt E (den E k) (lv 25) k (bodyOf Tryz.f25) 0 [] (finish E (rs 25) Tryz.f25 : Ex → St → Option (Bool))) := by kernel_rfl
theorem esEqualInts (k : Nat) (a0 : List Int) (a1 : List Int) : FsEqualInts (k + 1) a0 a1 = if ((a0.length : Int) != (a1.length : Int)) = true then some false else LsEqualInts_0 k (fun (v0 : Int) (x1 : Int) (x2 : Int) => some false) (fun (v0 : Int) => some true) (a0, a1) k 0 := by
  rw [msEqualInts_0]
  simp only [lsEqualInts_0]
  kernel_rfl
noncomputable def Fsl33List (k : Nat) (a0 : List I6) (a1 : List I6) : Option (Bool) := den E k 27 [.c (.l 122 sI6 a0), .c (.l 122 sI6 a1)]
abbrev Csl33List_0 : Type := (List I6) × (List I6)
abbrev Vsl33List_0 : Type := Int
def Stsl33List_0 (c0 : Csl33List_0) (v0 : Vsl33List_0) : St := ⟨26, 0, [(0, .c (.l 122 sI6 c0.1)), (1, .c (.l 122 sI6 c0.2)), (5, cI v0)], []⟩
noncomputable def Bsl33List_0 {R : Type} (k : Nat) (X0 : Vsl33List_0 → I6 → I6 → Option R) (X1 : Vsl33List_0 → Option R) (c0 : Csl33List_0) (rec : Vsl33List_0 → Option R) (v0 : Vsl33List_0) : Option R := if (decide (v0 < (c0.1.length : Int))) = true then if 0 ≤ v0 then ix c0.1 v0.toNat fun x1 => if 0 ≤ v0 then ix c0.2 v0.toNat fun x2 => if (!(eqT sI6 x1 x2)) = true then X0 v0 x1 x2 else rec (IntKind.i64.wrap (v0 + 1)) else none else none else X1 v0
noncomputable def Lsl33List_0 {R : Type} (k : Nat) (X0 : Vsl33List_0 → I6 → I6 → Option R) (X1 : Vsl33List_0 → Option R) (c : Csl33List_0) : Nat → Vsl33List_0 → Option R
  | 0, _ => none
  | n + 1, v => Bsl33List_0 k X0 X1 c (Lsl33List_0 k X0 X1 c n) v
def Ysl33List_0_0 {R : Type} (K : Ex → St → Option R) (c0 : Csl33List_0) (v0 : Vsl33List_0) (x1 : I6) (x2 : I6) : Option R := K .ret ⟨26, 0, [(0, .c (.l 122 sI6 c0.1)), (1, .c (.l 122 sI6 c0.2)), (4, cB false), (5, cI v0), (11, cI v0), (12, .c (.l 122 sI6 c0.1)), (13, cI (c0.1.length : Int)), (14, cB (decide (v0 < (c0.1.length : Int)))), (17, .c (.l 122 sI6 c0.1)), (18, cI v0), (19, .c (.at_ (avs sI6 x1))), (20, .agg (avs sI6 x1)), (21, .c (.l 122 sI6 c0.2)), (22, cI v0), (23, .c (.at_ (avs sI6 x2))), (24, .agg (avs sI6 x2)), (25, cB (!(eqT sI6 x1 x2)))], []⟩
def Ysl33List_0_1 {R : Type} (K : Ex → St → Option R) (c0 : Csl33List_0) (v0 : Vsl33List_0) : Option R := K (.exit 0) ⟨26, 0, [(0, .c (.l 122 sI6 c0.1)), (1, .c (.l 122 sI6 c0.2)), (5, cI v0), (11, cI v0), (12, .c (.l 122 sI6 c0.1)), (13, cI (c0.1.length : Int)), (14, cB (decide (v0 < (c0.1.length : Int))))], []⟩
theorem lsl33List_0 {R : Type} (k : Nat) (K : Ex → St → Option R) (c0 : Csl33List_0) : ∀ (n : Nat) (v : Vsl33List_0), loopRun [0, 0, 1, 5] (run E (den E k) (lv 27) k (nthLoop Tryz.f27 0)) n (Stsl33List_0 c0 v) K = Lsl33List_0 k (Ysl33List_0_0 K c0) (Ysl33List_0_1 K c0) c0 n v := loop_law (B := Bsl33List_0 k (Ysl33List_0_0 K c0) (Ysl33List_0_1 K c0) c0) (fun _ => rfl) (fun n v => by kernel_rfl) (fun _ => rfl) (fun _ _ => rfl)
theorem msl33List_0 (k : Nat) (a0 : List I6) (a1 : List I6) : Fsl33List (k + 1) a0 a1 = if ((a0.length : Int) != (a1.length : Int)) = true then some false else loopRun (R := Bool) [0, 0, 1, 5] (run E (den E k) (lv 27) k (nthLoop Tryz.f27 0)) k (Stsl33List_0 (a0, a1) 0) (kontAt E (den E k) (lv 27) k (bodyOf Tryz.f27) 0 [] (finish E (rs 27) Tryz.f27 : Ex → St → Option (Bool))) := by kernel_rfl
theorem esl33List (k : Nat) (a0 : List I6) (a1 : List I6) : Fsl33List (k + 1) a0 a1 = if ((a0.length : Int) != (a1.length : Int)) = true then some false else Lsl33List_0 k (fun (v0 : Int) (x1 : I6) (x2 : I6) => some false) (fun (v0 : Int) => some true) (a0, a1) k 0 := by
  rw [msl33List_0]
  simp only [lsl33List_0]
  kernel_rfl
noncomputable def FsEqualStreams (k : Nat) (a0 : Int × Int × List Int) (a1 : Int × Int × List Int) : Option (Bool) := den E k 79 [.agg (avs sStream a0), .agg (avs sStream a1)]
theorem esEqualStreams (k : Nat) (a0 : Int × Int × List Int) (a1 : Int × Int × List Int) : FsEqualStreams (k + 1) a0 a1 = if ((a0.1 == a1.1) == true) = true then if ((a0.2.1 == a1.2.1) == true) = true then (FsEqualInts k a0.2.2 a1.2.2).bind fun p1 => some p1 else some false else some false := by kernel_rfl
noncomputable def Fsl33Lists (k : Nat) (a0 : TWorld) (a1 : TWorld) : Option (Bool) := den E k 26 [.agg (avs sWorld a0), .agg (avs sWorld a1)]
abbrev Csl33Lists_5 : Type := Int × Int × Int × Int × Int × TWorld × TWorld
abbrev Vsl33Lists_5 : Type := Int
def Stsl33Lists_5 (c5 : Csl33Lists_5) (v5 : Vsl33Lists_5) : St := ⟨175, 2, [(2, cP 0), (3, cP 1), (5, cI c5.1), (6, cI c5.2.1), (7, cI c5.2.2.1), (8, cI c5.2.2.2.1), (9, cI c5.2.2.2.2.1), (10, cI v5)], [(0, .var (avs sWorld c5.2.2.2.2.2.1)), (1, .var (avs sWorld c5.2.2.2.2.2.2))]⟩
noncomputable def Bsl33Lists_5 {R : Type} (k : Nat) (X0 : Vsl33Lists_5 → I4 → I4 → Option R) (X1 : Vsl33Lists_5 → Option R) (c5 : Csl33Lists_5) (rec : Vsl33Lists_5 → Option R) (v5 : Vsl33Lists_5) : Option R := if (decide (v5 < (c5.2.2.2.2.2.1.2.2.2.2.2.2.2.2.2.2.2.2.2.length : Int))) = true then if 0 ≤ v5 then ix c5.2.2.2.2.2.1.2.2.2.2.2.2.2.2.2.2.2.2.2 v5.toNat fun x1 => if 0 ≤ v5 then ix c5.2.2.2.2.2.2.2.2.2.2.2.2.2.2.2.2.2.2.2 v5.toNat fun x2 => if (!(eqT sI4 x1 x2)) = true then X0 v5 x1 x2 else rec (IntKind.i64.wrap (v5 + 1)) else none else none else X1 v5
noncomputable def Lsl33Lists_5 {R : Type} (k : Nat) (X0 : Vsl33Lists_5 → I4 → I4 → Option R) (X1 : Vsl33Lists_5 → Option R) (c : Csl33Lists_5) : Nat → Vsl33Lists_5 → Option R
  | 0, _ => none
  | n + 1, v => Bsl33Lists_5 k X0 X1 c (Lsl33Lists_5 k X0 X1 c n) v
def Ysl33Lists_5_0 {R : Type} (K : Ex → St → Option R) (c5 : Csl33Lists_5) (v5 : Vsl33Lists_5) (x1 : I4) (x2 : I4) : Option R := K .ret ⟨175, 2, [(2, cP 0), (3, cP 1), (4, cB false), (5, cI c5.1), (6, cI c5.2.1), (7, cI c5.2.2.1), (8, cI c5.2.2.2.1), (9, cI c5.2.2.2.2.1), (10, cI v5), (157, cI v5), (158, .c (.ptr 0 25)), (159, .c (.l 139 sI4 c5.2.2.2.2.2.1.2.2.2.2.2.2.2.2.2.2.2.2.2)), (160, cI (c5.2.2.2.2.2.1.2.2.2.2.2.2.2.2.2.2.2.2.2.length : Int)), (161, cB (decide (v5 < (c5.2.2.2.2.2.1.2.2.2.2.2.2.2.2.2.2.2.2.2.length : Int)))), (164, .c (.ptr 0 25)), (165, .c (.l 139 sI4 c5.2.2.2.2.2.1.2.2.2.2.2.2.2.2.2.2.2.2.2)), (166, cI v5), (167, .c (.at_ (avs sI4 x1))), (168, .agg (avs sI4 x1)), (169, .c (.ptr 1 25)), (170, .c (.l 139 sI4 c5.2.2.2.2.2.2.2.2.2.2.2.2.2.2.2.2.2.2.2)), (171, cI v5), (172, .c (.at_ (avs sI4 x2))), (173, .agg (avs sI4 x2)), (174, cB (!(eqT sI4 x1 x2)))], [(0, .var (avs sWorld c5.2.2.2.2.2.1)), (1, .var (avs sWorld c5.2.2.2.2.2.2))]⟩
def Ysl33Lists_5_1 {R : Type} (K : Ex → St → Option R) (c5 : Csl33Lists_5) (v5 : Vsl33Lists_5) : Option R := K (.exit 10) ⟨175, 2, [(2, cP 0), (3, cP 1), (5, cI c5.1), (6, cI c5.2.1), (7, cI c5.2.2.1), (8, cI c5.2.2.2.1), (9, cI c5.2.2.2.2.1), (10, cI v5), (157, cI v5), (158, .c (.ptr 0 25)), (159, .c (.l 139 sI4 c5.2.2.2.2.2.1.2.2.2.2.2.2.2.2.2.2.2.2.2)), (160, cI (c5.2.2.2.2.2.1.2.2.2.2.2.2.2.2.2.2.2.2.2.length : Int)), (161, cB (decide (v5 < (c5.2.2.2.2.2.1.2.2.2.2.2.2.2.2.2.2.2.2.2.length : Int))))], [(0, .var (avs sWorld c5.2.2.2.2.2.1)), (1, .var (avs sWorld c5.2.2.2.2.2.2))]⟩
theorem lsl33Lists_5 {R : Type} (k : Nat) (K : Ex → St → Option R) (c5 : Csl33Lists_5) : ∀ (n : Nat) (v : Vsl33Lists_5), loopRun [0, 2, 3, 5, 6, 7, 8, 9, 10] (run E (den E k) (lv 26) k (nthLoop Tryz.f26 5)) n (Stsl33Lists_5 c5 v) K = Lsl33Lists_5 k (Ysl33Lists_5_0 K c5) (Ysl33Lists_5_1 K c5) c5 n v := loop_law (B := Bsl33Lists_5 k (Ysl33Lists_5_0 K c5) (Ysl33Lists_5_1 K c5) c5) (fun _ => rfl) (fun n v => by kernel_rfl) (fun _ => rfl) (fun _ _ => rfl)
abbrev Csl33Lists_4 : Type := Int × Int × Int × Int × TWorld × TWorld
abbrev Vsl33Lists_4 : Type := Int
def Stsl33Lists_4 (c4 : Csl33Lists_4) (v4 : Vsl33Lists_4) : St := ⟨175, 2, [(2, cP 0), (3, cP 1), (5, cI c4.1), (6, cI c4.2.1), (7, cI c4.2.2.1), (8, cI c4.2.2.2.1), (9, cI v4)], [(0, .var (avs sWorld c4.2.2.2.2.1)), (1, .var (avs sWorld c4.2.2.2.2.2))]⟩
noncomputable def Bsl33Lists_4 {R : Type} (k : Nat) (X0 : Vsl33Lists_4 → I4 → I4 → Option R) (X1 : Vsl33Lists_4 → Option R) (c4 : Csl33Lists_4) (rec : Vsl33Lists_4 → Option R) (v4 : Vsl33Lists_4) : Option R := if (decide (v4 < (c4.2.2.2.2.1.2.2.2.2.2.2.2.2.2.1.length : Int))) = true then if 0 ≤ v4 then ix c4.2.2.2.2.1.2.2.2.2.2.2.2.2.2.1 v4.toNat fun x1 => if 0 ≤ v4 then ix c4.2.2.2.2.2.2.2.2.2.2.2.2.2.2.1 v4.toNat fun x2 => if (!(eqT sI4 x1 x2)) = true then X0 v4 x1 x2 else rec (IntKind.i64.wrap (v4 + 1)) else none else none else X1 v4
noncomputable def Lsl33Lists_4 {R : Type} (k : Nat) (X0 : Vsl33Lists_4 → I4 → I4 → Option R) (X1 : Vsl33Lists_4 → Option R) (c : Csl33Lists_4) : Nat → Vsl33Lists_4 → Option R
  | 0, _ => none
  | n + 1, v => Bsl33Lists_4 k X0 X1 c (Lsl33Lists_4 k X0 X1 c n) v
def Ysl33Lists_4_0 {R : Type} (K : Ex → St → Option R) (c4 : Csl33Lists_4) (v4 : Vsl33Lists_4) (x1 : I4) (x2 : I4) : Option R := K .ret ⟨175, 2, [(2, cP 0), (3, cP 1), (4, cB false), (5, cI c4.1), (6, cI c4.2.1), (7, cI c4.2.2.1), (8, cI c4.2.2.2.1), (9, cI v4), (139, cI v4), (140, .c (.ptr 0 21)), (141, .c (.l 136 sI4 c4.2.2.2.2.1.2.2.2.2.2.2.2.2.2.1)), (142, cI (c4.2.2.2.2.1.2.2.2.2.2.2.2.2.2.1.length : Int)), (143, cB (decide (v4 < (c4.2.2.2.2.1.2.2.2.2.2.2.2.2.2.1.length : Int)))), (146, .c (.ptr 0 21)), (147, .c (.l 136 sI4 c4.2.2.2.2.1.2.2.2.2.2.2.2.2.2.1)), (148, cI v4), (149, .c (.at_ (avs sI4 x1))), (150, .agg (avs sI4 x1)), (151, .c (.ptr 1 21)), (152, .c (.l 136 sI4 c4.2.2.2.2.2.2.2.2.2.2.2.2.2.2.1)), (153, cI v4), (154, .c (.at_ (avs sI4 x2))), (155, .agg (avs sI4 x2)), (156, cB (!(eqT sI4 x1 x2)))], [(0, .var (avs sWorld c4.2.2.2.2.1)), (1, .var (avs sWorld c4.2.2.2.2.2))]⟩
def Ysl33Lists_4_1 {R : Type} (K : Ex → St → Option R) (c4 : Csl33Lists_4) (v4 : Vsl33Lists_4) : Option R := K (.exit 8) ⟨175, 2, [(2, cP 0), (3, cP 1), (5, cI c4.1), (6, cI c4.2.1), (7, cI c4.2.2.1), (8, cI c4.2.2.2.1), (9, cI v4), (139, cI v4), (140, .c (.ptr 0 21)), (141, .c (.l 136 sI4 c4.2.2.2.2.1.2.2.2.2.2.2.2.2.2.1)), (142, cI (c4.2.2.2.2.1.2.2.2.2.2.2.2.2.2.1.length : Int)), (143, cB (decide (v4 < (c4.2.2.2.2.1.2.2.2.2.2.2.2.2.2.1.length : Int))))], [(0, .var (avs sWorld c4.2.2.2.2.1)), (1, .var (avs sWorld c4.2.2.2.2.2))]⟩
theorem lsl33Lists_4 {R : Type} (k : Nat) (K : Ex → St → Option R) (c4 : Csl33Lists_4) : ∀ (n : Nat) (v : Vsl33Lists_4), loopRun [0, 2, 3, 5, 6, 7, 8, 9] (run E (den E k) (lv 26) k (nthLoop Tryz.f26 4)) n (Stsl33Lists_4 c4 v) K = Lsl33Lists_4 k (Ysl33Lists_4_0 K c4) (Ysl33Lists_4_1 K c4) c4 n v := loop_law (B := Bsl33Lists_4 k (Ysl33Lists_4_0 K c4) (Ysl33Lists_4_1 K c4) c4) (fun _ => rfl) (fun n v => by kernel_rfl) (fun _ => rfl) (fun _ _ => rfl)
abbrev Csl33Lists_3 : Type := Int × Int × Int × TWorld × TWorld
abbrev Vsl33Lists_3 : Type := Int
def Stsl33Lists_3 (c3 : Csl33Lists_3) (v3 : Vsl33Lists_3) : St := ⟨175, 2, [(2, cP 0), (3, cP 1), (5, cI c3.1), (6, cI c3.2.1), (7, cI c3.2.2.1), (8, cI v3)], [(0, .var (avs sWorld c3.2.2.2.1)), (1, .var (avs sWorld c3.2.2.2.2))]⟩
noncomputable def Bsl33Lists_3 {R : Type} (k : Nat) (X0 : Vsl33Lists_3 → (Int × Int × List Int) → (Int × Int × List Int) → Bool → Option R) (X1 : Vsl33Lists_3 → Option R) (c3 : Csl33Lists_3) (rec : Vsl33Lists_3 → Option R) (v3 : Vsl33Lists_3) : Option R := if (decide (v3 < (c3.2.2.2.1.2.2.2.2.2.2.2.2.1.length : Int))) = true then if 0 ≤ v3 then ix c3.2.2.2.1.2.2.2.2.2.2.2.2.1 v3.toNat fun x1 => if 0 ≤ v3 then ix c3.2.2.2.2.2.2.2.2.2.2.2.2.1 v3.toNat fun x2 => (FsEqualStreams k x1 x2).bind fun p3 => if (!p3) = true then X0 v3 x1 x2 p3 else rec (IntKind.i64.wrap (v3 + 1)) else none else none else X1 v3
noncomputable def Lsl33Lists_3 {R : Type} (k : Nat) (X0 : Vsl33Lists_3 → (Int × Int × List Int) → (Int × Int × List Int) → Bool → Option R) (X1 : Vsl33Lists_3 → Option R) (c : Csl33Lists_3) : Nat → Vsl33Lists_3 → Option R
  | 0, _ => none
  | n + 1, v => Bsl33Lists_3 k X0 X1 c (Lsl33Lists_3 k X0 X1 c n) v
def Ysl33Lists_3_0 {R : Type} (K : Ex → St → Option R) (c3 : Csl33Lists_3) (v3 : Vsl33Lists_3) (x1 : Int × Int × List Int) (x2 : Int × Int × List Int) (p3 : Bool) : Option R := K .ret ⟨175, 2, [(2, cP 0), (3, cP 1), (4, cB false), (5, cI c3.1), (6, cI c3.2.1), (7, cI c3.2.2.1), (8, cI v3), (120, cI v3), (121, .c (.ptr 0 20)), (122, .c (.l 132 sStream c3.2.2.2.1.2.2.2.2.2.2.2.2.1)), (123, cI (c3.2.2.2.1.2.2.2.2.2.2.2.2.1.length : Int)), (124, cB (decide (v3 < (c3.2.2.2.1.2.2.2.2.2.2.2.2.1.length : Int)))), (127, .c (.ptr 0 20)), (128, .c (.l 132 sStream c3.2.2.2.1.2.2.2.2.2.2.2.2.1)), (129, cI v3), (130, .c (.at_ (avs sStream x1))), (131, .agg (avs sStream x1)), (132, .c (.ptr 1 20)), (133, .c (.l 132 sStream c3.2.2.2.2.2.2.2.2.2.2.2.2.1)), (134, cI v3), (135, .c (.at_ (avs sStream x2))), (136, .agg (avs sStream x2)), (137, cB p3), (138, cB (!p3))], [(0, .var (avs sWorld c3.2.2.2.1)), (1, .var (avs sWorld c3.2.2.2.2))]⟩
def Ysl33Lists_3_1 {R : Type} (K : Ex → St → Option R) (c3 : Csl33Lists_3) (v3 : Vsl33Lists_3) : Option R := K (.exit 6) ⟨175, 2, [(2, cP 0), (3, cP 1), (5, cI c3.1), (6, cI c3.2.1), (7, cI c3.2.2.1), (8, cI v3), (120, cI v3), (121, .c (.ptr 0 20)), (122, .c (.l 132 sStream c3.2.2.2.1.2.2.2.2.2.2.2.2.1)), (123, cI (c3.2.2.2.1.2.2.2.2.2.2.2.2.1.length : Int)), (124, cB (decide (v3 < (c3.2.2.2.1.2.2.2.2.2.2.2.2.1.length : Int))))], [(0, .var (avs sWorld c3.2.2.2.1)), (1, .var (avs sWorld c3.2.2.2.2))]⟩
theorem lsl33Lists_3 {R : Type} (k : Nat) (K : Ex → St → Option R) (c3 : Csl33Lists_3) : ∀ (n : Nat) (v : Vsl33Lists_3), loopRun [0, 2, 3, 5, 6, 7, 8] (run E (den E k) (lv 26) k (nthLoop Tryz.f26 3)) n (Stsl33Lists_3 c3 v) K = Lsl33Lists_3 k (Ysl33Lists_3_0 K c3) (Ysl33Lists_3_1 K c3) c3 n v := loop_law (B := Bsl33Lists_3 k (Ysl33Lists_3_0 K c3) (Ysl33Lists_3_1 K c3) c3) (fun _ => rfl) (fun n v => by kernel_rfl) (fun _ => rfl) (fun _ _ => rfl)
abbrev Csl33Lists_2 : Type := Int × Int × TWorld × TWorld
abbrev Vsl33Lists_2 : Type := Int
def Stsl33Lists_2 (c2 : Csl33Lists_2) (v2 : Vsl33Lists_2) : St := ⟨175, 2, [(2, cP 0), (3, cP 1), (5, cI c2.1), (6, cI c2.2.1), (7, cI v2)], [(0, .var (avs sWorld c2.2.2.1)), (1, .var (avs sWorld c2.2.2.2))]⟩
noncomputable def Bsl33Lists_2 {R : Type} (k : Nat) (X0 : Vsl33Lists_2 → I4 → I4 → Option R) (X1 : Vsl33Lists_2 → Option R) (c2 : Csl33Lists_2) (rec : Vsl33Lists_2 → Option R) (v2 : Vsl33Lists_2) : Option R := if (decide (v2 < (c2.2.2.1.2.2.2.2.2.2.1.length : Int))) = true then if 0 ≤ v2 then ix c2.2.2.1.2.2.2.2.2.2.1 v2.toNat fun x1 => if 0 ≤ v2 then ix c2.2.2.2.2.2.2.2.2.2.1 v2.toNat fun x2 => if (!(eqT sI4 x1 x2)) = true then X0 v2 x1 x2 else rec (IntKind.i64.wrap (v2 + 1)) else none else none else X1 v2
noncomputable def Lsl33Lists_2 {R : Type} (k : Nat) (X0 : Vsl33Lists_2 → I4 → I4 → Option R) (X1 : Vsl33Lists_2 → Option R) (c : Csl33Lists_2) : Nat → Vsl33Lists_2 → Option R
  | 0, _ => none
  | n + 1, v => Bsl33Lists_2 k X0 X1 c (Lsl33Lists_2 k X0 X1 c n) v
def Ysl33Lists_2_0 {R : Type} (K : Ex → St → Option R) (c2 : Csl33Lists_2) (v2 : Vsl33Lists_2) (x1 : I4) (x2 : I4) : Option R := K .ret ⟨175, 2, [(2, cP 0), (3, cP 1), (4, cB false), (5, cI c2.1), (6, cI c2.2.1), (7, cI v2), (102, cI v2), (103, .c (.ptr 0 18)), (104, .c (.l 129 sI4 c2.2.2.1.2.2.2.2.2.2.1)), (105, cI (c2.2.2.1.2.2.2.2.2.2.1.length : Int)), (106, cB (decide (v2 < (c2.2.2.1.2.2.2.2.2.2.1.length : Int)))), (109, .c (.ptr 0 18)), (110, .c (.l 129 sI4 c2.2.2.1.2.2.2.2.2.2.1)), (111, cI v2), (112, .c (.at_ (avs sI4 x1))), (113, .agg (avs sI4 x1)), (114, .c (.ptr 1 18)), (115, .c (.l 129 sI4 c2.2.2.2.2.2.2.2.2.2.1)), (116, cI v2), (117, .c (.at_ (avs sI4 x2))), (118, .agg (avs sI4 x2)), (119, cB (!(eqT sI4 x1 x2)))], [(0, .var (avs sWorld c2.2.2.1)), (1, .var (avs sWorld c2.2.2.2))]⟩
def Ysl33Lists_2_1 {R : Type} (K : Ex → St → Option R) (c2 : Csl33Lists_2) (v2 : Vsl33Lists_2) : Option R := K (.exit 4) ⟨175, 2, [(2, cP 0), (3, cP 1), (5, cI c2.1), (6, cI c2.2.1), (7, cI v2), (102, cI v2), (103, .c (.ptr 0 18)), (104, .c (.l 129 sI4 c2.2.2.1.2.2.2.2.2.2.1)), (105, cI (c2.2.2.1.2.2.2.2.2.2.1.length : Int)), (106, cB (decide (v2 < (c2.2.2.1.2.2.2.2.2.2.1.length : Int))))], [(0, .var (avs sWorld c2.2.2.1)), (1, .var (avs sWorld c2.2.2.2))]⟩
theorem lsl33Lists_2 {R : Type} (k : Nat) (K : Ex → St → Option R) (c2 : Csl33Lists_2) : ∀ (n : Nat) (v : Vsl33Lists_2), loopRun [0, 2, 3, 5, 6, 7] (run E (den E k) (lv 26) k (nthLoop Tryz.f26 2)) n (Stsl33Lists_2 c2 v) K = Lsl33Lists_2 k (Ysl33Lists_2_0 K c2) (Ysl33Lists_2_1 K c2) c2 n v := loop_law (B := Bsl33Lists_2 k (Ysl33Lists_2_0 K c2) (Ysl33Lists_2_1 K c2) c2) (fun _ => rfl) (fun n v => by kernel_rfl) (fun _ => rfl) (fun _ _ => rfl)
abbrev Csl33Lists_1 : Type := Int × TWorld × TWorld
abbrev Vsl33Lists_1 : Type := Int
def Stsl33Lists_1 (c1 : Csl33Lists_1) (v1 : Vsl33Lists_1) : St := ⟨175, 2, [(2, cP 0), (3, cP 1), (5, cI c1.1), (6, cI v1)], [(0, .var (avs sWorld c1.2.1)), (1, .var (avs sWorld c1.2.2))]⟩
noncomputable def Bsl33Lists_1 {R : Type} (k : Nat) (X0 : Vsl33Lists_1 → (List I6) → (List I6) → Bool → Option R) (X1 : Vsl33Lists_1 → Option R) (c1 : Csl33Lists_1) (rec : Vsl33Lists_1 → Option R) (v1 : Vsl33Lists_1) : Option R := if (decide (v1 < (c1.2.1.2.2.2.2.2.1.length : Int))) = true then if 0 ≤ v1 then ix c1.2.1.2.2.2.2.2.1 v1.toNat fun x1 => if 0 ≤ v1 then ix c1.2.2.2.2.2.2.2.1 v1.toNat fun x2 => (Fsl33List k x1 x2).bind fun p3 => if (!p3) = true then X0 v1 x1 x2 p3 else rec (IntKind.i64.wrap (v1 + 1)) else none else none else X1 v1
noncomputable def Lsl33Lists_1 {R : Type} (k : Nat) (X0 : Vsl33Lists_1 → (List I6) → (List I6) → Bool → Option R) (X1 : Vsl33Lists_1 → Option R) (c : Csl33Lists_1) : Nat → Vsl33Lists_1 → Option R
  | 0, _ => none
  | n + 1, v => Bsl33Lists_1 k X0 X1 c (Lsl33Lists_1 k X0 X1 c n) v
def Ysl33Lists_1_0 {R : Type} (K : Ex → St → Option R) (c1 : Csl33Lists_1) (v1 : Vsl33Lists_1) (x1 : List I6) (x2 : List I6) (p3 : Bool) : Option R := K .ret ⟨175, 2, [(2, cP 0), (3, cP 1), (4, cB false), (5, cI c1.1), (6, cI v1), (81, cI v1), (82, .c (.ptr 0 17)), (83, .c (.l 120 sQueue c1.2.1.2.2.2.2.2.1)), (84, cI (c1.2.1.2.2.2.2.2.1.length : Int)), (85, cB (decide (v1 < (c1.2.1.2.2.2.2.2.1.length : Int)))), (88, .c (.ptr 0 17)), (89, .c (.l 120 sQueue c1.2.1.2.2.2.2.2.1)), (90, cI v1), (91, .c (.at_ [.l 122 sI6 x1])), (92, .c (.at_ [.l 122 sI6 x1])), (93, .c (.l 122 sI6 x1)), (94, .c (.ptr 1 17)), (95, .c (.l 120 sQueue c1.2.2.2.2.2.2.2.1)), (96, cI v1), (97, .c (.at_ [.l 122 sI6 x2])), (98, .c (.at_ [.l 122 sI6 x2])), (99, .c (.l 122 sI6 x2)), (100, cB p3), (101, cB (!p3))], [(0, .var (avs sWorld c1.2.1)), (1, .var (avs sWorld c1.2.2))]⟩
def Ysl33Lists_1_1 {R : Type} (K : Ex → St → Option R) (c1 : Csl33Lists_1) (v1 : Vsl33Lists_1) : Option R := K (.exit 2) ⟨175, 2, [(2, cP 0), (3, cP 1), (5, cI c1.1), (6, cI v1), (81, cI v1), (82, .c (.ptr 0 17)), (83, .c (.l 120 sQueue c1.2.1.2.2.2.2.2.1)), (84, cI (c1.2.1.2.2.2.2.2.1.length : Int)), (85, cB (decide (v1 < (c1.2.1.2.2.2.2.2.1.length : Int))))], [(0, .var (avs sWorld c1.2.1)), (1, .var (avs sWorld c1.2.2))]⟩
theorem lsl33Lists_1 {R : Type} (k : Nat) (K : Ex → St → Option R) (c1 : Csl33Lists_1) : ∀ (n : Nat) (v : Vsl33Lists_1), loopRun [0, 2, 3, 5, 6] (run E (den E k) (lv 26) k (nthLoop Tryz.f26 1)) n (Stsl33Lists_1 c1 v) K = Lsl33Lists_1 k (Ysl33Lists_1_0 K c1) (Ysl33Lists_1_1 K c1) c1 n v := loop_law (B := Bsl33Lists_1 k (Ysl33Lists_1_0 K c1) (Ysl33Lists_1_1 K c1) c1) (fun _ => rfl) (fun n v => by kernel_rfl) (fun _ => rfl) (fun _ _ => rfl)
abbrev Csl33Lists_0 : Type := TWorld × TWorld
abbrev Vsl33Lists_0 : Type := Int
def Stsl33Lists_0 (c0 : Csl33Lists_0) (v0 : Vsl33Lists_0) : St := ⟨175, 2, [(2, cP 0), (3, cP 1), (5, cI v0)], [(0, .var (avs sWorld c0.1)), (1, .var (avs sWorld c0.2))]⟩
noncomputable def Bsl33Lists_0 {R : Type} (k : Nat) (X0 : Vsl33Lists_0 → I6 → I6 → Option R) (X1 : Vsl33Lists_0 → Option R) (c0 : Csl33Lists_0) (rec : Vsl33Lists_0 → Option R) (v0 : Vsl33Lists_0) : Option R := if (decide (v0 < (c0.1.2.2.2.2.1.length : Int))) = true then if 0 ≤ v0 then ix c0.1.2.2.2.2.1 v0.toNat fun x1 => if 0 ≤ v0 then ix c0.2.2.2.2.2.1 v0.toNat fun x2 => if (!(eqT sI6 x1 x2)) = true then X0 v0 x1 x2 else rec (IntKind.i64.wrap (v0 + 1)) else none else none else X1 v0
noncomputable def Lsl33Lists_0 {R : Type} (k : Nat) (X0 : Vsl33Lists_0 → I6 → I6 → Option R) (X1 : Vsl33Lists_0 → Option R) (c : Csl33Lists_0) : Nat → Vsl33Lists_0 → Option R
  | 0, _ => none
  | n + 1, v => Bsl33Lists_0 k X0 X1 c (Lsl33Lists_0 k X0 X1 c n) v
def Ysl33Lists_0_0 {R : Type} (K : Ex → St → Option R) (c0 : Csl33Lists_0) (v0 : Vsl33Lists_0) (x1 : I6) (x2 : I6) : Option R := K .ret ⟨175, 2, [(2, cP 0), (3, cP 1), (4, cB false), (5, cI v0), (63, cI v0), (64, .c (.ptr 0 16)), (65, .c (.l 126 sI6 c0.1.2.2.2.2.1)), (66, cI (c0.1.2.2.2.2.1.length : Int)), (67, cB (decide (v0 < (c0.1.2.2.2.2.1.length : Int)))), (70, .c (.ptr 0 16)), (71, .c (.l 126 sI6 c0.1.2.2.2.2.1)), (72, cI v0), (73, .c (.at_ (avs sI6 x1))), (74, .agg (avs sI6 x1)), (75, .c (.ptr 1 16)), (76, .c (.l 126 sI6 c0.2.2.2.2.2.1)), (77, cI v0), (78, .c (.at_ (avs sI6 x2))), (79, .agg (avs sI6 x2)), (80, cB (!(eqT sI6 x1 x2)))], [(0, .var (avs sWorld c0.1)), (1, .var (avs sWorld c0.2))]⟩
def Ysl33Lists_0_1 {R : Type} (K : Ex → St → Option R) (c0 : Csl33Lists_0) (v0 : Vsl33Lists_0) : Option R := K (.exit 0) ⟨175, 2, [(2, cP 0), (3, cP 1), (5, cI v0), (63, cI v0), (64, .c (.ptr 0 16)), (65, .c (.l 126 sI6 c0.1.2.2.2.2.1)), (66, cI (c0.1.2.2.2.2.1.length : Int)), (67, cB (decide (v0 < (c0.1.2.2.2.2.1.length : Int))))], [(0, .var (avs sWorld c0.1)), (1, .var (avs sWorld c0.2))]⟩
theorem lsl33Lists_0 {R : Type} (k : Nat) (K : Ex → St → Option R) (c0 : Csl33Lists_0) : ∀ (n : Nat) (v : Vsl33Lists_0), loopRun [0, 2, 3, 5] (run E (den E k) (lv 26) k (nthLoop Tryz.f26 0)) n (Stsl33Lists_0 c0 v) K = Lsl33Lists_0 k (Ysl33Lists_0_0 K c0) (Ysl33Lists_0_1 K c0) c0 n v := loop_law (B := Bsl33Lists_0 k (Ysl33Lists_0_0 K c0) (Ysl33Lists_0_1 K c0) c0) (fun _ => rfl) (fun n v => by kernel_rfl) (fun _ => rfl) (fun _ _ => rfl)
theorem msl33Lists_0 (k : Nat) (a0 : TWorld) (a1 : TWorld) : Fsl33Lists (k + 1) a0 a1 = if (((a0.2.2.2.2.1.length : Int) != (a1.2.2.2.2.1.length : Int)) == false) = true then if (((a0.2.2.2.2.2.1.length : Int) != (a1.2.2.2.2.2.1.length : Int)) == false) = true then if (((a0.2.2.2.2.2.2.1.length : Int) != (a1.2.2.2.2.2.2.1.length : Int)) == false) = true then if (((a0.2.2.2.2.2.2.2.2.1.length : Int) != (a1.2.2.2.2.2.2.2.2.1.length : Int)) == false) = true then if (((a0.2.2.2.2.2.2.2.2.2.1.length : Int) != (a1.2.2.2.2.2.2.2.2.2.1.length : Int)) == false) = true then if ((a0.2.2.2.2.2.2.2.2.2.2.2.2.2.length : Int) != (a1.2.2.2.2.2.2.2.2.2.2.2.2.2.length : Int)) = true then some false else loopRun (R := Bool) [0, 2, 3, 5] (run E (den E k) (lv 26) k (nthLoop Tryz.f26 0)) k (Stsl33Lists_0 (a0, a1) 0) (kontAt E (den E k) (lv 26) k (bodyOf Tryz.f26) 0 [] (finish E (rs 26) Tryz.f26 : Ex → St → Option (Bool))) else some false else some false else some false else some false else some false := by kernel_rfl
theorem msl33Lists_1 (k : Nat) (a0 : TWorld) (a1 : TWorld) : Fsl33Lists (k + 1) a0 a1 = if (((a0.2.2.2.2.1.length : Int) != (a1.2.2.2.2.1.length : Int)) == false) = true then if (((a0.2.2.2.2.2.1.length : Int) != (a1.2.2.2.2.2.1.length : Int)) == false) = true then if (((a0.2.2.2.2.2.2.1.length : Int) != (a1.2.2.2.2.2.2.1.length : Int)) == false) = true then if (((a0.2.2.2.2.2.2.2.2.1.length : Int) != (a1.2.2.2.2.2.2.2.2.1.length : Int)) == false) = true then if (((a0.2.2.2.2.2.2.2.2.2.1.length : Int) != (a1.2.2.2.2.2.2.2.2.2.1.length : Int)) == false) = true then if ((a0.2.2.2.2.2.2.2.2.2.2.2.2.2.length : Int) != (a1.2.2.2.2.2.2.2.2.2.2.2.2.2.length : Int)) = true then some false else Lsl33Lists_0 k (fun (v0 : Int) (x1 : I6) (x2 : I6) => some false) (fun (v0 : Int) => loopRun (R := Bool) [0, 2, 3, 5, 6] (run E (den E k) (lv 26) k (nthLoop Tryz.f26 1)) k (Stsl33Lists_1 (v0, a0, a1) 0) (kontAt E (den E k) (lv 26) k (bodyOf Tryz.f26) 1 [] (finish E (rs 26) Tryz.f26 : Ex → St → Option (Bool)))) (a0, a1) k 0 else some false else some false else some false else some false else some false := by 
  rw [msl33Lists_0]
  simp only [lsl33Lists_0]
  kernel_rfl
theorem msl33Lists_2 (k : Nat) (a0 : TWorld) (a1 : TWorld) : Fsl33Lists (k + 1) a0 a1 = if (((a0.2.2.2.2.1.length : Int) != (a1.2.2.2.2.1.length : Int)) == false) = true then if (((a0.2.2.2.2.2.1.length : Int) != (a1.2.2.2.2.2.1.length : Int)) == false) = true then if (((a0.2.2.2.2.2.2.1.length : Int) != (a1.2.2.2.2.2.2.1.length : Int)) == false) = true then if (((a0.2.2.2.2.2.2.2.2.1.length : Int) != (a1.2.2.2.2.2.2.2.2.1.length : Int)) == false) = true then if (((a0.2.2.2.2.2.2.2.2.2.1.length : Int) != (a1.2.2.2.2.2.2.2.2.2.1.length : Int)) == false) = true then if ((a0.2.2.2.2.2.2.2.2.2.2.2.2.2.length : Int) != (a1.2.2.2.2.2.2.2.2.2.2.2.2.2.length : Int)) = true then some false else Lsl33Lists_0 k (fun (v0 : Int) (x1 : I6) (x2 : I6) => some false) (fun (v0 : Int) => Lsl33Lists_1 k (fun (v1 : Int) (x1 : List I6) (x2 : List I6) (p3 : Bool) => some false) (fun (v1 : Int) => loopRun (R := Bool) [0, 2, 3, 5, 6, 7] (run E (den E k) (lv 26) k (nthLoop Tryz.f26 2)) k (Stsl33Lists_2 (v0, v1, a0, a1) 0) (kontAt E (den E k) (lv 26) k (bodyOf Tryz.f26) 2 [] (finish E (rs 26) Tryz.f26 : Ex → St → Option (Bool)))) (v0, a0, a1) k 0) (a0, a1) k 0 else some false else some false else some false else some false else some false := by 
  rw [msl33Lists_1]
  simp only [lsl33Lists_1]
  kernel_rfl
theorem msl33Lists_3 (k : Nat) (a0 : TWorld) (a1 : TWorld) : Fsl33Lists (k + 1) a0 a1 = if (((a0.2.2.2.2.1.length : Int) != (a1.2.2.2.2.1.length : Int)) == false) = true then if (((a0.2.2.2.2.2.1.length : Int) != (a1.2.2.2.2.2.1.length : Int)) == false) = true then if (((a0.2.2.2.2.2.2.1.length : Int) != (a1.2.2.2.2.2.2.1.length : Int)) == false) = true then if (((a0.2.2.2.2.2.2.2.2.1.length : Int) != (a1.2.2.2.2.2.2.2.2.1.length : Int)) == false) = true then if (((a0.2.2.2.2.2.2.2.2.2.1.length : Int) != (a1.2.2.2.2.2.2.2.2.2.1.length : Int)) == false) = true then if ((a0.2.2.2.2.2.2.2.2.2.2.2.2.2.length : Int) != (a1.2.2.2.2.2.2.2.2.2.2.2.2.2.length : Int)) = true then some false else Lsl33Lists_0 k (fun (v0 : Int) (x1 : I6) (x2 : I6) => some false) (fun (v0 : Int) => Lsl33Lists_1 k (fun (v1 : Int) (x1 : List I6) (x2 : List I6) (p3 : Bool) => some false) (fun (v1 : Int) => Lsl33Lists_2 k (fun (v2 : Int) (x1 : I4) (x2 : I4) => some false) (fun (v2 : Int) => loopRun (R := Bool) [0, 2, 3, 5, 6, 7, 8] (run E (den E k) (lv 26) k (nthLoop Tryz.f26 3)) k (Stsl33Lists_3 (v0, v1, v2, a0, a1) 0) (kontAt E (den E k) (lv 26) k (bodyOf Tryz.f26) 3 [] (finish E (rs 26) Tryz.f26 : Ex → St → Option (Bool)))) (v0, v1, a0, a1) k 0) (v0, a0, a1) k 0) (a0, a1) k 0 else some false else some false else some false else some false else some false := by 
  rw [msl33Lists_2]
  simp only [lsl33Lists_2]
  kernel_rfl
theorem msl33Lists_4 (k : Nat) (a0 : TWorld) (a1 : TWorld) : Fsl33Lists (k + 1) a0 a1 = if (((a0.2.2.2.2.1.length : Int) != (a1.2.2.2.2.1.length : Int)) == false) = true then if (((a0.2.2.2.2.2.1.length : Int) != (a1.2.2.2.2.2.1.length : Int)) == false) = true then if (((a0.2.2.2.2.2.2.1.length : Int) != (a1.2.2.2.2.2.2.1.length : Int)) == false) = true then if (((a0.2.2.2.2.2.2.2.2.1.length : Int) != (a1.2.2.2.2.2.2.2.2.1.length : Int)) == false) = true then if (((a0.2.2.2.2.2.2.2.2.2.1.length : Int) != (a1.2.2.2.2.2.2.2.2.2.1.length : Int)) == false) = true then if ((a0.2.2.2.2.2.2.2.2.2.2.2.2.2.length : Int) != (a1.2.2.2.2.2.2.2.2.2.2.2.2.2.length : Int)) = true then some false else Lsl33Lists_0 k (fun (v0 : Int) (x1 : I6) (x2 : I6) => some false) (fun (v0 : Int) => Lsl33Lists_1 k (fun (v1 : Int) (x1 : List I6) (x2 : List I6) (p3 : Bool) => some false) (fun (v1 : Int) => Lsl33Lists_2 k (fun (v2 : Int) (x1 : I4) (x2 : I4) => some false) (fun (v2 : Int) => Lsl33Lists_3 k (fun (v3 : Int) (x1 : Int × Int × List Int) (x2 : Int × Int × List Int) (p3 : Bool) => some false) (fun (v3 : Int) => loopRun (R := Bool) [0, 2, 3, 5, 6, 7, 8, 9] (run E (den E k) (lv 26) k (nthLoop Tryz.f26 4)) k (Stsl33Lists_4 (v0, v1, v2, v3, a0, a1) 0) (kontAt E (den E k) (lv 26) k (bodyOf Tryz.f26) 4 [] (finish E (rs 26) Tryz.f26 : Ex → St → Option (Bool)))) (v0, v1, v2, a0, a1) k 0) (v0, v1, a0, a1) k 0) (v0, a0, a1) k 0) (a0, a1) k 0 else some false else some false else some false else some false else some false := by 
  rw [msl33Lists_3]
  simp only [lsl33Lists_3]
  kernel_rfl
theorem msl33Lists_5 (k : Nat) (a0 : TWorld) (a1 : TWorld) : Fsl33Lists (k + 1) a0 a1 = if (((a0.2.2.2.2.1.length : Int) != (a1.2.2.2.2.1.length : Int)) == false) = true then if (((a0.2.2.2.2.2.1.length : Int) != (a1.2.2.2.2.2.1.length : Int)) == false) = true then if (((a0.2.2.2.2.2.2.1.length : Int) != (a1.2.2.2.2.2.2.1.length : Int)) == false) = true then if (((a0.2.2.2.2.2.2.2.2.1.length : Int) != (a1.2.2.2.2.2.2.2.2.1.length : Int)) == false) = true then if (((a0.2.2.2.2.2.2.2.2.2.1.length : Int) != (a1.2.2.2.2.2.2.2.2.2.1.length : Int)) == false) = true then if ((a0.2.2.2.2.2.2.2.2.2.2.2.2.2.length : Int) != (a1.2.2.2.2.2.2.2.2.2.2.2.2.2.length : Int)) = true then some false else Lsl33Lists_0 k (fun (v0 : Int) (x1 : I6) (x2 : I6) => some false) (fun (v0 : Int) => Lsl33Lists_1 k (fun (v1 : Int) (x1 : List I6) (x2 : List I6) (p3 : Bool) => some false) (fun (v1 : Int) => Lsl33Lists_2 k (fun (v2 : Int) (x1 : I4) (x2 : I4) => some false) (fun (v2 : Int) => Lsl33Lists_3 k (fun (v3 : Int) (x1 : Int × Int × List Int) (x2 : Int × Int × List Int) (p3 : Bool) => some false) (fun (v3 : Int) => Lsl33Lists_4 k (fun (v4 : Int) (x1 : I4) (x2 : I4) => some false) (fun (v4 : Int) => loopRun (R := Bool) [0, 2, 3, 5, 6, 7, 8, 9, 10] (run E (den E k) (lv 26) k (nthLoop Tryz.f26 5)) k (Stsl33Lists_5 (v0, v1, v2, v3, v4, a0, a1) 0) (kontAt E (den E k) (lv 26) k (bodyOf Tryz.f26) 5 [] (finish E (rs 26) Tryz.f26 : Ex → St → Option (Bool)))) (v0, v1, v2, v3, a0, a1) k 0) (v0, v1, v2, a0, a1) k 0) (v0, v1, a0, a1) k 0) (v0, a0, a1) k 0) (a0, a1) k 0 else some false else some false else some false else some false else some false := by 
  rw [msl33Lists_4]
  simp only [lsl33Lists_4]
  kernel_rfl
theorem esl33Lists (k : Nat) (a0 : TWorld) (a1 : TWorld) : Fsl33Lists (k + 1) a0 a1 = if (((a0.2.2.2.2.1.length : Int) != (a1.2.2.2.2.1.length : Int)) == false) = true then if (((a0.2.2.2.2.2.1.length : Int) != (a1.2.2.2.2.2.1.length : Int)) == false) = true then if (((a0.2.2.2.2.2.2.1.length : Int) != (a1.2.2.2.2.2.2.1.length : Int)) == false) = true then if (((a0.2.2.2.2.2.2.2.2.1.length : Int) != (a1.2.2.2.2.2.2.2.2.1.length : Int)) == false) = true then if (((a0.2.2.2.2.2.2.2.2.2.1.length : Int) != (a1.2.2.2.2.2.2.2.2.2.1.length : Int)) == false) = true then if ((a0.2.2.2.2.2.2.2.2.2.2.2.2.2.length : Int) != (a1.2.2.2.2.2.2.2.2.2.2.2.2.2.length : Int)) = true then some false else Lsl33Lists_0 k (fun (v0 : Int) (x1 : I6) (x2 : I6) => some false) (fun (v0 : Int) => Lsl33Lists_1 k (fun (v1 : Int) (x1 : List I6) (x2 : List I6) (p3 : Bool) => some false) (fun (v1 : Int) => Lsl33Lists_2 k (fun (v2 : Int) (x1 : I4) (x2 : I4) => some false) (fun (v2 : Int) => Lsl33Lists_3 k (fun (v3 : Int) (x1 : Int × Int × List Int) (x2 : Int × Int × List Int) (p3 : Bool) => some false) (fun (v3 : Int) => Lsl33Lists_4 k (fun (v4 : Int) (x1 : I4) (x2 : I4) => some false) (fun (v4 : Int) => Lsl33Lists_5 k (fun (v5 : Int) (x1 : I4) (x2 : I4) => some false) (fun (v5 : Int) => some true) (v0, v1, v2, v3, v4, a0, a1) k 0) (v0, v1, v2, v3, a0, a1) k 0) (v0, v1, v2, a0, a1) k 0) (v0, v1, a0, a1) k 0) (v0, a0, a1) k 0) (a0, a1) k 0 else some false else some false else some false else some false else some false := by
  rw [msl33Lists_5]
  simp only [lsl33Lists_5]
  kernel_rfl
noncomputable def FsEqualTables (k : Nat) (a0 : Int × (List Int) × List Int) (a1 : Int × (List Int) × List Int) : Option (Bool) := den E k 78 [.agg (avs sTable a0), .agg (avs sTable a1)]
theorem esEqualTables (k : Nat) (a0 : Int × (List Int) × List Int) (a1 : Int × (List Int) × List Int) : FsEqualTables (k + 1) a0 a1 = if ((a0.1 == a1.1) == true) = true then (FsEqualInts k a0.2.1 a1.2.1).bind fun p1 => if (p1 == true) = true then (FsEqualInts k a0.2.2 a1.2.2).bind fun p2 => some p2 else some false else some false := by kernel_rfl
noncomputable def FsSameLinks (k : Nat) (a0 : List I2) (a1 : List I2) : Option (Bool) := den E k 77 [.c (.l 112 sI2 a0), .c (.l 112 sI2 a1)]
abbrev CsSameLinks_0 : Type := (List I2) × (List I2)
abbrev VsSameLinks_0 : Type := Int
def StsSameLinks_0 (c0 : CsSameLinks_0) (v0 : VsSameLinks_0) : St := ⟨26, 0, [(0, .c (.l 112 sI2 c0.1)), (1, .c (.l 112 sI2 c0.2)), (5, cI v0)], []⟩
noncomputable def BsSameLinks_0 {R : Type} (k : Nat) (X0 : VsSameLinks_0 → I2 → I2 → Option R) (X1 : VsSameLinks_0 → Option R) (c0 : CsSameLinks_0) (rec : VsSameLinks_0 → Option R) (v0 : VsSameLinks_0) : Option R := if (decide (v0 < (c0.1.length : Int))) = true then if 0 ≤ v0 then ix c0.1 v0.toNat fun x1 => if 0 ≤ v0 then ix c0.2 v0.toNat fun x2 => if (!(eqT sI2 x1 x2)) = true then X0 v0 x1 x2 else rec (IntKind.i64.wrap (v0 + 1)) else none else none else X1 v0
noncomputable def LsSameLinks_0 {R : Type} (k : Nat) (X0 : VsSameLinks_0 → I2 → I2 → Option R) (X1 : VsSameLinks_0 → Option R) (c : CsSameLinks_0) : Nat → VsSameLinks_0 → Option R
  | 0, _ => none
  | n + 1, v => BsSameLinks_0 k X0 X1 c (LsSameLinks_0 k X0 X1 c n) v
def YsSameLinks_0_0 {R : Type} (K : Ex → St → Option R) (c0 : CsSameLinks_0) (v0 : VsSameLinks_0) (x1 : I2) (x2 : I2) : Option R := K .ret ⟨26, 0, [(0, .c (.l 112 sI2 c0.1)), (1, .c (.l 112 sI2 c0.2)), (4, cB false), (5, cI v0), (11, cI v0), (12, .c (.l 112 sI2 c0.1)), (13, cI (c0.1.length : Int)), (14, cB (decide (v0 < (c0.1.length : Int)))), (17, .c (.l 112 sI2 c0.1)), (18, cI v0), (19, .c (.at_ [vI x1.1, vI x1.2])), (20, .agg [vI x1.1, vI x1.2]), (21, .c (.l 112 sI2 c0.2)), (22, cI v0), (23, .c (.at_ [vI x2.1, vI x2.2])), (24, .agg [vI x2.1, vI x2.2]), (25, cB (!(eqT sI2 x1 x2)))], []⟩
def YsSameLinks_0_1 {R : Type} (K : Ex → St → Option R) (c0 : CsSameLinks_0) (v0 : VsSameLinks_0) : Option R := K (.exit 0) ⟨26, 0, [(0, .c (.l 112 sI2 c0.1)), (1, .c (.l 112 sI2 c0.2)), (5, cI v0), (11, cI v0), (12, .c (.l 112 sI2 c0.1)), (13, cI (c0.1.length : Int)), (14, cB (decide (v0 < (c0.1.length : Int))))], []⟩
theorem lsSameLinks_0 {R : Type} (k : Nat) (K : Ex → St → Option R) (c0 : CsSameLinks_0) : ∀ (n : Nat) (v : VsSameLinks_0), loopRun [0, 0, 1, 5] (run E (den E k) (lv 77) k (nthLoop Tryz.f77 0)) n (StsSameLinks_0 c0 v) K = LsSameLinks_0 k (YsSameLinks_0_0 K c0) (YsSameLinks_0_1 K c0) c0 n v := loop_law (B := BsSameLinks_0 k (YsSameLinks_0_0 K c0) (YsSameLinks_0_1 K c0) c0) (fun _ => rfl) (fun n v => by kernel_rfl) (fun _ => rfl) (fun _ _ => rfl)
theorem msSameLinks_0 (k : Nat) (a0 : List I2) (a1 : List I2) : FsSameLinks (k + 1) a0 a1 = if ((a0.length : Int) != (a1.length : Int)) = true then some false else loopRun (R := Bool) [0, 0, 1, 5] (run E (den E k) (lv 77) k (nthLoop Tryz.f77 0)) k (StsSameLinks_0 (a0, a1) 0) (kontAt E (den E k) (lv 77) k (bodyOf Tryz.f77) 0 [] (finish E (rs 77) Tryz.f77 : Ex → St → Option (Bool))) := by kernel_rfl
theorem esSameLinks (k : Nat) (a0 : List I2) (a1 : List I2) : FsSameLinks (k + 1) a0 a1 = if ((a0.length : Int) != (a1.length : Int)) = true then some false else LsSameLinks_0 k (fun (v0 : Int) (x1 : I2) (x2 : I2) => some false) (fun (v0 : Int) => some true) (a0, a1) k 0 := by
  rw [msSameLinks_0]
  simp only [lsSameLinks_0]
  kernel_rfl
end Go.Proofs.YtcdlkadknenodaaGreat.World
