/- The equations of the functions that a law reaches, part 1. No condition. -/
import Derived.Test.YtcdlkadknenodaaGreatV4
import Derived.Test.YtcdlkadknenodaaGreatProg
import Derived.KernelRfl
namespace Go.Proofs.YtcdlkadknenodaaGreat.World
open Go Go.V Go.Proofs
set_option linter.unusedVariables false
set_option linter.unusedSimpArgs false
set_option maxRecDepth 100000
set_option maxHeartbeats 4000000
abbrev I6 : Type := Int × Int × Int × Int × Int × Int
abbrev I4 : Type := Int × Int × Int × Int
abbrev I3 : Type := Int × Int × Int
abbrev I2 : Type := Int × Int
abbrev TLPiece : Type := I2 × (List I2) × List (Int × (List Int) × List Int)
abbrev TPiece : Type := I2 × (List I2) × List (Int × (List Int) × List Int)
abbrev TLProgram : Type := Int × Int × Int × List TPiece
abbrev TProgram : Type := Int × Int × Int × List TPiece
abbrev TLSky : Type := Int × (List I4) × (List I3) × Int × Int × Int × Int × Int × (List I3) × Int
abbrev TSky : Type := Int × (List I4) × (List I3) × Int × Int × Int × Int × Int × (List I3) × Int
abbrev TLWorld : Type := TSky × TProgram × (List Int) × (List Int) × (List I6) × (List (List I6)) × (List I4) × (List Int) × (List (Int × Int × List Int)) × (List I4) × Int × Int × (List I6) × List I4
abbrev TWorld : Type := TSky × TProgram × (List Int) × (List Int) × (List I6) × (List (List I6)) × (List I4) × (List Int) × (List (Int × Int × List Int)) × (List I4) × Int × Int × (List I6) × List I4
abbrev sI4 : Sh := (.a [(.i .i64), (.i .i64), (.i .i64), (.i .i64)])
abbrev sI3 : Sh := (.a [(.i .i64), (.i .i64), (.i .i64)])
abbrev sI2 : Sh := (.a [(.i .i64), (.i .i64)])
abbrev sZone : Sh := (.a [(.i .i64), sI2])
abbrev sLSky : Sh := (.a [(.i .i64), (.l 185 sI4), (.l 187 sI3), (.i .i64), (.i .i64), (.i .i64), (.i .i64), (.i .i64), (.l 191 sZone), (.i .i64)])
abbrev sTable : Sh := (.a [(.i .i64), (.l 3 (.i .i64)), (.l 3 (.i .i64))])
abbrev sLPiece : Sh := (.a [sI2, (.l 220 sI2), (.l 218 sTable)])
abbrev sLProgram : Sh := (.a [(.i .i64), (.i .i64), (.i .i64), (.l 183 sLPiece)])
abbrev sLaw : Sh := (.a [(.l 3 (.i .i64))])
abbrev sI6 : Sh := (.a [(.i .i64), (.i .i64), (.i .i64), (.i .i64), (.i .i64), (.i .i64)])
abbrev sLQueue : Sh := (.a [(.l 167 sI6)])
abbrev sStream : Sh := (.a [(.i .i64), (.i .i64), (.l 3 (.i .i64))])
abbrev sLWorld : Sh := (.a [sLSky, sLProgram, sLaw, (.l 3 (.i .i64)), (.l 159 sI6), (.l 151 sLQueue), (.l 162 sI4), (.l 3 (.i .i64)), (.l 153 sStream), (.l 165 sI4), (.i .i64), (.i .i64), (.l 167 sI6), (.l 169 sI4)])
abbrev sSky : Sh := (.a [(.i .i64), (.l 94 sI4), (.l 97 sI3), (.i .i64), (.i .i64), (.i .i64), (.i .i64), (.i .i64), (.l 102 sZone), (.i .i64)])
abbrev sPiece : Sh := (.a [sI2, (.l 112 sI2), (.l 115 sTable)])
abbrev sProgram : Sh := (.a [(.i .i64), (.i .i64), (.i .i64), (.l 109 sPiece)])
abbrev sQueue : Sh := (.a [(.l 122 sI6)])
abbrev sWorld : Sh := (.a [sSky, sProgram, sLaw, (.l 3 (.i .i64)), (.l 126 sI6), (.l 120 sQueue), (.l 129 sI4), (.l 3 (.i .i64)), (.l 132 sStream), (.l 136 sI4), (.i .i64), (.i .i64), (.l 122 sI6), (.l 139 sI4)])
noncomputable def ty : Nat → Option TyI
  | 3 => some ⟨.one, 1, 8, [(.int .i64 0)], (.i .i64)⟩
  | 4 => some ⟨.one, 1, 1, [(.bool false)], .b⟩
  | 22 => some ⟨.slc 185, 1, 24, [(.slice none 0 0)], (.l 185 sI4)⟩
  | 23 => some ⟨.slc 187, 1, 24, [(.slice none 0 0)], (.l 187 sI3)⟩
  | 24 => some ⟨.slc 191, 1, 24, [(.slice none 0 0)], (.l 191 sZone)⟩
  | 26 => some ⟨.agg [(0, 3), (1, 22), (2, 23), (3, 3), (4, 3), (5, 3), (6, 3), (7, 3), (8, 24), (9, 3)], 10, 128, [(.int .i64 0), (.slice none 0 0), (.slice none 0 0), (.int .i64 0), (.int .i64 0), (.int .i64 0), (.int .i64 0), (.int .i64 0), (.slice none 0 0), (.int .i64 0)], sLSky⟩
  | 27 => some ⟨.slc 183, 1, 24, [(.slice none 0 0)], (.l 183 sLPiece)⟩
  | 29 => some ⟨.agg [(0, 3), (1, 3), (2, 3), (3, 27)], 4, 48, [(.int .i64 0), (.int .i64 0), (.int .i64 0), (.slice none 0 0)], sLProgram⟩
  | 30 => some ⟨.slc 3, 1, 24, [(.slice none 0 0)], (.l 3 (.i .i64))⟩
  | 32 => some ⟨.agg [(0, 30)], 1, 24, [(.slice none 0 0)], sLaw⟩
  | 33 => some ⟨.slc 159, 1, 24, [(.slice none 0 0)], (.l 159 sI6)⟩
  | 34 => some ⟨.slc 151, 1, 24, [(.slice none 0 0)], (.l 151 sLQueue)⟩
  | 35 => some ⟨.slc 162, 1, 24, [(.slice none 0 0)], (.l 162 sI4)⟩
  | 36 => some ⟨.slc 153, 1, 24, [(.slice none 0 0)], (.l 153 sStream)⟩
  | 37 => some ⟨.slc 165, 1, 24, [(.slice none 0 0)], (.l 165 sI4)⟩
  | 38 => some ⟨.slc 167, 1, 24, [(.slice none 0 0)], (.l 167 sI6)⟩
  | 39 => some ⟨.slc 169, 1, 24, [(.slice none 0 0)], (.l 169 sI4)⟩
  | 41 => some ⟨.agg [(0, 26), (10, 29), (14, 32), (15, 30), (16, 33), (17, 34), (18, 35), (19, 30), (20, 36), (21, 37), (22, 3), (23, 3), (24, 38), (25, 39)], 26, 432, [(.int .i64 0), (.slice none 0 0), (.slice none 0 0), (.int .i64 0), (.int .i64 0), (.int .i64 0), (.int .i64 0), (.int .i64 0), (.slice none 0 0), (.int .i64 0), (.int .i64 0), (.int .i64 0), (.int .i64 0), (.slice none 0 0), (.slice none 0 0), (.slice none 0 0), (.slice none 0 0), (.slice none 0 0), (.slice none 0 0), (.slice none 0 0), (.slice none 0 0), (.slice none 0 0), (.int .i64 0), (.int .i64 0), (.slice none 0 0), (.slice none 0 0)], sLWorld⟩
  | 44 => some ⟨.slc 94, 1, 24, [(.slice none 0 0)], (.l 94 sI4)⟩
  | 45 => some ⟨.slc 97, 1, 24, [(.slice none 0 0)], (.l 97 sI3)⟩
  | 46 => some ⟨.slc 102, 1, 24, [(.slice none 0 0)], (.l 102 sZone)⟩
  | 48 => some ⟨.agg [(0, 3), (1, 44), (2, 45), (3, 3), (4, 3), (5, 3), (6, 3), (7, 3), (8, 46), (9, 3)], 10, 128, [(.int .i64 0), (.slice none 0 0), (.slice none 0 0), (.int .i64 0), (.int .i64 0), (.int .i64 0), (.int .i64 0), (.int .i64 0), (.slice none 0 0), (.int .i64 0)], sSky⟩
  | 49 => some ⟨.slc 109, 1, 24, [(.slice none 0 0)], (.l 109 sPiece)⟩
  | 51 => some ⟨.agg [(0, 3), (1, 3), (2, 3), (3, 49)], 4, 48, [(.int .i64 0), (.int .i64 0), (.int .i64 0), (.slice none 0 0)], sProgram⟩
  | 52 => some ⟨.agg [(0, 30)], 1, 24, [(.slice none 0 0)], sLaw⟩
  | 53 => some ⟨.slc 126, 1, 24, [(.slice none 0 0)], (.l 126 sI6)⟩
  | 54 => some ⟨.slc 120, 1, 24, [(.slice none 0 0)], (.l 120 sQueue)⟩
  | 55 => some ⟨.slc 129, 1, 24, [(.slice none 0 0)], (.l 129 sI4)⟩
  | 56 => some ⟨.slc 132, 1, 24, [(.slice none 0 0)], (.l 132 sStream)⟩
  | 57 => some ⟨.slc 136, 1, 24, [(.slice none 0 0)], (.l 136 sI4)⟩
  | 58 => some ⟨.slc 122, 1, 24, [(.slice none 0 0)], (.l 122 sI6)⟩
  | 59 => some ⟨.slc 139, 1, 24, [(.slice none 0 0)], (.l 139 sI4)⟩
  | 61 => some ⟨.agg [(0, 48), (10, 51), (14, 52), (15, 30), (16, 53), (17, 54), (18, 55), (19, 30), (20, 56), (21, 57), (22, 3), (23, 3), (24, 58), (25, 59)], 26, 432, [(.int .i64 0), (.slice none 0 0), (.slice none 0 0), (.int .i64 0), (.int .i64 0), (.int .i64 0), (.int .i64 0), (.int .i64 0), (.slice none 0 0), (.int .i64 0), (.int .i64 0), (.int .i64 0), (.int .i64 0), (.slice none 0 0), (.slice none 0 0), (.slice none 0 0), (.slice none 0 0), (.slice none 0 0), (.slice none 0 0), (.slice none 0 0), (.slice none 0 0), (.slice none 0 0), (.int .i64 0), (.int .i64 0), (.slice none 0 0), (.slice none 0 0)], sWorld⟩
  | 94 => some ⟨.agg [(0, 3), (1, 3), (2, 3), (3, 3)], 4, 32, [(.int .i64 0), (.int .i64 0), (.int .i64 0), (.int .i64 0)], sI4⟩
  | 97 => some ⟨.agg [(0, 3), (1, 3), (2, 3)], 3, 24, [(.int .i64 0), (.int .i64 0), (.int .i64 0)], sI3⟩
  | 100 => some ⟨.agg [(0, 3), (1, 3)], 2, 16, [(.int .i64 0), (.int .i64 0)], sI2⟩
  | 102 => some ⟨.agg [(0, 3), (1, 100)], 3, 24, [(.int .i64 0), (.int .i64 0), (.int .i64 0)], sZone⟩
  | 105 => some ⟨.agg [(0, 3), (1, 3)], 2, 16, [(.int .i64 0), (.int .i64 0)], sI2⟩
  | 106 => some ⟨.slc 112, 1, 24, [(.slice none 0 0)], (.l 112 sI2)⟩
  | 107 => some ⟨.slc 115, 1, 24, [(.slice none 0 0)], (.l 115 sTable)⟩
  | 109 => some ⟨.agg [(0, 105), (2, 106), (3, 107)], 4, 64, [(.int .i64 0), (.int .i64 0), (.slice none 0 0), (.slice none 0 0)], sPiece⟩
  | 112 => some ⟨.agg [(0, 3), (1, 3)], 2, 16, [(.int .i64 0), (.int .i64 0)], sI2⟩
  | 115 => some ⟨.agg [(0, 3), (1, 30), (2, 30)], 3, 56, [(.int .i64 0), (.slice none 0 0), (.slice none 0 0)], sTable⟩
  | 120 => some ⟨.agg [(0, 58)], 1, 24, [(.slice none 0 0)], sQueue⟩
  | 122 => some ⟨.agg [(0, 3), (1, 3), (2, 3), (3, 3), (4, 3), (5, 3)], 6, 48, [(.int .i64 0), (.int .i64 0), (.int .i64 0), (.int .i64 0), (.int .i64 0), (.int .i64 0)], sI6⟩
  | 126 => some ⟨.agg [(0, 3), (1, 3), (2, 3), (3, 3), (4, 3), (5, 3)], 6, 48, [(.int .i64 0), (.int .i64 0), (.int .i64 0), (.int .i64 0), (.int .i64 0), (.int .i64 0)], sI6⟩
  | 129 => some ⟨.agg [(0, 3), (1, 3), (2, 3), (3, 3)], 4, 32, [(.int .i64 0), (.int .i64 0), (.int .i64 0), (.int .i64 0)], sI4⟩
  | 132 => some ⟨.agg [(0, 3), (1, 3), (2, 30)], 3, 40, [(.int .i64 0), (.int .i64 0), (.slice none 0 0)], sStream⟩
  | 136 => some ⟨.agg [(0, 3), (1, 3), (2, 3), (3, 3)], 4, 32, [(.int .i64 0), (.int .i64 0), (.int .i64 0), (.int .i64 0)], sI4⟩
  | 139 => some ⟨.agg [(0, 3), (1, 3), (2, 3), (3, 3)], 4, 32, [(.int .i64 0), (.int .i64 0), (.int .i64 0), (.int .i64 0)], sI4⟩
  | 151 => some ⟨.agg [(0, 38)], 1, 24, [(.slice none 0 0)], sLQueue⟩
  | 153 => some ⟨.agg [(0, 3), (1, 3), (2, 30)], 3, 40, [(.int .i64 0), (.int .i64 0), (.slice none 0 0)], sStream⟩
  | 159 => some ⟨.agg [(0, 3), (1, 3), (2, 3), (3, 3), (4, 3), (5, 3)], 6, 48, [(.int .i64 0), (.int .i64 0), (.int .i64 0), (.int .i64 0), (.int .i64 0), (.int .i64 0)], sI6⟩
  | 162 => some ⟨.agg [(0, 3), (1, 3), (2, 3), (3, 3)], 4, 32, [(.int .i64 0), (.int .i64 0), (.int .i64 0), (.int .i64 0)], sI4⟩
  | 165 => some ⟨.agg [(0, 3), (1, 3), (2, 3), (3, 3)], 4, 32, [(.int .i64 0), (.int .i64 0), (.int .i64 0), (.int .i64 0)], sI4⟩
  | 167 => some ⟨.agg [(0, 3), (1, 3), (2, 3), (3, 3), (4, 3), (5, 3)], 6, 48, [(.int .i64 0), (.int .i64 0), (.int .i64 0), (.int .i64 0), (.int .i64 0), (.int .i64 0)], sI6⟩
  | 169 => some ⟨.agg [(0, 3), (1, 3), (2, 3), (3, 3)], 4, 32, [(.int .i64 0), (.int .i64 0), (.int .i64 0), (.int .i64 0)], sI4⟩
  | 179 => some ⟨.agg [(0, 3), (1, 3)], 2, 16, [(.int .i64 0), (.int .i64 0)], sI2⟩
  | 180 => some ⟨.slc 220, 1, 24, [(.slice none 0 0)], (.l 220 sI2)⟩
  | 181 => some ⟨.slc 218, 1, 24, [(.slice none 0 0)], (.l 218 sTable)⟩
  | 183 => some ⟨.agg [(0, 179), (2, 180), (3, 181)], 4, 64, [(.int .i64 0), (.int .i64 0), (.slice none 0 0), (.slice none 0 0)], sLPiece⟩
  | 185 => some ⟨.agg [(0, 3), (1, 3), (2, 3), (3, 3)], 4, 32, [(.int .i64 0), (.int .i64 0), (.int .i64 0), (.int .i64 0)], sI4⟩
  | 187 => some ⟨.agg [(0, 3), (1, 3), (2, 3)], 3, 24, [(.int .i64 0), (.int .i64 0), (.int .i64 0)], sI3⟩
  | 189 => some ⟨.agg [(0, 3), (1, 3)], 2, 16, [(.int .i64 0), (.int .i64 0)], sI2⟩
  | 191 => some ⟨.agg [(0, 3), (1, 189)], 3, 24, [(.int .i64 0), (.int .i64 0), (.int .i64 0)], sZone⟩
  | 200 => some ⟨.slc 30, 1, 24, [(.slice none 0 0)], (.l 30 (.l 3 (.i .i64)))⟩
  | 211 => some ⟨.slc 4, 1, 24, [(.slice none 0 0)], (.l 4 .b)⟩
  | 218 => some ⟨.agg [(0, 3), (1, 30), (2, 30)], 3, 56, [(.int .i64 0), (.slice none 0 0), (.slice none 0 0)], sTable⟩
  | 220 => some ⟨.agg [(0, 3), (1, 3)], 2, 16, [(.int .i64 0), (.int .i64 0)], sI2⟩
  | _ => none
noncomputable def fn0 : Nat → Option Func
  | 4 => some Tryz.f4
  | 5 => some Tryz.f5
  | 7 => some Tryz.f7
  | 9 => some Tryz.f9
  | 10 => some Tryz.f10
  | 11 => some Tryz.f11
  | 12 => some Tryz.f12
  | 13 => some Tryz.f13
  | 14 => some Tryz.f14
  | 15 => some Tryz.f15
  | 16 => some Tryz.f16
  | 17 => some Tryz.f17
  | 18 => some Tryz.f18
  | 19 => some Tryz.f19
  | 20 => some Tryz.f20
  | 21 => some Tryz.f21
  | 22 => some Tryz.f22
  | 28 => some Tryz.f28
  | 29 => some Tryz.f29
  | 30 => some Tryz.f30
  | 31 => some Tryz.f31
  | 32 => some Tryz.f32
  | 33 => some Tryz.f33
  | 34 => some Tryz.f34
  | 35 => some Tryz.f35
  | 36 => some Tryz.f36
  | 37 => some Tryz.f37
  | 38 => some Tryz.f38
  | 57 => some Tryz.f57
  | 58 => some Tryz.f58
  | 59 => some Tryz.f59
  | 60 => some Tryz.f60
  | 61 => some Tryz.f61
  | 62 => some Tryz.f62
  | 63 => some Tryz.f63
  | 64 => some Tryz.f64
  | 65 => some Tryz.f65
  | 66 => some Tryz.f66
  | 67 => some Tryz.f67
  | 68 => some Tryz.f68
  | 69 => some Tryz.f69
  | 70 => some Tryz.f70
  | 71 => some Tryz.f71
  | 72 => some Tryz.f72
  | 73 => some Tryz.f73
  | 74 => some Tryz.f74
  | 75 => some Tryz.f75
  | 76 => some Tryz.f76
  | 80 => some Tryz.f80
  | 81 => some Tryz.f81
  | 82 => some Tryz.f82
  | 83 => some Tryz.f83
  | 84 => some Tryz.f84
  | 85 => some Tryz.f85
  | 86 => some Tryz.f86
  | 87 => some Tryz.f87
  | 88 => some Tryz.f88
  | 89 => some Tryz.f89
  | 90 => some Tryz.f90
  | 91 => some Tryz.f91
  | _ => none
noncomputable def fn1 : Nat → Option Func
  | 92 => some Tryz.f92
  | 93 => some Tryz.f93
  | 94 => some Tryz.f94
  | 95 => some Tryz.f95
  | 96 => some Tryz.f96
  | 97 => some Tryz.f97
  | 98 => some Tryz.f98
  | 99 => some Tryz.f99
  | 100 => some Tryz.f100
  | 101 => some Tryz.f101
  | 102 => some Tryz.f102
  | 103 => some Tryz.f103
  | 104 => some Tryz.f104
  | 105 => some Tryz.f105
  | 106 => some Tryz.f106
  | 107 => some Tryz.f107
  | 108 => some Tryz.f108
  | 109 => some Tryz.f109
  | 110 => some Tryz.f110
  | 111 => some Tryz.f111
  | 112 => some Tryz.f112
  | 113 => some Tryz.f113
  | 114 => some Tryz.f114
  | 115 => some Tryz.f115
  | 116 => some Tryz.f116
  | 117 => some Tryz.f117
  | 118 => some Tryz.f118
  | 119 => some Tryz.f119
  | 120 => some Tryz.f120
  | 121 => some Tryz.f121
  | 122 => some Tryz.f122
  | 123 => some Tryz.f123
  | 124 => some Tryz.f124
  | 125 => some Tryz.f125
  | 126 => some Tryz.f126
  | 127 => some Tryz.f127
  | 128 => some Tryz.f128
  | 129 => some Tryz.f129
  | 130 => some Tryz.f130
  | 131 => some Tryz.f131
  | 132 => some Tryz.f132
  | 133 => some Tryz.f133
  | 134 => some Tryz.f134
  | 135 => some Tryz.f135
  | 136 => some Tryz.f136
  | 137 => some Tryz.f137
  | 138 => some Tryz.f138
  | 139 => some Tryz.f139
  | 140 => some Tryz.f140
  | 141 => some Tryz.f141
  | 142 => some Tryz.f142
  | 143 => some Tryz.f143
  | 144 => some Tryz.f144
  | 145 => some Tryz.f145
  | 146 => some Tryz.f146
  | 147 => some Tryz.f147
  | 148 => some Tryz.f148
  | 149 => some Tryz.f149
  | 150 => some Tryz.f150
  | 151 => some Tryz.f151
  | _ => none
noncomputable def fn2 : Nat → Option Func
  | 152 => some Tryz.f152
  | 153 => some Tryz.f153
  | 154 => some Tryz.f154
  | 155 => some Tryz.f155
  | 156 => some Tryz.f156
  | 157 => some Tryz.f157
  | 158 => some Tryz.f158
  | 159 => some Tryz.f159
  | 160 => some Tryz.f160
  | 161 => some Tryz.f161
  | 162 => some Tryz.f162
  | 163 => some Tryz.f163
  | _ => none
noncomputable def fn (f : Nat) : Option Func := (match fn0 f with
  | some F => some F
  | none => (match fn1 f with
  | some F => some F
  | none => fn2 f))
def lv : Nat → List Nat
  | 10 => [0, 1, 3]
  | 11 => [0, 1, 3]
  | 17 => [0, 0, 1, 5]
  | 19 => [0, 0, 1, 5]
  | 31 => [0, 0, 3, 4]
  | 32 => [0, 0, 3, 4]
  | 33 => [0, 0, 3, 4]
  | 34 => [0, 0, 3, 4]
  | 35 => [0, 0, 3, 4]
  | 36 => [0, 0, 3, 4]
  | 37 => [0, 0, 3, 4]
  | 38 => [0, 0, 3, 4]
  | 60 => [0, 0, 1, 5]
  | 61 => [0, 0, 1, 5]
  | 62 => [0, 0, 1, 5]
  | 63 => [0, 0, 1, 5]
  | 64 => [0, 0, 1, 5]
  | 65 => [0, 0, 1, 5]
  | 66 => [0, 0, 1, 5]
  | 67 => [0, 0, 1, 5]
  | 69 => [0, 1, 2, 3, 7]
  | 70 => [0, 1, 2, 3, 9, 10]
  | 74 => [0, 0, 1, 5]
  | 80 => [0, 0, 3, 4]
  | 81 => [0, 0, 3, 4]
  | 82 => [0, 0, 3, 4]
  | 83 => [0, 0, 3, 4]
  | 91 => [0, 0, 1, 5]
  | 92 => [0, 0, 1, 5]
  | 93 => [0, 0, 1, 5]
  | 94 => [0, 0, 1, 5]
  | 102 => [0, 0, 3, 4, 5]
  | 103 => [0, 1, 2, 3, 4, 9, 10]
  | 105 => [0, 1, 2, 4, 9, 19, 20, 21]
  | 116 => [0, 1, 2, 5]
  | 118 => [0, 0, 3, 6, 7, 8, 9, 13, 14, 15, 27, 28, 35, 36, 37, 73, 74]
  | 122 => [0, 0, 1, 5]
  | 125 => [0, 0, 3, 4]
  | 126 => [0, 0, 3, 4]
  | 129 => [0, 0, 1, 5]
  | 130 => [0, 0, 1, 5]
  | 131 => [0, 1, 4, 9, 10, 11]
  | 134 => [0, 2, 12, 13, 14]
  | 139 => [0, 1, 4, 9, 18, 19, 20]
  | 145 => [0, 1, 2, 3, 7, 8]
  | 147 => [0, 0, 3, 4, 5, 6, 7, 8]
  | 148 => [0, 1, 2, 5]
  | 150 => [0, 0, 1, 7, 8]
  | 153 => [0, 1, 2, 7, 12, 13, 14]
  | 156 => [0, 0, 3, 4]
  | 157 => [0, 0, 1, 2, 7, 8]
  | 158 => [0, 0, 1, 5]
  | _ => []
def rs : Nat → RSh
  | 4 => ⟨false, [.b], 0⟩
  | 5 => ⟨false, [(.i .i64)], 0⟩
  | 7 => ⟨true, [sWorld], 0⟩
  | 9 => ⟨false, [.b], 0⟩
  | 10 => ⟨false, [.b], 0⟩
  | 11 => ⟨false, [.b], 0⟩
  | 12 => ⟨false, [(.i .i64)], 0⟩
  | 13 => ⟨false, [(.i .i64)], 0⟩
  | 14 => ⟨false, [(.i .i64)], 0⟩
  | 15 => ⟨false, [(.i .i64)], 0⟩
  | 16 => ⟨false, [(.i .i64)], 0⟩
  | 17 => ⟨false, [(.i .i64)], 0⟩
  | 18 => ⟨false, [(.i .i64)], 0⟩
  | 19 => ⟨false, [(.i .i64)], 0⟩
  | 20 => ⟨false, [(.i .i64)], 0⟩
  | 21 => ⟨false, [(.i .i64)], 0⟩
  | 22 => ⟨false, [(.i .i64)], 0⟩
  | 28 => ⟨true, [sSky], 0⟩
  | 29 => ⟨true, [sProgram], 0⟩
  | 30 => ⟨true, [sLaw], 0⟩
  | 31 => ⟨true, [(.l 3 (.i .i64))], 0⟩
  | 32 => ⟨true, [(.l 126 sI6)], 0⟩
  | 33 => ⟨true, [(.l 120 sQueue)], 0⟩
  | 34 => ⟨true, [(.l 129 sI4)], 0⟩
  | 35 => ⟨true, [(.l 132 sStream)], 0⟩
  | 36 => ⟨true, [(.l 136 sI4)], 0⟩
  | 37 => ⟨true, [(.l 122 sI6)], 0⟩
  | 38 => ⟨true, [(.l 139 sI4)], 0⟩
  | 57 => ⟨false, [.b], 0⟩
  | 58 => ⟨false, [.b], 0⟩
  | 59 => ⟨false, [.b], 0⟩
  | 60 => ⟨false, [.b], 0⟩
  | 61 => ⟨false, [.b], 0⟩
  | 62 => ⟨false, [.b], 0⟩
  | 63 => ⟨false, [.b], 0⟩
  | 64 => ⟨false, [.b], 0⟩
  | 65 => ⟨false, [.b], 0⟩
  | 66 => ⟨false, [.b], 0⟩
  | 67 => ⟨false, [.b], 0⟩
  | 68 => ⟨false, [(.i .i64)], 0⟩
  | 69 => ⟨false, [.b], 0⟩
  | 70 => ⟨false, [.b], 0⟩
  | 71 => ⟨false, [(.i .i64)], 0⟩
  | 72 => ⟨false, [(.i .i64)], 0⟩
  | 73 => ⟨false, [(.i .i64)], 0⟩
  | 74 => ⟨false, [(.i .i64)], 0⟩
  | 75 => ⟨false, [(.i .i64)], 0⟩
  | 76 => ⟨false, [(.i .i64)], 0⟩
  | 80 => ⟨true, [(.l 94 sI4)], 0⟩
  | 81 => ⟨true, [(.l 97 sI3)], 0⟩
  | 82 => ⟨true, [(.l 102 sZone)], 0⟩
  | 83 => ⟨true, [(.l 109 sPiece)], 0⟩
  | 84 => ⟨false, [sI6], 0⟩
  | 85 => ⟨true, [sQueue], 0⟩
  | 86 => ⟨false, [sI4], 0⟩
  | 87 => ⟨true, [sStream], 0⟩
  | 88 => ⟨false, [sI4], 0⟩
  | 89 => ⟨false, [sI6], 0⟩
  | 90 => ⟨false, [sI4], 0⟩
  | 91 => ⟨false, [.b], 0⟩
  | 92 => ⟨false, [.b], 0⟩
  | 93 => ⟨false, [.b], 0⟩
  | 94 => ⟨false, [.b], 0⟩
  | 95 => ⟨false, [.b], 0⟩
  | 96 => ⟨false, [.b], 0⟩
  | 97 => ⟨false, [.b], 0⟩
  | 98 => ⟨false, [.b], 0⟩
  | 99 => ⟨false, [.b], 0⟩
  | 100 => ⟨false, [.b], 0⟩
  | 101 => ⟨false, [.b], 0⟩
  | 102 => ⟨false, [.b], 0⟩
  | 103 => ⟨true, [(.l 3 (.i .i64))], 0⟩
  | 104 => ⟨false, [.b], 0⟩
  | 105 => ⟨true, [(.l 3 (.i .i64))], 0⟩
  | 106 => ⟨false, [(.i .i64)], 0⟩
  | 107 => ⟨false, [sI4], 0⟩
  | 108 => ⟨false, [sI3], 0⟩
  | 109 => ⟨false, [sZone], 0⟩
  | 110 => ⟨true, [sPiece], 0⟩
  | 111 => ⟨false, [.b], 0⟩
  | 112 => ⟨false, [.b], 0⟩
  | 113 => ⟨false, [.b], 0⟩
  | 114 => ⟨false, [.b], 0⟩
  | 115 => ⟨false, [.b], 0⟩
  | 116 => ⟨false, [.b], 0⟩
  | 117 => ⟨false, [(.i .i64)], 0⟩
  | 118 => ⟨false, [.b], 0⟩
  | 119 => ⟨false, [.b], 0⟩
  | 120 => ⟨false, [(.i .i64)], 0⟩
  | 121 => ⟨false, [(.i .i64)], 0⟩
  | 122 => ⟨false, [(.i .i64)], 0⟩
  | 123 => ⟨false, [sI2], 0⟩
  | 124 => ⟨false, [sI2], 0⟩
  | 125 => ⟨true, [(.l 112 sI2)], 0⟩
  | 126 => ⟨true, [(.l 115 sTable)], 0⟩
  | 127 => ⟨false, [.b], 0⟩
  | 128 => ⟨false, [.b], 0⟩
  | 129 => ⟨false, [.b], 0⟩
  | 130 => ⟨false, [.b], 0⟩
  | 131 => ⟨false, [.b], 0⟩
  | 132 => ⟨false, [(.i .i64)], 0⟩
  | 133 => ⟨false, [.b], 0⟩
  | 134 => ⟨false, [.b], 0⟩
  | 135 => ⟨false, [.b], 0⟩
  | 136 => ⟨false, [(.i .i64), .b], 0⟩
  | 137 => ⟨false, [(.i .i64)], 0⟩
  | 138 => ⟨false, [.b], 0⟩
  | 139 => ⟨false, [.b], 0⟩
  | 140 => ⟨false, [(.i .i64)], 0⟩
  | 141 => ⟨false, [sI2], 0⟩
  | 142 => ⟨true, [sTable], 0⟩
  | 143 => ⟨false, [.b], 0⟩
  | 144 => ⟨false, [.b], 0⟩
  | 145 => ⟨true, [(.l 3 (.i .i64))], 0⟩
  | 146 => ⟨true, [sTable, .b], 0⟩
  | 147 => ⟨false, [.b], 0⟩
  | 148 => ⟨false, [(.i .i64)], 0⟩
  | 149 => ⟨true, [sTable, .b], 0⟩
  | 150 => ⟨false, [(.i .i64)], 0⟩
  | 151 => ⟨false, [.b], 0⟩
  | 152 => ⟨false, [.b], 0⟩
  | 153 => ⟨true, [(.l 3 (.i .i64))], 0⟩
  | 154 => ⟨false, [.b], 0⟩
  | 155 => ⟨true, [sTable], 0⟩
  | 156 => ⟨false, [(.i .i64)], 0⟩
  | 157 => ⟨true, [(.l 3 (.i .i64))], 0⟩
  | 158 => ⟨false, [.b], 0⟩
  | 159 => ⟨false, [.b], 0⟩
  | 160 => ⟨true, [sTable], 0⟩
  | 161 => ⟨false, [.b], 0⟩
  | 162 => ⟨false, [(.i .i64)], 0⟩
  | 163 => ⟨true, [(.l 3 (.i .i64))], 0⟩
  | _ => ⟨false, [], 0⟩
def tk : Nat → List (Option Sh)
  | _ => []
noncomputable def E : Env := { P := Tryz.prog, fn := fn, ty := ty, lv := lv, rs := rs, tk := tk, ext := fun _ => none }
noncomputable def FiisIndex (k : Nat) (a0 : Int) (a1 : Int) : Option (Bool) := den E k 133 [cI a0, cI a1]
theorem eiisIndex (k : Nat) (a0 : Int) (a1 : Int) : FiisIndex (k + 1) a0 a1 = if ((decide (a0 ≥ 0)) == true) = true then some (decide (a0 < a1)) else some false := by kernel_rfl
noncomputable def FiUnionHasLoop (k : Nat) (a0 : List (List Int)) : Option (Bool) := den E k 118 [.c (.l 30 (.l 3 (.i .i64)) a0)]
abbrev CiUnionHasLoop_4 : Type := (List (List Int)) × Int × Bool × (List (List Int)) × Int × Int × Int × (List Bool)
abbrev ViUnionHasLoop_4 : Type := Int
def StiUnionHasLoop_4 (c4 : CiUnionHasLoop_4) (v4 : ViUnionHasLoop_4) : St := ⟨83, 1, [(0, .c (.l 30 (.l 3 (.i .i64)) c4.1)), (3, cI c4.2.1), (6, .c (.ref 0)), (7, cB c4.2.2.1), (13, .c (.l 30 (.l 3 (.i .i64)) c4.2.2.2.1)), (14, cI c4.2.2.2.2.1), (15, cI c4.2.2.2.2.2.1), (73, cI c4.2.2.2.2.2.2.1), (74, cI v4)], [(0, .arr 4 .b c4.2.2.2.2.2.2.2)]⟩
noncomputable def BiUnionHasLoop_4 {R : Type} (k : Nat) (X0 : ViUnionHasLoop_4 → Bool → Option R) (X1 : ViUnionHasLoop_4 → Option R) (c4 : CiUnionHasLoop_4) (rec : ViUnionHasLoop_4 → Option R) (v4 : ViUnionHasLoop_4) : Option R := if (decide (v4 < c4.2.2.2.2.2.2.1)) = true then if 0 ≤ v4 then if v4 < (c4.2.2.2.2.2.2.2.length : Int) then ix c4.2.2.2.2.2.2.2 v4.toNat fun x1 => if (!x1) = true then X0 v4 x1 else rec (IntKind.i64.wrap (v4 + 1)) else none else none else X1 v4
noncomputable def LiUnionHasLoop_4 {R : Type} (k : Nat) (X0 : ViUnionHasLoop_4 → Bool → Option R) (X1 : ViUnionHasLoop_4 → Option R) (c : CiUnionHasLoop_4) : Nat → ViUnionHasLoop_4 → Option R
  | 0, _ => none
  | n + 1, v => BiUnionHasLoop_4 k X0 X1 c (LiUnionHasLoop_4 k X0 X1 c n) v
def YiUnionHasLoop_4_0 {R : Type} (K : Ex → St → Option R) (c4 : CiUnionHasLoop_4) (v4 : ViUnionHasLoop_4) (x1 : Bool) : Option R := K .ret ⟨83, 1, [(0, .c (.l 30 (.l 3 (.i .i64)) c4.1)), (2, cB true), (3, cI c4.2.1), (6, .c (.ref 0)), (7, cB c4.2.2.1), (12, cI v4), (13, .c (.l 30 (.l 3 (.i .i64)) c4.2.2.2.1)), (14, cI c4.2.2.2.2.1), (15, cI c4.2.2.2.2.2.1), (73, cI c4.2.2.2.2.2.2.1), (74, cI v4), (75, cB (decide (v4 < c4.2.2.2.2.2.2.1))), (76, cI v4), (77, .c (.ref 0)), (78, cI v4), (79, .c (.el 0 1 v4.toNat 0)), (80, cB x1), (81, cB (!x1))], [(0, .arr 4 .b c4.2.2.2.2.2.2.2)]⟩
def YiUnionHasLoop_4_1 {R : Type} (K : Ex → St → Option R) (c4 : CiUnionHasLoop_4) (v4 : ViUnionHasLoop_4) : Option R := K (.exit 8) ⟨83, 1, [(0, .c (.l 30 (.l 3 (.i .i64)) c4.1)), (3, cI c4.2.1), (6, .c (.ref 0)), (7, cB c4.2.2.1), (13, .c (.l 30 (.l 3 (.i .i64)) c4.2.2.2.1)), (14, cI c4.2.2.2.2.1), (15, cI c4.2.2.2.2.2.1), (73, cI c4.2.2.2.2.2.2.1), (74, cI v4), (75, cB (decide (v4 < c4.2.2.2.2.2.2.1)))], [(0, .arr 4 .b c4.2.2.2.2.2.2.2)]⟩
theorem liUnionHasLoop_4 {R : Type} (k : Nat) (K : Ex → St → Option R) (c4 : CiUnionHasLoop_4) : ∀ (n : Nat) (v : ViUnionHasLoop_4), loopRun [0, 0, 3, 6, 7, 13, 14, 15, 73, 74] (run E (den E k) (lv 118) k (nthLoop Tryz.f118 4)) n (StiUnionHasLoop_4 c4 v) K = LiUnionHasLoop_4 k (YiUnionHasLoop_4_0 K c4) (YiUnionHasLoop_4_1 K c4) c4 n v := loop_law (B := BiUnionHasLoop_4 k (YiUnionHasLoop_4_0 K c4) (YiUnionHasLoop_4_1 K c4) c4) (fun _ => rfl) (fun n v => by kernel_rfl) (fun _ => rfl) (fun _ _ => rfl)
abbrev CiUnionHasLoop_3 : Type := (List (List Int)) × Int × Bool × Int × (List (List Int)) × Int × Int × Int × Int × (List (List Int)) × Int × (List Bool)
abbrev ViUnionHasLoop_3 : Type := Bool × Int
def StiUnionHasLoop_3 (c3 : CiUnionHasLoop_3) (v3 : ViUnionHasLoop_3) : St := ⟨83, 1, [(0, .c (.l 30 (.l 3 (.i .i64)) c3.1)), (3, cI c3.2.1), (6, .c (.ref 0)), (7, cB c3.2.2.1), (8, cI c3.2.2.2.1), (9, cB v3.1), (13, .c (.l 30 (.l 3 (.i .i64)) c3.2.2.2.2.1)), (14, cI c3.2.2.2.2.2.1), (15, cI c3.2.2.2.2.2.2.1), (27, cI c3.2.2.2.2.2.2.2.1), (28, cI c3.2.2.2.2.2.2.2.2.1), (35, .c (.l 30 (.l 3 (.i .i64)) c3.2.2.2.2.2.2.2.2.2.1)), (36, cI c3.2.2.2.2.2.2.2.2.2.2.1), (37, cI v3.2)], [(0, .arr 4 .b c3.2.2.2.2.2.2.2.2.2.2.2)]⟩
noncomputable def BiUnionHasLoop_3 {R : Type} (k : Nat) (X0 : ViUnionHasLoop_3 → Option R) (c3 : CiUnionHasLoop_3) (rec : ViUnionHasLoop_3 → Option R) (v3 : ViUnionHasLoop_3) : Option R := if (decide (v3.2 < c3.2.2.2.2.2.2.2.2.2.2.1)) = true then if 0 ≤ v3.2 then ix c3.2.2.2.2.2.2.2.2.2.1 v3.2.toNat fun x2 => if (v3.1 == false) = true then if ((decide (c3.2.2.2.1 < (x2.length : Int))) == true) = true then if 0 ≤ c3.2.2.2.1 then ix x2 c3.2.2.2.1.toNat fun x3 => (FiisIndex k x3 c3.2.1).bind fun p4 => if (p4 == true) = true then if 0 ≤ c3.2.2.2.1 then ix x2 c3.2.2.2.1.toNat fun x5 => if 0 ≤ x5 then if x5 < (c3.2.2.2.2.2.2.2.2.2.2.2.length : Int) then ix c3.2.2.2.2.2.2.2.2.2.2.2 x5.toNat fun x6 => rec ((!x6), (IntKind.i64.wrap (v3.2 + 1))) else none else none else none else rec (false, (IntKind.i64.wrap (v3.2 + 1))) else none else rec (false, (IntKind.i64.wrap (v3.2 + 1))) else rec (true, (IntKind.i64.wrap (v3.2 + 1))) else none else X0 v3
noncomputable def LiUnionHasLoop_3 {R : Type} (k : Nat) (X0 : ViUnionHasLoop_3 → Option R) (c : CiUnionHasLoop_3) : Nat → ViUnionHasLoop_3 → Option R
  | 0, _ => none
  | n + 1, v => BiUnionHasLoop_3 k X0 c (LiUnionHasLoop_3 k X0 c n) v
def YiUnionHasLoop_3_0 {R : Type} (K : Ex → St → Option R) (c3 : CiUnionHasLoop_3) (v3 : ViUnionHasLoop_3) : Option R := K (.exit 6) ⟨83, 1, [(0, .c (.l 30 (.l 3 (.i .i64)) c3.1)), (3, cI c3.2.1), (6, .c (.ref 0)), (7, cB c3.2.2.1), (8, cI c3.2.2.2.1), (9, cB v3.1), (13, .c (.l 30 (.l 3 (.i .i64)) c3.2.2.2.2.1)), (14, cI c3.2.2.2.2.2.1), (15, cI c3.2.2.2.2.2.2.1), (27, cI c3.2.2.2.2.2.2.2.1), (28, cI c3.2.2.2.2.2.2.2.2.1), (35, .c (.l 30 (.l 3 (.i .i64)) c3.2.2.2.2.2.2.2.2.2.1)), (36, cI c3.2.2.2.2.2.2.2.2.2.2.1), (37, cI v3.2), (38, cB (decide (v3.2 < c3.2.2.2.2.2.2.2.2.2.2.1)))], [(0, .arr 4 .b c3.2.2.2.2.2.2.2.2.2.2.2)]⟩
theorem liUnionHasLoop_3 {R : Type} (k : Nat) (K : Ex → St → Option R) (c3 : CiUnionHasLoop_3) : ∀ (n : Nat) (v : ViUnionHasLoop_3), loopRun [0, 0, 3, 6, 7, 8, 9, 13, 14, 15, 27, 28, 35, 36, 37] (run E (den E k) (lv 118) k (nthLoop Tryz.f118 3)) n (StiUnionHasLoop_3 c3 v) K = LiUnionHasLoop_3 k (YiUnionHasLoop_3_0 K c3) c3 n v := loop_law (B := BiUnionHasLoop_3 k (YiUnionHasLoop_3_0 K c3) c3) (fun _ => rfl) (fun n v => by kernel_rfl) (fun _ => rfl) (fun _ _ => rfl)
abbrev CiUnionHasLoop_2 : Type := (List (List Int)) × Int × (List (List Int)) × Int × Int × Int
abbrev ViUnionHasLoop_2 : Type := Bool × Int × (List Bool)
def StiUnionHasLoop_2 (c2 : CiUnionHasLoop_2) (v2 : ViUnionHasLoop_2) : St := ⟨83, 1, [(0, .c (.l 30 (.l 3 (.i .i64)) c2.1)), (3, cI c2.2.1), (6, .c (.ref 0)), (7, cB v2.1), (13, .c (.l 30 (.l 3 (.i .i64)) c2.2.2.1)), (14, cI c2.2.2.2.1), (15, cI c2.2.2.2.2.1), (27, cI c2.2.2.2.2.2), (28, cI v2.2.1)], [(0, .arr 4 .b v2.2.2)]⟩
noncomputable def BiUnionHasLoop_2 {R : Type} (k : Nat) (X0 : ViUnionHasLoop_2 → Option R) (c2 : CiUnionHasLoop_2) (rec : ViUnionHasLoop_2 → Option R) (v2 : ViUnionHasLoop_2) : Option R := if (decide (v2.2.1 < c2.2.2.2.2.2)) = true then if 0 ≤ v2.2.1 then if v2.2.1 < (v2.2.2.length : Int) then ix v2.2.2 v2.2.1.toNat fun x1 => if x1 = true then rec (v2.1, (IntKind.i64.wrap (v2.2.1 + 1)), v2.2.2) else LiUnionHasLoop_3 k (fun (v3 : Bool × Int) => if (!v3.1) = true then if 0 ≤ v2.2.1 then if v2.2.1 < (v2.2.2.length : Int) then ix v2.2.2 v2.2.1.toNat fun y2 => rec (true, (IntKind.i64.wrap (v2.2.1 + 1)), (v2.2.2.set v2.2.1.toNat true)) else none else none else rec (v2.1, (IntKind.i64.wrap (v2.2.1 + 1)), v2.2.2)) (c2.1, c2.2.1, v2.1, v2.2.1, c2.2.2.1, c2.2.2.2.1, c2.2.2.2.2.1, c2.2.2.2.2.2, v2.2.1, c2.1, (c2.1.length : Int), v2.2.2) k (false, 0) else none else none else X0 v2
noncomputable def LiUnionHasLoop_2 {R : Type} (k : Nat) (X0 : ViUnionHasLoop_2 → Option R) (c : CiUnionHasLoop_2) : Nat → ViUnionHasLoop_2 → Option R
  | 0, _ => none
  | n + 1, v => BiUnionHasLoop_2 k X0 c (LiUnionHasLoop_2 k X0 c n) v
def YiUnionHasLoop_2_0 {R : Type} (K : Ex → St → Option R) (c2 : CiUnionHasLoop_2) (v2 : ViUnionHasLoop_2) : Option R := K (.exit 4) ⟨83, 1, [(0, .c (.l 30 (.l 3 (.i .i64)) c2.1)), (3, cI c2.2.1), (6, .c (.ref 0)), (7, cB v2.1), (13, .c (.l 30 (.l 3 (.i .i64)) c2.2.2.1)), (14, cI c2.2.2.2.1), (15, cI c2.2.2.2.2.1), (27, cI c2.2.2.2.2.2), (28, cI v2.2.1), (29, cB (decide (v2.2.1 < c2.2.2.2.2.2)))], [(0, .arr 4 .b v2.2.2)]⟩
theorem bmiUnionHasLoop_2_0 {R : Type} (k n : Nat) (K : Ex → St → Option R) (c2 : CiUnionHasLoop_2) (v2 : ViUnionHasLoop_2) : loopRun [0, 0, 3, 6, 7, 13, 14, 15, 27, 28] (run E (den E k) (lv 118) k (nthLoop Tryz.f118 2)) (n + 1) (StiUnionHasLoop_2 c2 v2) K = if (decide (v2.2.1 < c2.2.2.2.2.2)) = true then if 0 ≤ v2.2.1 then if v2.2.1 < (v2.2.2.length : Int) then ix v2.2.2 v2.2.1.toNat fun x1 => if x1 = true then loopRun [0, 0, 3, 6, 7, 13, 14, 15, 27, 28] (run E (den E k) (lv 118) k (nthLoop Tryz.f118 2)) n (StiUnionHasLoop_2 c2 (v2.1, (IntKind.i64.wrap (v2.2.1 + 1)), v2.2.2)) K else loopRun [0, 0, 3, 6, 7, 8, 9, 13, 14, 15, 27, 28, 35, 36, 37] (run E (den E k) (lv 118) k (nthLoop Tryz.f118 3)) k (StiUnionHasLoop_3 (c2.1, c2.2.1, v2.1, v2.2.1, c2.2.2.1, c2.2.2.2.1, c2.2.2.2.2.1, c2.2.2.2.2.2, v2.2.1, c2.1, (c2.1.length : Int), v2.2.2) (false, 0)) (kontAt E (den E k) (lv 118) k (.loop (nthLoop Tryz.f118 2)) (3 - 2) [(n, [0, 0, 3, 6, 7, 13, 14, 15, 27, 28])] K) else none else none else K (.exit 4) ⟨83, 1, [(0, .c (.l 30 (.l 3 (.i .i64)) c2.1)), (3, cI c2.2.1), (6, .c (.ref 0)), (7, cB v2.1), (13, .c (.l 30 (.l 3 (.i .i64)) c2.2.2.1)), (14, cI c2.2.2.2.1), (15, cI c2.2.2.2.2.1), (27, cI c2.2.2.2.2.2), (28, cI v2.2.1), (29, cB (decide (v2.2.1 < c2.2.2.2.2.2)))], [(0, .arr 4 .b v2.2.2)]⟩ := by kernel_rfl
theorem biUnionHasLoop_2 {R : Type} (k n : Nat) (K : Ex → St → Option R) (c2 : CiUnionHasLoop_2) (v : ViUnionHasLoop_2) : loopRun [0, 0, 3, 6, 7, 13, 14, 15, 27, 28] (run E (den E k) (lv 118) k (nthLoop Tryz.f118 2)) (n + 1) (StiUnionHasLoop_2 c2 v) K = BiUnionHasLoop_2 k (YiUnionHasLoop_2_0 K c2) c2 (fun v => loopRun [0, 0, 3, 6, 7, 13, 14, 15, 27, 28] (run E (den E k) (lv 118) k (nthLoop Tryz.f118 2)) n (StiUnionHasLoop_2 c2 v) K) v := by
  rw [bmiUnionHasLoop_2_0]
  simp only [liUnionHasLoop_3]
  kernel_rfl
theorem liUnionHasLoop_2 {R : Type} (k : Nat) (K : Ex → St → Option R) (c2 : CiUnionHasLoop_2) : ∀ (n : Nat) (v : ViUnionHasLoop_2), loopRun [0, 0, 3, 6, 7, 13, 14, 15, 27, 28] (run E (den E k) (lv 118) k (nthLoop Tryz.f118 2)) n (StiUnionHasLoop_2 c2 v) K = LiUnionHasLoop_2 k (YiUnionHasLoop_2_0 K c2) c2 n v := loop_law (B := BiUnionHasLoop_2 k (YiUnionHasLoop_2_0 K c2) c2) (fun _ => rfl) (fun n v => biUnionHasLoop_2 k n K c2 v) (fun _ => rfl) (fun _ _ => rfl)
abbrev CiUnionHasLoop_1 : Type := (List (List Int)) × Int × (List (List Int)) × Int × Int
abbrev ViUnionHasLoop_1 : Type := Bool × (List Bool)
def StiUnionHasLoop_1 (c1 : CiUnionHasLoop_1) (v1 : ViUnionHasLoop_1) : St := ⟨83, 1, [(0, .c (.l 30 (.l 3 (.i .i64)) c1.1)), (3, cI c1.2.1), (6, .c (.ref 0)), (7, cB v1.1), (13, .c (.l 30 (.l 3 (.i .i64)) c1.2.2.1)), (14, cI c1.2.2.2.1), (15, cI c1.2.2.2.2)], [(0, .arr 4 .b v1.2)]⟩
noncomputable def BiUnionHasLoop_1 {R : Type} (k : Nat) (X0 : ViUnionHasLoop_1 → Option R) (c1 : CiUnionHasLoop_1) (rec : ViUnionHasLoop_1 → Option R) (v1 : ViUnionHasLoop_1) : Option R := if v1.1 = true then LiUnionHasLoop_2 k (fun (v2 : Bool × Int × (List Bool)) => rec (v2.1, v2.2.2)) (c1.1, c1.2.1, c1.2.2.1, c1.2.2.2.1, c1.2.2.2.2, c1.2.1) k (false, 0, v1.2) else X0 v1
noncomputable def LiUnionHasLoop_1 {R : Type} (k : Nat) (X0 : ViUnionHasLoop_1 → Option R) (c : CiUnionHasLoop_1) : Nat → ViUnionHasLoop_1 → Option R
  | 0, _ => none
  | n + 1, v => BiUnionHasLoop_1 k X0 c (LiUnionHasLoop_1 k X0 c n) v
def YiUnionHasLoop_1_0 {R : Type} (K : Ex → St → Option R) (c1 : CiUnionHasLoop_1) (v1 : ViUnionHasLoop_1) : Option R := K (.exit 2) ⟨83, 1, [(0, .c (.l 30 (.l 3 (.i .i64)) c1.1)), (3, cI c1.2.1), (6, .c (.ref 0)), (7, cB v1.1), (13, .c (.l 30 (.l 3 (.i .i64)) c1.2.2.1)), (14, cI c1.2.2.2.1), (15, cI c1.2.2.2.2), (26, cB v1.1)], [(0, .arr 4 .b v1.2)]⟩
theorem bmiUnionHasLoop_1_0 {R : Type} (k n : Nat) (K : Ex → St → Option R) (c1 : CiUnionHasLoop_1) (v1 : ViUnionHasLoop_1) : loopRun [0, 0, 3, 6, 7, 13, 14, 15] (run E (den E k) (lv 118) k (nthLoop Tryz.f118 1)) (n + 1) (StiUnionHasLoop_1 c1 v1) K = if v1.1 = true then loopRun [0, 0, 3, 6, 7, 13, 14, 15, 27, 28] (run E (den E k) (lv 118) k (nthLoop Tryz.f118 2)) k (StiUnionHasLoop_2 (c1.1, c1.2.1, c1.2.2.1, c1.2.2.2.1, c1.2.2.2.2, c1.2.1) (false, 0, v1.2)) (kontAt E (den E k) (lv 118) k (.loop (nthLoop Tryz.f118 1)) (2 - 1) [(n, [0, 0, 3, 6, 7, 13, 14, 15])] K) else K (.exit 2) ⟨83, 1, [(0, .c (.l 30 (.l 3 (.i .i64)) c1.1)), (3, cI c1.2.1), (6, .c (.ref 0)), (7, cB v1.1), (13, .c (.l 30 (.l 3 (.i .i64)) c1.2.2.1)), (14, cI c1.2.2.2.1), (15, cI c1.2.2.2.2), (26, cB v1.1)], [(0, .arr 4 .b v1.2)]⟩ := by kernel_rfl
theorem biUnionHasLoop_1 {R : Type} (k n : Nat) (K : Ex → St → Option R) (c1 : CiUnionHasLoop_1) (v : ViUnionHasLoop_1) : loopRun [0, 0, 3, 6, 7, 13, 14, 15] (run E (den E k) (lv 118) k (nthLoop Tryz.f118 1)) (n + 1) (StiUnionHasLoop_1 c1 v) K = BiUnionHasLoop_1 k (YiUnionHasLoop_1_0 K c1) c1 (fun v => loopRun [0, 0, 3, 6, 7, 13, 14, 15] (run E (den E k) (lv 118) k (nthLoop Tryz.f118 1)) n (StiUnionHasLoop_1 c1 v) K) v := by
  rw [bmiUnionHasLoop_1_0]
  simp only [liUnionHasLoop_2]
  kernel_rfl
theorem liUnionHasLoop_1 {R : Type} (k : Nat) (K : Ex → St → Option R) (c1 : CiUnionHasLoop_1) : ∀ (n : Nat) (v : ViUnionHasLoop_1), loopRun [0, 0, 3, 6, 7, 13, 14, 15] (run E (den E k) (lv 118) k (nthLoop Tryz.f118 1)) n (StiUnionHasLoop_1 c1 v) K = LiUnionHasLoop_1 k (YiUnionHasLoop_1_0 K c1) c1 n v := loop_law (B := BiUnionHasLoop_1 k (YiUnionHasLoop_1_0 K c1) c1) (fun _ => rfl) (fun n v => biUnionHasLoop_1 k n K c1 v) (fun _ => rfl) (fun _ _ => rfl)
abbrev CiUnionHasLoop_0 : Type := (List (List Int)) × (List (List Int)) × Int
abbrev ViUnionHasLoop_0 : Type := Int × Int
def StiUnionHasLoop_0 (c0 : CiUnionHasLoop_0) (v0 : ViUnionHasLoop_0) : St := ⟨83, 0, [(0, .c (.l 30 (.l 3 (.i .i64)) c0.1)), (3, cI v0.1), (13, .c (.l 30 (.l 3 (.i .i64)) c0.2.1)), (14, cI c0.2.2), (15, cI v0.2)], []⟩
noncomputable def BiUnionHasLoop_0 {R : Type} (k : Nat) (X0 : ViUnionHasLoop_0 → Option R) (c0 : CiUnionHasLoop_0) (rec : ViUnionHasLoop_0 → Option R) (v0 : ViUnionHasLoop_0) : Option R := if (decide (v0.2 < c0.2.2)) = true then if 0 ≤ v0.2 then ix c0.2.1 v0.2.toNat fun x1 => rec ((mx v0.1 (x1.length : Int)), (IntKind.i64.wrap (v0.2 + 1))) else none else X0 v0
noncomputable def LiUnionHasLoop_0 {R : Type} (k : Nat) (X0 : ViUnionHasLoop_0 → Option R) (c : CiUnionHasLoop_0) : Nat → ViUnionHasLoop_0 → Option R
  | 0, _ => none
  | n + 1, v => BiUnionHasLoop_0 k X0 c (LiUnionHasLoop_0 k X0 c n) v
def YiUnionHasLoop_0_0 {R : Type} (K : Ex → St → Option R) (c0 : CiUnionHasLoop_0) (v0 : ViUnionHasLoop_0) : Option R := K (.exit 0) ⟨83, 0, [(0, .c (.l 30 (.l 3 (.i .i64)) c0.1)), (3, cI v0.1), (13, .c (.l 30 (.l 3 (.i .i64)) c0.2.1)), (14, cI c0.2.2), (15, cI v0.2), (16, cB (decide (v0.2 < c0.2.2)))], []⟩
theorem liUnionHasLoop_0 {R : Type} (k : Nat) (K : Ex → St → Option R) (c0 : CiUnionHasLoop_0) : ∀ (n : Nat) (v : ViUnionHasLoop_0), loopRun [0, 0, 3, 13, 14, 15] (run E (den E k) (lv 118) k (nthLoop Tryz.f118 0)) n (StiUnionHasLoop_0 c0 v) K = LiUnionHasLoop_0 k (YiUnionHasLoop_0_0 K c0) c0 n v := loop_law (B := BiUnionHasLoop_0 k (YiUnionHasLoop_0_0 K c0) c0) (fun _ => rfl) (fun n v => by kernel_rfl) (fun _ => rfl) (fun _ _ => rfl)
theorem miUnionHasLoop_0 (k : Nat) (a0 : List (List Int)) : FiUnionHasLoop (k + 1) a0 = loopRun (R := Bool) [0, 0, 3, 13, 14, 15] (run E (den E k) (lv 118) k (nthLoop Tryz.f118 0)) k (StiUnionHasLoop_0 (a0, a0, (a0.length : Int)) (0, 0)) (kontAt E (den E k) (lv 118) k (bodyOf Tryz.f118) 0 [] (finish E (rs 118) Tryz.f118 : Ex → St → Option (Bool))) := by kernel_rfl
theorem miUnionHasLoop_1 (k : Nat) (a0 : List (List Int)) : FiUnionHasLoop (k + 1) a0 = LiUnionHasLoop_0 k (fun (v0 : I2) => if (v0.1 == v0.1) = true then if 0 ≤ v0.1 then if 1 * v0.1.toNat ≤ 281474976710656 then loopRun (R := Bool) [0, 0, 3, 6, 7, 13, 14, 15] (run E (den E k) (lv 118) k (nthLoop Tryz.f118 1)) k (StiUnionHasLoop_1 (a0, v0.1, a0, (a0.length : Int), v0.2) (true, (List.replicate v0.1.toNat (false : Bool)))) (kontAt E (den E k) (lv 118) k (bodyOf Tryz.f118) 1 [] (finish E (rs 118) Tryz.f118 : Ex → St → Option (Bool))) else none else none else none) (a0, a0, (a0.length : Int)) k (0, 0) := by 
  rw [miUnionHasLoop_0]
  simp only [liUnionHasLoop_0]
  kernel_rfl
theorem miUnionHasLoop_2 (k : Nat) (a0 : List (List Int)) : FiUnionHasLoop (k + 1) a0 = LiUnionHasLoop_0 k (fun (v0 : I2) => if (v0.1 == v0.1) = true then if 0 ≤ v0.1 then if 1 * v0.1.toNat ≤ 281474976710656 then LiUnionHasLoop_1 k (fun (v1 : Bool × (List Bool)) => loopRun (R := Bool) [0, 0, 3, 6, 7, 13, 14, 15, 73, 74] (run E (den E k) (lv 118) k (nthLoop Tryz.f118 4)) k (StiUnionHasLoop_4 (a0, v0.1, v1.1, a0, (a0.length : Int), v0.2, v0.1, v1.2) 0) (kontAt E (den E k) (lv 118) k (bodyOf Tryz.f118) 4 [] (finish E (rs 118) Tryz.f118 : Ex → St → Option (Bool)))) (a0, v0.1, a0, (a0.length : Int), v0.2) k (true, (List.replicate v0.1.toNat (false : Bool))) else none else none else none) (a0, a0, (a0.length : Int)) k (0, 0) := by 
  rw [miUnionHasLoop_1]
  simp only [liUnionHasLoop_1]
  kernel_rfl
theorem eiUnionHasLoop (k : Nat) (a0 : List (List Int)) : FiUnionHasLoop (k + 1) a0 = LiUnionHasLoop_0 k (fun (v0 : I2) => if (v0.1 == v0.1) = true then if 0 ≤ v0.1 then if 1 * v0.1.toNat ≤ 281474976710656 then LiUnionHasLoop_1 k (fun (v1 : Bool × (List Bool)) => LiUnionHasLoop_4 k (fun (v4 : Int) (x1 : Bool) => some true) (fun (v4 : Int) => some false) (a0, v0.1, v1.1, a0, (a0.length : Int), v0.2, v0.1, v1.2) k 0) (a0, v0.1, a0, (a0.length : Int), v0.2) k (true, (List.replicate v0.1.toNat (false : Bool))) else none else none else none) (a0, a0, (a0.length : Int)) k (0, 0) := by
  rw [miUnionHasLoop_2]
  simp only [liUnionHasLoop_4]
  kernel_rfl
noncomputable def FiHasLoop (k : Nat) (a0 : List Int) : Option (Bool) := den E k 104 [.c (.l 3 (.i .i64) a0)]
theorem eiHasLoop (k : Nat) (a0 : List Int) : FiHasLoop (k + 1) a0 = (FiUnionHasLoop k [a0]).bind fun p1 => some p1 := by kernel_rfl
noncomputable def FiIsSpan (k : Nat) (a0 : I2) : Option (Bool) := den E k 161 [.agg [vI a0.1, vI a0.2]]
theorem eiIsSpan (k : Nat) (a0 : I2) : FiIsSpan (k + 1) a0 = if ((decide (a0.1 ≥ 0)) == true) = true then if ((decide (a0.2 ≤ 1000)) == true) = true then some (decide (a0.1 < a0.2)) else some false else some false := by kernel_rfl
noncomputable def FiPiecesIn (k : Nat) (a0 : TProgram) (a1 : Int) (a2 : Int) : Option (List Int) := den E k 153 [.agg [vI a0.1, vI a0.2.1, vI a0.2.2.1, .l 109 sPiece a0.2.2.2], cI a1, cI a2]
abbrev CiPiecesIn_0 : Type := Int × Int × (List TPiece) × Int
abbrev ViPiecesIn_0 : Type := Int × (List Int)
def StiPiecesIn_0 (c0 : CiPiecesIn_0) (v0 : ViPiecesIn_0) : St := ⟨47, 1, [(1, cI c0.1), (2, cI c0.2.1), (7, .c (.ref 0)), (12, .c (.l 109 sPiece c0.2.2.1)), (13, cI c0.2.2.2), (14, cI v0.1)], [(0, .arr 3 (.i .i64) v0.2)]⟩
noncomputable def BiPiecesIn_0 {R : Type} (k : Nat) (X0 : ViPiecesIn_0 → Option R) (c0 : CiPiecesIn_0) (rec : ViPiecesIn_0 → Option R) (v0 : ViPiecesIn_0) : Option R := if (decide (v0.1 < c0.2.2.2)) = true then if 0 ≤ v0.1 then ix c0.2.2.1 v0.1.toNat fun x1 => (FiIsSpan k x1.1).bind fun p2 => if (p2 == true) = true then if ((decide (c0.1 ≤ c0.2.1)) == true) = true then if ((decide (x1.1.1 ≤ c0.2.1)) == true) = true then if (decide (x1.1.2 > c0.1)) = true then if (v0.2.length + ([v0.1]).length) * 8 ≤ 140737488355328 then rec ((IntKind.i64.wrap (v0.1 + 1)), (v0.2 ++ [v0.1])) else none else rec ((IntKind.i64.wrap (v0.1 + 1)), v0.2) else rec ((IntKind.i64.wrap (v0.1 + 1)), v0.2) else rec ((IntKind.i64.wrap (v0.1 + 1)), v0.2) else rec ((IntKind.i64.wrap (v0.1 + 1)), v0.2) else none else X0 v0
noncomputable def LiPiecesIn_0 {R : Type} (k : Nat) (X0 : ViPiecesIn_0 → Option R) (c : CiPiecesIn_0) : Nat → ViPiecesIn_0 → Option R
  | 0, _ => none
  | n + 1, v => BiPiecesIn_0 k X0 c (LiPiecesIn_0 k X0 c n) v
def YiPiecesIn_0_0 {R : Type} (K : Ex → St → Option R) (c0 : CiPiecesIn_0) (v0 : ViPiecesIn_0) : Option R := K (.exit 0) ⟨47, 1, [(1, cI c0.1), (2, cI c0.2.1), (7, .c (.ref 0)), (12, .c (.l 109 sPiece c0.2.2.1)), (13, cI c0.2.2.2), (14, cI v0.1), (15, cB (decide (v0.1 < c0.2.2.2)))], [(0, .arr 3 (.i .i64) v0.2)]⟩
theorem liPiecesIn_0 {R : Type} (k : Nat) (K : Ex → St → Option R) (c0 : CiPiecesIn_0) : ∀ (n : Nat) (v : ViPiecesIn_0), loopRun [0, 1, 2, 7, 12, 13, 14] (run E (den E k) (lv 153) k (nthLoop Tryz.f153 0)) n (StiPiecesIn_0 c0 v) K = LiPiecesIn_0 k (YiPiecesIn_0_0 K c0) c0 n v := loop_law (B := BiPiecesIn_0 k (YiPiecesIn_0_0 K c0) c0) (fun _ => rfl) (fun n v => by kernel_rfl) (fun _ => rfl) (fun _ _ => rfl)
theorem miPiecesIn_0 (k : Nat) (a0 : TProgram) (a1 : Int) (a2 : Int) : FiPiecesIn (k + 1) a0 a1 a2 = loopRun (R := List Int) [0, 1, 2, 7, 12, 13, 14] (run E (den E k) (lv 153) k (nthLoop Tryz.f153 0)) k (StiPiecesIn_0 (a1, a2, a0.2.2.2, (a0.2.2.2.length : Int)) (0, [])) (kontAt E (den E k) (lv 153) k (bodyOf Tryz.f153) 0 [] (finish E (rs 153) Tryz.f153 : Ex → St → Option (List Int))) := by kernel_rfl
theorem eiPiecesIn (k : Nat) (a0 : TProgram) (a1 : Int) (a2 : Int) : FiPiecesIn (k + 1) a0 a1 a2 = LiPiecesIn_0 k (fun (v0 : Int × (List Int)) => some v0.2) (a1, a2, a0.2.2.2, (a0.2.2.2.length : Int)) k (0, []) := by
  rw [miPiecesIn_0]
  simp only [liPiecesIn_0]
  kernel_rfl
noncomputable def FgClone_int (k : Nat) (a0 : List Int) : Option (List Int) := den E k 163 [.c (.l 3 (.i .i64) a0)]
theorem egClone_int (k : Nat) (a0 : List Int) : FgClone_int (k + 1) a0 = agree (a0.isEmpty) (some ([])) (if (0 + a0.length) * 8 ≤ 140737488355328 then some a0 else none) := by kernel_rfl
noncomputable def FicloneTable (k : Nat) (a0 : Int × (List Int) × List Int) : Option (Int × (List Int) × List Int) := den E k 160 [.agg [vI a0.1, .l 3 (.i .i64) a0.2.1, .l 3 (.i .i64) a0.2.2]]
theorem eicloneTable (k : Nat) (a0 : Int × (List Int) × List Int) : FicloneTable (k + 1) a0 = (FgClone_int k a0.2.1).bind fun p1 => (FgClone_int k a0.2.2).bind fun p2 => some (a0.1, p1, p2) := by kernel_rfl
noncomputable def FiTableIn (k : Nat) (a0 : TProgram) (a1 : Int) (a2 : Int) : Option ((Int × (List Int) × List Int) × Bool) := den E k 149 [.agg [vI a0.1, vI a0.2.1, vI a0.2.2.1, .l 109 sPiece a0.2.2.2], cI a1, cI a2]
theorem eiTableIn (k : Nat) (a0 : TProgram) (a1 : Int) (a2 : Int) : FiTableIn (k + 1) a0 a1 a2 = (FiisIndex k a1 (a0.2.2.2.length : Int)).bind fun p1 => if ((!p1) == false) = true then if 0 ≤ a1 then ix a0.2.2.2 a1.toNat fun x2 => (FiisIndex k a2 (x2.2.2.length : Int)).bind fun p3 => if (!p3) = true then some ((0, [], []), false) else if 0 ≤ a1 then ix a0.2.2.2 a1.toNat fun x4 => if 0 ≤ a2 then ix x4.2.2 a2.toNat fun x5 => (FicloneTable k x5).bind fun p6 => some (p6, true) else none else none else none else some ((0, [], []), false) := by kernel_rfl
noncomputable def FiIsSafeMix (k : Nat) (a0 : TProgram) (a1 : Int) (a2 : Int) (a3 : Int) : Option (Bool) := den E k 139 [.agg [vI a0.1, vI a0.2.1, vI a0.2.2.1, .l 109 sPiece a0.2.2.2], cI a1, cI a2, cI a3]
abbrev CiIsSafeMix_0 : Type := Int × Int × TProgram × (List Int)
abbrev ViIsSafeMix_0 : Type := Int × (List (List Int))
def StiIsSafeMix_0 (c0 : CiIsSafeMix_0) (v0 : ViIsSafeMix_0) : St := ⟨40, 3, [(1, cI c0.1), (4, cP 0), (9, .c (.ref 1)), (18, .c (.ref 2)), (19, cI c0.2.1), (20, cI v0.1)], [(0, .var [vI c0.2.2.1.1, vI c0.2.2.1.2.1, vI c0.2.2.1.2.2.1, .l 109 sPiece c0.2.2.1.2.2.2]), (1, .arr 30 (.l 3 (.i .i64)) v0.2), (2, .arr 3 (.i .i64) c0.2.2.2)]⟩
noncomputable def BiIsSafeMix_0 {R : Type} (k : Nat) (X0 : ViIsSafeMix_0 → Option R) (c0 : CiIsSafeMix_0) (rec : ViIsSafeMix_0 → Option R) (v0 : ViIsSafeMix_0) : Option R := if (decide (v0.1 < c0.2.1)) = true then if 0 ≤ v0.1 then if v0.1 < (c0.2.2.2.length : Int) then ix c0.2.2.2 v0.1.toNat fun x2 => (FiTableIn k c0.2.2.1 x2 c0.1).bind fun p3 => if (v0.2.length + ([p3.1.2.2]).length) * 24 ≤ 140737488355328 then rec ((IntKind.i64.wrap (v0.1 + 1)), (v0.2 ++ [p3.1.2.2])) else none else none else none else X0 v0
noncomputable def LiIsSafeMix_0 {R : Type} (k : Nat) (X0 : ViIsSafeMix_0 → Option R) (c : CiIsSafeMix_0) : Nat → ViIsSafeMix_0 → Option R
  | 0, _ => none
  | n + 1, v => BiIsSafeMix_0 k X0 c (LiIsSafeMix_0 k X0 c n) v
def YiIsSafeMix_0_0 {R : Type} (K : Ex → St → Option R) (c0 : CiIsSafeMix_0) (v0 : ViIsSafeMix_0) : Option R := K (.exit 0) ⟨40, 3, [(1, cI c0.1), (4, cP 0), (9, .c (.ref 1)), (18, .c (.ref 2)), (19, cI c0.2.1), (20, cI v0.1), (21, cB (decide (v0.1 < c0.2.1)))], [(0, .var [vI c0.2.2.1.1, vI c0.2.2.1.2.1, vI c0.2.2.1.2.2.1, .l 109 sPiece c0.2.2.1.2.2.2]), (1, .arr 30 (.l 3 (.i .i64)) v0.2), (2, .arr 3 (.i .i64) c0.2.2.2)]⟩
theorem liIsSafeMix_0 {R : Type} (k : Nat) (K : Ex → St → Option R) (c0 : CiIsSafeMix_0) : ∀ (n : Nat) (v : ViIsSafeMix_0), loopRun [0, 1, 4, 9, 18, 19, 20] (run E (den E k) (lv 139) k (nthLoop Tryz.f139 0)) n (StiIsSafeMix_0 c0 v) K = LiIsSafeMix_0 k (YiIsSafeMix_0_0 K c0) c0 n v := loop_law (B := BiIsSafeMix_0 k (YiIsSafeMix_0_0 K c0) c0) (fun _ => rfl) (fun n v => by kernel_rfl) (fun _ => rfl) (fun _ _ => rfl)
theorem miIsSafeMix_0 (k : Nat) (a0 : TProgram) (a1 : Int) (a2 : Int) (a3 : Int) : FiIsSafeMix (k + 1) a0 a1 a2 a3 = (FiPiecesIn k a0 a2 a3).bind fun p1 => loopRun (R := Bool) [0, 1, 4, 9, 18, 19, 20] (run E (den E k) (lv 139) k (nthLoop Tryz.f139 0)) k (StiIsSafeMix_0 (a1, (p1.length : Int), a0, p1) (0, [])) (kontAt E (den E k) (lv 139) k (bodyOf Tryz.f139) 0 [] (finish E (rs 139) Tryz.f139 : Ex → St → Option (Bool))) := by kernel_rfl
theorem eiIsSafeMix (k : Nat) (a0 : TProgram) (a1 : Int) (a2 : Int) (a3 : Int) : FiIsSafeMix (k + 1) a0 a1 a2 a3 = (FiPiecesIn k a0 a2 a3).bind fun p1 => LiIsSafeMix_0 k (fun (v0 : Int × (List (List Int))) => (FiUnionHasLoop k v0.2).bind fun p2 => some (!p2)) (a1, (p1.length : Int), a0, p1) k (0, []) := by
  rw [miIsSafeMix_0]
  simp only [liIsSafeMix_0]
  kernel_rfl
noncomputable def FiInSpan (k : Nat) (a0 : I2) (a1 : Int) : Option (Bool) := den E k 152 [.agg [vI a0.1, vI a0.2], cI a1]
theorem eiInSpan (k : Nat) (a0 : I2) (a1 : Int) : FiInSpan (k + 1) a0 a1 = (FiIsSpan k a0).bind fun p1 => if (p1 == true) = true then if ((decide (a0.1 ≤ a1)) == true) = true then some (decide (a1 < a0.2)) else some false else some false := by kernel_rfl
noncomputable def FiPieceAt_1v (k : Nat) (a0 : TPiece) (a1 : Int) : Option (Bool) := den E k 151 [.agg [vI a0.1.1, vI a0.1.2, .l 112 sI2 a0.2.1, .l 115 sTable a0.2.2], .c (.at_ [vI a1])]
theorem eiPieceAt_1v (k : Nat) (a0 : TPiece) (a1 : Int) : FiPieceAt_1v (k + 1) a0 a1 = (FiInSpan k a0.1 a1).bind fun p1 => some p1 := by kernel_rfl
noncomputable def FgIndexFunc_Piecev_iPieceAt_1 (k : Nat) (a0 : List TPiece) (a1 : Int) : Option (Int) := den E k 150 [.c (.l 109 sPiece a0), .c (.clo 151 [.at_ [vI a1]])]
abbrev CgIndexFunc_Piecev_iPieceAt_1_0 : Type := (List TPiece) × Int × Int
abbrev VgIndexFunc_Piecev_iPieceAt_1_0 : Type := Int
def StgIndexFunc_Piecev_iPieceAt_1_0 (c0 : CgIndexFunc_Piecev_iPieceAt_1_0) (v0 : VgIndexFunc_Piecev_iPieceAt_1_0) : St := ⟨19, 0, [(0, .c (.l 109 sPiece c0.1)), (1, .c (.clo 151 [.at_ [vI c0.2.1]])), (7, cI c0.2.2), (8, cI v0)], []⟩
noncomputable def BgIndexFunc_Piecev_iPieceAt_1_0 {R : Type} (k : Nat) (X0 : VgIndexFunc_Piecev_iPieceAt_1_0 → TPiece → Bool → Option R) (X1 : VgIndexFunc_Piecev_iPieceAt_1_0 → Option R) (c0 : CgIndexFunc_Piecev_iPieceAt_1_0) (rec : VgIndexFunc_Piecev_iPieceAt_1_0 → Option R) (v0 : VgIndexFunc_Piecev_iPieceAt_1_0) : Option R := if (decide (v0 < c0.2.2)) = true then if 0 ≤ v0 then ix c0.1 v0.toNat fun x1 => (FiPieceAt_1v k x1 c0.2.1).bind fun p2 => if p2 = true then X0 v0 x1 p2 else rec (IntKind.i64.wrap (v0 + 1)) else none else X1 v0
noncomputable def LgIndexFunc_Piecev_iPieceAt_1_0 {R : Type} (k : Nat) (X0 : VgIndexFunc_Piecev_iPieceAt_1_0 → TPiece → Bool → Option R) (X1 : VgIndexFunc_Piecev_iPieceAt_1_0 → Option R) (c : CgIndexFunc_Piecev_iPieceAt_1_0) : Nat → VgIndexFunc_Piecev_iPieceAt_1_0 → Option R
  | 0, _ => none
  | n + 1, v => BgIndexFunc_Piecev_iPieceAt_1_0 k X0 X1 c (LgIndexFunc_Piecev_iPieceAt_1_0 k X0 X1 c n) v
def YgIndexFunc_Piecev_iPieceAt_1_0_0 {R : Type} (K : Ex → St → Option R) (c0 : CgIndexFunc_Piecev_iPieceAt_1_0) (v0 : VgIndexFunc_Piecev_iPieceAt_1_0) (x1 : TPiece) (p2 : Bool) : Option R := K .ret ⟨19, 0, [(0, .c (.l 109 sPiece c0.1)), (1, .c (.clo 151 [.at_ [vI c0.2.1]])), (4, cI v0), (5, cI v0), (7, cI c0.2.2), (8, cI v0), (9, cB (decide (v0 < c0.2.2))), (10, cI v0), (11, .c (.clo 151 [.at_ [vI c0.2.1]])), (12, .c (.l 109 sPiece c0.1)), (13, cI v0), (14, .c (.at_ [vI x1.1.1, vI x1.1.2, .l 112 sI2 x1.2.1, .l 115 sTable x1.2.2])), (15, .agg [vI x1.1.1, vI x1.1.2, .l 112 sI2 x1.2.1, .l 115 sTable x1.2.2]), (16, cB p2), (17, cI v0)], []⟩
def YgIndexFunc_Piecev_iPieceAt_1_0_1 {R : Type} (K : Ex → St → Option R) (c0 : CgIndexFunc_Piecev_iPieceAt_1_0) (v0 : VgIndexFunc_Piecev_iPieceAt_1_0) : Option R := K (.exit 0) ⟨19, 0, [(0, .c (.l 109 sPiece c0.1)), (1, .c (.clo 151 [.at_ [vI c0.2.1]])), (7, cI c0.2.2), (8, cI v0), (9, cB (decide (v0 < c0.2.2)))], []⟩
theorem lgIndexFunc_Piecev_iPieceAt_1_0 {R : Type} (k : Nat) (K : Ex → St → Option R) (c0 : CgIndexFunc_Piecev_iPieceAt_1_0) : ∀ (n : Nat) (v : VgIndexFunc_Piecev_iPieceAt_1_0), loopRun [0, 0, 1, 7, 8] (run E (den E k) (lv 150) k (nthLoop Tryz.f150 0)) n (StgIndexFunc_Piecev_iPieceAt_1_0 c0 v) K = LgIndexFunc_Piecev_iPieceAt_1_0 k (YgIndexFunc_Piecev_iPieceAt_1_0_0 K c0) (YgIndexFunc_Piecev_iPieceAt_1_0_1 K c0) c0 n v := loop_law (B := BgIndexFunc_Piecev_iPieceAt_1_0 k (YgIndexFunc_Piecev_iPieceAt_1_0_0 K c0) (YgIndexFunc_Piecev_iPieceAt_1_0_1 K c0) c0) (fun _ => rfl) (fun n v => by kernel_rfl) (fun _ => rfl) (fun _ _ => rfl)
theorem mgIndexFunc_Piecev_iPieceAt_1_0 (k : Nat) (a0 : List TPiece) (a1 : Int) : FgIndexFunc_Piecev_iPieceAt_1 (k + 1) a0 a1 = loopRun (R := Int) [0, 0, 1, 7, 8] (run E (den E k) (lv 150) k (nthLoop Tryz.f150 0)) k (StgIndexFunc_Piecev_iPieceAt_1_0 (a0, a1, (a0.length : Int)) 0) (kontAt E (den E k) (lv 150) k (bodyOf Tryz.f150) 0 [] (finish E (rs 150) Tryz.f150 : Ex → St → Option (Int))) := by kernel_rfl
theorem egIndexFunc_Piecev_iPieceAt_1 (k : Nat) (a0 : List TPiece) (a1 : Int) : FgIndexFunc_Piecev_iPieceAt_1 (k + 1) a0 a1 = LgIndexFunc_Piecev_iPieceAt_1_0 k (fun (v0 : Int) (x1 : TPiece) (p2 : Bool) => some v0) (fun (v0 : Int) => some (-1)) (a0, a1, (a0.length : Int)) k 0 := by
  rw [mgIndexFunc_Piecev_iPieceAt_1_0]
  simp only [lgIndexFunc_Piecev_iPieceAt_1_0]
  kernel_rfl
noncomputable def FiPieceAt (k : Nat) (a0 : TProgram) (a1 : Int) : Option (Int) := den E k 137 [.agg [vI a0.1, vI a0.2.1, vI a0.2.2.1, .l 109 sPiece a0.2.2.2], cI a1]
theorem eiPieceAt (k : Nat) (a0 : TProgram) (a1 : Int) : FiPieceAt (k + 1) a0 a1 = (FgIndexFunc_Piecev_iPieceAt_1 k a0.2.2.2 a1).bind fun p1 => some p1 := by kernel_rfl
noncomputable def FiInRange (k : Nat) (a0 : Int) (a1 : Int) (a2 : Int) : Option (Bool) := den E k 135 [cI a0, cI a1, cI a2]
theorem eiInRange (k : Nat) (a0 : Int) (a1 : Int) (a2 : Int) : FiInRange (k + 1) a0 a1 a2 = if ((decide (a1 ≤ a0)) == true) = true then some (decide (a0 ≤ a2)) else some false := by kernel_rfl
noncomputable def FiisSkewed (k : Nat) (a0 : TProgram) (a1 : Int) : Option (Bool) := den E k 138 [.agg [vI a0.1, vI a0.2.1, vI a0.2.2.1, .l 109 sPiece a0.2.2.2], cI a1]
theorem eiisSkewed (k : Nat) (a0 : TProgram) (a1 : Int) : FiisSkewed (k + 1) a0 a1 = (FiInRange k a0.2.2.1 0 5).bind fun p1 => if (p1 == true) = true then (FiInRange k a1 0 1000).bind fun p2 => some p2 else some false := by kernel_rfl
noncomputable def FinextIn (k : Nat) (a0 : TProgram) (a1 : Int) (a2 : Int) (a3 : Int) : Option (Int × Bool) := den E k 136 [.agg [vI a0.1, vI a0.2.1, vI a0.2.2.1, .l 109 sPiece a0.2.2.2], cI a1, cI a2, cI a3]
theorem einextIn (k : Nat) (a0 : TProgram) (a1 : Int) (a2 : Int) (a3 : Int) : FinextIn (k + 1) a0 a1 a2 a3 = (FiTableIn k a0 a1 a2).bind fun p1 => if ((!p1.2) == false) = true then (FiisIndex k a3 (p1.1.2.2.length : Int)).bind fun p2 => if (!p2) = true then some (-1, false) else if 0 ≤ a3 then if a3 < (p1.1.2.2.length : Int) then ix p1.1.2.2 a3.toNat fun x3 => some (x3, true) else none else none else some (-1, false) := by kernel_rfl
noncomputable def FiHopAt (k : Nat) (a0 : TProgram) (a1 : Int) (a2 : Int) (a3 : Int) : Option (Int) := den E k 120 [.agg [vI a0.1, vI a0.2.1, vI a0.2.2.1, .l 109 sPiece a0.2.2.2], cI a1, cI a2, cI a3]
theorem eiHopAt (k : Nat) (a0 : TProgram) (a1 : Int) (a2 : Int) (a3 : Int) : FiHopAt (k + 1) a0 a1 a2 a3 = (FiPieceAt k a0 a3).bind fun p1 => (FinextIn k a0 p1 a2 a1).bind fun p2 => if ((!p2.2) == false) = true then (FiisSkewed k a0 a3).bind fun p3 => if ((!p3) == false) = true then (FiIsSafeMix k a0 a2 (IntKind.i64.wrap (a3 - (IntKind.i64.wrap (2 * a0.2.2.1)))) (IntKind.i64.wrap (a3 + (IntKind.i64.wrap (2 * a0.2.2.1))))).bind fun p4 => if (!p4) = true then some (-1) else some p2.1 else some (-1) else some (-1) := by kernel_rfl
noncomputable def FiAreOffsets (k : Nat) (a0 : TProgram) (a1 : List Int) : Option (Bool) := den E k 134 [.agg [vI a0.1, vI a0.2.1, vI a0.2.2.1, .l 109 sPiece a0.2.2.2], .c (.l 3 (.i .i64) a1)]
abbrev CiAreOffsets_0 : Type := (List Int) × Int × TProgram
abbrev ViAreOffsets_0 : Type := Int
def StiAreOffsets_0 (c0 : CiAreOffsets_0) (v0 : ViAreOffsets_0) : St := ⟨33, 1, [(2, cP 0), (12, .c (.l 3 (.i .i64) c0.1)), (13, cI c0.2.1), (14, cI v0)], [(0, .var [vI c0.2.2.1, vI c0.2.2.2.1, vI c0.2.2.2.2.1, .l 109 sPiece c0.2.2.2.2.2])]⟩
noncomputable def BiAreOffsets_0 {R : Type} (k : Nat) (X0 : ViAreOffsets_0 → Int → Bool → Bool → Option R) (X1 : ViAreOffsets_0 → Int → Bool → Option R) (X2 : ViAreOffsets_0 → Option R) (c0 : CiAreOffsets_0) (rec : ViAreOffsets_0 → Option R) (v0 : ViAreOffsets_0) : Option R := if (decide (v0 < c0.2.1)) = true then if 0 ≤ v0 then ix c0.1 v0.toNat fun x1 => (FiInRange k c0.2.2.2.2.1 0 5).bind fun p2 => if ((!p2) == false) = true then (FiInRange k x1 (IntKind.i64.wrap (0 - c0.2.2.2.2.1)) c0.2.2.2.2.1).bind fun p3 => if (!p3) = true then X0 v0 x1 p2 p3 else rec (IntKind.i64.wrap (v0 + 1)) else X1 v0 x1 p2 else none else X2 v0
noncomputable def LiAreOffsets_0 {R : Type} (k : Nat) (X0 : ViAreOffsets_0 → Int → Bool → Bool → Option R) (X1 : ViAreOffsets_0 → Int → Bool → Option R) (X2 : ViAreOffsets_0 → Option R) (c : CiAreOffsets_0) : Nat → ViAreOffsets_0 → Option R
  | 0, _ => none
  | n + 1, v => BiAreOffsets_0 k X0 X1 X2 c (LiAreOffsets_0 k X0 X1 X2 c n) v
def YiAreOffsets_0_0 {R : Type} (K : Ex → St → Option R) (c0 : CiAreOffsets_0) (v0 : ViAreOffsets_0) (x1 : Int) (p2 : Bool) (p3 : Bool) : Option R := K .ret ⟨33, 1, [(2, cP 0), (4, cB false), (6, cI x1), (12, .c (.l 3 (.i .i64) c0.1)), (13, cI c0.2.1), (14, cI v0), (15, cB (decide (v0 < c0.2.1))), (16, .c (.at_ [vI x1])), (17, cI x1), (18, .c (.ptr 0 2)), (19, cI c0.2.2.2.2.1), (20, cB p2), (21, cB (!p2)), (22, cB false), (23, cI x1), (24, .c (.ptr 0 2)), (25, cI c0.2.2.2.2.1), (26, cI (IntKind.i64.wrap (0 - c0.2.2.2.2.1))), (27, .c (.ptr 0 2)), (28, cI c0.2.2.2.2.1), (29, cB p3), (30, cB (!p3)), (31, cB (!p3))], [(0, .var [vI c0.2.2.1, vI c0.2.2.2.1, vI c0.2.2.2.2.1, .l 109 sPiece c0.2.2.2.2.2])]⟩
def YiAreOffsets_0_1 {R : Type} (K : Ex → St → Option R) (c0 : CiAreOffsets_0) (v0 : ViAreOffsets_0) (x1 : Int) (p2 : Bool) : Option R := K .ret ⟨33, 1, [(2, cP 0), (4, cB false), (6, cI x1), (12, .c (.l 3 (.i .i64) c0.1)), (13, cI c0.2.1), (14, cI v0), (15, cB (decide (v0 < c0.2.1))), (16, .c (.at_ [vI x1])), (17, cI x1), (18, .c (.ptr 0 2)), (19, cI c0.2.2.2.2.1), (20, cB p2), (21, cB (!p2)), (22, cB true), (23, .tup []), (24, .tup []), (25, .tup []), (26, .tup []), (27, .tup []), (28, .tup []), (29, .tup []), (30, .tup []), (31, cB true)], [(0, .var [vI c0.2.2.1, vI c0.2.2.2.1, vI c0.2.2.2.2.1, .l 109 sPiece c0.2.2.2.2.2])]⟩
def YiAreOffsets_0_2 {R : Type} (K : Ex → St → Option R) (c0 : CiAreOffsets_0) (v0 : ViAreOffsets_0) : Option R := K (.exit 0) ⟨33, 1, [(2, cP 0), (12, .c (.l 3 (.i .i64) c0.1)), (13, cI c0.2.1), (14, cI v0), (15, cB (decide (v0 < c0.2.1)))], [(0, .var [vI c0.2.2.1, vI c0.2.2.2.1, vI c0.2.2.2.2.1, .l 109 sPiece c0.2.2.2.2.2])]⟩
theorem liAreOffsets_0 {R : Type} (k : Nat) (K : Ex → St → Option R) (c0 : CiAreOffsets_0) : ∀ (n : Nat) (v : ViAreOffsets_0), loopRun [0, 2, 12, 13, 14] (run E (den E k) (lv 134) k (nthLoop Tryz.f134 0)) n (StiAreOffsets_0 c0 v) K = LiAreOffsets_0 k (YiAreOffsets_0_0 K c0) (YiAreOffsets_0_1 K c0) (YiAreOffsets_0_2 K c0) c0 n v := loop_law (B := BiAreOffsets_0 k (YiAreOffsets_0_0 K c0) (YiAreOffsets_0_1 K c0) (YiAreOffsets_0_2 K c0) c0) (fun _ => rfl) (fun n v => by kernel_rfl) (fun _ => rfl) (fun _ _ => rfl)
theorem miAreOffsets_0 (k : Nat) (a0 : TProgram) (a1 : List Int) : FiAreOffsets (k + 1) a0 a1 = if ((a1.length : Int) != a0.1) = true then some false else loopRun (R := Bool) [0, 2, 12, 13, 14] (run E (den E k) (lv 134) k (nthLoop Tryz.f134 0)) k (StiAreOffsets_0 (a1, (a1.length : Int), a0) 0) (kontAt E (den E k) (lv 134) k (bodyOf Tryz.f134) 0 [] (finish E (rs 134) Tryz.f134 : Ex → St → Option (Bool))) := by kernel_rfl
theorem eiAreOffsets (k : Nat) (a0 : TProgram) (a1 : List Int) : FiAreOffsets (k + 1) a0 a1 = if ((a1.length : Int) != a0.1) = true then some false else LiAreOffsets_0 k (fun (v0 : Int) (x1 : Int) (p2 : Bool) (p3 : Bool) => some false) (fun (v0 : Int) (x1 : Int) (p2 : Bool) => some false) (fun (v0 : Int) => some true) (a1, (a1.length : Int), a0) k 0 := by
  rw [miAreOffsets_0]
  simp only [liAreOffsets_0]
  kernel_rfl
noncomputable def FiisMoment (k : Nat) (a0 : TProgram) (a1 : Int) (a2 : List Int) : Option (Bool) := den E k 119 [.agg [vI a0.1, vI a0.2.1, vI a0.2.2.1, .l 109 sPiece a0.2.2.2], cI a1, .c (.l 3 (.i .i64) a2)]
theorem eiisMoment (k : Nat) (a0 : TProgram) (a1 : Int) (a2 : List Int) : FiisMoment (k + 1) a0 a1 a2 = (FiAreOffsets k a0 a2).bind fun p1 => if (p1 == true) = true then (FiInRange k a1 0 1000).bind fun p2 => some p2 else some false := by kernel_rfl
noncomputable def FiNextsAt (k : Nat) (a0 : TProgram) (a1 : Int) (a2 : Int) (a3 : List Int) : Option (List Int) := den E k 105 [.agg [vI a0.1, vI a0.2.1, vI a0.2.2.1, .l 109 sPiece a0.2.2.2], cI a1, cI a2, .c (.l 3 (.i .i64) a3)]
abbrev CiNextsAt_0 : Type := Int × Int × (List Int) × Int × TProgram
abbrev ViNextsAt_0 : Type := Int × (List Int)
def StiNextsAt_0 (c0 : CiNextsAt_0) (v0 : ViNextsAt_0) : St := ⟨38, 2, [(1, cI c0.1), (2, cI c0.2.1), (4, cP 0), (9, .c (.ref 1)), (19, .c (.l 3 (.i .i64) c0.2.2.1)), (20, cI c0.2.2.2.1), (21, cI v0.1)], [(0, .var [vI c0.2.2.2.2.1, vI c0.2.2.2.2.2.1, vI c0.2.2.2.2.2.2.1, .l 109 sPiece c0.2.2.2.2.2.2.2]), (1, .arr 3 (.i .i64) v0.2)]⟩
noncomputable def BiNextsAt_0 {R : Type} (k : Nat) (X0 : ViNextsAt_0 → Option R) (c0 : CiNextsAt_0) (rec : ViNextsAt_0 → Option R) (v0 : ViNextsAt_0) : Option R := if (decide (v0.1 < c0.2.2.2.1)) = true then if 0 ≤ v0.1 then ix c0.2.2.1 v0.1.toNat fun x2 => (FiHopAt k c0.2.2.2.2 v0.1 c0.1 (IntKind.i64.wrap (c0.2.1 + x2))).bind fun p3 => if (v0.2.length + ([p3]).length) * 8 ≤ 140737488355328 then rec ((IntKind.i64.wrap (v0.1 + 1)), (v0.2 ++ [p3])) else none else none else X0 v0
noncomputable def LiNextsAt_0 {R : Type} (k : Nat) (X0 : ViNextsAt_0 → Option R) (c : CiNextsAt_0) : Nat → ViNextsAt_0 → Option R
  | 0, _ => none
  | n + 1, v => BiNextsAt_0 k X0 c (LiNextsAt_0 k X0 c n) v
def YiNextsAt_0_0 {R : Type} (K : Ex → St → Option R) (c0 : CiNextsAt_0) (v0 : ViNextsAt_0) : Option R := K (.exit 0) ⟨38, 2, [(1, cI c0.1), (2, cI c0.2.1), (4, cP 0), (9, .c (.ref 1)), (19, .c (.l 3 (.i .i64) c0.2.2.1)), (20, cI c0.2.2.2.1), (21, cI v0.1), (22, cB (decide (v0.1 < c0.2.2.2.1)))], [(0, .var [vI c0.2.2.2.2.1, vI c0.2.2.2.2.2.1, vI c0.2.2.2.2.2.2.1, .l 109 sPiece c0.2.2.2.2.2.2.2]), (1, .arr 3 (.i .i64) v0.2)]⟩
theorem liNextsAt_0 {R : Type} (k : Nat) (K : Ex → St → Option R) (c0 : CiNextsAt_0) : ∀ (n : Nat) (v : ViNextsAt_0), loopRun [0, 1, 2, 4, 9, 19, 20, 21] (run E (den E k) (lv 105) k (nthLoop Tryz.f105 0)) n (StiNextsAt_0 c0 v) K = LiNextsAt_0 k (YiNextsAt_0_0 K c0) c0 n v := loop_law (B := BiNextsAt_0 k (YiNextsAt_0_0 K c0) c0) (fun _ => rfl) (fun n v => by kernel_rfl) (fun _ => rfl) (fun _ _ => rfl)
theorem miNextsAt_0 (k : Nat) (a0 : TProgram) (a1 : Int) (a2 : Int) (a3 : List Int) : FiNextsAt (k + 1) a0 a1 a2 a3 = (FiisMoment k a0 a2 a3).bind fun p1 => if (!p1) = true then some ([]) else loopRun (R := List Int) [0, 1, 2, 4, 9, 19, 20, 21] (run E (den E k) (lv 105) k (nthLoop Tryz.f105 0)) k (StiNextsAt_0 (a1, a2, a3, (a3.length : Int), a0) (0, [])) (kontAt E (den E k) (lv 105) k (bodyOf Tryz.f105) 0 [] (finish E (rs 105) Tryz.f105 : Ex → St → Option (List Int))) := by kernel_rfl
theorem eiNextsAt (k : Nat) (a0 : TProgram) (a1 : Int) (a2 : Int) (a3 : List Int) : FiNextsAt (k + 1) a0 a1 a2 a3 = (FiisMoment k a0 a2 a3).bind fun p1 => if (!p1) = true then some ([]) else LiNextsAt_0 k (fun (v0 : Int × (List Int)) => some v0.2) (a1, a2, a3, (a3.length : Int), a0) k (0, []) := by
  rw [miNextsAt_0]
  simp only [liNextsAt_0]
  kernel_rfl
noncomputable def FiAnyLoopAt (k : Nat) (a0 : TProgram) (a1 : Int) (a2 : List Int) : Option (Bool) := den E k 70 [.agg [vI a0.1, vI a0.2.1, vI a0.2.2.1, .l 109 sPiece a0.2.2.2], cI a1, .c (.l 3 (.i .i64) a2)]
abbrev CiAnyLoopAt_0 : Type := Int × (List Int) × Int × TProgram
abbrev ViAnyLoopAt_0 : Type := Int
def StiAnyLoopAt_0 (c0 : CiAnyLoopAt_0) (v0 : ViAnyLoopAt_0) : St := ⟨20, 1, [(1, cI c0.1), (2, .c (.l 3 (.i .i64) c0.2.1)), (3, cP 0), (9, cI c0.2.2.1), (10, cI v0)], [(0, .var [vI c0.2.2.2.1, vI c0.2.2.2.2.1, vI c0.2.2.2.2.2.1, .l 109 sPiece c0.2.2.2.2.2.2])]⟩
noncomputable def BiAnyLoopAt_0 {R : Type} (k : Nat) (X0 : ViAnyLoopAt_0 → (List Int) → Bool → Option R) (X1 : ViAnyLoopAt_0 → Option R) (c0 : CiAnyLoopAt_0) (rec : ViAnyLoopAt_0 → Option R) (v0 : ViAnyLoopAt_0) : Option R := if (decide (v0 < c0.2.2.1)) = true then (FiNextsAt k c0.2.2.2 v0 c0.1 c0.2.1).bind fun p1 => (FiHasLoop k p1).bind fun p2 => if p2 = true then X0 v0 p1 p2 else rec (IntKind.i64.wrap (v0 + 1)) else X1 v0
noncomputable def LiAnyLoopAt_0 {R : Type} (k : Nat) (X0 : ViAnyLoopAt_0 → (List Int) → Bool → Option R) (X1 : ViAnyLoopAt_0 → Option R) (c : CiAnyLoopAt_0) : Nat → ViAnyLoopAt_0 → Option R
  | 0, _ => none
  | n + 1, v => BiAnyLoopAt_0 k X0 X1 c (LiAnyLoopAt_0 k X0 X1 c n) v
def YiAnyLoopAt_0_0 {R : Type} (K : Ex → St → Option R) (c0 : CiAnyLoopAt_0) (v0 : ViAnyLoopAt_0) (p1 : List Int) (p2 : Bool) : Option R := K .ret ⟨20, 2, [(1, cI c0.1), (2, .c (.l 3 (.i .i64) c0.2.1)), (3, cP 0), (6, cB true), (7, cI v0), (9, cI c0.2.2.1), (10, cI v0), (11, cB (decide (v0 < c0.2.2.1))), (12, cI v0), (13, .agg [vI c0.2.2.2.1, vI c0.2.2.2.2.1, vI c0.2.2.2.2.2.1, .l 109 sPiece c0.2.2.2.2.2.2]), (14, cI v0), (15, cI c0.1), (16, .c (.l 3 (.i .i64) c0.2.1)), (17, .c (.ref 1)), (18, cB p2)], [(0, .var [vI c0.2.2.2.1, vI c0.2.2.2.2.1, vI c0.2.2.2.2.2.1, .l 109 sPiece c0.2.2.2.2.2.2]), (1, .arr 3 (.i .i64) p1)]⟩
def YiAnyLoopAt_0_1 {R : Type} (K : Ex → St → Option R) (c0 : CiAnyLoopAt_0) (v0 : ViAnyLoopAt_0) : Option R := K (.exit 0) ⟨20, 1, [(1, cI c0.1), (2, .c (.l 3 (.i .i64) c0.2.1)), (3, cP 0), (9, cI c0.2.2.1), (10, cI v0), (11, cB (decide (v0 < c0.2.2.1)))], [(0, .var [vI c0.2.2.2.1, vI c0.2.2.2.2.1, vI c0.2.2.2.2.2.1, .l 109 sPiece c0.2.2.2.2.2.2])]⟩
theorem liAnyLoopAt_0 {R : Type} (k : Nat) (K : Ex → St → Option R) (c0 : CiAnyLoopAt_0) : ∀ (n : Nat) (v : ViAnyLoopAt_0), loopRun [0, 1, 2, 3, 9, 10] (run E (den E k) (lv 70) k (nthLoop Tryz.f70 0)) n (StiAnyLoopAt_0 c0 v) K = LiAnyLoopAt_0 k (YiAnyLoopAt_0_0 K c0) (YiAnyLoopAt_0_1 K c0) c0 n v := loop_law (B := BiAnyLoopAt_0 k (YiAnyLoopAt_0_0 K c0) (YiAnyLoopAt_0_1 K c0) c0) (fun _ => rfl) (fun n v => by kernel_rfl) (fun _ => rfl) (fun _ _ => rfl)
theorem miAnyLoopAt_0 (k : Nat) (a0 : TProgram) (a1 : Int) (a2 : List Int) : FiAnyLoopAt (k + 1) a0 a1 a2 = loopRun (R := Bool) [0, 1, 2, 3, 9, 10] (run E (den E k) (lv 70) k (nthLoop Tryz.f70 0)) k (StiAnyLoopAt_0 (a1, a2, (a2.length : Int), a0) 0) (kontAt E (den E k) (lv 70) k (bodyOf Tryz.f70) 0 [] (finish E (rs 70) Tryz.f70 : Ex → St → Option (Bool))) := by kernel_rfl
theorem eiAnyLoopAt (k : Nat) (a0 : TProgram) (a1 : Int) (a2 : List Int) : FiAnyLoopAt (k + 1) a0 a1 a2 = LiAnyLoopAt_0 k (fun (v0 : Int) (p1 : List Int) (p2 : Bool) => some true) (fun (v0 : Int) => some false) (a1, a2, (a2.length : Int), a0) k 0 := by
  rw [miAnyLoopAt_0]
  simp only [liAnyLoopAt_0]
  kernel_rfl
noncomputable def FiIsLoopFree (k : Nat) (a0 : TWorld) : Option (Bool) := den E k 11 [.agg [vI a0.1.1, .l 94 sI4 a0.1.2.1, .l 97 sI3 a0.1.2.2.1, vI a0.1.2.2.2.1, vI a0.1.2.2.2.2.1, vI a0.1.2.2.2.2.2.1, vI a0.1.2.2.2.2.2.2.1, vI a0.1.2.2.2.2.2.2.2.1, .l 102 sZone a0.1.2.2.2.2.2.2.2.2.1, vI a0.1.2.2.2.2.2.2.2.2.2, vI a0.2.1.1, vI a0.2.1.2.1, vI a0.2.1.2.2.1, .l 109 sPiece a0.2.1.2.2.2, .l 3 (.i .i64) a0.2.2.1, .l 3 (.i .i64) a0.2.2.2.1, .l 126 sI6 a0.2.2.2.2.1, .l 120 sQueue a0.2.2.2.2.2.1, .l 129 sI4 a0.2.2.2.2.2.2.1, .l 3 (.i .i64) a0.2.2.2.2.2.2.2.1, .l 132 sStream a0.2.2.2.2.2.2.2.2.1, .l 136 sI4 a0.2.2.2.2.2.2.2.2.2.1, vI a0.2.2.2.2.2.2.2.2.2.2.1, vI a0.2.2.2.2.2.2.2.2.2.2.2.1, .l 122 sI6 a0.2.2.2.2.2.2.2.2.2.2.2.2.1, .l 139 sI4 a0.2.2.2.2.2.2.2.2.2.2.2.2.2]]
abbrev CiIsLoopFree_0 : Type := TWorld
abbrev ViIsLoopFree_0 : Type := Int
def StiIsLoopFree_0 (c0 : CiIsLoopFree_0) (v0 : ViIsLoopFree_0) : St := ⟨17, 1, [(1, cP 0), (3, cI v0)], [(0, .var [vI c0.1.1, .l 94 sI4 c0.1.2.1, .l 97 sI3 c0.1.2.2.1, vI c0.1.2.2.2.1, vI c0.1.2.2.2.2.1, vI c0.1.2.2.2.2.2.1, vI c0.1.2.2.2.2.2.2.1, vI c0.1.2.2.2.2.2.2.2.1, .l 102 sZone c0.1.2.2.2.2.2.2.2.2.1, vI c0.1.2.2.2.2.2.2.2.2.2, vI c0.2.1.1, vI c0.2.1.2.1, vI c0.2.1.2.2.1, .l 109 sPiece c0.2.1.2.2.2, .l 3 (.i .i64) c0.2.2.1, .l 3 (.i .i64) c0.2.2.2.1, .l 126 sI6 c0.2.2.2.2.1, .l 120 sQueue c0.2.2.2.2.2.1, .l 129 sI4 c0.2.2.2.2.2.2.1, .l 3 (.i .i64) c0.2.2.2.2.2.2.2.1, .l 132 sStream c0.2.2.2.2.2.2.2.2.1, .l 136 sI4 c0.2.2.2.2.2.2.2.2.2.1, vI c0.2.2.2.2.2.2.2.2.2.2.1, vI c0.2.2.2.2.2.2.2.2.2.2.2.1, .l 122 sI6 c0.2.2.2.2.2.2.2.2.2.2.2.2.1, .l 139 sI4 c0.2.2.2.2.2.2.2.2.2.2.2.2.2])]⟩
noncomputable def BiIsLoopFree_0 {R : Type} (k : Nat) (X0 : ViIsLoopFree_0 → Bool → Option R) (X1 : ViIsLoopFree_0 → Option R) (c0 : CiIsLoopFree_0) (rec : ViIsLoopFree_0 → Option R) (v0 : ViIsLoopFree_0) : Option R := if (decide (v0 < (mn c0.2.2.2.2.2.2.2.2.2.2.2.1 1001))) = true then (FiAnyLoopAt k c0.2.1 v0 c0.2.2.2.1).bind fun p1 => if p1 = true then X0 v0 p1 else rec (IntKind.i64.wrap (v0 + 1)) else X1 v0
noncomputable def LiIsLoopFree_0 {R : Type} (k : Nat) (X0 : ViIsLoopFree_0 → Bool → Option R) (X1 : ViIsLoopFree_0 → Option R) (c : CiIsLoopFree_0) : Nat → ViIsLoopFree_0 → Option R
  | 0, _ => none
  | n + 1, v => BiIsLoopFree_0 k X0 X1 c (LiIsLoopFree_0 k X0 X1 c n) v
def YiIsLoopFree_0_0 {R : Type} (K : Ex → St → Option R) (c0 : CiIsLoopFree_0) (v0 : ViIsLoopFree_0) (p1 : Bool) : Option R := K .ret ⟨17, 1, [(1, cP 0), (2, cB false), (3, cI v0), (4, cI v0), (5, .c (.ptr 0 23)), (6, cI c0.2.2.2.2.2.2.2.2.2.2.2.1), (7, cI (mn c0.2.2.2.2.2.2.2.2.2.2.2.1 1001)), (8, cB (decide (v0 < (mn c0.2.2.2.2.2.2.2.2.2.2.2.1 1001)))), (11, .c (.ptr 0 10)), (12, .agg [vI c0.2.1.1, vI c0.2.1.2.1, vI c0.2.1.2.2.1, .l 109 sPiece c0.2.1.2.2.2]), (13, cI v0), (14, .c (.ptr 0 15)), (15, .c (.l 3 (.i .i64) c0.2.2.2.1)), (16, cB p1)], [(0, .var [vI c0.1.1, .l 94 sI4 c0.1.2.1, .l 97 sI3 c0.1.2.2.1, vI c0.1.2.2.2.1, vI c0.1.2.2.2.2.1, vI c0.1.2.2.2.2.2.1, vI c0.1.2.2.2.2.2.2.1, vI c0.1.2.2.2.2.2.2.2.1, .l 102 sZone c0.1.2.2.2.2.2.2.2.2.1, vI c0.1.2.2.2.2.2.2.2.2.2, vI c0.2.1.1, vI c0.2.1.2.1, vI c0.2.1.2.2.1, .l 109 sPiece c0.2.1.2.2.2, .l 3 (.i .i64) c0.2.2.1, .l 3 (.i .i64) c0.2.2.2.1, .l 126 sI6 c0.2.2.2.2.1, .l 120 sQueue c0.2.2.2.2.2.1, .l 129 sI4 c0.2.2.2.2.2.2.1, .l 3 (.i .i64) c0.2.2.2.2.2.2.2.1, .l 132 sStream c0.2.2.2.2.2.2.2.2.1, .l 136 sI4 c0.2.2.2.2.2.2.2.2.2.1, vI c0.2.2.2.2.2.2.2.2.2.2.1, vI c0.2.2.2.2.2.2.2.2.2.2.2.1, .l 122 sI6 c0.2.2.2.2.2.2.2.2.2.2.2.2.1, .l 139 sI4 c0.2.2.2.2.2.2.2.2.2.2.2.2.2])]⟩
def YiIsLoopFree_0_1 {R : Type} (K : Ex → St → Option R) (c0 : CiIsLoopFree_0) (v0 : ViIsLoopFree_0) : Option R := K (.exit 0) ⟨17, 1, [(1, cP 0), (3, cI v0), (4, cI v0), (5, .c (.ptr 0 23)), (6, cI c0.2.2.2.2.2.2.2.2.2.2.2.1), (7, cI (mn c0.2.2.2.2.2.2.2.2.2.2.2.1 1001)), (8, cB (decide (v0 < (mn c0.2.2.2.2.2.2.2.2.2.2.2.1 1001))))], [(0, .var [vI c0.1.1, .l 94 sI4 c0.1.2.1, .l 97 sI3 c0.1.2.2.1, vI c0.1.2.2.2.1, vI c0.1.2.2.2.2.1, vI c0.1.2.2.2.2.2.1, vI c0.1.2.2.2.2.2.2.1, vI c0.1.2.2.2.2.2.2.2.1, .l 102 sZone c0.1.2.2.2.2.2.2.2.2.1, vI c0.1.2.2.2.2.2.2.2.2.2, vI c0.2.1.1, vI c0.2.1.2.1, vI c0.2.1.2.2.1, .l 109 sPiece c0.2.1.2.2.2, .l 3 (.i .i64) c0.2.2.1, .l 3 (.i .i64) c0.2.2.2.1, .l 126 sI6 c0.2.2.2.2.1, .l 120 sQueue c0.2.2.2.2.2.1, .l 129 sI4 c0.2.2.2.2.2.2.1, .l 3 (.i .i64) c0.2.2.2.2.2.2.2.1, .l 132 sStream c0.2.2.2.2.2.2.2.2.1, .l 136 sI4 c0.2.2.2.2.2.2.2.2.2.1, vI c0.2.2.2.2.2.2.2.2.2.2.1, vI c0.2.2.2.2.2.2.2.2.2.2.2.1, .l 122 sI6 c0.2.2.2.2.2.2.2.2.2.2.2.2.1, .l 139 sI4 c0.2.2.2.2.2.2.2.2.2.2.2.2.2])]⟩
theorem liIsLoopFree_0 {R : Type} (k : Nat) (K : Ex → St → Option R) (c0 : CiIsLoopFree_0) : ∀ (n : Nat) (v : ViIsLoopFree_0), loopRun [0, 1, 3] (run E (den E k) (lv 11) k (nthLoop Tryz.f11 0)) n (StiIsLoopFree_0 c0 v) K = LiIsLoopFree_0 k (YiIsLoopFree_0_0 K c0) (YiIsLoopFree_0_1 K c0) c0 n v := loop_law (B := BiIsLoopFree_0 k (YiIsLoopFree_0_0 K c0) (YiIsLoopFree_0_1 K c0) c0) (fun _ => rfl) (fun n v => by kernel_rfl) (fun _ => rfl) (fun _ _ => rfl)
theorem miIsLoopFree_0 (k : Nat) (a0 : TWorld) : FiIsLoopFree (k + 1) a0 = loopRun (R := Bool) [0, 1, 3] (run E (den E k) (lv 11) k (nthLoop Tryz.f11 0)) k (StiIsLoopFree_0 a0 0) (kontAt E (den E k) (lv 11) k (bodyOf Tryz.f11) 0 [] (finish E (rs 11) Tryz.f11 : Ex → St → Option (Bool))) := by kernel_rfl
theorem eiIsLoopFree (k : Nat) (a0 : TWorld) : FiIsLoopFree (k + 1) a0 = LiIsLoopFree_0 k (fun (v0 : Int) (p1 : Bool) => some false) (fun (v0 : Int) => some true) a0 k 0 := by
  rw [miIsLoopFree_0]
  simp only [liIsLoopFree_0]
  kernel_rfl
noncomputable def FleqBattery (k : Nat) (a0 : I6) (a1 : I6) : Option (Bool) := den E k 95 [.agg [vI a0.1, vI a0.2.1, vI a0.2.2.1, vI a0.2.2.2.1, vI a0.2.2.2.2.1, vI a0.2.2.2.2.2], .agg [vI a1.1, vI a1.2.1, vI a1.2.2.1, vI a1.2.2.2.1, vI a1.2.2.2.2.1, vI a1.2.2.2.2.2]]
theorem eleqBattery (k : Nat) (a0 : I6) (a1 : I6) : FleqBattery (k + 1) a0 a1 = if (a0.1 != a1.1) = true then some false else if (a0.2.1 != a1.2.1) = true then some false else if (a0.2.2.1 != a1.2.2.1) = true then some false else if (a0.2.2.2.1 != a1.2.2.2.1) = true then some false else if (a0.2.2.2.2.1 != a1.2.2.2.2.1) = true then some false else if (a0.2.2.2.2.2 != a1.2.2.2.2.2) = true then some false else some true := by kernel_rfl
noncomputable def FleqBatteryS (k : Nat) (a0 : List I6) (a1 : List I6) : Option (Bool) := den E k 61 [.c (.l 126 sI6 a0), .c (.l 126 sI6 a1)]
abbrev CleqBatteryS_0 : Type := (List I6) × (List I6)
abbrev VleqBatteryS_0 : Type := Int
def StleqBatteryS_0 (c0 : CleqBatteryS_0) (v0 : VleqBatteryS_0) : St := ⟨27, 0, [(0, .c (.l 126 sI6 c0.1)), (1, .c (.l 126 sI6 c0.2)), (5, cI v0)], []⟩
noncomputable def BleqBatteryS_0 {R : Type} (k : Nat) (X0 : VleqBatteryS_0 → I6 → I6 → Bool → Option R) (X1 : VleqBatteryS_0 → Option R) (c0 : CleqBatteryS_0) (rec : VleqBatteryS_0 → Option R) (v0 : VleqBatteryS_0) : Option R := if (decide (v0 < (c0.1.length : Int))) = true then if 0 ≤ v0 then ix c0.1 v0.toNat fun x1 => if 0 ≤ v0 then ix c0.2 v0.toNat fun x2 => (FleqBattery k x1 x2).bind fun p3 => if (!p3) = true then X0 v0 x1 x2 p3 else rec (IntKind.i64.wrap (v0 + 1)) else none else none else X1 v0
noncomputable def LleqBatteryS_0 {R : Type} (k : Nat) (X0 : VleqBatteryS_0 → I6 → I6 → Bool → Option R) (X1 : VleqBatteryS_0 → Option R) (c : CleqBatteryS_0) : Nat → VleqBatteryS_0 → Option R
  | 0, _ => none
  | n + 1, v => BleqBatteryS_0 k X0 X1 c (LleqBatteryS_0 k X0 X1 c n) v
def YleqBatteryS_0_0 {R : Type} (K : Ex → St → Option R) (c0 : CleqBatteryS_0) (v0 : VleqBatteryS_0) (x1 : I6) (x2 : I6) (p3 : Bool) : Option R := K .ret ⟨27, 0, [(0, .c (.l 126 sI6 c0.1)), (1, .c (.l 126 sI6 c0.2)), (4, cB false), (5, cI v0), (11, cI v0), (12, .c (.l 126 sI6 c0.1)), (13, cI (c0.1.length : Int)), (14, cB (decide (v0 < (c0.1.length : Int)))), (17, .c (.l 126 sI6 c0.1)), (18, cI v0), (19, .c (.at_ [vI x1.1, vI x1.2.1, vI x1.2.2.1, vI x1.2.2.2.1, vI x1.2.2.2.2.1, vI x1.2.2.2.2.2])), (20, .agg [vI x1.1, vI x1.2.1, vI x1.2.2.1, vI x1.2.2.2.1, vI x1.2.2.2.2.1, vI x1.2.2.2.2.2]), (21, .c (.l 126 sI6 c0.2)), (22, cI v0), (23, .c (.at_ [vI x2.1, vI x2.2.1, vI x2.2.2.1, vI x2.2.2.2.1, vI x2.2.2.2.2.1, vI x2.2.2.2.2.2])), (24, .agg [vI x2.1, vI x2.2.1, vI x2.2.2.1, vI x2.2.2.2.1, vI x2.2.2.2.2.1, vI x2.2.2.2.2.2]), (25, cB p3), (26, cB (!p3))], []⟩
def YleqBatteryS_0_1 {R : Type} (K : Ex → St → Option R) (c0 : CleqBatteryS_0) (v0 : VleqBatteryS_0) : Option R := K (.exit 0) ⟨27, 0, [(0, .c (.l 126 sI6 c0.1)), (1, .c (.l 126 sI6 c0.2)), (5, cI v0), (11, cI v0), (12, .c (.l 126 sI6 c0.1)), (13, cI (c0.1.length : Int)), (14, cB (decide (v0 < (c0.1.length : Int))))], []⟩
theorem lleqBatteryS_0 {R : Type} (k : Nat) (K : Ex → St → Option R) (c0 : CleqBatteryS_0) : ∀ (n : Nat) (v : VleqBatteryS_0), loopRun [0, 0, 1, 5] (run E (den E k) (lv 61) k (nthLoop Tryz.f61 0)) n (StleqBatteryS_0 c0 v) K = LleqBatteryS_0 k (YleqBatteryS_0_0 K c0) (YleqBatteryS_0_1 K c0) c0 n v := loop_law (B := BleqBatteryS_0 k (YleqBatteryS_0_0 K c0) (YleqBatteryS_0_1 K c0) c0) (fun _ => rfl) (fun n v => by kernel_rfl) (fun _ => rfl) (fun _ _ => rfl)
theorem mleqBatteryS_0 (k : Nat) (a0 : List I6) (a1 : List I6) : FleqBatteryS (k + 1) a0 a1 = if ((a0.length : Int) != (a1.length : Int)) = true then some false else loopRun (R := Bool) [0, 0, 1, 5] (run E (den E k) (lv 61) k (nthLoop Tryz.f61 0)) k (StleqBatteryS_0 (a0, a1) 0) (kontAt E (den E k) (lv 61) k (bodyOf Tryz.f61) 0 [] (finish E (rs 61) Tryz.f61 : Ex → St → Option (Bool))) := by kernel_rfl
theorem eleqBatteryS (k : Nat) (a0 : List I6) (a1 : List I6) : FleqBatteryS (k + 1) a0 a1 = if ((a0.length : Int) != (a1.length : Int)) = true then some false else LleqBatteryS_0 k (fun (v0 : Int) (x1 : I6) (x2 : I6) (p3 : Bool) => some false) (fun (v0 : Int) => some true) (a0, a1) k 0 := by
  rw [mleqBatteryS_0]
  simp only [lleqBatteryS_0]
  kernel_rfl
noncomputable def FleqFault (k : Nat) (a0 : I4) (a1 : I4) : Option (Bool) := den E k 99 [.agg [vI a0.1, vI a0.2.1, vI a0.2.2.1, vI a0.2.2.2], .agg [vI a1.1, vI a1.2.1, vI a1.2.2.1, vI a1.2.2.2]]
theorem eleqFault (k : Nat) (a0 : I4) (a1 : I4) : FleqFault (k + 1) a0 a1 = if (a0.1 != a1.1) = true then some false else if (a0.2.1 != a1.2.1) = true then some false else if (a0.2.2.1 != a1.2.2.1) = true then some false else if (a0.2.2.2 != a1.2.2.2) = true then some false else some true := by kernel_rfl
noncomputable def FleqFaultS (k : Nat) (a0 : List I4) (a1 : List I4) : Option (Bool) := den E k 65 [.c (.l 136 sI4 a0), .c (.l 136 sI4 a1)]
abbrev CleqFaultS_0 : Type := (List I4) × (List I4)
abbrev VleqFaultS_0 : Type := Int
def StleqFaultS_0 (c0 : CleqFaultS_0) (v0 : VleqFaultS_0) : St := ⟨27, 0, [(0, .c (.l 136 sI4 c0.1)), (1, .c (.l 136 sI4 c0.2)), (5, cI v0)], []⟩
noncomputable def BleqFaultS_0 {R : Type} (k : Nat) (X0 : VleqFaultS_0 → I4 → I4 → Bool → Option R) (X1 : VleqFaultS_0 → Option R) (c0 : CleqFaultS_0) (rec : VleqFaultS_0 → Option R) (v0 : VleqFaultS_0) : Option R := if (decide (v0 < (c0.1.length : Int))) = true then if 0 ≤ v0 then ix c0.1 v0.toNat fun x1 => if 0 ≤ v0 then ix c0.2 v0.toNat fun x2 => (FleqFault k x1 x2).bind fun p3 => if (!p3) = true then X0 v0 x1 x2 p3 else rec (IntKind.i64.wrap (v0 + 1)) else none else none else X1 v0
noncomputable def LleqFaultS_0 {R : Type} (k : Nat) (X0 : VleqFaultS_0 → I4 → I4 → Bool → Option R) (X1 : VleqFaultS_0 → Option R) (c : CleqFaultS_0) : Nat → VleqFaultS_0 → Option R
  | 0, _ => none
  | n + 1, v => BleqFaultS_0 k X0 X1 c (LleqFaultS_0 k X0 X1 c n) v
def YleqFaultS_0_0 {R : Type} (K : Ex → St → Option R) (c0 : CleqFaultS_0) (v0 : VleqFaultS_0) (x1 : I4) (x2 : I4) (p3 : Bool) : Option R := K .ret ⟨27, 0, [(0, .c (.l 136 sI4 c0.1)), (1, .c (.l 136 sI4 c0.2)), (4, cB false), (5, cI v0), (11, cI v0), (12, .c (.l 136 sI4 c0.1)), (13, cI (c0.1.length : Int)), (14, cB (decide (v0 < (c0.1.length : Int)))), (17, .c (.l 136 sI4 c0.1)), (18, cI v0), (19, .c (.at_ [vI x1.1, vI x1.2.1, vI x1.2.2.1, vI x1.2.2.2])), (20, .agg [vI x1.1, vI x1.2.1, vI x1.2.2.1, vI x1.2.2.2]), (21, .c (.l 136 sI4 c0.2)), (22, cI v0), (23, .c (.at_ [vI x2.1, vI x2.2.1, vI x2.2.2.1, vI x2.2.2.2])), (24, .agg [vI x2.1, vI x2.2.1, vI x2.2.2.1, vI x2.2.2.2]), (25, cB p3), (26, cB (!p3))], []⟩
def YleqFaultS_0_1 {R : Type} (K : Ex → St → Option R) (c0 : CleqFaultS_0) (v0 : VleqFaultS_0) : Option R := K (.exit 0) ⟨27, 0, [(0, .c (.l 136 sI4 c0.1)), (1, .c (.l 136 sI4 c0.2)), (5, cI v0), (11, cI v0), (12, .c (.l 136 sI4 c0.1)), (13, cI (c0.1.length : Int)), (14, cB (decide (v0 < (c0.1.length : Int))))], []⟩
theorem lleqFaultS_0 {R : Type} (k : Nat) (K : Ex → St → Option R) (c0 : CleqFaultS_0) : ∀ (n : Nat) (v : VleqFaultS_0), loopRun [0, 0, 1, 5] (run E (den E k) (lv 65) k (nthLoop Tryz.f65 0)) n (StleqFaultS_0 c0 v) K = LleqFaultS_0 k (YleqFaultS_0_0 K c0) (YleqFaultS_0_1 K c0) c0 n v := loop_law (B := BleqFaultS_0 k (YleqFaultS_0_0 K c0) (YleqFaultS_0_1 K c0) c0) (fun _ => rfl) (fun n v => by kernel_rfl) (fun _ => rfl) (fun _ _ => rfl)
theorem mleqFaultS_0 (k : Nat) (a0 : List I4) (a1 : List I4) : FleqFaultS (k + 1) a0 a1 = if ((a0.length : Int) != (a1.length : Int)) = true then some false else loopRun (R := Bool) [0, 0, 1, 5] (run E (den E k) (lv 65) k (nthLoop Tryz.f65 0)) k (StleqFaultS_0 (a0, a1) 0) (kontAt E (den E k) (lv 65) k (bodyOf Tryz.f65) 0 [] (finish E (rs 65) Tryz.f65 : Ex → St → Option (Bool))) := by kernel_rfl
theorem eleqFaultS (k : Nat) (a0 : List I4) (a1 : List I4) : FleqFaultS (k + 1) a0 a1 = if ((a0.length : Int) != (a1.length : Int)) = true then some false else LleqFaultS_0 k (fun (v0 : Int) (x1 : I4) (x2 : I4) (p3 : Bool) => some false) (fun (v0 : Int) => some true) (a0, a1) k 0 := by
  rw [mleqFaultS_0]
  simp only [lleqFaultS_0]
  kernel_rfl
noncomputable def FleqFlow (k : Nat) (a0 : I4) (a1 : I4) : Option (Bool) := den E k 97 [.agg [vI a0.1, vI a0.2.1, vI a0.2.2.1, vI a0.2.2.2], .agg [vI a1.1, vI a1.2.1, vI a1.2.2.1, vI a1.2.2.2]]
theorem eleqFlow (k : Nat) (a0 : I4) (a1 : I4) : FleqFlow (k + 1) a0 a1 = if (a0.1 != a1.1) = true then some false else if (a0.2.1 != a1.2.1) = true then some false else if (a0.2.2.1 != a1.2.2.1) = true then some false else if (a0.2.2.2 != a1.2.2.2) = true then some false else some true := by kernel_rfl
noncomputable def FleqFlowS (k : Nat) (a0 : List I4) (a1 : List I4) : Option (Bool) := den E k 63 [.c (.l 129 sI4 a0), .c (.l 129 sI4 a1)]
abbrev CleqFlowS_0 : Type := (List I4) × (List I4)
abbrev VleqFlowS_0 : Type := Int
def StleqFlowS_0 (c0 : CleqFlowS_0) (v0 : VleqFlowS_0) : St := ⟨27, 0, [(0, .c (.l 129 sI4 c0.1)), (1, .c (.l 129 sI4 c0.2)), (5, cI v0)], []⟩
noncomputable def BleqFlowS_0 {R : Type} (k : Nat) (X0 : VleqFlowS_0 → I4 → I4 → Bool → Option R) (X1 : VleqFlowS_0 → Option R) (c0 : CleqFlowS_0) (rec : VleqFlowS_0 → Option R) (v0 : VleqFlowS_0) : Option R := if (decide (v0 < (c0.1.length : Int))) = true then if 0 ≤ v0 then ix c0.1 v0.toNat fun x1 => if 0 ≤ v0 then ix c0.2 v0.toNat fun x2 => (FleqFlow k x1 x2).bind fun p3 => if (!p3) = true then X0 v0 x1 x2 p3 else rec (IntKind.i64.wrap (v0 + 1)) else none else none else X1 v0
noncomputable def LleqFlowS_0 {R : Type} (k : Nat) (X0 : VleqFlowS_0 → I4 → I4 → Bool → Option R) (X1 : VleqFlowS_0 → Option R) (c : CleqFlowS_0) : Nat → VleqFlowS_0 → Option R
  | 0, _ => none
  | n + 1, v => BleqFlowS_0 k X0 X1 c (LleqFlowS_0 k X0 X1 c n) v
def YleqFlowS_0_0 {R : Type} (K : Ex → St → Option R) (c0 : CleqFlowS_0) (v0 : VleqFlowS_0) (x1 : I4) (x2 : I4) (p3 : Bool) : Option R := K .ret ⟨27, 0, [(0, .c (.l 129 sI4 c0.1)), (1, .c (.l 129 sI4 c0.2)), (4, cB false), (5, cI v0), (11, cI v0), (12, .c (.l 129 sI4 c0.1)), (13, cI (c0.1.length : Int)), (14, cB (decide (v0 < (c0.1.length : Int)))), (17, .c (.l 129 sI4 c0.1)), (18, cI v0), (19, .c (.at_ [vI x1.1, vI x1.2.1, vI x1.2.2.1, vI x1.2.2.2])), (20, .agg [vI x1.1, vI x1.2.1, vI x1.2.2.1, vI x1.2.2.2]), (21, .c (.l 129 sI4 c0.2)), (22, cI v0), (23, .c (.at_ [vI x2.1, vI x2.2.1, vI x2.2.2.1, vI x2.2.2.2])), (24, .agg [vI x2.1, vI x2.2.1, vI x2.2.2.1, vI x2.2.2.2]), (25, cB p3), (26, cB (!p3))], []⟩
def YleqFlowS_0_1 {R : Type} (K : Ex → St → Option R) (c0 : CleqFlowS_0) (v0 : VleqFlowS_0) : Option R := K (.exit 0) ⟨27, 0, [(0, .c (.l 129 sI4 c0.1)), (1, .c (.l 129 sI4 c0.2)), (5, cI v0), (11, cI v0), (12, .c (.l 129 sI4 c0.1)), (13, cI (c0.1.length : Int)), (14, cB (decide (v0 < (c0.1.length : Int))))], []⟩
theorem lleqFlowS_0 {R : Type} (k : Nat) (K : Ex → St → Option R) (c0 : CleqFlowS_0) : ∀ (n : Nat) (v : VleqFlowS_0), loopRun [0, 0, 1, 5] (run E (den E k) (lv 63) k (nthLoop Tryz.f63 0)) n (StleqFlowS_0 c0 v) K = LleqFlowS_0 k (YleqFlowS_0_0 K c0) (YleqFlowS_0_1 K c0) c0 n v := loop_law (B := BleqFlowS_0 k (YleqFlowS_0_0 K c0) (YleqFlowS_0_1 K c0) c0) (fun _ => rfl) (fun n v => by kernel_rfl) (fun _ => rfl) (fun _ _ => rfl)
theorem mleqFlowS_0 (k : Nat) (a0 : List I4) (a1 : List I4) : FleqFlowS (k + 1) a0 a1 = if ((a0.length : Int) != (a1.length : Int)) = true then some false else loopRun (R := Bool) [0, 0, 1, 5] (run E (den E k) (lv 63) k (nthLoop Tryz.f63 0)) k (StleqFlowS_0 (a0, a1) 0) (kontAt E (den E k) (lv 63) k (bodyOf Tryz.f63) 0 [] (finish E (rs 63) Tryz.f63 : Ex → St → Option (Bool))) := by kernel_rfl
theorem eleqFlowS (k : Nat) (a0 : List I4) (a1 : List I4) : FleqFlowS (k + 1) a0 a1 = if ((a0.length : Int) != (a1.length : Int)) = true then some false else LleqFlowS_0 k (fun (v0 : Int) (x1 : I4) (x2 : I4) (p3 : Bool) => some false) (fun (v0 : Int) => some true) (a0, a1) k 0 := by
  rw [mleqFlowS_0]
  simp only [lleqFlowS_0]
  kernel_rfl
noncomputable def FleqIntS (k : Nat) (a0 : List Int) (a1 : List Int) : Option (Bool) := den E k 60 [.c (.l 3 (.i .i64) a0), .c (.l 3 (.i .i64) a1)]
abbrev CleqIntS_0 : Type := (List Int) × (List Int)
abbrev VleqIntS_0 : Type := Int
def StleqIntS_0 (c0 : CleqIntS_0) (v0 : VleqIntS_0) : St := ⟨26, 0, [(0, .c (.l 3 (.i .i64) c0.1)), (1, .c (.l 3 (.i .i64) c0.2)), (5, cI v0)], []⟩
noncomputable def BleqIntS_0 {R : Type} (k : Nat) (X0 : VleqIntS_0 → Int → Int → Option R) (X1 : VleqIntS_0 → Option R) (c0 : CleqIntS_0) (rec : VleqIntS_0 → Option R) (v0 : VleqIntS_0) : Option R := if (decide (v0 < (c0.1.length : Int))) = true then if 0 ≤ v0 then ix c0.1 v0.toNat fun x1 => if 0 ≤ v0 then ix c0.2 v0.toNat fun x2 => if (x1 != x2) = true then X0 v0 x1 x2 else rec (IntKind.i64.wrap (v0 + 1)) else none else none else X1 v0
noncomputable def LleqIntS_0 {R : Type} (k : Nat) (X0 : VleqIntS_0 → Int → Int → Option R) (X1 : VleqIntS_0 → Option R) (c : CleqIntS_0) : Nat → VleqIntS_0 → Option R
  | 0, _ => none
  | n + 1, v => BleqIntS_0 k X0 X1 c (LleqIntS_0 k X0 X1 c n) v
def YleqIntS_0_0 {R : Type} (K : Ex → St → Option R) (c0 : CleqIntS_0) (v0 : VleqIntS_0) (x1 : Int) (x2 : Int) : Option R := K .ret ⟨26, 0, [(0, .c (.l 3 (.i .i64) c0.1)), (1, .c (.l 3 (.i .i64) c0.2)), (4, cB false), (5, cI v0), (11, cI v0), (12, .c (.l 3 (.i .i64) c0.1)), (13, cI (c0.1.length : Int)), (14, cB (decide (v0 < (c0.1.length : Int)))), (17, .c (.l 3 (.i .i64) c0.1)), (18, cI v0), (19, .c (.at_ [vI x1])), (20, cI x1), (21, .c (.l 3 (.i .i64) c0.2)), (22, cI v0), (23, .c (.at_ [vI x2])), (24, cI x2), (25, cB (x1 != x2))], []⟩
def YleqIntS_0_1 {R : Type} (K : Ex → St → Option R) (c0 : CleqIntS_0) (v0 : VleqIntS_0) : Option R := K (.exit 0) ⟨26, 0, [(0, .c (.l 3 (.i .i64) c0.1)), (1, .c (.l 3 (.i .i64) c0.2)), (5, cI v0), (11, cI v0), (12, .c (.l 3 (.i .i64) c0.1)), (13, cI (c0.1.length : Int)), (14, cB (decide (v0 < (c0.1.length : Int))))], []⟩
theorem lleqIntS_0 {R : Type} (k : Nat) (K : Ex → St → Option R) (c0 : CleqIntS_0) : ∀ (n : Nat) (v : VleqIntS_0), loopRun [0, 0, 1, 5] (run E (den E k) (lv 60) k (nthLoop Tryz.f60 0)) n (StleqIntS_0 c0 v) K = LleqIntS_0 k (YleqIntS_0_0 K c0) (YleqIntS_0_1 K c0) c0 n v := loop_law (B := BleqIntS_0 k (YleqIntS_0_0 K c0) (YleqIntS_0_1 K c0) c0) (fun _ => rfl) (fun n v => by kernel_rfl) (fun _ => rfl) (fun _ _ => rfl)
theorem mleqIntS_0 (k : Nat) (a0 : List Int) (a1 : List Int) : FleqIntS (k + 1) a0 a1 = if ((a0.length : Int) != (a1.length : Int)) = true then some false else loopRun (R := Bool) [0, 0, 1, 5] (run E (den E k) (lv 60) k (nthLoop Tryz.f60 0)) k (StleqIntS_0 (a0, a1) 0) (kontAt E (den E k) (lv 60) k (bodyOf Tryz.f60) 0 [] (finish E (rs 60) Tryz.f60 : Ex → St → Option (Bool))) := by kernel_rfl
theorem eleqIntS (k : Nat) (a0 : List Int) (a1 : List Int) : FleqIntS (k + 1) a0 a1 = if ((a0.length : Int) != (a1.length : Int)) = true then some false else LleqIntS_0 k (fun (v0 : Int) (x1 : Int) (x2 : Int) => some false) (fun (v0 : Int) => some true) (a0, a1) k 0 := by
  rw [mleqIntS_0]
  simp only [lleqIntS_0]
  kernel_rfl
noncomputable def FleqLaw (k : Nat) (a0 : List Int) (a1 : List Int) : Option (Bool) := den E k 59 [.agg [.l 3 (.i .i64) a0], .agg [.l 3 (.i .i64) a1]]
theorem eleqLaw (k : Nat) (a0 : List Int) (a1 : List Int) : FleqLaw (k + 1) a0 a1 = (FleqIntS k a0 a1).bind fun p1 => if (!p1) = true then some false else some true := by kernel_rfl
noncomputable def FleqPacket (k : Nat) (a0 : I6) (a1 : I6) : Option (Bool) := den E k 100 [.agg [vI a0.1, vI a0.2.1, vI a0.2.2.1, vI a0.2.2.2.1, vI a0.2.2.2.2.1, vI a0.2.2.2.2.2], .agg [vI a1.1, vI a1.2.1, vI a1.2.2.1, vI a1.2.2.2.1, vI a1.2.2.2.2.1, vI a1.2.2.2.2.2]]
theorem eleqPacket (k : Nat) (a0 : I6) (a1 : I6) : FleqPacket (k + 1) a0 a1 = if (a0.1 != a1.1) = true then some false else if (a0.2.1 != a1.2.1) = true then some false else if (a0.2.2.1 != a1.2.2.1) = true then some false else if (a0.2.2.2.1 != a1.2.2.2.1) = true then some false else if (a0.2.2.2.2.1 != a1.2.2.2.2.1) = true then some false else if (a0.2.2.2.2.2 != a1.2.2.2.2.2) = true then some false else some true := by kernel_rfl
noncomputable def FleqPacketS (k : Nat) (a0 : List I6) (a1 : List I6) : Option (Bool) := den E k 66 [.c (.l 122 sI6 a0), .c (.l 122 sI6 a1)]
abbrev CleqPacketS_0 : Type := (List I6) × (List I6)
abbrev VleqPacketS_0 : Type := Int
def StleqPacketS_0 (c0 : CleqPacketS_0) (v0 : VleqPacketS_0) : St := ⟨27, 0, [(0, .c (.l 122 sI6 c0.1)), (1, .c (.l 122 sI6 c0.2)), (5, cI v0)], []⟩
noncomputable def BleqPacketS_0 {R : Type} (k : Nat) (X0 : VleqPacketS_0 → I6 → I6 → Bool → Option R) (X1 : VleqPacketS_0 → Option R) (c0 : CleqPacketS_0) (rec : VleqPacketS_0 → Option R) (v0 : VleqPacketS_0) : Option R := if (decide (v0 < (c0.1.length : Int))) = true then if 0 ≤ v0 then ix c0.1 v0.toNat fun x1 => if 0 ≤ v0 then ix c0.2 v0.toNat fun x2 => (FleqPacket k x1 x2).bind fun p3 => if (!p3) = true then X0 v0 x1 x2 p3 else rec (IntKind.i64.wrap (v0 + 1)) else none else none else X1 v0
noncomputable def LleqPacketS_0 {R : Type} (k : Nat) (X0 : VleqPacketS_0 → I6 → I6 → Bool → Option R) (X1 : VleqPacketS_0 → Option R) (c : CleqPacketS_0) : Nat → VleqPacketS_0 → Option R
  | 0, _ => none
  | n + 1, v => BleqPacketS_0 k X0 X1 c (LleqPacketS_0 k X0 X1 c n) v
def YleqPacketS_0_0 {R : Type} (K : Ex → St → Option R) (c0 : CleqPacketS_0) (v0 : VleqPacketS_0) (x1 : I6) (x2 : I6) (p3 : Bool) : Option R := K .ret ⟨27, 0, [(0, .c (.l 122 sI6 c0.1)), (1, .c (.l 122 sI6 c0.2)), (4, cB false), (5, cI v0), (11, cI v0), (12, .c (.l 122 sI6 c0.1)), (13, cI (c0.1.length : Int)), (14, cB (decide (v0 < (c0.1.length : Int)))), (17, .c (.l 122 sI6 c0.1)), (18, cI v0), (19, .c (.at_ [vI x1.1, vI x1.2.1, vI x1.2.2.1, vI x1.2.2.2.1, vI x1.2.2.2.2.1, vI x1.2.2.2.2.2])), (20, .agg [vI x1.1, vI x1.2.1, vI x1.2.2.1, vI x1.2.2.2.1, vI x1.2.2.2.2.1, vI x1.2.2.2.2.2]), (21, .c (.l 122 sI6 c0.2)), (22, cI v0), (23, .c (.at_ [vI x2.1, vI x2.2.1, vI x2.2.2.1, vI x2.2.2.2.1, vI x2.2.2.2.2.1, vI x2.2.2.2.2.2])), (24, .agg [vI x2.1, vI x2.2.1, vI x2.2.2.1, vI x2.2.2.2.1, vI x2.2.2.2.2.1, vI x2.2.2.2.2.2]), (25, cB p3), (26, cB (!p3))], []⟩
def YleqPacketS_0_1 {R : Type} (K : Ex → St → Option R) (c0 : CleqPacketS_0) (v0 : VleqPacketS_0) : Option R := K (.exit 0) ⟨27, 0, [(0, .c (.l 122 sI6 c0.1)), (1, .c (.l 122 sI6 c0.2)), (5, cI v0), (11, cI v0), (12, .c (.l 122 sI6 c0.1)), (13, cI (c0.1.length : Int)), (14, cB (decide (v0 < (c0.1.length : Int))))], []⟩
theorem lleqPacketS_0 {R : Type} (k : Nat) (K : Ex → St → Option R) (c0 : CleqPacketS_0) : ∀ (n : Nat) (v : VleqPacketS_0), loopRun [0, 0, 1, 5] (run E (den E k) (lv 66) k (nthLoop Tryz.f66 0)) n (StleqPacketS_0 c0 v) K = LleqPacketS_0 k (YleqPacketS_0_0 K c0) (YleqPacketS_0_1 K c0) c0 n v := loop_law (B := BleqPacketS_0 k (YleqPacketS_0_0 K c0) (YleqPacketS_0_1 K c0) c0) (fun _ => rfl) (fun n v => by kernel_rfl) (fun _ => rfl) (fun _ _ => rfl)
theorem mleqPacketS_0 (k : Nat) (a0 : List I6) (a1 : List I6) : FleqPacketS (k + 1) a0 a1 = if ((a0.length : Int) != (a1.length : Int)) = true then some false else loopRun (R := Bool) [0, 0, 1, 5] (run E (den E k) (lv 66) k (nthLoop Tryz.f66 0)) k (StleqPacketS_0 (a0, a1) 0) (kontAt E (den E k) (lv 66) k (bodyOf Tryz.f66) 0 [] (finish E (rs 66) Tryz.f66 : Ex → St → Option (Bool))) := by kernel_rfl
theorem eleqPacketS (k : Nat) (a0 : List I6) (a1 : List I6) : FleqPacketS (k + 1) a0 a1 = if ((a0.length : Int) != (a1.length : Int)) = true then some false else LleqPacketS_0 k (fun (v0 : Int) (x1 : I6) (x2 : I6) (p3 : Bool) => some false) (fun (v0 : Int) => some true) (a0, a1) k 0 := by
  rw [mleqPacketS_0]
  simp only [lleqPacketS_0]
  kernel_rfl
noncomputable def FleqLink (k : Nat) (a0 : I2) (a1 : I2) : Option (Bool) := den E k 143 [.agg [vI a0.1, vI a0.2], .agg [vI a1.1, vI a1.2]]
theorem eleqLink (k : Nat) (a0 : I2) (a1 : I2) : FleqLink (k + 1) a0 a1 = if (a0.1 != a1.1) = true then some false else if (a0.2 != a1.2) = true then some false else some true := by kernel_rfl
noncomputable def FleqLinkS (k : Nat) (a0 : List I2) (a1 : List I2) : Option (Bool) := den E k 129 [.c (.l 112 sI2 a0), .c (.l 112 sI2 a1)]
abbrev CleqLinkS_0 : Type := (List I2) × (List I2)
abbrev VleqLinkS_0 : Type := Int
def StleqLinkS_0 (c0 : CleqLinkS_0) (v0 : VleqLinkS_0) : St := ⟨27, 0, [(0, .c (.l 112 sI2 c0.1)), (1, .c (.l 112 sI2 c0.2)), (5, cI v0)], []⟩
noncomputable def BleqLinkS_0 {R : Type} (k : Nat) (X0 : VleqLinkS_0 → I2 → I2 → Bool → Option R) (X1 : VleqLinkS_0 → Option R) (c0 : CleqLinkS_0) (rec : VleqLinkS_0 → Option R) (v0 : VleqLinkS_0) : Option R := if (decide (v0 < (c0.1.length : Int))) = true then if 0 ≤ v0 then ix c0.1 v0.toNat fun x1 => if 0 ≤ v0 then ix c0.2 v0.toNat fun x2 => (FleqLink k x1 x2).bind fun p3 => if (!p3) = true then X0 v0 x1 x2 p3 else rec (IntKind.i64.wrap (v0 + 1)) else none else none else X1 v0
noncomputable def LleqLinkS_0 {R : Type} (k : Nat) (X0 : VleqLinkS_0 → I2 → I2 → Bool → Option R) (X1 : VleqLinkS_0 → Option R) (c : CleqLinkS_0) : Nat → VleqLinkS_0 → Option R
  | 0, _ => none
  | n + 1, v => BleqLinkS_0 k X0 X1 c (LleqLinkS_0 k X0 X1 c n) v
def YleqLinkS_0_0 {R : Type} (K : Ex → St → Option R) (c0 : CleqLinkS_0) (v0 : VleqLinkS_0) (x1 : I2) (x2 : I2) (p3 : Bool) : Option R := K .ret ⟨27, 0, [(0, .c (.l 112 sI2 c0.1)), (1, .c (.l 112 sI2 c0.2)), (4, cB false), (5, cI v0), (11, cI v0), (12, .c (.l 112 sI2 c0.1)), (13, cI (c0.1.length : Int)), (14, cB (decide (v0 < (c0.1.length : Int)))), (17, .c (.l 112 sI2 c0.1)), (18, cI v0), (19, .c (.at_ [vI x1.1, vI x1.2])), (20, .agg [vI x1.1, vI x1.2]), (21, .c (.l 112 sI2 c0.2)), (22, cI v0), (23, .c (.at_ [vI x2.1, vI x2.2])), (24, .agg [vI x2.1, vI x2.2]), (25, cB p3), (26, cB (!p3))], []⟩
def YleqLinkS_0_1 {R : Type} (K : Ex → St → Option R) (c0 : CleqLinkS_0) (v0 : VleqLinkS_0) : Option R := K (.exit 0) ⟨27, 0, [(0, .c (.l 112 sI2 c0.1)), (1, .c (.l 112 sI2 c0.2)), (5, cI v0), (11, cI v0), (12, .c (.l 112 sI2 c0.1)), (13, cI (c0.1.length : Int)), (14, cB (decide (v0 < (c0.1.length : Int))))], []⟩
theorem lleqLinkS_0 {R : Type} (k : Nat) (K : Ex → St → Option R) (c0 : CleqLinkS_0) : ∀ (n : Nat) (v : VleqLinkS_0), loopRun [0, 0, 1, 5] (run E (den E k) (lv 129) k (nthLoop Tryz.f129 0)) n (StleqLinkS_0 c0 v) K = LleqLinkS_0 k (YleqLinkS_0_0 K c0) (YleqLinkS_0_1 K c0) c0 n v := loop_law (B := BleqLinkS_0 k (YleqLinkS_0_0 K c0) (YleqLinkS_0_1 K c0) c0) (fun _ => rfl) (fun n v => by kernel_rfl) (fun _ => rfl) (fun _ _ => rfl)
theorem mleqLinkS_0 (k : Nat) (a0 : List I2) (a1 : List I2) : FleqLinkS (k + 1) a0 a1 = if ((a0.length : Int) != (a1.length : Int)) = true then some false else loopRun (R := Bool) [0, 0, 1, 5] (run E (den E k) (lv 129) k (nthLoop Tryz.f129 0)) k (StleqLinkS_0 (a0, a1) 0) (kontAt E (den E k) (lv 129) k (bodyOf Tryz.f129) 0 [] (finish E (rs 129) Tryz.f129 : Ex → St → Option (Bool))) := by kernel_rfl
theorem eleqLinkS (k : Nat) (a0 : List I2) (a1 : List I2) : FleqLinkS (k + 1) a0 a1 = if ((a0.length : Int) != (a1.length : Int)) = true then some false else LleqLinkS_0 k (fun (v0 : Int) (x1 : I2) (x2 : I2) (p3 : Bool) => some false) (fun (v0 : Int) => some true) (a0, a1) k 0 := by
  rw [mleqLinkS_0]
  simp only [lleqLinkS_0]
  kernel_rfl
noncomputable def FleqSpan (k : Nat) (a0 : I2) (a1 : I2) : Option (Bool) := den E k 128 [.agg [vI a0.1, vI a0.2], .agg [vI a1.1, vI a1.2]]
theorem eleqSpan (k : Nat) (a0 : I2) (a1 : I2) : FleqSpan (k + 1) a0 a1 = if (a0.1 != a1.1) = true then some false else if (a0.2 != a1.2) = true then some false else some true := by kernel_rfl
noncomputable def FleqTable (k : Nat) (a0 : Int × (List Int) × List Int) (a1 : Int × (List Int) × List Int) : Option (Bool) := den E k 144 [.agg [vI a0.1, .l 3 (.i .i64) a0.2.1, .l 3 (.i .i64) a0.2.2], .agg [vI a1.1, .l 3 (.i .i64) a1.2.1, .l 3 (.i .i64) a1.2.2]]
theorem eleqTable (k : Nat) (a0 : Int × (List Int) × List Int) (a1 : Int × (List Int) × List Int) : FleqTable (k + 1) a0 a1 = if (a0.1 != a1.1) = true then some false else (FleqIntS k a0.2.1 a1.2.1).bind fun p1 => if (!p1) = true then some false else (FleqIntS k a0.2.2 a1.2.2).bind fun p2 => if (!p2) = true then some false else some true := by kernel_rfl
noncomputable def FleqTableS (k : Nat) (a0 : List (Int × (List Int) × List Int)) (a1 : List (Int × (List Int) × List Int)) : Option (Bool) := den E k 130 [.c (.l 115 sTable a0), .c (.l 115 sTable a1)]
abbrev CleqTableS_0 : Type := (List (Int × (List Int) × List Int)) × (List (Int × (List Int) × List Int))
abbrev VleqTableS_0 : Type := Int
def StleqTableS_0 (c0 : CleqTableS_0) (v0 : VleqTableS_0) : St := ⟨27, 0, [(0, .c (.l 115 sTable c0.1)), (1, .c (.l 115 sTable c0.2)), (5, cI v0)], []⟩
noncomputable def BleqTableS_0 {R : Type} (k : Nat) (X0 : VleqTableS_0 → (Int × (List Int) × List Int) → (Int × (List Int) × List Int) → Bool → Option R) (X1 : VleqTableS_0 → Option R) (c0 : CleqTableS_0) (rec : VleqTableS_0 → Option R) (v0 : VleqTableS_0) : Option R := if (decide (v0 < (c0.1.length : Int))) = true then if 0 ≤ v0 then ix c0.1 v0.toNat fun x1 => if 0 ≤ v0 then ix c0.2 v0.toNat fun x2 => (FleqTable k x1 x2).bind fun p3 => if (!p3) = true then X0 v0 x1 x2 p3 else rec (IntKind.i64.wrap (v0 + 1)) else none else none else X1 v0
noncomputable def LleqTableS_0 {R : Type} (k : Nat) (X0 : VleqTableS_0 → (Int × (List Int) × List Int) → (Int × (List Int) × List Int) → Bool → Option R) (X1 : VleqTableS_0 → Option R) (c : CleqTableS_0) : Nat → VleqTableS_0 → Option R
  | 0, _ => none
  | n + 1, v => BleqTableS_0 k X0 X1 c (LleqTableS_0 k X0 X1 c n) v
def YleqTableS_0_0 {R : Type} (K : Ex → St → Option R) (c0 : CleqTableS_0) (v0 : VleqTableS_0) (x1 : Int × (List Int) × List Int) (x2 : Int × (List Int) × List Int) (p3 : Bool) : Option R := K .ret ⟨27, 0, [(0, .c (.l 115 sTable c0.1)), (1, .c (.l 115 sTable c0.2)), (4, cB false), (5, cI v0), (11, cI v0), (12, .c (.l 115 sTable c0.1)), (13, cI (c0.1.length : Int)), (14, cB (decide (v0 < (c0.1.length : Int)))), (17, .c (.l 115 sTable c0.1)), (18, cI v0), (19, .c (.at_ [vI x1.1, .l 3 (.i .i64) x1.2.1, .l 3 (.i .i64) x1.2.2])), (20, .agg [vI x1.1, .l 3 (.i .i64) x1.2.1, .l 3 (.i .i64) x1.2.2]), (21, .c (.l 115 sTable c0.2)), (22, cI v0), (23, .c (.at_ [vI x2.1, .l 3 (.i .i64) x2.2.1, .l 3 (.i .i64) x2.2.2])), (24, .agg [vI x2.1, .l 3 (.i .i64) x2.2.1, .l 3 (.i .i64) x2.2.2]), (25, cB p3), (26, cB (!p3))], []⟩
def YleqTableS_0_1 {R : Type} (K : Ex → St → Option R) (c0 : CleqTableS_0) (v0 : VleqTableS_0) : Option R := K (.exit 0) ⟨27, 0, [(0, .c (.l 115 sTable c0.1)), (1, .c (.l 115 sTable c0.2)), (5, cI v0), (11, cI v0), (12, .c (.l 115 sTable c0.1)), (13, cI (c0.1.length : Int)), (14, cB (decide (v0 < (c0.1.length : Int))))], []⟩
theorem lleqTableS_0 {R : Type} (k : Nat) (K : Ex → St → Option R) (c0 : CleqTableS_0) : ∀ (n : Nat) (v : VleqTableS_0), loopRun [0, 0, 1, 5] (run E (den E k) (lv 130) k (nthLoop Tryz.f130 0)) n (StleqTableS_0 c0 v) K = LleqTableS_0 k (YleqTableS_0_0 K c0) (YleqTableS_0_1 K c0) c0 n v := loop_law (B := BleqTableS_0 k (YleqTableS_0_0 K c0) (YleqTableS_0_1 K c0) c0) (fun _ => rfl) (fun n v => by kernel_rfl) (fun _ => rfl) (fun _ _ => rfl)
theorem mleqTableS_0 (k : Nat) (a0 : List (Int × (List Int) × List Int)) (a1 : List (Int × (List Int) × List Int)) : FleqTableS (k + 1) a0 a1 = if ((a0.length : Int) != (a1.length : Int)) = true then some false else loopRun (R := Bool) [0, 0, 1, 5] (run E (den E k) (lv 130) k (nthLoop Tryz.f130 0)) k (StleqTableS_0 (a0, a1) 0) (kontAt E (den E k) (lv 130) k (bodyOf Tryz.f130) 0 [] (finish E (rs 130) Tryz.f130 : Ex → St → Option (Bool))) := by kernel_rfl
theorem eleqTableS (k : Nat) (a0 : List (Int × (List Int) × List Int)) (a1 : List (Int × (List Int) × List Int)) : FleqTableS (k + 1) a0 a1 = if ((a0.length : Int) != (a1.length : Int)) = true then some false else LleqTableS_0 k (fun (v0 : Int) (x1 : Int × (List Int) × List Int) (x2 : Int × (List Int) × List Int) (p3 : Bool) => some false) (fun (v0 : Int) => some true) (a0, a1) k 0 := by
  rw [mleqTableS_0]
  simp only [lleqTableS_0]
  kernel_rfl
noncomputable def FleqPiece (k : Nat) (a0 : TPiece) (a1 : TPiece) : Option (Bool) := den E k 114 [.agg [vI a0.1.1, vI a0.1.2, .l 112 sI2 a0.2.1, .l 115 sTable a0.2.2], .agg [vI a1.1.1, vI a1.1.2, .l 112 sI2 a1.2.1, .l 115 sTable a1.2.2]]
theorem eleqPiece (k : Nat) (a0 : TPiece) (a1 : TPiece) : FleqPiece (k + 1) a0 a1 = (FleqSpan k a0.1 a1.1).bind fun p1 => if (!p1) = true then some false else (FleqLinkS k a0.2.1 a1.2.1).bind fun p2 => if (!p2) = true then some false else (FleqTableS k a0.2.2 a1.2.2).bind fun p3 => if (!p3) = true then some false else some true := by kernel_rfl
noncomputable def FleqPieceS (k : Nat) (a0 : List TPiece) (a1 : List TPiece) : Option (Bool) := den E k 94 [.c (.l 109 sPiece a0), .c (.l 109 sPiece a1)]
abbrev CleqPieceS_0 : Type := (List TPiece) × (List TPiece)
abbrev VleqPieceS_0 : Type := Int
def StleqPieceS_0 (c0 : CleqPieceS_0) (v0 : VleqPieceS_0) : St := ⟨27, 0, [(0, .c (.l 109 sPiece c0.1)), (1, .c (.l 109 sPiece c0.2)), (5, cI v0)], []⟩
noncomputable def BleqPieceS_0 {R : Type} (k : Nat) (X0 : VleqPieceS_0 → TPiece → TPiece → Bool → Option R) (X1 : VleqPieceS_0 → Option R) (c0 : CleqPieceS_0) (rec : VleqPieceS_0 → Option R) (v0 : VleqPieceS_0) : Option R := if (decide (v0 < (c0.1.length : Int))) = true then if 0 ≤ v0 then ix c0.1 v0.toNat fun x1 => if 0 ≤ v0 then ix c0.2 v0.toNat fun x2 => (FleqPiece k x1 x2).bind fun p3 => if (!p3) = true then X0 v0 x1 x2 p3 else rec (IntKind.i64.wrap (v0 + 1)) else none else none else X1 v0
noncomputable def LleqPieceS_0 {R : Type} (k : Nat) (X0 : VleqPieceS_0 → TPiece → TPiece → Bool → Option R) (X1 : VleqPieceS_0 → Option R) (c : CleqPieceS_0) : Nat → VleqPieceS_0 → Option R
  | 0, _ => none
  | n + 1, v => BleqPieceS_0 k X0 X1 c (LleqPieceS_0 k X0 X1 c n) v
def YleqPieceS_0_0 {R : Type} (K : Ex → St → Option R) (c0 : CleqPieceS_0) (v0 : VleqPieceS_0) (x1 : TPiece) (x2 : TPiece) (p3 : Bool) : Option R := K .ret ⟨27, 0, [(0, .c (.l 109 sPiece c0.1)), (1, .c (.l 109 sPiece c0.2)), (4, cB false), (5, cI v0), (11, cI v0), (12, .c (.l 109 sPiece c0.1)), (13, cI (c0.1.length : Int)), (14, cB (decide (v0 < (c0.1.length : Int)))), (17, .c (.l 109 sPiece c0.1)), (18, cI v0), (19, .c (.at_ [vI x1.1.1, vI x1.1.2, .l 112 sI2 x1.2.1, .l 115 sTable x1.2.2])), (20, .agg [vI x1.1.1, vI x1.1.2, .l 112 sI2 x1.2.1, .l 115 sTable x1.2.2]), (21, .c (.l 109 sPiece c0.2)), (22, cI v0), (23, .c (.at_ [vI x2.1.1, vI x2.1.2, .l 112 sI2 x2.2.1, .l 115 sTable x2.2.2])), (24, .agg [vI x2.1.1, vI x2.1.2, .l 112 sI2 x2.2.1, .l 115 sTable x2.2.2]), (25, cB p3), (26, cB (!p3))], []⟩
def YleqPieceS_0_1 {R : Type} (K : Ex → St → Option R) (c0 : CleqPieceS_0) (v0 : VleqPieceS_0) : Option R := K (.exit 0) ⟨27, 0, [(0, .c (.l 109 sPiece c0.1)), (1, .c (.l 109 sPiece c0.2)), (5, cI v0), (11, cI v0), (12, .c (.l 109 sPiece c0.1)), (13, cI (c0.1.length : Int)), (14, cB (decide (v0 < (c0.1.length : Int))))], []⟩
theorem lleqPieceS_0 {R : Type} (k : Nat) (K : Ex → St → Option R) (c0 : CleqPieceS_0) : ∀ (n : Nat) (v : VleqPieceS_0), loopRun [0, 0, 1, 5] (run E (den E k) (lv 94) k (nthLoop Tryz.f94 0)) n (StleqPieceS_0 c0 v) K = LleqPieceS_0 k (YleqPieceS_0_0 K c0) (YleqPieceS_0_1 K c0) c0 n v := loop_law (B := BleqPieceS_0 k (YleqPieceS_0_0 K c0) (YleqPieceS_0_1 K c0) c0) (fun _ => rfl) (fun n v => by kernel_rfl) (fun _ => rfl) (fun _ _ => rfl)
theorem mleqPieceS_0 (k : Nat) (a0 : List TPiece) (a1 : List TPiece) : FleqPieceS (k + 1) a0 a1 = if ((a0.length : Int) != (a1.length : Int)) = true then some false else loopRun (R := Bool) [0, 0, 1, 5] (run E (den E k) (lv 94) k (nthLoop Tryz.f94 0)) k (StleqPieceS_0 (a0, a1) 0) (kontAt E (den E k) (lv 94) k (bodyOf Tryz.f94) 0 [] (finish E (rs 94) Tryz.f94 : Ex → St → Option (Bool))) := by kernel_rfl
theorem eleqPieceS (k : Nat) (a0 : List TPiece) (a1 : List TPiece) : FleqPieceS (k + 1) a0 a1 = if ((a0.length : Int) != (a1.length : Int)) = true then some false else LleqPieceS_0 k (fun (v0 : Int) (x1 : TPiece) (x2 : TPiece) (p3 : Bool) => some false) (fun (v0 : Int) => some true) (a0, a1) k 0 := by
  rw [mleqPieceS_0]
  simp only [lleqPieceS_0]
  kernel_rfl
noncomputable def FleqProgram (k : Nat) (a0 : TProgram) (a1 : TProgram) : Option (Bool) := den E k 58 [.agg [vI a0.1, vI a0.2.1, vI a0.2.2.1, .l 109 sPiece a0.2.2.2], .agg [vI a1.1, vI a1.2.1, vI a1.2.2.1, .l 109 sPiece a1.2.2.2]]
theorem eleqProgram (k : Nat) (a0 : TProgram) (a1 : TProgram) : FleqProgram (k + 1) a0 a1 = if (a0.1 != a1.1) = true then some false else if (a0.2.1 != a1.2.1) = true then some false else if (a0.2.2.1 != a1.2.2.1) = true then some false else (FleqPieceS k a0.2.2.2 a1.2.2.2).bind fun p1 => if (!p1) = true then some false else some true := by kernel_rfl
noncomputable def FleqQueue (k : Nat) (a0 : List I6) (a1 : List I6) : Option (Bool) := den E k 96 [.agg [.l 122 sI6 a0], .agg [.l 122 sI6 a1]]
theorem eleqQueue (k : Nat) (a0 : List I6) (a1 : List I6) : FleqQueue (k + 1) a0 a1 = (FleqPacketS k a0 a1).bind fun p1 => if (!p1) = true then some false else some true := by kernel_rfl
noncomputable def FleqQueueS (k : Nat) (a0 : List (List I6)) (a1 : List (List I6)) : Option (Bool) := den E k 62 [.c (.l 120 sQueue a0), .c (.l 120 sQueue a1)]
abbrev CleqQueueS_0 : Type := (List (List I6)) × (List (List I6))
abbrev VleqQueueS_0 : Type := Int
def StleqQueueS_0 (c0 : CleqQueueS_0) (v0 : VleqQueueS_0) : St := ⟨27, 0, [(0, .c (.l 120 sQueue c0.1)), (1, .c (.l 120 sQueue c0.2)), (5, cI v0)], []⟩
noncomputable def BleqQueueS_0 {R : Type} (k : Nat) (X0 : VleqQueueS_0 → (List I6) → (List I6) → Bool → Option R) (X1 : VleqQueueS_0 → Option R) (c0 : CleqQueueS_0) (rec : VleqQueueS_0 → Option R) (v0 : VleqQueueS_0) : Option R := if (decide (v0 < (c0.1.length : Int))) = true then if 0 ≤ v0 then ix c0.1 v0.toNat fun x1 => if 0 ≤ v0 then ix c0.2 v0.toNat fun x2 => (FleqQueue k x1 x2).bind fun p3 => if (!p3) = true then X0 v0 x1 x2 p3 else rec (IntKind.i64.wrap (v0 + 1)) else none else none else X1 v0
noncomputable def LleqQueueS_0 {R : Type} (k : Nat) (X0 : VleqQueueS_0 → (List I6) → (List I6) → Bool → Option R) (X1 : VleqQueueS_0 → Option R) (c : CleqQueueS_0) : Nat → VleqQueueS_0 → Option R
  | 0, _ => none
  | n + 1, v => BleqQueueS_0 k X0 X1 c (LleqQueueS_0 k X0 X1 c n) v
def YleqQueueS_0_0 {R : Type} (K : Ex → St → Option R) (c0 : CleqQueueS_0) (v0 : VleqQueueS_0) (x1 : List I6) (x2 : List I6) (p3 : Bool) : Option R := K .ret ⟨27, 0, [(0, .c (.l 120 sQueue c0.1)), (1, .c (.l 120 sQueue c0.2)), (4, cB false), (5, cI v0), (11, cI v0), (12, .c (.l 120 sQueue c0.1)), (13, cI (c0.1.length : Int)), (14, cB (decide (v0 < (c0.1.length : Int)))), (17, .c (.l 120 sQueue c0.1)), (18, cI v0), (19, .c (.at_ [.l 122 sI6 x1])), (20, .agg [.l 122 sI6 x1]), (21, .c (.l 120 sQueue c0.2)), (22, cI v0), (23, .c (.at_ [.l 122 sI6 x2])), (24, .agg [.l 122 sI6 x2]), (25, cB p3), (26, cB (!p3))], []⟩
def YleqQueueS_0_1 {R : Type} (K : Ex → St → Option R) (c0 : CleqQueueS_0) (v0 : VleqQueueS_0) : Option R := K (.exit 0) ⟨27, 0, [(0, .c (.l 120 sQueue c0.1)), (1, .c (.l 120 sQueue c0.2)), (5, cI v0), (11, cI v0), (12, .c (.l 120 sQueue c0.1)), (13, cI (c0.1.length : Int)), (14, cB (decide (v0 < (c0.1.length : Int))))], []⟩
theorem lleqQueueS_0 {R : Type} (k : Nat) (K : Ex → St → Option R) (c0 : CleqQueueS_0) : ∀ (n : Nat) (v : VleqQueueS_0), loopRun [0, 0, 1, 5] (run E (den E k) (lv 62) k (nthLoop Tryz.f62 0)) n (StleqQueueS_0 c0 v) K = LleqQueueS_0 k (YleqQueueS_0_0 K c0) (YleqQueueS_0_1 K c0) c0 n v := loop_law (B := BleqQueueS_0 k (YleqQueueS_0_0 K c0) (YleqQueueS_0_1 K c0) c0) (fun _ => rfl) (fun n v => by kernel_rfl) (fun _ => rfl) (fun _ _ => rfl)
theorem mleqQueueS_0 (k : Nat) (a0 : List (List I6)) (a1 : List (List I6)) : FleqQueueS (k + 1) a0 a1 = if ((a0.length : Int) != (a1.length : Int)) = true then some false else loopRun (R := Bool) [0, 0, 1, 5] (run E (den E k) (lv 62) k (nthLoop Tryz.f62 0)) k (StleqQueueS_0 (a0, a1) 0) (kontAt E (den E k) (lv 62) k (bodyOf Tryz.f62) 0 [] (finish E (rs 62) Tryz.f62 : Ex → St → Option (Bool))) := by kernel_rfl
theorem eleqQueueS (k : Nat) (a0 : List (List I6)) (a1 : List (List I6)) : FleqQueueS (k + 1) a0 a1 = if ((a0.length : Int) != (a1.length : Int)) = true then some false else LleqQueueS_0 k (fun (v0 : Int) (x1 : List I6) (x2 : List I6) (p3 : Bool) => some false) (fun (v0 : Int) => some true) (a0, a1) k 0 := by
  rw [mleqQueueS_0]
  simp only [lleqQueueS_0]
  kernel_rfl
noncomputable def FleqSent (k : Nat) (a0 : I4) (a1 : I4) : Option (Bool) := den E k 101 [.agg [vI a0.1, vI a0.2.1, vI a0.2.2.1, vI a0.2.2.2], .agg [vI a1.1, vI a1.2.1, vI a1.2.2.1, vI a1.2.2.2]]
theorem eleqSent (k : Nat) (a0 : I4) (a1 : I4) : FleqSent (k + 1) a0 a1 = if (a0.1 != a1.1) = true then some false else if (a0.2.1 != a1.2.1) = true then some false else if (a0.2.2.1 != a1.2.2.1) = true then some false else if (a0.2.2.2 != a1.2.2.2) = true then some false else some true := by kernel_rfl
noncomputable def FleqSentS (k : Nat) (a0 : List I4) (a1 : List I4) : Option (Bool) := den E k 67 [.c (.l 139 sI4 a0), .c (.l 139 sI4 a1)]
abbrev CleqSentS_0 : Type := (List I4) × (List I4)
abbrev VleqSentS_0 : Type := Int
def StleqSentS_0 (c0 : CleqSentS_0) (v0 : VleqSentS_0) : St := ⟨27, 0, [(0, .c (.l 139 sI4 c0.1)), (1, .c (.l 139 sI4 c0.2)), (5, cI v0)], []⟩
noncomputable def BleqSentS_0 {R : Type} (k : Nat) (X0 : VleqSentS_0 → I4 → I4 → Bool → Option R) (X1 : VleqSentS_0 → Option R) (c0 : CleqSentS_0) (rec : VleqSentS_0 → Option R) (v0 : VleqSentS_0) : Option R := if (decide (v0 < (c0.1.length : Int))) = true then if 0 ≤ v0 then ix c0.1 v0.toNat fun x1 => if 0 ≤ v0 then ix c0.2 v0.toNat fun x2 => (FleqSent k x1 x2).bind fun p3 => if (!p3) = true then X0 v0 x1 x2 p3 else rec (IntKind.i64.wrap (v0 + 1)) else none else none else X1 v0
noncomputable def LleqSentS_0 {R : Type} (k : Nat) (X0 : VleqSentS_0 → I4 → I4 → Bool → Option R) (X1 : VleqSentS_0 → Option R) (c : CleqSentS_0) : Nat → VleqSentS_0 → Option R
  | 0, _ => none
  | n + 1, v => BleqSentS_0 k X0 X1 c (LleqSentS_0 k X0 X1 c n) v
def YleqSentS_0_0 {R : Type} (K : Ex → St → Option R) (c0 : CleqSentS_0) (v0 : VleqSentS_0) (x1 : I4) (x2 : I4) (p3 : Bool) : Option R := K .ret ⟨27, 0, [(0, .c (.l 139 sI4 c0.1)), (1, .c (.l 139 sI4 c0.2)), (4, cB false), (5, cI v0), (11, cI v0), (12, .c (.l 139 sI4 c0.1)), (13, cI (c0.1.length : Int)), (14, cB (decide (v0 < (c0.1.length : Int)))), (17, .c (.l 139 sI4 c0.1)), (18, cI v0), (19, .c (.at_ [vI x1.1, vI x1.2.1, vI x1.2.2.1, vI x1.2.2.2])), (20, .agg [vI x1.1, vI x1.2.1, vI x1.2.2.1, vI x1.2.2.2]), (21, .c (.l 139 sI4 c0.2)), (22, cI v0), (23, .c (.at_ [vI x2.1, vI x2.2.1, vI x2.2.2.1, vI x2.2.2.2])), (24, .agg [vI x2.1, vI x2.2.1, vI x2.2.2.1, vI x2.2.2.2]), (25, cB p3), (26, cB (!p3))], []⟩
def YleqSentS_0_1 {R : Type} (K : Ex → St → Option R) (c0 : CleqSentS_0) (v0 : VleqSentS_0) : Option R := K (.exit 0) ⟨27, 0, [(0, .c (.l 139 sI4 c0.1)), (1, .c (.l 139 sI4 c0.2)), (5, cI v0), (11, cI v0), (12, .c (.l 139 sI4 c0.1)), (13, cI (c0.1.length : Int)), (14, cB (decide (v0 < (c0.1.length : Int))))], []⟩
theorem lleqSentS_0 {R : Type} (k : Nat) (K : Ex → St → Option R) (c0 : CleqSentS_0) : ∀ (n : Nat) (v : VleqSentS_0), loopRun [0, 0, 1, 5] (run E (den E k) (lv 67) k (nthLoop Tryz.f67 0)) n (StleqSentS_0 c0 v) K = LleqSentS_0 k (YleqSentS_0_0 K c0) (YleqSentS_0_1 K c0) c0 n v := loop_law (B := BleqSentS_0 k (YleqSentS_0_0 K c0) (YleqSentS_0_1 K c0) c0) (fun _ => rfl) (fun n v => by kernel_rfl) (fun _ => rfl) (fun _ _ => rfl)
theorem mleqSentS_0 (k : Nat) (a0 : List I4) (a1 : List I4) : FleqSentS (k + 1) a0 a1 = if ((a0.length : Int) != (a1.length : Int)) = true then some false else loopRun (R := Bool) [0, 0, 1, 5] (run E (den E k) (lv 67) k (nthLoop Tryz.f67 0)) k (StleqSentS_0 (a0, a1) 0) (kontAt E (den E k) (lv 67) k (bodyOf Tryz.f67) 0 [] (finish E (rs 67) Tryz.f67 : Ex → St → Option (Bool))) := by kernel_rfl
theorem eleqSentS (k : Nat) (a0 : List I4) (a1 : List I4) : FleqSentS (k + 1) a0 a1 = if ((a0.length : Int) != (a1.length : Int)) = true then some false else LleqSentS_0 k (fun (v0 : Int) (x1 : I4) (x2 : I4) (p3 : Bool) => some false) (fun (v0 : Int) => some true) (a0, a1) k 0 := by
  rw [mleqSentS_0]
  simp only [lleqSentS_0]
  kernel_rfl
noncomputable def FleqSat (k : Nat) (a0 : I4) (a1 : I4) : Option (Bool) := den E k 111 [.agg [vI a0.1, vI a0.2.1, vI a0.2.2.1, vI a0.2.2.2], .agg [vI a1.1, vI a1.2.1, vI a1.2.2.1, vI a1.2.2.2]]
theorem eleqSat (k : Nat) (a0 : I4) (a1 : I4) : FleqSat (k + 1) a0 a1 = if (a0.1 != a1.1) = true then some false else if (a0.2.1 != a1.2.1) = true then some false else if (a0.2.2.1 != a1.2.2.1) = true then some false else if (a0.2.2.2 != a1.2.2.2) = true then some false else some true := by kernel_rfl
noncomputable def FleqSatS (k : Nat) (a0 : List I4) (a1 : List I4) : Option (Bool) := den E k 91 [.c (.l 94 sI4 a0), .c (.l 94 sI4 a1)]
abbrev CleqSatS_0 : Type := (List I4) × (List I4)
abbrev VleqSatS_0 : Type := Int
def StleqSatS_0 (c0 : CleqSatS_0) (v0 : VleqSatS_0) : St := ⟨27, 0, [(0, .c (.l 94 sI4 c0.1)), (1, .c (.l 94 sI4 c0.2)), (5, cI v0)], []⟩
noncomputable def BleqSatS_0 {R : Type} (k : Nat) (X0 : VleqSatS_0 → I4 → I4 → Bool → Option R) (X1 : VleqSatS_0 → Option R) (c0 : CleqSatS_0) (rec : VleqSatS_0 → Option R) (v0 : VleqSatS_0) : Option R := if (decide (v0 < (c0.1.length : Int))) = true then if 0 ≤ v0 then ix c0.1 v0.toNat fun x1 => if 0 ≤ v0 then ix c0.2 v0.toNat fun x2 => (FleqSat k x1 x2).bind fun p3 => if (!p3) = true then X0 v0 x1 x2 p3 else rec (IntKind.i64.wrap (v0 + 1)) else none else none else X1 v0
noncomputable def LleqSatS_0 {R : Type} (k : Nat) (X0 : VleqSatS_0 → I4 → I4 → Bool → Option R) (X1 : VleqSatS_0 → Option R) (c : CleqSatS_0) : Nat → VleqSatS_0 → Option R
  | 0, _ => none
  | n + 1, v => BleqSatS_0 k X0 X1 c (LleqSatS_0 k X0 X1 c n) v
def YleqSatS_0_0 {R : Type} (K : Ex → St → Option R) (c0 : CleqSatS_0) (v0 : VleqSatS_0) (x1 : I4) (x2 : I4) (p3 : Bool) : Option R := K .ret ⟨27, 0, [(0, .c (.l 94 sI4 c0.1)), (1, .c (.l 94 sI4 c0.2)), (4, cB false), (5, cI v0), (11, cI v0), (12, .c (.l 94 sI4 c0.1)), (13, cI (c0.1.length : Int)), (14, cB (decide (v0 < (c0.1.length : Int)))), (17, .c (.l 94 sI4 c0.1)), (18, cI v0), (19, .c (.at_ [vI x1.1, vI x1.2.1, vI x1.2.2.1, vI x1.2.2.2])), (20, .agg [vI x1.1, vI x1.2.1, vI x1.2.2.1, vI x1.2.2.2]), (21, .c (.l 94 sI4 c0.2)), (22, cI v0), (23, .c (.at_ [vI x2.1, vI x2.2.1, vI x2.2.2.1, vI x2.2.2.2])), (24, .agg [vI x2.1, vI x2.2.1, vI x2.2.2.1, vI x2.2.2.2]), (25, cB p3), (26, cB (!p3))], []⟩
def YleqSatS_0_1 {R : Type} (K : Ex → St → Option R) (c0 : CleqSatS_0) (v0 : VleqSatS_0) : Option R := K (.exit 0) ⟨27, 0, [(0, .c (.l 94 sI4 c0.1)), (1, .c (.l 94 sI4 c0.2)), (5, cI v0), (11, cI v0), (12, .c (.l 94 sI4 c0.1)), (13, cI (c0.1.length : Int)), (14, cB (decide (v0 < (c0.1.length : Int))))], []⟩
theorem lleqSatS_0 {R : Type} (k : Nat) (K : Ex → St → Option R) (c0 : CleqSatS_0) : ∀ (n : Nat) (v : VleqSatS_0), loopRun [0, 0, 1, 5] (run E (den E k) (lv 91) k (nthLoop Tryz.f91 0)) n (StleqSatS_0 c0 v) K = LleqSatS_0 k (YleqSatS_0_0 K c0) (YleqSatS_0_1 K c0) c0 n v := loop_law (B := BleqSatS_0 k (YleqSatS_0_0 K c0) (YleqSatS_0_1 K c0) c0) (fun _ => rfl) (fun n v => by kernel_rfl) (fun _ => rfl) (fun _ _ => rfl)
theorem mleqSatS_0 (k : Nat) (a0 : List I4) (a1 : List I4) : FleqSatS (k + 1) a0 a1 = if ((a0.length : Int) != (a1.length : Int)) = true then some false else loopRun (R := Bool) [0, 0, 1, 5] (run E (den E k) (lv 91) k (nthLoop Tryz.f91 0)) k (StleqSatS_0 (a0, a1) 0) (kontAt E (den E k) (lv 91) k (bodyOf Tryz.f91) 0 [] (finish E (rs 91) Tryz.f91 : Ex → St → Option (Bool))) := by kernel_rfl
theorem eleqSatS (k : Nat) (a0 : List I4) (a1 : List I4) : FleqSatS (k + 1) a0 a1 = if ((a0.length : Int) != (a1.length : Int)) = true then some false else LleqSatS_0 k (fun (v0 : Int) (x1 : I4) (x2 : I4) (p3 : Bool) => some false) (fun (v0 : Int) => some true) (a0, a1) k 0 := by
  rw [mleqSatS_0]
  simp only [lleqSatS_0]
  kernel_rfl
noncomputable def FleqSite (k : Nat) (a0 : I3) (a1 : I3) : Option (Bool) := den E k 112 [.agg [vI a0.1, vI a0.2.1, vI a0.2.2], .agg [vI a1.1, vI a1.2.1, vI a1.2.2]]
theorem eleqSite (k : Nat) (a0 : I3) (a1 : I3) : FleqSite (k + 1) a0 a1 = if (a0.1 != a1.1) = true then some false else if (a0.2.1 != a1.2.1) = true then some false else if (a0.2.2 != a1.2.2) = true then some false else some true := by kernel_rfl
noncomputable def FleqSiteS (k : Nat) (a0 : List I3) (a1 : List I3) : Option (Bool) := den E k 92 [.c (.l 97 sI3 a0), .c (.l 97 sI3 a1)]
abbrev CleqSiteS_0 : Type := (List I3) × (List I3)
abbrev VleqSiteS_0 : Type := Int
def StleqSiteS_0 (c0 : CleqSiteS_0) (v0 : VleqSiteS_0) : St := ⟨27, 0, [(0, .c (.l 97 sI3 c0.1)), (1, .c (.l 97 sI3 c0.2)), (5, cI v0)], []⟩
noncomputable def BleqSiteS_0 {R : Type} (k : Nat) (X0 : VleqSiteS_0 → I3 → I3 → Bool → Option R) (X1 : VleqSiteS_0 → Option R) (c0 : CleqSiteS_0) (rec : VleqSiteS_0 → Option R) (v0 : VleqSiteS_0) : Option R := if (decide (v0 < (c0.1.length : Int))) = true then if 0 ≤ v0 then ix c0.1 v0.toNat fun x1 => if 0 ≤ v0 then ix c0.2 v0.toNat fun x2 => (FleqSite k x1 x2).bind fun p3 => if (!p3) = true then X0 v0 x1 x2 p3 else rec (IntKind.i64.wrap (v0 + 1)) else none else none else X1 v0
noncomputable def LleqSiteS_0 {R : Type} (k : Nat) (X0 : VleqSiteS_0 → I3 → I3 → Bool → Option R) (X1 : VleqSiteS_0 → Option R) (c : CleqSiteS_0) : Nat → VleqSiteS_0 → Option R
  | 0, _ => none
  | n + 1, v => BleqSiteS_0 k X0 X1 c (LleqSiteS_0 k X0 X1 c n) v
def YleqSiteS_0_0 {R : Type} (K : Ex → St → Option R) (c0 : CleqSiteS_0) (v0 : VleqSiteS_0) (x1 : I3) (x2 : I3) (p3 : Bool) : Option R := K .ret ⟨27, 0, [(0, .c (.l 97 sI3 c0.1)), (1, .c (.l 97 sI3 c0.2)), (4, cB false), (5, cI v0), (11, cI v0), (12, .c (.l 97 sI3 c0.1)), (13, cI (c0.1.length : Int)), (14, cB (decide (v0 < (c0.1.length : Int)))), (17, .c (.l 97 sI3 c0.1)), (18, cI v0), (19, .c (.at_ [vI x1.1, vI x1.2.1, vI x1.2.2])), (20, .agg [vI x1.1, vI x1.2.1, vI x1.2.2]), (21, .c (.l 97 sI3 c0.2)), (22, cI v0), (23, .c (.at_ [vI x2.1, vI x2.2.1, vI x2.2.2])), (24, .agg [vI x2.1, vI x2.2.1, vI x2.2.2]), (25, cB p3), (26, cB (!p3))], []⟩
def YleqSiteS_0_1 {R : Type} (K : Ex → St → Option R) (c0 : CleqSiteS_0) (v0 : VleqSiteS_0) : Option R := K (.exit 0) ⟨27, 0, [(0, .c (.l 97 sI3 c0.1)), (1, .c (.l 97 sI3 c0.2)), (5, cI v0), (11, cI v0), (12, .c (.l 97 sI3 c0.1)), (13, cI (c0.1.length : Int)), (14, cB (decide (v0 < (c0.1.length : Int))))], []⟩
theorem lleqSiteS_0 {R : Type} (k : Nat) (K : Ex → St → Option R) (c0 : CleqSiteS_0) : ∀ (n : Nat) (v : VleqSiteS_0), loopRun [0, 0, 1, 5] (run E (den E k) (lv 92) k (nthLoop Tryz.f92 0)) n (StleqSiteS_0 c0 v) K = LleqSiteS_0 k (YleqSiteS_0_0 K c0) (YleqSiteS_0_1 K c0) c0 n v := loop_law (B := BleqSiteS_0 k (YleqSiteS_0_0 K c0) (YleqSiteS_0_1 K c0) c0) (fun _ => rfl) (fun n v => by kernel_rfl) (fun _ => rfl) (fun _ _ => rfl)
theorem mleqSiteS_0 (k : Nat) (a0 : List I3) (a1 : List I3) : FleqSiteS (k + 1) a0 a1 = if ((a0.length : Int) != (a1.length : Int)) = true then some false else loopRun (R := Bool) [0, 0, 1, 5] (run E (den E k) (lv 92) k (nthLoop Tryz.f92 0)) k (StleqSiteS_0 (a0, a1) 0) (kontAt E (den E k) (lv 92) k (bodyOf Tryz.f92) 0 [] (finish E (rs 92) Tryz.f92 : Ex → St → Option (Bool))) := by kernel_rfl
theorem eleqSiteS (k : Nat) (a0 : List I3) (a1 : List I3) : FleqSiteS (k + 1) a0 a1 = if ((a0.length : Int) != (a1.length : Int)) = true then some false else LleqSiteS_0 k (fun (v0 : Int) (x1 : I3) (x2 : I3) (p3 : Bool) => some false) (fun (v0 : Int) => some true) (a0, a1) k 0 := by
  rw [mleqSiteS_0]
  simp only [lleqSiteS_0]
  kernel_rfl
noncomputable def FleqArc (k : Nat) (a0 : I2) (a1 : I2) : Option (Bool) := den E k 127 [.agg [vI a0.1, vI a0.2], .agg [vI a1.1, vI a1.2]]
theorem eleqArc (k : Nat) (a0 : I2) (a1 : I2) : FleqArc (k + 1) a0 a1 = if (a0.1 != a1.1) = true then some false else if (a0.2 != a1.2) = true then some false else some true := by kernel_rfl
noncomputable def FleqZone (k : Nat) (a0 : I3) (a1 : I3) : Option (Bool) := den E k 113 [.agg [vI a0.1, vI a0.2.1, vI a0.2.2], .agg [vI a1.1, vI a1.2.1, vI a1.2.2]]
theorem eleqZone (k : Nat) (a0 : I3) (a1 : I3) : FleqZone (k + 1) a0 a1 = if (a0.1 != a1.1) = true then some false else (FleqArc k a0.2 a1.2).bind fun p1 => if (!p1) = true then some false else some true := by kernel_rfl
noncomputable def FleqZoneS (k : Nat) (a0 : List I3) (a1 : List I3) : Option (Bool) := den E k 93 [.c (.l 102 sZone a0), .c (.l 102 sZone a1)]
abbrev CleqZoneS_0 : Type := (List I3) × (List I3)
abbrev VleqZoneS_0 : Type := Int
def StleqZoneS_0 (c0 : CleqZoneS_0) (v0 : VleqZoneS_0) : St := ⟨27, 0, [(0, .c (.l 102 sZone c0.1)), (1, .c (.l 102 sZone c0.2)), (5, cI v0)], []⟩
noncomputable def BleqZoneS_0 {R : Type} (k : Nat) (X0 : VleqZoneS_0 → I3 → I3 → Bool → Option R) (X1 : VleqZoneS_0 → Option R) (c0 : CleqZoneS_0) (rec : VleqZoneS_0 → Option R) (v0 : VleqZoneS_0) : Option R := if (decide (v0 < (c0.1.length : Int))) = true then if 0 ≤ v0 then ix c0.1 v0.toNat fun x1 => if 0 ≤ v0 then ix c0.2 v0.toNat fun x2 => (FleqZone k x1 x2).bind fun p3 => if (!p3) = true then X0 v0 x1 x2 p3 else rec (IntKind.i64.wrap (v0 + 1)) else none else none else X1 v0
noncomputable def LleqZoneS_0 {R : Type} (k : Nat) (X0 : VleqZoneS_0 → I3 → I3 → Bool → Option R) (X1 : VleqZoneS_0 → Option R) (c : CleqZoneS_0) : Nat → VleqZoneS_0 → Option R
  | 0, _ => none
  | n + 1, v => BleqZoneS_0 k X0 X1 c (LleqZoneS_0 k X0 X1 c n) v
def YleqZoneS_0_0 {R : Type} (K : Ex → St → Option R) (c0 : CleqZoneS_0) (v0 : VleqZoneS_0) (x1 : I3) (x2 : I3) (p3 : Bool) : Option R := K .ret ⟨27, 0, [(0, .c (.l 102 sZone c0.1)), (1, .c (.l 102 sZone c0.2)), (4, cB false), (5, cI v0), (11, cI v0), (12, .c (.l 102 sZone c0.1)), (13, cI (c0.1.length : Int)), (14, cB (decide (v0 < (c0.1.length : Int)))), (17, .c (.l 102 sZone c0.1)), (18, cI v0), (19, .c (.at_ [vI x1.1, vI x1.2.1, vI x1.2.2])), (20, .agg [vI x1.1, vI x1.2.1, vI x1.2.2]), (21, .c (.l 102 sZone c0.2)), (22, cI v0), (23, .c (.at_ [vI x2.1, vI x2.2.1, vI x2.2.2])), (24, .agg [vI x2.1, vI x2.2.1, vI x2.2.2]), (25, cB p3), (26, cB (!p3))], []⟩
def YleqZoneS_0_1 {R : Type} (K : Ex → St → Option R) (c0 : CleqZoneS_0) (v0 : VleqZoneS_0) : Option R := K (.exit 0) ⟨27, 0, [(0, .c (.l 102 sZone c0.1)), (1, .c (.l 102 sZone c0.2)), (5, cI v0), (11, cI v0), (12, .c (.l 102 sZone c0.1)), (13, cI (c0.1.length : Int)), (14, cB (decide (v0 < (c0.1.length : Int))))], []⟩
theorem lleqZoneS_0 {R : Type} (k : Nat) (K : Ex → St → Option R) (c0 : CleqZoneS_0) : ∀ (n : Nat) (v : VleqZoneS_0), loopRun [0, 0, 1, 5] (run E (den E k) (lv 93) k (nthLoop Tryz.f93 0)) n (StleqZoneS_0 c0 v) K = LleqZoneS_0 k (YleqZoneS_0_0 K c0) (YleqZoneS_0_1 K c0) c0 n v := loop_law (B := BleqZoneS_0 k (YleqZoneS_0_0 K c0) (YleqZoneS_0_1 K c0) c0) (fun _ => rfl) (fun n v => by kernel_rfl) (fun _ => rfl) (fun _ _ => rfl)
theorem mleqZoneS_0 (k : Nat) (a0 : List I3) (a1 : List I3) : FleqZoneS (k + 1) a0 a1 = if ((a0.length : Int) != (a1.length : Int)) = true then some false else loopRun (R := Bool) [0, 0, 1, 5] (run E (den E k) (lv 93) k (nthLoop Tryz.f93 0)) k (StleqZoneS_0 (a0, a1) 0) (kontAt E (den E k) (lv 93) k (bodyOf Tryz.f93) 0 [] (finish E (rs 93) Tryz.f93 : Ex → St → Option (Bool))) := by kernel_rfl
theorem eleqZoneS (k : Nat) (a0 : List I3) (a1 : List I3) : FleqZoneS (k + 1) a0 a1 = if ((a0.length : Int) != (a1.length : Int)) = true then some false else LleqZoneS_0 k (fun (v0 : Int) (x1 : I3) (x2 : I3) (p3 : Bool) => some false) (fun (v0 : Int) => some true) (a0, a1) k 0 := by
  rw [mleqZoneS_0]
  simp only [lleqZoneS_0]
  kernel_rfl
noncomputable def FleqSky (k : Nat) (a0 : TSky) (a1 : TSky) : Option (Bool) := den E k 57 [.agg [vI a0.1, .l 94 sI4 a0.2.1, .l 97 sI3 a0.2.2.1, vI a0.2.2.2.1, vI a0.2.2.2.2.1, vI a0.2.2.2.2.2.1, vI a0.2.2.2.2.2.2.1, vI a0.2.2.2.2.2.2.2.1, .l 102 sZone a0.2.2.2.2.2.2.2.2.1, vI a0.2.2.2.2.2.2.2.2.2], .agg [vI a1.1, .l 94 sI4 a1.2.1, .l 97 sI3 a1.2.2.1, vI a1.2.2.2.1, vI a1.2.2.2.2.1, vI a1.2.2.2.2.2.1, vI a1.2.2.2.2.2.2.1, vI a1.2.2.2.2.2.2.2.1, .l 102 sZone a1.2.2.2.2.2.2.2.2.1, vI a1.2.2.2.2.2.2.2.2.2]]
theorem eleqSky (k : Nat) (a0 : TSky) (a1 : TSky) : FleqSky (k + 1) a0 a1 = if (a0.1 != a1.1) = true then some false else (FleqSatS k a0.2.1 a1.2.1).bind fun p1 => if (!p1) = true then some false else (FleqSiteS k a0.2.2.1 a1.2.2.1).bind fun p2 => if (!p2) = true then some false else if (a0.2.2.2.1 != a1.2.2.2.1) = true then some false else if (a0.2.2.2.2.1 != a1.2.2.2.2.1) = true then some false else if (a0.2.2.2.2.2.1 != a1.2.2.2.2.2.1) = true then some false else if (a0.2.2.2.2.2.2.1 != a1.2.2.2.2.2.2.1) = true then some false else if (a0.2.2.2.2.2.2.2.1 != a1.2.2.2.2.2.2.2.1) = true then some false else (FleqZoneS k a0.2.2.2.2.2.2.2.2.1 a1.2.2.2.2.2.2.2.2.1).bind fun p3 => if (!p3) = true then some false else if (a0.2.2.2.2.2.2.2.2.2 != a1.2.2.2.2.2.2.2.2.2) = true then some false else some true := by kernel_rfl
noncomputable def FleqStream (k : Nat) (a0 : Int × Int × List Int) (a1 : Int × Int × List Int) : Option (Bool) := den E k 98 [.agg [vI a0.1, vI a0.2.1, .l 3 (.i .i64) a0.2.2], .agg [vI a1.1, vI a1.2.1, .l 3 (.i .i64) a1.2.2]]
theorem eleqStream (k : Nat) (a0 : Int × Int × List Int) (a1 : Int × Int × List Int) : FleqStream (k + 1) a0 a1 = if (a0.1 != a1.1) = true then some false else if (a0.2.1 != a1.2.1) = true then some false else (FleqIntS k a0.2.2 a1.2.2).bind fun p1 => if (!p1) = true then some false else some true := by kernel_rfl
noncomputable def FleqStreamS (k : Nat) (a0 : List (Int × Int × List Int)) (a1 : List (Int × Int × List Int)) : Option (Bool) := den E k 64 [.c (.l 132 sStream a0), .c (.l 132 sStream a1)]
abbrev CleqStreamS_0 : Type := (List (Int × Int × List Int)) × (List (Int × Int × List Int))
abbrev VleqStreamS_0 : Type := Int
def StleqStreamS_0 (c0 : CleqStreamS_0) (v0 : VleqStreamS_0) : St := ⟨27, 0, [(0, .c (.l 132 sStream c0.1)), (1, .c (.l 132 sStream c0.2)), (5, cI v0)], []⟩
noncomputable def BleqStreamS_0 {R : Type} (k : Nat) (X0 : VleqStreamS_0 → (Int × Int × List Int) → (Int × Int × List Int) → Bool → Option R) (X1 : VleqStreamS_0 → Option R) (c0 : CleqStreamS_0) (rec : VleqStreamS_0 → Option R) (v0 : VleqStreamS_0) : Option R := if (decide (v0 < (c0.1.length : Int))) = true then if 0 ≤ v0 then ix c0.1 v0.toNat fun x1 => if 0 ≤ v0 then ix c0.2 v0.toNat fun x2 => (FleqStream k x1 x2).bind fun p3 => if (!p3) = true then X0 v0 x1 x2 p3 else rec (IntKind.i64.wrap (v0 + 1)) else none else none else X1 v0
noncomputable def LleqStreamS_0 {R : Type} (k : Nat) (X0 : VleqStreamS_0 → (Int × Int × List Int) → (Int × Int × List Int) → Bool → Option R) (X1 : VleqStreamS_0 → Option R) (c : CleqStreamS_0) : Nat → VleqStreamS_0 → Option R
  | 0, _ => none
  | n + 1, v => BleqStreamS_0 k X0 X1 c (LleqStreamS_0 k X0 X1 c n) v
def YleqStreamS_0_0 {R : Type} (K : Ex → St → Option R) (c0 : CleqStreamS_0) (v0 : VleqStreamS_0) (x1 : Int × Int × List Int) (x2 : Int × Int × List Int) (p3 : Bool) : Option R := K .ret ⟨27, 0, [(0, .c (.l 132 sStream c0.1)), (1, .c (.l 132 sStream c0.2)), (4, cB false), (5, cI v0), (11, cI v0), (12, .c (.l 132 sStream c0.1)), (13, cI (c0.1.length : Int)), (14, cB (decide (v0 < (c0.1.length : Int)))), (17, .c (.l 132 sStream c0.1)), (18, cI v0), (19, .c (.at_ [vI x1.1, vI x1.2.1, .l 3 (.i .i64) x1.2.2])), (20, .agg [vI x1.1, vI x1.2.1, .l 3 (.i .i64) x1.2.2]), (21, .c (.l 132 sStream c0.2)), (22, cI v0), (23, .c (.at_ [vI x2.1, vI x2.2.1, .l 3 (.i .i64) x2.2.2])), (24, .agg [vI x2.1, vI x2.2.1, .l 3 (.i .i64) x2.2.2]), (25, cB p3), (26, cB (!p3))], []⟩
def YleqStreamS_0_1 {R : Type} (K : Ex → St → Option R) (c0 : CleqStreamS_0) (v0 : VleqStreamS_0) : Option R := K (.exit 0) ⟨27, 0, [(0, .c (.l 132 sStream c0.1)), (1, .c (.l 132 sStream c0.2)), (5, cI v0), (11, cI v0), (12, .c (.l 132 sStream c0.1)), (13, cI (c0.1.length : Int)), (14, cB (decide (v0 < (c0.1.length : Int))))], []⟩
theorem lleqStreamS_0 {R : Type} (k : Nat) (K : Ex → St → Option R) (c0 : CleqStreamS_0) : ∀ (n : Nat) (v : VleqStreamS_0), loopRun [0, 0, 1, 5] (run E (den E k) (lv 64) k (nthLoop Tryz.f64 0)) n (StleqStreamS_0 c0 v) K = LleqStreamS_0 k (YleqStreamS_0_0 K c0) (YleqStreamS_0_1 K c0) c0 n v := loop_law (B := BleqStreamS_0 k (YleqStreamS_0_0 K c0) (YleqStreamS_0_1 K c0) c0) (fun _ => rfl) (fun n v => by kernel_rfl) (fun _ => rfl) (fun _ _ => rfl)
theorem mleqStreamS_0 (k : Nat) (a0 : List (Int × Int × List Int)) (a1 : List (Int × Int × List Int)) : FleqStreamS (k + 1) a0 a1 = if ((a0.length : Int) != (a1.length : Int)) = true then some false else loopRun (R := Bool) [0, 0, 1, 5] (run E (den E k) (lv 64) k (nthLoop Tryz.f64 0)) k (StleqStreamS_0 (a0, a1) 0) (kontAt E (den E k) (lv 64) k (bodyOf Tryz.f64) 0 [] (finish E (rs 64) Tryz.f64 : Ex → St → Option (Bool))) := by kernel_rfl
theorem eleqStreamS (k : Nat) (a0 : List (Int × Int × List Int)) (a1 : List (Int × Int × List Int)) : FleqStreamS (k + 1) a0 a1 = if ((a0.length : Int) != (a1.length : Int)) = true then some false else LleqStreamS_0 k (fun (v0 : Int) (x1 : Int × Int × List Int) (x2 : Int × Int × List Int) (p3 : Bool) => some false) (fun (v0 : Int) => some true) (a0, a1) k 0 := by
  rw [mleqStreamS_0]
  simp only [lleqStreamS_0]
  kernel_rfl
noncomputable def FleqWorld (k : Nat) (a0 : TWorld) (a1 : TWorld) : Option (Bool) := den E k 9 [.agg [vI a0.1.1, .l 94 sI4 a0.1.2.1, .l 97 sI3 a0.1.2.2.1, vI a0.1.2.2.2.1, vI a0.1.2.2.2.2.1, vI a0.1.2.2.2.2.2.1, vI a0.1.2.2.2.2.2.2.1, vI a0.1.2.2.2.2.2.2.2.1, .l 102 sZone a0.1.2.2.2.2.2.2.2.2.1, vI a0.1.2.2.2.2.2.2.2.2.2, vI a0.2.1.1, vI a0.2.1.2.1, vI a0.2.1.2.2.1, .l 109 sPiece a0.2.1.2.2.2, .l 3 (.i .i64) a0.2.2.1, .l 3 (.i .i64) a0.2.2.2.1, .l 126 sI6 a0.2.2.2.2.1, .l 120 sQueue a0.2.2.2.2.2.1, .l 129 sI4 a0.2.2.2.2.2.2.1, .l 3 (.i .i64) a0.2.2.2.2.2.2.2.1, .l 132 sStream a0.2.2.2.2.2.2.2.2.1, .l 136 sI4 a0.2.2.2.2.2.2.2.2.2.1, vI a0.2.2.2.2.2.2.2.2.2.2.1, vI a0.2.2.2.2.2.2.2.2.2.2.2.1, .l 122 sI6 a0.2.2.2.2.2.2.2.2.2.2.2.2.1, .l 139 sI4 a0.2.2.2.2.2.2.2.2.2.2.2.2.2], .agg [vI a1.1.1, .l 94 sI4 a1.1.2.1, .l 97 sI3 a1.1.2.2.1, vI a1.1.2.2.2.1, vI a1.1.2.2.2.2.1, vI a1.1.2.2.2.2.2.1, vI a1.1.2.2.2.2.2.2.1, vI a1.1.2.2.2.2.2.2.2.1, .l 102 sZone a1.1.2.2.2.2.2.2.2.2.1, vI a1.1.2.2.2.2.2.2.2.2.2, vI a1.2.1.1, vI a1.2.1.2.1, vI a1.2.1.2.2.1, .l 109 sPiece a1.2.1.2.2.2, .l 3 (.i .i64) a1.2.2.1, .l 3 (.i .i64) a1.2.2.2.1, .l 126 sI6 a1.2.2.2.2.1, .l 120 sQueue a1.2.2.2.2.2.1, .l 129 sI4 a1.2.2.2.2.2.2.1, .l 3 (.i .i64) a1.2.2.2.2.2.2.2.1, .l 132 sStream a1.2.2.2.2.2.2.2.2.1, .l 136 sI4 a1.2.2.2.2.2.2.2.2.2.1, vI a1.2.2.2.2.2.2.2.2.2.2.1, vI a1.2.2.2.2.2.2.2.2.2.2.2.1, .l 122 sI6 a1.2.2.2.2.2.2.2.2.2.2.2.2.1, .l 139 sI4 a1.2.2.2.2.2.2.2.2.2.2.2.2.2]]
theorem eleqWorld (k : Nat) (a0 : TWorld) (a1 : TWorld) : FleqWorld (k + 1) a0 a1 = (FleqSky k a0.1 a1.1).bind fun p1 => if (!p1) = true then some false else (FleqProgram k a0.2.1 a1.2.1).bind fun p2 => if (!p2) = true then some false else (FleqLaw k a0.2.2.1 a1.2.2.1).bind fun p3 => if (!p3) = true then some false else (FleqIntS k a0.2.2.2.1 a1.2.2.2.1).bind fun p4 => if (!p4) = true then some false else (FleqBatteryS k a0.2.2.2.2.1 a1.2.2.2.2.1).bind fun p5 => if (!p5) = true then some false else (FleqQueueS k a0.2.2.2.2.2.1 a1.2.2.2.2.2.1).bind fun p6 => if (!p6) = true then some false else (FleqFlowS k a0.2.2.2.2.2.2.1 a1.2.2.2.2.2.2.1).bind fun p7 => if (!p7) = true then some false else (FleqIntS k a0.2.2.2.2.2.2.2.1 a1.2.2.2.2.2.2.2.1).bind fun p8 => if (!p8) = true then some false else (FleqStreamS k a0.2.2.2.2.2.2.2.2.1 a1.2.2.2.2.2.2.2.2.1).bind fun p9 => if (!p9) = true then some false else (FleqFaultS k a0.2.2.2.2.2.2.2.2.2.1 a1.2.2.2.2.2.2.2.2.2.1).bind fun p10 => if (!p10) = true then some false else if (a0.2.2.2.2.2.2.2.2.2.2.1 != a1.2.2.2.2.2.2.2.2.2.2.1) = true then some false else if (a0.2.2.2.2.2.2.2.2.2.2.2.1 != a1.2.2.2.2.2.2.2.2.2.2.2.1) = true then some false else (FleqPacketS k a0.2.2.2.2.2.2.2.2.2.2.2.2.1 a1.2.2.2.2.2.2.2.2.2.2.2.2.1).bind fun p11 => if (!p11) = true then some false else (FleqSentS k a0.2.2.2.2.2.2.2.2.2.2.2.2.2 a1.2.2.2.2.2.2.2.2.2.2.2.2.2).bind fun p12 => if (!p12) = true then some false else some true := by kernel_rfl
noncomputable def FlszBatteryS (k : Nat) (a0 : List I6) (a1 : Int) : Option (Int) := den E k 16 [.c (.l 159 sI6 a0), cI a1]
theorem elszBatteryS (k : Nat) (a0 : List I6) (a1 : Int) : FlszBatteryS (k + 1) a0 a1 = if (decide ((IntKind.i64.wrap (a1 - (a0.length : Int))) < 0)) = true then some (-1) else some (IntKind.i64.wrap (a1 - (a0.length : Int))) := by kernel_rfl
noncomputable def FlszFaultS (k : Nat) (a0 : List I4) (a1 : Int) : Option (Int) := den E k 20 [.c (.l 165 sI4 a0), cI a1]
theorem elszFaultS (k : Nat) (a0 : List I4) (a1 : Int) : FlszFaultS (k + 1) a0 a1 = if (decide ((IntKind.i64.wrap (a1 - (a0.length : Int))) < 0)) = true then some (-1) else some (IntKind.i64.wrap (a1 - (a0.length : Int))) := by kernel_rfl
noncomputable def FlszFlowS (k : Nat) (a0 : List I4) (a1 : Int) : Option (Int) := den E k 18 [.c (.l 162 sI4 a0), cI a1]
theorem elszFlowS (k : Nat) (a0 : List I4) (a1 : Int) : FlszFlowS (k + 1) a0 a1 = if (decide ((IntKind.i64.wrap (a1 - (a0.length : Int))) < 0)) = true then some (-1) else some (IntKind.i64.wrap (a1 - (a0.length : Int))) := by kernel_rfl
noncomputable def FlszIntS (k : Nat) (a0 : List Int) (a1 : Int) : Option (Int) := den E k 15 [.c (.l 3 (.i .i64) a0), cI a1]
theorem elszIntS (k : Nat) (a0 : List Int) (a1 : Int) : FlszIntS (k + 1) a0 a1 = if (decide ((IntKind.i64.wrap (a1 - (a0.length : Int))) < 0)) = true then some (-1) else some (IntKind.i64.wrap (a1 - (a0.length : Int))) := by kernel_rfl
noncomputable def FlszLaw (k : Nat) (a0 : List Int) (a1 : Int) : Option (Int) := den E k 14 [.agg [.l 3 (.i .i64) a0], cI a1]
theorem elszLaw (k : Nat) (a0 : List Int) (a1 : Int) : FlszLaw (k + 1) a0 a1 = (FlszIntS k a0 a1).bind fun p1 => if (decide (p1 < 0)) = true then some (-1) else some p1 := by kernel_rfl
noncomputable def FlszPacketS (k : Nat) (a0 : List I6) (a1 : Int) : Option (Int) := den E k 21 [.c (.l 167 sI6 a0), cI a1]
theorem elszPacketS (k : Nat) (a0 : List I6) (a1 : Int) : FlszPacketS (k + 1) a0 a1 = if (decide ((IntKind.i64.wrap (a1 - (a0.length : Int))) < 0)) = true then some (-1) else some (IntKind.i64.wrap (a1 - (a0.length : Int))) := by kernel_rfl
noncomputable def FlszLinkS (k : Nat) (a0 : List I2) (a1 : Int) : Option (Int) := den E k 121 [.c (.l 220 sI2 a0), cI a1]
theorem elszLinkS (k : Nat) (a0 : List I2) (a1 : Int) : FlszLinkS (k + 1) a0 a1 = if (decide ((IntKind.i64.wrap (a1 - (a0.length : Int))) < 0)) = true then some (-1) else some (IntKind.i64.wrap (a1 - (a0.length : Int))) := by kernel_rfl
noncomputable def FlszTable (k : Nat) (a0 : Int × (List Int) × List Int) (a1 : Int) : Option (Int) := den E k 140 [.agg [vI a0.1, .l 3 (.i .i64) a0.2.1, .l 3 (.i .i64) a0.2.2], cI a1]
theorem elszTable (k : Nat) (a0 : Int × (List Int) × List Int) (a1 : Int) : FlszTable (k + 1) a0 a1 = (FlszIntS k a0.2.1 a1).bind fun p1 => if (decide (p1 < 0)) = true then some (-1) else (FlszIntS k a0.2.2 p1).bind fun p2 => if (decide (p2 < 0)) = true then some (-1) else some p2 := by kernel_rfl
noncomputable def FlszTableS (k : Nat) (a0 : List (Int × (List Int) × List Int)) (a1 : Int) : Option (Int) := den E k 122 [.c (.l 218 sTable a0), cI a1]
abbrev ClszTableS_0 : Type := (List (Int × (List Int) × List Int))
abbrev VlszTableS_0 : Type := Int × Int
def StlszTableS_0 (c0 : ClszTableS_0) (v0 : VlszTableS_0) : St := ⟨27, 0, [(0, .c (.l 218 sTable c0)), (1, cI v0.1), (5, cI v0.2)], []⟩
noncomputable def BlszTableS_0 {R : Type} (k : Nat) (X0 : VlszTableS_0 → (Int × (List Int) × List Int) → Int → Option R) (X1 : VlszTableS_0 → Option R) (c0 : ClszTableS_0) (rec : VlszTableS_0 → Option R) (v0 : VlszTableS_0) : Option R := if (decide (v0.2 < (c0.length : Int))) = true then if 0 ≤ v0.2 then ix c0 v0.2.toNat fun x1 => (FlszTable k x1 v0.1).bind fun p2 => if (decide (p2 < 0)) = true then X0 v0 x1 p2 else rec (p2, (IntKind.i64.wrap (v0.2 + 1))) else none else X1 v0
noncomputable def LlszTableS_0 {R : Type} (k : Nat) (X0 : VlszTableS_0 → (Int × (List Int) × List Int) → Int → Option R) (X1 : VlszTableS_0 → Option R) (c : ClszTableS_0) : Nat → VlszTableS_0 → Option R
  | 0, _ => none
  | n + 1, v => BlszTableS_0 k X0 X1 c (LlszTableS_0 k X0 X1 c n) v
def YlszTableS_0_0 {R : Type} (K : Ex → St → Option R) (c0 : ClszTableS_0) (v0 : VlszTableS_0) (x1 : Int × (List Int) × List Int) (p2 : Int) : Option R := K .ret ⟨27, 0, [(0, .c (.l 218 sTable c0)), (1, cI p2), (4, cI (-1)), (5, cI v0.2), (12, cI v0.2), (13, .c (.l 218 sTable c0)), (14, cI (c0.length : Int)), (15, cB (decide (v0.2 < (c0.length : Int)))), (18, .c (.l 218 sTable c0)), (19, cI v0.2), (20, .c (.at_ [vI x1.1, .l 3 (.i .i64) x1.2.1, .l 3 (.i .i64) x1.2.2])), (21, .agg [vI x1.1, .l 3 (.i .i64) x1.2.1, .l 3 (.i .i64) x1.2.2]), (22, cI v0.1), (23, cI p2), (24, cI p2), (25, cB (decide (p2 < 0)))], []⟩
def YlszTableS_0_1 {R : Type} (K : Ex → St → Option R) (c0 : ClszTableS_0) (v0 : VlszTableS_0) : Option R := K (.exit 0) ⟨27, 0, [(0, .c (.l 218 sTable c0)), (1, cI v0.1), (5, cI v0.2), (12, cI v0.2), (13, .c (.l 218 sTable c0)), (14, cI (c0.length : Int)), (15, cB (decide (v0.2 < (c0.length : Int))))], []⟩
theorem llszTableS_0 {R : Type} (k : Nat) (K : Ex → St → Option R) (c0 : ClszTableS_0) : ∀ (n : Nat) (v : VlszTableS_0), loopRun [0, 0, 1, 5] (run E (den E k) (lv 122) k (nthLoop Tryz.f122 0)) n (StlszTableS_0 c0 v) K = LlszTableS_0 k (YlszTableS_0_0 K c0) (YlszTableS_0_1 K c0) c0 n v := loop_law (B := BlszTableS_0 k (YlszTableS_0_0 K c0) (YlszTableS_0_1 K c0) c0) (fun _ => rfl) (fun n v => by kernel_rfl) (fun _ => rfl) (fun _ _ => rfl)
theorem mlszTableS_0 (k : Nat) (a0 : List (Int × (List Int) × List Int)) (a1 : Int) : FlszTableS (k + 1) a0 a1 = if (decide ((IntKind.i64.wrap (a1 - (a0.length : Int))) < 0)) = true then some (-1) else loopRun (R := Int) [0, 0, 1, 5] (run E (den E k) (lv 122) k (nthLoop Tryz.f122 0)) k (StlszTableS_0 a0 ((IntKind.i64.wrap (a1 - (a0.length : Int))), 0)) (kontAt E (den E k) (lv 122) k (bodyOf Tryz.f122) 0 [] (finish E (rs 122) Tryz.f122 : Ex → St → Option (Int))) := by kernel_rfl
theorem elszTableS (k : Nat) (a0 : List (Int × (List Int) × List Int)) (a1 : Int) : FlszTableS (k + 1) a0 a1 = if (decide ((IntKind.i64.wrap (a1 - (a0.length : Int))) < 0)) = true then some (-1) else LlszTableS_0 k (fun (v0 : I2) (x1 : Int × (List Int) × List Int) (p2 : Int) => some (-1)) (fun (v0 : I2) => some v0.1) a0 k ((IntKind.i64.wrap (a1 - (a0.length : Int))), 0) := by
  rw [mlszTableS_0]
  simp only [llszTableS_0]
  kernel_rfl
noncomputable def FlszPiece (k : Nat) (a0 : TPiece) (a1 : Int) : Option (Int) := den E k 106 [.agg [vI a0.1.1, vI a0.1.2, .l 220 sI2 a0.2.1, .l 218 sTable a0.2.2], cI a1]
theorem elszPiece (k : Nat) (a0 : TPiece) (a1 : Int) : FlszPiece (k + 1) a0 a1 = (FlszLinkS k a0.2.1 a1).bind fun p1 => if (decide (p1 < 0)) = true then some (-1) else (FlszTableS k a0.2.2 p1).bind fun p2 => if (decide (p2 < 0)) = true then some (-1) else some p2 := by kernel_rfl
noncomputable def FlszPieceS (k : Nat) (a0 : List TPiece) (a1 : Int) : Option (Int) := den E k 74 [.c (.l 183 sLPiece a0), cI a1]
abbrev ClszPieceS_0 : Type := (List TPiece)
abbrev VlszPieceS_0 : Type := Int × Int
def StlszPieceS_0 (c0 : ClszPieceS_0) (v0 : VlszPieceS_0) : St := ⟨27, 0, [(0, .c (.l 183 sLPiece c0)), (1, cI v0.1), (5, cI v0.2)], []⟩
noncomputable def BlszPieceS_0 {R : Type} (k : Nat) (X0 : VlszPieceS_0 → TPiece → Int → Option R) (X1 : VlszPieceS_0 → Option R) (c0 : ClszPieceS_0) (rec : VlszPieceS_0 → Option R) (v0 : VlszPieceS_0) : Option R := if (decide (v0.2 < (c0.length : Int))) = true then if 0 ≤ v0.2 then ix c0 v0.2.toNat fun x1 => (FlszPiece k x1 v0.1).bind fun p2 => if (decide (p2 < 0)) = true then X0 v0 x1 p2 else rec (p2, (IntKind.i64.wrap (v0.2 + 1))) else none else X1 v0
noncomputable def LlszPieceS_0 {R : Type} (k : Nat) (X0 : VlszPieceS_0 → TPiece → Int → Option R) (X1 : VlszPieceS_0 → Option R) (c : ClszPieceS_0) : Nat → VlszPieceS_0 → Option R
  | 0, _ => none
  | n + 1, v => BlszPieceS_0 k X0 X1 c (LlszPieceS_0 k X0 X1 c n) v
def YlszPieceS_0_0 {R : Type} (K : Ex → St → Option R) (c0 : ClszPieceS_0) (v0 : VlszPieceS_0) (x1 : TPiece) (p2 : Int) : Option R := K .ret ⟨27, 0, [(0, .c (.l 183 sLPiece c0)), (1, cI p2), (4, cI (-1)), (5, cI v0.2), (12, cI v0.2), (13, .c (.l 183 sLPiece c0)), (14, cI (c0.length : Int)), (15, cB (decide (v0.2 < (c0.length : Int)))), (18, .c (.l 183 sLPiece c0)), (19, cI v0.2), (20, .c (.at_ [vI x1.1.1, vI x1.1.2, .l 220 sI2 x1.2.1, .l 218 sTable x1.2.2])), (21, .agg [vI x1.1.1, vI x1.1.2, .l 220 sI2 x1.2.1, .l 218 sTable x1.2.2]), (22, cI v0.1), (23, cI p2), (24, cI p2), (25, cB (decide (p2 < 0)))], []⟩
def YlszPieceS_0_1 {R : Type} (K : Ex → St → Option R) (c0 : ClszPieceS_0) (v0 : VlszPieceS_0) : Option R := K (.exit 0) ⟨27, 0, [(0, .c (.l 183 sLPiece c0)), (1, cI v0.1), (5, cI v0.2), (12, cI v0.2), (13, .c (.l 183 sLPiece c0)), (14, cI (c0.length : Int)), (15, cB (decide (v0.2 < (c0.length : Int))))], []⟩
theorem llszPieceS_0 {R : Type} (k : Nat) (K : Ex → St → Option R) (c0 : ClszPieceS_0) : ∀ (n : Nat) (v : VlszPieceS_0), loopRun [0, 0, 1, 5] (run E (den E k) (lv 74) k (nthLoop Tryz.f74 0)) n (StlszPieceS_0 c0 v) K = LlszPieceS_0 k (YlszPieceS_0_0 K c0) (YlszPieceS_0_1 K c0) c0 n v := loop_law (B := BlszPieceS_0 k (YlszPieceS_0_0 K c0) (YlszPieceS_0_1 K c0) c0) (fun _ => rfl) (fun n v => by kernel_rfl) (fun _ => rfl) (fun _ _ => rfl)
theorem mlszPieceS_0 (k : Nat) (a0 : List TPiece) (a1 : Int) : FlszPieceS (k + 1) a0 a1 = if (decide ((IntKind.i64.wrap (a1 - (a0.length : Int))) < 0)) = true then some (-1) else loopRun (R := Int) [0, 0, 1, 5] (run E (den E k) (lv 74) k (nthLoop Tryz.f74 0)) k (StlszPieceS_0 a0 ((IntKind.i64.wrap (a1 - (a0.length : Int))), 0)) (kontAt E (den E k) (lv 74) k (bodyOf Tryz.f74) 0 [] (finish E (rs 74) Tryz.f74 : Ex → St → Option (Int))) := by kernel_rfl
theorem elszPieceS (k : Nat) (a0 : List TPiece) (a1 : Int) : FlszPieceS (k + 1) a0 a1 = if (decide ((IntKind.i64.wrap (a1 - (a0.length : Int))) < 0)) = true then some (-1) else LlszPieceS_0 k (fun (v0 : I2) (x1 : TPiece) (p2 : Int) => some (-1)) (fun (v0 : I2) => some v0.1) a0 k ((IntKind.i64.wrap (a1 - (a0.length : Int))), 0) := by
  rw [mlszPieceS_0]
  simp only [llszPieceS_0]
  kernel_rfl
noncomputable def FlszProgram (k : Nat) (a0 : TProgram) (a1 : Int) : Option (Int) := den E k 13 [.agg [vI a0.1, vI a0.2.1, vI a0.2.2.1, .l 183 sLPiece a0.2.2.2], cI a1]
theorem elszProgram (k : Nat) (a0 : TProgram) (a1 : Int) : FlszProgram (k + 1) a0 a1 = (FlszPieceS k a0.2.2.2 a1).bind fun p1 => if (decide (p1 < 0)) = true then some (-1) else some p1 := by kernel_rfl
noncomputable def FlszQueue (k : Nat) (a0 : List I6) (a1 : Int) : Option (Int) := den E k 75 [.agg [.l 167 sI6 a0], cI a1]
theorem elszQueue (k : Nat) (a0 : List I6) (a1 : Int) : FlszQueue (k + 1) a0 a1 = (FlszPacketS k a0 a1).bind fun p1 => if (decide (p1 < 0)) = true then some (-1) else some p1 := by kernel_rfl
noncomputable def FlszQueueS (k : Nat) (a0 : List (List I6)) (a1 : Int) : Option (Int) := den E k 17 [.c (.l 151 sLQueue a0), cI a1]
abbrev ClszQueueS_0 : Type := (List (List I6))
abbrev VlszQueueS_0 : Type := Int × Int
def StlszQueueS_0 (c0 : ClszQueueS_0) (v0 : VlszQueueS_0) : St := ⟨27, 0, [(0, .c (.l 151 sLQueue c0)), (1, cI v0.1), (5, cI v0.2)], []⟩
noncomputable def BlszQueueS_0 {R : Type} (k : Nat) (X0 : VlszQueueS_0 → (List I6) → Int → Option R) (X1 : VlszQueueS_0 → Option R) (c0 : ClszQueueS_0) (rec : VlszQueueS_0 → Option R) (v0 : VlszQueueS_0) : Option R := if (decide (v0.2 < (c0.length : Int))) = true then if 0 ≤ v0.2 then ix c0 v0.2.toNat fun x1 => (FlszQueue k x1 v0.1).bind fun p2 => if (decide (p2 < 0)) = true then X0 v0 x1 p2 else rec (p2, (IntKind.i64.wrap (v0.2 + 1))) else none else X1 v0
noncomputable def LlszQueueS_0 {R : Type} (k : Nat) (X0 : VlszQueueS_0 → (List I6) → Int → Option R) (X1 : VlszQueueS_0 → Option R) (c : ClszQueueS_0) : Nat → VlszQueueS_0 → Option R
  | 0, _ => none
  | n + 1, v => BlszQueueS_0 k X0 X1 c (LlszQueueS_0 k X0 X1 c n) v
def YlszQueueS_0_0 {R : Type} (K : Ex → St → Option R) (c0 : ClszQueueS_0) (v0 : VlszQueueS_0) (x1 : List I6) (p2 : Int) : Option R := K .ret ⟨27, 0, [(0, .c (.l 151 sLQueue c0)), (1, cI p2), (4, cI (-1)), (5, cI v0.2), (12, cI v0.2), (13, .c (.l 151 sLQueue c0)), (14, cI (c0.length : Int)), (15, cB (decide (v0.2 < (c0.length : Int)))), (18, .c (.l 151 sLQueue c0)), (19, cI v0.2), (20, .c (.at_ [.l 167 sI6 x1])), (21, .agg [.l 167 sI6 x1]), (22, cI v0.1), (23, cI p2), (24, cI p2), (25, cB (decide (p2 < 0)))], []⟩
def YlszQueueS_0_1 {R : Type} (K : Ex → St → Option R) (c0 : ClszQueueS_0) (v0 : VlszQueueS_0) : Option R := K (.exit 0) ⟨27, 0, [(0, .c (.l 151 sLQueue c0)), (1, cI v0.1), (5, cI v0.2), (12, cI v0.2), (13, .c (.l 151 sLQueue c0)), (14, cI (c0.length : Int)), (15, cB (decide (v0.2 < (c0.length : Int))))], []⟩
theorem llszQueueS_0 {R : Type} (k : Nat) (K : Ex → St → Option R) (c0 : ClszQueueS_0) : ∀ (n : Nat) (v : VlszQueueS_0), loopRun [0, 0, 1, 5] (run E (den E k) (lv 17) k (nthLoop Tryz.f17 0)) n (StlszQueueS_0 c0 v) K = LlszQueueS_0 k (YlszQueueS_0_0 K c0) (YlszQueueS_0_1 K c0) c0 n v := loop_law (B := BlszQueueS_0 k (YlszQueueS_0_0 K c0) (YlszQueueS_0_1 K c0) c0) (fun _ => rfl) (fun n v => by kernel_rfl) (fun _ => rfl) (fun _ _ => rfl)
theorem mlszQueueS_0 (k : Nat) (a0 : List (List I6)) (a1 : Int) : FlszQueueS (k + 1) a0 a1 = if (decide ((IntKind.i64.wrap (a1 - (a0.length : Int))) < 0)) = true then some (-1) else loopRun (R := Int) [0, 0, 1, 5] (run E (den E k) (lv 17) k (nthLoop Tryz.f17 0)) k (StlszQueueS_0 a0 ((IntKind.i64.wrap (a1 - (a0.length : Int))), 0)) (kontAt E (den E k) (lv 17) k (bodyOf Tryz.f17) 0 [] (finish E (rs 17) Tryz.f17 : Ex → St → Option (Int))) := by kernel_rfl
theorem elszQueueS (k : Nat) (a0 : List (List I6)) (a1 : Int) : FlszQueueS (k + 1) a0 a1 = if (decide ((IntKind.i64.wrap (a1 - (a0.length : Int))) < 0)) = true then some (-1) else LlszQueueS_0 k (fun (v0 : I2) (x1 : List I6) (p2 : Int) => some (-1)) (fun (v0 : I2) => some v0.1) a0 k ((IntKind.i64.wrap (a1 - (a0.length : Int))), 0) := by
  rw [mlszQueueS_0]
  simp only [llszQueueS_0]
  kernel_rfl
noncomputable def FlszSentS (k : Nat) (a0 : List I4) (a1 : Int) : Option (Int) := den E k 22 [.c (.l 169 sI4 a0), cI a1]
theorem elszSentS (k : Nat) (a0 : List I4) (a1 : Int) : FlszSentS (k + 1) a0 a1 = if (decide ((IntKind.i64.wrap (a1 - (a0.length : Int))) < 0)) = true then some (-1) else some (IntKind.i64.wrap (a1 - (a0.length : Int))) := by kernel_rfl
noncomputable def FlszSatS (k : Nat) (a0 : List I4) (a1 : Int) : Option (Int) := den E k 71 [.c (.l 185 sI4 a0), cI a1]
theorem elszSatS (k : Nat) (a0 : List I4) (a1 : Int) : FlszSatS (k + 1) a0 a1 = if (decide ((IntKind.i64.wrap (a1 - (a0.length : Int))) < 0)) = true then some (-1) else some (IntKind.i64.wrap (a1 - (a0.length : Int))) := by kernel_rfl
noncomputable def FlszSiteS (k : Nat) (a0 : List I3) (a1 : Int) : Option (Int) := den E k 72 [.c (.l 187 sI3 a0), cI a1]
theorem elszSiteS (k : Nat) (a0 : List I3) (a1 : Int) : FlszSiteS (k + 1) a0 a1 = if (decide ((IntKind.i64.wrap (a1 - (a0.length : Int))) < 0)) = true then some (-1) else some (IntKind.i64.wrap (a1 - (a0.length : Int))) := by kernel_rfl
noncomputable def FlszZoneS (k : Nat) (a0 : List I3) (a1 : Int) : Option (Int) := den E k 73 [.c (.l 191 sZone a0), cI a1]
theorem elszZoneS (k : Nat) (a0 : List I3) (a1 : Int) : FlszZoneS (k + 1) a0 a1 = if (decide ((IntKind.i64.wrap (a1 - (a0.length : Int))) < 0)) = true then some (-1) else some (IntKind.i64.wrap (a1 - (a0.length : Int))) := by kernel_rfl
noncomputable def FlszSky (k : Nat) (a0 : TSky) (a1 : Int) : Option (Int) := den E k 12 [.agg [vI a0.1, .l 185 sI4 a0.2.1, .l 187 sI3 a0.2.2.1, vI a0.2.2.2.1, vI a0.2.2.2.2.1, vI a0.2.2.2.2.2.1, vI a0.2.2.2.2.2.2.1, vI a0.2.2.2.2.2.2.2.1, .l 191 sZone a0.2.2.2.2.2.2.2.2.1, vI a0.2.2.2.2.2.2.2.2.2], cI a1]
theorem elszSky (k : Nat) (a0 : TSky) (a1 : Int) : FlszSky (k + 1) a0 a1 = (FlszSatS k a0.2.1 a1).bind fun p1 => if (decide (p1 < 0)) = true then some (-1) else (FlszSiteS k a0.2.2.1 p1).bind fun p2 => if (decide (p2 < 0)) = true then some (-1) else (FlszZoneS k a0.2.2.2.2.2.2.2.2.1 p2).bind fun p3 => if (decide (p3 < 0)) = true then some (-1) else some p3 := by kernel_rfl
noncomputable def FlszStream (k : Nat) (a0 : Int × Int × List Int) (a1 : Int) : Option (Int) := den E k 76 [.agg [vI a0.1, vI a0.2.1, .l 3 (.i .i64) a0.2.2], cI a1]
theorem elszStream (k : Nat) (a0 : Int × Int × List Int) (a1 : Int) : FlszStream (k + 1) a0 a1 = (FlszIntS k a0.2.2 a1).bind fun p1 => if (decide (p1 < 0)) = true then some (-1) else some p1 := by kernel_rfl
noncomputable def FlszStreamS (k : Nat) (a0 : List (Int × Int × List Int)) (a1 : Int) : Option (Int) := den E k 19 [.c (.l 153 sStream a0), cI a1]
abbrev ClszStreamS_0 : Type := (List (Int × Int × List Int))
abbrev VlszStreamS_0 : Type := Int × Int
def StlszStreamS_0 (c0 : ClszStreamS_0) (v0 : VlszStreamS_0) : St := ⟨27, 0, [(0, .c (.l 153 sStream c0)), (1, cI v0.1), (5, cI v0.2)], []⟩
noncomputable def BlszStreamS_0 {R : Type} (k : Nat) (X0 : VlszStreamS_0 → (Int × Int × List Int) → Int → Option R) (X1 : VlszStreamS_0 → Option R) (c0 : ClszStreamS_0) (rec : VlszStreamS_0 → Option R) (v0 : VlszStreamS_0) : Option R := if (decide (v0.2 < (c0.length : Int))) = true then if 0 ≤ v0.2 then ix c0 v0.2.toNat fun x1 => (FlszStream k x1 v0.1).bind fun p2 => if (decide (p2 < 0)) = true then X0 v0 x1 p2 else rec (p2, (IntKind.i64.wrap (v0.2 + 1))) else none else X1 v0
noncomputable def LlszStreamS_0 {R : Type} (k : Nat) (X0 : VlszStreamS_0 → (Int × Int × List Int) → Int → Option R) (X1 : VlszStreamS_0 → Option R) (c : ClszStreamS_0) : Nat → VlszStreamS_0 → Option R
  | 0, _ => none
  | n + 1, v => BlszStreamS_0 k X0 X1 c (LlszStreamS_0 k X0 X1 c n) v
def YlszStreamS_0_0 {R : Type} (K : Ex → St → Option R) (c0 : ClszStreamS_0) (v0 : VlszStreamS_0) (x1 : Int × Int × List Int) (p2 : Int) : Option R := K .ret ⟨27, 0, [(0, .c (.l 153 sStream c0)), (1, cI p2), (4, cI (-1)), (5, cI v0.2), (12, cI v0.2), (13, .c (.l 153 sStream c0)), (14, cI (c0.length : Int)), (15, cB (decide (v0.2 < (c0.length : Int)))), (18, .c (.l 153 sStream c0)), (19, cI v0.2), (20, .c (.at_ [vI x1.1, vI x1.2.1, .l 3 (.i .i64) x1.2.2])), (21, .agg [vI x1.1, vI x1.2.1, .l 3 (.i .i64) x1.2.2]), (22, cI v0.1), (23, cI p2), (24, cI p2), (25, cB (decide (p2 < 0)))], []⟩
def YlszStreamS_0_1 {R : Type} (K : Ex → St → Option R) (c0 : ClszStreamS_0) (v0 : VlszStreamS_0) : Option R := K (.exit 0) ⟨27, 0, [(0, .c (.l 153 sStream c0)), (1, cI v0.1), (5, cI v0.2), (12, cI v0.2), (13, .c (.l 153 sStream c0)), (14, cI (c0.length : Int)), (15, cB (decide (v0.2 < (c0.length : Int))))], []⟩
theorem llszStreamS_0 {R : Type} (k : Nat) (K : Ex → St → Option R) (c0 : ClszStreamS_0) : ∀ (n : Nat) (v : VlszStreamS_0), loopRun [0, 0, 1, 5] (run E (den E k) (lv 19) k (nthLoop Tryz.f19 0)) n (StlszStreamS_0 c0 v) K = LlszStreamS_0 k (YlszStreamS_0_0 K c0) (YlszStreamS_0_1 K c0) c0 n v := loop_law (B := BlszStreamS_0 k (YlszStreamS_0_0 K c0) (YlszStreamS_0_1 K c0) c0) (fun _ => rfl) (fun n v => by kernel_rfl) (fun _ => rfl) (fun _ _ => rfl)
theorem mlszStreamS_0 (k : Nat) (a0 : List (Int × Int × List Int)) (a1 : Int) : FlszStreamS (k + 1) a0 a1 = if (decide ((IntKind.i64.wrap (a1 - (a0.length : Int))) < 0)) = true then some (-1) else loopRun (R := Int) [0, 0, 1, 5] (run E (den E k) (lv 19) k (nthLoop Tryz.f19 0)) k (StlszStreamS_0 a0 ((IntKind.i64.wrap (a1 - (a0.length : Int))), 0)) (kontAt E (den E k) (lv 19) k (bodyOf Tryz.f19) 0 [] (finish E (rs 19) Tryz.f19 : Ex → St → Option (Int))) := by kernel_rfl
theorem elszStreamS (k : Nat) (a0 : List (Int × Int × List Int)) (a1 : Int) : FlszStreamS (k + 1) a0 a1 = if (decide ((IntKind.i64.wrap (a1 - (a0.length : Int))) < 0)) = true then some (-1) else LlszStreamS_0 k (fun (v0 : I2) (x1 : Int × Int × List Int) (p2 : Int) => some (-1)) (fun (v0 : I2) => some v0.1) a0 k ((IntKind.i64.wrap (a1 - (a0.length : Int))), 0) := by
  rw [mlszStreamS_0]
  simp only [llszStreamS_0]
  kernel_rfl
noncomputable def FlszWorld (k : Nat) (a0 : TWorld) (a1 : Int) : Option (Int) := den E k 5 [.agg [vI a0.1.1, .l 185 sI4 a0.1.2.1, .l 187 sI3 a0.1.2.2.1, vI a0.1.2.2.2.1, vI a0.1.2.2.2.2.1, vI a0.1.2.2.2.2.2.1, vI a0.1.2.2.2.2.2.2.1, vI a0.1.2.2.2.2.2.2.2.1, .l 191 sZone a0.1.2.2.2.2.2.2.2.2.1, vI a0.1.2.2.2.2.2.2.2.2.2, vI a0.2.1.1, vI a0.2.1.2.1, vI a0.2.1.2.2.1, .l 183 sLPiece a0.2.1.2.2.2, .l 3 (.i .i64) a0.2.2.1, .l 3 (.i .i64) a0.2.2.2.1, .l 159 sI6 a0.2.2.2.2.1, .l 151 sLQueue a0.2.2.2.2.2.1, .l 162 sI4 a0.2.2.2.2.2.2.1, .l 3 (.i .i64) a0.2.2.2.2.2.2.2.1, .l 153 sStream a0.2.2.2.2.2.2.2.2.1, .l 165 sI4 a0.2.2.2.2.2.2.2.2.2.1, vI a0.2.2.2.2.2.2.2.2.2.2.1, vI a0.2.2.2.2.2.2.2.2.2.2.2.1, .l 167 sI6 a0.2.2.2.2.2.2.2.2.2.2.2.2.1, .l 169 sI4 a0.2.2.2.2.2.2.2.2.2.2.2.2.2], cI a1]
theorem elszWorld (k : Nat) (a0 : TWorld) (a1 : Int) : FlszWorld (k + 1) a0 a1 = (FlszSky k a0.1 a1).bind fun p1 => if (decide (p1 < 0)) = true then some (-1) else (FlszProgram k a0.2.1 p1).bind fun p2 => if (decide (p2 < 0)) = true then some (-1) else (FlszLaw k a0.2.2.1 p2).bind fun p3 => if (decide (p3 < 0)) = true then some (-1) else (FlszIntS k a0.2.2.2.1 p3).bind fun p4 => if (decide (p4 < 0)) = true then some (-1) else (FlszBatteryS k a0.2.2.2.2.1 p4).bind fun p5 => if (decide (p5 < 0)) = true then some (-1) else (FlszQueueS k a0.2.2.2.2.2.1 p5).bind fun p6 => if (decide (p6 < 0)) = true then some (-1) else (FlszFlowS k a0.2.2.2.2.2.2.1 p6).bind fun p7 => if (decide (p7 < 0)) = true then some (-1) else (FlszIntS k a0.2.2.2.2.2.2.2.1 p7).bind fun p8 => if (decide (p8 < 0)) = true then some (-1) else (FlszStreamS k a0.2.2.2.2.2.2.2.2.1 p8).bind fun p9 => if (decide (p9 < 0)) = true then some (-1) else (FlszFaultS k a0.2.2.2.2.2.2.2.2.2.1 p9).bind fun p10 => if (decide (p10 < 0)) = true then some (-1) else (FlszPacketS k a0.2.2.2.2.2.2.2.2.2.2.2.2.1 p10).bind fun p11 => if (decide (p11 < 0)) = true then some (-1) else (FlszSentS k a0.2.2.2.2.2.2.2.2.2.2.2.2.2 p11).bind fun p12 => if (decide (p12 < 0)) = true then some (-1) else some p12 := by kernel_rfl
noncomputable def FltoBattery (k : Nat) (a0 : I6) : Option I6 := den E k 84 [.agg [vI a0.1, vI a0.2.1, vI a0.2.2.1, vI a0.2.2.2.1, vI a0.2.2.2.2.1, vI a0.2.2.2.2.2]]
theorem eltoBattery (k : Nat) (a0 : I6) : FltoBattery (k + 1) a0 = some a0 := by kernel_rfl
noncomputable def FltoBatteryS (k : Nat) (a0 : List I6) : Option (List I6) := den E k 32 [.c (.l 159 sI6 a0)]
abbrev CltoBatteryS_0 : Type := (List I6)
abbrev VltoBatteryS_0 : Type := Int × (List I6)
def StltoBatteryS_0 (c0 : CltoBatteryS_0) (v0 : VltoBatteryS_0) : St := ⟨23, 1, [(0, .c (.l 159 sI6 c0)), (3, .c (.ref 0)), (4, cI v0.1)], [(0, .arr 126 sI6 v0.2)]⟩
noncomputable def BltoBatteryS_0 {R : Type} (k : Nat) (X0 : VltoBatteryS_0 → Option R) (c0 : CltoBatteryS_0) (rec : VltoBatteryS_0 → Option R) (v0 : VltoBatteryS_0) : Option R := if (decide (v0.1 < (c0.length : Int))) = true then if 0 ≤ v0.1 then ix c0 v0.1.toNat fun x1 => (FltoBattery k x1).bind fun p2 => if 0 ≤ v0.1 then if v0.1 < (v0.2.length : Int) then ix v0.2 v0.1.toNat fun y3 => rec ((IntKind.i64.wrap (v0.1 + 1)), (v0.2.set v0.1.toNat p2)) else none else none else none else X0 v0
noncomputable def LltoBatteryS_0 {R : Type} (k : Nat) (X0 : VltoBatteryS_0 → Option R) (c : CltoBatteryS_0) : Nat → VltoBatteryS_0 → Option R
  | 0, _ => none
  | n + 1, v => BltoBatteryS_0 k X0 c (LltoBatteryS_0 k X0 c n) v
def YltoBatteryS_0_0 {R : Type} (K : Ex → St → Option R) (c0 : CltoBatteryS_0) (v0 : VltoBatteryS_0) : Option R := K (.exit 0) ⟨23, 1, [(0, .c (.l 159 sI6 c0)), (3, .c (.ref 0)), (4, cI v0.1), (8, cI v0.1), (9, .c (.l 159 sI6 c0)), (10, cI (c0.length : Int)), (11, cB (decide (v0.1 < (c0.length : Int))))], [(0, .arr 126 sI6 v0.2)]⟩
theorem lltoBatteryS_0 {R : Type} (k : Nat) (K : Ex → St → Option R) (c0 : CltoBatteryS_0) : ∀ (n : Nat) (v : VltoBatteryS_0), loopRun [0, 0, 3, 4] (run E (den E k) (lv 32) k (nthLoop Tryz.f32 0)) n (StltoBatteryS_0 c0 v) K = LltoBatteryS_0 k (YltoBatteryS_0_0 K c0) c0 n v := loop_law (B := BltoBatteryS_0 k (YltoBatteryS_0_0 K c0) c0) (fun _ => rfl) (fun n v => by kernel_rfl) (fun _ => rfl) (fun _ _ => rfl)
theorem mltoBatteryS_0 (k : Nat) (a0 : List I6) : FltoBatteryS (k + 1) a0 = if ((a0.length : Int) == (a0.length : Int)) = true then if 0 ≤ (a0.length : Int) then if 48 * (a0.length : Int).toNat ≤ 281474976710656 then loopRun (R := List I6) [0, 0, 3, 4] (run E (den E k) (lv 32) k (nthLoop Tryz.f32 0)) k (StltoBatteryS_0 a0 (0, (List.replicate (a0.length : Int).toNat ((0, 0, 0, 0, 0, 0) : I6)))) (kontAt E (den E k) (lv 32) k (bodyOf Tryz.f32) 0 [] (finish E (rs 32) Tryz.f32 : Ex → St → Option (List I6))) else none else none else none := by kernel_rfl
theorem eltoBatteryS (k : Nat) (a0 : List I6) : FltoBatteryS (k + 1) a0 = if ((a0.length : Int) == (a0.length : Int)) = true then if 0 ≤ (a0.length : Int) then if 48 * (a0.length : Int).toNat ≤ 281474976710656 then LltoBatteryS_0 k (fun (v0 : Int × (List I6)) => some v0.2) a0 k (0, (List.replicate (a0.length : Int).toNat ((0, 0, 0, 0, 0, 0) : I6))) else none else none else none := by
  rw [mltoBatteryS_0]
  simp only [lltoBatteryS_0]
  kernel_rfl
noncomputable def FltoFault (k : Nat) (a0 : I4) : Option I4 := den E k 88 [.agg [vI a0.1, vI a0.2.1, vI a0.2.2.1, vI a0.2.2.2]]
theorem eltoFault (k : Nat) (a0 : I4) : FltoFault (k + 1) a0 = some a0 := by kernel_rfl
noncomputable def FltoFaultS (k : Nat) (a0 : List I4) : Option (List I4) := den E k 36 [.c (.l 165 sI4 a0)]
abbrev CltoFaultS_0 : Type := (List I4)
abbrev VltoFaultS_0 : Type := Int × (List I4)
def StltoFaultS_0 (c0 : CltoFaultS_0) (v0 : VltoFaultS_0) : St := ⟨23, 1, [(0, .c (.l 165 sI4 c0)), (3, .c (.ref 0)), (4, cI v0.1)], [(0, .arr 136 sI4 v0.2)]⟩
noncomputable def BltoFaultS_0 {R : Type} (k : Nat) (X0 : VltoFaultS_0 → Option R) (c0 : CltoFaultS_0) (rec : VltoFaultS_0 → Option R) (v0 : VltoFaultS_0) : Option R := if (decide (v0.1 < (c0.length : Int))) = true then if 0 ≤ v0.1 then ix c0 v0.1.toNat fun x1 => (FltoFault k x1).bind fun p2 => if 0 ≤ v0.1 then if v0.1 < (v0.2.length : Int) then ix v0.2 v0.1.toNat fun y3 => rec ((IntKind.i64.wrap (v0.1 + 1)), (v0.2.set v0.1.toNat p2)) else none else none else none else X0 v0
noncomputable def LltoFaultS_0 {R : Type} (k : Nat) (X0 : VltoFaultS_0 → Option R) (c : CltoFaultS_0) : Nat → VltoFaultS_0 → Option R
  | 0, _ => none
  | n + 1, v => BltoFaultS_0 k X0 c (LltoFaultS_0 k X0 c n) v
def YltoFaultS_0_0 {R : Type} (K : Ex → St → Option R) (c0 : CltoFaultS_0) (v0 : VltoFaultS_0) : Option R := K (.exit 0) ⟨23, 1, [(0, .c (.l 165 sI4 c0)), (3, .c (.ref 0)), (4, cI v0.1), (8, cI v0.1), (9, .c (.l 165 sI4 c0)), (10, cI (c0.length : Int)), (11, cB (decide (v0.1 < (c0.length : Int))))], [(0, .arr 136 sI4 v0.2)]⟩
theorem lltoFaultS_0 {R : Type} (k : Nat) (K : Ex → St → Option R) (c0 : CltoFaultS_0) : ∀ (n : Nat) (v : VltoFaultS_0), loopRun [0, 0, 3, 4] (run E (den E k) (lv 36) k (nthLoop Tryz.f36 0)) n (StltoFaultS_0 c0 v) K = LltoFaultS_0 k (YltoFaultS_0_0 K c0) c0 n v := loop_law (B := BltoFaultS_0 k (YltoFaultS_0_0 K c0) c0) (fun _ => rfl) (fun n v => by kernel_rfl) (fun _ => rfl) (fun _ _ => rfl)
theorem mltoFaultS_0 (k : Nat) (a0 : List I4) : FltoFaultS (k + 1) a0 = if ((a0.length : Int) == (a0.length : Int)) = true then if 0 ≤ (a0.length : Int) then if 32 * (a0.length : Int).toNat ≤ 281474976710656 then loopRun (R := List I4) [0, 0, 3, 4] (run E (den E k) (lv 36) k (nthLoop Tryz.f36 0)) k (StltoFaultS_0 a0 (0, (List.replicate (a0.length : Int).toNat ((0, 0, 0, 0) : I4)))) (kontAt E (den E k) (lv 36) k (bodyOf Tryz.f36) 0 [] (finish E (rs 36) Tryz.f36 : Ex → St → Option (List I4))) else none else none else none := by kernel_rfl
theorem eltoFaultS (k : Nat) (a0 : List I4) : FltoFaultS (k + 1) a0 = if ((a0.length : Int) == (a0.length : Int)) = true then if 0 ≤ (a0.length : Int) then if 32 * (a0.length : Int).toNat ≤ 281474976710656 then LltoFaultS_0 k (fun (v0 : Int × (List I4)) => some v0.2) a0 k (0, (List.replicate (a0.length : Int).toNat ((0, 0, 0, 0) : I4))) else none else none else none := by
  rw [mltoFaultS_0]
  simp only [lltoFaultS_0]
  kernel_rfl
noncomputable def FltoFlow (k : Nat) (a0 : I4) : Option I4 := den E k 86 [.agg [vI a0.1, vI a0.2.1, vI a0.2.2.1, vI a0.2.2.2]]
theorem eltoFlow (k : Nat) (a0 : I4) : FltoFlow (k + 1) a0 = some a0 := by kernel_rfl
noncomputable def FltoFlowS (k : Nat) (a0 : List I4) : Option (List I4) := den E k 34 [.c (.l 162 sI4 a0)]
abbrev CltoFlowS_0 : Type := (List I4)
abbrev VltoFlowS_0 : Type := Int × (List I4)
def StltoFlowS_0 (c0 : CltoFlowS_0) (v0 : VltoFlowS_0) : St := ⟨23, 1, [(0, .c (.l 162 sI4 c0)), (3, .c (.ref 0)), (4, cI v0.1)], [(0, .arr 129 sI4 v0.2)]⟩
noncomputable def BltoFlowS_0 {R : Type} (k : Nat) (X0 : VltoFlowS_0 → Option R) (c0 : CltoFlowS_0) (rec : VltoFlowS_0 → Option R) (v0 : VltoFlowS_0) : Option R := if (decide (v0.1 < (c0.length : Int))) = true then if 0 ≤ v0.1 then ix c0 v0.1.toNat fun x1 => (FltoFlow k x1).bind fun p2 => if 0 ≤ v0.1 then if v0.1 < (v0.2.length : Int) then ix v0.2 v0.1.toNat fun y3 => rec ((IntKind.i64.wrap (v0.1 + 1)), (v0.2.set v0.1.toNat p2)) else none else none else none else X0 v0
noncomputable def LltoFlowS_0 {R : Type} (k : Nat) (X0 : VltoFlowS_0 → Option R) (c : CltoFlowS_0) : Nat → VltoFlowS_0 → Option R
  | 0, _ => none
  | n + 1, v => BltoFlowS_0 k X0 c (LltoFlowS_0 k X0 c n) v
def YltoFlowS_0_0 {R : Type} (K : Ex → St → Option R) (c0 : CltoFlowS_0) (v0 : VltoFlowS_0) : Option R := K (.exit 0) ⟨23, 1, [(0, .c (.l 162 sI4 c0)), (3, .c (.ref 0)), (4, cI v0.1), (8, cI v0.1), (9, .c (.l 162 sI4 c0)), (10, cI (c0.length : Int)), (11, cB (decide (v0.1 < (c0.length : Int))))], [(0, .arr 129 sI4 v0.2)]⟩
theorem lltoFlowS_0 {R : Type} (k : Nat) (K : Ex → St → Option R) (c0 : CltoFlowS_0) : ∀ (n : Nat) (v : VltoFlowS_0), loopRun [0, 0, 3, 4] (run E (den E k) (lv 34) k (nthLoop Tryz.f34 0)) n (StltoFlowS_0 c0 v) K = LltoFlowS_0 k (YltoFlowS_0_0 K c0) c0 n v := loop_law (B := BltoFlowS_0 k (YltoFlowS_0_0 K c0) c0) (fun _ => rfl) (fun n v => by kernel_rfl) (fun _ => rfl) (fun _ _ => rfl)
theorem mltoFlowS_0 (k : Nat) (a0 : List I4) : FltoFlowS (k + 1) a0 = if ((a0.length : Int) == (a0.length : Int)) = true then if 0 ≤ (a0.length : Int) then if 32 * (a0.length : Int).toNat ≤ 281474976710656 then loopRun (R := List I4) [0, 0, 3, 4] (run E (den E k) (lv 34) k (nthLoop Tryz.f34 0)) k (StltoFlowS_0 a0 (0, (List.replicate (a0.length : Int).toNat ((0, 0, 0, 0) : I4)))) (kontAt E (den E k) (lv 34) k (bodyOf Tryz.f34) 0 [] (finish E (rs 34) Tryz.f34 : Ex → St → Option (List I4))) else none else none else none := by kernel_rfl
theorem eltoFlowS (k : Nat) (a0 : List I4) : FltoFlowS (k + 1) a0 = if ((a0.length : Int) == (a0.length : Int)) = true then if 0 ≤ (a0.length : Int) then if 32 * (a0.length : Int).toNat ≤ 281474976710656 then LltoFlowS_0 k (fun (v0 : Int × (List I4)) => some v0.2) a0 k (0, (List.replicate (a0.length : Int).toNat ((0, 0, 0, 0) : I4))) else none else none else none := by
  rw [mltoFlowS_0]
  simp only [lltoFlowS_0]
  kernel_rfl
noncomputable def FltoIntS (k : Nat) (a0 : List Int) : Option (List Int) := den E k 31 [.c (.l 3 (.i .i64) a0)]
abbrev CltoIntS_0 : Type := (List Int)
abbrev VltoIntS_0 : Type := Int × (List Int)
def StltoIntS_0 (c0 : CltoIntS_0) (v0 : VltoIntS_0) : St := ⟨22, 1, [(0, .c (.l 3 (.i .i64) c0)), (3, .c (.ref 0)), (4, cI v0.1)], [(0, .arr 3 (.i .i64) v0.2)]⟩
noncomputable def BltoIntS_0 {R : Type} (k : Nat) (X0 : VltoIntS_0 → Option R) (c0 : CltoIntS_0) (rec : VltoIntS_0 → Option R) (v0 : VltoIntS_0) : Option R := if (decide (v0.1 < (c0.length : Int))) = true then if 0 ≤ v0.1 then ix c0 v0.1.toNat fun x1 => if 0 ≤ v0.1 then if v0.1 < (v0.2.length : Int) then ix v0.2 v0.1.toNat fun y2 => rec ((IntKind.i64.wrap (v0.1 + 1)), (v0.2.set v0.1.toNat x1)) else none else none else none else X0 v0
noncomputable def LltoIntS_0 {R : Type} (k : Nat) (X0 : VltoIntS_0 → Option R) (c : CltoIntS_0) : Nat → VltoIntS_0 → Option R
  | 0, _ => none
  | n + 1, v => BltoIntS_0 k X0 c (LltoIntS_0 k X0 c n) v
def YltoIntS_0_0 {R : Type} (K : Ex → St → Option R) (c0 : CltoIntS_0) (v0 : VltoIntS_0) : Option R := K (.exit 0) ⟨22, 1, [(0, .c (.l 3 (.i .i64) c0)), (3, .c (.ref 0)), (4, cI v0.1), (8, cI v0.1), (9, .c (.l 3 (.i .i64) c0)), (10, cI (c0.length : Int)), (11, cB (decide (v0.1 < (c0.length : Int))))], [(0, .arr 3 (.i .i64) v0.2)]⟩
theorem lltoIntS_0 {R : Type} (k : Nat) (K : Ex → St → Option R) (c0 : CltoIntS_0) : ∀ (n : Nat) (v : VltoIntS_0), loopRun [0, 0, 3, 4] (run E (den E k) (lv 31) k (nthLoop Tryz.f31 0)) n (StltoIntS_0 c0 v) K = LltoIntS_0 k (YltoIntS_0_0 K c0) c0 n v := loop_law (B := BltoIntS_0 k (YltoIntS_0_0 K c0) c0) (fun _ => rfl) (fun n v => by kernel_rfl) (fun _ => rfl) (fun _ _ => rfl)
theorem mltoIntS_0 (k : Nat) (a0 : List Int) : FltoIntS (k + 1) a0 = if ((a0.length : Int) == (a0.length : Int)) = true then if 0 ≤ (a0.length : Int) then if 8 * (a0.length : Int).toNat ≤ 281474976710656 then loopRun (R := List Int) [0, 0, 3, 4] (run E (den E k) (lv 31) k (nthLoop Tryz.f31 0)) k (StltoIntS_0 a0 (0, (List.replicate (a0.length : Int).toNat (0 : Int)))) (kontAt E (den E k) (lv 31) k (bodyOf Tryz.f31) 0 [] (finish E (rs 31) Tryz.f31 : Ex → St → Option (List Int))) else none else none else none := by kernel_rfl
theorem eltoIntS (k : Nat) (a0 : List Int) : FltoIntS (k + 1) a0 = if ((a0.length : Int) == (a0.length : Int)) = true then if 0 ≤ (a0.length : Int) then if 8 * (a0.length : Int).toNat ≤ 281474976710656 then LltoIntS_0 k (fun (v0 : Int × (List Int)) => some v0.2) a0 k (0, (List.replicate (a0.length : Int).toNat (0 : Int))) else none else none else none := by
  rw [mltoIntS_0]
  simp only [lltoIntS_0]
  kernel_rfl
noncomputable def FltoLaw (k : Nat) (a0 : List Int) : Option (List Int) := den E k 30 [.agg [.l 3 (.i .i64) a0]]
theorem eltoLaw (k : Nat) (a0 : List Int) : FltoLaw (k + 1) a0 = (FltoIntS k a0).bind fun p1 => some p1 := by kernel_rfl
noncomputable def FltoPacket (k : Nat) (a0 : I6) : Option I6 := den E k 89 [.agg [vI a0.1, vI a0.2.1, vI a0.2.2.1, vI a0.2.2.2.1, vI a0.2.2.2.2.1, vI a0.2.2.2.2.2]]
theorem eltoPacket (k : Nat) (a0 : I6) : FltoPacket (k + 1) a0 = some a0 := by kernel_rfl
noncomputable def FltoPacketS (k : Nat) (a0 : List I6) : Option (List I6) := den E k 37 [.c (.l 167 sI6 a0)]
abbrev CltoPacketS_0 : Type := (List I6)
abbrev VltoPacketS_0 : Type := Int × (List I6)
def StltoPacketS_0 (c0 : CltoPacketS_0) (v0 : VltoPacketS_0) : St := ⟨23, 1, [(0, .c (.l 167 sI6 c0)), (3, .c (.ref 0)), (4, cI v0.1)], [(0, .arr 122 sI6 v0.2)]⟩
noncomputable def BltoPacketS_0 {R : Type} (k : Nat) (X0 : VltoPacketS_0 → Option R) (c0 : CltoPacketS_0) (rec : VltoPacketS_0 → Option R) (v0 : VltoPacketS_0) : Option R := if (decide (v0.1 < (c0.length : Int))) = true then if 0 ≤ v0.1 then ix c0 v0.1.toNat fun x1 => (FltoPacket k x1).bind fun p2 => if 0 ≤ v0.1 then if v0.1 < (v0.2.length : Int) then ix v0.2 v0.1.toNat fun y3 => rec ((IntKind.i64.wrap (v0.1 + 1)), (v0.2.set v0.1.toNat p2)) else none else none else none else X0 v0
noncomputable def LltoPacketS_0 {R : Type} (k : Nat) (X0 : VltoPacketS_0 → Option R) (c : CltoPacketS_0) : Nat → VltoPacketS_0 → Option R
  | 0, _ => none
  | n + 1, v => BltoPacketS_0 k X0 c (LltoPacketS_0 k X0 c n) v
def YltoPacketS_0_0 {R : Type} (K : Ex → St → Option R) (c0 : CltoPacketS_0) (v0 : VltoPacketS_0) : Option R := K (.exit 0) ⟨23, 1, [(0, .c (.l 167 sI6 c0)), (3, .c (.ref 0)), (4, cI v0.1), (8, cI v0.1), (9, .c (.l 167 sI6 c0)), (10, cI (c0.length : Int)), (11, cB (decide (v0.1 < (c0.length : Int))))], [(0, .arr 122 sI6 v0.2)]⟩
theorem lltoPacketS_0 {R : Type} (k : Nat) (K : Ex → St → Option R) (c0 : CltoPacketS_0) : ∀ (n : Nat) (v : VltoPacketS_0), loopRun [0, 0, 3, 4] (run E (den E k) (lv 37) k (nthLoop Tryz.f37 0)) n (StltoPacketS_0 c0 v) K = LltoPacketS_0 k (YltoPacketS_0_0 K c0) c0 n v := loop_law (B := BltoPacketS_0 k (YltoPacketS_0_0 K c0) c0) (fun _ => rfl) (fun n v => by kernel_rfl) (fun _ => rfl) (fun _ _ => rfl)
theorem mltoPacketS_0 (k : Nat) (a0 : List I6) : FltoPacketS (k + 1) a0 = if ((a0.length : Int) == (a0.length : Int)) = true then if 0 ≤ (a0.length : Int) then if 48 * (a0.length : Int).toNat ≤ 281474976710656 then loopRun (R := List I6) [0, 0, 3, 4] (run E (den E k) (lv 37) k (nthLoop Tryz.f37 0)) k (StltoPacketS_0 a0 (0, (List.replicate (a0.length : Int).toNat ((0, 0, 0, 0, 0, 0) : I6)))) (kontAt E (den E k) (lv 37) k (bodyOf Tryz.f37) 0 [] (finish E (rs 37) Tryz.f37 : Ex → St → Option (List I6))) else none else none else none := by kernel_rfl
theorem eltoPacketS (k : Nat) (a0 : List I6) : FltoPacketS (k + 1) a0 = if ((a0.length : Int) == (a0.length : Int)) = true then if 0 ≤ (a0.length : Int) then if 48 * (a0.length : Int).toNat ≤ 281474976710656 then LltoPacketS_0 k (fun (v0 : Int × (List I6)) => some v0.2) a0 k (0, (List.replicate (a0.length : Int).toNat ((0, 0, 0, 0, 0, 0) : I6))) else none else none else none := by
  rw [mltoPacketS_0]
  simp only [lltoPacketS_0]
  kernel_rfl
noncomputable def FltoLink (k : Nat) (a0 : I2) : Option I2 := den E k 141 [.agg [vI a0.1, vI a0.2]]
theorem eltoLink (k : Nat) (a0 : I2) : FltoLink (k + 1) a0 = some a0 := by kernel_rfl
noncomputable def FltoLinkS (k : Nat) (a0 : List I2) : Option (List I2) := den E k 125 [.c (.l 220 sI2 a0)]
abbrev CltoLinkS_0 : Type := (List I2)
abbrev VltoLinkS_0 : Type := Int × (List I2)
def StltoLinkS_0 (c0 : CltoLinkS_0) (v0 : VltoLinkS_0) : St := ⟨23, 1, [(0, .c (.l 220 sI2 c0)), (3, .c (.ref 0)), (4, cI v0.1)], [(0, .arr 112 sI2 v0.2)]⟩
noncomputable def BltoLinkS_0 {R : Type} (k : Nat) (X0 : VltoLinkS_0 → Option R) (c0 : CltoLinkS_0) (rec : VltoLinkS_0 → Option R) (v0 : VltoLinkS_0) : Option R := if (decide (v0.1 < (c0.length : Int))) = true then if 0 ≤ v0.1 then ix c0 v0.1.toNat fun x1 => (FltoLink k x1).bind fun p2 => if 0 ≤ v0.1 then if v0.1 < (v0.2.length : Int) then ix v0.2 v0.1.toNat fun y3 => rec ((IntKind.i64.wrap (v0.1 + 1)), (v0.2.set v0.1.toNat p2)) else none else none else none else X0 v0
noncomputable def LltoLinkS_0 {R : Type} (k : Nat) (X0 : VltoLinkS_0 → Option R) (c : CltoLinkS_0) : Nat → VltoLinkS_0 → Option R
  | 0, _ => none
  | n + 1, v => BltoLinkS_0 k X0 c (LltoLinkS_0 k X0 c n) v
def YltoLinkS_0_0 {R : Type} (K : Ex → St → Option R) (c0 : CltoLinkS_0) (v0 : VltoLinkS_0) : Option R := K (.exit 0) ⟨23, 1, [(0, .c (.l 220 sI2 c0)), (3, .c (.ref 0)), (4, cI v0.1), (8, cI v0.1), (9, .c (.l 220 sI2 c0)), (10, cI (c0.length : Int)), (11, cB (decide (v0.1 < (c0.length : Int))))], [(0, .arr 112 sI2 v0.2)]⟩
theorem lltoLinkS_0 {R : Type} (k : Nat) (K : Ex → St → Option R) (c0 : CltoLinkS_0) : ∀ (n : Nat) (v : VltoLinkS_0), loopRun [0, 0, 3, 4] (run E (den E k) (lv 125) k (nthLoop Tryz.f125 0)) n (StltoLinkS_0 c0 v) K = LltoLinkS_0 k (YltoLinkS_0_0 K c0) c0 n v := loop_law (B := BltoLinkS_0 k (YltoLinkS_0_0 K c0) c0) (fun _ => rfl) (fun n v => by kernel_rfl) (fun _ => rfl) (fun _ _ => rfl)
theorem mltoLinkS_0 (k : Nat) (a0 : List I2) : FltoLinkS (k + 1) a0 = if ((a0.length : Int) == (a0.length : Int)) = true then if 0 ≤ (a0.length : Int) then if 16 * (a0.length : Int).toNat ≤ 281474976710656 then loopRun (R := List I2) [0, 0, 3, 4] (run E (den E k) (lv 125) k (nthLoop Tryz.f125 0)) k (StltoLinkS_0 a0 (0, (List.replicate (a0.length : Int).toNat ((0, 0) : I2)))) (kontAt E (den E k) (lv 125) k (bodyOf Tryz.f125) 0 [] (finish E (rs 125) Tryz.f125 : Ex → St → Option (List I2))) else none else none else none := by kernel_rfl
theorem eltoLinkS (k : Nat) (a0 : List I2) : FltoLinkS (k + 1) a0 = if ((a0.length : Int) == (a0.length : Int)) = true then if 0 ≤ (a0.length : Int) then if 16 * (a0.length : Int).toNat ≤ 281474976710656 then LltoLinkS_0 k (fun (v0 : Int × (List I2)) => some v0.2) a0 k (0, (List.replicate (a0.length : Int).toNat ((0, 0) : I2))) else none else none else none := by
  rw [mltoLinkS_0]
  simp only [lltoLinkS_0]
  kernel_rfl
noncomputable def FltoSpan (k : Nat) (a0 : I2) : Option I2 := den E k 124 [.agg [vI a0.1, vI a0.2]]
theorem eltoSpan (k : Nat) (a0 : I2) : FltoSpan (k + 1) a0 = some a0 := by kernel_rfl
noncomputable def FltoTable (k : Nat) (a0 : Int × (List Int) × List Int) : Option (Int × (List Int) × List Int) := den E k 142 [.agg [vI a0.1, .l 3 (.i .i64) a0.2.1, .l 3 (.i .i64) a0.2.2]]
theorem eltoTable (k : Nat) (a0 : Int × (List Int) × List Int) : FltoTable (k + 1) a0 = (FltoIntS k a0.2.1).bind fun p1 => (FltoIntS k a0.2.2).bind fun p2 => some (a0.1, p1, p2) := by kernel_rfl
noncomputable def FltoTableS (k : Nat) (a0 : List (Int × (List Int) × List Int)) : Option (List (Int × (List Int) × List Int)) := den E k 126 [.c (.l 218 sTable a0)]
abbrev CltoTableS_0 : Type := (List (Int × (List Int) × List Int))
abbrev VltoTableS_0 : Type := Int × (List (Int × (List Int) × List Int))
def StltoTableS_0 (c0 : CltoTableS_0) (v0 : VltoTableS_0) : St := ⟨23, 1, [(0, .c (.l 218 sTable c0)), (3, .c (.ref 0)), (4, cI v0.1)], [(0, .arr 115 sTable v0.2)]⟩
noncomputable def BltoTableS_0 {R : Type} (k : Nat) (X0 : VltoTableS_0 → Option R) (c0 : CltoTableS_0) (rec : VltoTableS_0 → Option R) (v0 : VltoTableS_0) : Option R := if (decide (v0.1 < (c0.length : Int))) = true then if 0 ≤ v0.1 then ix c0 v0.1.toNat fun x1 => (FltoTable k x1).bind fun p2 => if 0 ≤ v0.1 then if v0.1 < (v0.2.length : Int) then ix v0.2 v0.1.toNat fun y3 => rec ((IntKind.i64.wrap (v0.1 + 1)), (v0.2.set v0.1.toNat p2)) else none else none else none else X0 v0
noncomputable def LltoTableS_0 {R : Type} (k : Nat) (X0 : VltoTableS_0 → Option R) (c : CltoTableS_0) : Nat → VltoTableS_0 → Option R
  | 0, _ => none
  | n + 1, v => BltoTableS_0 k X0 c (LltoTableS_0 k X0 c n) v
def YltoTableS_0_0 {R : Type} (K : Ex → St → Option R) (c0 : CltoTableS_0) (v0 : VltoTableS_0) : Option R := K (.exit 0) ⟨23, 1, [(0, .c (.l 218 sTable c0)), (3, .c (.ref 0)), (4, cI v0.1), (8, cI v0.1), (9, .c (.l 218 sTable c0)), (10, cI (c0.length : Int)), (11, cB (decide (v0.1 < (c0.length : Int))))], [(0, .arr 115 sTable v0.2)]⟩
theorem lltoTableS_0 {R : Type} (k : Nat) (K : Ex → St → Option R) (c0 : CltoTableS_0) : ∀ (n : Nat) (v : VltoTableS_0), loopRun [0, 0, 3, 4] (run E (den E k) (lv 126) k (nthLoop Tryz.f126 0)) n (StltoTableS_0 c0 v) K = LltoTableS_0 k (YltoTableS_0_0 K c0) c0 n v := loop_law (B := BltoTableS_0 k (YltoTableS_0_0 K c0) c0) (fun _ => rfl) (fun n v => by kernel_rfl) (fun _ => rfl) (fun _ _ => rfl)
theorem mltoTableS_0 (k : Nat) (a0 : List (Int × (List Int) × List Int)) : FltoTableS (k + 1) a0 = if ((a0.length : Int) == (a0.length : Int)) = true then if 0 ≤ (a0.length : Int) then if 56 * (a0.length : Int).toNat ≤ 281474976710656 then loopRun (R := List (Int × (List Int) × List Int)) [0, 0, 3, 4] (run E (den E k) (lv 126) k (nthLoop Tryz.f126 0)) k (StltoTableS_0 a0 (0, (List.replicate (a0.length : Int).toNat ((0, [], []) : Int × (List Int) × List Int)))) (kontAt E (den E k) (lv 126) k (bodyOf Tryz.f126) 0 [] (finish E (rs 126) Tryz.f126 : Ex → St → Option (List (Int × (List Int) × List Int)))) else none else none else none := by kernel_rfl
theorem eltoTableS (k : Nat) (a0 : List (Int × (List Int) × List Int)) : FltoTableS (k + 1) a0 = if ((a0.length : Int) == (a0.length : Int)) = true then if 0 ≤ (a0.length : Int) then if 56 * (a0.length : Int).toNat ≤ 281474976710656 then LltoTableS_0 k (fun (v0 : Int × (List (Int × (List Int) × List Int))) => some v0.2) a0 k (0, (List.replicate (a0.length : Int).toNat ((0, [], []) : Int × (List Int) × List Int))) else none else none else none := by
  rw [mltoTableS_0]
  simp only [lltoTableS_0]
  kernel_rfl
noncomputable def FltoPiece (k : Nat) (a0 : TPiece) : Option TPiece := den E k 110 [.agg [vI a0.1.1, vI a0.1.2, .l 220 sI2 a0.2.1, .l 218 sTable a0.2.2]]
theorem eltoPiece (k : Nat) (a0 : TPiece) : FltoPiece (k + 1) a0 = (FltoSpan k a0.1).bind fun p1 => (FltoLinkS k a0.2.1).bind fun p2 => (FltoTableS k a0.2.2).bind fun p3 => some (p1, p2, p3) := by kernel_rfl
noncomputable def FltoPieceS (k : Nat) (a0 : List TPiece) : Option (List TPiece) := den E k 83 [.c (.l 183 sLPiece a0)]
abbrev CltoPieceS_0 : Type := (List TPiece)
abbrev VltoPieceS_0 : Type := Int × (List TPiece)
def StltoPieceS_0 (c0 : CltoPieceS_0) (v0 : VltoPieceS_0) : St := ⟨23, 1, [(0, .c (.l 183 sLPiece c0)), (3, .c (.ref 0)), (4, cI v0.1)], [(0, .arr 109 sPiece v0.2)]⟩
noncomputable def BltoPieceS_0 {R : Type} (k : Nat) (X0 : VltoPieceS_0 → Option R) (c0 : CltoPieceS_0) (rec : VltoPieceS_0 → Option R) (v0 : VltoPieceS_0) : Option R := if (decide (v0.1 < (c0.length : Int))) = true then if 0 ≤ v0.1 then ix c0 v0.1.toNat fun x1 => (FltoPiece k x1).bind fun p2 => if 0 ≤ v0.1 then if v0.1 < (v0.2.length : Int) then ix v0.2 v0.1.toNat fun y3 => rec ((IntKind.i64.wrap (v0.1 + 1)), (v0.2.set v0.1.toNat p2)) else none else none else none else X0 v0
noncomputable def LltoPieceS_0 {R : Type} (k : Nat) (X0 : VltoPieceS_0 → Option R) (c : CltoPieceS_0) : Nat → VltoPieceS_0 → Option R
  | 0, _ => none
  | n + 1, v => BltoPieceS_0 k X0 c (LltoPieceS_0 k X0 c n) v
def YltoPieceS_0_0 {R : Type} (K : Ex → St → Option R) (c0 : CltoPieceS_0) (v0 : VltoPieceS_0) : Option R := K (.exit 0) ⟨23, 1, [(0, .c (.l 183 sLPiece c0)), (3, .c (.ref 0)), (4, cI v0.1), (8, cI v0.1), (9, .c (.l 183 sLPiece c0)), (10, cI (c0.length : Int)), (11, cB (decide (v0.1 < (c0.length : Int))))], [(0, .arr 109 sPiece v0.2)]⟩
theorem lltoPieceS_0 {R : Type} (k : Nat) (K : Ex → St → Option R) (c0 : CltoPieceS_0) : ∀ (n : Nat) (v : VltoPieceS_0), loopRun [0, 0, 3, 4] (run E (den E k) (lv 83) k (nthLoop Tryz.f83 0)) n (StltoPieceS_0 c0 v) K = LltoPieceS_0 k (YltoPieceS_0_0 K c0) c0 n v := loop_law (B := BltoPieceS_0 k (YltoPieceS_0_0 K c0) c0) (fun _ => rfl) (fun n v => by kernel_rfl) (fun _ => rfl) (fun _ _ => rfl)
theorem mltoPieceS_0 (k : Nat) (a0 : List TPiece) : FltoPieceS (k + 1) a0 = if ((a0.length : Int) == (a0.length : Int)) = true then if 0 ≤ (a0.length : Int) then if 64 * (a0.length : Int).toNat ≤ 281474976710656 then loopRun (R := List TPiece) [0, 0, 3, 4] (run E (den E k) (lv 83) k (nthLoop Tryz.f83 0)) k (StltoPieceS_0 a0 (0, (List.replicate (a0.length : Int).toNat (((0, 0), [], []) : TPiece)))) (kontAt E (den E k) (lv 83) k (bodyOf Tryz.f83) 0 [] (finish E (rs 83) Tryz.f83 : Ex → St → Option (List TPiece))) else none else none else none := by kernel_rfl
theorem eltoPieceS (k : Nat) (a0 : List TPiece) : FltoPieceS (k + 1) a0 = if ((a0.length : Int) == (a0.length : Int)) = true then if 0 ≤ (a0.length : Int) then if 64 * (a0.length : Int).toNat ≤ 281474976710656 then LltoPieceS_0 k (fun (v0 : Int × (List TPiece)) => some v0.2) a0 k (0, (List.replicate (a0.length : Int).toNat (((0, 0), [], []) : TPiece))) else none else none else none := by
  rw [mltoPieceS_0]
  simp only [lltoPieceS_0]
  kernel_rfl
noncomputable def FltoProgram (k : Nat) (a0 : TProgram) : Option TProgram := den E k 29 [.agg [vI a0.1, vI a0.2.1, vI a0.2.2.1, .l 183 sLPiece a0.2.2.2]]
theorem eltoProgram (k : Nat) (a0 : TProgram) : FltoProgram (k + 1) a0 = (FltoPieceS k a0.2.2.2).bind fun p1 => some (a0.1, a0.2.1, a0.2.2.1, p1) := by kernel_rfl
noncomputable def FltoQueue (k : Nat) (a0 : List I6) : Option (List I6) := den E k 85 [.agg [.l 167 sI6 a0]]
theorem eltoQueue (k : Nat) (a0 : List I6) : FltoQueue (k + 1) a0 = (FltoPacketS k a0).bind fun p1 => some p1 := by kernel_rfl
noncomputable def FltoQueueS (k : Nat) (a0 : List (List I6)) : Option (List (List I6)) := den E k 33 [.c (.l 151 sLQueue a0)]
abbrev CltoQueueS_0 : Type := (List (List I6))
abbrev VltoQueueS_0 : Type := Int × (List (List I6))
def StltoQueueS_0 (c0 : CltoQueueS_0) (v0 : VltoQueueS_0) : St := ⟨23, 1, [(0, .c (.l 151 sLQueue c0)), (3, .c (.ref 0)), (4, cI v0.1)], [(0, .arr 120 sQueue v0.2)]⟩
noncomputable def BltoQueueS_0 {R : Type} (k : Nat) (X0 : VltoQueueS_0 → Option R) (c0 : CltoQueueS_0) (rec : VltoQueueS_0 → Option R) (v0 : VltoQueueS_0) : Option R := if (decide (v0.1 < (c0.length : Int))) = true then if 0 ≤ v0.1 then ix c0 v0.1.toNat fun x1 => (FltoQueue k x1).bind fun p2 => if 0 ≤ v0.1 then if v0.1 < (v0.2.length : Int) then ix v0.2 v0.1.toNat fun y3 => rec ((IntKind.i64.wrap (v0.1 + 1)), (v0.2.set v0.1.toNat p2)) else none else none else none else X0 v0
noncomputable def LltoQueueS_0 {R : Type} (k : Nat) (X0 : VltoQueueS_0 → Option R) (c : CltoQueueS_0) : Nat → VltoQueueS_0 → Option R
  | 0, _ => none
  | n + 1, v => BltoQueueS_0 k X0 c (LltoQueueS_0 k X0 c n) v
def YltoQueueS_0_0 {R : Type} (K : Ex → St → Option R) (c0 : CltoQueueS_0) (v0 : VltoQueueS_0) : Option R := K (.exit 0) ⟨23, 1, [(0, .c (.l 151 sLQueue c0)), (3, .c (.ref 0)), (4, cI v0.1), (8, cI v0.1), (9, .c (.l 151 sLQueue c0)), (10, cI (c0.length : Int)), (11, cB (decide (v0.1 < (c0.length : Int))))], [(0, .arr 120 sQueue v0.2)]⟩
theorem lltoQueueS_0 {R : Type} (k : Nat) (K : Ex → St → Option R) (c0 : CltoQueueS_0) : ∀ (n : Nat) (v : VltoQueueS_0), loopRun [0, 0, 3, 4] (run E (den E k) (lv 33) k (nthLoop Tryz.f33 0)) n (StltoQueueS_0 c0 v) K = LltoQueueS_0 k (YltoQueueS_0_0 K c0) c0 n v := loop_law (B := BltoQueueS_0 k (YltoQueueS_0_0 K c0) c0) (fun _ => rfl) (fun n v => by kernel_rfl) (fun _ => rfl) (fun _ _ => rfl)
theorem mltoQueueS_0 (k : Nat) (a0 : List (List I6)) : FltoQueueS (k + 1) a0 = if ((a0.length : Int) == (a0.length : Int)) = true then if 0 ≤ (a0.length : Int) then if 24 * (a0.length : Int).toNat ≤ 281474976710656 then loopRun (R := List (List I6)) [0, 0, 3, 4] (run E (den E k) (lv 33) k (nthLoop Tryz.f33 0)) k (StltoQueueS_0 a0 (0, (List.replicate (a0.length : Int).toNat ([] : List I6)))) (kontAt E (den E k) (lv 33) k (bodyOf Tryz.f33) 0 [] (finish E (rs 33) Tryz.f33 : Ex → St → Option (List (List I6)))) else none else none else none := by kernel_rfl
theorem eltoQueueS (k : Nat) (a0 : List (List I6)) : FltoQueueS (k + 1) a0 = if ((a0.length : Int) == (a0.length : Int)) = true then if 0 ≤ (a0.length : Int) then if 24 * (a0.length : Int).toNat ≤ 281474976710656 then LltoQueueS_0 k (fun (v0 : Int × (List (List I6))) => some v0.2) a0 k (0, (List.replicate (a0.length : Int).toNat ([] : List I6))) else none else none else none := by
  rw [mltoQueueS_0]
  simp only [lltoQueueS_0]
  kernel_rfl
noncomputable def FltoSent (k : Nat) (a0 : I4) : Option I4 := den E k 90 [.agg [vI a0.1, vI a0.2.1, vI a0.2.2.1, vI a0.2.2.2]]
theorem eltoSent (k : Nat) (a0 : I4) : FltoSent (k + 1) a0 = some a0 := by kernel_rfl
noncomputable def FltoSentS (k : Nat) (a0 : List I4) : Option (List I4) := den E k 38 [.c (.l 169 sI4 a0)]
abbrev CltoSentS_0 : Type := (List I4)
abbrev VltoSentS_0 : Type := Int × (List I4)
def StltoSentS_0 (c0 : CltoSentS_0) (v0 : VltoSentS_0) : St := ⟨23, 1, [(0, .c (.l 169 sI4 c0)), (3, .c (.ref 0)), (4, cI v0.1)], [(0, .arr 139 sI4 v0.2)]⟩
noncomputable def BltoSentS_0 {R : Type} (k : Nat) (X0 : VltoSentS_0 → Option R) (c0 : CltoSentS_0) (rec : VltoSentS_0 → Option R) (v0 : VltoSentS_0) : Option R := if (decide (v0.1 < (c0.length : Int))) = true then if 0 ≤ v0.1 then ix c0 v0.1.toNat fun x1 => (FltoSent k x1).bind fun p2 => if 0 ≤ v0.1 then if v0.1 < (v0.2.length : Int) then ix v0.2 v0.1.toNat fun y3 => rec ((IntKind.i64.wrap (v0.1 + 1)), (v0.2.set v0.1.toNat p2)) else none else none else none else X0 v0
noncomputable def LltoSentS_0 {R : Type} (k : Nat) (X0 : VltoSentS_0 → Option R) (c : CltoSentS_0) : Nat → VltoSentS_0 → Option R
  | 0, _ => none
  | n + 1, v => BltoSentS_0 k X0 c (LltoSentS_0 k X0 c n) v
def YltoSentS_0_0 {R : Type} (K : Ex → St → Option R) (c0 : CltoSentS_0) (v0 : VltoSentS_0) : Option R := K (.exit 0) ⟨23, 1, [(0, .c (.l 169 sI4 c0)), (3, .c (.ref 0)), (4, cI v0.1), (8, cI v0.1), (9, .c (.l 169 sI4 c0)), (10, cI (c0.length : Int)), (11, cB (decide (v0.1 < (c0.length : Int))))], [(0, .arr 139 sI4 v0.2)]⟩
theorem lltoSentS_0 {R : Type} (k : Nat) (K : Ex → St → Option R) (c0 : CltoSentS_0) : ∀ (n : Nat) (v : VltoSentS_0), loopRun [0, 0, 3, 4] (run E (den E k) (lv 38) k (nthLoop Tryz.f38 0)) n (StltoSentS_0 c0 v) K = LltoSentS_0 k (YltoSentS_0_0 K c0) c0 n v := loop_law (B := BltoSentS_0 k (YltoSentS_0_0 K c0) c0) (fun _ => rfl) (fun n v => by kernel_rfl) (fun _ => rfl) (fun _ _ => rfl)
theorem mltoSentS_0 (k : Nat) (a0 : List I4) : FltoSentS (k + 1) a0 = if ((a0.length : Int) == (a0.length : Int)) = true then if 0 ≤ (a0.length : Int) then if 32 * (a0.length : Int).toNat ≤ 281474976710656 then loopRun (R := List I4) [0, 0, 3, 4] (run E (den E k) (lv 38) k (nthLoop Tryz.f38 0)) k (StltoSentS_0 a0 (0, (List.replicate (a0.length : Int).toNat ((0, 0, 0, 0) : I4)))) (kontAt E (den E k) (lv 38) k (bodyOf Tryz.f38) 0 [] (finish E (rs 38) Tryz.f38 : Ex → St → Option (List I4))) else none else none else none := by kernel_rfl
theorem eltoSentS (k : Nat) (a0 : List I4) : FltoSentS (k + 1) a0 = if ((a0.length : Int) == (a0.length : Int)) = true then if 0 ≤ (a0.length : Int) then if 32 * (a0.length : Int).toNat ≤ 281474976710656 then LltoSentS_0 k (fun (v0 : Int × (List I4)) => some v0.2) a0 k (0, (List.replicate (a0.length : Int).toNat ((0, 0, 0, 0) : I4))) else none else none else none := by
  rw [mltoSentS_0]
  simp only [lltoSentS_0]
  kernel_rfl
noncomputable def FltoSat (k : Nat) (a0 : I4) : Option I4 := den E k 107 [.agg [vI a0.1, vI a0.2.1, vI a0.2.2.1, vI a0.2.2.2]]
theorem eltoSat (k : Nat) (a0 : I4) : FltoSat (k + 1) a0 = some a0 := by kernel_rfl
noncomputable def FltoSatS (k : Nat) (a0 : List I4) : Option (List I4) := den E k 80 [.c (.l 185 sI4 a0)]
abbrev CltoSatS_0 : Type := (List I4)
abbrev VltoSatS_0 : Type := Int × (List I4)
def StltoSatS_0 (c0 : CltoSatS_0) (v0 : VltoSatS_0) : St := ⟨23, 1, [(0, .c (.l 185 sI4 c0)), (3, .c (.ref 0)), (4, cI v0.1)], [(0, .arr 94 sI4 v0.2)]⟩
noncomputable def BltoSatS_0 {R : Type} (k : Nat) (X0 : VltoSatS_0 → Option R) (c0 : CltoSatS_0) (rec : VltoSatS_0 → Option R) (v0 : VltoSatS_0) : Option R := if (decide (v0.1 < (c0.length : Int))) = true then if 0 ≤ v0.1 then ix c0 v0.1.toNat fun x1 => (FltoSat k x1).bind fun p2 => if 0 ≤ v0.1 then if v0.1 < (v0.2.length : Int) then ix v0.2 v0.1.toNat fun y3 => rec ((IntKind.i64.wrap (v0.1 + 1)), (v0.2.set v0.1.toNat p2)) else none else none else none else X0 v0
noncomputable def LltoSatS_0 {R : Type} (k : Nat) (X0 : VltoSatS_0 → Option R) (c : CltoSatS_0) : Nat → VltoSatS_0 → Option R
  | 0, _ => none
  | n + 1, v => BltoSatS_0 k X0 c (LltoSatS_0 k X0 c n) v
def YltoSatS_0_0 {R : Type} (K : Ex → St → Option R) (c0 : CltoSatS_0) (v0 : VltoSatS_0) : Option R := K (.exit 0) ⟨23, 1, [(0, .c (.l 185 sI4 c0)), (3, .c (.ref 0)), (4, cI v0.1), (8, cI v0.1), (9, .c (.l 185 sI4 c0)), (10, cI (c0.length : Int)), (11, cB (decide (v0.1 < (c0.length : Int))))], [(0, .arr 94 sI4 v0.2)]⟩
theorem lltoSatS_0 {R : Type} (k : Nat) (K : Ex → St → Option R) (c0 : CltoSatS_0) : ∀ (n : Nat) (v : VltoSatS_0), loopRun [0, 0, 3, 4] (run E (den E k) (lv 80) k (nthLoop Tryz.f80 0)) n (StltoSatS_0 c0 v) K = LltoSatS_0 k (YltoSatS_0_0 K c0) c0 n v := loop_law (B := BltoSatS_0 k (YltoSatS_0_0 K c0) c0) (fun _ => rfl) (fun n v => by kernel_rfl) (fun _ => rfl) (fun _ _ => rfl)
theorem mltoSatS_0 (k : Nat) (a0 : List I4) : FltoSatS (k + 1) a0 = if ((a0.length : Int) == (a0.length : Int)) = true then if 0 ≤ (a0.length : Int) then if 32 * (a0.length : Int).toNat ≤ 281474976710656 then loopRun (R := List I4) [0, 0, 3, 4] (run E (den E k) (lv 80) k (nthLoop Tryz.f80 0)) k (StltoSatS_0 a0 (0, (List.replicate (a0.length : Int).toNat ((0, 0, 0, 0) : I4)))) (kontAt E (den E k) (lv 80) k (bodyOf Tryz.f80) 0 [] (finish E (rs 80) Tryz.f80 : Ex → St → Option (List I4))) else none else none else none := by kernel_rfl
theorem eltoSatS (k : Nat) (a0 : List I4) : FltoSatS (k + 1) a0 = if ((a0.length : Int) == (a0.length : Int)) = true then if 0 ≤ (a0.length : Int) then if 32 * (a0.length : Int).toNat ≤ 281474976710656 then LltoSatS_0 k (fun (v0 : Int × (List I4)) => some v0.2) a0 k (0, (List.replicate (a0.length : Int).toNat ((0, 0, 0, 0) : I4))) else none else none else none := by
  rw [mltoSatS_0]
  simp only [lltoSatS_0]
  kernel_rfl
noncomputable def FltoSite (k : Nat) (a0 : I3) : Option I3 := den E k 108 [.agg [vI a0.1, vI a0.2.1, vI a0.2.2]]
theorem eltoSite (k : Nat) (a0 : I3) : FltoSite (k + 1) a0 = some a0 := by kernel_rfl
noncomputable def FltoSiteS (k : Nat) (a0 : List I3) : Option (List I3) := den E k 81 [.c (.l 187 sI3 a0)]
abbrev CltoSiteS_0 : Type := (List I3)
abbrev VltoSiteS_0 : Type := Int × (List I3)
def StltoSiteS_0 (c0 : CltoSiteS_0) (v0 : VltoSiteS_0) : St := ⟨23, 1, [(0, .c (.l 187 sI3 c0)), (3, .c (.ref 0)), (4, cI v0.1)], [(0, .arr 97 sI3 v0.2)]⟩
noncomputable def BltoSiteS_0 {R : Type} (k : Nat) (X0 : VltoSiteS_0 → Option R) (c0 : CltoSiteS_0) (rec : VltoSiteS_0 → Option R) (v0 : VltoSiteS_0) : Option R := if (decide (v0.1 < (c0.length : Int))) = true then if 0 ≤ v0.1 then ix c0 v0.1.toNat fun x1 => (FltoSite k x1).bind fun p2 => if 0 ≤ v0.1 then if v0.1 < (v0.2.length : Int) then ix v0.2 v0.1.toNat fun y3 => rec ((IntKind.i64.wrap (v0.1 + 1)), (v0.2.set v0.1.toNat p2)) else none else none else none else X0 v0
noncomputable def LltoSiteS_0 {R : Type} (k : Nat) (X0 : VltoSiteS_0 → Option R) (c : CltoSiteS_0) : Nat → VltoSiteS_0 → Option R
  | 0, _ => none
  | n + 1, v => BltoSiteS_0 k X0 c (LltoSiteS_0 k X0 c n) v
def YltoSiteS_0_0 {R : Type} (K : Ex → St → Option R) (c0 : CltoSiteS_0) (v0 : VltoSiteS_0) : Option R := K (.exit 0) ⟨23, 1, [(0, .c (.l 187 sI3 c0)), (3, .c (.ref 0)), (4, cI v0.1), (8, cI v0.1), (9, .c (.l 187 sI3 c0)), (10, cI (c0.length : Int)), (11, cB (decide (v0.1 < (c0.length : Int))))], [(0, .arr 97 sI3 v0.2)]⟩
theorem lltoSiteS_0 {R : Type} (k : Nat) (K : Ex → St → Option R) (c0 : CltoSiteS_0) : ∀ (n : Nat) (v : VltoSiteS_0), loopRun [0, 0, 3, 4] (run E (den E k) (lv 81) k (nthLoop Tryz.f81 0)) n (StltoSiteS_0 c0 v) K = LltoSiteS_0 k (YltoSiteS_0_0 K c0) c0 n v := loop_law (B := BltoSiteS_0 k (YltoSiteS_0_0 K c0) c0) (fun _ => rfl) (fun n v => by kernel_rfl) (fun _ => rfl) (fun _ _ => rfl)
theorem mltoSiteS_0 (k : Nat) (a0 : List I3) : FltoSiteS (k + 1) a0 = if ((a0.length : Int) == (a0.length : Int)) = true then if 0 ≤ (a0.length : Int) then if 24 * (a0.length : Int).toNat ≤ 281474976710656 then loopRun (R := List I3) [0, 0, 3, 4] (run E (den E k) (lv 81) k (nthLoop Tryz.f81 0)) k (StltoSiteS_0 a0 (0, (List.replicate (a0.length : Int).toNat ((0, 0, 0) : I3)))) (kontAt E (den E k) (lv 81) k (bodyOf Tryz.f81) 0 [] (finish E (rs 81) Tryz.f81 : Ex → St → Option (List I3))) else none else none else none := by kernel_rfl
theorem eltoSiteS (k : Nat) (a0 : List I3) : FltoSiteS (k + 1) a0 = if ((a0.length : Int) == (a0.length : Int)) = true then if 0 ≤ (a0.length : Int) then if 24 * (a0.length : Int).toNat ≤ 281474976710656 then LltoSiteS_0 k (fun (v0 : Int × (List I3)) => some v0.2) a0 k (0, (List.replicate (a0.length : Int).toNat ((0, 0, 0) : I3))) else none else none else none := by
  rw [mltoSiteS_0]
  simp only [lltoSiteS_0]
  kernel_rfl
noncomputable def FltoArc (k : Nat) (a0 : I2) : Option I2 := den E k 123 [.agg [vI a0.1, vI a0.2]]
theorem eltoArc (k : Nat) (a0 : I2) : FltoArc (k + 1) a0 = some a0 := by kernel_rfl
noncomputable def FltoZone (k : Nat) (a0 : I3) : Option I3 := den E k 109 [.agg [vI a0.1, vI a0.2.1, vI a0.2.2]]
theorem eltoZone (k : Nat) (a0 : I3) : FltoZone (k + 1) a0 = (FltoArc k a0.2).bind fun p1 => some (a0.1, p1) := by kernel_rfl
noncomputable def FltoZoneS (k : Nat) (a0 : List I3) : Option (List I3) := den E k 82 [.c (.l 191 sZone a0)]
abbrev CltoZoneS_0 : Type := (List I3)
abbrev VltoZoneS_0 : Type := Int × (List I3)
def StltoZoneS_0 (c0 : CltoZoneS_0) (v0 : VltoZoneS_0) : St := ⟨23, 1, [(0, .c (.l 191 sZone c0)), (3, .c (.ref 0)), (4, cI v0.1)], [(0, .arr 102 sZone v0.2)]⟩
noncomputable def BltoZoneS_0 {R : Type} (k : Nat) (X0 : VltoZoneS_0 → Option R) (c0 : CltoZoneS_0) (rec : VltoZoneS_0 → Option R) (v0 : VltoZoneS_0) : Option R := if (decide (v0.1 < (c0.length : Int))) = true then if 0 ≤ v0.1 then ix c0 v0.1.toNat fun x1 => (FltoZone k x1).bind fun p2 => if 0 ≤ v0.1 then if v0.1 < (v0.2.length : Int) then ix v0.2 v0.1.toNat fun y3 => rec ((IntKind.i64.wrap (v0.1 + 1)), (v0.2.set v0.1.toNat p2)) else none else none else none else X0 v0
noncomputable def LltoZoneS_0 {R : Type} (k : Nat) (X0 : VltoZoneS_0 → Option R) (c : CltoZoneS_0) : Nat → VltoZoneS_0 → Option R
  | 0, _ => none
  | n + 1, v => BltoZoneS_0 k X0 c (LltoZoneS_0 k X0 c n) v
def YltoZoneS_0_0 {R : Type} (K : Ex → St → Option R) (c0 : CltoZoneS_0) (v0 : VltoZoneS_0) : Option R := K (.exit 0) ⟨23, 1, [(0, .c (.l 191 sZone c0)), (3, .c (.ref 0)), (4, cI v0.1), (8, cI v0.1), (9, .c (.l 191 sZone c0)), (10, cI (c0.length : Int)), (11, cB (decide (v0.1 < (c0.length : Int))))], [(0, .arr 102 sZone v0.2)]⟩
theorem lltoZoneS_0 {R : Type} (k : Nat) (K : Ex → St → Option R) (c0 : CltoZoneS_0) : ∀ (n : Nat) (v : VltoZoneS_0), loopRun [0, 0, 3, 4] (run E (den E k) (lv 82) k (nthLoop Tryz.f82 0)) n (StltoZoneS_0 c0 v) K = LltoZoneS_0 k (YltoZoneS_0_0 K c0) c0 n v := loop_law (B := BltoZoneS_0 k (YltoZoneS_0_0 K c0) c0) (fun _ => rfl) (fun n v => by kernel_rfl) (fun _ => rfl) (fun _ _ => rfl)
theorem mltoZoneS_0 (k : Nat) (a0 : List I3) : FltoZoneS (k + 1) a0 = if ((a0.length : Int) == (a0.length : Int)) = true then if 0 ≤ (a0.length : Int) then if 24 * (a0.length : Int).toNat ≤ 281474976710656 then loopRun (R := List I3) [0, 0, 3, 4] (run E (den E k) (lv 82) k (nthLoop Tryz.f82 0)) k (StltoZoneS_0 a0 (0, (List.replicate (a0.length : Int).toNat ((0, (0, 0)) : I3)))) (kontAt E (den E k) (lv 82) k (bodyOf Tryz.f82) 0 [] (finish E (rs 82) Tryz.f82 : Ex → St → Option (List I3))) else none else none else none := by kernel_rfl
theorem eltoZoneS (k : Nat) (a0 : List I3) : FltoZoneS (k + 1) a0 = if ((a0.length : Int) == (a0.length : Int)) = true then if 0 ≤ (a0.length : Int) then if 24 * (a0.length : Int).toNat ≤ 281474976710656 then LltoZoneS_0 k (fun (v0 : Int × (List I3)) => some v0.2) a0 k (0, (List.replicate (a0.length : Int).toNat ((0, (0, 0)) : I3))) else none else none else none := by
  rw [mltoZoneS_0]
  simp only [lltoZoneS_0]
  kernel_rfl
noncomputable def FltoSky (k : Nat) (a0 : TSky) : Option TSky := den E k 28 [.agg [vI a0.1, .l 185 sI4 a0.2.1, .l 187 sI3 a0.2.2.1, vI a0.2.2.2.1, vI a0.2.2.2.2.1, vI a0.2.2.2.2.2.1, vI a0.2.2.2.2.2.2.1, vI a0.2.2.2.2.2.2.2.1, .l 191 sZone a0.2.2.2.2.2.2.2.2.1, vI a0.2.2.2.2.2.2.2.2.2]]
theorem eltoSky (k : Nat) (a0 : TSky) : FltoSky (k + 1) a0 = (FltoSatS k a0.2.1).bind fun p1 => (FltoSiteS k a0.2.2.1).bind fun p2 => (FltoZoneS k a0.2.2.2.2.2.2.2.2.1).bind fun p3 => some (a0.1, p1, p2, a0.2.2.2.1, a0.2.2.2.2.1, a0.2.2.2.2.2.1, a0.2.2.2.2.2.2.1, a0.2.2.2.2.2.2.2.1, p3, a0.2.2.2.2.2.2.2.2.2) := by kernel_rfl
noncomputable def FltoStream (k : Nat) (a0 : Int × Int × List Int) : Option (Int × Int × List Int) := den E k 87 [.agg [vI a0.1, vI a0.2.1, .l 3 (.i .i64) a0.2.2]]
theorem eltoStream (k : Nat) (a0 : Int × Int × List Int) : FltoStream (k + 1) a0 = (FltoIntS k a0.2.2).bind fun p1 => some (a0.1, a0.2.1, p1) := by kernel_rfl
noncomputable def FltoStreamS (k : Nat) (a0 : List (Int × Int × List Int)) : Option (List (Int × Int × List Int)) := den E k 35 [.c (.l 153 sStream a0)]
abbrev CltoStreamS_0 : Type := (List (Int × Int × List Int))
abbrev VltoStreamS_0 : Type := Int × (List (Int × Int × List Int))
def StltoStreamS_0 (c0 : CltoStreamS_0) (v0 : VltoStreamS_0) : St := ⟨23, 1, [(0, .c (.l 153 sStream c0)), (3, .c (.ref 0)), (4, cI v0.1)], [(0, .arr 132 sStream v0.2)]⟩
noncomputable def BltoStreamS_0 {R : Type} (k : Nat) (X0 : VltoStreamS_0 → Option R) (c0 : CltoStreamS_0) (rec : VltoStreamS_0 → Option R) (v0 : VltoStreamS_0) : Option R := if (decide (v0.1 < (c0.length : Int))) = true then if 0 ≤ v0.1 then ix c0 v0.1.toNat fun x1 => (FltoStream k x1).bind fun p2 => if 0 ≤ v0.1 then if v0.1 < (v0.2.length : Int) then ix v0.2 v0.1.toNat fun y3 => rec ((IntKind.i64.wrap (v0.1 + 1)), (v0.2.set v0.1.toNat p2)) else none else none else none else X0 v0
noncomputable def LltoStreamS_0 {R : Type} (k : Nat) (X0 : VltoStreamS_0 → Option R) (c : CltoStreamS_0) : Nat → VltoStreamS_0 → Option R
  | 0, _ => none
  | n + 1, v => BltoStreamS_0 k X0 c (LltoStreamS_0 k X0 c n) v
def YltoStreamS_0_0 {R : Type} (K : Ex → St → Option R) (c0 : CltoStreamS_0) (v0 : VltoStreamS_0) : Option R := K (.exit 0) ⟨23, 1, [(0, .c (.l 153 sStream c0)), (3, .c (.ref 0)), (4, cI v0.1), (8, cI v0.1), (9, .c (.l 153 sStream c0)), (10, cI (c0.length : Int)), (11, cB (decide (v0.1 < (c0.length : Int))))], [(0, .arr 132 sStream v0.2)]⟩
theorem lltoStreamS_0 {R : Type} (k : Nat) (K : Ex → St → Option R) (c0 : CltoStreamS_0) : ∀ (n : Nat) (v : VltoStreamS_0), loopRun [0, 0, 3, 4] (run E (den E k) (lv 35) k (nthLoop Tryz.f35 0)) n (StltoStreamS_0 c0 v) K = LltoStreamS_0 k (YltoStreamS_0_0 K c0) c0 n v := loop_law (B := BltoStreamS_0 k (YltoStreamS_0_0 K c0) c0) (fun _ => rfl) (fun n v => by kernel_rfl) (fun _ => rfl) (fun _ _ => rfl)
theorem mltoStreamS_0 (k : Nat) (a0 : List (Int × Int × List Int)) : FltoStreamS (k + 1) a0 = if ((a0.length : Int) == (a0.length : Int)) = true then if 0 ≤ (a0.length : Int) then if 40 * (a0.length : Int).toNat ≤ 281474976710656 then loopRun (R := List (Int × Int × List Int)) [0, 0, 3, 4] (run E (den E k) (lv 35) k (nthLoop Tryz.f35 0)) k (StltoStreamS_0 a0 (0, (List.replicate (a0.length : Int).toNat ((0, 0, []) : Int × Int × List Int)))) (kontAt E (den E k) (lv 35) k (bodyOf Tryz.f35) 0 [] (finish E (rs 35) Tryz.f35 : Ex → St → Option (List (Int × Int × List Int)))) else none else none else none := by kernel_rfl
theorem eltoStreamS (k : Nat) (a0 : List (Int × Int × List Int)) : FltoStreamS (k + 1) a0 = if ((a0.length : Int) == (a0.length : Int)) = true then if 0 ≤ (a0.length : Int) then if 40 * (a0.length : Int).toNat ≤ 281474976710656 then LltoStreamS_0 k (fun (v0 : Int × (List (Int × Int × List Int))) => some v0.2) a0 k (0, (List.replicate (a0.length : Int).toNat ((0, 0, []) : Int × Int × List Int))) else none else none else none := by
  rw [mltoStreamS_0]
  simp only [lltoStreamS_0]
  kernel_rfl
noncomputable def FltoWorld (k : Nat) (a0 : TWorld) : Option TWorld := den E k 7 [.agg [vI a0.1.1, .l 185 sI4 a0.1.2.1, .l 187 sI3 a0.1.2.2.1, vI a0.1.2.2.2.1, vI a0.1.2.2.2.2.1, vI a0.1.2.2.2.2.2.1, vI a0.1.2.2.2.2.2.2.1, vI a0.1.2.2.2.2.2.2.2.1, .l 191 sZone a0.1.2.2.2.2.2.2.2.2.1, vI a0.1.2.2.2.2.2.2.2.2.2, vI a0.2.1.1, vI a0.2.1.2.1, vI a0.2.1.2.2.1, .l 183 sLPiece a0.2.1.2.2.2, .l 3 (.i .i64) a0.2.2.1, .l 3 (.i .i64) a0.2.2.2.1, .l 159 sI6 a0.2.2.2.2.1, .l 151 sLQueue a0.2.2.2.2.2.1, .l 162 sI4 a0.2.2.2.2.2.2.1, .l 3 (.i .i64) a0.2.2.2.2.2.2.2.1, .l 153 sStream a0.2.2.2.2.2.2.2.2.1, .l 165 sI4 a0.2.2.2.2.2.2.2.2.2.1, vI a0.2.2.2.2.2.2.2.2.2.2.1, vI a0.2.2.2.2.2.2.2.2.2.2.2.1, .l 167 sI6 a0.2.2.2.2.2.2.2.2.2.2.2.2.1, .l 169 sI4 a0.2.2.2.2.2.2.2.2.2.2.2.2.2]]
theorem eltoWorld (k : Nat) (a0 : TWorld) : FltoWorld (k + 1) a0 = (FltoSky k a0.1).bind fun p1 => (FltoProgram k a0.2.1).bind fun p2 => (FltoLaw k a0.2.2.1).bind fun p3 => (FltoIntS k a0.2.2.2.1).bind fun p4 => (FltoBatteryS k a0.2.2.2.2.1).bind fun p5 => (FltoQueueS k a0.2.2.2.2.2.1).bind fun p6 => (FltoFlowS k a0.2.2.2.2.2.2.1).bind fun p7 => (FltoIntS k a0.2.2.2.2.2.2.2.1).bind fun p8 => (FltoStreamS k a0.2.2.2.2.2.2.2.2.1).bind fun p9 => (FltoFaultS k a0.2.2.2.2.2.2.2.2.2.1).bind fun p10 => (FltoPacketS k a0.2.2.2.2.2.2.2.2.2.2.2.2.1).bind fun p11 => (FltoSentS k a0.2.2.2.2.2.2.2.2.2.2.2.2.2).bind fun p12 => some (p1, p2, p3, p4, p5, p6, p7, p8, p9, p10, a0.2.2.2.2.2.2.2.2.2.2.1, a0.2.2.2.2.2.2.2.2.2.2.2.1, p11, p12) := by kernel_rfl
noncomputable def Fsl1In (k : Nat) (a0 : Int) (a1 : Int) (a2 : Int) : Option (Bool) := den E k 115 [cI a0, cI a1, cI a2]
theorem esl1In (k : Nat) (a0 : Int) (a1 : Int) (a2 : Int) : Fsl1In (k + 1) a0 a1 a2 = if ((decide (a0 ≥ a1)) == true) = true then some (decide (a0 ≤ a2)) else some false := by kernel_rfl
noncomputable def FsHasLoop (k : Nat) (a0 : List Int) : Option (Bool) := den E k 102 [.c (.l 3 (.i .i64) a0)]
abbrev CsHasLoop_1 : Type := (List Int) × Int
abbrev VsHasLoop_1 : Type := Int × Int
def StsHasLoop_1 (c1 : CsHasLoop_1) (v1 : VsHasLoop_1) : St := ⟨36, 0, [(0, .c (.l 3 (.i .i64) c1.1)), (3, cI c1.2), (4, cI v1.1), (5, cI v1.2)], []⟩
noncomputable def BsHasLoop_1 {R : Type} (k : Nat) (X0 : VsHasLoop_1 → Bool → Option R) (X1 : VsHasLoop_1 → Bool → Option R) (X2 : VsHasLoop_1 → Option R) (c1 : CsHasLoop_1) (rec : VsHasLoop_1 → Option R) (v1 : VsHasLoop_1) : Option R := if ((decide (v1.2 < (c1.1.length : Int))) == true) = true then (Fsl1In k v1.1 0 (IntKind.i64.wrap ((c1.1.length : Int) - 1))).bind fun p2 => if p2 = true then if (v1.1 == c1.2) = true then X0 v1 p2 else if 0 ≤ v1.1 then ix c1.1 v1.1.toNat fun x3 => rec (x3, (IntKind.i64.wrap (v1.2 + 1))) else none else X1 v1 p2 else X2 v1
noncomputable def LsHasLoop_1 {R : Type} (k : Nat) (X0 : VsHasLoop_1 → Bool → Option R) (X1 : VsHasLoop_1 → Bool → Option R) (X2 : VsHasLoop_1 → Option R) (c : CsHasLoop_1) : Nat → VsHasLoop_1 → Option R
  | 0, _ => none
  | n + 1, v => BsHasLoop_1 k X0 X1 X2 c (LsHasLoop_1 k X0 X1 X2 c n) v
def YsHasLoop_1_0 {R : Type} (K : Ex → St → Option R) (c1 : CsHasLoop_1) (v1 : VsHasLoop_1) (p2 : Bool) : Option R := K .ret ⟨36, 0, [(0, .c (.l 3 (.i .i64) c1.1)), (2, cB true), (3, cI c1.2), (4, cI v1.1), (5, cI v1.2), (16, cI v1.2), (17, .c (.l 3 (.i .i64) c1.1)), (18, cI (c1.1.length : Int)), (19, cB (decide (v1.2 < (c1.1.length : Int)))), (20, cB true), (21, cI v1.1), (22, .c (.l 3 (.i .i64) c1.1)), (23, cI (c1.1.length : Int)), (24, cI (IntKind.i64.wrap ((c1.1.length : Int) - 1))), (25, cB p2), (26, cB p2), (29, cI v1.1), (30, cI c1.2), (31, cB (v1.1 == c1.2))], []⟩
def YsHasLoop_1_1 {R : Type} (K : Ex → St → Option R) (c1 : CsHasLoop_1) (v1 : VsHasLoop_1) (p2 : Bool) : Option R := K (.exit 2) ⟨36, 0, [(0, .c (.l 3 (.i .i64) c1.1)), (3, cI c1.2), (4, cI v1.1), (5, cI v1.2), (16, cI v1.2), (17, .c (.l 3 (.i .i64) c1.1)), (18, cI (c1.1.length : Int)), (19, cB (decide (v1.2 < (c1.1.length : Int)))), (20, cB true), (21, cI v1.1), (22, .c (.l 3 (.i .i64) c1.1)), (23, cI (c1.1.length : Int)), (24, cI (IntKind.i64.wrap ((c1.1.length : Int) - 1))), (25, cB p2), (26, cB p2)], []⟩
def YsHasLoop_1_2 {R : Type} (K : Ex → St → Option R) (c1 : CsHasLoop_1) (v1 : VsHasLoop_1) : Option R := K (.exit 2) ⟨36, 0, [(0, .c (.l 3 (.i .i64) c1.1)), (3, cI c1.2), (4, cI v1.1), (5, cI v1.2), (16, cI v1.2), (17, .c (.l 3 (.i .i64) c1.1)), (18, cI (c1.1.length : Int)), (19, cB (decide (v1.2 < (c1.1.length : Int)))), (20, cB false), (21, .tup []), (22, .tup []), (23, .tup []), (24, .tup []), (25, .tup []), (26, cB false)], []⟩
theorem lsHasLoop_1 {R : Type} (k : Nat) (K : Ex → St → Option R) (c1 : CsHasLoop_1) : ∀ (n : Nat) (v : VsHasLoop_1), loopRun [0, 0, 3, 4, 5] (run E (den E k) (lv 102) k (nthLoop Tryz.f102 1)) n (StsHasLoop_1 c1 v) K = LsHasLoop_1 k (YsHasLoop_1_0 K c1) (YsHasLoop_1_1 K c1) (YsHasLoop_1_2 K c1) c1 n v := loop_law (B := BsHasLoop_1 k (YsHasLoop_1_0 K c1) (YsHasLoop_1_1 K c1) (YsHasLoop_1_2 K c1) c1) (fun _ => rfl) (fun n v => by kernel_rfl) (fun _ => rfl) (fun _ _ => rfl)
abbrev CsHasLoop_0 : Type := (List Int)
abbrev VsHasLoop_0 : Type := Int
def StsHasLoop_0 (c0 : CsHasLoop_0) (v0 : VsHasLoop_0) : St := ⟨36, 0, [(0, .c (.l 3 (.i .i64) c0)), (3, cI v0)], []⟩
noncomputable def BsHasLoop_0 {R : Type} (k : Nat) (X0 : VsHasLoop_0 → Int → I2 → Bool → Option R) (X1 : VsHasLoop_0 → Option R) (c0 : CsHasLoop_0) (rec : VsHasLoop_0 → Option R) (v0 : VsHasLoop_0) : Option R := if (decide (v0 < (c0.length : Int))) = true then if 0 ≤ v0 then ix c0 v0.toNat fun x1 => LsHasLoop_1 k (fun (v1 : I2) (p2 : Bool) => X0 v0 x1 v1 p2) (fun (v1 : I2) (p2 : Bool) => rec (IntKind.i64.wrap (v0 + 1))) (fun (v1 : I2) => rec (IntKind.i64.wrap (v0 + 1))) (c0, v0) k (x1, 0) else none else X1 v0
noncomputable def LsHasLoop_0 {R : Type} (k : Nat) (X0 : VsHasLoop_0 → Int → I2 → Bool → Option R) (X1 : VsHasLoop_0 → Option R) (c : CsHasLoop_0) : Nat → VsHasLoop_0 → Option R
  | 0, _ => none
  | n + 1, v => BsHasLoop_0 k X0 X1 c (LsHasLoop_0 k X0 X1 c n) v
def YsHasLoop_0_0 {R : Type} (K : Ex → St → Option R) (c0 : CsHasLoop_0) (v0 : VsHasLoop_0) (x1 : Int) (v1 : I2) (p2 : Bool) : Option R := K .ret ⟨36, 0, [(0, .c (.l 3 (.i .i64) c0)), (2, cB true), (3, cI v0), (4, cI v1.1), (5, cI v1.2), (16, cI v1.2), (17, .c (.l 3 (.i .i64) c0)), (18, cI (c0.length : Int)), (19, cB (decide (v1.2 < (c0.length : Int)))), (20, cB true), (21, cI v1.1), (22, .c (.l 3 (.i .i64) c0)), (23, cI (c0.length : Int)), (24, cI (IntKind.i64.wrap ((c0.length : Int) - 1))), (25, cB p2), (26, cB p2), (29, cI v1.1), (30, cI v0), (31, cB (v1.1 == v0))], []⟩
def YsHasLoop_0_1 {R : Type} (K : Ex → St → Option R) (c0 : CsHasLoop_0) (v0 : VsHasLoop_0) : Option R := K (.exit 0) ⟨36, 0, [(0, .c (.l 3 (.i .i64) c0)), (3, cI v0), (6, cI v0), (7, .c (.l 3 (.i .i64) c0)), (8, cI (c0.length : Int)), (9, cB (decide (v0 < (c0.length : Int))))], []⟩
theorem bmsHasLoop_0_0 {R : Type} (k n : Nat) (K : Ex → St → Option R) (c0 : CsHasLoop_0) (v0 : VsHasLoop_0) : loopRun [0, 0, 3] (run E (den E k) (lv 102) k (nthLoop Tryz.f102 0)) (n + 1) (StsHasLoop_0 c0 v0) K = if (decide (v0 < (c0.length : Int))) = true then if 0 ≤ v0 then ix c0 v0.toNat fun x1 => loopRun [0, 0, 3, 4, 5] (run E (den E k) (lv 102) k (nthLoop Tryz.f102 1)) k (StsHasLoop_1 (c0, v0) (x1, 0)) (kontAt E (den E k) (lv 102) k (.loop (nthLoop Tryz.f102 0)) (1 - 0) [(n, [0, 0, 3])] K) else none else K (.exit 0) ⟨36, 0, [(0, .c (.l 3 (.i .i64) c0)), (3, cI v0), (6, cI v0), (7, .c (.l 3 (.i .i64) c0)), (8, cI (c0.length : Int)), (9, cB (decide (v0 < (c0.length : Int))))], []⟩ := by kernel_rfl
theorem bsHasLoop_0 {R : Type} (k n : Nat) (K : Ex → St → Option R) (c0 : CsHasLoop_0) (v : VsHasLoop_0) : loopRun [0, 0, 3] (run E (den E k) (lv 102) k (nthLoop Tryz.f102 0)) (n + 1) (StsHasLoop_0 c0 v) K = BsHasLoop_0 k (YsHasLoop_0_0 K c0) (YsHasLoop_0_1 K c0) c0 (fun v => loopRun [0, 0, 3] (run E (den E k) (lv 102) k (nthLoop Tryz.f102 0)) n (StsHasLoop_0 c0 v) K) v := by
  rw [bmsHasLoop_0_0]
  simp only [lsHasLoop_1]
  kernel_rfl
theorem lsHasLoop_0 {R : Type} (k : Nat) (K : Ex → St → Option R) (c0 : CsHasLoop_0) : ∀ (n : Nat) (v : VsHasLoop_0), loopRun [0, 0, 3] (run E (den E k) (lv 102) k (nthLoop Tryz.f102 0)) n (StsHasLoop_0 c0 v) K = LsHasLoop_0 k (YsHasLoop_0_0 K c0) (YsHasLoop_0_1 K c0) c0 n v := loop_law (B := BsHasLoop_0 k (YsHasLoop_0_0 K c0) (YsHasLoop_0_1 K c0) c0) (fun _ => rfl) (fun n v => bsHasLoop_0 k n K c0 v) (fun _ => rfl) (fun _ _ => rfl)
theorem msHasLoop_0 (k : Nat) (a0 : List Int) : FsHasLoop (k + 1) a0 = loopRun (R := Bool) [0, 0, 3] (run E (den E k) (lv 102) k (nthLoop Tryz.f102 0)) k (StsHasLoop_0 a0 0) (kontAt E (den E k) (lv 102) k (bodyOf Tryz.f102) 0 [] (finish E (rs 102) Tryz.f102 : Ex → St → Option (Bool))) := by kernel_rfl
theorem esHasLoop (k : Nat) (a0 : List Int) : FsHasLoop (k + 1) a0 = LsHasLoop_0 k (fun (v0 : Int) (x1 : Int) (v1 : I2) (p2 : Bool) => some true) (fun (v0 : Int) => some false) a0 k 0 := by
  rw [msHasLoop_0]
  simp only [lsHasLoop_0]
  kernel_rfl
noncomputable def FsMin (k : Nat) (a0 : Int) (a1 : Int) : Option (Int) := den E k 68 [cI a0, cI a1]
theorem esMin (k : Nat) (a0 : Int) (a1 : Int) : FsMin (k + 1) a0 a1 = if (decide (a1 < a0)) = true then some a1 else some a0 := by kernel_rfl
noncomputable def FsAreOffsets (k : Nat) (a0 : TProgram) (a1 : List Int) : Option (Bool) := den E k 116 [.agg [vI a0.1, vI a0.2.1, vI a0.2.2.1, .l 109 sPiece a0.2.2.2], .c (.l 3 (.i .i64) a1)]
abbrev CsAreOffsets_0 : Type := (List Int) × TProgram
abbrev VsAreOffsets_0 : Type := Int
def StsAreOffsets_0 (c0 : CsAreOffsets_0) (v0 : VsAreOffsets_0) : St := ⟨34, 1, [(1, .c (.l 3 (.i .i64) c0.1)), (2, cP 0), (5, cI v0)], [(0, .var [vI c0.2.1, vI c0.2.2.1, vI c0.2.2.2.1, .l 109 sPiece c0.2.2.2.2])]⟩
noncomputable def BsAreOffsets_0 {R : Type} (k : Nat) (X0 : VsAreOffsets_0 → Bool → Int → Bool → Option R) (X1 : VsAreOffsets_0 → Bool → Option R) (X2 : VsAreOffsets_0 → Option R) (c0 : CsAreOffsets_0) (rec : VsAreOffsets_0 → Option R) (v0 : VsAreOffsets_0) : Option R := if (decide (v0 < (c0.1.length : Int))) = true then (Fsl1In k c0.2.2.2.1 0 5).bind fun p1 => if ((!p1) == false) = true then if 0 ≤ v0 then ix c0.1 v0.toNat fun x2 => (Fsl1In k x2 (IntKind.i64.wrap (0 - c0.2.2.2.1)) c0.2.2.2.1).bind fun p3 => if (!p3) = true then X0 v0 p1 x2 p3 else rec (IntKind.i64.wrap (v0 + 1)) else none else X1 v0 p1 else X2 v0
noncomputable def LsAreOffsets_0 {R : Type} (k : Nat) (X0 : VsAreOffsets_0 → Bool → Int → Bool → Option R) (X1 : VsAreOffsets_0 → Bool → Option R) (X2 : VsAreOffsets_0 → Option R) (c : CsAreOffsets_0) : Nat → VsAreOffsets_0 → Option R
  | 0, _ => none
  | n + 1, v => BsAreOffsets_0 k X0 X1 X2 c (LsAreOffsets_0 k X0 X1 X2 c n) v
def YsAreOffsets_0_0 {R : Type} (K : Ex → St → Option R) (c0 : CsAreOffsets_0) (v0 : VsAreOffsets_0) (p1 : Bool) (x2 : Int) (p3 : Bool) : Option R := K .ret ⟨34, 1, [(1, .c (.l 3 (.i .i64) c0.1)), (2, cP 0), (4, cB false), (5, cI v0), (6, cI v0), (7, .c (.l 3 (.i .i64) c0.1)), (8, cI (c0.1.length : Int)), (9, cB (decide (v0 < (c0.1.length : Int)))), (12, .c (.ptr 0 2)), (13, cI c0.2.2.2.1), (14, cB p1), (15, cB (!p1)), (16, cB false), (17, .c (.l 3 (.i .i64) c0.1)), (18, cI v0), (19, .c (.at_ [vI x2])), (20, cI x2), (21, .c (.ptr 0 2)), (22, cI c0.2.2.2.1), (23, cI (IntKind.i64.wrap (0 - c0.2.2.2.1))), (24, .c (.ptr 0 2)), (25, cI c0.2.2.2.1), (26, cB p3), (27, cB (!p3)), (28, cB (!p3))], [(0, .var [vI c0.2.1, vI c0.2.2.1, vI c0.2.2.2.1, .l 109 sPiece c0.2.2.2.2])]⟩
def YsAreOffsets_0_1 {R : Type} (K : Ex → St → Option R) (c0 : CsAreOffsets_0) (v0 : VsAreOffsets_0) (p1 : Bool) : Option R := K .ret ⟨34, 1, [(1, .c (.l 3 (.i .i64) c0.1)), (2, cP 0), (4, cB false), (5, cI v0), (6, cI v0), (7, .c (.l 3 (.i .i64) c0.1)), (8, cI (c0.1.length : Int)), (9, cB (decide (v0 < (c0.1.length : Int)))), (12, .c (.ptr 0 2)), (13, cI c0.2.2.2.1), (14, cB p1), (15, cB (!p1)), (16, cB true), (17, .tup []), (18, .tup []), (19, .tup []), (20, .tup []), (21, .tup []), (22, .tup []), (23, .tup []), (24, .tup []), (25, .tup []), (26, .tup []), (27, .tup []), (28, cB true)], [(0, .var [vI c0.2.1, vI c0.2.2.1, vI c0.2.2.2.1, .l 109 sPiece c0.2.2.2.2])]⟩
def YsAreOffsets_0_2 {R : Type} (K : Ex → St → Option R) (c0 : CsAreOffsets_0) (v0 : VsAreOffsets_0) : Option R := K (.exit 0) ⟨34, 1, [(1, .c (.l 3 (.i .i64) c0.1)), (2, cP 0), (5, cI v0), (6, cI v0), (7, .c (.l 3 (.i .i64) c0.1)), (8, cI (c0.1.length : Int)), (9, cB (decide (v0 < (c0.1.length : Int))))], [(0, .var [vI c0.2.1, vI c0.2.2.1, vI c0.2.2.2.1, .l 109 sPiece c0.2.2.2.2])]⟩
theorem lsAreOffsets_0 {R : Type} (k : Nat) (K : Ex → St → Option R) (c0 : CsAreOffsets_0) : ∀ (n : Nat) (v : VsAreOffsets_0), loopRun [0, 1, 2, 5] (run E (den E k) (lv 116) k (nthLoop Tryz.f116 0)) n (StsAreOffsets_0 c0 v) K = LsAreOffsets_0 k (YsAreOffsets_0_0 K c0) (YsAreOffsets_0_1 K c0) (YsAreOffsets_0_2 K c0) c0 n v := loop_law (B := BsAreOffsets_0 k (YsAreOffsets_0_0 K c0) (YsAreOffsets_0_1 K c0) (YsAreOffsets_0_2 K c0) c0) (fun _ => rfl) (fun n v => by kernel_rfl) (fun _ => rfl) (fun _ _ => rfl)
theorem msAreOffsets_0 (k : Nat) (a0 : TProgram) (a1 : List Int) : FsAreOffsets (k + 1) a0 a1 = loopRun (R := Bool) [0, 1, 2, 5] (run E (den E k) (lv 116) k (nthLoop Tryz.f116 0)) k (StsAreOffsets_0 (a1, a0) 0) (kontAt E (den E k) (lv 116) k (bodyOf Tryz.f116) 0 [] (finish E (rs 116) Tryz.f116 : Ex → St → Option (Bool))) := by kernel_rfl
theorem esAreOffsets (k : Nat) (a0 : TProgram) (a1 : List Int) : FsAreOffsets (k + 1) a0 a1 = LsAreOffsets_0 k (fun (v0 : Int) (p1 : Bool) (x2 : Int) (p3 : Bool) => some false) (fun (v0 : Int) (p1 : Bool) => some false) (fun (v0 : Int) => some ((a1.length : Int) == a0.1)) (a1, a0) k 0 := by
  rw [msAreOffsets_0]
  simp only [lsAreOffsets_0]
  kernel_rfl
noncomputable def FsIsSpan (k : Nat) (a0 : I2) : Option (Bool) := den E k 154 [.agg [vI a0.1, vI a0.2]]
theorem esIsSpan (k : Nat) (a0 : I2) : FsIsSpan (k + 1) a0 = if ((decide (a0.1 ≥ 0)) == true) = true then if ((decide (a0.2 ≤ 1000)) == true) = true then some (decide (a0.1 < a0.2)) else some false else some false := by kernel_rfl
noncomputable def FsPiecesIn (k : Nat) (a0 : TProgram) (a1 : Int) (a2 : Int) : Option (List Int) := den E k 145 [.agg [vI a0.1, vI a0.2.1, vI a0.2.2.1, .l 109 sPiece a0.2.2.2], cI a1, cI a2]
abbrev CsPiecesIn_0 : Type := Int × Int × TProgram
abbrev VsPiecesIn_0 : Type := Int × (List Int)
def StsPiecesIn_0 (c0 : CsPiecesIn_0) (v0 : VsPiecesIn_0) : St := ⟨48, 2, [(1, cI c0.1), (2, cI c0.2.1), (3, cP 0), (7, .c (.ref 1)), (8, cI v0.1)], [(0, .var [vI c0.2.2.1, vI c0.2.2.2.1, vI c0.2.2.2.2.1, .l 109 sPiece c0.2.2.2.2.2]), (1, .arr 3 (.i .i64) v0.2)]⟩
noncomputable def BsPiecesIn_0 {R : Type} (k : Nat) (X0 : VsPiecesIn_0 → Option R) (c0 : CsPiecesIn_0) (rec : VsPiecesIn_0 → Option R) (v0 : VsPiecesIn_0) : Option R := if (decide (v0.1 < (c0.2.2.2.2.2.length : Int))) = true then if 0 ≤ v0.1 then ix c0.2.2.2.2.2 v0.1.toNat fun x1 => (FsIsSpan k x1.1).bind fun p2 => if (p2 == true) = true then if ((decide (c0.1 ≤ c0.2.1)) == true) = true then if ((decide (x1.1.1 ≤ c0.2.1)) == true) = true then if (decide (c0.1 < x1.1.2)) = true then if (v0.2.length + ([v0.1]).length) * 8 ≤ 140737488355328 then rec ((IntKind.i64.wrap (v0.1 + 1)), (v0.2 ++ [v0.1])) else none else rec ((IntKind.i64.wrap (v0.1 + 1)), v0.2) else rec ((IntKind.i64.wrap (v0.1 + 1)), v0.2) else rec ((IntKind.i64.wrap (v0.1 + 1)), v0.2) else rec ((IntKind.i64.wrap (v0.1 + 1)), v0.2) else none else X0 v0
noncomputable def LsPiecesIn_0 {R : Type} (k : Nat) (X0 : VsPiecesIn_0 → Option R) (c : CsPiecesIn_0) : Nat → VsPiecesIn_0 → Option R
  | 0, _ => none
  | n + 1, v => BsPiecesIn_0 k X0 c (LsPiecesIn_0 k X0 c n) v
def YsPiecesIn_0_0 {R : Type} (K : Ex → St → Option R) (c0 : CsPiecesIn_0) (v0 : VsPiecesIn_0) : Option R := K (.exit 0) ⟨48, 2, [(1, cI c0.1), (2, cI c0.2.1), (3, cP 0), (7, .c (.ref 1)), (8, cI v0.1), (11, cI v0.1), (12, .c (.ptr 0 3)), (13, .c (.l 109 sPiece c0.2.2.2.2.2)), (14, cI (c0.2.2.2.2.2.length : Int)), (15, cB (decide (v0.1 < (c0.2.2.2.2.2.length : Int))))], [(0, .var [vI c0.2.2.1, vI c0.2.2.2.1, vI c0.2.2.2.2.1, .l 109 sPiece c0.2.2.2.2.2]), (1, .arr 3 (.i .i64) v0.2)]⟩
theorem lsPiecesIn_0 {R : Type} (k : Nat) (K : Ex → St → Option R) (c0 : CsPiecesIn_0) : ∀ (n : Nat) (v : VsPiecesIn_0), loopRun [0, 1, 2, 3, 7, 8] (run E (den E k) (lv 145) k (nthLoop Tryz.f145 0)) n (StsPiecesIn_0 c0 v) K = LsPiecesIn_0 k (YsPiecesIn_0_0 K c0) c0 n v := loop_law (B := BsPiecesIn_0 k (YsPiecesIn_0_0 K c0) c0) (fun _ => rfl) (fun n v => by kernel_rfl) (fun _ => rfl) (fun _ _ => rfl)
theorem msPiecesIn_0 (k : Nat) (a0 : TProgram) (a1 : Int) (a2 : Int) : FsPiecesIn (k + 1) a0 a1 a2 = loopRun (R := List Int) [0, 1, 2, 3, 7, 8] (run E (den E k) (lv 145) k (nthLoop Tryz.f145 0)) k (StsPiecesIn_0 (a1, a2, a0) (0, [])) (kontAt E (den E k) (lv 145) k (bodyOf Tryz.f145) 0 [] (finish E (rs 145) Tryz.f145 : Ex → St → Option (List Int))) := by kernel_rfl
theorem esPiecesIn (k : Nat) (a0 : TProgram) (a1 : Int) (a2 : Int) : FsPiecesIn (k + 1) a0 a1 a2 = LsPiecesIn_0 k (fun (v0 : Int × (List Int)) => some v0.2) (a1, a2, a0) k (0, []) := by
  rw [msPiecesIn_0]
  simp only [lsPiecesIn_0]
  kernel_rfl
noncomputable def Fsl15Copy (k : Nat) (a0 : Int × (List Int) × List Int) : Option (Int × (List Int) × List Int) := den E k 155 [.agg [vI a0.1, .l 3 (.i .i64) a0.2.1, .l 3 (.i .i64) a0.2.2]]
theorem esl15Copy (k : Nat) (a0 : Int × (List Int) × List Int) : Fsl15Copy (k + 1) a0 = if (0 + a0.2.1.length) * 8 ≤ 140737488355328 then if (0 + a0.2.2.length) * 8 ≤ 140737488355328 then some a0 else none else none := by kernel_rfl
noncomputable def FsTableIn (k : Nat) (a0 : TProgram) (a1 : Int) (a2 : Int) : Option ((Int × (List Int) × List Int) × Bool) := den E k 146 [.agg [vI a0.1, vI a0.2.1, vI a0.2.2.1, .l 109 sPiece a0.2.2.2], cI a1, cI a2]
theorem esTableIn (k : Nat) (a0 : TProgram) (a1 : Int) (a2 : Int) : FsTableIn (k + 1) a0 a1 a2 = (Fsl1In k a1 0 (IntKind.i64.wrap ((a0.2.2.2.length : Int) - 1))).bind fun p1 => if ((!p1) == false) = true then if 0 ≤ a1 then ix a0.2.2.2 a1.toNat fun x2 => (Fsl1In k a2 0 (IntKind.i64.wrap ((x2.2.2.length : Int) - 1))).bind fun p3 => if (!p3) = true then some ((0, [], []), false) else if 0 ≤ a1 then ix a0.2.2.2 a1.toNat fun x4 => if 0 ≤ a2 then ix x4.2.2 a2.toNat fun x5 => (Fsl15Copy k x5).bind fun p6 => some (p6, true) else none else none else none else some ((0, [], []), false) := by kernel_rfl
noncomputable def Fsl15Has (k : Nat) (a0 : List Int) (a1 : Int) : Option (Bool) := den E k 158 [.c (.l 3 (.i .i64) a0), cI a1]
abbrev Csl15Has_0 : Type := (List Int) × Int
abbrev Vsl15Has_0 : Type := Int
def Stsl15Has_0 (c0 : Csl15Has_0) (v0 : Vsl15Has_0) : St := ⟨18, 0, [(0, .c (.l 3 (.i .i64) c0.1)), (1, cI c0.2), (5, cI v0)], []⟩
noncomputable def Bsl15Has_0 {R : Type} (k : Nat) (X0 : Vsl15Has_0 → Int → Option R) (X1 : Vsl15Has_0 → Option R) (c0 : Csl15Has_0) (rec : Vsl15Has_0 → Option R) (v0 : Vsl15Has_0) : Option R := if (decide (v0 < (c0.1.length : Int))) = true then if 0 ≤ v0 then ix c0.1 v0.toNat fun x1 => if (x1 == c0.2) = true then X0 v0 x1 else rec (IntKind.i64.wrap (v0 + 1)) else none else X1 v0
noncomputable def Lsl15Has_0 {R : Type} (k : Nat) (X0 : Vsl15Has_0 → Int → Option R) (X1 : Vsl15Has_0 → Option R) (c : Csl15Has_0) : Nat → Vsl15Has_0 → Option R
  | 0, _ => none
  | n + 1, v => Bsl15Has_0 k X0 X1 c (Lsl15Has_0 k X0 X1 c n) v
def Ysl15Has_0_0 {R : Type} (K : Ex → St → Option R) (c0 : Csl15Has_0) (v0 : Vsl15Has_0) (x1 : Int) : Option R := K .ret ⟨18, 0, [(0, .c (.l 3 (.i .i64) c0.1)), (1, cI c0.2), (4, cB true), (5, cI v0), (6, cI v0), (7, .c (.l 3 (.i .i64) c0.1)), (8, cI (c0.1.length : Int)), (9, cB (decide (v0 < (c0.1.length : Int)))), (12, .c (.l 3 (.i .i64) c0.1)), (13, cI v0), (14, .c (.at_ [vI x1])), (15, cI x1), (16, cI c0.2), (17, cB (x1 == c0.2))], []⟩
def Ysl15Has_0_1 {R : Type} (K : Ex → St → Option R) (c0 : Csl15Has_0) (v0 : Vsl15Has_0) : Option R := K (.exit 0) ⟨18, 0, [(0, .c (.l 3 (.i .i64) c0.1)), (1, cI c0.2), (5, cI v0), (6, cI v0), (7, .c (.l 3 (.i .i64) c0.1)), (8, cI (c0.1.length : Int)), (9, cB (decide (v0 < (c0.1.length : Int))))], []⟩
theorem lsl15Has_0 {R : Type} (k : Nat) (K : Ex → St → Option R) (c0 : Csl15Has_0) : ∀ (n : Nat) (v : Vsl15Has_0), loopRun [0, 0, 1, 5] (run E (den E k) (lv 158) k (nthLoop Tryz.f158 0)) n (Stsl15Has_0 c0 v) K = Lsl15Has_0 k (Ysl15Has_0_0 K c0) (Ysl15Has_0_1 K c0) c0 n v := loop_law (B := Bsl15Has_0 k (Ysl15Has_0_0 K c0) (Ysl15Has_0_1 K c0) c0) (fun _ => rfl) (fun n v => by kernel_rfl) (fun _ => rfl) (fun _ _ => rfl)
theorem msl15Has_0 (k : Nat) (a0 : List Int) (a1 : Int) : Fsl15Has (k + 1) a0 a1 = loopRun (R := Bool) [0, 0, 1, 5] (run E (den E k) (lv 158) k (nthLoop Tryz.f158 0)) k (Stsl15Has_0 (a0, a1) 0) (kontAt E (den E k) (lv 158) k (bodyOf Tryz.f158) 0 [] (finish E (rs 158) Tryz.f158 : Ex → St → Option (Bool))) := by kernel_rfl
theorem esl15Has (k : Nat) (a0 : List Int) (a1 : Int) : Fsl15Has (k + 1) a0 a1 = Lsl15Has_0 k (fun (v0 : Int) (x1 : Int) => some true) (fun (v0 : Int) => some false) (a0, a1) k 0 := by
  rw [msl15Has_0]
  simp only [lsl15Has_0]
  kernel_rfl
noncomputable def FsMax (k : Nat) (a0 : Int) (a1 : Int) : Option (Int) := den E k 162 [cI a0, cI a1]
theorem esMax (k : Nat) (a0 : Int) (a1 : Int) : FsMax (k + 1) a0 a1 = if (decide (a1 > a0)) = true then some a1 else some a0 := by kernel_rfl
noncomputable def Fsl18Size (k : Nat) (a0 : List (List Int)) : Option (Int) := den E k 156 [.c (.l 30 (.l 3 (.i .i64)) a0)]
abbrev Csl18Size_0 : Type := (List (List Int))
abbrev Vsl18Size_0 : Type := Int × Int
def Stsl18Size_0 (c0 : Csl18Size_0) (v0 : Vsl18Size_0) : St := ⟨19, 0, [(0, .c (.l 30 (.l 3 (.i .i64)) c0)), (3, cI v0.1), (4, cI v0.2)], []⟩
noncomputable def Bsl18Size_0 {R : Type} (k : Nat) (X0 : Vsl18Size_0 → Option R) (c0 : Csl18Size_0) (rec : Vsl18Size_0 → Option R) (v0 : Vsl18Size_0) : Option R := if (decide (v0.2 < (c0.length : Int))) = true then if 0 ≤ v0.2 then ix c0 v0.2.toNat fun x1 => (FsMax k v0.1 (x1.length : Int)).bind fun p2 => rec (p2, (IntKind.i64.wrap (v0.2 + 1))) else none else X0 v0
noncomputable def Lsl18Size_0 {R : Type} (k : Nat) (X0 : Vsl18Size_0 → Option R) (c : Csl18Size_0) : Nat → Vsl18Size_0 → Option R
  | 0, _ => none
  | n + 1, v => Bsl18Size_0 k X0 c (Lsl18Size_0 k X0 c n) v
def Ysl18Size_0_0 {R : Type} (K : Ex → St → Option R) (c0 : Csl18Size_0) (v0 : Vsl18Size_0) : Option R := K (.exit 0) ⟨19, 0, [(0, .c (.l 30 (.l 3 (.i .i64)) c0)), (3, cI v0.1), (4, cI v0.2), (5, cI v0.2), (6, .c (.l 30 (.l 3 (.i .i64)) c0)), (7, cI (c0.length : Int)), (8, cB (decide (v0.2 < (c0.length : Int))))], []⟩
theorem lsl18Size_0 {R : Type} (k : Nat) (K : Ex → St → Option R) (c0 : Csl18Size_0) : ∀ (n : Nat) (v : Vsl18Size_0), loopRun [0, 0, 3, 4] (run E (den E k) (lv 156) k (nthLoop Tryz.f156 0)) n (Stsl18Size_0 c0 v) K = Lsl18Size_0 k (Ysl18Size_0_0 K c0) c0 n v := loop_law (B := Bsl18Size_0 k (Ysl18Size_0_0 K c0) c0) (fun _ => rfl) (fun n v => by kernel_rfl) (fun _ => rfl) (fun _ _ => rfl)
theorem msl18Size_0 (k : Nat) (a0 : List (List Int)) : Fsl18Size (k + 1) a0 = loopRun (R := Int) [0, 0, 3, 4] (run E (den E k) (lv 156) k (nthLoop Tryz.f156 0)) k (Stsl18Size_0 a0 (0, 0)) (kontAt E (den E k) (lv 156) k (bodyOf Tryz.f156) 0 [] (finish E (rs 156) Tryz.f156 : Ex → St → Option (Int))) := by kernel_rfl
theorem esl18Size (k : Nat) (a0 : List (List Int)) : Fsl18Size (k + 1) a0 = Lsl18Size_0 k (fun (v0 : I2) => some v0.1) a0 k (0, 0) := by
  rw [msl18Size_0]
  simp only [lsl18Size_0]
  kernel_rfl
noncomputable def Fsl18Steps (k : Nat) (a0 : List (List Int)) (a1 : Int) (a2 : Int) : Option (List Int) := den E k 157 [.c (.l 30 (.l 3 (.i .i64)) a0), cI a1, cI a2]
abbrev Csl18Steps_0 : Type := (List (List Int)) × Int × Int
abbrev Vsl18Steps_0 : Type := Int × (List Int)
def Stsl18Steps_0 (c0 : Csl18Steps_0) (v0 : Vsl18Steps_0) : St := ⟨58, 1, [(0, .c (.l 30 (.l 3 (.i .i64)) c0.1)), (1, cI c0.2.1), (2, cI c0.2.2), (7, .c (.ref 0)), (8, cI v0.1)], [(0, .arr 3 (.i .i64) v0.2)]⟩
noncomputable def Bsl18Steps_0 {R : Type} (k : Nat) (X0 : Vsl18Steps_0 → Option R) (c0 : Csl18Steps_0) (rec : Vsl18Steps_0 → Option R) (v0 : Vsl18Steps_0) : Option R := if (decide (v0.1 < (c0.1.length : Int))) = true then if 0 ≤ v0.1 then ix c0.1 v0.1.toNat fun x1 => if ((decide (c0.2.2 < (x1.length : Int))) == true) = true then if 0 ≤ v0.1 then ix c0.1 v0.1.toNat fun x2 => if 0 ≤ c0.2.2 then ix x2 c0.2.2.toNat fun x3 => (Fsl1In k x3 0 (IntKind.i64.wrap (c0.2.1 - 1))).bind fun p4 => if (p4 == true) = true then if 0 ≤ v0.1 then ix c0.1 v0.1.toNat fun x5 => if 0 ≤ c0.2.2 then ix x5 c0.2.2.toNat fun x6 => (Fsl15Has k v0.2 x6).bind fun p7 => if (!p7) = true then if 0 ≤ v0.1 then ix c0.1 v0.1.toNat fun x8 => if 0 ≤ c0.2.2 then ix x8 c0.2.2.toNat fun x9 => if (v0.2.length + ([x9]).length) * 8 ≤ 140737488355328 then rec ((IntKind.i64.wrap (v0.1 + 1)), (v0.2 ++ [x9])) else none else none else none else rec ((IntKind.i64.wrap (v0.1 + 1)), v0.2) else none else none else rec ((IntKind.i64.wrap (v0.1 + 1)), v0.2) else none else none else rec ((IntKind.i64.wrap (v0.1 + 1)), v0.2) else none else X0 v0
noncomputable def Lsl18Steps_0 {R : Type} (k : Nat) (X0 : Vsl18Steps_0 → Option R) (c : Csl18Steps_0) : Nat → Vsl18Steps_0 → Option R
  | 0, _ => none
  | n + 1, v => Bsl18Steps_0 k X0 c (Lsl18Steps_0 k X0 c n) v
def Ysl18Steps_0_0 {R : Type} (K : Ex → St → Option R) (c0 : Csl18Steps_0) (v0 : Vsl18Steps_0) : Option R := K (.exit 0) ⟨58, 1, [(0, .c (.l 30 (.l 3 (.i .i64)) c0.1)), (1, cI c0.2.1), (2, cI c0.2.2), (7, .c (.ref 0)), (8, cI v0.1), (10, cI v0.1), (11, .c (.l 30 (.l 3 (.i .i64)) c0.1)), (12, cI (c0.1.length : Int)), (13, cB (decide (v0.1 < (c0.1.length : Int))))], [(0, .arr 3 (.i .i64) v0.2)]⟩
theorem lsl18Steps_0 {R : Type} (k : Nat) (K : Ex → St → Option R) (c0 : Csl18Steps_0) : ∀ (n : Nat) (v : Vsl18Steps_0), loopRun [0, 0, 1, 2, 7, 8] (run E (den E k) (lv 157) k (nthLoop Tryz.f157 0)) n (Stsl18Steps_0 c0 v) K = Lsl18Steps_0 k (Ysl18Steps_0_0 K c0) c0 n v := loop_law (B := Bsl18Steps_0 k (Ysl18Steps_0_0 K c0) c0) (fun _ => rfl) (fun n v => by kernel_rfl) (fun _ => rfl) (fun _ _ => rfl)
theorem msl18Steps_0 (k : Nat) (a0 : List (List Int)) (a1 : Int) (a2 : Int) : Fsl18Steps (k + 1) a0 a1 a2 = loopRun (R := List Int) [0, 0, 1, 2, 7, 8] (run E (den E k) (lv 157) k (nthLoop Tryz.f157 0)) k (Stsl18Steps_0 (a0, a1, a2) (0, [])) (kontAt E (den E k) (lv 157) k (bodyOf Tryz.f157) 0 [] (finish E (rs 157) Tryz.f157 : Ex → St → Option (List Int))) := by kernel_rfl
theorem esl18Steps (k : Nat) (a0 : List (List Int)) (a1 : Int) (a2 : Int) : Fsl18Steps (k + 1) a0 a1 a2 = Lsl18Steps_0 k (fun (v0 : Int × (List Int)) => some v0.2) (a0, a1, a2) k (0, []) := by
  rw [msl18Steps_0]
  simp only [lsl18Steps_0]
  kernel_rfl
noncomputable def FsUnionHasLoop (k : Nat) (a0 : List (List Int)) : Option (Bool) := den E k 147 [.c (.l 30 (.l 3 (.i .i64)) a0)]
abbrev CsUnionHasLoop_2 : Type := (List (List Int)) × Int × Int × Int × (List Int)
abbrev VsUnionHasLoop_2 : Type := Int × (List Int)
def StsUnionHasLoop_2 (c2 : CsUnionHasLoop_2) (v2 : VsUnionHasLoop_2) : St := ⟨59, 2, [(0, .c (.l 30 (.l 3 (.i .i64)) c2.1)), (3, cI c2.2.1), (4, cI c2.2.2.1), (5, .c (.ref 0)), (6, cI c2.2.2.2.1), (7, .c (.ref 1)), (8, cI v2.1)], [(0, .arr 3 (.i .i64) v2.2), (1, .arr 3 (.i .i64) c2.2.2.2.2)]⟩
noncomputable def BsUnionHasLoop_2 {R : Type} (k : Nat) (X0 : VsUnionHasLoop_2 → Option R) (c2 : CsUnionHasLoop_2) (rec : VsUnionHasLoop_2 → Option R) (v2 : VsUnionHasLoop_2) : Option R := if (decide (v2.1 < (c2.2.2.2.2.length : Int))) = true then if 0 ≤ v2.1 then if v2.1 < (c2.2.2.2.2.length : Int) then ix c2.2.2.2.2 v2.1.toNat fun x6 => (Fsl15Has k v2.2 x6).bind fun p7 => if (!p7) = true then if 0 ≤ v2.1 then if v2.1 < (c2.2.2.2.2.length : Int) then ix c2.2.2.2.2 v2.1.toNat fun x8 => if (v2.2.length + ([x8]).length) * 8 ≤ 140737488355328 then rec ((IntKind.i64.wrap (v2.1 + 1)), (v2.2 ++ [x8])) else none else none else none else rec ((IntKind.i64.wrap (v2.1 + 1)), v2.2) else none else none else X0 v2
noncomputable def LsUnionHasLoop_2 {R : Type} (k : Nat) (X0 : VsUnionHasLoop_2 → Option R) (c : CsUnionHasLoop_2) : Nat → VsUnionHasLoop_2 → Option R
  | 0, _ => none
  | n + 1, v => BsUnionHasLoop_2 k X0 c (LsUnionHasLoop_2 k X0 c n) v
def YsUnionHasLoop_2_0 {R : Type} (K : Ex → St → Option R) (c2 : CsUnionHasLoop_2) (v2 : VsUnionHasLoop_2) : Option R := K (.exit 4) ⟨59, 2, [(0, .c (.l 30 (.l 3 (.i .i64)) c2.1)), (3, cI c2.2.1), (4, cI c2.2.2.1), (5, .c (.ref 0)), (6, cI c2.2.2.2.1), (7, .c (.ref 1)), (8, cI v2.1), (39, cI v2.1), (40, .c (.ref 1)), (41, cI (c2.2.2.2.2.length : Int)), (42, cB (decide (v2.1 < (c2.2.2.2.2.length : Int))))], [(0, .arr 3 (.i .i64) v2.2), (1, .arr 3 (.i .i64) c2.2.2.2.2)]⟩
theorem lsUnionHasLoop_2 {R : Type} (k : Nat) (K : Ex → St → Option R) (c2 : CsUnionHasLoop_2) : ∀ (n : Nat) (v : VsUnionHasLoop_2), loopRun [0, 0, 3, 4, 5, 6, 7, 8] (run E (den E k) (lv 147) k (nthLoop Tryz.f147 2)) n (StsUnionHasLoop_2 c2 v) K = LsUnionHasLoop_2 k (YsUnionHasLoop_2_0 K c2) c2 n v := loop_law (B := BsUnionHasLoop_2 k (YsUnionHasLoop_2_0 K c2) c2) (fun _ => rfl) (fun n v => by kernel_rfl) (fun _ => rfl) (fun _ _ => rfl)
abbrev CsUnionHasLoop_1 : Type := (List (List Int)) × Int × Int
abbrev VsUnionHasLoop_1 : Type := Int × (List Int)
def StsUnionHasLoop_1 (c1 : CsUnionHasLoop_1) (v1 : VsUnionHasLoop_1) : St := ⟨59, 1, [(0, .c (.l 30 (.l 3 (.i .i64)) c1.1)), (3, cI c1.2.1), (4, cI c1.2.2), (5, .c (.ref 0)), (6, cI v1.1)], [(0, .arr 3 (.i .i64) v1.2)]⟩
noncomputable def BsUnionHasLoop_1 {R : Type} (k : Nat) (X0 : VsUnionHasLoop_1 → Int → Option R) (X1 : VsUnionHasLoop_1 → Option R) (c1 : CsUnionHasLoop_1) (rec : VsUnionHasLoop_1 → Option R) (v1 : VsUnionHasLoop_1) : Option R := if (decide (v1.1 < (v1.2.length : Int))) = true then if 0 ≤ v1.1 then if v1.1 < (v1.2.length : Int) then ix v1.2 v1.1.toNat fun x3 => if (x3 == c1.2.2) = true then X0 v1 x3 else if 0 ≤ v1.1 then if v1.1 < (v1.2.length : Int) then ix v1.2 v1.1.toNat fun x4 => (Fsl18Steps k c1.1 c1.2.1 x4).bind fun p5 => LsUnionHasLoop_2 k (fun (v2 : Int × (List Int)) => rec ((IntKind.i64.wrap (v1.1 + 1)), v2.2)) (c1.1, c1.2.1, c1.2.2, v1.1, p5) k (0, v1.2) else none else none else none else none else X1 v1
noncomputable def LsUnionHasLoop_1 {R : Type} (k : Nat) (X0 : VsUnionHasLoop_1 → Int → Option R) (X1 : VsUnionHasLoop_1 → Option R) (c : CsUnionHasLoop_1) : Nat → VsUnionHasLoop_1 → Option R
  | 0, _ => none
  | n + 1, v => BsUnionHasLoop_1 k X0 X1 c (LsUnionHasLoop_1 k X0 X1 c n) v
def YsUnionHasLoop_1_0 {R : Type} (K : Ex → St → Option R) (c1 : CsUnionHasLoop_1) (v1 : VsUnionHasLoop_1) (x3 : Int) : Option R := K .ret ⟨59, 1, [(0, .c (.l 30 (.l 3 (.i .i64)) c1.1)), (2, cB true), (3, cI c1.2.1), (4, cI c1.2.2), (5, .c (.ref 0)), (6, cI v1.1), (20, cI v1.1), (21, .c (.ref 0)), (22, cI (v1.2.length : Int)), (23, cB (decide (v1.1 < (v1.2.length : Int)))), (26, .c (.ref 0)), (27, cI v1.1), (28, .c (.el 0 1 v1.1.toNat 0)), (29, cI x3), (30, cI c1.2.2), (31, cB (x3 == c1.2.2))], [(0, .arr 3 (.i .i64) v1.2)]⟩
def YsUnionHasLoop_1_1 {R : Type} (K : Ex → St → Option R) (c1 : CsUnionHasLoop_1) (v1 : VsUnionHasLoop_1) : Option R := K (.exit 2) ⟨59, 1, [(0, .c (.l 30 (.l 3 (.i .i64)) c1.1)), (3, cI c1.2.1), (4, cI c1.2.2), (5, .c (.ref 0)), (6, cI v1.1), (20, cI v1.1), (21, .c (.ref 0)), (22, cI (v1.2.length : Int)), (23, cB (decide (v1.1 < (v1.2.length : Int))))], [(0, .arr 3 (.i .i64) v1.2)]⟩
theorem bmsUnionHasLoop_1_0 {R : Type} (k n : Nat) (K : Ex → St → Option R) (c1 : CsUnionHasLoop_1) (v1 : VsUnionHasLoop_1) : loopRun [0, 0, 3, 4, 5, 6] (run E (den E k) (lv 147) k (nthLoop Tryz.f147 1)) (n + 1) (StsUnionHasLoop_1 c1 v1) K = if (decide (v1.1 < (v1.2.length : Int))) = true then if 0 ≤ v1.1 then if v1.1 < (v1.2.length : Int) then ix v1.2 v1.1.toNat fun x3 => if (x3 == c1.2.2) = true then K .ret ⟨59, 1, [(0, .c (.l 30 (.l 3 (.i .i64)) c1.1)), (2, cB true), (3, cI c1.2.1), (4, cI c1.2.2), (5, .c (.ref 0)), (6, cI v1.1), (20, cI v1.1), (21, .c (.ref 0)), (22, cI (v1.2.length : Int)), (23, cB (decide (v1.1 < (v1.2.length : Int)))), (26, .c (.ref 0)), (27, cI v1.1), (28, .c (.el 0 1 v1.1.toNat 0)), (29, cI x3), (30, cI c1.2.2), (31, cB (x3 == c1.2.2))], [(0, .arr 3 (.i .i64) v1.2)]⟩ else if 0 ≤ v1.1 then if v1.1 < (v1.2.length : Int) then ix v1.2 v1.1.toNat fun x4 => (Fsl18Steps k c1.1 c1.2.1 x4).bind fun p5 => loopRun [0, 0, 3, 4, 5, 6, 7, 8] (run E (den E k) (lv 147) k (nthLoop Tryz.f147 2)) k (StsUnionHasLoop_2 (c1.1, c1.2.1, c1.2.2, v1.1, p5) (0, v1.2)) (kontAt E (den E k) (lv 147) k (.loop (nthLoop Tryz.f147 1)) (2 - 1) [(n, [0, 0, 3, 4, 5, 6])] K) else none else none else none else none else K (.exit 2) ⟨59, 1, [(0, .c (.l 30 (.l 3 (.i .i64)) c1.1)), (3, cI c1.2.1), (4, cI c1.2.2), (5, .c (.ref 0)), (6, cI v1.1), (20, cI v1.1), (21, .c (.ref 0)), (22, cI (v1.2.length : Int)), (23, cB (decide (v1.1 < (v1.2.length : Int))))], [(0, .arr 3 (.i .i64) v1.2)]⟩ := by kernel_rfl
theorem bsUnionHasLoop_1 {R : Type} (k n : Nat) (K : Ex → St → Option R) (c1 : CsUnionHasLoop_1) (v : VsUnionHasLoop_1) : loopRun [0, 0, 3, 4, 5, 6] (run E (den E k) (lv 147) k (nthLoop Tryz.f147 1)) (n + 1) (StsUnionHasLoop_1 c1 v) K = BsUnionHasLoop_1 k (YsUnionHasLoop_1_0 K c1) (YsUnionHasLoop_1_1 K c1) c1 (fun v => loopRun [0, 0, 3, 4, 5, 6] (run E (den E k) (lv 147) k (nthLoop Tryz.f147 1)) n (StsUnionHasLoop_1 c1 v) K) v := by
  rw [bmsUnionHasLoop_1_0]
  simp only [lsUnionHasLoop_2]
  kernel_rfl
theorem lsUnionHasLoop_1 {R : Type} (k : Nat) (K : Ex → St → Option R) (c1 : CsUnionHasLoop_1) : ∀ (n : Nat) (v : VsUnionHasLoop_1), loopRun [0, 0, 3, 4, 5, 6] (run E (den E k) (lv 147) k (nthLoop Tryz.f147 1)) n (StsUnionHasLoop_1 c1 v) K = LsUnionHasLoop_1 k (YsUnionHasLoop_1_0 K c1) (YsUnionHasLoop_1_1 K c1) c1 n v := loop_law (B := BsUnionHasLoop_1 k (YsUnionHasLoop_1_0 K c1) (YsUnionHasLoop_1_1 K c1) c1) (fun _ => rfl) (fun n v => bsUnionHasLoop_1 k n K c1 v) (fun _ => rfl) (fun _ _ => rfl)
abbrev CsUnionHasLoop_0 : Type := (List (List Int)) × Int
abbrev VsUnionHasLoop_0 : Type := Int
def StsUnionHasLoop_0 (c0 : CsUnionHasLoop_0) (v0 : VsUnionHasLoop_0) : St := ⟨59, 0, [(0, .c (.l 30 (.l 3 (.i .i64)) c0.1)), (3, cI c0.2), (4, cI v0)], []⟩
noncomputable def BsUnionHasLoop_0 {R : Type} (k : Nat) (X0 : VsUnionHasLoop_0 → (List Int) → (Int × (List Int)) → Int → Option R) (X1 : VsUnionHasLoop_0 → Option R) (c0 : CsUnionHasLoop_0) (rec : VsUnionHasLoop_0 → Option R) (v0 : VsUnionHasLoop_0) : Option R := if (decide (v0 < c0.2)) = true then (Fsl18Steps k c0.1 c0.2 v0).bind fun p2 => LsUnionHasLoop_1 k (fun (v1 : Int × (List Int)) (x3 : Int) => X0 v0 p2 v1 x3) (fun (v1 : Int × (List Int)) => rec (IntKind.i64.wrap (v0 + 1))) (c0.1, c0.2, v0) k (0, p2) else X1 v0
noncomputable def LsUnionHasLoop_0 {R : Type} (k : Nat) (X0 : VsUnionHasLoop_0 → (List Int) → (Int × (List Int)) → Int → Option R) (X1 : VsUnionHasLoop_0 → Option R) (c : CsUnionHasLoop_0) : Nat → VsUnionHasLoop_0 → Option R
  | 0, _ => none
  | n + 1, v => BsUnionHasLoop_0 k X0 X1 c (LsUnionHasLoop_0 k X0 X1 c n) v
def YsUnionHasLoop_0_0 {R : Type} (K : Ex → St → Option R) (c0 : CsUnionHasLoop_0) (v0 : VsUnionHasLoop_0) (p2 : List Int) (v1 : Int × (List Int)) (x3 : Int) : Option R := K .ret ⟨59, 1, [(0, .c (.l 30 (.l 3 (.i .i64)) c0.1)), (2, cB true), (3, cI c0.2), (4, cI v0), (5, .c (.ref 0)), (6, cI v1.1), (20, cI v1.1), (21, .c (.ref 0)), (22, cI (v1.2.length : Int)), (23, cB (decide (v1.1 < (v1.2.length : Int)))), (26, .c (.ref 0)), (27, cI v1.1), (28, .c (.el 0 1 v1.1.toNat 0)), (29, cI x3), (30, cI v0), (31, cB (x3 == v0))], [(0, .arr 3 (.i .i64) v1.2)]⟩
def YsUnionHasLoop_0_1 {R : Type} (K : Ex → St → Option R) (c0 : CsUnionHasLoop_0) (v0 : VsUnionHasLoop_0) : Option R := K (.exit 0) ⟨59, 0, [(0, .c (.l 30 (.l 3 (.i .i64)) c0.1)), (3, cI c0.2), (4, cI v0), (11, cI v0), (12, cI c0.2), (13, cB (decide (v0 < c0.2)))], []⟩
theorem bmsUnionHasLoop_0_0 {R : Type} (k n : Nat) (K : Ex → St → Option R) (c0 : CsUnionHasLoop_0) (v0 : VsUnionHasLoop_0) : loopRun [0, 0, 3, 4] (run E (den E k) (lv 147) k (nthLoop Tryz.f147 0)) (n + 1) (StsUnionHasLoop_0 c0 v0) K = if (decide (v0 < c0.2)) = true then (Fsl18Steps k c0.1 c0.2 v0).bind fun p2 => loopRun [0, 0, 3, 4, 5, 6] (run E (den E k) (lv 147) k (nthLoop Tryz.f147 1)) k (StsUnionHasLoop_1 (c0.1, c0.2, v0) (0, p2)) (kontAt E (den E k) (lv 147) k (.loop (nthLoop Tryz.f147 0)) (1 - 0) [(n, [0, 0, 3, 4])] K) else K (.exit 0) ⟨59, 0, [(0, .c (.l 30 (.l 3 (.i .i64)) c0.1)), (3, cI c0.2), (4, cI v0), (11, cI v0), (12, cI c0.2), (13, cB (decide (v0 < c0.2)))], []⟩ := by kernel_rfl
theorem bsUnionHasLoop_0 {R : Type} (k n : Nat) (K : Ex → St → Option R) (c0 : CsUnionHasLoop_0) (v : VsUnionHasLoop_0) : loopRun [0, 0, 3, 4] (run E (den E k) (lv 147) k (nthLoop Tryz.f147 0)) (n + 1) (StsUnionHasLoop_0 c0 v) K = BsUnionHasLoop_0 k (YsUnionHasLoop_0_0 K c0) (YsUnionHasLoop_0_1 K c0) c0 (fun v => loopRun [0, 0, 3, 4] (run E (den E k) (lv 147) k (nthLoop Tryz.f147 0)) n (StsUnionHasLoop_0 c0 v) K) v := by
  rw [bmsUnionHasLoop_0_0]
  simp only [lsUnionHasLoop_1]
  kernel_rfl
theorem lsUnionHasLoop_0 {R : Type} (k : Nat) (K : Ex → St → Option R) (c0 : CsUnionHasLoop_0) : ∀ (n : Nat) (v : VsUnionHasLoop_0), loopRun [0, 0, 3, 4] (run E (den E k) (lv 147) k (nthLoop Tryz.f147 0)) n (StsUnionHasLoop_0 c0 v) K = LsUnionHasLoop_0 k (YsUnionHasLoop_0_0 K c0) (YsUnionHasLoop_0_1 K c0) c0 n v := loop_law (B := BsUnionHasLoop_0 k (YsUnionHasLoop_0_0 K c0) (YsUnionHasLoop_0_1 K c0) c0) (fun _ => rfl) (fun n v => bsUnionHasLoop_0 k n K c0 v) (fun _ => rfl) (fun _ _ => rfl)
theorem msUnionHasLoop_0 (k : Nat) (a0 : List (List Int)) : FsUnionHasLoop (k + 1) a0 = (Fsl18Size k a0).bind fun p1 => loopRun (R := Bool) [0, 0, 3, 4] (run E (den E k) (lv 147) k (nthLoop Tryz.f147 0)) k (StsUnionHasLoop_0 (a0, p1) 0) (kontAt E (den E k) (lv 147) k (bodyOf Tryz.f147) 0 [] (finish E (rs 147) Tryz.f147 : Ex → St → Option (Bool))) := by kernel_rfl
theorem esUnionHasLoop (k : Nat) (a0 : List (List Int)) : FsUnionHasLoop (k + 1) a0 = (Fsl18Size k a0).bind fun p1 => LsUnionHasLoop_0 k (fun (v0 : Int) (p2 : List Int) (v1 : Int × (List Int)) (x3 : Int) => some true) (fun (v0 : Int) => some false) (a0, p1) k 0 := by
  rw [msUnionHasLoop_0]
  simp only [lsUnionHasLoop_0]
  kernel_rfl
noncomputable def FsIsSafeMix (k : Nat) (a0 : TProgram) (a1 : Int) (a2 : Int) (a3 : Int) : Option (Bool) := den E k 131 [.agg [vI a0.1, vI a0.2.1, vI a0.2.2.1, .l 109 sPiece a0.2.2.2], cI a1, cI a2, cI a3]
abbrev CsIsSafeMix_0 : Type := Int × TProgram × (List Int)
abbrev VsIsSafeMix_0 : Type := Int × (List (List Int))
def StsIsSafeMix_0 (c0 : CsIsSafeMix_0) (v0 : VsIsSafeMix_0) : St := ⟨44, 3, [(1, cI c0.1), (4, cP 0), (9, .c (.ref 1)), (10, .c (.ref 2)), (11, cI v0.1)], [(0, .var [vI c0.2.1.1, vI c0.2.1.2.1, vI c0.2.1.2.2.1, .l 109 sPiece c0.2.1.2.2.2]), (1, .arr 30 (.l 3 (.i .i64)) v0.2), (2, .arr 3 (.i .i64) c0.2.2)]⟩
noncomputable def BsIsSafeMix_0 {R : Type} (k : Nat) (X0 : VsIsSafeMix_0 → Option R) (c0 : CsIsSafeMix_0) (rec : VsIsSafeMix_0 → Option R) (v0 : VsIsSafeMix_0) : Option R := if (decide (v0.1 < (c0.2.2.length : Int))) = true then if 0 ≤ v0.1 then if v0.1 < (c0.2.2.length : Int) then ix c0.2.2 v0.1.toNat fun x2 => (FsTableIn k c0.2.1 x2 c0.1).bind fun p3 => if p3.2 = true then if (v0.2.length + ([p3.1.2.2]).length) * 24 ≤ 140737488355328 then rec ((IntKind.i64.wrap (v0.1 + 1)), (v0.2 ++ [p3.1.2.2])) else none else rec ((IntKind.i64.wrap (v0.1 + 1)), v0.2) else none else none else X0 v0
noncomputable def LsIsSafeMix_0 {R : Type} (k : Nat) (X0 : VsIsSafeMix_0 → Option R) (c : CsIsSafeMix_0) : Nat → VsIsSafeMix_0 → Option R
  | 0, _ => none
  | n + 1, v => BsIsSafeMix_0 k X0 c (LsIsSafeMix_0 k X0 c n) v
def YsIsSafeMix_0_0 {R : Type} (K : Ex → St → Option R) (c0 : CsIsSafeMix_0) (v0 : VsIsSafeMix_0) : Option R := K (.exit 0) ⟨44, 3, [(1, cI c0.1), (4, cP 0), (9, .c (.ref 1)), (10, .c (.ref 2)), (11, cI v0.1), (19, cI v0.1), (20, .c (.ref 2)), (21, cI (c0.2.2.length : Int)), (22, cB (decide (v0.1 < (c0.2.2.length : Int))))], [(0, .var [vI c0.2.1.1, vI c0.2.1.2.1, vI c0.2.1.2.2.1, .l 109 sPiece c0.2.1.2.2.2]), (1, .arr 30 (.l 3 (.i .i64)) v0.2), (2, .arr 3 (.i .i64) c0.2.2)]⟩
theorem lsIsSafeMix_0 {R : Type} (k : Nat) (K : Ex → St → Option R) (c0 : CsIsSafeMix_0) : ∀ (n : Nat) (v : VsIsSafeMix_0), loopRun [0, 1, 4, 9, 10, 11] (run E (den E k) (lv 131) k (nthLoop Tryz.f131 0)) n (StsIsSafeMix_0 c0 v) K = LsIsSafeMix_0 k (YsIsSafeMix_0_0 K c0) c0 n v := loop_law (B := BsIsSafeMix_0 k (YsIsSafeMix_0_0 K c0) c0) (fun _ => rfl) (fun n v => by kernel_rfl) (fun _ => rfl) (fun _ _ => rfl)
theorem msIsSafeMix_0 (k : Nat) (a0 : TProgram) (a1 : Int) (a2 : Int) (a3 : Int) : FsIsSafeMix (k + 1) a0 a1 a2 a3 = (FsPiecesIn k a0 a2 a3).bind fun p1 => loopRun (R := Bool) [0, 1, 4, 9, 10, 11] (run E (den E k) (lv 131) k (nthLoop Tryz.f131 0)) k (StsIsSafeMix_0 (a1, a0, p1) (0, [])) (kontAt E (den E k) (lv 131) k (bodyOf Tryz.f131) 0 [] (finish E (rs 131) Tryz.f131 : Ex → St → Option (Bool))) := by kernel_rfl
theorem esIsSafeMix (k : Nat) (a0 : TProgram) (a1 : Int) (a2 : Int) (a3 : Int) : FsIsSafeMix (k + 1) a0 a1 a2 a3 = (FsPiecesIn k a0 a2 a3).bind fun p1 => LsIsSafeMix_0 k (fun (v0 : Int × (List (List Int))) => (FsUnionHasLoop k v0.2).bind fun p2 => some (!p2)) (a1, a0, p1) k (0, []) := by
  rw [msIsSafeMix_0]
  simp only [lsIsSafeMix_0]
  kernel_rfl
noncomputable def FsInSpan (k : Nat) (a0 : I2) (a1 : Int) : Option (Bool) := den E k 159 [.agg [vI a0.1, vI a0.2], cI a1]
theorem esInSpan (k : Nat) (a0 : I2) (a1 : Int) : FsInSpan (k + 1) a0 a1 = (FsIsSpan k a0).bind fun p1 => if (p1 == true) = true then if ((decide (a0.1 ≤ a1)) == true) = true then some (decide (a1 < a0.2)) else some false else some false := by kernel_rfl
noncomputable def FsPieceAt (k : Nat) (a0 : TProgram) (a1 : Int) : Option (Int) := den E k 148 [.agg [vI a0.1, vI a0.2.1, vI a0.2.2.1, .l 109 sPiece a0.2.2.2], cI a1]
abbrev CsPieceAt_0 : Type := Int × TProgram
abbrev VsPieceAt_0 : Type := Int
def StsPieceAt_0 (c0 : CsPieceAt_0) (v0 : VsPieceAt_0) : St := ⟨22, 1, [(1, cI c0.1), (2, cP 0), (5, cI v0)], [(0, .var [vI c0.2.1, vI c0.2.2.1, vI c0.2.2.2.1, .l 109 sPiece c0.2.2.2.2])]⟩
noncomputable def BsPieceAt_0 {R : Type} (k : Nat) (X0 : VsPieceAt_0 → TPiece → Bool → Option R) (X1 : VsPieceAt_0 → Option R) (c0 : CsPieceAt_0) (rec : VsPieceAt_0 → Option R) (v0 : VsPieceAt_0) : Option R := if (decide (v0 < (c0.2.2.2.2.length : Int))) = true then if 0 ≤ v0 then ix c0.2.2.2.2 v0.toNat fun x1 => (FsInSpan k x1.1 c0.1).bind fun p2 => if p2 = true then X0 v0 x1 p2 else rec (IntKind.i64.wrap (v0 + 1)) else none else X1 v0
noncomputable def LsPieceAt_0 {R : Type} (k : Nat) (X0 : VsPieceAt_0 → TPiece → Bool → Option R) (X1 : VsPieceAt_0 → Option R) (c : CsPieceAt_0) : Nat → VsPieceAt_0 → Option R
  | 0, _ => none
  | n + 1, v => BsPieceAt_0 k X0 X1 c (LsPieceAt_0 k X0 X1 c n) v
def YsPieceAt_0_0 {R : Type} (K : Ex → St → Option R) (c0 : CsPieceAt_0) (v0 : VsPieceAt_0) (x1 : TPiece) (p2 : Bool) : Option R := K .ret ⟨22, 1, [(1, cI c0.1), (2, cP 0), (4, cI v0), (5, cI v0), (6, cI v0), (7, .c (.ptr 0 3)), (8, .c (.l 109 sPiece c0.2.2.2.2)), (9, cI (c0.2.2.2.2.length : Int)), (10, cB (decide (v0 < (c0.2.2.2.2.length : Int)))), (13, .c (.ptr 0 3)), (14, .c (.l 109 sPiece c0.2.2.2.2)), (15, cI v0), (16, .c (.at_ [vI x1.1.1, vI x1.1.2, .l 112 sI2 x1.2.1, .l 115 sTable x1.2.2])), (17, .c (.at_ [vI x1.1.1, vI x1.1.2, .l 112 sI2 x1.2.1, .l 115 sTable x1.2.2])), (18, .agg [vI x1.1.1, vI x1.1.2]), (19, cI c0.1), (20, cB p2), (21, cI v0)], [(0, .var [vI c0.2.1, vI c0.2.2.1, vI c0.2.2.2.1, .l 109 sPiece c0.2.2.2.2])]⟩
def YsPieceAt_0_1 {R : Type} (K : Ex → St → Option R) (c0 : CsPieceAt_0) (v0 : VsPieceAt_0) : Option R := K (.exit 0) ⟨22, 1, [(1, cI c0.1), (2, cP 0), (5, cI v0), (6, cI v0), (7, .c (.ptr 0 3)), (8, .c (.l 109 sPiece c0.2.2.2.2)), (9, cI (c0.2.2.2.2.length : Int)), (10, cB (decide (v0 < (c0.2.2.2.2.length : Int))))], [(0, .var [vI c0.2.1, vI c0.2.2.1, vI c0.2.2.2.1, .l 109 sPiece c0.2.2.2.2])]⟩
theorem lsPieceAt_0 {R : Type} (k : Nat) (K : Ex → St → Option R) (c0 : CsPieceAt_0) : ∀ (n : Nat) (v : VsPieceAt_0), loopRun [0, 1, 2, 5] (run E (den E k) (lv 148) k (nthLoop Tryz.f148 0)) n (StsPieceAt_0 c0 v) K = LsPieceAt_0 k (YsPieceAt_0_0 K c0) (YsPieceAt_0_1 K c0) c0 n v := loop_law (B := BsPieceAt_0 k (YsPieceAt_0_0 K c0) (YsPieceAt_0_1 K c0) c0) (fun _ => rfl) (fun n v => by kernel_rfl) (fun _ => rfl) (fun _ _ => rfl)
theorem msPieceAt_0 (k : Nat) (a0 : TProgram) (a1 : Int) : FsPieceAt (k + 1) a0 a1 = loopRun (R := Int) [0, 1, 2, 5] (run E (den E k) (lv 148) k (nthLoop Tryz.f148 0)) k (StsPieceAt_0 (a1, a0) 0) (kontAt E (den E k) (lv 148) k (bodyOf Tryz.f148) 0 [] (finish E (rs 148) Tryz.f148 : Ex → St → Option (Int))) := by kernel_rfl
theorem esPieceAt (k : Nat) (a0 : TProgram) (a1 : Int) : FsPieceAt (k + 1) a0 a1 = LsPieceAt_0 k (fun (v0 : Int) (x1 : TPiece) (p2 : Bool) => some v0) (fun (v0 : Int) => some (-1)) (a1, a0) k 0 := by
  rw [msPieceAt_0]
  simp only [lsPieceAt_0]
  kernel_rfl
noncomputable def Fsl19Next (k : Nat) (a0 : TProgram) (a1 : Int) (a2 : Int) (a3 : Int) : Option (Int) := den E k 132 [.agg [vI a0.1, vI a0.2.1, vI a0.2.2.1, .l 109 sPiece a0.2.2.2], cI a1, cI a2, cI a3]
theorem esl19Next (k : Nat) (a0 : TProgram) (a1 : Int) (a2 : Int) (a3 : Int) : Fsl19Next (k + 1) a0 a1 a2 a3 = (FsPieceAt k a0 a3).bind fun p1 => (FsTableIn k a0 p1 a2).bind fun p2 => if ((!p2.2) == false) = true then (Fsl1In k a1 0 (IntKind.i64.wrap ((p2.1.2.2.length : Int) - 1))).bind fun p3 => if (!p3) = true then some (-1) else if 0 ≤ a1 then if a1 < (p2.1.2.2.length : Int) then ix p2.1.2.2 a1.toNat fun x4 => some x4 else none else none else some (-1) := by kernel_rfl
noncomputable def FsHopAt (k : Nat) (a0 : TProgram) (a1 : Int) (a2 : Int) (a3 : Int) : Option (Int) := den E k 117 [.agg [vI a0.1, vI a0.2.1, vI a0.2.2.1, .l 109 sPiece a0.2.2.2], cI a1, cI a2, cI a3]
theorem esHopAt (k : Nat) (a0 : TProgram) (a1 : Int) (a2 : Int) (a3 : Int) : FsHopAt (k + 1) a0 a1 a2 a3 = (Fsl1In k a0.2.2.1 0 5).bind fun p1 => if ((!p1) == false) = true then (Fsl1In k a3 0 1000).bind fun p2 => if ((!p2) == false) = true then (FsIsSafeMix k a0 a2 (IntKind.i64.wrap (a3 - (IntKind.i64.wrap (2 * a0.2.2.1)))) (IntKind.i64.wrap (a3 + (IntKind.i64.wrap (2 * a0.2.2.1))))).bind fun p3 => if (!p3) = true then some (-1) else (Fsl19Next k a0 a1 a2 a3).bind fun p4 => some p4 else some (-1) else some (-1) := by kernel_rfl
noncomputable def FsNextsAt (k : Nat) (a0 : TProgram) (a1 : Int) (a2 : Int) (a3 : List Int) : Option (List Int) := den E k 103 [.agg [vI a0.1, vI a0.2.1, vI a0.2.2.1, .l 109 sPiece a0.2.2.2], cI a1, cI a2, .c (.l 3 (.i .i64) a3)]
abbrev CsNextsAt_0 : Type := Int × Int × (List Int) × TProgram
abbrev VsNextsAt_0 : Type := Int × (List Int)
def StsNextsAt_0 (c0 : CsNextsAt_0) (v0 : VsNextsAt_0) : St := ⟨42, 2, [(1, cI c0.1), (2, cI c0.2.1), (3, .c (.l 3 (.i .i64) c0.2.2.1)), (4, cP 0), (9, .c (.ref 1)), (10, cI v0.1)], [(0, .var [vI c0.2.2.2.1, vI c0.2.2.2.2.1, vI c0.2.2.2.2.2.1, .l 109 sPiece c0.2.2.2.2.2.2]), (1, .arr 3 (.i .i64) v0.2)]⟩
noncomputable def BsNextsAt_0 {R : Type} (k : Nat) (X0 : VsNextsAt_0 → Option R) (c0 : CsNextsAt_0) (rec : VsNextsAt_0 → Option R) (v0 : VsNextsAt_0) : Option R := if (decide (v0.1 < (c0.2.2.1.length : Int))) = true then if 0 ≤ v0.1 then ix c0.2.2.1 v0.1.toNat fun x3 => (FsHopAt k c0.2.2.2 v0.1 c0.1 (IntKind.i64.wrap (c0.2.1 + x3))).bind fun p4 => if (v0.2.length + ([p4]).length) * 8 ≤ 140737488355328 then rec ((IntKind.i64.wrap (v0.1 + 1)), (v0.2 ++ [p4])) else none else none else X0 v0
noncomputable def LsNextsAt_0 {R : Type} (k : Nat) (X0 : VsNextsAt_0 → Option R) (c : CsNextsAt_0) : Nat → VsNextsAt_0 → Option R
  | 0, _ => none
  | n + 1, v => BsNextsAt_0 k X0 c (LsNextsAt_0 k X0 c n) v
def YsNextsAt_0_0 {R : Type} (K : Ex → St → Option R) (c0 : CsNextsAt_0) (v0 : VsNextsAt_0) : Option R := K (.exit 0) ⟨42, 2, [(1, cI c0.1), (2, cI c0.2.1), (3, .c (.l 3 (.i .i64) c0.2.2.1)), (4, cP 0), (9, .c (.ref 1)), (10, cI v0.1), (22, cI v0.1), (23, .c (.l 3 (.i .i64) c0.2.2.1)), (24, cI (c0.2.2.1.length : Int)), (25, cB (decide (v0.1 < (c0.2.2.1.length : Int))))], [(0, .var [vI c0.2.2.2.1, vI c0.2.2.2.2.1, vI c0.2.2.2.2.2.1, .l 109 sPiece c0.2.2.2.2.2.2]), (1, .arr 3 (.i .i64) v0.2)]⟩
theorem lsNextsAt_0 {R : Type} (k : Nat) (K : Ex → St → Option R) (c0 : CsNextsAt_0) : ∀ (n : Nat) (v : VsNextsAt_0), loopRun [0, 1, 2, 3, 4, 9, 10] (run E (den E k) (lv 103) k (nthLoop Tryz.f103 0)) n (StsNextsAt_0 c0 v) K = LsNextsAt_0 k (YsNextsAt_0_0 K c0) c0 n v := loop_law (B := BsNextsAt_0 k (YsNextsAt_0_0 K c0) c0) (fun _ => rfl) (fun n v => by kernel_rfl) (fun _ => rfl) (fun _ _ => rfl)
theorem msNextsAt_0 (k : Nat) (a0 : TProgram) (a1 : Int) (a2 : Int) (a3 : List Int) : FsNextsAt (k + 1) a0 a1 a2 a3 = (FsAreOffsets k a0 a3).bind fun p1 => if ((!p1) == false) = true then (Fsl1In k a2 0 1000).bind fun p2 => if (!p2) = true then some ([]) else loopRun (R := List Int) [0, 1, 2, 3, 4, 9, 10] (run E (den E k) (lv 103) k (nthLoop Tryz.f103 0)) k (StsNextsAt_0 (a1, a2, a3, a0) (0, [])) (kontAt E (den E k) (lv 103) k (bodyOf Tryz.f103) 0 [] (finish E (rs 103) Tryz.f103 : Ex → St → Option (List Int))) else some ([]) := by kernel_rfl
theorem esNextsAt (k : Nat) (a0 : TProgram) (a1 : Int) (a2 : Int) (a3 : List Int) : FsNextsAt (k + 1) a0 a1 a2 a3 = (FsAreOffsets k a0 a3).bind fun p1 => if ((!p1) == false) = true then (Fsl1In k a2 0 1000).bind fun p2 => if (!p2) = true then some ([]) else LsNextsAt_0 k (fun (v0 : Int × (List Int)) => some v0.2) (a1, a2, a3, a0) k (0, []) else some ([]) := by
  rw [msNextsAt_0]
  simp only [lsNextsAt_0]
  kernel_rfl
noncomputable def FsAnyLoopAt (k : Nat) (a0 : TProgram) (a1 : Int) (a2 : List Int) : Option (Bool) := den E k 69 [.agg [vI a0.1, vI a0.2.1, vI a0.2.2.1, .l 109 sPiece a0.2.2.2], cI a1, .c (.l 3 (.i .i64) a2)]
abbrev CsAnyLoopAt_0 : Type := Int × (List Int) × TProgram
abbrev VsAnyLoopAt_0 : Type := Int
def StsAnyLoopAt_0 (c0 : CsAnyLoopAt_0) (v0 : VsAnyLoopAt_0) : St := ⟨21, 1, [(1, cI c0.1), (2, .c (.l 3 (.i .i64) c0.2.1)), (3, cP 0), (7, cI v0)], [(0, .var [vI c0.2.2.1, vI c0.2.2.2.1, vI c0.2.2.2.2.1, .l 109 sPiece c0.2.2.2.2.2])]⟩
noncomputable def BsAnyLoopAt_0 {R : Type} (k : Nat) (X0 : VsAnyLoopAt_0 → Int → (List Int) → Bool → Option R) (X1 : VsAnyLoopAt_0 → Int → Option R) (c0 : CsAnyLoopAt_0) (rec : VsAnyLoopAt_0 → Option R) (v0 : VsAnyLoopAt_0) : Option R := (FsMin k c0.2.2.1 12).bind fun p1 => if (decide (v0 < p1)) = true then (FsNextsAt k c0.2.2 v0 c0.1 c0.2.1).bind fun p2 => (FsHasLoop k p2).bind fun p3 => if p3 = true then X0 v0 p1 p2 p3 else rec (IntKind.i64.wrap (v0 + 1)) else X1 v0 p1
noncomputable def LsAnyLoopAt_0 {R : Type} (k : Nat) (X0 : VsAnyLoopAt_0 → Int → (List Int) → Bool → Option R) (X1 : VsAnyLoopAt_0 → Int → Option R) (c : CsAnyLoopAt_0) : Nat → VsAnyLoopAt_0 → Option R
  | 0, _ => none
  | n + 1, v => BsAnyLoopAt_0 k X0 X1 c (LsAnyLoopAt_0 k X0 X1 c n) v
def YsAnyLoopAt_0_0 {R : Type} (K : Ex → St → Option R) (c0 : CsAnyLoopAt_0) (v0 : VsAnyLoopAt_0) (p1 : Int) (p2 : List Int) (p3 : Bool) : Option R := K .ret ⟨21, 2, [(1, cI c0.1), (2, .c (.l 3 (.i .i64) c0.2.1)), (3, cP 0), (6, cB true), (7, cI v0), (8, cI v0), (9, cP 0), (10, cI c0.2.2.1), (11, cI p1), (12, cB (decide (v0 < p1))), (15, .agg [vI c0.2.2.1, vI c0.2.2.2.1, vI c0.2.2.2.2.1, .l 109 sPiece c0.2.2.2.2.2]), (16, cI v0), (17, cI c0.1), (18, .c (.l 3 (.i .i64) c0.2.1)), (19, .c (.ref 1)), (20, cB p3)], [(0, .var [vI c0.2.2.1, vI c0.2.2.2.1, vI c0.2.2.2.2.1, .l 109 sPiece c0.2.2.2.2.2]), (1, .arr 3 (.i .i64) p2)]⟩
def YsAnyLoopAt_0_1 {R : Type} (K : Ex → St → Option R) (c0 : CsAnyLoopAt_0) (v0 : VsAnyLoopAt_0) (p1 : Int) : Option R := K (.exit 0) ⟨21, 1, [(1, cI c0.1), (2, .c (.l 3 (.i .i64) c0.2.1)), (3, cP 0), (7, cI v0), (8, cI v0), (9, cP 0), (10, cI c0.2.2.1), (11, cI p1), (12, cB (decide (v0 < p1)))], [(0, .var [vI c0.2.2.1, vI c0.2.2.2.1, vI c0.2.2.2.2.1, .l 109 sPiece c0.2.2.2.2.2])]⟩
theorem lsAnyLoopAt_0 {R : Type} (k : Nat) (K : Ex → St → Option R) (c0 : CsAnyLoopAt_0) : ∀ (n : Nat) (v : VsAnyLoopAt_0), loopRun [0, 1, 2, 3, 7] (run E (den E k) (lv 69) k (nthLoop Tryz.f69 0)) n (StsAnyLoopAt_0 c0 v) K = LsAnyLoopAt_0 k (YsAnyLoopAt_0_0 K c0) (YsAnyLoopAt_0_1 K c0) c0 n v := loop_law (B := BsAnyLoopAt_0 k (YsAnyLoopAt_0_0 K c0) (YsAnyLoopAt_0_1 K c0) c0) (fun _ => rfl) (fun n v => by kernel_rfl) (fun _ => rfl) (fun _ _ => rfl)
theorem msAnyLoopAt_0 (k : Nat) (a0 : TProgram) (a1 : Int) (a2 : List Int) : FsAnyLoopAt (k + 1) a0 a1 a2 = loopRun (R := Bool) [0, 1, 2, 3, 7] (run E (den E k) (lv 69) k (nthLoop Tryz.f69 0)) k (StsAnyLoopAt_0 (a1, a2, a0) 0) (kontAt E (den E k) (lv 69) k (bodyOf Tryz.f69) 0 [] (finish E (rs 69) Tryz.f69 : Ex → St → Option (Bool))) := by kernel_rfl
theorem esAnyLoopAt (k : Nat) (a0 : TProgram) (a1 : Int) (a2 : List Int) : FsAnyLoopAt (k + 1) a0 a1 a2 = LsAnyLoopAt_0 k (fun (v0 : Int) (p1 : Int) (p2 : List Int) (p3 : Bool) => some true) (fun (v0 : Int) (p1 : Int) => some false) (a1, a2, a0) k 0 := by
  rw [msAnyLoopAt_0]
  simp only [lsAnyLoopAt_0]
  kernel_rfl
noncomputable def FsIsLoopFree (k : Nat) (a0 : TWorld) : Option (Bool) := den E k 10 [.agg [vI a0.1.1, .l 94 sI4 a0.1.2.1, .l 97 sI3 a0.1.2.2.1, vI a0.1.2.2.2.1, vI a0.1.2.2.2.2.1, vI a0.1.2.2.2.2.2.1, vI a0.1.2.2.2.2.2.2.1, vI a0.1.2.2.2.2.2.2.2.1, .l 102 sZone a0.1.2.2.2.2.2.2.2.2.1, vI a0.1.2.2.2.2.2.2.2.2.2, vI a0.2.1.1, vI a0.2.1.2.1, vI a0.2.1.2.2.1, .l 109 sPiece a0.2.1.2.2.2, .l 3 (.i .i64) a0.2.2.1, .l 3 (.i .i64) a0.2.2.2.1, .l 126 sI6 a0.2.2.2.2.1, .l 120 sQueue a0.2.2.2.2.2.1, .l 129 sI4 a0.2.2.2.2.2.2.1, .l 3 (.i .i64) a0.2.2.2.2.2.2.2.1, .l 132 sStream a0.2.2.2.2.2.2.2.2.1, .l 136 sI4 a0.2.2.2.2.2.2.2.2.2.1, vI a0.2.2.2.2.2.2.2.2.2.2.1, vI a0.2.2.2.2.2.2.2.2.2.2.2.1, .l 122 sI6 a0.2.2.2.2.2.2.2.2.2.2.2.2.1, .l 139 sI4 a0.2.2.2.2.2.2.2.2.2.2.2.2.2]]
abbrev CsIsLoopFree_0 : Type := TWorld
abbrev VsIsLoopFree_0 : Type := Int
def StsIsLoopFree_0 (c0 : CsIsLoopFree_0) (v0 : VsIsLoopFree_0) : St := ⟨17, 1, [(1, cP 0), (3, cI v0)], [(0, .var [vI c0.1.1, .l 94 sI4 c0.1.2.1, .l 97 sI3 c0.1.2.2.1, vI c0.1.2.2.2.1, vI c0.1.2.2.2.2.1, vI c0.1.2.2.2.2.2.1, vI c0.1.2.2.2.2.2.2.1, vI c0.1.2.2.2.2.2.2.2.1, .l 102 sZone c0.1.2.2.2.2.2.2.2.2.1, vI c0.1.2.2.2.2.2.2.2.2.2, vI c0.2.1.1, vI c0.2.1.2.1, vI c0.2.1.2.2.1, .l 109 sPiece c0.2.1.2.2.2, .l 3 (.i .i64) c0.2.2.1, .l 3 (.i .i64) c0.2.2.2.1, .l 126 sI6 c0.2.2.2.2.1, .l 120 sQueue c0.2.2.2.2.2.1, .l 129 sI4 c0.2.2.2.2.2.2.1, .l 3 (.i .i64) c0.2.2.2.2.2.2.2.1, .l 132 sStream c0.2.2.2.2.2.2.2.2.1, .l 136 sI4 c0.2.2.2.2.2.2.2.2.2.1, vI c0.2.2.2.2.2.2.2.2.2.2.1, vI c0.2.2.2.2.2.2.2.2.2.2.2.1, .l 122 sI6 c0.2.2.2.2.2.2.2.2.2.2.2.2.1, .l 139 sI4 c0.2.2.2.2.2.2.2.2.2.2.2.2.2])]⟩
noncomputable def BsIsLoopFree_0 {R : Type} (k : Nat) (X0 : VsIsLoopFree_0 → Int → Bool → Option R) (X1 : VsIsLoopFree_0 → Int → Option R) (c0 : CsIsLoopFree_0) (rec : VsIsLoopFree_0 → Option R) (v0 : VsIsLoopFree_0) : Option R := (FsMin k c0.2.2.2.2.2.2.2.2.2.2.2.1 1000).bind fun p1 => if (decide (v0 < p1)) = true then (FsAnyLoopAt k c0.2.1 v0 c0.2.2.2.1).bind fun p2 => if p2 = true then X0 v0 p1 p2 else rec (IntKind.i64.wrap (v0 + 1)) else X1 v0 p1
noncomputable def LsIsLoopFree_0 {R : Type} (k : Nat) (X0 : VsIsLoopFree_0 → Int → Bool → Option R) (X1 : VsIsLoopFree_0 → Int → Option R) (c : CsIsLoopFree_0) : Nat → VsIsLoopFree_0 → Option R
  | 0, _ => none
  | n + 1, v => BsIsLoopFree_0 k X0 X1 c (LsIsLoopFree_0 k X0 X1 c n) v
def YsIsLoopFree_0_0 {R : Type} (K : Ex → St → Option R) (c0 : CsIsLoopFree_0) (v0 : VsIsLoopFree_0) (p1 : Int) (p2 : Bool) : Option R := K .ret ⟨17, 1, [(1, cP 0), (2, cB false), (3, cI v0), (4, cI v0), (5, .c (.ptr 0 23)), (6, cI c0.2.2.2.2.2.2.2.2.2.2.2.1), (7, cI p1), (8, cB (decide (v0 < p1))), (11, .c (.ptr 0 10)), (12, .agg [vI c0.2.1.1, vI c0.2.1.2.1, vI c0.2.1.2.2.1, .l 109 sPiece c0.2.1.2.2.2]), (13, cI v0), (14, .c (.ptr 0 15)), (15, .c (.l 3 (.i .i64) c0.2.2.2.1)), (16, cB p2)], [(0, .var [vI c0.1.1, .l 94 sI4 c0.1.2.1, .l 97 sI3 c0.1.2.2.1, vI c0.1.2.2.2.1, vI c0.1.2.2.2.2.1, vI c0.1.2.2.2.2.2.1, vI c0.1.2.2.2.2.2.2.1, vI c0.1.2.2.2.2.2.2.2.1, .l 102 sZone c0.1.2.2.2.2.2.2.2.2.1, vI c0.1.2.2.2.2.2.2.2.2.2, vI c0.2.1.1, vI c0.2.1.2.1, vI c0.2.1.2.2.1, .l 109 sPiece c0.2.1.2.2.2, .l 3 (.i .i64) c0.2.2.1, .l 3 (.i .i64) c0.2.2.2.1, .l 126 sI6 c0.2.2.2.2.1, .l 120 sQueue c0.2.2.2.2.2.1, .l 129 sI4 c0.2.2.2.2.2.2.1, .l 3 (.i .i64) c0.2.2.2.2.2.2.2.1, .l 132 sStream c0.2.2.2.2.2.2.2.2.1, .l 136 sI4 c0.2.2.2.2.2.2.2.2.2.1, vI c0.2.2.2.2.2.2.2.2.2.2.1, vI c0.2.2.2.2.2.2.2.2.2.2.2.1, .l 122 sI6 c0.2.2.2.2.2.2.2.2.2.2.2.2.1, .l 139 sI4 c0.2.2.2.2.2.2.2.2.2.2.2.2.2])]⟩
def YsIsLoopFree_0_1 {R : Type} (K : Ex → St → Option R) (c0 : CsIsLoopFree_0) (v0 : VsIsLoopFree_0) (p1 : Int) : Option R := K (.exit 0) ⟨17, 1, [(1, cP 0), (3, cI v0), (4, cI v0), (5, .c (.ptr 0 23)), (6, cI c0.2.2.2.2.2.2.2.2.2.2.2.1), (7, cI p1), (8, cB (decide (v0 < p1)))], [(0, .var [vI c0.1.1, .l 94 sI4 c0.1.2.1, .l 97 sI3 c0.1.2.2.1, vI c0.1.2.2.2.1, vI c0.1.2.2.2.2.1, vI c0.1.2.2.2.2.2.1, vI c0.1.2.2.2.2.2.2.1, vI c0.1.2.2.2.2.2.2.2.1, .l 102 sZone c0.1.2.2.2.2.2.2.2.2.1, vI c0.1.2.2.2.2.2.2.2.2.2, vI c0.2.1.1, vI c0.2.1.2.1, vI c0.2.1.2.2.1, .l 109 sPiece c0.2.1.2.2.2, .l 3 (.i .i64) c0.2.2.1, .l 3 (.i .i64) c0.2.2.2.1, .l 126 sI6 c0.2.2.2.2.1, .l 120 sQueue c0.2.2.2.2.2.1, .l 129 sI4 c0.2.2.2.2.2.2.1, .l 3 (.i .i64) c0.2.2.2.2.2.2.2.1, .l 132 sStream c0.2.2.2.2.2.2.2.2.1, .l 136 sI4 c0.2.2.2.2.2.2.2.2.2.1, vI c0.2.2.2.2.2.2.2.2.2.2.1, vI c0.2.2.2.2.2.2.2.2.2.2.2.1, .l 122 sI6 c0.2.2.2.2.2.2.2.2.2.2.2.2.1, .l 139 sI4 c0.2.2.2.2.2.2.2.2.2.2.2.2.2])]⟩
theorem lsIsLoopFree_0 {R : Type} (k : Nat) (K : Ex → St → Option R) (c0 : CsIsLoopFree_0) : ∀ (n : Nat) (v : VsIsLoopFree_0), loopRun [0, 1, 3] (run E (den E k) (lv 10) k (nthLoop Tryz.f10 0)) n (StsIsLoopFree_0 c0 v) K = LsIsLoopFree_0 k (YsIsLoopFree_0_0 K c0) (YsIsLoopFree_0_1 K c0) c0 n v := loop_law (B := BsIsLoopFree_0 k (YsIsLoopFree_0_0 K c0) (YsIsLoopFree_0_1 K c0) c0) (fun _ => rfl) (fun n v => by kernel_rfl) (fun _ => rfl) (fun _ _ => rfl)
theorem msIsLoopFree_0 (k : Nat) (a0 : TWorld) : FsIsLoopFree (k + 1) a0 = loopRun (R := Bool) [0, 1, 3] (run E (den E k) (lv 10) k (nthLoop Tryz.f10 0)) k (StsIsLoopFree_0 a0 0) (kontAt E (den E k) (lv 10) k (bodyOf Tryz.f10) 0 [] (finish E (rs 10) Tryz.f10 : Ex → St → Option (Bool))) := by kernel_rfl
theorem esIsLoopFree (k : Nat) (a0 : TWorld) : FsIsLoopFree (k + 1) a0 = LsIsLoopFree_0 k (fun (v0 : Int) (p1 : Int) (p2 : Bool) => some false) (fun (v0 : Int) (p1 : Int) => some true) a0 k 0 := by
  rw [msIsLoopFree_0]
  simp only [lsIsLoopFree_0]
  kernel_rfl
noncomputable def FlFnExactIsLoopFree (k : Nat) (a0 : TWorld) : Option (Bool) := den E k 4 [.agg [vI a0.1.1, .l 185 sI4 a0.1.2.1, .l 187 sI3 a0.1.2.2.1, vI a0.1.2.2.2.1, vI a0.1.2.2.2.2.1, vI a0.1.2.2.2.2.2.1, vI a0.1.2.2.2.2.2.2.1, vI a0.1.2.2.2.2.2.2.2.1, .l 191 sZone a0.1.2.2.2.2.2.2.2.2.1, vI a0.1.2.2.2.2.2.2.2.2.2, vI a0.2.1.1, vI a0.2.1.2.1, vI a0.2.1.2.2.1, .l 183 sLPiece a0.2.1.2.2.2, .l 3 (.i .i64) a0.2.2.1, .l 3 (.i .i64) a0.2.2.2.1, .l 159 sI6 a0.2.2.2.2.1, .l 151 sLQueue a0.2.2.2.2.2.1, .l 162 sI4 a0.2.2.2.2.2.2.1, .l 3 (.i .i64) a0.2.2.2.2.2.2.2.1, .l 153 sStream a0.2.2.2.2.2.2.2.2.1, .l 165 sI4 a0.2.2.2.2.2.2.2.2.2.1, vI a0.2.2.2.2.2.2.2.2.2.2.1, vI a0.2.2.2.2.2.2.2.2.2.2.2.1, .l 167 sI6 a0.2.2.2.2.2.2.2.2.2.2.2.2.1, .l 169 sI4 a0.2.2.2.2.2.2.2.2.2.2.2.2.2]]
theorem elFnExactIsLoopFree (k : Nat) (a0 : TWorld) : FlFnExactIsLoopFree (k + 1) a0 = (FlszWorld k a0 1048576).bind fun p1 => if (decide (p1 < 0)) = true then some true else (FltoWorld k a0).bind fun p2 => (FsIsLoopFree k p2).bind fun p3 => (FltoWorld k a0).bind fun p4 => (FiIsLoopFree k p4).bind fun p5 => if (!(p5 == p3)) = true then some false else (FltoWorld k a0).bind fun p6 => (FleqWorld k p4 p6).bind fun p7 => if (!p7) = true then some false else some true := by kernel_rfl
end Go.Proofs.YtcdlkadknenodaaGreat.World
