/- The equations of the functions that a law reaches, part 1. No condition. -/
import Derived.Test.YtekefiglklmgnaaGreatV4
import Derived.Test.YtekefiglklmgnaaGreatProg
import Derived.KernelRfl
namespace Go.Proofs.YtekefiglklmgnaaGreat.World
open Go Go.V Go.Proofs
set_option linter.unusedVariables false
set_option linter.unusedSimpArgs false
set_option maxRecDepth 100000
set_option maxHeartbeats 4000000
abbrev I6 : Type := Int × Int × Int × Int × Int × Int
abbrev I4 : Type := Int × Int × Int × Int
abbrev I3 : Type := Int × Int × Int
abbrev I2 : Type := Int × Int
abbrev TLPiece : Type := I2 × (List I2) × List (Int × (List Int) × List Int)
abbrev TPiece : Type := I2 × (List I2) × List (Int × (List Int) × List Int)
abbrev TLProgram : Type := Int × Int × Int × List TPiece
abbrev TProgram : Type := Int × Int × Int × List TPiece
abbrev TLSky : Type := Int × (List I4) × (List I3) × Int × Int × Int × Int × Int × (List I3) × Int
abbrev TSky : Type := Int × (List I4) × (List I3) × Int × Int × Int × Int × Int × (List I3) × Int
abbrev TLWorld : Type := TSky × TProgram × (List Int) × (List Int) × (List I6) × (List (List I6)) × (List I4) × (List Int) × (List (Int × Int × List Int)) × (List I4) × Int × Int × (List I6) × List I4
abbrev TWorld : Type := TSky × TProgram × (List Int) × (List Int) × (List I6) × (List (List I6)) × (List I4) × (List Int) × (List (Int × Int × List Int)) × (List I4) × Int × Int × (List I6) × List I4
abbrev sI4 : Sh := (.a [(.i .i64), (.i .i64), (.i .i64), (.i .i64)])
abbrev sI3 : Sh := (.a [(.i .i64), (.i .i64), (.i .i64)])
abbrev sI2 : Sh := (.a [(.i .i64), (.i .i64)])
abbrev sZone : Sh := (.a [(.i .i64), sI2])
abbrev sLSky : Sh := (.a [(.i .i64), (.l 238 sI4), (.l 242 sI3), (.i .i64), (.i .i64), (.i .i64), (.i .i64), (.i .i64), (.l 250 sZone), (.i .i64)])
abbrev sTable : Sh := (.a [(.i .i64), (.l 3 (.i .i64)), (.l 3 (.i .i64))])
abbrev sLPiece : Sh := (.a [sI2, (.l 300 sI2), (.l 298 sTable)])
abbrev sLProgram : Sh := (.a [(.i .i64), (.i .i64), (.i .i64), (.l 233 sLPiece)])
abbrev sLaw : Sh := (.a [(.l 3 (.i .i64))])
abbrev sI6 : Sh := (.a [(.i .i64), (.i .i64), (.i .i64), (.i .i64), (.i .i64), (.i .i64)])
abbrev sLQueue : Sh := (.a [(.l 182 sI6)])
abbrev sStream : Sh := (.a [(.i .i64), (.i .i64), (.l 3 (.i .i64))])
abbrev sLWorld : Sh := (.a [sLSky, sLProgram, sLaw, (.l 3 (.i .i64)), (.l 178 sI6), (.l 161 sLQueue), (.l 74 sI4), (.l 3 (.i .i64)), (.l 163 sStream), (.l 43 sI4), (.i .i64), (.i .i64), (.l 182 sI6), (.l 82 sI4)])
abbrev sSky : Sh := (.a [(.i .i64), (.l 236 sI4), (.l 240 sI3), (.i .i64), (.i .i64), (.i .i64), (.i .i64), (.i .i64), (.l 246 sZone), (.i .i64)])
abbrev sPiece : Sh := (.a [sI2, (.l 283 sI2), (.l 211 sTable)])
abbrev sProgram : Sh := (.a [(.i .i64), (.i .i64), (.i .i64), (.l 219 sPiece)])
abbrev sQueue : Sh := (.a [(.l 133 sI6)])
abbrev sWorld : Sh := (.a [sSky, sProgram, sLaw, (.l 3 (.i .i64)), (.l 176 sI6), (.l 136 sQueue), (.l 76 sI4), (.l 3 (.i .i64)), (.l 145 sStream), (.l 66 sI4), (.i .i64), (.i .i64), (.l 133 sI6), (.l 84 sI4)])
noncomputable def ty : Nat → Option TyI
  | 3 => some ⟨.one, 1, 8, [(.int .i64 0)], (.i .i64)⟩
  | 4 => some ⟨.one, 1, 1, [(.bool false)], .b⟩
  | 22 => some ⟨.slc 238, 1, 24, [(.slice none 0 0)], (.l 238 sI4)⟩
  | 23 => some ⟨.slc 242, 1, 24, [(.slice none 0 0)], (.l 242 sI3)⟩
  | 24 => some ⟨.slc 250, 1, 24, [(.slice none 0 0)], (.l 250 sZone)⟩
  | 26 => some ⟨.agg [(0, 3), (1, 22), (2, 23), (3, 3), (4, 3), (5, 3), (6, 3), (7, 3), (8, 24), (9, 3)], 10, 128, [(.int .i64 0), (.slice none 0 0), (.slice none 0 0), (.int .i64 0), (.int .i64 0), (.int .i64 0), (.int .i64 0), (.int .i64 0), (.slice none 0 0), (.int .i64 0)], sLSky⟩
  | 27 => some ⟨.slc 233, 1, 24, [(.slice none 0 0)], (.l 233 sLPiece)⟩
  | 29 => some ⟨.agg [(0, 3), (1, 3), (2, 3), (3, 27)], 4, 48, [(.int .i64 0), (.int .i64 0), (.int .i64 0), (.slice none 0 0)], sLProgram⟩
  | 30 => some ⟨.slc 3, 1, 24, [(.slice none 0 0)], (.l 3 (.i .i64))⟩
  | 32 => some ⟨.agg [(0, 30)], 1, 24, [(.slice none 0 0)], sLaw⟩
  | 33 => some ⟨.slc 178, 1, 24, [(.slice none 0 0)], (.l 178 sI6)⟩
  | 34 => some ⟨.slc 161, 1, 24, [(.slice none 0 0)], (.l 161 sLQueue)⟩
  | 35 => some ⟨.slc 74, 1, 24, [(.slice none 0 0)], (.l 74 sI4)⟩
  | 36 => some ⟨.slc 163, 1, 24, [(.slice none 0 0)], (.l 163 sStream)⟩
  | 37 => some ⟨.slc 43, 1, 24, [(.slice none 0 0)], (.l 43 sI4)⟩
  | 38 => some ⟨.slc 182, 1, 24, [(.slice none 0 0)], (.l 182 sI6)⟩
  | 39 => some ⟨.slc 82, 1, 24, [(.slice none 0 0)], (.l 82 sI4)⟩
  | 41 => some ⟨.agg [(0, 26), (10, 29), (14, 32), (15, 30), (16, 33), (17, 34), (18, 35), (19, 30), (20, 36), (21, 37), (22, 3), (23, 3), (24, 38), (25, 39)], 26, 432, [(.int .i64 0), (.slice none 0 0), (.slice none 0 0), (.int .i64 0), (.int .i64 0), (.int .i64 0), (.int .i64 0), (.int .i64 0), (.slice none 0 0), (.int .i64 0), (.int .i64 0), (.int .i64 0), (.int .i64 0), (.slice none 0 0), (.slice none 0 0), (.slice none 0 0), (.slice none 0 0), (.slice none 0 0), (.slice none 0 0), (.slice none 0 0), (.slice none 0 0), (.slice none 0 0), (.int .i64 0), (.int .i64 0), (.slice none 0 0), (.slice none 0 0)], sLWorld⟩
  | 43 => some ⟨.agg [(0, 3), (1, 3), (2, 3), (3, 3)], 4, 32, [(.int .i64 0), (.int .i64 0), (.int .i64 0), (.int .i64 0)], sI4⟩
  | 45 => some ⟨.slc 236, 1, 24, [(.slice none 0 0)], (.l 236 sI4)⟩
  | 46 => some ⟨.slc 240, 1, 24, [(.slice none 0 0)], (.l 240 sI3)⟩
  | 47 => some ⟨.slc 246, 1, 24, [(.slice none 0 0)], (.l 246 sZone)⟩
  | 49 => some ⟨.agg [(0, 3), (1, 45), (2, 46), (3, 3), (4, 3), (5, 3), (6, 3), (7, 3), (8, 47), (9, 3)], 10, 128, [(.int .i64 0), (.slice none 0 0), (.slice none 0 0), (.int .i64 0), (.int .i64 0), (.int .i64 0), (.int .i64 0), (.int .i64 0), (.slice none 0 0), (.int .i64 0)], sSky⟩
  | 50 => some ⟨.slc 219, 1, 24, [(.slice none 0 0)], (.l 219 sPiece)⟩
  | 52 => some ⟨.agg [(0, 3), (1, 3), (2, 3), (3, 50)], 4, 48, [(.int .i64 0), (.int .i64 0), (.int .i64 0), (.slice none 0 0)], sProgram⟩
  | 53 => some ⟨.agg [(0, 30)], 1, 24, [(.slice none 0 0)], sLaw⟩
  | 54 => some ⟨.slc 176, 1, 24, [(.slice none 0 0)], (.l 176 sI6)⟩
  | 55 => some ⟨.slc 136, 1, 24, [(.slice none 0 0)], (.l 136 sQueue)⟩
  | 56 => some ⟨.slc 76, 1, 24, [(.slice none 0 0)], (.l 76 sI4)⟩
  | 57 => some ⟨.slc 145, 1, 24, [(.slice none 0 0)], (.l 145 sStream)⟩
  | 58 => some ⟨.slc 66, 1, 24, [(.slice none 0 0)], (.l 66 sI4)⟩
  | 59 => some ⟨.slc 133, 1, 24, [(.slice none 0 0)], (.l 133 sI6)⟩
  | 60 => some ⟨.slc 84, 1, 24, [(.slice none 0 0)], (.l 84 sI4)⟩
  | 62 => some ⟨.agg [(0, 49), (10, 52), (14, 53), (15, 30), (16, 54), (17, 55), (18, 56), (19, 30), (20, 57), (21, 58), (22, 3), (23, 3), (24, 59), (25, 60)], 26, 432, [(.int .i64 0), (.slice none 0 0), (.slice none 0 0), (.int .i64 0), (.int .i64 0), (.int .i64 0), (.int .i64 0), (.int .i64 0), (.slice none 0 0), (.int .i64 0), (.int .i64 0), (.int .i64 0), (.int .i64 0), (.slice none 0 0), (.slice none 0 0), (.slice none 0 0), (.slice none 0 0), (.slice none 0 0), (.slice none 0 0), (.slice none 0 0), (.slice none 0 0), (.slice none 0 0), (.int .i64 0), (.int .i64 0), (.slice none 0 0), (.slice none 0 0)], sWorld⟩
  | 66 => some ⟨.agg [(0, 3), (1, 3), (2, 3), (3, 3)], 4, 32, [(.int .i64 0), (.int .i64 0), (.int .i64 0), (.int .i64 0)], sI4⟩
  | 74 => some ⟨.agg [(0, 3), (1, 3), (2, 3), (3, 3)], 4, 32, [(.int .i64 0), (.int .i64 0), (.int .i64 0), (.int .i64 0)], sI4⟩
  | 76 => some ⟨.agg [(0, 3), (1, 3), (2, 3), (3, 3)], 4, 32, [(.int .i64 0), (.int .i64 0), (.int .i64 0), (.int .i64 0)], sI4⟩
  | 82 => some ⟨.agg [(0, 3), (1, 3), (2, 3), (3, 3)], 4, 32, [(.int .i64 0), (.int .i64 0), (.int .i64 0), (.int .i64 0)], sI4⟩
  | 84 => some ⟨.agg [(0, 3), (1, 3), (2, 3), (3, 3)], 4, 32, [(.int .i64 0), (.int .i64 0), (.int .i64 0), (.int .i64 0)], sI4⟩
  | 133 => some ⟨.agg [(0, 3), (1, 3), (2, 3), (3, 3), (4, 3), (5, 3)], 6, 48, [(.int .i64 0), (.int .i64 0), (.int .i64 0), (.int .i64 0), (.int .i64 0), (.int .i64 0)], sI6⟩
  | 136 => some ⟨.agg [(0, 59)], 1, 24, [(.slice none 0 0)], sQueue⟩
  | 145 => some ⟨.agg [(0, 3), (1, 3), (2, 30)], 3, 40, [(.int .i64 0), (.int .i64 0), (.slice none 0 0)], sStream⟩
  | 161 => some ⟨.agg [(0, 38)], 1, 24, [(.slice none 0 0)], sLQueue⟩
  | 163 => some ⟨.agg [(0, 3), (1, 3), (2, 30)], 3, 40, [(.int .i64 0), (.int .i64 0), (.slice none 0 0)], sStream⟩
  | 170 => some ⟨.agg [(0, 3), (1, 3)], 2, 16, [(.int .i64 0), (.int .i64 0)], sI2⟩
  | 176 => some ⟨.agg [(0, 3), (1, 3), (2, 3), (3, 3), (4, 3), (5, 3)], 6, 48, [(.int .i64 0), (.int .i64 0), (.int .i64 0), (.int .i64 0), (.int .i64 0), (.int .i64 0)], sI6⟩
  | 178 => some ⟨.agg [(0, 3), (1, 3), (2, 3), (3, 3), (4, 3), (5, 3)], 6, 48, [(.int .i64 0), (.int .i64 0), (.int .i64 0), (.int .i64 0), (.int .i64 0), (.int .i64 0)], sI6⟩
  | 182 => some ⟨.agg [(0, 3), (1, 3), (2, 3), (3, 3), (4, 3), (5, 3)], 6, 48, [(.int .i64 0), (.int .i64 0), (.int .i64 0), (.int .i64 0), (.int .i64 0), (.int .i64 0)], sI6⟩
  | 211 => some ⟨.agg [(0, 3), (1, 30), (2, 30)], 3, 56, [(.int .i64 0), (.slice none 0 0), (.slice none 0 0)], sTable⟩
  | 216 => some ⟨.slc 283, 1, 24, [(.slice none 0 0)], (.l 283 sI2)⟩
  | 217 => some ⟨.slc 211, 1, 24, [(.slice none 0 0)], (.l 211 sTable)⟩
  | 219 => some ⟨.agg [(0, 170), (2, 216), (3, 217)], 4, 64, [(.int .i64 0), (.int .i64 0), (.slice none 0 0), (.slice none 0 0)], sPiece⟩
  | 229 => some ⟨.agg [(0, 3), (1, 3)], 2, 16, [(.int .i64 0), (.int .i64 0)], sI2⟩
  | 230 => some ⟨.slc 300, 1, 24, [(.slice none 0 0)], (.l 300 sI2)⟩
  | 231 => some ⟨.slc 298, 1, 24, [(.slice none 0 0)], (.l 298 sTable)⟩
  | 233 => some ⟨.agg [(0, 229), (2, 230), (3, 231)], 4, 64, [(.int .i64 0), (.int .i64 0), (.slice none 0 0), (.slice none 0 0)], sLPiece⟩
  | 236 => some ⟨.agg [(0, 3), (1, 3), (2, 3), (3, 3)], 4, 32, [(.int .i64 0), (.int .i64 0), (.int .i64 0), (.int .i64 0)], sI4⟩
  | 238 => some ⟨.agg [(0, 3), (1, 3), (2, 3), (3, 3)], 4, 32, [(.int .i64 0), (.int .i64 0), (.int .i64 0), (.int .i64 0)], sI4⟩
  | 240 => some ⟨.agg [(0, 3), (1, 3), (2, 3)], 3, 24, [(.int .i64 0), (.int .i64 0), (.int .i64 0)], sI3⟩
  | 242 => some ⟨.agg [(0, 3), (1, 3), (2, 3)], 3, 24, [(.int .i64 0), (.int .i64 0), (.int .i64 0)], sI3⟩
  | 244 => some ⟨.agg [(0, 3), (1, 3)], 2, 16, [(.int .i64 0), (.int .i64 0)], sI2⟩
  | 246 => some ⟨.agg [(0, 3), (1, 244)], 3, 24, [(.int .i64 0), (.int .i64 0), (.int .i64 0)], sZone⟩
  | 248 => some ⟨.agg [(0, 3), (1, 3)], 2, 16, [(.int .i64 0), (.int .i64 0)], sI2⟩
  | 250 => some ⟨.agg [(0, 3), (1, 248)], 3, 24, [(.int .i64 0), (.int .i64 0), (.int .i64 0)], sZone⟩
  | 283 => some ⟨.agg [(0, 3), (1, 3)], 2, 16, [(.int .i64 0), (.int .i64 0)], sI2⟩
  | 298 => some ⟨.agg [(0, 3), (1, 30), (2, 30)], 3, 56, [(.int .i64 0), (.slice none 0 0), (.slice none 0 0)], sTable⟩
  | 300 => some ⟨.agg [(0, 3), (1, 3)], 2, 16, [(.int .i64 0), (.int .i64 0)], sI2⟩
  | _ => none
noncomputable def fn0 : Nat → Option Func
  | 5 => some Tryz.f5
  | 8 => some Tryz.f8
  | 10 => some Tryz.f10
  | 11 => some Tryz.f11
  | 13 => some Tryz.f13
  | 14 => some Tryz.f14
  | 15 => some Tryz.f15
  | 18 => some Tryz.f18
  | 19 => some Tryz.f19
  | 20 => some Tryz.f20
  | 24 => some Tryz.f24
  | 26 => some Tryz.f26
  | 27 => some Tryz.f27
  | 28 => some Tryz.f28
  | 29 => some Tryz.f29
  | 30 => some Tryz.f30
  | 31 => some Tryz.f31
  | 32 => some Tryz.f32
  | 33 => some Tryz.f33
  | 34 => some Tryz.f34
  | 35 => some Tryz.f35
  | 36 => some Tryz.f36
  | 37 => some Tryz.f37
  | 39 => some Tryz.f39
  | 40 => some Tryz.f40
  | 41 => some Tryz.f41
  | 42 => some Tryz.f42
  | 43 => some Tryz.f43
  | 44 => some Tryz.f44
  | 45 => some Tryz.f45
  | 46 => some Tryz.f46
  | 47 => some Tryz.f47
  | 48 => some Tryz.f48
  | 49 => some Tryz.f49
  | 50 => some Tryz.f50
  | 52 => some Tryz.f52
  | 53 => some Tryz.f53
  | 54 => some Tryz.f54
  | 55 => some Tryz.f55
  | 56 => some Tryz.f56
  | 57 => some Tryz.f57
  | 58 => some Tryz.f58
  | 59 => some Tryz.f59
  | 60 => some Tryz.f60
  | 61 => some Tryz.f61
  | 62 => some Tryz.f62
  | 63 => some Tryz.f63
  | 64 => some Tryz.f64
  | 65 => some Tryz.f65
  | 66 => some Tryz.f66
  | 67 => some Tryz.f67
  | 68 => some Tryz.f68
  | 69 => some Tryz.f69
  | 70 => some Tryz.f70
  | 71 => some Tryz.f71
  | 72 => some Tryz.f72
  | 73 => some Tryz.f73
  | 74 => some Tryz.f74
  | 75 => some Tryz.f75
  | 76 => some Tryz.f76
  | _ => none
noncomputable def fn1 : Nat → Option Func
  | 77 => some Tryz.f77
  | 78 => some Tryz.f78
  | 79 => some Tryz.f79
  | 80 => some Tryz.f80
  | 81 => some Tryz.f81
  | 82 => some Tryz.f82
  | 83 => some Tryz.f83
  | 84 => some Tryz.f84
  | 89 => some Tryz.f89
  | 93 => some Tryz.f93
  | 94 => some Tryz.f94
  | 95 => some Tryz.f95
  | 96 => some Tryz.f96
  | 97 => some Tryz.f97
  | 101 => some Tryz.f101
  | 111 => some Tryz.f111
  | 112 => some Tryz.f112
  | 113 => some Tryz.f113
  | 114 => some Tryz.f114
  | 115 => some Tryz.f115
  | 116 => some Tryz.f116
  | 117 => some Tryz.f117
  | 118 => some Tryz.f118
  | 119 => some Tryz.f119
  | 120 => some Tryz.f120
  | 122 => some Tryz.f122
  | 123 => some Tryz.f123
  | 124 => some Tryz.f124
  | 125 => some Tryz.f125
  | 126 => some Tryz.f126
  | 127 => some Tryz.f127
  | 128 => some Tryz.f128
  | 129 => some Tryz.f129
  | 130 => some Tryz.f130
  | 131 => some Tryz.f131
  | 132 => some Tryz.f132
  | 133 => some Tryz.f133
  | 134 => some Tryz.f134
  | 135 => some Tryz.f135
  | 136 => some Tryz.f136
  | 137 => some Tryz.f137
  | 138 => some Tryz.f138
  | 139 => some Tryz.f139
  | 141 => some Tryz.f141
  | 142 => some Tryz.f142
  | 143 => some Tryz.f143
  | 144 => some Tryz.f144
  | 145 => some Tryz.f145
  | 146 => some Tryz.f146
  | 147 => some Tryz.f147
  | 148 => some Tryz.f148
  | 149 => some Tryz.f149
  | 150 => some Tryz.f150
  | 151 => some Tryz.f151
  | 152 => some Tryz.f152
  | 153 => some Tryz.f153
  | 154 => some Tryz.f154
  | 155 => some Tryz.f155
  | 156 => some Tryz.f156
  | 157 => some Tryz.f157
  | _ => none
noncomputable def fn2 : Nat → Option Func
  | 158 => some Tryz.f158
  | 159 => some Tryz.f159
  | 160 => some Tryz.f160
  | 162 => some Tryz.f162
  | 163 => some Tryz.f163
  | 164 => some Tryz.f164
  | 165 => some Tryz.f165
  | 166 => some Tryz.f166
  | 167 => some Tryz.f167
  | 168 => some Tryz.f168
  | 169 => some Tryz.f169
  | 172 => some Tryz.f172
  | 180 => some Tryz.f180
  | 192 => some Tryz.f192
  | 193 => some Tryz.f193
  | 194 => some Tryz.f194
  | 195 => some Tryz.f195
  | 196 => some Tryz.f196
  | 197 => some Tryz.f197
  | 198 => some Tryz.f198
  | 199 => some Tryz.f199
  | 200 => some Tryz.f200
  | 201 => some Tryz.f201
  | 202 => some Tryz.f202
  | 203 => some Tryz.f203
  | 204 => some Tryz.f204
  | 205 => some Tryz.f205
  | 206 => some Tryz.f206
  | 207 => some Tryz.f207
  | 208 => some Tryz.f208
  | 209 => some Tryz.f209
  | 210 => some Tryz.f210
  | 211 => some Tryz.f211
  | 212 => some Tryz.f212
  | 213 => some Tryz.f213
  | 214 => some Tryz.f214
  | 215 => some Tryz.f215
  | 240 => some Tryz.f240
  | 241 => some Tryz.f241
  | 242 => some Tryz.f242
  | 243 => some Tryz.f243
  | 244 => some Tryz.f244
  | 245 => some Tryz.f245
  | 246 => some Tryz.f246
  | 247 => some Tryz.f247
  | 248 => some Tryz.f248
  | 249 => some Tryz.f249
  | 250 => some Tryz.f250
  | 251 => some Tryz.f251
  | 252 => some Tryz.f252
  | 253 => some Tryz.f253
  | 266 => some Tryz.f266
  | 267 => some Tryz.f267
  | 268 => some Tryz.f268
  | 269 => some Tryz.f269
  | 270 => some Tryz.f270
  | 271 => some Tryz.f271
  | 272 => some Tryz.f272
  | _ => none
noncomputable def fn (f : Nat) : Option Func := (match fn0 f with
  | some F => some F
  | none => (match fn1 f with
  | some F => some F
  | none => fn2 f))
def lv : Nat → List Nat
  | 14 => [14]
  | 31 => [0, 0, 1, 5]
  | 33 => [0, 0, 1, 5]
  | 37 => [0, 1, 2, 3, 4, 5, 14745736, 14942353, 1099511627777, 2199023263743]
  | 42 => [0, 0, 3, 4]
  | 43 => [0, 0, 3, 4]
  | 44 => [0, 0, 3, 4]
  | 45 => [0, 0, 3, 4]
  | 46 => [0, 0, 3, 4]
  | 47 => [0, 0, 3, 4]
  | 48 => [0, 0, 3, 4]
  | 49 => [0, 0, 3, 4]
  | 50 => [0, 1, 2, 3, 54, 55, 56, 69, 70, 71, 14745736, 14942353, 1099511627777, 2199023267839]
  | 55 => [0, 0, 1, 5]
  | 56 => [0, 0, 1, 5]
  | 57 => [0, 0, 1, 5]
  | 58 => [0, 0, 1, 5]
  | 59 => [0, 0, 1, 5]
  | 60 => [0, 0, 1, 5]
  | 61 => [0, 0, 1, 5]
  | 62 => [0, 0, 1, 5]
  | 63 => [3]
  | 64 => [1]
  | 65 => [1]
  | 66 => [1, 0, 1, 5]
  | 67 => [1, 0, 1, 5]
  | 68 => [1, 0, 1, 5]
  | 69 => [1, 0, 1, 5]
  | 70 => [1, 0, 1, 5]
  | 71 => [1, 0, 1, 5]
  | 72 => [1, 0, 1, 5]
  | 73 => [1, 0, 1, 5]
  | 77 => [0, 0, 1, 5]
  | 78 => [0, 0, 1, 5]
  | 79 => [0, 0, 1, 5]
  | 80 => [0, 0, 1, 5]
  | 81 => [0, 0, 1, 5]
  | 82 => [0, 0, 1, 5]
  | 83 => [0, 0, 1, 5]
  | 84 => [0, 0, 1, 5]
  | 93 => [0, 1, 3, 4, 6, 10, 11]
  | 114 => [0, 0, 1, 5]
  | 118 => [0, 1, 2, 3, 4, 5, 6, 13828315, 22216915]
  | 122 => [0, 0, 3, 4]
  | 123 => [0, 0, 3, 4]
  | 124 => [0, 0, 3, 4]
  | 125 => [0, 0, 3, 4]
  | 131 => [0, 1, 2, 3, 6, 11, 12, 13, 24, 25, 26, 26411219]
  | 141 => [0, 0, 1, 5]
  | 142 => [0, 0, 1, 5]
  | 143 => [0, 0, 1, 5]
  | 144 => [0, 0, 1, 5]
  | 152 => [1, 0, 1, 5]
  | 153 => [1, 0, 1, 5]
  | 154 => [1, 0, 1, 5]
  | 155 => [1, 0, 1, 5]
  | 156 => [0, 0, 1, 5]
  | 157 => [0, 0, 1, 5]
  | 158 => [0, 0, 1, 5]
  | 159 => [0, 0, 1, 5]
  | 160 => [0, 0, 1, 7, 8]
  | 163 => [0, 1, 3, 4, 6, 9, 10, 11]
  | 164 => [0, 0, 1, 5]
  | 168 => [0, 1, 3, 4, 6, 9, 10, 11, 14, 15]
  | 207 => [1, 0, 1, 5]
  | 208 => [1, 0, 1, 5]
  | 209 => [0, 0, 1, 5]
  | 210 => [0, 0, 1, 5]
  | 212 => [0, 1, 2, 3, 4, 5, 11, 12, 13, 14]
  | 214 => [0, 2, 3, 4, 5, 11, 14, 15, 16]
  | 215 => [0, 0, 1, 7, 8]
  | 241 => [0, 0, 1, 5]
  | 244 => [0, 0, 3, 4]
  | 245 => [0, 0, 3, 4]
  | 249 => [0, 0, 1, 5]
  | 250 => [0, 0, 1, 5]
  | 253 => [0, 0, 1, 2, 7]
  | 271 => [0, 0, 2, 7, 8]
  | 272 => [0, 0, 1, 2, 7]
  | _ => []
def rs : Nat → RSh
  | 5 => ⟨false, [.b], 0⟩
  | 8 => ⟨false, [(.i .i64)], 0⟩
  | 10 => ⟨true, [sWorld], 0⟩
  | 11 => ⟨false, [sI4], 0⟩
  | 13 => ⟨false, [.b], 0⟩
  | 14 => ⟨true, [(.i .i64), (.l 236 sI4), (.l 240 sI3), (.l 246 sZone), (.l 219 sPiece), (.l 3 (.i .i64)), (.l 3 (.i .i64)), (.l 176 sI6), (.l 136 sQueue), (.l 76 sI4), (.l 3 (.i .i64)), (.l 145 sStream), (.l 66 sI4), (.l 133 sI6), (.l 84 sI4)], 14⟩
  | 15 => ⟨false, [(.i .i64)], 0⟩
  | 18 => ⟨true, [sWorld, .b], 0⟩
  | 19 => ⟨false, [sI4], 0⟩
  | 20 => ⟨true, [sWorld, .b], 0⟩
  | 24 => ⟨false, [sI4], 0⟩
  | 26 => ⟨false, [(.i .i64)], 0⟩
  | 27 => ⟨false, [(.i .i64)], 0⟩
  | 28 => ⟨false, [(.i .i64)], 0⟩
  | 29 => ⟨false, [(.i .i64)], 0⟩
  | 30 => ⟨false, [(.i .i64)], 0⟩
  | 31 => ⟨false, [(.i .i64)], 0⟩
  | 32 => ⟨false, [(.i .i64)], 0⟩
  | 33 => ⟨false, [(.i .i64)], 0⟩
  | 34 => ⟨false, [(.i .i64)], 0⟩
  | 35 => ⟨false, [(.i .i64)], 0⟩
  | 36 => ⟨false, [(.i .i64)], 0⟩
  | 37 => ⟨true, [sWorld], 0⟩
  | 39 => ⟨true, [sSky], 0⟩
  | 40 => ⟨true, [sProgram], 0⟩
  | 41 => ⟨true, [sLaw], 0⟩
  | 42 => ⟨true, [(.l 3 (.i .i64))], 0⟩
  | 43 => ⟨true, [(.l 176 sI6)], 0⟩
  | 44 => ⟨true, [(.l 136 sQueue)], 0⟩
  | 45 => ⟨true, [(.l 76 sI4)], 0⟩
  | 46 => ⟨true, [(.l 145 sStream)], 0⟩
  | 47 => ⟨true, [(.l 66 sI4)], 0⟩
  | 48 => ⟨true, [(.l 133 sI6)], 0⟩
  | 49 => ⟨true, [(.l 84 sI4)], 0⟩
  | 50 => ⟨true, [sWorld], 0⟩
  | 52 => ⟨false, [.b], 0⟩
  | 53 => ⟨false, [.b], 0⟩
  | 54 => ⟨false, [.b], 0⟩
  | 55 => ⟨false, [.b], 0⟩
  | 56 => ⟨false, [.b], 0⟩
  | 57 => ⟨false, [.b], 0⟩
  | 58 => ⟨false, [.b], 0⟩
  | 59 => ⟨false, [.b], 0⟩
  | 60 => ⟨false, [.b], 0⟩
  | 61 => ⟨false, [.b], 0⟩
  | 62 => ⟨false, [.b], 0⟩
  | 63 => ⟨true, [(.i .i64), (.l 236 sI4), (.l 240 sI3), (.l 246 sZone)], 3⟩
  | 64 => ⟨true, [(.i .i64), (.l 219 sPiece)], 1⟩
  | 65 => ⟨true, [(.i .i64), (.l 3 (.i .i64))], 1⟩
  | 66 => ⟨true, [(.i .i64), (.l 3 (.i .i64))], 1⟩
  | 67 => ⟨true, [(.i .i64), (.l 176 sI6)], 1⟩
  | 68 => ⟨true, [(.i .i64), (.l 136 sQueue)], 1⟩
  | 69 => ⟨true, [(.i .i64), (.l 76 sI4)], 1⟩
  | 70 => ⟨true, [(.i .i64), (.l 145 sStream)], 1⟩
  | 71 => ⟨true, [(.i .i64), (.l 66 sI4)], 1⟩
  | 72 => ⟨true, [(.i .i64), (.l 133 sI6)], 1⟩
  | 73 => ⟨true, [(.i .i64), (.l 84 sI4)], 1⟩
  | 74 => ⟨false, [(.i .i64)], 0⟩
  | 75 => ⟨false, [(.i .i64)], 0⟩
  | 76 => ⟨false, [(.i .i64)], 0⟩
  | 77 => ⟨false, [(.i .i64)], 0⟩
  | 78 => ⟨false, [(.i .i64)], 0⟩
  | 79 => ⟨false, [(.i .i64)], 0⟩
  | 80 => ⟨false, [(.i .i64)], 0⟩
  | 81 => ⟨false, [(.i .i64)], 0⟩
  | 82 => ⟨false, [(.i .i64)], 0⟩
  | 83 => ⟨false, [(.i .i64)], 0⟩
  | 84 => ⟨false, [(.i .i64)], 0⟩
  | 89 => ⟨false, [.b], 0⟩
  | 93 => ⟨true, [(.l 76 sI4), .b], 0⟩
  | 94 => ⟨false, [.b], 0⟩
  | 95 => ⟨true, [(.l 76 sI4), .b], 0⟩
  | 96 => ⟨false, [.b], 0⟩
  | 97 => ⟨false, [.b], 0⟩
  | 101 => ⟨false, [.b], 0⟩
  | 111 => ⟨false, [(.i .i64)], 0⟩
  | 112 => ⟨false, [(.i .i64)], 0⟩
  | 113 => ⟨false, [(.i .i64)], 0⟩
  | 114 => ⟨false, [(.i .i64)], 0⟩
  | 115 => ⟨false, [(.i .i64)], 0⟩
  | 116 => ⟨false, [(.i .i64)], 0⟩
  | 117 => ⟨true, [sSky], 0⟩
  | 118 => ⟨true, [sProgram], 0⟩
  | 119 => ⟨true, [sQueue], 0⟩
  | 120 => ⟨true, [sStream], 0⟩
  | 122 => ⟨true, [(.l 236 sI4)], 0⟩
  | 123 => ⟨true, [(.l 240 sI3)], 0⟩
  | 124 => ⟨true, [(.l 246 sZone)], 0⟩
  | 125 => ⟨true, [(.l 219 sPiece)], 0⟩
  | 126 => ⟨false, [sI6], 0⟩
  | 127 => ⟨true, [sQueue], 0⟩
  | 128 => ⟨true, [sStream], 0⟩
  | 129 => ⟨false, [sI6], 0⟩
  | 130 => ⟨true, [sSky], 0⟩
  | 131 => ⟨true, [sProgram], 0⟩
  | 132 => ⟨true, [(.l 3 (.i .i64))], 0⟩
  | 133 => ⟨true, [(.l 176 sI6)], 0⟩
  | 134 => ⟨true, [(.l 76 sI4)], 0⟩
  | 135 => ⟨true, [(.l 66 sI4)], 0⟩
  | 136 => ⟨true, [(.l 133 sI6)], 0⟩
  | 137 => ⟨true, [(.l 84 sI4)], 0⟩
  | 138 => ⟨true, [sQueue], 0⟩
  | 139 => ⟨true, [sStream], 0⟩
  | 141 => ⟨false, [.b], 0⟩
  | 142 => ⟨false, [.b], 0⟩
  | 143 => ⟨false, [.b], 0⟩
  | 144 => ⟨false, [.b], 0⟩
  | 145 => ⟨false, [.b], 0⟩
  | 146 => ⟨false, [.b], 0⟩
  | 147 => ⟨false, [.b], 0⟩
  | 148 => ⟨false, [.b], 0⟩
  | 149 => ⟨false, [.b], 0⟩
  | 150 => ⟨false, [.b], 0⟩
  | 151 => ⟨false, [.b], 0⟩
  | 152 => ⟨true, [(.i .i64), (.l 236 sI4)], 1⟩
  | 153 => ⟨true, [(.i .i64), (.l 240 sI3)], 1⟩
  | 154 => ⟨true, [(.i .i64), (.l 246 sZone)], 1⟩
  | 155 => ⟨true, [(.i .i64), (.l 219 sPiece)], 1⟩
  | 156 => ⟨false, [(.i .i64)], 0⟩
  | 157 => ⟨false, [(.i .i64)], 0⟩
  | 158 => ⟨false, [(.i .i64)], 0⟩
  | 159 => ⟨false, [(.i .i64)], 0⟩
  | 160 => ⟨false, [(.i .i64)], 0⟩
  | 162 => ⟨false, [.b], 0⟩
  | 163 => ⟨false, [.b], 0⟩
  | 164 => ⟨false, [.b], 0⟩
  | 165 => ⟨false, [.b], 0⟩
  | 166 => ⟨false, [.b], 0⟩
  | 167 => ⟨false, [.b], 0⟩
  | 168 => ⟨false, [.b], 0⟩
  | 169 => ⟨false, [.b], 0⟩
  | 172 => ⟨true, [sTable, .b], 0⟩
  | 180 => ⟨true, [sTable, .b], 0⟩
  | 192 => ⟨false, [(.i .i64)], 0⟩
  | 193 => ⟨true, [sTable], 0⟩
  | 194 => ⟨false, [sI4], 0⟩
  | 195 => ⟨false, [sI3], 0⟩
  | 196 => ⟨false, [sZone], 0⟩
  | 197 => ⟨true, [sPiece], 0⟩
  | 198 => ⟨true, [(.l 236 sI4)], 0⟩
  | 199 => ⟨true, [(.l 240 sI3)], 0⟩
  | 200 => ⟨true, [(.l 246 sZone)], 0⟩
  | 201 => ⟨true, [(.l 283 sI2)], 0⟩
  | 202 => ⟨true, [sTable], 0⟩
  | 203 => ⟨false, [.b], 0⟩
  | 204 => ⟨false, [.b], 0⟩
  | 205 => ⟨false, [.b], 0⟩
  | 206 => ⟨false, [.b], 0⟩
  | 207 => ⟨true, [(.i .i64), (.l 283 sI2)], 1⟩
  | 208 => ⟨true, [(.i .i64), (.l 211 sTable)], 1⟩
  | 209 => ⟨false, [(.i .i64)], 0⟩
  | 210 => ⟨false, [(.i .i64)], 0⟩
  | 211 => ⟨true, [(.l 3 (.i .i64))], 0⟩
  | 212 => ⟨false, [(.i .i64)], 0⟩
  | 213 => ⟨true, [(.l 3 (.i .i64))], 0⟩
  | 214 => ⟨false, [(.i .i64)], 0⟩
  | 215 => ⟨false, [(.i .i64)], 0⟩
  | 240 => ⟨false, [(.i .i64)], 0⟩
  | 241 => ⟨false, [(.i .i64)], 0⟩
  | 242 => ⟨false, [sI2], 0⟩
  | 243 => ⟨false, [sI2], 0⟩
  | 244 => ⟨true, [(.l 283 sI2)], 0⟩
  | 245 => ⟨true, [(.l 211 sTable)], 0⟩
  | 246 => ⟨true, [(.l 283 sI2)], 0⟩
  | 247 => ⟨false, [.b], 0⟩
  | 248 => ⟨false, [.b], 0⟩
  | 249 => ⟨false, [.b], 0⟩
  | 250 => ⟨false, [.b], 0⟩
  | 251 => ⟨true, [(.l 3 (.i .i64))], 0⟩
  | 252 => ⟨true, [(.l 3 (.i .i64))], 0⟩
  | 253 => ⟨false, [.b], 0⟩
  | 266 => ⟨false, [(.i .i64)], 0⟩
  | 267 => ⟨false, [sI2], 0⟩
  | 268 => ⟨true, [sTable], 0⟩
  | 269 => ⟨false, [.b], 0⟩
  | 270 => ⟨false, [.b], 0⟩
  | 271 => ⟨true, [(.l 3 (.i .i64))], 0⟩
  | 272 => ⟨true, [(.l 3 (.i .i64))], 0⟩
  | _ => ⟨false, [], 0⟩
def tk : Nat → List (Option Sh)
  | 14 => [some sWorld]
  | 63 => [some sSky]
  | 64 => [some sProgram]
  | 65 => [some sLaw]
  | 66 => [some (.l 3 (.i .i64))]
  | 67 => [some (.l 176 sI6)]
  | 68 => [some (.l 136 sQueue)]
  | 69 => [some (.l 76 sI4)]
  | 70 => [some (.l 145 sStream)]
  | 71 => [some (.l 66 sI4)]
  | 72 => [some (.l 133 sI6)]
  | 73 => [some (.l 84 sI4)]
  | 152 => [some (.l 236 sI4)]
  | 153 => [some (.l 240 sI3)]
  | 154 => [some (.l 246 sZone)]
  | 155 => [some (.l 219 sPiece)]
  | 207 => [some (.l 283 sI2)]
  | 208 => [some (.l 211 sTable)]
  | _ => []
noncomputable def E : Env := { P := Tryz.prog, fn := fn, ty := ty, lv := lv, rs := rs, tk := tk, ext := fun _ => none }
noncomputable def FgClone_Flow (k : Nat) (a0 : List I4) : Option (List I4) := den E k 134 [.c (.l 76 sI4 a0)]
theorem egClone_Flow (k : Nat) (a0 : List I4) : FgClone_Flow (k + 1) a0 = agree (a0.isEmpty) (some ([])) (if (0 + a0.length) * 32 ≤ 140737488355328 then some a0 else none) := by kernel_rfl
noncomputable def FiAdmitFlow_1v (k : Nat) (a0 : I4) (a1 : Int) (a2 : Int) (a3 : Int) (a4 : Int) : Option (Bool) := den E k 167 [.agg (avs sI4 a0), .c (.at_ [vI a1, vI a2, vI a3, vI a4])]
theorem eiAdmitFlow_1v (k : Nat) (a0 : I4) (a1 : Int) (a2 : Int) (a3 : Int) (a4 : Int) : FiAdmitFlow_1v (k + 1) a0 a1 a2 a3 a4 = some (a0.1 == a1) := by kernel_rfl
noncomputable def FgIndexFunc_Flowv_iAdmitFlow_1 (k : Nat) (a0 : List I4) (a1 : Int) (a2 : Int) (a3 : Int) (a4 : Int) : Option (Int) := den E k 160 [.c (.l 76 sI4 a0), .c (.clo 167 [.at_ [vI a1, vI a2, vI a3, vI a4]])]
abbrev CgIndexFunc_Flowv_iAdmitFlow_1_0 : Type := (List I4) × Int × Int × Int × Int × Int
abbrev VgIndexFunc_Flowv_iAdmitFlow_1_0 : Type := Int
def StgIndexFunc_Flowv_iAdmitFlow_1_0 (c0 : CgIndexFunc_Flowv_iAdmitFlow_1_0) (v0 : VgIndexFunc_Flowv_iAdmitFlow_1_0) : St := ⟨19, 0, [(0, .c (.l 76 sI4 c0.1)), (1, .c (.clo 167 [.at_ [vI c0.2.1, vI c0.2.2.1, vI c0.2.2.2.1, vI c0.2.2.2.2.1]])), (7, cI c0.2.2.2.2.2), (8, cI v0)], []⟩
noncomputable def BgIndexFunc_Flowv_iAdmitFlow_1_0 {R : Type} (k : Nat) (X0 : VgIndexFunc_Flowv_iAdmitFlow_1_0 → I4 → Bool → Option R) (X1 : VgIndexFunc_Flowv_iAdmitFlow_1_0 → Option R) (c0 : CgIndexFunc_Flowv_iAdmitFlow_1_0) (rec : VgIndexFunc_Flowv_iAdmitFlow_1_0 → Option R) (v0 : VgIndexFunc_Flowv_iAdmitFlow_1_0) : Option R := if (decide (v0 < c0.2.2.2.2.2)) = true then if 0 ≤ v0 then ix c0.1 v0.toNat fun x1 => (FiAdmitFlow_1v k x1 c0.2.1 c0.2.2.1 c0.2.2.2.1 c0.2.2.2.2.1).bind fun p2 => if p2 = true then X0 v0 x1 p2 else rec (IntKind.i64.wrap (v0 + 1)) else none else X1 v0
noncomputable def LgIndexFunc_Flowv_iAdmitFlow_1_0 {R : Type} (k : Nat) (X0 : VgIndexFunc_Flowv_iAdmitFlow_1_0 → I4 → Bool → Option R) (X1 : VgIndexFunc_Flowv_iAdmitFlow_1_0 → Option R) (c : CgIndexFunc_Flowv_iAdmitFlow_1_0) : Nat → VgIndexFunc_Flowv_iAdmitFlow_1_0 → Option R
  | 0, _ => none
  | n + 1, v => BgIndexFunc_Flowv_iAdmitFlow_1_0 k X0 X1 c (LgIndexFunc_Flowv_iAdmitFlow_1_0 k X0 X1 c n) v
def YgIndexFunc_Flowv_iAdmitFlow_1_0_0 {R : Type} (K : Ex → St → Option R) (c0 : CgIndexFunc_Flowv_iAdmitFlow_1_0) (v0 : VgIndexFunc_Flowv_iAdmitFlow_1_0) (x1 : I4) (p2 : Bool) : Option R := K .ret ⟨19, 0, [(0, .c (.l 76 sI4 c0.1)), (1, .c (.clo 167 [.at_ [vI c0.2.1, vI c0.2.2.1, vI c0.2.2.2.1, vI c0.2.2.2.2.1]])), (4, cI v0), (5, cI v0), (7, cI c0.2.2.2.2.2), (8, cI v0), (9, cB (decide (v0 < c0.2.2.2.2.2))), (10, cI v0), (11, .c (.clo 167 [.at_ [vI c0.2.1, vI c0.2.2.1, vI c0.2.2.2.1, vI c0.2.2.2.2.1]])), (12, .c (.l 76 sI4 c0.1)), (13, cI v0), (14, .c (.at_ (avs sI4 x1))), (15, .agg (avs sI4 x1)), (16, cB p2), (17, cI v0)], []⟩
def YgIndexFunc_Flowv_iAdmitFlow_1_0_1 {R : Type} (K : Ex → St → Option R) (c0 : CgIndexFunc_Flowv_iAdmitFlow_1_0) (v0 : VgIndexFunc_Flowv_iAdmitFlow_1_0) : Option R := K (.exit 0) ⟨19, 0, [(0, .c (.l 76 sI4 c0.1)), (1, .c (.clo 167 [.at_ [vI c0.2.1, vI c0.2.2.1, vI c0.2.2.2.1, vI c0.2.2.2.2.1]])), (7, cI c0.2.2.2.2.2), (8, cI v0), (9, cB (decide (v0 < c0.2.2.2.2.2)))], []⟩
theorem lgIndexFunc_Flowv_iAdmitFlow_1_0 {R : Type} (k : Nat) (K : Ex → St → Option R) (c0 : CgIndexFunc_Flowv_iAdmitFlow_1_0) : ∀ (n : Nat) (v : VgIndexFunc_Flowv_iAdmitFlow_1_0), loopRun [0, 0, 1, 7, 8] (run E (den E k) (lv 160) k (nthLoop Tryz.f160 0)) n (StgIndexFunc_Flowv_iAdmitFlow_1_0 c0 v) K = LgIndexFunc_Flowv_iAdmitFlow_1_0 k (YgIndexFunc_Flowv_iAdmitFlow_1_0_0 K c0) (YgIndexFunc_Flowv_iAdmitFlow_1_0_1 K c0) c0 n v := loop_law (B := BgIndexFunc_Flowv_iAdmitFlow_1_0 k (YgIndexFunc_Flowv_iAdmitFlow_1_0_0 K c0) (YgIndexFunc_Flowv_iAdmitFlow_1_0_1 K c0) c0) (fun _ => rfl) (fun n v => by kernel_rfl) (fun _ => rfl) (fun _ _ => rfl)
theorem mgIndexFunc_Flowv_iAdmitFlow_1_0 (k : Nat) (a0 : List I4) (a1 : Int) (a2 : Int) (a3 : Int) (a4 : Int) : FgIndexFunc_Flowv_iAdmitFlow_1 (k + 1) a0 a1 a2 a3 a4 = loopRun (R := Int) [0, 0, 1, 7, 8] (run E (den E k) (lv 160) k (nthLoop Tryz.f160 0)) k (StgIndexFunc_Flowv_iAdmitFlow_1_0 (a0, a1, a2, a3, a4, (a0.length : Int)) 0) (kontAt E (den E k) (lv 160) k (bodyOf Tryz.f160) 0 [] (finish E (rs 160) Tryz.f160 : Ex → St → Option (Int))) := by kernel_rfl
theorem egIndexFunc_Flowv_iAdmitFlow_1 (k : Nat) (a0 : List I4) (a1 : Int) (a2 : Int) (a3 : Int) (a4 : Int) : FgIndexFunc_Flowv_iAdmitFlow_1 (k + 1) a0 a1 a2 a3 a4 = LgIndexFunc_Flowv_iAdmitFlow_1_0 k (fun (v0 : Int) (x1 : I4) (p2 : Bool) => some v0) (fun (v0 : Int) => some (-1)) (a0, a1, a2, a3, a4, (a0.length : Int)) k 0 := by
  rw [mgIndexFunc_Flowv_iAdmitFlow_1_0]
  simp only [lgIndexFunc_Flowv_iAdmitFlow_1_0]
  kernel_rfl
noncomputable def FgContainsFunc_Flowv_iAdmitFlow_1 (k : Nat) (a0 : List I4) (a1 : Int) (a2 : Int) (a3 : Int) (a4 : Int) : Option (Bool) := den E k 166 [.c (.l 76 sI4 a0), .c (.clo 167 [.at_ [vI a1, vI a2, vI a3, vI a4]])]
theorem egContainsFunc_Flowv_iAdmitFlow_1 (k : Nat) (a0 : List I4) (a1 : Int) (a2 : Int) (a3 : Int) (a4 : Int) : FgContainsFunc_Flowv_iAdmitFlow_1 (k + 1) a0 a1 a2 a3 a4 = (FgIndexFunc_Flowv_iAdmitFlow_1 k a0 a1 a2 a3 a4).bind fun p1 => some (decide (p1 ≥ 0)) := by kernel_rfl
noncomputable def FiisIndex (k : Nat) (a0 : Int) (a1 : Int) : Option (Bool) := den E k 89 [cI a0, cI a1]
theorem eiisIndex (k : Nat) (a0 : Int) (a1 : Int) : FiisIndex (k + 1) a0 a1 = if ((decide (a0 ≥ 0)) == true) = true then some (decide (a0 < a1)) else some false := by kernel_rfl
noncomputable def FiPathTo (k : Nat) (a0 : List Int) (a1 : Int) (a2 : Int) : Option (List Int) := den E k 272 [.c (.l 3 (.i .i64) a0), cI a1, cI a2]
abbrev CiPathTo_0 : Type := (List Int) × Int
abbrev ViPathTo_0 : Type := Int × (List Int)
def StiPathTo_0 (c0 : CiPathTo_0) (v0 : ViPathTo_0) : St := ⟨33, 1, [(0, .c (.l 3 (.i .i64) c0.1)), (1, cI v0.1), (2, cI c0.2), (7, .c (.ref 0))], [(0, .arr 3 (.i .i64) v0.2)]⟩
noncomputable def BiPathTo_0 {R : Type} (k : Nat) (X0 : ViPathTo_0 → Bool → Option R) (X1 : ViPathTo_0 → Bool → Option R) (X2 : ViPathTo_0 → Option R) (c0 : CiPathTo_0) (rec : ViPathTo_0 → Option R) (v0 : ViPathTo_0) : Option R := if ((decide ((v0.2.length : Int) ≤ (c0.1.length : Int))) == true) = true then (FiisIndex k v0.1 (c0.1.length : Int)).bind fun p1 => if p1 = true then if (v0.2.length + ([v0.1]).length) * 8 ≤ 140737488355328 then if (v0.1 == c0.2) = true then X0 v0 p1 else if 0 ≤ v0.1 then ix c0.1 v0.1.toNat fun x2 => rec (x2, (v0.2 ++ [v0.1])) else none else none else X1 v0 p1 else X2 v0
noncomputable def LiPathTo_0 {R : Type} (k : Nat) (X0 : ViPathTo_0 → Bool → Option R) (X1 : ViPathTo_0 → Bool → Option R) (X2 : ViPathTo_0 → Option R) (c : CiPathTo_0) : Nat → ViPathTo_0 → Option R
  | 0, _ => none
  | n + 1, v => BiPathTo_0 k X0 X1 X2 c (LiPathTo_0 k X0 X1 X2 c n) v
def YiPathTo_0_0 {R : Type} (K : Ex → St → Option R) (c0 : CiPathTo_0) (v0 : ViPathTo_0) (p1 : Bool) : Option R := K .ret ⟨33, 3, [(0, .c (.l 3 (.i .i64) c0.1)), (1, cI v0.1), (2, cI c0.2), (6, .c (.ref 2)), (7, .c (.ref 2)), (9, .c (.ref 0)), (10, cI (v0.2.length : Int)), (11, .c (.l 3 (.i .i64) c0.1)), (12, cI (c0.1.length : Int)), (13, cB (decide ((v0.2.length : Int) ≤ (c0.1.length : Int)))), (14, cB true), (15, cI v0.1), (16, .c (.l 3 (.i .i64) c0.1)), (17, cI (c0.1.length : Int)), (18, cB p1), (19, cB p1), (20, .c (.ref 0)), (21, cI v0.1), (22, .c (.ref 1)), (23, .c (.ref 2)), (24, cI v0.1), (25, cI c0.2), (26, cB (v0.1 == c0.2)), (27, .c (.ref 2))], [(2, .arr 3 (.i .i64) (v0.2 ++ [v0.1]))]⟩
def YiPathTo_0_1 {R : Type} (K : Ex → St → Option R) (c0 : CiPathTo_0) (v0 : ViPathTo_0) (p1 : Bool) : Option R := K (.exit 0) ⟨33, 1, [(0, .c (.l 3 (.i .i64) c0.1)), (1, cI v0.1), (2, cI c0.2), (7, .c (.ref 0)), (9, .c (.ref 0)), (10, cI (v0.2.length : Int)), (11, .c (.l 3 (.i .i64) c0.1)), (12, cI (c0.1.length : Int)), (13, cB (decide ((v0.2.length : Int) ≤ (c0.1.length : Int)))), (14, cB true), (15, cI v0.1), (16, .c (.l 3 (.i .i64) c0.1)), (17, cI (c0.1.length : Int)), (18, cB p1), (19, cB p1)], [(0, .arr 3 (.i .i64) v0.2)]⟩
def YiPathTo_0_2 {R : Type} (K : Ex → St → Option R) (c0 : CiPathTo_0) (v0 : ViPathTo_0) : Option R := K (.exit 0) ⟨33, 1, [(0, .c (.l 3 (.i .i64) c0.1)), (1, cI v0.1), (2, cI c0.2), (7, .c (.ref 0)), (9, .c (.ref 0)), (10, cI (v0.2.length : Int)), (11, .c (.l 3 (.i .i64) c0.1)), (12, cI (c0.1.length : Int)), (13, cB (decide ((v0.2.length : Int) ≤ (c0.1.length : Int)))), (14, cB false), (15, .tup []), (16, .tup []), (17, .tup []), (18, .tup []), (19, cB false)], [(0, .arr 3 (.i .i64) v0.2)]⟩
theorem liPathTo_0 {R : Type} (k : Nat) (K : Ex → St → Option R) (c0 : CiPathTo_0) : ∀ (n : Nat) (v : ViPathTo_0), loopRun [0, 0, 1, 2, 7] (run E (den E k) (lv 272) k (nthLoop Tryz.f272 0)) n (StiPathTo_0 c0 v) K = LiPathTo_0 k (YiPathTo_0_0 K c0) (YiPathTo_0_1 K c0) (YiPathTo_0_2 K c0) c0 n v := loop_law (B := BiPathTo_0 k (YiPathTo_0_0 K c0) (YiPathTo_0_1 K c0) (YiPathTo_0_2 K c0) c0) (fun _ => rfl) (fun n v => by kernel_rfl) (fun _ => rfl) (fun _ _ => rfl)
theorem miPathTo_0 (k : Nat) (a0 : List Int) (a1 : Int) (a2 : Int) : FiPathTo (k + 1) a0 a1 a2 = loopRun (R := List Int) [0, 0, 1, 2, 7] (run E (den E k) (lv 272) k (nthLoop Tryz.f272 0)) k (StiPathTo_0 (a0, a2) (a1, [])) (kontAt E (den E k) (lv 272) k (bodyOf Tryz.f272) 0 [] (finish E (rs 272) Tryz.f272 : Ex → St → Option (List Int))) := by kernel_rfl
theorem eiPathTo (k : Nat) (a0 : List Int) (a1 : Int) (a2 : Int) : FiPathTo (k + 1) a0 a1 a2 = LiPathTo_0 k (fun (v0 : Int × (List Int)) (p1 : Bool) => some (v0.2 ++ [v0.1])) (fun (v0 : Int × (List Int)) (p1 : Bool) => some ([])) (fun (v0 : Int × (List Int)) => some ([])) (a0, a2) k (a1, []) := by
  rw [miPathTo_0]
  simp only [liPathTo_0]
  kernel_rfl
noncomputable def FiRouteOf (k : Nat) (a0 : Int × (List Int) × List Int) (a1 : Int) : Option (List Int) := den E k 252 [.agg (avs sTable a0), cI a1]
theorem eiRouteOf (k : Nat) (a0 : Int × (List Int) × List Int) (a1 : Int) : FiRouteOf (k + 1) a0 a1 = (FiPathTo k a0.2.2 a1 a0.1).bind fun p1 => some p1 := by kernel_rfl
noncomputable def FgClone_int (k : Nat) (a0 : List Int) : Option (List Int) := den E k 132 [.c (.l 3 (.i .i64) a0)]
theorem egClone_int (k : Nat) (a0 : List Int) : FgClone_int (k + 1) a0 = agree (a0.isEmpty) (some ([])) (if (0 + a0.length) * 8 ≤ 140737488355328 then some a0 else none) := by kernel_rfl
noncomputable def FicloneTable (k : Nat) (a0 : Int × (List Int) × List Int) : Option (Int × (List Int) × List Int) := den E k 202 [.agg (avs sTable a0)]
theorem eicloneTable (k : Nat) (a0 : Int × (List Int) × List Int) : FicloneTable (k + 1) a0 = (FgClone_int k a0.2.1).bind fun p1 => (FgClone_int k a0.2.2).bind fun p2 => some (a0.1, p1, p2) := by kernel_rfl
noncomputable def FiTableIn (k : Nat) (a0 : TProgram) (a1 : Int) (a2 : Int) : Option ((Int × (List Int) × List Int) × Bool) := den E k 180 [.agg (avs sProgram a0), cI a1, cI a2]
theorem eiTableIn (k : Nat) (a0 : TProgram) (a1 : Int) (a2 : Int) : FiTableIn (k + 1) a0 a1 a2 = (FiisIndex k a1 (a0.2.2.2.length : Int)).bind fun p1 => if ((!p1) == false) = true then if 0 ≤ a1 then ix a0.2.2.2 a1.toNat fun x2 => (FiisIndex k a2 (x2.2.2.length : Int)).bind fun p3 => if (!p3) = true then some ((0, [], []), false) else if 0 ≤ a1 then ix a0.2.2.2 a1.toNat fun x4 => if 0 ≤ a2 then ix x4.2.2 a2.toNat fun x5 => (FicloneTable k x5).bind fun p6 => some (p6, true) else none else none else none else some ((0, [], []), false) := by kernel_rfl
noncomputable def FiRouteIn (k : Nat) (a0 : TProgram) (a1 : Int) (a2 : I4) : Option (List Int) := den E k 213 [.agg (avs sProgram a0), cI a1, .agg (avs sI4 a2)]
theorem eiRouteIn (k : Nat) (a0 : TProgram) (a1 : Int) (a2 : I4) : FiRouteIn (k + 1) a0 a1 a2 = (FiTableIn k a0 a1 a2.2.2.1).bind fun p1 => if (!p1.2) = true then some ([]) else (FiRouteOf k p1.1 a2.2.1).bind fun p2 => some p2 := by kernel_rfl
noncomputable def Figoes (k : Nat) (a0 : List Int) (a1 : Int) (a2 : Int) : Option (Bool) := den E k 253 [.c (.l 3 (.i .i64) a0), cI a1, cI a2]
abbrev Cigoes_0 : Type := (List Int) × Int × Int
abbrev Vigoes_0 : Type := Int
def Stigoes_0 (c0 : Cigoes_0) (v0 : Vigoes_0) : St := ⟨29, 0, [(0, .c (.l 3 (.i .i64) c0.1)), (1, cI c0.2.1), (2, cI c0.2.2), (7, cI v0)], []⟩
noncomputable def Bigoes_0 {R : Type} (k : Nat) (X0 : Vigoes_0 → Int → Int → Option R) (X1 : Vigoes_0 → Option R) (c0 : Cigoes_0) (rec : Vigoes_0 → Option R) (v0 : Vigoes_0) : Option R := if (decide (v0 < (c0.1.length : Int))) = true then if 0 ≤ (IntKind.i64.wrap (v0 - 1)) then ix c0.1 ((IntKind.i64.wrap (v0 - 1)).toNat) fun x1 => if ((x1 == c0.2.1) == true) = true then if 0 ≤ v0 then ix c0.1 v0.toNat fun x2 => if (x2 == c0.2.2) = true then X0 v0 x1 x2 else rec (IntKind.i64.wrap (v0 + 1)) else none else rec (IntKind.i64.wrap (v0 + 1)) else none else X1 v0
noncomputable def Ligoes_0 {R : Type} (k : Nat) (X0 : Vigoes_0 → Int → Int → Option R) (X1 : Vigoes_0 → Option R) (c : Cigoes_0) : Nat → Vigoes_0 → Option R
  | 0, _ => none
  | n + 1, v => Bigoes_0 k X0 X1 c (Ligoes_0 k X0 X1 c n) v
def Yigoes_0_0 {R : Type} (K : Ex → St → Option R) (c0 : Cigoes_0) (v0 : Vigoes_0) (x1 : Int) (x2 : Int) : Option R := K .ret ⟨29, 0, [(0, .c (.l 3 (.i .i64) c0.1)), (1, cI c0.2.1), (2, cI c0.2.2), (6, cB true), (7, cI v0), (8, cI v0), (9, .c (.l 3 (.i .i64) c0.1)), (10, cI (c0.1.length : Int)), (11, cB (decide (v0 < (c0.1.length : Int)))), (14, .c (.l 3 (.i .i64) c0.1)), (15, cI v0), (16, cI (IntKind.i64.wrap (v0 - 1))), (17, .c (.at_ [vI x1])), (18, cI x1), (19, cI c0.2.1), (20, cB (x1 == c0.2.1)), (21, cB true), (22, .c (.l 3 (.i .i64) c0.1)), (23, cI v0), (24, .c (.at_ [vI x2])), (25, cI x2), (26, cI c0.2.2), (27, cB (x2 == c0.2.2)), (28, cB (x2 == c0.2.2))], []⟩
def Yigoes_0_1 {R : Type} (K : Ex → St → Option R) (c0 : Cigoes_0) (v0 : Vigoes_0) : Option R := K (.exit 0) ⟨29, 0, [(0, .c (.l 3 (.i .i64) c0.1)), (1, cI c0.2.1), (2, cI c0.2.2), (7, cI v0), (8, cI v0), (9, .c (.l 3 (.i .i64) c0.1)), (10, cI (c0.1.length : Int)), (11, cB (decide (v0 < (c0.1.length : Int))))], []⟩
theorem ligoes_0 {R : Type} (k : Nat) (K : Ex → St → Option R) (c0 : Cigoes_0) : ∀ (n : Nat) (v : Vigoes_0), loopRun [0, 0, 1, 2, 7] (run E (den E k) (lv 253) k (nthLoop Tryz.f253 0)) n (Stigoes_0 c0 v) K = Ligoes_0 k (Yigoes_0_0 K c0) (Yigoes_0_1 K c0) c0 n v := loop_law (B := Bigoes_0 k (Yigoes_0_0 K c0) (Yigoes_0_1 K c0) c0) (fun _ => rfl) (fun n v => by kernel_rfl) (fun _ => rfl) (fun _ _ => rfl)
theorem migoes_0 (k : Nat) (a0 : List Int) (a1 : Int) (a2 : Int) : Figoes (k + 1) a0 a1 a2 = loopRun (R := Bool) [0, 0, 1, 2, 7] (run E (den E k) (lv 253) k (nthLoop Tryz.f253 0)) k (Stigoes_0 (a0, a1, a2) 1) (kontAt E (den E k) (lv 253) k (bodyOf Tryz.f253) 0 [] (finish E (rs 253) Tryz.f253 : Ex → St → Option (Bool))) := by kernel_rfl
theorem eigoes (k : Nat) (a0 : List Int) (a1 : Int) (a2 : Int) : Figoes (k + 1) a0 a1 a2 = Ligoes_0 k (fun (v0 : Int) (x1 : Int) (x2 : Int) => some true) (fun (v0 : Int) => some false) (a0, a1, a2) k 1 := by
  rw [migoes_0]
  simp only [ligoes_0]
  kernel_rfl
noncomputable def FiReservedOn (k : Nat) (a0 : TProgram) (a1 : List I4) (a2 : Int) (a3 : Int) (a4 : Int) : Option (Int) := den E k 214 [.agg (avs sProgram a0), .c (.l 76 sI4 a1), cI a2, cI a3, cI a4]
abbrev CiReservedOn_0 : Type := Int × Int × Int × (List I4) × Int × TProgram
abbrev ViReservedOn_0 : Type := Int × Int
def StiReservedOn_0 (c0 : CiReservedOn_0) (v0 : ViReservedOn_0) : St := ⟨36, 1, [(2, cI c0.1), (3, cI c0.2.1), (4, cI c0.2.2.1), (5, cP 0), (11, cI v0.1), (14, .c (.l 76 sI4 c0.2.2.2.1)), (15, cI c0.2.2.2.2.1), (16, cI v0.2)], [(0, .var (avs sProgram c0.2.2.2.2.2))]⟩
noncomputable def BiReservedOn_0 {R : Type} (k : Nat) (X0 : ViReservedOn_0 → Option R) (c0 : CiReservedOn_0) (rec : ViReservedOn_0 → Option R) (v0 : ViReservedOn_0) : Option R := if (decide (v0.2 < c0.2.2.2.2.1)) = true then if 0 ≤ v0.2 then ix c0.2.2.2.1 v0.2.toNat fun x1 => if ((x1.2.2.2 == 1) == true) = true then (FiRouteIn k c0.2.2.2.2.2 c0.1 x1).bind fun p2 => (Figoes k p2 c0.2.1 c0.2.2.1).bind fun p3 => if p3 = true then rec ((IntKind.i64.wrap (v0.1 + 1)), (IntKind.i64.wrap (v0.2 + 1))) else rec (v0.1, (IntKind.i64.wrap (v0.2 + 1))) else rec (v0.1, (IntKind.i64.wrap (v0.2 + 1))) else none else X0 v0
noncomputable def LiReservedOn_0 {R : Type} (k : Nat) (X0 : ViReservedOn_0 → Option R) (c : CiReservedOn_0) : Nat → ViReservedOn_0 → Option R
  | 0, _ => none
  | n + 1, v => BiReservedOn_0 k X0 c (LiReservedOn_0 k X0 c n) v
def YiReservedOn_0_0 {R : Type} (K : Ex → St → Option R) (c0 : CiReservedOn_0) (v0 : ViReservedOn_0) : Option R := K (.exit 0) ⟨36, 1, [(2, cI c0.1), (3, cI c0.2.1), (4, cI c0.2.2.1), (5, cP 0), (11, cI v0.1), (14, .c (.l 76 sI4 c0.2.2.2.1)), (15, cI c0.2.2.2.2.1), (16, cI v0.2), (17, cB (decide (v0.2 < c0.2.2.2.2.1)))], [(0, .var (avs sProgram c0.2.2.2.2.2))]⟩
theorem liReservedOn_0 {R : Type} (k : Nat) (K : Ex → St → Option R) (c0 : CiReservedOn_0) : ∀ (n : Nat) (v : ViReservedOn_0), loopRun [0, 2, 3, 4, 5, 11, 14, 15, 16] (run E (den E k) (lv 214) k (nthLoop Tryz.f214 0)) n (StiReservedOn_0 c0 v) K = LiReservedOn_0 k (YiReservedOn_0_0 K c0) c0 n v := loop_law (B := BiReservedOn_0 k (YiReservedOn_0_0 K c0) c0) (fun _ => rfl) (fun n v => by kernel_rfl) (fun _ => rfl) (fun _ _ => rfl)
theorem miReservedOn_0 (k : Nat) (a0 : TProgram) (a1 : List I4) (a2 : Int) (a3 : Int) (a4 : Int) : FiReservedOn (k + 1) a0 a1 a2 a3 a4 = loopRun (R := Int) [0, 2, 3, 4, 5, 11, 14, 15, 16] (run E (den E k) (lv 214) k (nthLoop Tryz.f214 0)) k (StiReservedOn_0 (a2, a3, a4, a1, (a1.length : Int), a0) (0, 0)) (kontAt E (den E k) (lv 214) k (bodyOf Tryz.f214) 0 [] (finish E (rs 214) Tryz.f214 : Ex → St → Option (Int))) := by kernel_rfl
theorem eiReservedOn (k : Nat) (a0 : TProgram) (a1 : List I4) (a2 : Int) (a3 : Int) (a4 : Int) : FiReservedOn (k + 1) a0 a1 a2 a3 a4 = LiReservedOn_0 k (fun (v0 : I2) => some v0.1) (a2, a3, a4, a1, (a1.length : Int), a0) k (0, 0) := by
  rw [miReservedOn_0]
  simp only [liReservedOn_0]
  kernel_rfl
noncomputable def FiHasRoom (k : Nat) (a0 : TProgram) (a1 : List I4) (a2 : I4) (a3 : Int) : Option (Bool) := den E k 168 [.agg (avs sProgram a0), .c (.l 76 sI4 a1), .agg (avs sI4 a2), cI a3]
abbrev CiHasRoom_1 : Type := (List I4) × Int × Int × Int × Int × TProgram × I4 × (List Int)
abbrev ViHasRoom_1 : Type := Int
def StiHasRoom_1 (c1 : CiHasRoom_1) (v1 : ViHasRoom_1) : St := ⟨44, 3, [(1, .c (.l 76 sI4 c1.1)), (3, cI c1.2.1), (4, cP 0), (6, cP 1), (9, cI c1.2.2.1), (10, .c (.ref 2)), (11, cI v1), (14, cI c1.2.2.2.1), (15, cI c1.2.2.2.2.1)], [(0, .var (avs sProgram c1.2.2.2.2.2.1)), (1, .var (avs sI4 c1.2.2.2.2.2.2.1)), (2, .arr 3 (.i .i64) c1.2.2.2.2.2.2.2)]⟩
noncomputable def BiHasRoom_1 {R : Type} (k : Nat) (X0 : ViHasRoom_1 → Int → Int → Int → Option R) (X1 : ViHasRoom_1 → Option R) (c1 : CiHasRoom_1) (rec : ViHasRoom_1 → Option R) (v1 : ViHasRoom_1) : Option R := if (decide (v1 < (c1.2.2.2.2.2.2.2.length : Int))) = true then if 0 ≤ (IntKind.i64.wrap (v1 - 1)) then if (IntKind.i64.wrap (v1 - 1)) < (c1.2.2.2.2.2.2.2.length : Int) then ix c1.2.2.2.2.2.2.2 ((IntKind.i64.wrap (v1 - 1)).toNat) fun x2 => if 0 ≤ v1 then if v1 < (c1.2.2.2.2.2.2.2.length : Int) then ix c1.2.2.2.2.2.2.2 v1.toNat fun x3 => (FiReservedOn k c1.2.2.2.2.2.1 c1.1 c1.2.2.1 x2 x3).bind fun p4 => if (decide (p4 ≥ c1.2.1)) = true then X0 v1 x2 x3 p4 else rec (IntKind.i64.wrap (v1 + 1)) else none else none else none else none else X1 v1
noncomputable def LiHasRoom_1 {R : Type} (k : Nat) (X0 : ViHasRoom_1 → Int → Int → Int → Option R) (X1 : ViHasRoom_1 → Option R) (c : CiHasRoom_1) : Nat → ViHasRoom_1 → Option R
  | 0, _ => none
  | n + 1, v => BiHasRoom_1 k X0 X1 c (LiHasRoom_1 k X0 X1 c n) v
def YiHasRoom_1_0 {R : Type} (K : Ex → St → Option R) (c1 : CiHasRoom_1) (v1 : ViHasRoom_1) (x2 : Int) (x3 : Int) (p4 : Int) : Option R := K .ret ⟨44, 3, [(1, .c (.l 76 sI4 c1.1)), (3, cI c1.2.1), (4, cP 0), (6, cP 1), (8, cB false), (9, cI c1.2.2.1), (10, .c (.ref 2)), (11, cI v1), (14, cI c1.2.2.2.1), (15, cI c1.2.2.2.2.1), (22, cI v1), (23, .c (.ref 2)), (24, cI (c1.2.2.2.2.2.2.2.length : Int)), (25, cB (decide (v1 < (c1.2.2.2.2.2.2.2.length : Int)))), (28, .agg (avs sProgram c1.2.2.2.2.2.1)), (29, .c (.l 76 sI4 c1.1)), (30, cI c1.2.2.1), (31, .c (.ref 2)), (32, cI v1), (33, cI (IntKind.i64.wrap (v1 - 1))), (34, .c (.el 2 1 ((IntKind.i64.wrap (v1 - 1)).toNat) 0)), (35, cI x2), (36, .c (.ref 2)), (37, cI v1), (38, .c (.el 2 1 v1.toNat 0)), (39, cI x3), (40, cI p4), (41, cI c1.2.1), (42, cB (decide (p4 ≥ c1.2.1)))], [(0, .var (avs sProgram c1.2.2.2.2.2.1)), (1, .var (avs sI4 c1.2.2.2.2.2.2.1)), (2, .arr 3 (.i .i64) c1.2.2.2.2.2.2.2)]⟩
def YiHasRoom_1_1 {R : Type} (K : Ex → St → Option R) (c1 : CiHasRoom_1) (v1 : ViHasRoom_1) : Option R := K (.exit 2) ⟨44, 3, [(1, .c (.l 76 sI4 c1.1)), (3, cI c1.2.1), (4, cP 0), (6, cP 1), (9, cI c1.2.2.1), (10, .c (.ref 2)), (11, cI v1), (14, cI c1.2.2.2.1), (15, cI c1.2.2.2.2.1), (22, cI v1), (23, .c (.ref 2)), (24, cI (c1.2.2.2.2.2.2.2.length : Int)), (25, cB (decide (v1 < (c1.2.2.2.2.2.2.2.length : Int))))], [(0, .var (avs sProgram c1.2.2.2.2.2.1)), (1, .var (avs sI4 c1.2.2.2.2.2.2.1)), (2, .arr 3 (.i .i64) c1.2.2.2.2.2.2.2)]⟩
theorem liHasRoom_1 {R : Type} (k : Nat) (K : Ex → St → Option R) (c1 : CiHasRoom_1) : ∀ (n : Nat) (v : ViHasRoom_1), loopRun [0, 1, 3, 4, 6, 9, 10, 11, 14, 15] (run E (den E k) (lv 168) k (nthLoop Tryz.f168 1)) n (StiHasRoom_1 c1 v) K = LiHasRoom_1 k (YiHasRoom_1_0 K c1) (YiHasRoom_1_1 K c1) c1 n v := loop_law (B := BiHasRoom_1 k (YiHasRoom_1_0 K c1) (YiHasRoom_1_1 K c1) c1) (fun _ => rfl) (fun n v => by kernel_rfl) (fun _ => rfl) (fun _ _ => rfl)
abbrev CiHasRoom_0 : Type := (List I4) × Int × Int × TProgram × I4
abbrev ViHasRoom_0 : Type := Int
def StiHasRoom_0 (c0 : CiHasRoom_0) (v0 : ViHasRoom_0) : St := ⟨44, 2, [(1, .c (.l 76 sI4 c0.1)), (3, cI c0.2.1), (4, cP 0), (6, cP 1), (14, cI c0.2.2.1), (15, cI v0)], [(0, .var (avs sProgram c0.2.2.2.1)), (1, .var (avs sI4 c0.2.2.2.2))]⟩
noncomputable def BiHasRoom_0 {R : Type} (k : Nat) (X0 : ViHasRoom_0 → (List Int) → Int → Int → Int → Int → Option R) (X1 : ViHasRoom_0 → Option R) (c0 : CiHasRoom_0) (rec : ViHasRoom_0 → Option R) (v0 : ViHasRoom_0) : Option R := if (decide (v0 < c0.2.2.1)) = true then (FiRouteIn k c0.2.2.2.1 v0 c0.2.2.2.2).bind fun p1 => LiHasRoom_1 k (fun (v1 : Int) (x2 : Int) (x3 : Int) (p4 : Int) => X0 v0 p1 v1 x2 x3 p4) (fun (v1 : Int) => rec (IntKind.i64.wrap (v0 + 1))) (c0.1, c0.2.1, v0, c0.2.2.1, v0, c0.2.2.2.1, c0.2.2.2.2, p1) k 1 else X1 v0
noncomputable def LiHasRoom_0 {R : Type} (k : Nat) (X0 : ViHasRoom_0 → (List Int) → Int → Int → Int → Int → Option R) (X1 : ViHasRoom_0 → Option R) (c : CiHasRoom_0) : Nat → ViHasRoom_0 → Option R
  | 0, _ => none
  | n + 1, v => BiHasRoom_0 k X0 X1 c (LiHasRoom_0 k X0 X1 c n) v
def YiHasRoom_0_0 {R : Type} (K : Ex → St → Option R) (c0 : CiHasRoom_0) (v0 : ViHasRoom_0) (p1 : List Int) (v1 : Int) (x2 : Int) (x3 : Int) (p4 : Int) : Option R := K .ret ⟨44, 3, [(1, .c (.l 76 sI4 c0.1)), (3, cI c0.2.1), (4, cP 0), (6, cP 1), (8, cB false), (9, cI v0), (10, .c (.ref 2)), (11, cI v1), (14, cI c0.2.2.1), (15, cI v0), (22, cI v1), (23, .c (.ref 2)), (24, cI (p1.length : Int)), (25, cB (decide (v1 < (p1.length : Int)))), (28, .agg (avs sProgram c0.2.2.2.1)), (29, .c (.l 76 sI4 c0.1)), (30, cI v0), (31, .c (.ref 2)), (32, cI v1), (33, cI (IntKind.i64.wrap (v1 - 1))), (34, .c (.el 2 1 ((IntKind.i64.wrap (v1 - 1)).toNat) 0)), (35, cI x2), (36, .c (.ref 2)), (37, cI v1), (38, .c (.el 2 1 v1.toNat 0)), (39, cI x3), (40, cI p4), (41, cI c0.2.1), (42, cB (decide (p4 ≥ c0.2.1)))], [(0, .var (avs sProgram c0.2.2.2.1)), (1, .var (avs sI4 c0.2.2.2.2)), (2, .arr 3 (.i .i64) p1)]⟩
def YiHasRoom_0_1 {R : Type} (K : Ex → St → Option R) (c0 : CiHasRoom_0) (v0 : ViHasRoom_0) : Option R := K (.exit 0) ⟨44, 2, [(1, .c (.l 76 sI4 c0.1)), (3, cI c0.2.1), (4, cP 0), (6, cP 1), (14, cI c0.2.2.1), (15, cI v0), (16, cB (decide (v0 < c0.2.2.1)))], [(0, .var (avs sProgram c0.2.2.2.1)), (1, .var (avs sI4 c0.2.2.2.2))]⟩
theorem bmiHasRoom_0_0 {R : Type} (k n : Nat) (K : Ex → St → Option R) (c0 : CiHasRoom_0) (v0 : ViHasRoom_0) : loopRun [0, 1, 3, 4, 6, 14, 15] (run E (den E k) (lv 168) k (nthLoop Tryz.f168 0)) (n + 1) (StiHasRoom_0 c0 v0) K = if (decide (v0 < c0.2.2.1)) = true then (FiRouteIn k c0.2.2.2.1 v0 c0.2.2.2.2).bind fun p1 => loopRun [0, 1, 3, 4, 6, 9, 10, 11, 14, 15] (run E (den E k) (lv 168) k (nthLoop Tryz.f168 1)) k (StiHasRoom_1 (c0.1, c0.2.1, v0, c0.2.2.1, v0, c0.2.2.2.1, c0.2.2.2.2, p1) 1) (kontAt E (den E k) (lv 168) k (.loop (nthLoop Tryz.f168 0)) (1 - 0) [(n, [0, 1, 3, 4, 6, 14, 15])] K) else K (.exit 0) ⟨44, 2, [(1, .c (.l 76 sI4 c0.1)), (3, cI c0.2.1), (4, cP 0), (6, cP 1), (14, cI c0.2.2.1), (15, cI v0), (16, cB (decide (v0 < c0.2.2.1)))], [(0, .var (avs sProgram c0.2.2.2.1)), (1, .var (avs sI4 c0.2.2.2.2))]⟩ := by kernel_rfl
theorem biHasRoom_0 {R : Type} (k n : Nat) (K : Ex → St → Option R) (c0 : CiHasRoom_0) (v : ViHasRoom_0) : loopRun [0, 1, 3, 4, 6, 14, 15] (run E (den E k) (lv 168) k (nthLoop Tryz.f168 0)) (n + 1) (StiHasRoom_0 c0 v) K = BiHasRoom_0 k (YiHasRoom_0_0 K c0) (YiHasRoom_0_1 K c0) c0 (fun v => loopRun [0, 1, 3, 4, 6, 14, 15] (run E (den E k) (lv 168) k (nthLoop Tryz.f168 0)) n (StiHasRoom_0 c0 v) K) v := by
  rw [bmiHasRoom_0_0]
  simp only [liHasRoom_1]
  kernel_rfl
theorem liHasRoom_0 {R : Type} (k : Nat) (K : Ex → St → Option R) (c0 : CiHasRoom_0) : ∀ (n : Nat) (v : ViHasRoom_0), loopRun [0, 1, 3, 4, 6, 14, 15] (run E (den E k) (lv 168) k (nthLoop Tryz.f168 0)) n (StiHasRoom_0 c0 v) K = LiHasRoom_0 k (YiHasRoom_0_0 K c0) (YiHasRoom_0_1 K c0) c0 n v := loop_law (B := BiHasRoom_0 k (YiHasRoom_0_0 K c0) (YiHasRoom_0_1 K c0) c0) (fun _ => rfl) (fun n v => biHasRoom_0 k n K c0 v) (fun _ => rfl) (fun _ _ => rfl)
theorem miHasRoom_0 (k : Nat) (a0 : TProgram) (a1 : List I4) (a2 : I4) (a3 : Int) : FiHasRoom (k + 1) a0 a1 a2 a3 = loopRun (R := Bool) [0, 1, 3, 4, 6, 14, 15] (run E (den E k) (lv 168) k (nthLoop Tryz.f168 0)) k (StiHasRoom_0 (a1, a3, (a0.2.2.2.length : Int), a0, a2) 0) (kontAt E (den E k) (lv 168) k (bodyOf Tryz.f168) 0 [] (finish E (rs 168) Tryz.f168 : Ex → St → Option (Bool))) := by kernel_rfl
theorem eiHasRoom (k : Nat) (a0 : TProgram) (a1 : List I4) (a2 : I4) (a3 : Int) : FiHasRoom (k + 1) a0 a1 a2 a3 = LiHasRoom_0 k (fun (v0 : Int) (p1 : List Int) (v1 : Int) (x2 : Int) (x3 : Int) (p4 : Int) => some false) (fun (v0 : Int) => some true) (a1, a3, (a0.2.2.2.length : Int), a0, a2) k 0 := by
  rw [miHasRoom_0]
  simp only [liHasRoom_0]
  kernel_rfl
noncomputable def FiInRange (k : Nat) (a0 : Int) (a1 : Int) (a2 : Int) : Option (Bool) := den E k 101 [cI a0, cI a1, cI a2]
theorem eiInRange (k : Nat) (a0 : Int) (a1 : Int) (a2 : Int) : FiInRange (k + 1) a0 a1 a2 = if ((decide (a1 ≤ a0)) == true) = true then some (decide (a0 ≤ a2)) else some false := by kernel_rfl
noncomputable def FiIsFlow (k : Nat) (a0 : I4) (a1 : Int) : Option (Bool) := den E k 165 [.agg (avs sI4 a0), cI a1]
theorem eiIsFlow (k : Nat) (a0 : I4) (a1 : Int) : FiIsFlow (k + 1) a0 a1 = (FiInRange k a0.1 0 9999).bind fun p1 => if (p1 == true) = true then (FiisIndex k a0.2.1 a1).bind fun p2 => if (p2 == true) = true then (FiisIndex k a0.2.2.1 a1).bind fun p3 => if (p3 == true) = true then if ((a0.2.1 != a0.2.2.1) == true) = true then (FiInRange k a0.2.2.2 0 1).bind fun p4 => some p4 else some false else some false else some false else some false := by kernel_rfl
noncomputable def FiAdmitFlow (k : Nat) (a0 : TProgram) (a1 : List I4) (a2 : I4) (a3 : Int) : Option ((List I4) × Bool) := den E k 95 [.agg (avs sProgram a0), .c (.l 76 sI4 a1), .agg (avs sI4 a2), cI a3]
theorem eiAdmitFlow (k : Nat) (a0 : TProgram) (a1 : List I4) (a2 : I4) (a3 : Int) : FiAdmitFlow (k + 1) a0 a1 a2 a3 = (FgClone_Flow k a1).bind fun p1 => (FiIsFlow k a2 a0.1).bind fun p2 => if ((!p2) == false) = true then if ((decide ((a1.length : Int) ≥ 8)) == false) = true then (FgContainsFunc_Flowv_iAdmitFlow_1 k a1 a2.1 a2.2.1 a2.2.2.1 a2.2.2.2).bind fun p3 => if (p3 == false) = true then if ((a2.2.2.2 == 1) == true) = true then (FiHasRoom k a0 a1 a2 a3).bind fun p4 => if (!p4) = true then some (p1, false) else if (p1.length + ([a2]).length) * 32 ≤ 140737488355328 then some ((p1 ++ [a2]), true) else none else if (p1.length + ([a2]).length) * 32 ≤ 140737488355328 then some ((p1 ++ [a2]), true) else none else some (p1, false) else some (p1, false) else some (p1, false) := by kernel_rfl
noncomputable def FgIndex_int (k : Nat) (a0 : List Int) (a1 : Int) : Option (Int) := den E k 215 [.c (.l 3 (.i .i64) a0), cI a1]
abbrev CgIndex_int_0 : Type := (List Int) × Int × Int
abbrev VgIndex_int_0 : Type := Int
def StgIndex_int_0 (c0 : CgIndex_int_0) (v0 : VgIndex_int_0) : St := ⟨19, 0, [(0, .c (.l 3 (.i .i64) c0.1)), (1, cI c0.2.1), (7, cI c0.2.2), (8, cI v0)], []⟩
noncomputable def BgIndex_int_0 {R : Type} (k : Nat) (X0 : VgIndex_int_0 → Int → Option R) (X1 : VgIndex_int_0 → Option R) (c0 : CgIndex_int_0) (rec : VgIndex_int_0 → Option R) (v0 : VgIndex_int_0) : Option R := if (decide (v0 < c0.2.2)) = true then if 0 ≤ v0 then ix c0.1 v0.toNat fun x1 => if (c0.2.1 == x1) = true then X0 v0 x1 else rec (IntKind.i64.wrap (v0 + 1)) else none else X1 v0
noncomputable def LgIndex_int_0 {R : Type} (k : Nat) (X0 : VgIndex_int_0 → Int → Option R) (X1 : VgIndex_int_0 → Option R) (c : CgIndex_int_0) : Nat → VgIndex_int_0 → Option R
  | 0, _ => none
  | n + 1, v => BgIndex_int_0 k X0 X1 c (LgIndex_int_0 k X0 X1 c n) v
def YgIndex_int_0_0 {R : Type} (K : Ex → St → Option R) (c0 : CgIndex_int_0) (v0 : VgIndex_int_0) (x1 : Int) : Option R := K .ret ⟨19, 0, [(0, .c (.l 3 (.i .i64) c0.1)), (1, cI c0.2.1), (4, cI v0), (5, cI v0), (7, cI c0.2.2), (8, cI v0), (9, cB (decide (v0 < c0.2.2))), (10, cI v0), (11, cI c0.2.1), (12, .c (.l 3 (.i .i64) c0.1)), (13, cI v0), (14, .c (.at_ [vI x1])), (15, cI x1), (16, cB (c0.2.1 == x1)), (17, cI v0)], []⟩
def YgIndex_int_0_1 {R : Type} (K : Ex → St → Option R) (c0 : CgIndex_int_0) (v0 : VgIndex_int_0) : Option R := K (.exit 0) ⟨19, 0, [(0, .c (.l 3 (.i .i64) c0.1)), (1, cI c0.2.1), (7, cI c0.2.2), (8, cI v0), (9, cB (decide (v0 < c0.2.2)))], []⟩
theorem lgIndex_int_0 {R : Type} (k : Nat) (K : Ex → St → Option R) (c0 : CgIndex_int_0) : ∀ (n : Nat) (v : VgIndex_int_0), loopRun [0, 0, 1, 7, 8] (run E (den E k) (lv 215) k (nthLoop Tryz.f215 0)) n (StgIndex_int_0 c0 v) K = LgIndex_int_0 k (YgIndex_int_0_0 K c0) (YgIndex_int_0_1 K c0) c0 n v := loop_law (B := BgIndex_int_0 k (YgIndex_int_0_0 K c0) (YgIndex_int_0_1 K c0) c0) (fun _ => rfl) (fun n v => by kernel_rfl) (fun _ => rfl) (fun _ _ => rfl)
theorem mgIndex_int_0 (k : Nat) (a0 : List Int) (a1 : Int) : FgIndex_int (k + 1) a0 a1 = loopRun (R := Int) [0, 0, 1, 7, 8] (run E (den E k) (lv 215) k (nthLoop Tryz.f215 0)) k (StgIndex_int_0 (a0, a1, (a0.length : Int)) 0) (kontAt E (den E k) (lv 215) k (bodyOf Tryz.f215) 0 [] (finish E (rs 215) Tryz.f215 : Ex → St → Option (Int))) := by kernel_rfl
theorem egIndex_int (k : Nat) (a0 : List Int) (a1 : Int) : FgIndex_int (k + 1) a0 a1 = LgIndex_int_0 k (fun (v0 : Int) (x1 : Int) => some v0) (fun (v0 : Int) => some (-1)) (a0, a1, (a0.length : Int)) k 0 := by
  rw [mgIndex_int_0]
  simp only [lgIndex_int_0]
  kernel_rfl
noncomputable def FgContains_int (k : Nat) (a0 : List Int) (a1 : Int) : Option (Bool) := den E k 169 [.c (.l 3 (.i .i64) a0), cI a1]
theorem egContains_int (k : Nat) (a0 : List Int) (a1 : Int) : FgContains_int (k + 1) a0 a1 = (FgIndex_int k a0 a1).bind fun p1 => some (decide (p1 ≥ 0)) := by kernel_rfl
noncomputable def FiIsLanding (k : Nat) (a0 : List Int) (a1 : TProgram) (a2 : Int) : Option (Bool) := den E k 96 [.agg [.l 3 (.i .i64) a0], .agg (avs sProgram a1), cI a2]
theorem eiIsLanding (k : Nat) (a0 : List Int) (a1 : TProgram) (a2 : Int) : FiIsLanding (k + 1) a0 a1 a2 = (FiisIndex k a2 a1.1).bind fun p1 => if (p1 == true) = true then if ((decide (a2 < a1.2.1)) == false) = true then (FgContains_int k a0 a2).bind fun p2 => some p2 else some true else some false := by kernel_rfl
noncomputable def FgClone_Battery (k : Nat) (a0 : List I6) : Option (List I6) := den E k 133 [.c (.l 176 sI6 a0)]
theorem egClone_Battery (k : Nat) (a0 : List I6) : FgClone_Battery (k + 1) a0 = agree (a0.isEmpty) (some ([])) (if (0 + a0.length) * 48 ≤ 140737488355328 then some a0 else none) := by kernel_rfl
noncomputable def FgClone_Fault (k : Nat) (a0 : List I4) : Option (List I4) := den E k 135 [.c (.l 66 sI4 a0)]
theorem egClone_Fault (k : Nat) (a0 : List I4) : FgClone_Fault (k + 1) a0 = agree (a0.isEmpty) (some ([])) (if (0 + a0.length) * 32 ≤ 140737488355328 then some a0 else none) := by kernel_rfl
noncomputable def FgClone_Packet (k : Nat) (a0 : List I6) : Option (List I6) := den E k 136 [.c (.l 133 sI6 a0)]
theorem egClone_Packet (k : Nat) (a0 : List I6) : FgClone_Packet (k + 1) a0 = agree (a0.isEmpty) (some ([])) (if (0 + a0.length) * 48 ≤ 140737488355328 then some a0 else none) := by kernel_rfl
noncomputable def FgClone_Sent (k : Nat) (a0 : List I4) : Option (List I4) := den E k 137 [.c (.l 84 sI4 a0)]
theorem egClone_Sent (k : Nat) (a0 : List I4) : FgClone_Sent (k + 1) a0 = agree (a0.isEmpty) (some ([])) (if (0 + a0.length) * 32 ≤ 140737488355328 then some a0 else none) := by kernel_rfl
noncomputable def FgClone_Link (k : Nat) (a0 : List I2) : Option (List I2) := den E k 246 [.c (.l 283 sI2 a0)]
theorem egClone_Link (k : Nat) (a0 : List I2) : FgClone_Link (k + 1) a0 = agree (a0.isEmpty) (some ([])) (if (0 + a0.length) * 16 ≤ 140737488355328 then some a0 else none) := by kernel_rfl
noncomputable def FicloneLinks (k : Nat) (a0 : List I2) : Option (List I2) := den E k 201 [.c (.l 283 sI2 a0)]
theorem eicloneLinks (k : Nat) (a0 : List I2) : FicloneLinks (k + 1) a0 = (FgClone_Link k a0).bind fun p1 => some p1 := by kernel_rfl
noncomputable def FicloneProgram (k : Nat) (a0 : TProgram) : Option TProgram := den E k 131 [.agg (avs sProgram a0)]
abbrev CicloneProgram_1 : Type := (List TPiece) × Int × Int × (List (Int × (List Int) × List Int)) × Int × TProgram × Int × Int × Int × (List TPiece) × I2 × (List I2)
abbrev VicloneProgram_1 : Type := Int × (List (Int × (List Int) × List Int))
def SticloneProgram_1 (c1 : CicloneProgram_1) (v1 : VicloneProgram_1) : St := ⟨46, 6, [(1, cP 0), (2, cP 1), (3, .c (.ref 2)), (6, cP 3), (11, .c (.l 219 sPiece c1.1)), (12, cI c1.2.1), (13, cI c1.2.2.1), (24, .c (.l 211 sTable c1.2.2.2.1)), (25, cI c1.2.2.2.2.1), (26, cI v1.1)], [(0, .var (avs sProgram c1.2.2.2.2.2.1)), (1, .var [vI c1.2.2.2.2.2.2.1, vI c1.2.2.2.2.2.2.2.1, vI c1.2.2.2.2.2.2.2.2.1, .v (.slice none 0 0)]), (2, .arr 219 sPiece c1.2.2.2.2.2.2.2.2.2.1), (3, .var [vI c1.2.2.2.2.2.2.2.2.2.2.1.1, vI c1.2.2.2.2.2.2.2.2.2.2.1.2, .ref 4, .ref 5]), (4, .arr 283 sI2 c1.2.2.2.2.2.2.2.2.2.2.2), (5, .arr 211 sTable v1.2)]⟩
noncomputable def BicloneProgram_1 {R : Type} (k : Nat) (X0 : VicloneProgram_1 → Option R) (c1 : CicloneProgram_1) (rec : VicloneProgram_1 → Option R) (v1 : VicloneProgram_1) : Option R := if (decide (v1.1 < c1.2.2.2.2.1)) = true then if 0 ≤ v1.1 then ix c1.2.2.2.1 v1.1.toNat fun x3 => (FicloneTable k x3).bind fun p4 => if (v1.2.length + ([p4]).length) * 56 ≤ 140737488355328 then rec ((IntKind.i64.wrap (v1.1 + 1)), (v1.2 ++ [p4])) else none else none else X0 v1
noncomputable def LicloneProgram_1 {R : Type} (k : Nat) (X0 : VicloneProgram_1 → Option R) (c : CicloneProgram_1) : Nat → VicloneProgram_1 → Option R
  | 0, _ => none
  | n + 1, v => BicloneProgram_1 k X0 c (LicloneProgram_1 k X0 c n) v
def YicloneProgram_1_0 {R : Type} (K : Ex → St → Option R) (c1 : CicloneProgram_1) (v1 : VicloneProgram_1) : Option R := K (.exit 2) ⟨46, 6, [(1, cP 0), (2, cP 1), (3, .c (.ref 2)), (6, cP 3), (11, .c (.l 219 sPiece c1.1)), (12, cI c1.2.1), (13, cI c1.2.2.1), (24, .c (.l 211 sTable c1.2.2.2.1)), (25, cI c1.2.2.2.2.1), (26, cI v1.1), (27, cB (decide (v1.1 < c1.2.2.2.2.1)))], [(0, .var (avs sProgram c1.2.2.2.2.2.1)), (1, .var [vI c1.2.2.2.2.2.2.1, vI c1.2.2.2.2.2.2.2.1, vI c1.2.2.2.2.2.2.2.2.1, .v (.slice none 0 0)]), (2, .arr 219 sPiece c1.2.2.2.2.2.2.2.2.2.1), (3, .var [vI c1.2.2.2.2.2.2.2.2.2.2.1.1, vI c1.2.2.2.2.2.2.2.2.2.2.1.2, .ref 4, .ref 5]), (4, .arr 283 sI2 c1.2.2.2.2.2.2.2.2.2.2.2), (5, .arr 211 sTable v1.2)]⟩
theorem licloneProgram_1 {R : Type} (k : Nat) (K : Ex → St → Option R) (c1 : CicloneProgram_1) : ∀ (n : Nat) (v : VicloneProgram_1), loopRun [0, 1, 2, 3, 6, 11, 12, 13, 24, 25, 26] (run E (den E k) (lv 131) k (nthLoop Tryz.f131 1)) n (SticloneProgram_1 c1 v) K = LicloneProgram_1 k (YicloneProgram_1_0 K c1) c1 n v := loop_law (B := BicloneProgram_1 k (YicloneProgram_1_0 K c1) c1) (fun _ => rfl) (fun n v => by kernel_rfl) (fun _ => rfl) (fun _ _ => rfl)
abbrev CicloneProgram_0 : Type := (List TPiece) × Int × TProgram × Int × Int × Int
abbrev VicloneProgram_0 : Type := Int × (List TPiece)
def SticloneProgram_0 (c0 : CicloneProgram_0) (v0 : VicloneProgram_0) : St := ⟨46, 3, [(1, cP 0), (2, cP 1), (3, .c (.ref 2)), (11, .c (.l 219 sPiece c0.1)), (12, cI c0.2.1), (13, cI v0.1)], [(0, .var (avs sProgram c0.2.2.1)), (1, .var [vI c0.2.2.2.1, vI c0.2.2.2.2.1, vI c0.2.2.2.2.2, .v (.slice none 0 0)]), (2, .arr 219 sPiece v0.2)]⟩
noncomputable def BicloneProgram_0 {R : Type} (k : Nat) (X0 : VicloneProgram_0 → Option R) (c0 : CicloneProgram_0) (rec : VicloneProgram_0 → Option R) (v0 : VicloneProgram_0) : Option R := if (decide (v0.1 < c0.2.1)) = true then if 0 ≤ v0.1 then ix c0.1 v0.1.toNat fun x1 => (FicloneLinks k x1.2.1).bind fun p2 => LicloneProgram_1 k (fun (v1 : Int × (List (Int × (List Int) × List Int))) => if (v0.2.length + ([(x1.1, p2, v1.2)]).length) * 64 ≤ 140737488355328 then rec ((IntKind.i64.wrap (v0.1 + 1)), (v0.2 ++ [(x1.1, p2, v1.2)])) else none) (c0.1, c0.2.1, v0.1, x1.2.2, (x1.2.2.length : Int), c0.2.2.1, c0.2.2.2.1, c0.2.2.2.2.1, c0.2.2.2.2.2, v0.2, x1.1, p2) k (0, []) else none else X0 v0
noncomputable def LicloneProgram_0 {R : Type} (k : Nat) (X0 : VicloneProgram_0 → Option R) (c : CicloneProgram_0) : Nat → VicloneProgram_0 → Option R
  | 0, _ => none
  | n + 1, v => BicloneProgram_0 k X0 c (LicloneProgram_0 k X0 c n) v
def YicloneProgram_0_0 {R : Type} (K : Ex → St → Option R) (c0 : CicloneProgram_0) (v0 : VicloneProgram_0) : Option R := K (.exit 0) ⟨46, 3, [(1, cP 0), (2, cP 1), (3, .c (.ref 2)), (11, .c (.l 219 sPiece c0.1)), (12, cI c0.2.1), (13, cI v0.1), (14, cB (decide (v0.1 < c0.2.1)))], [(0, .var (avs sProgram c0.2.2.1)), (1, .var [vI c0.2.2.2.1, vI c0.2.2.2.2.1, vI c0.2.2.2.2.2, .v (.slice none 0 0)]), (2, .arr 219 sPiece v0.2)]⟩
theorem bmicloneProgram_0_0 {R : Type} (k n : Nat) (K : Ex → St → Option R) (c0 : CicloneProgram_0) (v0 : VicloneProgram_0) : loopRun [0, 1, 2, 3, 11, 12, 13] (run E (den E k) (lv 131) k (nthLoop Tryz.f131 0)) (n + 1) (SticloneProgram_0 c0 v0) K = if (decide (v0.1 < c0.2.1)) = true then if 0 ≤ v0.1 then ix c0.1 v0.1.toNat fun x1 => (FicloneLinks k x1.2.1).bind fun p2 => loopRun [0, 1, 2, 3, 6, 11, 12, 13, 24, 25, 26] (run E (den E k) (lv 131) k (nthLoop Tryz.f131 1)) k (SticloneProgram_1 (c0.1, c0.2.1, v0.1, x1.2.2, (x1.2.2.length : Int), c0.2.2.1, c0.2.2.2.1, c0.2.2.2.2.1, c0.2.2.2.2.2, v0.2, x1.1, p2) (0, [])) (kontAt E (den E k) (lv 131) k (.loop (nthLoop Tryz.f131 0)) (1 - 0) [(n, [0, 1, 2, 3, 11, 12, 13])] K) else none else K (.exit 0) ⟨46, 3, [(1, cP 0), (2, cP 1), (3, .c (.ref 2)), (11, .c (.l 219 sPiece c0.1)), (12, cI c0.2.1), (13, cI v0.1), (14, cB (decide (v0.1 < c0.2.1)))], [(0, .var (avs sProgram c0.2.2.1)), (1, .var [vI c0.2.2.2.1, vI c0.2.2.2.2.1, vI c0.2.2.2.2.2, .v (.slice none 0 0)]), (2, .arr 219 sPiece v0.2)]⟩ := by kernel_rfl
theorem bicloneProgram_0 {R : Type} (k n : Nat) (K : Ex → St → Option R) (c0 : CicloneProgram_0) (v : VicloneProgram_0) : loopRun [0, 1, 2, 3, 11, 12, 13] (run E (den E k) (lv 131) k (nthLoop Tryz.f131 0)) (n + 1) (SticloneProgram_0 c0 v) K = BicloneProgram_0 k (YicloneProgram_0_0 K c0) c0 (fun v => loopRun [0, 1, 2, 3, 11, 12, 13] (run E (den E k) (lv 131) k (nthLoop Tryz.f131 0)) n (SticloneProgram_0 c0 v) K) v := by
  rw [bmicloneProgram_0_0]
  simp only [licloneProgram_1]
  kernel_rfl
theorem licloneProgram_0 {R : Type} (k : Nat) (K : Ex → St → Option R) (c0 : CicloneProgram_0) : ∀ (n : Nat) (v : VicloneProgram_0), loopRun [0, 1, 2, 3, 11, 12, 13] (run E (den E k) (lv 131) k (nthLoop Tryz.f131 0)) n (SticloneProgram_0 c0 v) K = LicloneProgram_0 k (YicloneProgram_0_0 K c0) c0 n v := loop_law (B := BicloneProgram_0 k (YicloneProgram_0_0 K c0) c0) (fun _ => rfl) (fun n v => bicloneProgram_0 k n K c0 v) (fun _ => rfl) (fun _ _ => rfl)
theorem micloneProgram_0 (k : Nat) (a0 : TProgram) : FicloneProgram (k + 1) a0 = loopRun (R := Int × Int × Int × List TPiece) [0, 1, 2, 3, 11, 12, 13] (run E (den E k) (lv 131) k (nthLoop Tryz.f131 0)) k (SticloneProgram_0 (a0.2.2.2, (a0.2.2.2.length : Int), a0, 0, 0, 0) (0, [])) (kontAt E (den E k) (lv 131) k (bodyOf Tryz.f131) 0 [] (finish E (rs 131) Tryz.f131 : Ex → St → Option TProgram)) := by kernel_rfl
theorem eicloneProgram (k : Nat) (a0 : TProgram) : FicloneProgram (k + 1) a0 = LicloneProgram_0 k (fun (v0 : Int × (List TPiece)) => some (a0.1, a0.2.1, a0.2.2.1, v0.2)) (a0.2.2.2, (a0.2.2.2.length : Int), a0, 0, 0, 0) k (0, []) := by
  rw [micloneProgram_0]
  simp only [licloneProgram_0]
  kernel_rfl
noncomputable def FicloneQueue (k : Nat) (a0 : List I6) : Option (List I6) := den E k 138 [.agg [.l 133 sI6 a0]]
theorem eicloneQueue (k : Nat) (a0 : List I6) : FicloneQueue (k + 1) a0 = (FgClone_Packet k a0).bind fun p1 => some p1 := by kernel_rfl
noncomputable def FgClone_Sat (k : Nat) (a0 : List I4) : Option (List I4) := den E k 198 [.c (.l 236 sI4 a0)]
theorem egClone_Sat (k : Nat) (a0 : List I4) : FgClone_Sat (k + 1) a0 = agree (a0.isEmpty) (some ([])) (if (0 + a0.length) * 32 ≤ 140737488355328 then some a0 else none) := by kernel_rfl
noncomputable def FgClone_Site (k : Nat) (a0 : List I3) : Option (List I3) := den E k 199 [.c (.l 240 sI3 a0)]
theorem egClone_Site (k : Nat) (a0 : List I3) : FgClone_Site (k + 1) a0 = agree (a0.isEmpty) (some ([])) (if (0 + a0.length) * 24 ≤ 140737488355328 then some a0 else none) := by kernel_rfl
noncomputable def FgClone_Zone (k : Nat) (a0 : List I3) : Option (List I3) := den E k 200 [.c (.l 246 sZone a0)]
theorem egClone_Zone (k : Nat) (a0 : List I3) : FgClone_Zone (k + 1) a0 = agree (a0.isEmpty) (some ([])) (if (0 + a0.length) * 24 ≤ 140737488355328 then some a0 else none) := by kernel_rfl
noncomputable def FicloneSky (k : Nat) (a0 : TSky) : Option TSky := den E k 130 [.agg (avs sSky a0)]
theorem eicloneSky (k : Nat) (a0 : TSky) : FicloneSky (k + 1) a0 = (FgClone_Sat k a0.2.1).bind fun p1 => (FgClone_Site k a0.2.2.1).bind fun p2 => (FgClone_Zone k a0.2.2.2.2.2.2.2.2.1).bind fun p3 => some (a0.1, p1, p2, a0.2.2.2.1, a0.2.2.2.2.1, a0.2.2.2.2.2.1, a0.2.2.2.2.2.2.1, a0.2.2.2.2.2.2.2.1, p3, a0.2.2.2.2.2.2.2.2.2) := by kernel_rfl
noncomputable def FicloneStream (k : Nat) (a0 : Int × Int × List Int) : Option (Int × Int × List Int) := den E k 139 [.agg (avs sStream a0)]
theorem eicloneStream (k : Nat) (a0 : Int × Int × List Int) : FicloneStream (k + 1) a0 = (FgClone_int k a0.2.2).bind fun p1 => some (a0.1, a0.2.1, p1) := by kernel_rfl
noncomputable def FicloneWorld (k : Nat) (a0 : TWorld) : Option TWorld := den E k 50 [.agg (avs sWorld a0)]
abbrev CicloneWorld_1 : Type := TWorld × (List (List I6)) × Int × Int × (List (Int × Int × List Int)) × Int × Int × Int × Int × Int × Int × Int × Int × Int × Int × Int × Int × Int × Int × Int × Int × Int × Int × Int × Int × Int × Int × Int × Int × Int × (List I4) × (List I3) × (List I3) × (List TPiece) × (List Int) × (List Int) × (List I6) × (List (List I6)) × (List I4) × (List Int) × (List I4) × (List I6) × (List I4)
abbrev VicloneWorld_1 : Type := Int × (List (Int × Int × List Int))
def SticloneWorld_1 (c1 : CicloneWorld_1) (v1 : VicloneWorld_1) : St := ⟨84, 16, [(1, .c (.at_ (avs sWorld c1.1))), (2, cP 0), (3, cP 1), (54, .c (.l 136 sQueue c1.2.1)), (55, cI c1.2.2.1), (56, cI c1.2.2.2.1), (69, .c (.l 145 sStream c1.2.2.2.2.1)), (70, cI c1.2.2.2.2.2.1), (71, cI v1.1)], [(0, .var [vI c1.2.2.2.2.2.2.1, .v (.slice none 0 0), .v (.slice none 0 0), vI c1.2.2.2.2.2.2.2.1, vI c1.2.2.2.2.2.2.2.2.1, vI c1.2.2.2.2.2.2.2.2.2.1, vI c1.2.2.2.2.2.2.2.2.2.2.1, vI c1.2.2.2.2.2.2.2.2.2.2.2.1, .v (.slice none 0 0), vI c1.2.2.2.2.2.2.2.2.2.2.2.2.1, vI c1.2.2.2.2.2.2.2.2.2.2.2.2.2.1, vI c1.2.2.2.2.2.2.2.2.2.2.2.2.2.2.1, vI c1.2.2.2.2.2.2.2.2.2.2.2.2.2.2.2.1, .v (.slice none 0 0), .v (.slice none 0 0), .v (.slice none 0 0), .v (.slice none 0 0), .v (.slice none 0 0), .v (.slice none 0 0), .v (.slice none 0 0), .v (.slice none 0 0), .v (.slice none 0 0), vI c1.2.2.2.2.2.2.2.2.2.2.2.2.2.2.2.2.1, vI c1.2.2.2.2.2.2.2.2.2.2.2.2.2.2.2.2.2.1, .v (.slice none 0 0), .v (.slice none 0 0)]), (1, .var [vI c1.2.2.2.2.2.2.2.2.2.2.2.2.2.2.2.2.2.2.1, .ref 2, .ref 3, vI c1.2.2.2.2.2.2.2.2.2.2.2.2.2.2.2.2.2.2.2.1, vI c1.2.2.2.2.2.2.2.2.2.2.2.2.2.2.2.2.2.2.2.2.1, vI c1.2.2.2.2.2.2.2.2.2.2.2.2.2.2.2.2.2.2.2.2.2.1, vI c1.2.2.2.2.2.2.2.2.2.2.2.2.2.2.2.2.2.2.2.2.2.2.1, vI c1.2.2.2.2.2.2.2.2.2.2.2.2.2.2.2.2.2.2.2.2.2.2.2.1, .ref 4, vI c1.2.2.2.2.2.2.2.2.2.2.2.2.2.2.2.2.2.2.2.2.2.2.2.2.1, vI c1.2.2.2.2.2.2.2.2.2.2.2.2.2.2.2.2.2.2.2.2.2.2.2.2.2.1, vI c1.2.2.2.2.2.2.2.2.2.2.2.2.2.2.2.2.2.2.2.2.2.2.2.2.2.2.1, vI c1.2.2.2.2.2.2.2.2.2.2.2.2.2.2.2.2.2.2.2.2.2.2.2.2.2.2.2.1, .ref 5, .ref 6, .ref 7, .ref 8, .ref 9, .ref 10, .ref 11, .ref 12, .ref 13, vI c1.2.2.2.2.2.2.2.2.2.2.2.2.2.2.2.2.2.2.2.2.2.2.2.2.2.2.2.2.1, vI c1.2.2.2.2.2.2.2.2.2.2.2.2.2.2.2.2.2.2.2.2.2.2.2.2.2.2.2.2.2.1, .ref 14, .ref 15]), (2, .arr 236 sI4 c1.2.2.2.2.2.2.2.2.2.2.2.2.2.2.2.2.2.2.2.2.2.2.2.2.2.2.2.2.2.2.1), (3, .arr 240 sI3 c1.2.2.2.2.2.2.2.2.2.2.2.2.2.2.2.2.2.2.2.2.2.2.2.2.2.2.2.2.2.2.2.1), (4, .arr 246 sZone c1.2.2.2.2.2.2.2.2.2.2.2.2.2.2.2.2.2.2.2.2.2.2.2.2.2.2.2.2.2.2.2.2.1), (5, .arr 219 sPiece c1.2.2.2.2.2.2.2.2.2.2.2.2.2.2.2.2.2.2.2.2.2.2.2.2.2.2.2.2.2.2.2.2.2.1), (6, .arr 3 (.i .i64) c1.2.2.2.2.2.2.2.2.2.2.2.2.2.2.2.2.2.2.2.2.2.2.2.2.2.2.2.2.2.2.2.2.2.2.1), (7, .arr 3 (.i .i64) c1.2.2.2.2.2.2.2.2.2.2.2.2.2.2.2.2.2.2.2.2.2.2.2.2.2.2.2.2.2.2.2.2.2.2.2.1), (8, .arr 176 sI6 c1.2.2.2.2.2.2.2.2.2.2.2.2.2.2.2.2.2.2.2.2.2.2.2.2.2.2.2.2.2.2.2.2.2.2.2.2.1), (9, .arr 136 sQueue c1.2.2.2.2.2.2.2.2.2.2.2.2.2.2.2.2.2.2.2.2.2.2.2.2.2.2.2.2.2.2.2.2.2.2.2.2.2.1), (10, .arr 76 sI4 c1.2.2.2.2.2.2.2.2.2.2.2.2.2.2.2.2.2.2.2.2.2.2.2.2.2.2.2.2.2.2.2.2.2.2.2.2.2.2.1), (11, .arr 3 (.i .i64) c1.2.2.2.2.2.2.2.2.2.2.2.2.2.2.2.2.2.2.2.2.2.2.2.2.2.2.2.2.2.2.2.2.2.2.2.2.2.2.2.1), (12, .arr 145 sStream v1.2), (13, .arr 66 sI4 c1.2.2.2.2.2.2.2.2.2.2.2.2.2.2.2.2.2.2.2.2.2.2.2.2.2.2.2.2.2.2.2.2.2.2.2.2.2.2.2.2.1), (14, .arr 133 sI6 c1.2.2.2.2.2.2.2.2.2.2.2.2.2.2.2.2.2.2.2.2.2.2.2.2.2.2.2.2.2.2.2.2.2.2.2.2.2.2.2.2.2.1), (15, .arr 84 sI4 c1.2.2.2.2.2.2.2.2.2.2.2.2.2.2.2.2.2.2.2.2.2.2.2.2.2.2.2.2.2.2.2.2.2.2.2.2.2.2.2.2.2.2)]⟩
noncomputable def BicloneWorld_1 {R : Type} (k : Nat) (X0 : VicloneWorld_1 → Option R) (c1 : CicloneWorld_1) (rec : VicloneWorld_1 → Option R) (v1 : VicloneWorld_1) : Option R := if (decide (v1.1 < c1.2.2.2.2.2.1)) = true then if 0 ≤ v1.1 then ix c1.2.2.2.2.1 v1.1.toNat fun x11 => (FicloneStream k x11).bind fun p12 => if (v1.2.length + ([p12]).length) * 40 ≤ 140737488355328 then rec ((IntKind.i64.wrap (v1.1 + 1)), (v1.2 ++ [p12])) else none else none else X0 v1
noncomputable def LicloneWorld_1 {R : Type} (k : Nat) (X0 : VicloneWorld_1 → Option R) (c : CicloneWorld_1) : Nat → VicloneWorld_1 → Option R
  | 0, _ => none
  | n + 1, v => BicloneWorld_1 k X0 c (LicloneWorld_1 k X0 c n) v
def YicloneWorld_1_0 {R : Type} (K : Ex → St → Option R) (c1 : CicloneWorld_1) (v1 : VicloneWorld_1) : Option R := K (.exit 2) ⟨84, 16, [(1, .c (.at_ (avs sWorld c1.1))), (2, cP 0), (3, cP 1), (54, .c (.l 136 sQueue c1.2.1)), (55, cI c1.2.2.1), (56, cI c1.2.2.2.1), (69, .c (.l 145 sStream c1.2.2.2.2.1)), (70, cI c1.2.2.2.2.2.1), (71, cI v1.1), (72, cB (decide (v1.1 < c1.2.2.2.2.2.1)))], [(0, .var [vI c1.2.2.2.2.2.2.1, .v (.slice none 0 0), .v (.slice none 0 0), vI c1.2.2.2.2.2.2.2.1, vI c1.2.2.2.2.2.2.2.2.1, vI c1.2.2.2.2.2.2.2.2.2.1, vI c1.2.2.2.2.2.2.2.2.2.2.1, vI c1.2.2.2.2.2.2.2.2.2.2.2.1, .v (.slice none 0 0), vI c1.2.2.2.2.2.2.2.2.2.2.2.2.1, vI c1.2.2.2.2.2.2.2.2.2.2.2.2.2.1, vI c1.2.2.2.2.2.2.2.2.2.2.2.2.2.2.1, vI c1.2.2.2.2.2.2.2.2.2.2.2.2.2.2.2.1, .v (.slice none 0 0), .v (.slice none 0 0), .v (.slice none 0 0), .v (.slice none 0 0), .v (.slice none 0 0), .v (.slice none 0 0), .v (.slice none 0 0), .v (.slice none 0 0), .v (.slice none 0 0), vI c1.2.2.2.2.2.2.2.2.2.2.2.2.2.2.2.2.1, vI c1.2.2.2.2.2.2.2.2.2.2.2.2.2.2.2.2.2.1, .v (.slice none 0 0), .v (.slice none 0 0)]), (1, .var [vI c1.2.2.2.2.2.2.2.2.2.2.2.2.2.2.2.2.2.2.1, .ref 2, .ref 3, vI c1.2.2.2.2.2.2.2.2.2.2.2.2.2.2.2.2.2.2.2.1, vI c1.2.2.2.2.2.2.2.2.2.2.2.2.2.2.2.2.2.2.2.2.1, vI c1.2.2.2.2.2.2.2.2.2.2.2.2.2.2.2.2.2.2.2.2.2.1, vI c1.2.2.2.2.2.2.2.2.2.2.2.2.2.2.2.2.2.2.2.2.2.2.1, vI c1.2.2.2.2.2.2.2.2.2.2.2.2.2.2.2.2.2.2.2.2.2.2.2.1, .ref 4, vI c1.2.2.2.2.2.2.2.2.2.2.2.2.2.2.2.2.2.2.2.2.2.2.2.2.1, vI c1.2.2.2.2.2.2.2.2.2.2.2.2.2.2.2.2.2.2.2.2.2.2.2.2.2.1, vI c1.2.2.2.2.2.2.2.2.2.2.2.2.2.2.2.2.2.2.2.2.2.2.2.2.2.2.1, vI c1.2.2.2.2.2.2.2.2.2.2.2.2.2.2.2.2.2.2.2.2.2.2.2.2.2.2.2.1, .ref 5, .ref 6, .ref 7, .ref 8, .ref 9, .ref 10, .ref 11, .ref 12, .ref 13, vI c1.2.2.2.2.2.2.2.2.2.2.2.2.2.2.2.2.2.2.2.2.2.2.2.2.2.2.2.2.1, vI c1.2.2.2.2.2.2.2.2.2.2.2.2.2.2.2.2.2.2.2.2.2.2.2.2.2.2.2.2.2.1, .ref 14, .ref 15]), (2, .arr 236 sI4 c1.2.2.2.2.2.2.2.2.2.2.2.2.2.2.2.2.2.2.2.2.2.2.2.2.2.2.2.2.2.2.1), (3, .arr 240 sI3 c1.2.2.2.2.2.2.2.2.2.2.2.2.2.2.2.2.2.2.2.2.2.2.2.2.2.2.2.2.2.2.2.1), (4, .arr 246 sZone c1.2.2.2.2.2.2.2.2.2.2.2.2.2.2.2.2.2.2.2.2.2.2.2.2.2.2.2.2.2.2.2.2.1), (5, .arr 219 sPiece c1.2.2.2.2.2.2.2.2.2.2.2.2.2.2.2.2.2.2.2.2.2.2.2.2.2.2.2.2.2.2.2.2.2.1), (6, .arr 3 (.i .i64) c1.2.2.2.2.2.2.2.2.2.2.2.2.2.2.2.2.2.2.2.2.2.2.2.2.2.2.2.2.2.2.2.2.2.2.1), (7, .arr 3 (.i .i64) c1.2.2.2.2.2.2.2.2.2.2.2.2.2.2.2.2.2.2.2.2.2.2.2.2.2.2.2.2.2.2.2.2.2.2.2.1), (8, .arr 176 sI6 c1.2.2.2.2.2.2.2.2.2.2.2.2.2.2.2.2.2.2.2.2.2.2.2.2.2.2.2.2.2.2.2.2.2.2.2.2.1), (9, .arr 136 sQueue c1.2.2.2.2.2.2.2.2.2.2.2.2.2.2.2.2.2.2.2.2.2.2.2.2.2.2.2.2.2.2.2.2.2.2.2.2.2.1), (10, .arr 76 sI4 c1.2.2.2.2.2.2.2.2.2.2.2.2.2.2.2.2.2.2.2.2.2.2.2.2.2.2.2.2.2.2.2.2.2.2.2.2.2.2.1), (11, .arr 3 (.i .i64) c1.2.2.2.2.2.2.2.2.2.2.2.2.2.2.2.2.2.2.2.2.2.2.2.2.2.2.2.2.2.2.2.2.2.2.2.2.2.2.2.1), (12, .arr 145 sStream v1.2), (13, .arr 66 sI4 c1.2.2.2.2.2.2.2.2.2.2.2.2.2.2.2.2.2.2.2.2.2.2.2.2.2.2.2.2.2.2.2.2.2.2.2.2.2.2.2.2.1), (14, .arr 133 sI6 c1.2.2.2.2.2.2.2.2.2.2.2.2.2.2.2.2.2.2.2.2.2.2.2.2.2.2.2.2.2.2.2.2.2.2.2.2.2.2.2.2.2.1), (15, .arr 84 sI4 c1.2.2.2.2.2.2.2.2.2.2.2.2.2.2.2.2.2.2.2.2.2.2.2.2.2.2.2.2.2.2.2.2.2.2.2.2.2.2.2.2.2.2)]⟩
theorem licloneWorld_1 {R : Type} (k : Nat) (K : Ex → St → Option R) (c1 : CicloneWorld_1) : ∀ (n : Nat) (v : VicloneWorld_1), loopRun [0, 1, 2, 3, 54, 55, 56, 69, 70, 71] (run E (den E k) (lv 50) k (nthLoop Tryz.f50 1)) n (SticloneWorld_1 c1 v) K = LicloneWorld_1 k (YicloneWorld_1_0 K c1) c1 n v := loop_law (B := BicloneWorld_1 k (YicloneWorld_1_0 K c1) c1) (fun _ => rfl) (fun n v => by kernel_rfl) (fun _ => rfl) (fun _ _ => rfl)
abbrev CicloneWorld_0 : Type := TWorld × (List (List I6)) × Int × Int × Int × Int × Int × Int × Int × Int × Int × Int × Int × Int × Int × Int × Int × Int × Int × Int × Int × Int × Int × Int × Int × Int × Int × (List I4) × (List I3) × (List I3) × (List TPiece) × (List Int) × (List Int) × (List I6) × (List I4) × (List Int) × (List (Int × Int × List Int)) × (List I4) × (List I6) × (List I4)
abbrev VicloneWorld_0 : Type := Int × (List (List I6))
def SticloneWorld_0 (c0 : CicloneWorld_0) (v0 : VicloneWorld_0) : St := ⟨84, 16, [(1, .c (.at_ (avs sWorld c0.1))), (2, cP 0), (3, cP 1), (54, .c (.l 136 sQueue c0.2.1)), (55, cI c0.2.2.1), (56, cI v0.1)], [(0, .var [vI c0.2.2.2.1, .v (.slice none 0 0), .v (.slice none 0 0), vI c0.2.2.2.2.1, vI c0.2.2.2.2.2.1, vI c0.2.2.2.2.2.2.1, vI c0.2.2.2.2.2.2.2.1, vI c0.2.2.2.2.2.2.2.2.1, .v (.slice none 0 0), vI c0.2.2.2.2.2.2.2.2.2.1, vI c0.2.2.2.2.2.2.2.2.2.2.1, vI c0.2.2.2.2.2.2.2.2.2.2.2.1, vI c0.2.2.2.2.2.2.2.2.2.2.2.2.1, .v (.slice none 0 0), .v (.slice none 0 0), .v (.slice none 0 0), .v (.slice none 0 0), .v (.slice none 0 0), .v (.slice none 0 0), .v (.slice none 0 0), .v (.slice none 0 0), .v (.slice none 0 0), vI c0.2.2.2.2.2.2.2.2.2.2.2.2.2.1, vI c0.2.2.2.2.2.2.2.2.2.2.2.2.2.2.1, .v (.slice none 0 0), .v (.slice none 0 0)]), (1, .var [vI c0.2.2.2.2.2.2.2.2.2.2.2.2.2.2.2.1, .ref 2, .ref 3, vI c0.2.2.2.2.2.2.2.2.2.2.2.2.2.2.2.2.1, vI c0.2.2.2.2.2.2.2.2.2.2.2.2.2.2.2.2.2.1, vI c0.2.2.2.2.2.2.2.2.2.2.2.2.2.2.2.2.2.2.1, vI c0.2.2.2.2.2.2.2.2.2.2.2.2.2.2.2.2.2.2.2.1, vI c0.2.2.2.2.2.2.2.2.2.2.2.2.2.2.2.2.2.2.2.2.1, .ref 4, vI c0.2.2.2.2.2.2.2.2.2.2.2.2.2.2.2.2.2.2.2.2.2.1, vI c0.2.2.2.2.2.2.2.2.2.2.2.2.2.2.2.2.2.2.2.2.2.2.1, vI c0.2.2.2.2.2.2.2.2.2.2.2.2.2.2.2.2.2.2.2.2.2.2.2.1, vI c0.2.2.2.2.2.2.2.2.2.2.2.2.2.2.2.2.2.2.2.2.2.2.2.2.1, .ref 5, .ref 6, .ref 7, .ref 8, .ref 9, .ref 10, .ref 11, .ref 12, .ref 13, vI c0.2.2.2.2.2.2.2.2.2.2.2.2.2.2.2.2.2.2.2.2.2.2.2.2.2.1, vI c0.2.2.2.2.2.2.2.2.2.2.2.2.2.2.2.2.2.2.2.2.2.2.2.2.2.2.1, .ref 14, .ref 15]), (2, .arr 236 sI4 c0.2.2.2.2.2.2.2.2.2.2.2.2.2.2.2.2.2.2.2.2.2.2.2.2.2.2.2.1), (3, .arr 240 sI3 c0.2.2.2.2.2.2.2.2.2.2.2.2.2.2.2.2.2.2.2.2.2.2.2.2.2.2.2.2.1), (4, .arr 246 sZone c0.2.2.2.2.2.2.2.2.2.2.2.2.2.2.2.2.2.2.2.2.2.2.2.2.2.2.2.2.2.1), (5, .arr 219 sPiece c0.2.2.2.2.2.2.2.2.2.2.2.2.2.2.2.2.2.2.2.2.2.2.2.2.2.2.2.2.2.2.1), (6, .arr 3 (.i .i64) c0.2.2.2.2.2.2.2.2.2.2.2.2.2.2.2.2.2.2.2.2.2.2.2.2.2.2.2.2.2.2.2.1), (7, .arr 3 (.i .i64) c0.2.2.2.2.2.2.2.2.2.2.2.2.2.2.2.2.2.2.2.2.2.2.2.2.2.2.2.2.2.2.2.2.1), (8, .arr 176 sI6 c0.2.2.2.2.2.2.2.2.2.2.2.2.2.2.2.2.2.2.2.2.2.2.2.2.2.2.2.2.2.2.2.2.2.1), (9, .arr 136 sQueue v0.2), (10, .arr 76 sI4 c0.2.2.2.2.2.2.2.2.2.2.2.2.2.2.2.2.2.2.2.2.2.2.2.2.2.2.2.2.2.2.2.2.2.2.1), (11, .arr 3 (.i .i64) c0.2.2.2.2.2.2.2.2.2.2.2.2.2.2.2.2.2.2.2.2.2.2.2.2.2.2.2.2.2.2.2.2.2.2.2.1), (12, .arr 145 sStream c0.2.2.2.2.2.2.2.2.2.2.2.2.2.2.2.2.2.2.2.2.2.2.2.2.2.2.2.2.2.2.2.2.2.2.2.2.1), (13, .arr 66 sI4 c0.2.2.2.2.2.2.2.2.2.2.2.2.2.2.2.2.2.2.2.2.2.2.2.2.2.2.2.2.2.2.2.2.2.2.2.2.2.1), (14, .arr 133 sI6 c0.2.2.2.2.2.2.2.2.2.2.2.2.2.2.2.2.2.2.2.2.2.2.2.2.2.2.2.2.2.2.2.2.2.2.2.2.2.2.1), (15, .arr 84 sI4 c0.2.2.2.2.2.2.2.2.2.2.2.2.2.2.2.2.2.2.2.2.2.2.2.2.2.2.2.2.2.2.2.2.2.2.2.2.2.2.2)]⟩
noncomputable def BicloneWorld_0 {R : Type} (k : Nat) (X0 : VicloneWorld_0 → Option R) (c0 : CicloneWorld_0) (rec : VicloneWorld_0 → Option R) (v0 : VicloneWorld_0) : Option R := if (decide (v0.1 < c0.2.2.1)) = true then if 0 ≤ v0.1 then ix c0.2.1 v0.1.toNat fun x11 => (FicloneQueue k x11).bind fun p12 => if (v0.2.length + ([p12]).length) * 24 ≤ 140737488355328 then rec ((IntKind.i64.wrap (v0.1 + 1)), (v0.2 ++ [p12])) else none else none else X0 v0
noncomputable def LicloneWorld_0 {R : Type} (k : Nat) (X0 : VicloneWorld_0 → Option R) (c : CicloneWorld_0) : Nat → VicloneWorld_0 → Option R
  | 0, _ => none
  | n + 1, v => BicloneWorld_0 k X0 c (LicloneWorld_0 k X0 c n) v
def YicloneWorld_0_0 {R : Type} (K : Ex → St → Option R) (c0 : CicloneWorld_0) (v0 : VicloneWorld_0) : Option R := K (.exit 0) ⟨84, 16, [(1, .c (.at_ (avs sWorld c0.1))), (2, cP 0), (3, cP 1), (54, .c (.l 136 sQueue c0.2.1)), (55, cI c0.2.2.1), (56, cI v0.1), (57, cB (decide (v0.1 < c0.2.2.1)))], [(0, .var [vI c0.2.2.2.1, .v (.slice none 0 0), .v (.slice none 0 0), vI c0.2.2.2.2.1, vI c0.2.2.2.2.2.1, vI c0.2.2.2.2.2.2.1, vI c0.2.2.2.2.2.2.2.1, vI c0.2.2.2.2.2.2.2.2.1, .v (.slice none 0 0), vI c0.2.2.2.2.2.2.2.2.2.1, vI c0.2.2.2.2.2.2.2.2.2.2.1, vI c0.2.2.2.2.2.2.2.2.2.2.2.1, vI c0.2.2.2.2.2.2.2.2.2.2.2.2.1, .v (.slice none 0 0), .v (.slice none 0 0), .v (.slice none 0 0), .v (.slice none 0 0), .v (.slice none 0 0), .v (.slice none 0 0), .v (.slice none 0 0), .v (.slice none 0 0), .v (.slice none 0 0), vI c0.2.2.2.2.2.2.2.2.2.2.2.2.2.1, vI c0.2.2.2.2.2.2.2.2.2.2.2.2.2.2.1, .v (.slice none 0 0), .v (.slice none 0 0)]), (1, .var [vI c0.2.2.2.2.2.2.2.2.2.2.2.2.2.2.2.1, .ref 2, .ref 3, vI c0.2.2.2.2.2.2.2.2.2.2.2.2.2.2.2.2.1, vI c0.2.2.2.2.2.2.2.2.2.2.2.2.2.2.2.2.2.1, vI c0.2.2.2.2.2.2.2.2.2.2.2.2.2.2.2.2.2.2.1, vI c0.2.2.2.2.2.2.2.2.2.2.2.2.2.2.2.2.2.2.2.1, vI c0.2.2.2.2.2.2.2.2.2.2.2.2.2.2.2.2.2.2.2.2.1, .ref 4, vI c0.2.2.2.2.2.2.2.2.2.2.2.2.2.2.2.2.2.2.2.2.2.1, vI c0.2.2.2.2.2.2.2.2.2.2.2.2.2.2.2.2.2.2.2.2.2.2.1, vI c0.2.2.2.2.2.2.2.2.2.2.2.2.2.2.2.2.2.2.2.2.2.2.2.1, vI c0.2.2.2.2.2.2.2.2.2.2.2.2.2.2.2.2.2.2.2.2.2.2.2.2.1, .ref 5, .ref 6, .ref 7, .ref 8, .ref 9, .ref 10, .ref 11, .ref 12, .ref 13, vI c0.2.2.2.2.2.2.2.2.2.2.2.2.2.2.2.2.2.2.2.2.2.2.2.2.2.1, vI c0.2.2.2.2.2.2.2.2.2.2.2.2.2.2.2.2.2.2.2.2.2.2.2.2.2.2.1, .ref 14, .ref 15]), (2, .arr 236 sI4 c0.2.2.2.2.2.2.2.2.2.2.2.2.2.2.2.2.2.2.2.2.2.2.2.2.2.2.2.1), (3, .arr 240 sI3 c0.2.2.2.2.2.2.2.2.2.2.2.2.2.2.2.2.2.2.2.2.2.2.2.2.2.2.2.2.1), (4, .arr 246 sZone c0.2.2.2.2.2.2.2.2.2.2.2.2.2.2.2.2.2.2.2.2.2.2.2.2.2.2.2.2.2.1), (5, .arr 219 sPiece c0.2.2.2.2.2.2.2.2.2.2.2.2.2.2.2.2.2.2.2.2.2.2.2.2.2.2.2.2.2.2.1), (6, .arr 3 (.i .i64) c0.2.2.2.2.2.2.2.2.2.2.2.2.2.2.2.2.2.2.2.2.2.2.2.2.2.2.2.2.2.2.2.1), (7, .arr 3 (.i .i64) c0.2.2.2.2.2.2.2.2.2.2.2.2.2.2.2.2.2.2.2.2.2.2.2.2.2.2.2.2.2.2.2.2.1), (8, .arr 176 sI6 c0.2.2.2.2.2.2.2.2.2.2.2.2.2.2.2.2.2.2.2.2.2.2.2.2.2.2.2.2.2.2.2.2.2.1), (9, .arr 136 sQueue v0.2), (10, .arr 76 sI4 c0.2.2.2.2.2.2.2.2.2.2.2.2.2.2.2.2.2.2.2.2.2.2.2.2.2.2.2.2.2.2.2.2.2.2.1), (11, .arr 3 (.i .i64) c0.2.2.2.2.2.2.2.2.2.2.2.2.2.2.2.2.2.2.2.2.2.2.2.2.2.2.2.2.2.2.2.2.2.2.2.1), (12, .arr 145 sStream c0.2.2.2.2.2.2.2.2.2.2.2.2.2.2.2.2.2.2.2.2.2.2.2.2.2.2.2.2.2.2.2.2.2.2.2.2.1), (13, .arr 66 sI4 c0.2.2.2.2.2.2.2.2.2.2.2.2.2.2.2.2.2.2.2.2.2.2.2.2.2.2.2.2.2.2.2.2.2.2.2.2.2.1), (14, .arr 133 sI6 c0.2.2.2.2.2.2.2.2.2.2.2.2.2.2.2.2.2.2.2.2.2.2.2.2.2.2.2.2.2.2.2.2.2.2.2.2.2.2.1), (15, .arr 84 sI4 c0.2.2.2.2.2.2.2.2.2.2.2.2.2.2.2.2.2.2.2.2.2.2.2.2.2.2.2.2.2.2.2.2.2.2.2.2.2.2.2)]⟩
theorem licloneWorld_0 {R : Type} (k : Nat) (K : Ex → St → Option R) (c0 : CicloneWorld_0) : ∀ (n : Nat) (v : VicloneWorld_0), loopRun [0, 1, 2, 3, 54, 55, 56] (run E (den E k) (lv 50) k (nthLoop Tryz.f50 0)) n (SticloneWorld_0 c0 v) K = LicloneWorld_0 k (YicloneWorld_0_0 K c0) c0 n v := loop_law (B := BicloneWorld_0 k (YicloneWorld_0_0 K c0) c0) (fun _ => rfl) (fun n v => by kernel_rfl) (fun _ => rfl) (fun _ _ => rfl)
theorem micloneWorld_0 (k : Nat) (a0 : TWorld) : FicloneWorld (k + 1) a0 = (FicloneSky k a0.1).bind fun p1 => (FicloneProgram k a0.2.1).bind fun p2 => (FgClone_int k a0.2.2.1).bind fun p3 => (FgClone_int k a0.2.2.2.1).bind fun p4 => (FgClone_Battery k a0.2.2.2.2.1).bind fun p5 => (FgClone_Flow k a0.2.2.2.2.2.2.1).bind fun p6 => (FgClone_int k a0.2.2.2.2.2.2.2.1).bind fun p7 => (FgClone_Fault k a0.2.2.2.2.2.2.2.2.2.1).bind fun p8 => (FgClone_Packet k a0.2.2.2.2.2.2.2.2.2.2.2.2.1).bind fun p9 => (FgClone_Sent k a0.2.2.2.2.2.2.2.2.2.2.2.2.2).bind fun p10 => loopRun (R := TSky × TProgram × (List Int) × (List Int) × (List I6) × (List (List I6)) × (List I4) × (List Int) × (List (Int × Int × List Int)) × (List I4) × Int × Int × (List I6) × List I4) [0, 1, 2, 3, 54, 55, 56] (run E (den E k) (lv 50) k (nthLoop Tryz.f50 0)) k (SticloneWorld_0 (a0, a0.2.2.2.2.2.1, (a0.2.2.2.2.2.1.length : Int), 0, 0, 0, 0, 0, 0, 0, 0, 0, 0, 0, 0, p1.1, p1.2.2.2.1, p1.2.2.2.2.1, p1.2.2.2.2.2.1, p1.2.2.2.2.2.2.1, p1.2.2.2.2.2.2.2.1, p1.2.2.2.2.2.2.2.2.2, p2.1, p2.2.1, p2.2.2.1, a0.2.2.2.2.2.2.2.2.2.2.1, a0.2.2.2.2.2.2.2.2.2.2.2.1, p1.2.1, p1.2.2.1, p1.2.2.2.2.2.2.2.2.1, p2.2.2.2, p3, p4, p5, p6, p7, [], p8, p9, p10) (0, [])) (kontAt E (den E k) (lv 50) k (bodyOf Tryz.f50) 0 [] (finish E (rs 50) Tryz.f50 : Ex → St → Option TWorld)) := by kernel_rfl
theorem micloneWorld_1 (k : Nat) (a0 : TWorld) : FicloneWorld (k + 1) a0 = (FicloneSky k a0.1).bind fun p1 => (FicloneProgram k a0.2.1).bind fun p2 => (FgClone_int k a0.2.2.1).bind fun p3 => (FgClone_int k a0.2.2.2.1).bind fun p4 => (FgClone_Battery k a0.2.2.2.2.1).bind fun p5 => (FgClone_Flow k a0.2.2.2.2.2.2.1).bind fun p6 => (FgClone_int k a0.2.2.2.2.2.2.2.1).bind fun p7 => (FgClone_Fault k a0.2.2.2.2.2.2.2.2.2.1).bind fun p8 => (FgClone_Packet k a0.2.2.2.2.2.2.2.2.2.2.2.2.1).bind fun p9 => (FgClone_Sent k a0.2.2.2.2.2.2.2.2.2.2.2.2.2).bind fun p10 => LicloneWorld_0 k (fun (v0 : Int × (List (List I6))) => loopRun (R := TSky × TProgram × (List Int) × (List Int) × (List I6) × (List (List I6)) × (List I4) × (List Int) × (List (Int × Int × List Int)) × (List I4) × Int × Int × (List I6) × List I4) [0, 1, 2, 3, 54, 55, 56, 69, 70, 71] (run E (den E k) (lv 50) k (nthLoop Tryz.f50 1)) k (SticloneWorld_1 (a0, a0.2.2.2.2.2.1, (a0.2.2.2.2.2.1.length : Int), v0.1, a0.2.2.2.2.2.2.2.2.1, (a0.2.2.2.2.2.2.2.2.1.length : Int), 0, 0, 0, 0, 0, 0, 0, 0, 0, 0, 0, 0, p1.1, p1.2.2.2.1, p1.2.2.2.2.1, p1.2.2.2.2.2.1, p1.2.2.2.2.2.2.1, p1.2.2.2.2.2.2.2.1, p1.2.2.2.2.2.2.2.2.2, p2.1, p2.2.1, p2.2.2.1, a0.2.2.2.2.2.2.2.2.2.2.1, a0.2.2.2.2.2.2.2.2.2.2.2.1, p1.2.1, p1.2.2.1, p1.2.2.2.2.2.2.2.2.1, p2.2.2.2, p3, p4, p5, v0.2, p6, p7, p8, p9, p10) (0, ([]))) (kontAt E (den E k) (lv 50) k (bodyOf Tryz.f50) 1 [] (finish E (rs 50) Tryz.f50 : Ex → St → Option TWorld))) (a0, a0.2.2.2.2.2.1, (a0.2.2.2.2.2.1.length : Int), 0, 0, 0, 0, 0, 0, 0, 0, 0, 0, 0, 0, p1.1, p1.2.2.2.1, p1.2.2.2.2.1, p1.2.2.2.2.2.1, p1.2.2.2.2.2.2.1, p1.2.2.2.2.2.2.2.1, p1.2.2.2.2.2.2.2.2.2, p2.1, p2.2.1, p2.2.2.1, a0.2.2.2.2.2.2.2.2.2.2.1, a0.2.2.2.2.2.2.2.2.2.2.2.1, p1.2.1, p1.2.2.1, p1.2.2.2.2.2.2.2.2.1, p2.2.2.2, p3, p4, p5, p6, p7, [], p8, p9, p10) k (0, []) := by 
  rw [micloneWorld_0]
  simp only [licloneWorld_0]
  kernel_rfl
theorem eicloneWorld (k : Nat) (a0 : TWorld) : FicloneWorld (k + 1) a0 = (FicloneSky k a0.1).bind fun p1 => (FicloneProgram k a0.2.1).bind fun p2 => (FgClone_int k a0.2.2.1).bind fun p3 => (FgClone_int k a0.2.2.2.1).bind fun p4 => (FgClone_Battery k a0.2.2.2.2.1).bind fun p5 => (FgClone_Flow k a0.2.2.2.2.2.2.1).bind fun p6 => (FgClone_int k a0.2.2.2.2.2.2.2.1).bind fun p7 => (FgClone_Fault k a0.2.2.2.2.2.2.2.2.2.1).bind fun p8 => (FgClone_Packet k a0.2.2.2.2.2.2.2.2.2.2.2.2.1).bind fun p9 => (FgClone_Sent k a0.2.2.2.2.2.2.2.2.2.2.2.2.2).bind fun p10 => LicloneWorld_0 k (fun (v0 : Int × (List (List I6))) => LicloneWorld_1 k (fun (v1 : Int × (List (Int × Int × List Int))) => some (p1, p2, p3, p4, p5, v0.2, p6, p7, v1.2, p8, a0.2.2.2.2.2.2.2.2.2.2.1, a0.2.2.2.2.2.2.2.2.2.2.2.1, p9, p10)) (a0, a0.2.2.2.2.2.1, (a0.2.2.2.2.2.1.length : Int), v0.1, a0.2.2.2.2.2.2.2.2.1, (a0.2.2.2.2.2.2.2.2.1.length : Int), 0, 0, 0, 0, 0, 0, 0, 0, 0, 0, 0, 0, p1.1, p1.2.2.2.1, p1.2.2.2.2.1, p1.2.2.2.2.2.1, p1.2.2.2.2.2.2.1, p1.2.2.2.2.2.2.2.1, p1.2.2.2.2.2.2.2.2.2, p2.1, p2.2.1, p2.2.2.1, a0.2.2.2.2.2.2.2.2.2.2.1, a0.2.2.2.2.2.2.2.2.2.2.2.1, p1.2.1, p1.2.2.1, p1.2.2.2.2.2.2.2.2.1, p2.2.2.2, p3, p4, p5, v0.2, p6, p7, p8, p9, p10) k (0, ([]))) (a0, a0.2.2.2.2.2.1, (a0.2.2.2.2.2.1.length : Int), 0, 0, 0, 0, 0, 0, 0, 0, 0, 0, 0, 0, p1.1, p1.2.2.2.1, p1.2.2.2.2.1, p1.2.2.2.2.2.1, p1.2.2.2.2.2.2.1, p1.2.2.2.2.2.2.2.1, p1.2.2.2.2.2.2.2.2.2, p2.1, p2.2.1, p2.2.2.1, a0.2.2.2.2.2.2.2.2.2.2.1, a0.2.2.2.2.2.2.2.2.2.2.2.1, p1.2.1, p1.2.2.1, p1.2.2.2.2.2.2.2.2.1, p2.2.2.2, p3, p4, p5, p6, p7, [], p8, p9, p10) k (0, []) := by
  rw [micloneWorld_1]
  simp only [licloneWorld_1]
  kernel_rfl
noncomputable def FiStepFlow (k : Nat) (a0 : TWorld) (a1 : I4) : Option (TWorld × Bool) := den E k 20 [.agg (avs sWorld a0), .agg (avs sI4 a1)]
theorem eiStepFlow (k : Nat) (a0 : TWorld) (a1 : I4) : FiStepFlow (k + 1) a0 a1 = (FicloneWorld k a0).bind fun p1 => (FiAdmitFlow k a0.2.1 a0.2.2.2.2.2.2.1 a1 3).bind fun p2 => if ((!p2.2) == false) = true then (FiIsLanding k a0.2.2.1 a0.2.1 a1.2.2.1).bind fun p3 => if (!p3) = true then (FicloneWorld k a0).bind fun p4 => some (p4, false) else if (p1.2.2.2.2.2.2.2.1.length + ([0]).length) * 8 ≤ 140737488355328 then if (p1.2.2.2.2.2.2.2.2.1.length + ([(a1.1, 0, [])] : List (Int × Int × List Int)).length) * 40 ≤ 140737488355328 then some ((p1.1, p1.2.1, p1.2.2.1, p1.2.2.2.1, p1.2.2.2.2.1, p1.2.2.2.2.2.1, p2.1, (p1.2.2.2.2.2.2.2.1 ++ [0]), (p1.2.2.2.2.2.2.2.2.1 ++ ([(a1.1, 0, [])] : List (Int × Int × List Int))), p1.2.2.2.2.2.2.2.2.2.1, p1.2.2.2.2.2.2.2.2.2.2.1, p1.2.2.2.2.2.2.2.2.2.2.2.1, p1.2.2.2.2.2.2.2.2.2.2.2.2.1, p1.2.2.2.2.2.2.2.2.2.2.2.2.2), true) else none else none else (FicloneWorld k a0).bind fun p5 => some (p5, false) := by kernel_rfl
noncomputable def FleqBattery (k : Nat) (a0 : I6) (a1 : I6) : Option (Bool) := den E k 145 [.agg (avs sI6 a0), .agg (avs sI6 a1)]
theorem eleqBattery (k : Nat) (a0 : I6) (a1 : I6) : FleqBattery (k + 1) a0 a1 = if (a0.1 != a1.1) = true then some false else if (a0.2.1 != a1.2.1) = true then some false else if (a0.2.2.1 != a1.2.2.1) = true then some false else if (a0.2.2.2.1 != a1.2.2.2.1) = true then some false else if (a0.2.2.2.2.1 != a1.2.2.2.2.1) = true then some false else if (a0.2.2.2.2.2 != a1.2.2.2.2.2) = true then some false else some true := by kernel_rfl
noncomputable def FleqBatteryS (k : Nat) (a0 : List I6) (a1 : List I6) : Option (Bool) := den E k 56 [.c (.l 176 sI6 a0), .c (.l 176 sI6 a1)]
abbrev CleqBatteryS_0 : Type := (List I6) × (List I6)
abbrev VleqBatteryS_0 : Type := Int
def StleqBatteryS_0 (c0 : CleqBatteryS_0) (v0 : VleqBatteryS_0) : St := ⟨27, 0, [(0, .c (.l 176 sI6 c0.1)), (1, .c (.l 176 sI6 c0.2)), (5, cI v0)], []⟩
noncomputable def BleqBatteryS_0 {R : Type} (k : Nat) (X0 : VleqBatteryS_0 → I6 → I6 → Bool → Option R) (X1 : VleqBatteryS_0 → Option R) (c0 : CleqBatteryS_0) (rec : VleqBatteryS_0 → Option R) (v0 : VleqBatteryS_0) : Option R := if (decide (v0 < (c0.1.length : Int))) = true then if 0 ≤ v0 then ix c0.1 v0.toNat fun x1 => if 0 ≤ v0 then ix c0.2 v0.toNat fun x2 => (FleqBattery k x1 x2).bind fun p3 => if (!p3) = true then X0 v0 x1 x2 p3 else rec (IntKind.i64.wrap (v0 + 1)) else none else none else X1 v0
noncomputable def LleqBatteryS_0 {R : Type} (k : Nat) (X0 : VleqBatteryS_0 → I6 → I6 → Bool → Option R) (X1 : VleqBatteryS_0 → Option R) (c : CleqBatteryS_0) : Nat → VleqBatteryS_0 → Option R
  | 0, _ => none
  | n + 1, v => BleqBatteryS_0 k X0 X1 c (LleqBatteryS_0 k X0 X1 c n) v
def YleqBatteryS_0_0 {R : Type} (K : Ex → St → Option R) (c0 : CleqBatteryS_0) (v0 : VleqBatteryS_0) (x1 : I6) (x2 : I6) (p3 : Bool) : Option R := K .ret ⟨27, 0, [(0, .c (.l 176 sI6 c0.1)), (1, .c (.l 176 sI6 c0.2)), (4, cB false), (5, cI v0), (11, cI v0), (12, .c (.l 176 sI6 c0.1)), (13, cI (c0.1.length : Int)), (14, cB (decide (v0 < (c0.1.length : Int)))), (17, .c (.l 176 sI6 c0.1)), (18, cI v0), (19, .c (.at_ (avs sI6 x1))), (20, .agg (avs sI6 x1)), (21, .c (.l 176 sI6 c0.2)), (22, cI v0), (23, .c (.at_ (avs sI6 x2))), (24, .agg (avs sI6 x2)), (25, cB p3), (26, cB (!p3))], []⟩
def YleqBatteryS_0_1 {R : Type} (K : Ex → St → Option R) (c0 : CleqBatteryS_0) (v0 : VleqBatteryS_0) : Option R := K (.exit 0) ⟨27, 0, [(0, .c (.l 176 sI6 c0.1)), (1, .c (.l 176 sI6 c0.2)), (5, cI v0), (11, cI v0), (12, .c (.l 176 sI6 c0.1)), (13, cI (c0.1.length : Int)), (14, cB (decide (v0 < (c0.1.length : Int))))], []⟩
theorem lleqBatteryS_0 {R : Type} (k : Nat) (K : Ex → St → Option R) (c0 : CleqBatteryS_0) : ∀ (n : Nat) (v : VleqBatteryS_0), loopRun [0, 0, 1, 5] (run E (den E k) (lv 56) k (nthLoop Tryz.f56 0)) n (StleqBatteryS_0 c0 v) K = LleqBatteryS_0 k (YleqBatteryS_0_0 K c0) (YleqBatteryS_0_1 K c0) c0 n v := loop_law (B := BleqBatteryS_0 k (YleqBatteryS_0_0 K c0) (YleqBatteryS_0_1 K c0) c0) (fun _ => rfl) (fun n v => by kernel_rfl) (fun _ => rfl) (fun _ _ => rfl)
theorem mleqBatteryS_0 (k : Nat) (a0 : List I6) (a1 : List I6) : FleqBatteryS (k + 1) a0 a1 = if ((a0.length : Int) != (a1.length : Int)) = true then some false else loopRun (R := Bool) [0, 0, 1, 5] (run E (den E k) (lv 56) k (nthLoop Tryz.f56 0)) k (StleqBatteryS_0 (a0, a1) 0) (kontAt E (den E k) (lv 56) k (bodyOf Tryz.f56) 0 [] (finish E (rs 56) Tryz.f56 : Ex → St → Option (Bool))) := by kernel_rfl
theorem eleqBatteryS (k : Nat) (a0 : List I6) (a1 : List I6) : FleqBatteryS (k + 1) a0 a1 = if ((a0.length : Int) != (a1.length : Int)) = true then some false else LleqBatteryS_0 k (fun (v0 : Int) (x1 : I6) (x2 : I6) (p3 : Bool) => some false) (fun (v0 : Int) => some true) (a0, a1) k 0 := by
  rw [mleqBatteryS_0]
  simp only [lleqBatteryS_0]
  kernel_rfl
noncomputable def FleqFault (k : Nat) (a0 : I4) (a1 : I4) : Option (Bool) := den E k 149 [.agg (avs sI4 a0), .agg (avs sI4 a1)]
theorem eleqFault (k : Nat) (a0 : I4) (a1 : I4) : FleqFault (k + 1) a0 a1 = if (a0.1 != a1.1) = true then some false else if (a0.2.1 != a1.2.1) = true then some false else if (a0.2.2.1 != a1.2.2.1) = true then some false else if (a0.2.2.2 != a1.2.2.2) = true then some false else some true := by kernel_rfl
noncomputable def FleqFaultS (k : Nat) (a0 : List I4) (a1 : List I4) : Option (Bool) := den E k 60 [.c (.l 66 sI4 a0), .c (.l 66 sI4 a1)]
abbrev CleqFaultS_0 : Type := (List I4) × (List I4)
abbrev VleqFaultS_0 : Type := Int
def StleqFaultS_0 (c0 : CleqFaultS_0) (v0 : VleqFaultS_0) : St := ⟨27, 0, [(0, .c (.l 66 sI4 c0.1)), (1, .c (.l 66 sI4 c0.2)), (5, cI v0)], []⟩
noncomputable def BleqFaultS_0 {R : Type} (k : Nat) (X0 : VleqFaultS_0 → I4 → I4 → Bool → Option R) (X1 : VleqFaultS_0 → Option R) (c0 : CleqFaultS_0) (rec : VleqFaultS_0 → Option R) (v0 : VleqFaultS_0) : Option R := if (decide (v0 < (c0.1.length : Int))) = true then if 0 ≤ v0 then ix c0.1 v0.toNat fun x1 => if 0 ≤ v0 then ix c0.2 v0.toNat fun x2 => (FleqFault k x1 x2).bind fun p3 => if (!p3) = true then X0 v0 x1 x2 p3 else rec (IntKind.i64.wrap (v0 + 1)) else none else none else X1 v0
noncomputable def LleqFaultS_0 {R : Type} (k : Nat) (X0 : VleqFaultS_0 → I4 → I4 → Bool → Option R) (X1 : VleqFaultS_0 → Option R) (c : CleqFaultS_0) : Nat → VleqFaultS_0 → Option R
  | 0, _ => none
  | n + 1, v => BleqFaultS_0 k X0 X1 c (LleqFaultS_0 k X0 X1 c n) v
def YleqFaultS_0_0 {R : Type} (K : Ex → St → Option R) (c0 : CleqFaultS_0) (v0 : VleqFaultS_0) (x1 : I4) (x2 : I4) (p3 : Bool) : Option R := K .ret ⟨27, 0, [(0, .c (.l 66 sI4 c0.1)), (1, .c (.l 66 sI4 c0.2)), (4, cB false), (5, cI v0), (11, cI v0), (12, .c (.l 66 sI4 c0.1)), (13, cI (c0.1.length : Int)), (14, cB (decide (v0 < (c0.1.length : Int)))), (17, .c (.l 66 sI4 c0.1)), (18, cI v0), (19, .c (.at_ (avs sI4 x1))), (20, .agg (avs sI4 x1)), (21, .c (.l 66 sI4 c0.2)), (22, cI v0), (23, .c (.at_ (avs sI4 x2))), (24, .agg (avs sI4 x2)), (25, cB p3), (26, cB (!p3))], []⟩
def YleqFaultS_0_1 {R : Type} (K : Ex → St → Option R) (c0 : CleqFaultS_0) (v0 : VleqFaultS_0) : Option R := K (.exit 0) ⟨27, 0, [(0, .c (.l 66 sI4 c0.1)), (1, .c (.l 66 sI4 c0.2)), (5, cI v0), (11, cI v0), (12, .c (.l 66 sI4 c0.1)), (13, cI (c0.1.length : Int)), (14, cB (decide (v0 < (c0.1.length : Int))))], []⟩
theorem lleqFaultS_0 {R : Type} (k : Nat) (K : Ex → St → Option R) (c0 : CleqFaultS_0) : ∀ (n : Nat) (v : VleqFaultS_0), loopRun [0, 0, 1, 5] (run E (den E k) (lv 60) k (nthLoop Tryz.f60 0)) n (StleqFaultS_0 c0 v) K = LleqFaultS_0 k (YleqFaultS_0_0 K c0) (YleqFaultS_0_1 K c0) c0 n v := loop_law (B := BleqFaultS_0 k (YleqFaultS_0_0 K c0) (YleqFaultS_0_1 K c0) c0) (fun _ => rfl) (fun n v => by kernel_rfl) (fun _ => rfl) (fun _ _ => rfl)
theorem mleqFaultS_0 (k : Nat) (a0 : List I4) (a1 : List I4) : FleqFaultS (k + 1) a0 a1 = if ((a0.length : Int) != (a1.length : Int)) = true then some false else loopRun (R := Bool) [0, 0, 1, 5] (run E (den E k) (lv 60) k (nthLoop Tryz.f60 0)) k (StleqFaultS_0 (a0, a1) 0) (kontAt E (den E k) (lv 60) k (bodyOf Tryz.f60) 0 [] (finish E (rs 60) Tryz.f60 : Ex → St → Option (Bool))) := by kernel_rfl
theorem eleqFaultS (k : Nat) (a0 : List I4) (a1 : List I4) : FleqFaultS (k + 1) a0 a1 = if ((a0.length : Int) != (a1.length : Int)) = true then some false else LleqFaultS_0 k (fun (v0 : Int) (x1 : I4) (x2 : I4) (p3 : Bool) => some false) (fun (v0 : Int) => some true) (a0, a1) k 0 := by
  rw [mleqFaultS_0]
  simp only [lleqFaultS_0]
  kernel_rfl
noncomputable def FleqFlow (k : Nat) (a0 : I4) (a1 : I4) : Option (Bool) := den E k 147 [.agg (avs sI4 a0), .agg (avs sI4 a1)]
theorem eleqFlow (k : Nat) (a0 : I4) (a1 : I4) : FleqFlow (k + 1) a0 a1 = if (a0.1 != a1.1) = true then some false else if (a0.2.1 != a1.2.1) = true then some false else if (a0.2.2.1 != a1.2.2.1) = true then some false else if (a0.2.2.2 != a1.2.2.2) = true then some false else some true := by kernel_rfl
noncomputable def FleqFlowS (k : Nat) (a0 : List I4) (a1 : List I4) : Option (Bool) := den E k 58 [.c (.l 76 sI4 a0), .c (.l 76 sI4 a1)]
abbrev CleqFlowS_0 : Type := (List I4) × (List I4)
abbrev VleqFlowS_0 : Type := Int
def StleqFlowS_0 (c0 : CleqFlowS_0) (v0 : VleqFlowS_0) : St := ⟨27, 0, [(0, .c (.l 76 sI4 c0.1)), (1, .c (.l 76 sI4 c0.2)), (5, cI v0)], []⟩
noncomputable def BleqFlowS_0 {R : Type} (k : Nat) (X0 : VleqFlowS_0 → I4 → I4 → Bool → Option R) (X1 : VleqFlowS_0 → Option R) (c0 : CleqFlowS_0) (rec : VleqFlowS_0 → Option R) (v0 : VleqFlowS_0) : Option R := if (decide (v0 < (c0.1.length : Int))) = true then if 0 ≤ v0 then ix c0.1 v0.toNat fun x1 => if 0 ≤ v0 then ix c0.2 v0.toNat fun x2 => (FleqFlow k x1 x2).bind fun p3 => if (!p3) = true then X0 v0 x1 x2 p3 else rec (IntKind.i64.wrap (v0 + 1)) else none else none else X1 v0
noncomputable def LleqFlowS_0 {R : Type} (k : Nat) (X0 : VleqFlowS_0 → I4 → I4 → Bool → Option R) (X1 : VleqFlowS_0 → Option R) (c : CleqFlowS_0) : Nat → VleqFlowS_0 → Option R
  | 0, _ => none
  | n + 1, v => BleqFlowS_0 k X0 X1 c (LleqFlowS_0 k X0 X1 c n) v
def YleqFlowS_0_0 {R : Type} (K : Ex → St → Option R) (c0 : CleqFlowS_0) (v0 : VleqFlowS_0) (x1 : I4) (x2 : I4) (p3 : Bool) : Option R := K .ret ⟨27, 0, [(0, .c (.l 76 sI4 c0.1)), (1, .c (.l 76 sI4 c0.2)), (4, cB false), (5, cI v0), (11, cI v0), (12, .c (.l 76 sI4 c0.1)), (13, cI (c0.1.length : Int)), (14, cB (decide (v0 < (c0.1.length : Int)))), (17, .c (.l 76 sI4 c0.1)), (18, cI v0), (19, .c (.at_ (avs sI4 x1))), (20, .agg (avs sI4 x1)), (21, .c (.l 76 sI4 c0.2)), (22, cI v0), (23, .c (.at_ (avs sI4 x2))), (24, .agg (avs sI4 x2)), (25, cB p3), (26, cB (!p3))], []⟩
def YleqFlowS_0_1 {R : Type} (K : Ex → St → Option R) (c0 : CleqFlowS_0) (v0 : VleqFlowS_0) : Option R := K (.exit 0) ⟨27, 0, [(0, .c (.l 76 sI4 c0.1)), (1, .c (.l 76 sI4 c0.2)), (5, cI v0), (11, cI v0), (12, .c (.l 76 sI4 c0.1)), (13, cI (c0.1.length : Int)), (14, cB (decide (v0 < (c0.1.length : Int))))], []⟩
theorem lleqFlowS_0 {R : Type} (k : Nat) (K : Ex → St → Option R) (c0 : CleqFlowS_0) : ∀ (n : Nat) (v : VleqFlowS_0), loopRun [0, 0, 1, 5] (run E (den E k) (lv 58) k (nthLoop Tryz.f58 0)) n (StleqFlowS_0 c0 v) K = LleqFlowS_0 k (YleqFlowS_0_0 K c0) (YleqFlowS_0_1 K c0) c0 n v := loop_law (B := BleqFlowS_0 k (YleqFlowS_0_0 K c0) (YleqFlowS_0_1 K c0) c0) (fun _ => rfl) (fun n v => by kernel_rfl) (fun _ => rfl) (fun _ _ => rfl)
theorem mleqFlowS_0 (k : Nat) (a0 : List I4) (a1 : List I4) : FleqFlowS (k + 1) a0 a1 = if ((a0.length : Int) != (a1.length : Int)) = true then some false else loopRun (R := Bool) [0, 0, 1, 5] (run E (den E k) (lv 58) k (nthLoop Tryz.f58 0)) k (StleqFlowS_0 (a0, a1) 0) (kontAt E (den E k) (lv 58) k (bodyOf Tryz.f58) 0 [] (finish E (rs 58) Tryz.f58 : Ex → St → Option (Bool))) := by kernel_rfl
theorem eleqFlowS (k : Nat) (a0 : List I4) (a1 : List I4) : FleqFlowS (k + 1) a0 a1 = if ((a0.length : Int) != (a1.length : Int)) = true then some false else LleqFlowS_0 k (fun (v0 : Int) (x1 : I4) (x2 : I4) (p3 : Bool) => some false) (fun (v0 : Int) => some true) (a0, a1) k 0 := by
  rw [mleqFlowS_0]
  simp only [lleqFlowS_0]
  kernel_rfl
noncomputable def FleqIntS (k : Nat) (a0 : List Int) (a1 : List Int) : Option (Bool) := den E k 55 [.c (.l 3 (.i .i64) a0), .c (.l 3 (.i .i64) a1)]
abbrev CleqIntS_0 : Type := (List Int) × (List Int)
abbrev VleqIntS_0 : Type := Int
def StleqIntS_0 (c0 : CleqIntS_0) (v0 : VleqIntS_0) : St := ⟨26, 0, [(0, .c (.l 3 (.i .i64) c0.1)), (1, .c (.l 3 (.i .i64) c0.2)), (5, cI v0)], []⟩
noncomputable def BleqIntS_0 {R : Type} (k : Nat) (X0 : VleqIntS_0 → Int → Int → Option R) (X1 : VleqIntS_0 → Option R) (c0 : CleqIntS_0) (rec : VleqIntS_0 → Option R) (v0 : VleqIntS_0) : Option R := if (decide (v0 < (c0.1.length : Int))) = true then if 0 ≤ v0 then ix c0.1 v0.toNat fun x1 => if 0 ≤ v0 then ix c0.2 v0.toNat fun x2 => if (x1 != x2) = true then X0 v0 x1 x2 else rec (IntKind.i64.wrap (v0 + 1)) else none else none else X1 v0
noncomputable def LleqIntS_0 {R : Type} (k : Nat) (X0 : VleqIntS_0 → Int → Int → Option R) (X1 : VleqIntS_0 → Option R) (c : CleqIntS_0) : Nat → VleqIntS_0 → Option R
  | 0, _ => none
  | n + 1, v => BleqIntS_0 k X0 X1 c (LleqIntS_0 k X0 X1 c n) v
def YleqIntS_0_0 {R : Type} (K : Ex → St → Option R) (c0 : CleqIntS_0) (v0 : VleqIntS_0) (x1 : Int) (x2 : Int) : Option R := K .ret ⟨26, 0, [(0, .c (.l 3 (.i .i64) c0.1)), (1, .c (.l 3 (.i .i64) c0.2)), (4, cB false), (5, cI v0), (11, cI v0), (12, .c (.l 3 (.i .i64) c0.1)), (13, cI (c0.1.length : Int)), (14, cB (decide (v0 < (c0.1.length : Int)))), (17, .c (.l 3 (.i .i64) c0.1)), (18, cI v0), (19, .c (.at_ [vI x1])), (20, cI x1), (21, .c (.l 3 (.i .i64) c0.2)), (22, cI v0), (23, .c (.at_ [vI x2])), (24, cI x2), (25, cB (x1 != x2))], []⟩
def YleqIntS_0_1 {R : Type} (K : Ex → St → Option R) (c0 : CleqIntS_0) (v0 : VleqIntS_0) : Option R := K (.exit 0) ⟨26, 0, [(0, .c (.l 3 (.i .i64) c0.1)), (1, .c (.l 3 (.i .i64) c0.2)), (5, cI v0), (11, cI v0), (12, .c (.l 3 (.i .i64) c0.1)), (13, cI (c0.1.length : Int)), (14, cB (decide (v0 < (c0.1.length : Int))))], []⟩
theorem lleqIntS_0 {R : Type} (k : Nat) (K : Ex → St → Option R) (c0 : CleqIntS_0) : ∀ (n : Nat) (v : VleqIntS_0), loopRun [0, 0, 1, 5] (run E (den E k) (lv 55) k (nthLoop Tryz.f55 0)) n (StleqIntS_0 c0 v) K = LleqIntS_0 k (YleqIntS_0_0 K c0) (YleqIntS_0_1 K c0) c0 n v := loop_law (B := BleqIntS_0 k (YleqIntS_0_0 K c0) (YleqIntS_0_1 K c0) c0) (fun _ => rfl) (fun n v => by kernel_rfl) (fun _ => rfl) (fun _ _ => rfl)
theorem mleqIntS_0 (k : Nat) (a0 : List Int) (a1 : List Int) : FleqIntS (k + 1) a0 a1 = if ((a0.length : Int) != (a1.length : Int)) = true then some false else loopRun (R := Bool) [0, 0, 1, 5] (run E (den E k) (lv 55) k (nthLoop Tryz.f55 0)) k (StleqIntS_0 (a0, a1) 0) (kontAt E (den E k) (lv 55) k (bodyOf Tryz.f55) 0 [] (finish E (rs 55) Tryz.f55 : Ex → St → Option (Bool))) := by kernel_rfl
theorem eleqIntS (k : Nat) (a0 : List Int) (a1 : List Int) : FleqIntS (k + 1) a0 a1 = if ((a0.length : Int) != (a1.length : Int)) = true then some false else LleqIntS_0 k (fun (v0 : Int) (x1 : Int) (x2 : Int) => some false) (fun (v0 : Int) => some true) (a0, a1) k 0 := by
  rw [mleqIntS_0]
  simp only [lleqIntS_0]
  kernel_rfl
noncomputable def FleqLaw (k : Nat) (a0 : List Int) (a1 : List Int) : Option (Bool) := den E k 54 [.agg [.l 3 (.i .i64) a0], .agg [.l 3 (.i .i64) a1]]
theorem eleqLaw (k : Nat) (a0 : List Int) (a1 : List Int) : FleqLaw (k + 1) a0 a1 = (FleqIntS k a0 a1).bind fun p1 => if (!p1) = true then some false else some true := by kernel_rfl
noncomputable def FleqPacket (k : Nat) (a0 : I6) (a1 : I6) : Option (Bool) := den E k 150 [.agg (avs sI6 a0), .agg (avs sI6 a1)]
theorem eleqPacket (k : Nat) (a0 : I6) (a1 : I6) : FleqPacket (k + 1) a0 a1 = if (a0.1 != a1.1) = true then some false else if (a0.2.1 != a1.2.1) = true then some false else if (a0.2.2.1 != a1.2.2.1) = true then some false else if (a0.2.2.2.1 != a1.2.2.2.1) = true then some false else if (a0.2.2.2.2.1 != a1.2.2.2.2.1) = true then some false else if (a0.2.2.2.2.2 != a1.2.2.2.2.2) = true then some false else some true := by kernel_rfl
noncomputable def FleqPacketS (k : Nat) (a0 : List I6) (a1 : List I6) : Option (Bool) := den E k 61 [.c (.l 133 sI6 a0), .c (.l 133 sI6 a1)]
abbrev CleqPacketS_0 : Type := (List I6) × (List I6)
abbrev VleqPacketS_0 : Type := Int
def StleqPacketS_0 (c0 : CleqPacketS_0) (v0 : VleqPacketS_0) : St := ⟨27, 0, [(0, .c (.l 133 sI6 c0.1)), (1, .c (.l 133 sI6 c0.2)), (5, cI v0)], []⟩
noncomputable def BleqPacketS_0 {R : Type} (k : Nat) (X0 : VleqPacketS_0 → I6 → I6 → Bool → Option R) (X1 : VleqPacketS_0 → Option R) (c0 : CleqPacketS_0) (rec : VleqPacketS_0 → Option R) (v0 : VleqPacketS_0) : Option R := if (decide (v0 < (c0.1.length : Int))) = true then if 0 ≤ v0 then ix c0.1 v0.toNat fun x1 => if 0 ≤ v0 then ix c0.2 v0.toNat fun x2 => (FleqPacket k x1 x2).bind fun p3 => if (!p3) = true then X0 v0 x1 x2 p3 else rec (IntKind.i64.wrap (v0 + 1)) else none else none else X1 v0
noncomputable def LleqPacketS_0 {R : Type} (k : Nat) (X0 : VleqPacketS_0 → I6 → I6 → Bool → Option R) (X1 : VleqPacketS_0 → Option R) (c : CleqPacketS_0) : Nat → VleqPacketS_0 → Option R
  | 0, _ => none
  | n + 1, v => BleqPacketS_0 k X0 X1 c (LleqPacketS_0 k X0 X1 c n) v
def YleqPacketS_0_0 {R : Type} (K : Ex → St → Option R) (c0 : CleqPacketS_0) (v0 : VleqPacketS_0) (x1 : I6) (x2 : I6) (p3 : Bool) : Option R := K .ret ⟨27, 0, [(0, .c (.l 133 sI6 c0.1)), (1, .c (.l 133 sI6 c0.2)), (4, cB false), (5, cI v0), (11, cI v0), (12, .c (.l 133 sI6 c0.1)), (13, cI (c0.1.length : Int)), (14, cB (decide (v0 < (c0.1.length : Int)))), (17, .c (.l 133 sI6 c0.1)), (18, cI v0), (19, .c (.at_ (avs sI6 x1))), (20, .agg (avs sI6 x1)), (21, .c (.l 133 sI6 c0.2)), (22, cI v0), (23, .c (.at_ (avs sI6 x2))), (24, .agg (avs sI6 x2)), (25, cB p3), (26, cB (!p3))], []⟩
def YleqPacketS_0_1 {R : Type} (K : Ex → St → Option R) (c0 : CleqPacketS_0) (v0 : VleqPacketS_0) : Option R := K (.exit 0) ⟨27, 0, [(0, .c (.l 133 sI6 c0.1)), (1, .c (.l 133 sI6 c0.2)), (5, cI v0), (11, cI v0), (12, .c (.l 133 sI6 c0.1)), (13, cI (c0.1.length : Int)), (14, cB (decide (v0 < (c0.1.length : Int))))], []⟩
theorem lleqPacketS_0 {R : Type} (k : Nat) (K : Ex → St → Option R) (c0 : CleqPacketS_0) : ∀ (n : Nat) (v : VleqPacketS_0), loopRun [0, 0, 1, 5] (run E (den E k) (lv 61) k (nthLoop Tryz.f61 0)) n (StleqPacketS_0 c0 v) K = LleqPacketS_0 k (YleqPacketS_0_0 K c0) (YleqPacketS_0_1 K c0) c0 n v := loop_law (B := BleqPacketS_0 k (YleqPacketS_0_0 K c0) (YleqPacketS_0_1 K c0) c0) (fun _ => rfl) (fun n v => by kernel_rfl) (fun _ => rfl) (fun _ _ => rfl)
theorem mleqPacketS_0 (k : Nat) (a0 : List I6) (a1 : List I6) : FleqPacketS (k + 1) a0 a1 = if ((a0.length : Int) != (a1.length : Int)) = true then some false else loopRun (R := Bool) [0, 0, 1, 5] (run E (den E k) (lv 61) k (nthLoop Tryz.f61 0)) k (StleqPacketS_0 (a0, a1) 0) (kontAt E (den E k) (lv 61) k (bodyOf Tryz.f61) 0 [] (finish E (rs 61) Tryz.f61 : Ex → St → Option (Bool))) := by kernel_rfl
theorem eleqPacketS (k : Nat) (a0 : List I6) (a1 : List I6) : FleqPacketS (k + 1) a0 a1 = if ((a0.length : Int) != (a1.length : Int)) = true then some false else LleqPacketS_0 k (fun (v0 : Int) (x1 : I6) (x2 : I6) (p3 : Bool) => some false) (fun (v0 : Int) => some true) (a0, a1) k 0 := by
  rw [mleqPacketS_0]
  simp only [lleqPacketS_0]
  kernel_rfl
noncomputable def FleqLink (k : Nat) (a0 : I2) (a1 : I2) : Option (Bool) := den E k 269 [.agg [vI a0.1, vI a0.2], .agg [vI a1.1, vI a1.2]]
theorem eleqLink (k : Nat) (a0 : I2) (a1 : I2) : FleqLink (k + 1) a0 a1 = if (a0.1 != a1.1) = true then some false else if (a0.2 != a1.2) = true then some false else some true := by kernel_rfl
noncomputable def FleqLinkS (k : Nat) (a0 : List I2) (a1 : List I2) : Option (Bool) := den E k 249 [.c (.l 283 sI2 a0), .c (.l 283 sI2 a1)]
abbrev CleqLinkS_0 : Type := (List I2) × (List I2)
abbrev VleqLinkS_0 : Type := Int
def StleqLinkS_0 (c0 : CleqLinkS_0) (v0 : VleqLinkS_0) : St := ⟨27, 0, [(0, .c (.l 283 sI2 c0.1)), (1, .c (.l 283 sI2 c0.2)), (5, cI v0)], []⟩
noncomputable def BleqLinkS_0 {R : Type} (k : Nat) (X0 : VleqLinkS_0 → I2 → I2 → Bool → Option R) (X1 : VleqLinkS_0 → Option R) (c0 : CleqLinkS_0) (rec : VleqLinkS_0 → Option R) (v0 : VleqLinkS_0) : Option R := if (decide (v0 < (c0.1.length : Int))) = true then if 0 ≤ v0 then ix c0.1 v0.toNat fun x1 => if 0 ≤ v0 then ix c0.2 v0.toNat fun x2 => (FleqLink k x1 x2).bind fun p3 => if (!p3) = true then X0 v0 x1 x2 p3 else rec (IntKind.i64.wrap (v0 + 1)) else none else none else X1 v0
noncomputable def LleqLinkS_0 {R : Type} (k : Nat) (X0 : VleqLinkS_0 → I2 → I2 → Bool → Option R) (X1 : VleqLinkS_0 → Option R) (c : CleqLinkS_0) : Nat → VleqLinkS_0 → Option R
  | 0, _ => none
  | n + 1, v => BleqLinkS_0 k X0 X1 c (LleqLinkS_0 k X0 X1 c n) v
def YleqLinkS_0_0 {R : Type} (K : Ex → St → Option R) (c0 : CleqLinkS_0) (v0 : VleqLinkS_0) (x1 : I2) (x2 : I2) (p3 : Bool) : Option R := K .ret ⟨27, 0, [(0, .c (.l 283 sI2 c0.1)), (1, .c (.l 283 sI2 c0.2)), (4, cB false), (5, cI v0), (11, cI v0), (12, .c (.l 283 sI2 c0.1)), (13, cI (c0.1.length : Int)), (14, cB (decide (v0 < (c0.1.length : Int)))), (17, .c (.l 283 sI2 c0.1)), (18, cI v0), (19, .c (.at_ [vI x1.1, vI x1.2])), (20, .agg [vI x1.1, vI x1.2]), (21, .c (.l 283 sI2 c0.2)), (22, cI v0), (23, .c (.at_ [vI x2.1, vI x2.2])), (24, .agg [vI x2.1, vI x2.2]), (25, cB p3), (26, cB (!p3))], []⟩
def YleqLinkS_0_1 {R : Type} (K : Ex → St → Option R) (c0 : CleqLinkS_0) (v0 : VleqLinkS_0) : Option R := K (.exit 0) ⟨27, 0, [(0, .c (.l 283 sI2 c0.1)), (1, .c (.l 283 sI2 c0.2)), (5, cI v0), (11, cI v0), (12, .c (.l 283 sI2 c0.1)), (13, cI (c0.1.length : Int)), (14, cB (decide (v0 < (c0.1.length : Int))))], []⟩
theorem lleqLinkS_0 {R : Type} (k : Nat) (K : Ex → St → Option R) (c0 : CleqLinkS_0) : ∀ (n : Nat) (v : VleqLinkS_0), loopRun [0, 0, 1, 5] (run E (den E k) (lv 249) k (nthLoop Tryz.f249 0)) n (StleqLinkS_0 c0 v) K = LleqLinkS_0 k (YleqLinkS_0_0 K c0) (YleqLinkS_0_1 K c0) c0 n v := loop_law (B := BleqLinkS_0 k (YleqLinkS_0_0 K c0) (YleqLinkS_0_1 K c0) c0) (fun _ => rfl) (fun n v => by kernel_rfl) (fun _ => rfl) (fun _ _ => rfl)
theorem mleqLinkS_0 (k : Nat) (a0 : List I2) (a1 : List I2) : FleqLinkS (k + 1) a0 a1 = if ((a0.length : Int) != (a1.length : Int)) = true then some false else loopRun (R := Bool) [0, 0, 1, 5] (run E (den E k) (lv 249) k (nthLoop Tryz.f249 0)) k (StleqLinkS_0 (a0, a1) 0) (kontAt E (den E k) (lv 249) k (bodyOf Tryz.f249) 0 [] (finish E (rs 249) Tryz.f249 : Ex → St → Option (Bool))) := by kernel_rfl
theorem eleqLinkS (k : Nat) (a0 : List I2) (a1 : List I2) : FleqLinkS (k + 1) a0 a1 = if ((a0.length : Int) != (a1.length : Int)) = true then some false else LleqLinkS_0 k (fun (v0 : Int) (x1 : I2) (x2 : I2) (p3 : Bool) => some false) (fun (v0 : Int) => some true) (a0, a1) k 0 := by
  rw [mleqLinkS_0]
  simp only [lleqLinkS_0]
  kernel_rfl
noncomputable def FleqSpan (k : Nat) (a0 : I2) (a1 : I2) : Option (Bool) := den E k 248 [.agg [vI a0.1, vI a0.2], .agg [vI a1.1, vI a1.2]]
theorem eleqSpan (k : Nat) (a0 : I2) (a1 : I2) : FleqSpan (k + 1) a0 a1 = if (a0.1 != a1.1) = true then some false else if (a0.2 != a1.2) = true then some false else some true := by kernel_rfl
noncomputable def FleqTable (k : Nat) (a0 : Int × (List Int) × List Int) (a1 : Int × (List Int) × List Int) : Option (Bool) := den E k 270 [.agg (avs sTable a0), .agg (avs sTable a1)]
theorem eleqTable (k : Nat) (a0 : Int × (List Int) × List Int) (a1 : Int × (List Int) × List Int) : FleqTable (k + 1) a0 a1 = if (a0.1 != a1.1) = true then some false else (FleqIntS k a0.2.1 a1.2.1).bind fun p1 => if (!p1) = true then some false else (FleqIntS k a0.2.2 a1.2.2).bind fun p2 => if (!p2) = true then some false else some true := by kernel_rfl
noncomputable def FleqTableS (k : Nat) (a0 : List (Int × (List Int) × List Int)) (a1 : List (Int × (List Int) × List Int)) : Option (Bool) := den E k 250 [.c (.l 211 sTable a0), .c (.l 211 sTable a1)]
abbrev CleqTableS_0 : Type := (List (Int × (List Int) × List Int)) × (List (Int × (List Int) × List Int))
abbrev VleqTableS_0 : Type := Int
def StleqTableS_0 (c0 : CleqTableS_0) (v0 : VleqTableS_0) : St := ⟨27, 0, [(0, .c (.l 211 sTable c0.1)), (1, .c (.l 211 sTable c0.2)), (5, cI v0)], []⟩
noncomputable def BleqTableS_0 {R : Type} (k : Nat) (X0 : VleqTableS_0 → (Int × (List Int) × List Int) → (Int × (List Int) × List Int) → Bool → Option R) (X1 : VleqTableS_0 → Option R) (c0 : CleqTableS_0) (rec : VleqTableS_0 → Option R) (v0 : VleqTableS_0) : Option R := if (decide (v0 < (c0.1.length : Int))) = true then if 0 ≤ v0 then ix c0.1 v0.toNat fun x1 => if 0 ≤ v0 then ix c0.2 v0.toNat fun x2 => (FleqTable k x1 x2).bind fun p3 => if (!p3) = true then X0 v0 x1 x2 p3 else rec (IntKind.i64.wrap (v0 + 1)) else none else none else X1 v0
noncomputable def LleqTableS_0 {R : Type} (k : Nat) (X0 : VleqTableS_0 → (Int × (List Int) × List Int) → (Int × (List Int) × List Int) → Bool → Option R) (X1 : VleqTableS_0 → Option R) (c : CleqTableS_0) : Nat → VleqTableS_0 → Option R
  | 0, _ => none
  | n + 1, v => BleqTableS_0 k X0 X1 c (LleqTableS_0 k X0 X1 c n) v
def YleqTableS_0_0 {R : Type} (K : Ex → St → Option R) (c0 : CleqTableS_0) (v0 : VleqTableS_0) (x1 : Int × (List Int) × List Int) (x2 : Int × (List Int) × List Int) (p3 : Bool) : Option R := K .ret ⟨27, 0, [(0, .c (.l 211 sTable c0.1)), (1, .c (.l 211 sTable c0.2)), (4, cB false), (5, cI v0), (11, cI v0), (12, .c (.l 211 sTable c0.1)), (13, cI (c0.1.length : Int)), (14, cB (decide (v0 < (c0.1.length : Int)))), (17, .c (.l 211 sTable c0.1)), (18, cI v0), (19, .c (.at_ (avs sTable x1))), (20, .agg (avs sTable x1)), (21, .c (.l 211 sTable c0.2)), (22, cI v0), (23, .c (.at_ (avs sTable x2))), (24, .agg (avs sTable x2)), (25, cB p3), (26, cB (!p3))], []⟩
def YleqTableS_0_1 {R : Type} (K : Ex → St → Option R) (c0 : CleqTableS_0) (v0 : VleqTableS_0) : Option R := K (.exit 0) ⟨27, 0, [(0, .c (.l 211 sTable c0.1)), (1, .c (.l 211 sTable c0.2)), (5, cI v0), (11, cI v0), (12, .c (.l 211 sTable c0.1)), (13, cI (c0.1.length : Int)), (14, cB (decide (v0 < (c0.1.length : Int))))], []⟩
theorem lleqTableS_0 {R : Type} (k : Nat) (K : Ex → St → Option R) (c0 : CleqTableS_0) : ∀ (n : Nat) (v : VleqTableS_0), loopRun [0, 0, 1, 5] (run E (den E k) (lv 250) k (nthLoop Tryz.f250 0)) n (StleqTableS_0 c0 v) K = LleqTableS_0 k (YleqTableS_0_0 K c0) (YleqTableS_0_1 K c0) c0 n v := loop_law (B := BleqTableS_0 k (YleqTableS_0_0 K c0) (YleqTableS_0_1 K c0) c0) (fun _ => rfl) (fun n v => by kernel_rfl) (fun _ => rfl) (fun _ _ => rfl)
theorem mleqTableS_0 (k : Nat) (a0 : List (Int × (List Int) × List Int)) (a1 : List (Int × (List Int) × List Int)) : FleqTableS (k + 1) a0 a1 = if ((a0.length : Int) != (a1.length : Int)) = true then some false else loopRun (R := Bool) [0, 0, 1, 5] (run E (den E k) (lv 250) k (nthLoop Tryz.f250 0)) k (StleqTableS_0 (a0, a1) 0) (kontAt E (den E k) (lv 250) k (bodyOf Tryz.f250) 0 [] (finish E (rs 250) Tryz.f250 : Ex → St → Option (Bool))) := by kernel_rfl
theorem eleqTableS (k : Nat) (a0 : List (Int × (List Int) × List Int)) (a1 : List (Int × (List Int) × List Int)) : FleqTableS (k + 1) a0 a1 = if ((a0.length : Int) != (a1.length : Int)) = true then some false else LleqTableS_0 k (fun (v0 : Int) (x1 : Int × (List Int) × List Int) (x2 : Int × (List Int) × List Int) (p3 : Bool) => some false) (fun (v0 : Int) => some true) (a0, a1) k 0 := by
  rw [mleqTableS_0]
  simp only [lleqTableS_0]
  kernel_rfl
noncomputable def FleqPiece (k : Nat) (a0 : TPiece) (a1 : TPiece) : Option (Bool) := den E k 206 [.agg (avs sPiece a0), .agg (avs sPiece a1)]
theorem eleqPiece (k : Nat) (a0 : TPiece) (a1 : TPiece) : FleqPiece (k + 1) a0 a1 = (FleqSpan k a0.1 a1.1).bind fun p1 => if (!p1) = true then some false else (FleqLinkS k a0.2.1 a1.2.1).bind fun p2 => if (!p2) = true then some false else (FleqTableS k a0.2.2 a1.2.2).bind fun p3 => if (!p3) = true then some false else some true := by kernel_rfl
noncomputable def FleqPieceS (k : Nat) (a0 : List TPiece) (a1 : List TPiece) : Option (Bool) := den E k 144 [.c (.l 219 sPiece a0), .c (.l 219 sPiece a1)]
abbrev CleqPieceS_0 : Type := (List TPiece) × (List TPiece)
abbrev VleqPieceS_0 : Type := Int
def StleqPieceS_0 (c0 : CleqPieceS_0) (v0 : VleqPieceS_0) : St := ⟨27, 0, [(0, .c (.l 219 sPiece c0.1)), (1, .c (.l 219 sPiece c0.2)), (5, cI v0)], []⟩
noncomputable def BleqPieceS_0 {R : Type} (k : Nat) (X0 : VleqPieceS_0 → TPiece → TPiece → Bool → Option R) (X1 : VleqPieceS_0 → Option R) (c0 : CleqPieceS_0) (rec : VleqPieceS_0 → Option R) (v0 : VleqPieceS_0) : Option R := if (decide (v0 < (c0.1.length : Int))) = true then if 0 ≤ v0 then ix c0.1 v0.toNat fun x1 => if 0 ≤ v0 then ix c0.2 v0.toNat fun x2 => (FleqPiece k x1 x2).bind fun p3 => if (!p3) = true then X0 v0 x1 x2 p3 else rec (IntKind.i64.wrap (v0 + 1)) else none else none else X1 v0
noncomputable def LleqPieceS_0 {R : Type} (k : Nat) (X0 : VleqPieceS_0 → TPiece → TPiece → Bool → Option R) (X1 : VleqPieceS_0 → Option R) (c : CleqPieceS_0) : Nat → VleqPieceS_0 → Option R
  | 0, _ => none
  | n + 1, v => BleqPieceS_0 k X0 X1 c (LleqPieceS_0 k X0 X1 c n) v
def YleqPieceS_0_0 {R : Type} (K : Ex → St → Option R) (c0 : CleqPieceS_0) (v0 : VleqPieceS_0) (x1 : TPiece) (x2 : TPiece) (p3 : Bool) : Option R := K .ret ⟨27, 0, [(0, .c (.l 219 sPiece c0.1)), (1, .c (.l 219 sPiece c0.2)), (4, cB false), (5, cI v0), (11, cI v0), (12, .c (.l 219 sPiece c0.1)), (13, cI (c0.1.length : Int)), (14, cB (decide (v0 < (c0.1.length : Int)))), (17, .c (.l 219 sPiece c0.1)), (18, cI v0), (19, .c (.at_ (avs sPiece x1))), (20, .agg (avs sPiece x1)), (21, .c (.l 219 sPiece c0.2)), (22, cI v0), (23, .c (.at_ (avs sPiece x2))), (24, .agg (avs sPiece x2)), (25, cB p3), (26, cB (!p3))], []⟩
def YleqPieceS_0_1 {R : Type} (K : Ex → St → Option R) (c0 : CleqPieceS_0) (v0 : VleqPieceS_0) : Option R := K (.exit 0) ⟨27, 0, [(0, .c (.l 219 sPiece c0.1)), (1, .c (.l 219 sPiece c0.2)), (5, cI v0), (11, cI v0), (12, .c (.l 219 sPiece c0.1)), (13, cI (c0.1.length : Int)), (14, cB (decide (v0 < (c0.1.length : Int))))], []⟩
theorem lleqPieceS_0 {R : Type} (k : Nat) (K : Ex → St → Option R) (c0 : CleqPieceS_0) : ∀ (n : Nat) (v : VleqPieceS_0), loopRun [0, 0, 1, 5] (run E (den E k) (lv 144) k (nthLoop Tryz.f144 0)) n (StleqPieceS_0 c0 v) K = LleqPieceS_0 k (YleqPieceS_0_0 K c0) (YleqPieceS_0_1 K c0) c0 n v := loop_law (B := BleqPieceS_0 k (YleqPieceS_0_0 K c0) (YleqPieceS_0_1 K c0) c0) (fun _ => rfl) (fun n v => by kernel_rfl) (fun _ => rfl) (fun _ _ => rfl)
theorem mleqPieceS_0 (k : Nat) (a0 : List TPiece) (a1 : List TPiece) : FleqPieceS (k + 1) a0 a1 = if ((a0.length : Int) != (a1.length : Int)) = true then some false else loopRun (R := Bool) [0, 0, 1, 5] (run E (den E k) (lv 144) k (nthLoop Tryz.f144 0)) k (StleqPieceS_0 (a0, a1) 0) (kontAt E (den E k) (lv 144) k (bodyOf Tryz.f144) 0 [] (finish E (rs 144) Tryz.f144 : Ex → St → Option (Bool))) := by kernel_rfl
theorem eleqPieceS (k : Nat) (a0 : List TPiece) (a1 : List TPiece) : FleqPieceS (k + 1) a0 a1 = if ((a0.length : Int) != (a1.length : Int)) = true then some false else LleqPieceS_0 k (fun (v0 : Int) (x1 : TPiece) (x2 : TPiece) (p3 : Bool) => some false) (fun (v0 : Int) => some true) (a0, a1) k 0 := by
  rw [mleqPieceS_0]
  simp only [lleqPieceS_0]
  kernel_rfl
noncomputable def FleqProgram (k : Nat) (a0 : TProgram) (a1 : TProgram) : Option (Bool) := den E k 53 [.agg (avs sProgram a0), .agg (avs sProgram a1)]
theorem eleqProgram (k : Nat) (a0 : TProgram) (a1 : TProgram) : FleqProgram (k + 1) a0 a1 = if (a0.1 != a1.1) = true then some false else if (a0.2.1 != a1.2.1) = true then some false else if (a0.2.2.1 != a1.2.2.1) = true then some false else (FleqPieceS k a0.2.2.2 a1.2.2.2).bind fun p1 => if (!p1) = true then some false else some true := by kernel_rfl
noncomputable def FleqQueue (k : Nat) (a0 : List I6) (a1 : List I6) : Option (Bool) := den E k 146 [.agg [.l 133 sI6 a0], .agg [.l 133 sI6 a1]]
theorem eleqQueue (k : Nat) (a0 : List I6) (a1 : List I6) : FleqQueue (k + 1) a0 a1 = (FleqPacketS k a0 a1).bind fun p1 => if (!p1) = true then some false else some true := by kernel_rfl
noncomputable def FleqQueueS (k : Nat) (a0 : List (List I6)) (a1 : List (List I6)) : Option (Bool) := den E k 57 [.c (.l 136 sQueue a0), .c (.l 136 sQueue a1)]
abbrev CleqQueueS_0 : Type := (List (List I6)) × (List (List I6))
abbrev VleqQueueS_0 : Type := Int
def StleqQueueS_0 (c0 : CleqQueueS_0) (v0 : VleqQueueS_0) : St := ⟨27, 0, [(0, .c (.l 136 sQueue c0.1)), (1, .c (.l 136 sQueue c0.2)), (5, cI v0)], []⟩
noncomputable def BleqQueueS_0 {R : Type} (k : Nat) (X0 : VleqQueueS_0 → (List I6) → (List I6) → Bool → Option R) (X1 : VleqQueueS_0 → Option R) (c0 : CleqQueueS_0) (rec : VleqQueueS_0 → Option R) (v0 : VleqQueueS_0) : Option R := if (decide (v0 < (c0.1.length : Int))) = true then if 0 ≤ v0 then ix c0.1 v0.toNat fun x1 => if 0 ≤ v0 then ix c0.2 v0.toNat fun x2 => (FleqQueue k x1 x2).bind fun p3 => if (!p3) = true then X0 v0 x1 x2 p3 else rec (IntKind.i64.wrap (v0 + 1)) else none else none else X1 v0
noncomputable def LleqQueueS_0 {R : Type} (k : Nat) (X0 : VleqQueueS_0 → (List I6) → (List I6) → Bool → Option R) (X1 : VleqQueueS_0 → Option R) (c : CleqQueueS_0) : Nat → VleqQueueS_0 → Option R
  | 0, _ => none
  | n + 1, v => BleqQueueS_0 k X0 X1 c (LleqQueueS_0 k X0 X1 c n) v
def YleqQueueS_0_0 {R : Type} (K : Ex → St → Option R) (c0 : CleqQueueS_0) (v0 : VleqQueueS_0) (x1 : List I6) (x2 : List I6) (p3 : Bool) : Option R := K .ret ⟨27, 0, [(0, .c (.l 136 sQueue c0.1)), (1, .c (.l 136 sQueue c0.2)), (4, cB false), (5, cI v0), (11, cI v0), (12, .c (.l 136 sQueue c0.1)), (13, cI (c0.1.length : Int)), (14, cB (decide (v0 < (c0.1.length : Int)))), (17, .c (.l 136 sQueue c0.1)), (18, cI v0), (19, .c (.at_ [.l 133 sI6 x1])), (20, .agg [.l 133 sI6 x1]), (21, .c (.l 136 sQueue c0.2)), (22, cI v0), (23, .c (.at_ [.l 133 sI6 x2])), (24, .agg [.l 133 sI6 x2]), (25, cB p3), (26, cB (!p3))], []⟩
def YleqQueueS_0_1 {R : Type} (K : Ex → St → Option R) (c0 : CleqQueueS_0) (v0 : VleqQueueS_0) : Option R := K (.exit 0) ⟨27, 0, [(0, .c (.l 136 sQueue c0.1)), (1, .c (.l 136 sQueue c0.2)), (5, cI v0), (11, cI v0), (12, .c (.l 136 sQueue c0.1)), (13, cI (c0.1.length : Int)), (14, cB (decide (v0 < (c0.1.length : Int))))], []⟩
theorem lleqQueueS_0 {R : Type} (k : Nat) (K : Ex → St → Option R) (c0 : CleqQueueS_0) : ∀ (n : Nat) (v : VleqQueueS_0), loopRun [0, 0, 1, 5] (run E (den E k) (lv 57) k (nthLoop Tryz.f57 0)) n (StleqQueueS_0 c0 v) K = LleqQueueS_0 k (YleqQueueS_0_0 K c0) (YleqQueueS_0_1 K c0) c0 n v := loop_law (B := BleqQueueS_0 k (YleqQueueS_0_0 K c0) (YleqQueueS_0_1 K c0) c0) (fun _ => rfl) (fun n v => by kernel_rfl) (fun _ => rfl) (fun _ _ => rfl)
theorem mleqQueueS_0 (k : Nat) (a0 : List (List I6)) (a1 : List (List I6)) : FleqQueueS (k + 1) a0 a1 = if ((a0.length : Int) != (a1.length : Int)) = true then some false else loopRun (R := Bool) [0, 0, 1, 5] (run E (den E k) (lv 57) k (nthLoop Tryz.f57 0)) k (StleqQueueS_0 (a0, a1) 0) (kontAt E (den E k) (lv 57) k (bodyOf Tryz.f57) 0 [] (finish E (rs 57) Tryz.f57 : Ex → St → Option (Bool))) := by kernel_rfl
theorem eleqQueueS (k : Nat) (a0 : List (List I6)) (a1 : List (List I6)) : FleqQueueS (k + 1) a0 a1 = if ((a0.length : Int) != (a1.length : Int)) = true then some false else LleqQueueS_0 k (fun (v0 : Int) (x1 : List I6) (x2 : List I6) (p3 : Bool) => some false) (fun (v0 : Int) => some true) (a0, a1) k 0 := by
  rw [mleqQueueS_0]
  simp only [lleqQueueS_0]
  kernel_rfl
noncomputable def FleqSent (k : Nat) (a0 : I4) (a1 : I4) : Option (Bool) := den E k 151 [.agg (avs sI4 a0), .agg (avs sI4 a1)]
theorem eleqSent (k : Nat) (a0 : I4) (a1 : I4) : FleqSent (k + 1) a0 a1 = if (a0.1 != a1.1) = true then some false else if (a0.2.1 != a1.2.1) = true then some false else if (a0.2.2.1 != a1.2.2.1) = true then some false else if (a0.2.2.2 != a1.2.2.2) = true then some false else some true := by kernel_rfl
noncomputable def FleqSentS (k : Nat) (a0 : List I4) (a1 : List I4) : Option (Bool) := den E k 62 [.c (.l 84 sI4 a0), .c (.l 84 sI4 a1)]
abbrev CleqSentS_0 : Type := (List I4) × (List I4)
abbrev VleqSentS_0 : Type := Int
def StleqSentS_0 (c0 : CleqSentS_0) (v0 : VleqSentS_0) : St := ⟨27, 0, [(0, .c (.l 84 sI4 c0.1)), (1, .c (.l 84 sI4 c0.2)), (5, cI v0)], []⟩
noncomputable def BleqSentS_0 {R : Type} (k : Nat) (X0 : VleqSentS_0 → I4 → I4 → Bool → Option R) (X1 : VleqSentS_0 → Option R) (c0 : CleqSentS_0) (rec : VleqSentS_0 → Option R) (v0 : VleqSentS_0) : Option R := if (decide (v0 < (c0.1.length : Int))) = true then if 0 ≤ v0 then ix c0.1 v0.toNat fun x1 => if 0 ≤ v0 then ix c0.2 v0.toNat fun x2 => (FleqSent k x1 x2).bind fun p3 => if (!p3) = true then X0 v0 x1 x2 p3 else rec (IntKind.i64.wrap (v0 + 1)) else none else none else X1 v0
noncomputable def LleqSentS_0 {R : Type} (k : Nat) (X0 : VleqSentS_0 → I4 → I4 → Bool → Option R) (X1 : VleqSentS_0 → Option R) (c : CleqSentS_0) : Nat → VleqSentS_0 → Option R
  | 0, _ => none
  | n + 1, v => BleqSentS_0 k X0 X1 c (LleqSentS_0 k X0 X1 c n) v
def YleqSentS_0_0 {R : Type} (K : Ex → St → Option R) (c0 : CleqSentS_0) (v0 : VleqSentS_0) (x1 : I4) (x2 : I4) (p3 : Bool) : Option R := K .ret ⟨27, 0, [(0, .c (.l 84 sI4 c0.1)), (1, .c (.l 84 sI4 c0.2)), (4, cB false), (5, cI v0), (11, cI v0), (12, .c (.l 84 sI4 c0.1)), (13, cI (c0.1.length : Int)), (14, cB (decide (v0 < (c0.1.length : Int)))), (17, .c (.l 84 sI4 c0.1)), (18, cI v0), (19, .c (.at_ (avs sI4 x1))), (20, .agg (avs sI4 x1)), (21, .c (.l 84 sI4 c0.2)), (22, cI v0), (23, .c (.at_ (avs sI4 x2))), (24, .agg (avs sI4 x2)), (25, cB p3), (26, cB (!p3))], []⟩
def YleqSentS_0_1 {R : Type} (K : Ex → St → Option R) (c0 : CleqSentS_0) (v0 : VleqSentS_0) : Option R := K (.exit 0) ⟨27, 0, [(0, .c (.l 84 sI4 c0.1)), (1, .c (.l 84 sI4 c0.2)), (5, cI v0), (11, cI v0), (12, .c (.l 84 sI4 c0.1)), (13, cI (c0.1.length : Int)), (14, cB (decide (v0 < (c0.1.length : Int))))], []⟩
theorem lleqSentS_0 {R : Type} (k : Nat) (K : Ex → St → Option R) (c0 : CleqSentS_0) : ∀ (n : Nat) (v : VleqSentS_0), loopRun [0, 0, 1, 5] (run E (den E k) (lv 62) k (nthLoop Tryz.f62 0)) n (StleqSentS_0 c0 v) K = LleqSentS_0 k (YleqSentS_0_0 K c0) (YleqSentS_0_1 K c0) c0 n v := loop_law (B := BleqSentS_0 k (YleqSentS_0_0 K c0) (YleqSentS_0_1 K c0) c0) (fun _ => rfl) (fun n v => by kernel_rfl) (fun _ => rfl) (fun _ _ => rfl)
theorem mleqSentS_0 (k : Nat) (a0 : List I4) (a1 : List I4) : FleqSentS (k + 1) a0 a1 = if ((a0.length : Int) != (a1.length : Int)) = true then some false else loopRun (R := Bool) [0, 0, 1, 5] (run E (den E k) (lv 62) k (nthLoop Tryz.f62 0)) k (StleqSentS_0 (a0, a1) 0) (kontAt E (den E k) (lv 62) k (bodyOf Tryz.f62) 0 [] (finish E (rs 62) Tryz.f62 : Ex → St → Option (Bool))) := by kernel_rfl
theorem eleqSentS (k : Nat) (a0 : List I4) (a1 : List I4) : FleqSentS (k + 1) a0 a1 = if ((a0.length : Int) != (a1.length : Int)) = true then some false else LleqSentS_0 k (fun (v0 : Int) (x1 : I4) (x2 : I4) (p3 : Bool) => some false) (fun (v0 : Int) => some true) (a0, a1) k 0 := by
  rw [mleqSentS_0]
  simp only [lleqSentS_0]
  kernel_rfl
noncomputable def FleqSat (k : Nat) (a0 : I4) (a1 : I4) : Option (Bool) := den E k 203 [.agg (avs sI4 a0), .agg (avs sI4 a1)]
theorem eleqSat (k : Nat) (a0 : I4) (a1 : I4) : FleqSat (k + 1) a0 a1 = if (a0.1 != a1.1) = true then some false else if (a0.2.1 != a1.2.1) = true then some false else if (a0.2.2.1 != a1.2.2.1) = true then some false else if (a0.2.2.2 != a1.2.2.2) = true then some false else some true := by kernel_rfl
noncomputable def FleqSatS (k : Nat) (a0 : List I4) (a1 : List I4) : Option (Bool) := den E k 141 [.c (.l 236 sI4 a0), .c (.l 236 sI4 a1)]
abbrev CleqSatS_0 : Type := (List I4) × (List I4)
abbrev VleqSatS_0 : Type := Int
def StleqSatS_0 (c0 : CleqSatS_0) (v0 : VleqSatS_0) : St := ⟨27, 0, [(0, .c (.l 236 sI4 c0.1)), (1, .c (.l 236 sI4 c0.2)), (5, cI v0)], []⟩
noncomputable def BleqSatS_0 {R : Type} (k : Nat) (X0 : VleqSatS_0 → I4 → I4 → Bool → Option R) (X1 : VleqSatS_0 → Option R) (c0 : CleqSatS_0) (rec : VleqSatS_0 → Option R) (v0 : VleqSatS_0) : Option R := if (decide (v0 < (c0.1.length : Int))) = true then if 0 ≤ v0 then ix c0.1 v0.toNat fun x1 => if 0 ≤ v0 then ix c0.2 v0.toNat fun x2 => (FleqSat k x1 x2).bind fun p3 => if (!p3) = true then X0 v0 x1 x2 p3 else rec (IntKind.i64.wrap (v0 + 1)) else none else none else X1 v0
noncomputable def LleqSatS_0 {R : Type} (k : Nat) (X0 : VleqSatS_0 → I4 → I4 → Bool → Option R) (X1 : VleqSatS_0 → Option R) (c : CleqSatS_0) : Nat → VleqSatS_0 → Option R
  | 0, _ => none
  | n + 1, v => BleqSatS_0 k X0 X1 c (LleqSatS_0 k X0 X1 c n) v
def YleqSatS_0_0 {R : Type} (K : Ex → St → Option R) (c0 : CleqSatS_0) (v0 : VleqSatS_0) (x1 : I4) (x2 : I4) (p3 : Bool) : Option R := K .ret ⟨27, 0, [(0, .c (.l 236 sI4 c0.1)), (1, .c (.l 236 sI4 c0.2)), (4, cB false), (5, cI v0), (11, cI v0), (12, .c (.l 236 sI4 c0.1)), (13, cI (c0.1.length : Int)), (14, cB (decide (v0 < (c0.1.length : Int)))), (17, .c (.l 236 sI4 c0.1)), (18, cI v0), (19, .c (.at_ (avs sI4 x1))), (20, .agg (avs sI4 x1)), (21, .c (.l 236 sI4 c0.2)), (22, cI v0), (23, .c (.at_ (avs sI4 x2))), (24, .agg (avs sI4 x2)), (25, cB p3), (26, cB (!p3))], []⟩
def YleqSatS_0_1 {R : Type} (K : Ex → St → Option R) (c0 : CleqSatS_0) (v0 : VleqSatS_0) : Option R := K (.exit 0) ⟨27, 0, [(0, .c (.l 236 sI4 c0.1)), (1, .c (.l 236 sI4 c0.2)), (5, cI v0), (11, cI v0), (12, .c (.l 236 sI4 c0.1)), (13, cI (c0.1.length : Int)), (14, cB (decide (v0 < (c0.1.length : Int))))], []⟩
theorem lleqSatS_0 {R : Type} (k : Nat) (K : Ex → St → Option R) (c0 : CleqSatS_0) : ∀ (n : Nat) (v : VleqSatS_0), loopRun [0, 0, 1, 5] (run E (den E k) (lv 141) k (nthLoop Tryz.f141 0)) n (StleqSatS_0 c0 v) K = LleqSatS_0 k (YleqSatS_0_0 K c0) (YleqSatS_0_1 K c0) c0 n v := loop_law (B := BleqSatS_0 k (YleqSatS_0_0 K c0) (YleqSatS_0_1 K c0) c0) (fun _ => rfl) (fun n v => by kernel_rfl) (fun _ => rfl) (fun _ _ => rfl)
theorem mleqSatS_0 (k : Nat) (a0 : List I4) (a1 : List I4) : FleqSatS (k + 1) a0 a1 = if ((a0.length : Int) != (a1.length : Int)) = true then some false else loopRun (R := Bool) [0, 0, 1, 5] (run E (den E k) (lv 141) k (nthLoop Tryz.f141 0)) k (StleqSatS_0 (a0, a1) 0) (kontAt E (den E k) (lv 141) k (bodyOf Tryz.f141) 0 [] (finish E (rs 141) Tryz.f141 : Ex → St → Option (Bool))) := by kernel_rfl
theorem eleqSatS (k : Nat) (a0 : List I4) (a1 : List I4) : FleqSatS (k + 1) a0 a1 = if ((a0.length : Int) != (a1.length : Int)) = true then some false else LleqSatS_0 k (fun (v0 : Int) (x1 : I4) (x2 : I4) (p3 : Bool) => some false) (fun (v0 : Int) => some true) (a0, a1) k 0 := by
  rw [mleqSatS_0]
  simp only [lleqSatS_0]
  kernel_rfl
noncomputable def FleqSite (k : Nat) (a0 : I3) (a1 : I3) : Option (Bool) := den E k 204 [.agg (avs sI3 a0), .agg (avs sI3 a1)]
theorem eleqSite (k : Nat) (a0 : I3) (a1 : I3) : FleqSite (k + 1) a0 a1 = if (a0.1 != a1.1) = true then some false else if (a0.2.1 != a1.2.1) = true then some false else if (a0.2.2 != a1.2.2) = true then some false else some true := by kernel_rfl
noncomputable def FleqSiteS (k : Nat) (a0 : List I3) (a1 : List I3) : Option (Bool) := den E k 142 [.c (.l 240 sI3 a0), .c (.l 240 sI3 a1)]
abbrev CleqSiteS_0 : Type := (List I3) × (List I3)
abbrev VleqSiteS_0 : Type := Int
def StleqSiteS_0 (c0 : CleqSiteS_0) (v0 : VleqSiteS_0) : St := ⟨27, 0, [(0, .c (.l 240 sI3 c0.1)), (1, .c (.l 240 sI3 c0.2)), (5, cI v0)], []⟩
noncomputable def BleqSiteS_0 {R : Type} (k : Nat) (X0 : VleqSiteS_0 → I3 → I3 → Bool → Option R) (X1 : VleqSiteS_0 → Option R) (c0 : CleqSiteS_0) (rec : VleqSiteS_0 → Option R) (v0 : VleqSiteS_0) : Option R := if (decide (v0 < (c0.1.length : Int))) = true then if 0 ≤ v0 then ix c0.1 v0.toNat fun x1 => if 0 ≤ v0 then ix c0.2 v0.toNat fun x2 => (FleqSite k x1 x2).bind fun p3 => if (!p3) = true then X0 v0 x1 x2 p3 else rec (IntKind.i64.wrap (v0 + 1)) else none else none else X1 v0
noncomputable def LleqSiteS_0 {R : Type} (k : Nat) (X0 : VleqSiteS_0 → I3 → I3 → Bool → Option R) (X1 : VleqSiteS_0 → Option R) (c : CleqSiteS_0) : Nat → VleqSiteS_0 → Option R
  | 0, _ => none
  | n + 1, v => BleqSiteS_0 k X0 X1 c (LleqSiteS_0 k X0 X1 c n) v
def YleqSiteS_0_0 {R : Type} (K : Ex → St → Option R) (c0 : CleqSiteS_0) (v0 : VleqSiteS_0) (x1 : I3) (x2 : I3) (p3 : Bool) : Option R := K .ret ⟨27, 0, [(0, .c (.l 240 sI3 c0.1)), (1, .c (.l 240 sI3 c0.2)), (4, cB false), (5, cI v0), (11, cI v0), (12, .c (.l 240 sI3 c0.1)), (13, cI (c0.1.length : Int)), (14, cB (decide (v0 < (c0.1.length : Int)))), (17, .c (.l 240 sI3 c0.1)), (18, cI v0), (19, .c (.at_ (avs sI3 x1))), (20, .agg (avs sI3 x1)), (21, .c (.l 240 sI3 c0.2)), (22, cI v0), (23, .c (.at_ (avs sI3 x2))), (24, .agg (avs sI3 x2)), (25, cB p3), (26, cB (!p3))], []⟩
def YleqSiteS_0_1 {R : Type} (K : Ex → St → Option R) (c0 : CleqSiteS_0) (v0 : VleqSiteS_0) : Option R := K (.exit 0) ⟨27, 0, [(0, .c (.l 240 sI3 c0.1)), (1, .c (.l 240 sI3 c0.2)), (5, cI v0), (11, cI v0), (12, .c (.l 240 sI3 c0.1)), (13, cI (c0.1.length : Int)), (14, cB (decide (v0 < (c0.1.length : Int))))], []⟩
theorem lleqSiteS_0 {R : Type} (k : Nat) (K : Ex → St → Option R) (c0 : CleqSiteS_0) : ∀ (n : Nat) (v : VleqSiteS_0), loopRun [0, 0, 1, 5] (run E (den E k) (lv 142) k (nthLoop Tryz.f142 0)) n (StleqSiteS_0 c0 v) K = LleqSiteS_0 k (YleqSiteS_0_0 K c0) (YleqSiteS_0_1 K c0) c0 n v := loop_law (B := BleqSiteS_0 k (YleqSiteS_0_0 K c0) (YleqSiteS_0_1 K c0) c0) (fun _ => rfl) (fun n v => by kernel_rfl) (fun _ => rfl) (fun _ _ => rfl)
theorem mleqSiteS_0 (k : Nat) (a0 : List I3) (a1 : List I3) : FleqSiteS (k + 1) a0 a1 = if ((a0.length : Int) != (a1.length : Int)) = true then some false else loopRun (R := Bool) [0, 0, 1, 5] (run E (den E k) (lv 142) k (nthLoop Tryz.f142 0)) k (StleqSiteS_0 (a0, a1) 0) (kontAt E (den E k) (lv 142) k (bodyOf Tryz.f142) 0 [] (finish E (rs 142) Tryz.f142 : Ex → St → Option (Bool))) := by kernel_rfl
theorem eleqSiteS (k : Nat) (a0 : List I3) (a1 : List I3) : FleqSiteS (k + 1) a0 a1 = if ((a0.length : Int) != (a1.length : Int)) = true then some false else LleqSiteS_0 k (fun (v0 : Int) (x1 : I3) (x2 : I3) (p3 : Bool) => some false) (fun (v0 : Int) => some true) (a0, a1) k 0 := by
  rw [mleqSiteS_0]
  simp only [lleqSiteS_0]
  kernel_rfl
noncomputable def FleqArc (k : Nat) (a0 : I2) (a1 : I2) : Option (Bool) := den E k 247 [.agg [vI a0.1, vI a0.2], .agg [vI a1.1, vI a1.2]]
theorem eleqArc (k : Nat) (a0 : I2) (a1 : I2) : FleqArc (k + 1) a0 a1 = if (a0.1 != a1.1) = true then some false else if (a0.2 != a1.2) = true then some false else some true := by kernel_rfl
noncomputable def FleqZone (k : Nat) (a0 : I3) (a1 : I3) : Option (Bool) := den E k 205 [.agg (avs sI3 a0), .agg (avs sI3 a1)]
theorem eleqZone (k : Nat) (a0 : I3) (a1 : I3) : FleqZone (k + 1) a0 a1 = if (a0.1 != a1.1) = true then some false else (FleqArc k a0.2 a1.2).bind fun p1 => if (!p1) = true then some false else some true := by kernel_rfl
noncomputable def FleqZoneS (k : Nat) (a0 : List I3) (a1 : List I3) : Option (Bool) := den E k 143 [.c (.l 246 sZone a0), .c (.l 246 sZone a1)]
abbrev CleqZoneS_0 : Type := (List I3) × (List I3)
abbrev VleqZoneS_0 : Type := Int
def StleqZoneS_0 (c0 : CleqZoneS_0) (v0 : VleqZoneS_0) : St := ⟨27, 0, [(0, .c (.l 246 sZone c0.1)), (1, .c (.l 246 sZone c0.2)), (5, cI v0)], []⟩
noncomputable def BleqZoneS_0 {R : Type} (k : Nat) (X0 : VleqZoneS_0 → I3 → I3 → Bool → Option R) (X1 : VleqZoneS_0 → Option R) (c0 : CleqZoneS_0) (rec : VleqZoneS_0 → Option R) (v0 : VleqZoneS_0) : Option R := if (decide (v0 < (c0.1.length : Int))) = true then if 0 ≤ v0 then ix c0.1 v0.toNat fun x1 => if 0 ≤ v0 then ix c0.2 v0.toNat fun x2 => (FleqZone k x1 x2).bind fun p3 => if (!p3) = true then X0 v0 x1 x2 p3 else rec (IntKind.i64.wrap (v0 + 1)) else none else none else X1 v0
noncomputable def LleqZoneS_0 {R : Type} (k : Nat) (X0 : VleqZoneS_0 → I3 → I3 → Bool → Option R) (X1 : VleqZoneS_0 → Option R) (c : CleqZoneS_0) : Nat → VleqZoneS_0 → Option R
  | 0, _ => none
  | n + 1, v => BleqZoneS_0 k X0 X1 c (LleqZoneS_0 k X0 X1 c n) v
def YleqZoneS_0_0 {R : Type} (K : Ex → St → Option R) (c0 : CleqZoneS_0) (v0 : VleqZoneS_0) (x1 : I3) (x2 : I3) (p3 : Bool) : Option R := K .ret ⟨27, 0, [(0, .c (.l 246 sZone c0.1)), (1, .c (.l 246 sZone c0.2)), (4, cB false), (5, cI v0), (11, cI v0), (12, .c (.l 246 sZone c0.1)), (13, cI (c0.1.length : Int)), (14, cB (decide (v0 < (c0.1.length : Int)))), (17, .c (.l 246 sZone c0.1)), (18, cI v0), (19, .c (.at_ (avs sI3 x1))), (20, .agg (avs sI3 x1)), (21, .c (.l 246 sZone c0.2)), (22, cI v0), (23, .c (.at_ (avs sI3 x2))), (24, .agg (avs sI3 x2)), (25, cB p3), (26, cB (!p3))], []⟩
def YleqZoneS_0_1 {R : Type} (K : Ex → St → Option R) (c0 : CleqZoneS_0) (v0 : VleqZoneS_0) : Option R := K (.exit 0) ⟨27, 0, [(0, .c (.l 246 sZone c0.1)), (1, .c (.l 246 sZone c0.2)), (5, cI v0), (11, cI v0), (12, .c (.l 246 sZone c0.1)), (13, cI (c0.1.length : Int)), (14, cB (decide (v0 < (c0.1.length : Int))))], []⟩
theorem lleqZoneS_0 {R : Type} (k : Nat) (K : Ex → St → Option R) (c0 : CleqZoneS_0) : ∀ (n : Nat) (v : VleqZoneS_0), loopRun [0, 0, 1, 5] (run E (den E k) (lv 143) k (nthLoop Tryz.f143 0)) n (StleqZoneS_0 c0 v) K = LleqZoneS_0 k (YleqZoneS_0_0 K c0) (YleqZoneS_0_1 K c0) c0 n v := loop_law (B := BleqZoneS_0 k (YleqZoneS_0_0 K c0) (YleqZoneS_0_1 K c0) c0) (fun _ => rfl) (fun n v => by kernel_rfl) (fun _ => rfl) (fun _ _ => rfl)
theorem mleqZoneS_0 (k : Nat) (a0 : List I3) (a1 : List I3) : FleqZoneS (k + 1) a0 a1 = if ((a0.length : Int) != (a1.length : Int)) = true then some false else loopRun (R := Bool) [0, 0, 1, 5] (run E (den E k) (lv 143) k (nthLoop Tryz.f143 0)) k (StleqZoneS_0 (a0, a1) 0) (kontAt E (den E k) (lv 143) k (bodyOf Tryz.f143) 0 [] (finish E (rs 143) Tryz.f143 : Ex → St → Option (Bool))) := by kernel_rfl
theorem eleqZoneS (k : Nat) (a0 : List I3) (a1 : List I3) : FleqZoneS (k + 1) a0 a1 = if ((a0.length : Int) != (a1.length : Int)) = true then some false else LleqZoneS_0 k (fun (v0 : Int) (x1 : I3) (x2 : I3) (p3 : Bool) => some false) (fun (v0 : Int) => some true) (a0, a1) k 0 := by
  rw [mleqZoneS_0]
  simp only [lleqZoneS_0]
  kernel_rfl
noncomputable def FleqSky (k : Nat) (a0 : TSky) (a1 : TSky) : Option (Bool) := den E k 52 [.agg (avs sSky a0), .agg (avs sSky a1)]
theorem eleqSky (k : Nat) (a0 : TSky) (a1 : TSky) : FleqSky (k + 1) a0 a1 = if (a0.1 != a1.1) = true then some false else (FleqSatS k a0.2.1 a1.2.1).bind fun p1 => if (!p1) = true then some false else (FleqSiteS k a0.2.2.1 a1.2.2.1).bind fun p2 => if (!p2) = true then some false else if (a0.2.2.2.1 != a1.2.2.2.1) = true then some false else if (a0.2.2.2.2.1 != a1.2.2.2.2.1) = true then some false else if (a0.2.2.2.2.2.1 != a1.2.2.2.2.2.1) = true then some false else if (a0.2.2.2.2.2.2.1 != a1.2.2.2.2.2.2.1) = true then some false else if (a0.2.2.2.2.2.2.2.1 != a1.2.2.2.2.2.2.2.1) = true then some false else (FleqZoneS k a0.2.2.2.2.2.2.2.2.1 a1.2.2.2.2.2.2.2.2.1).bind fun p3 => if (!p3) = true then some false else if (a0.2.2.2.2.2.2.2.2.2 != a1.2.2.2.2.2.2.2.2.2) = true then some false else some true := by kernel_rfl
noncomputable def FleqStream (k : Nat) (a0 : Int × Int × List Int) (a1 : Int × Int × List Int) : Option (Bool) := den E k 148 [.agg (avs sStream a0), .agg (avs sStream a1)]
theorem eleqStream (k : Nat) (a0 : Int × Int × List Int) (a1 : Int × Int × List Int) : FleqStream (k + 1) a0 a1 = if (a0.1 != a1.1) = true then some false else if (a0.2.1 != a1.2.1) = true then some false else (FleqIntS k a0.2.2 a1.2.2).bind fun p1 => if (!p1) = true then some false else some true := by kernel_rfl
noncomputable def FleqStreamS (k : Nat) (a0 : List (Int × Int × List Int)) (a1 : List (Int × Int × List Int)) : Option (Bool) := den E k 59 [.c (.l 145 sStream a0), .c (.l 145 sStream a1)]
abbrev CleqStreamS_0 : Type := (List (Int × Int × List Int)) × (List (Int × Int × List Int))
abbrev VleqStreamS_0 : Type := Int
def StleqStreamS_0 (c0 : CleqStreamS_0) (v0 : VleqStreamS_0) : St := ⟨27, 0, [(0, .c (.l 145 sStream c0.1)), (1, .c (.l 145 sStream c0.2)), (5, cI v0)], []⟩
noncomputable def BleqStreamS_0 {R : Type} (k : Nat) (X0 : VleqStreamS_0 → (Int × Int × List Int) → (Int × Int × List Int) → Bool → Option R) (X1 : VleqStreamS_0 → Option R) (c0 : CleqStreamS_0) (rec : VleqStreamS_0 → Option R) (v0 : VleqStreamS_0) : Option R := if (decide (v0 < (c0.1.length : Int))) = true then if 0 ≤ v0 then ix c0.1 v0.toNat fun x1 => if 0 ≤ v0 then ix c0.2 v0.toNat fun x2 => (FleqStream k x1 x2).bind fun p3 => if (!p3) = true then X0 v0 x1 x2 p3 else rec (IntKind.i64.wrap (v0 + 1)) else none else none else X1 v0
noncomputable def LleqStreamS_0 {R : Type} (k : Nat) (X0 : VleqStreamS_0 → (Int × Int × List Int) → (Int × Int × List Int) → Bool → Option R) (X1 : VleqStreamS_0 → Option R) (c : CleqStreamS_0) : Nat → VleqStreamS_0 → Option R
  | 0, _ => none
  | n + 1, v => BleqStreamS_0 k X0 X1 c (LleqStreamS_0 k X0 X1 c n) v
def YleqStreamS_0_0 {R : Type} (K : Ex → St → Option R) (c0 : CleqStreamS_0) (v0 : VleqStreamS_0) (x1 : Int × Int × List Int) (x2 : Int × Int × List Int) (p3 : Bool) : Option R := K .ret ⟨27, 0, [(0, .c (.l 145 sStream c0.1)), (1, .c (.l 145 sStream c0.2)), (4, cB false), (5, cI v0), (11, cI v0), (12, .c (.l 145 sStream c0.1)), (13, cI (c0.1.length : Int)), (14, cB (decide (v0 < (c0.1.length : Int)))), (17, .c (.l 145 sStream c0.1)), (18, cI v0), (19, .c (.at_ (avs sStream x1))), (20, .agg (avs sStream x1)), (21, .c (.l 145 sStream c0.2)), (22, cI v0), (23, .c (.at_ (avs sStream x2))), (24, .agg (avs sStream x2)), (25, cB p3), (26, cB (!p3))], []⟩
def YleqStreamS_0_1 {R : Type} (K : Ex → St → Option R) (c0 : CleqStreamS_0) (v0 : VleqStreamS_0) : Option R := K (.exit 0) ⟨27, 0, [(0, .c (.l 145 sStream c0.1)), (1, .c (.l 145 sStream c0.2)), (5, cI v0), (11, cI v0), (12, .c (.l 145 sStream c0.1)), (13, cI (c0.1.length : Int)), (14, cB (decide (v0 < (c0.1.length : Int))))], []⟩
theorem lleqStreamS_0 {R : Type} (k : Nat) (K : Ex → St → Option R) (c0 : CleqStreamS_0) : ∀ (n : Nat) (v : VleqStreamS_0), loopRun [0, 0, 1, 5] (run E (den E k) (lv 59) k (nthLoop Tryz.f59 0)) n (StleqStreamS_0 c0 v) K = LleqStreamS_0 k (YleqStreamS_0_0 K c0) (YleqStreamS_0_1 K c0) c0 n v := loop_law (B := BleqStreamS_0 k (YleqStreamS_0_0 K c0) (YleqStreamS_0_1 K c0) c0) (fun _ => rfl) (fun n v => by kernel_rfl) (fun _ => rfl) (fun _ _ => rfl)
theorem mleqStreamS_0 (k : Nat) (a0 : List (Int × Int × List Int)) (a1 : List (Int × Int × List Int)) : FleqStreamS (k + 1) a0 a1 = if ((a0.length : Int) != (a1.length : Int)) = true then some false else loopRun (R := Bool) [0, 0, 1, 5] (run E (den E k) (lv 59) k (nthLoop Tryz.f59 0)) k (StleqStreamS_0 (a0, a1) 0) (kontAt E (den E k) (lv 59) k (bodyOf Tryz.f59) 0 [] (finish E (rs 59) Tryz.f59 : Ex → St → Option (Bool))) := by kernel_rfl
theorem eleqStreamS (k : Nat) (a0 : List (Int × Int × List Int)) (a1 : List (Int × Int × List Int)) : FleqStreamS (k + 1) a0 a1 = if ((a0.length : Int) != (a1.length : Int)) = true then some false else LleqStreamS_0 k (fun (v0 : Int) (x1 : Int × Int × List Int) (x2 : Int × Int × List Int) (p3 : Bool) => some false) (fun (v0 : Int) => some true) (a0, a1) k 0 := by
  rw [mleqStreamS_0]
  simp only [lleqStreamS_0]
  kernel_rfl
noncomputable def FleqWorld (k : Nat) (a0 : TWorld) (a1 : TWorld) : Option (Bool) := den E k 13 [.agg (avs sWorld a0), .agg (avs sWorld a1)]
theorem eleqWorld (k : Nat) (a0 : TWorld) (a1 : TWorld) : FleqWorld (k + 1) a0 a1 = (FleqSky k a0.1 a1.1).bind fun p1 => if (!p1) = true then some false else (FleqProgram k a0.2.1 a1.2.1).bind fun p2 => if (!p2) = true then some false else (FleqLaw k a0.2.2.1 a1.2.2.1).bind fun p3 => if (!p3) = true then some false else (FleqIntS k a0.2.2.2.1 a1.2.2.2.1).bind fun p4 => if (!p4) = true then some false else (FleqBatteryS k a0.2.2.2.2.1 a1.2.2.2.2.1).bind fun p5 => if (!p5) = true then some false else (FleqQueueS k a0.2.2.2.2.2.1 a1.2.2.2.2.2.1).bind fun p6 => if (!p6) = true then some false else (FleqFlowS k a0.2.2.2.2.2.2.1 a1.2.2.2.2.2.2.1).bind fun p7 => if (!p7) = true then some false else (FleqIntS k a0.2.2.2.2.2.2.2.1 a1.2.2.2.2.2.2.2.1).bind fun p8 => if (!p8) = true then some false else (FleqStreamS k a0.2.2.2.2.2.2.2.2.1 a1.2.2.2.2.2.2.2.2.1).bind fun p9 => if (!p9) = true then some false else (FleqFaultS k a0.2.2.2.2.2.2.2.2.2.1 a1.2.2.2.2.2.2.2.2.2.1).bind fun p10 => if (!p10) = true then some false else if (a0.2.2.2.2.2.2.2.2.2.2.1 != a1.2.2.2.2.2.2.2.2.2.2.1) = true then some false else if (a0.2.2.2.2.2.2.2.2.2.2.2.1 != a1.2.2.2.2.2.2.2.2.2.2.2.1) = true then some false else (FleqPacketS k a0.2.2.2.2.2.2.2.2.2.2.2.2.1 a1.2.2.2.2.2.2.2.2.2.2.2.2.1).bind fun p11 => if (!p11) = true then some false else (FleqSentS k a0.2.2.2.2.2.2.2.2.2.2.2.2.2 a1.2.2.2.2.2.2.2.2.2.2.2.2.2).bind fun p12 => if (!p12) = true then some false else some true := by kernel_rfl
noncomputable def FlheldBatteryS (k : Nat) (a0 : List I6) (a1 : Int) : Option (Int) := den E k 78 [.c (.l 176 sI6 a0), cI a1]
abbrev ClheldBatteryS_0 : Type := (List I6)
abbrev VlheldBatteryS_0 : Type := Int × Int
def StlheldBatteryS_0 (c0 : ClheldBatteryS_0) (v0 : VlheldBatteryS_0) : St := ⟨67, 0, [(0, .c (.l 176 sI6 c0)), (1, cI v0.1), (5, cI v0.2)], []⟩
noncomputable def BlheldBatteryS_0 {R : Type} (k : Nat) (X0 : VlheldBatteryS_0 → I6 → Option R) (X1 : VlheldBatteryS_0 → I6 → I6 → Option R) (X2 : VlheldBatteryS_0 → I6 → I6 → I6 → Option R) (X3 : VlheldBatteryS_0 → I6 → I6 → I6 → I6 → Option R) (X4 : VlheldBatteryS_0 → I6 → I6 → I6 → I6 → I6 → Option R) (X5 : VlheldBatteryS_0 → I6 → I6 → I6 → I6 → I6 → I6 → Option R) (X6 : VlheldBatteryS_0 → Option R) (c0 : ClheldBatteryS_0) (rec : VlheldBatteryS_0 → Option R) (v0 : VlheldBatteryS_0) : Option R := if (decide (v0.2 < (c0.length : Int))) = true then if 0 ≤ v0.2 then ix c0 v0.2.toNat fun x1 => if (x1.1 != v0.1) = true then X0 v0 x1 else if 0 ≤ v0.2 then ix c0 v0.2.toNat fun x2 => if (x2.2.1 != (IntKind.i64.wrap (v0.1 + 1))) = true then X1 v0 x1 x2 else if 0 ≤ v0.2 then ix c0 v0.2.toNat fun x3 => if (x3.2.2.1 != (IntKind.i64.wrap ((IntKind.i64.wrap (v0.1 + 1)) + 1))) = true then X2 v0 x1 x2 x3 else if 0 ≤ v0.2 then ix c0 v0.2.toNat fun x4 => if (x4.2.2.2.1 != (IntKind.i64.wrap ((IntKind.i64.wrap ((IntKind.i64.wrap (v0.1 + 1)) + 1)) + 1))) = true then X3 v0 x1 x2 x3 x4 else if 0 ≤ v0.2 then ix c0 v0.2.toNat fun x5 => if (x5.2.2.2.2.1 != (IntKind.i64.wrap ((IntKind.i64.wrap ((IntKind.i64.wrap ((IntKind.i64.wrap (v0.1 + 1)) + 1)) + 1)) + 1))) = true then X4 v0 x1 x2 x3 x4 x5 else if 0 ≤ v0.2 then ix c0 v0.2.toNat fun x6 => if (x6.2.2.2.2.2 != (IntKind.i64.wrap ((IntKind.i64.wrap ((IntKind.i64.wrap ((IntKind.i64.wrap ((IntKind.i64.wrap (v0.1 + 1)) + 1)) + 1)) + 1)) + 1))) = true then X5 v0 x1 x2 x3 x4 x5 x6 else rec ((IntKind.i64.wrap ((IntKind.i64.wrap ((IntKind.i64.wrap ((IntKind.i64.wrap ((IntKind.i64.wrap ((IntKind.i64.wrap (v0.1 + 1)) + 1)) + 1)) + 1)) + 1)) + 1)), (IntKind.i64.wrap (v0.2 + 1))) else none else none else none else none else none else none else X6 v0
noncomputable def LlheldBatteryS_0 {R : Type} (k : Nat) (X0 : VlheldBatteryS_0 → I6 → Option R) (X1 : VlheldBatteryS_0 → I6 → I6 → Option R) (X2 : VlheldBatteryS_0 → I6 → I6 → I6 → Option R) (X3 : VlheldBatteryS_0 → I6 → I6 → I6 → I6 → Option R) (X4 : VlheldBatteryS_0 → I6 → I6 → I6 → I6 → I6 → Option R) (X5 : VlheldBatteryS_0 → I6 → I6 → I6 → I6 → I6 → I6 → Option R) (X6 : VlheldBatteryS_0 → Option R) (c : ClheldBatteryS_0) : Nat → VlheldBatteryS_0 → Option R
  | 0, _ => none
  | n + 1, v => BlheldBatteryS_0 k X0 X1 X2 X3 X4 X5 X6 c (LlheldBatteryS_0 k X0 X1 X2 X3 X4 X5 X6 c n) v
def YlheldBatteryS_0_0 {R : Type} (K : Ex → St → Option R) (c0 : ClheldBatteryS_0) (v0 : VlheldBatteryS_0) (x1 : I6) : Option R := K .ret ⟨67, 0, [(0, .c (.l 176 sI6 c0)), (1, cI v0.1), (4, cI (-1)), (5, cI v0.2), (6, cI v0.2), (7, .c (.l 176 sI6 c0)), (8, cI (c0.length : Int)), (9, cB (decide (v0.2 < (c0.length : Int)))), (12, .c (.l 176 sI6 c0)), (13, cI v0.2), (14, .c (.at_ (avs sI6 x1))), (15, .c (.at_ (avs sI6 x1))), (16, cI x1.1), (17, cI v0.1), (18, cB (x1.1 != v0.1))], []⟩
def YlheldBatteryS_0_1 {R : Type} (K : Ex → St → Option R) (c0 : ClheldBatteryS_0) (v0 : VlheldBatteryS_0) (x1 : I6) (x2 : I6) : Option R := K .ret ⟨67, 0, [(0, .c (.l 176 sI6 c0)), (1, cI (IntKind.i64.wrap (v0.1 + 1))), (4, cI (-1)), (5, cI v0.2), (6, cI v0.2), (7, .c (.l 176 sI6 c0)), (8, cI (c0.length : Int)), (9, cB (decide (v0.2 < (c0.length : Int)))), (12, .c (.l 176 sI6 c0)), (13, cI v0.2), (14, .c (.at_ (avs sI6 x1))), (15, .c (.at_ (avs sI6 x1))), (16, cI x1.1), (17, cI v0.1), (18, cB (x1.1 != v0.1)), (19, cI v0.1), (20, cI (IntKind.i64.wrap (v0.1 + 1))), (21, .c (.l 176 sI6 c0)), (22, cI v0.2), (23, .c (.at_ (avs sI6 x2))), (24, .c (.at_ [vI x2.2.1, vI x2.2.2.1, vI x2.2.2.2.1, vI x2.2.2.2.2.1, vI x2.2.2.2.2.2])), (25, cI x2.2.1), (26, cI (IntKind.i64.wrap (v0.1 + 1))), (27, cB (x2.2.1 != (IntKind.i64.wrap (v0.1 + 1))))], []⟩
def YlheldBatteryS_0_2 {R : Type} (K : Ex → St → Option R) (c0 : ClheldBatteryS_0) (v0 : VlheldBatteryS_0) (x1 : I6) (x2 : I6) (x3 : I6) : Option R := K .ret ⟨67, 0, [(0, .c (.l 176 sI6 c0)), (1, cI (IntKind.i64.wrap ((IntKind.i64.wrap (v0.1 + 1)) + 1))), (4, cI (-1)), (5, cI v0.2), (6, cI v0.2), (7, .c (.l 176 sI6 c0)), (8, cI (c0.length : Int)), (9, cB (decide (v0.2 < (c0.length : Int)))), (12, .c (.l 176 sI6 c0)), (13, cI v0.2), (14, .c (.at_ (avs sI6 x1))), (15, .c (.at_ (avs sI6 x1))), (16, cI x1.1), (17, cI v0.1), (18, cB (x1.1 != v0.1)), (19, cI v0.1), (20, cI (IntKind.i64.wrap (v0.1 + 1))), (21, .c (.l 176 sI6 c0)), (22, cI v0.2), (23, .c (.at_ (avs sI6 x2))), (24, .c (.at_ [vI x2.2.1, vI x2.2.2.1, vI x2.2.2.2.1, vI x2.2.2.2.2.1, vI x2.2.2.2.2.2])), (25, cI x2.2.1), (26, cI (IntKind.i64.wrap (v0.1 + 1))), (27, cB (x2.2.1 != (IntKind.i64.wrap (v0.1 + 1)))), (28, cI (IntKind.i64.wrap (v0.1 + 1))), (29, cI (IntKind.i64.wrap ((IntKind.i64.wrap (v0.1 + 1)) + 1))), (30, .c (.l 176 sI6 c0)), (31, cI v0.2), (32, .c (.at_ (avs sI6 x3))), (33, .c (.at_ (avs sI4 x3.2.2))), (34, cI x3.2.2.1), (35, cI (IntKind.i64.wrap ((IntKind.i64.wrap (v0.1 + 1)) + 1))), (36, cB (x3.2.2.1 != (IntKind.i64.wrap ((IntKind.i64.wrap (v0.1 + 1)) + 1))))], []⟩
def YlheldBatteryS_0_3 {R : Type} (K : Ex → St → Option R) (c0 : ClheldBatteryS_0) (v0 : VlheldBatteryS_0) (x1 : I6) (x2 : I6) (x3 : I6) (x4 : I6) : Option R := K .ret ⟨67, 0, [(0, .c (.l 176 sI6 c0)), (1, cI (IntKind.i64.wrap ((IntKind.i64.wrap ((IntKind.i64.wrap (v0.1 + 1)) + 1)) + 1))), (4, cI (-1)), (5, cI v0.2), (6, cI v0.2), (7, .c (.l 176 sI6 c0)), (8, cI (c0.length : Int)), (9, cB (decide (v0.2 < (c0.length : Int)))), (12, .c (.l 176 sI6 c0)), (13, cI v0.2), (14, .c (.at_ (avs sI6 x1))), (15, .c (.at_ (avs sI6 x1))), (16, cI x1.1), (17, cI v0.1), (18, cB (x1.1 != v0.1)), (19, cI v0.1), (20, cI (IntKind.i64.wrap (v0.1 + 1))), (21, .c (.l 176 sI6 c0)), (22, cI v0.2), (23, .c (.at_ (avs sI6 x2))), (24, .c (.at_ [vI x2.2.1, vI x2.2.2.1, vI x2.2.2.2.1, vI x2.2.2.2.2.1, vI x2.2.2.2.2.2])), (25, cI x2.2.1), (26, cI (IntKind.i64.wrap (v0.1 + 1))), (27, cB (x2.2.1 != (IntKind.i64.wrap (v0.1 + 1)))), (28, cI (IntKind.i64.wrap (v0.1 + 1))), (29, cI (IntKind.i64.wrap ((IntKind.i64.wrap (v0.1 + 1)) + 1))), (30, .c (.l 176 sI6 c0)), (31, cI v0.2), (32, .c (.at_ (avs sI6 x3))), (33, .c (.at_ (avs sI4 x3.2.2))), (34, cI x3.2.2.1), (35, cI (IntKind.i64.wrap ((IntKind.i64.wrap (v0.1 + 1)) + 1))), (36, cB (x3.2.2.1 != (IntKind.i64.wrap ((IntKind.i64.wrap (v0.1 + 1)) + 1)))), (37, cI (IntKind.i64.wrap ((IntKind.i64.wrap (v0.1 + 1)) + 1))), (38, cI (IntKind.i64.wrap ((IntKind.i64.wrap ((IntKind.i64.wrap (v0.1 + 1)) + 1)) + 1))), (39, .c (.l 176 sI6 c0)), (40, cI v0.2), (41, .c (.at_ (avs sI6 x4))), (42, .c (.at_ (avs sI3 x4.2.2.2))), (43, cI x4.2.2.2.1), (44, cI (IntKind.i64.wrap ((IntKind.i64.wrap ((IntKind.i64.wrap (v0.1 + 1)) + 1)) + 1))), (45, cB (x4.2.2.2.1 != (IntKind.i64.wrap ((IntKind.i64.wrap ((IntKind.i64.wrap (v0.1 + 1)) + 1)) + 1))))], []⟩
def YlheldBatteryS_0_4 {R : Type} (K : Ex → St → Option R) (c0 : ClheldBatteryS_0) (v0 : VlheldBatteryS_0) (x1 : I6) (x2 : I6) (x3 : I6) (x4 : I6) (x5 : I6) : Option R := K .ret ⟨67, 0, [(0, .c (.l 176 sI6 c0)), (1, cI (IntKind.i64.wrap ((IntKind.i64.wrap ((IntKind.i64.wrap ((IntKind.i64.wrap (v0.1 + 1)) + 1)) + 1)) + 1))), (4, cI (-1)), (5, cI v0.2), (6, cI v0.2), (7, .c (.l 176 sI6 c0)), (8, cI (c0.length : Int)), (9, cB (decide (v0.2 < (c0.length : Int)))), (12, .c (.l 176 sI6 c0)), (13, cI v0.2), (14, .c (.at_ (avs sI6 x1))), (15, .c (.at_ (avs sI6 x1))), (16, cI x1.1), (17, cI v0.1), (18, cB (x1.1 != v0.1)), (19, cI v0.1), (20, cI (IntKind.i64.wrap (v0.1 + 1))), (21, .c (.l 176 sI6 c0)), (22, cI v0.2), (23, .c (.at_ (avs sI6 x2))), (24, .c (.at_ [vI x2.2.1, vI x2.2.2.1, vI x2.2.2.2.1, vI x2.2.2.2.2.1, vI x2.2.2.2.2.2])), (25, cI x2.2.1), (26, cI (IntKind.i64.wrap (v0.1 + 1))), (27, cB (x2.2.1 != (IntKind.i64.wrap (v0.1 + 1)))), (28, cI (IntKind.i64.wrap (v0.1 + 1))), (29, cI (IntKind.i64.wrap ((IntKind.i64.wrap (v0.1 + 1)) + 1))), (30, .c (.l 176 sI6 c0)), (31, cI v0.2), (32, .c (.at_ (avs sI6 x3))), (33, .c (.at_ (avs sI4 x3.2.2))), (34, cI x3.2.2.1), (35, cI (IntKind.i64.wrap ((IntKind.i64.wrap (v0.1 + 1)) + 1))), (36, cB (x3.2.2.1 != (IntKind.i64.wrap ((IntKind.i64.wrap (v0.1 + 1)) + 1)))), (37, cI (IntKind.i64.wrap ((IntKind.i64.wrap (v0.1 + 1)) + 1))), (38, cI (IntKind.i64.wrap ((IntKind.i64.wrap ((IntKind.i64.wrap (v0.1 + 1)) + 1)) + 1))), (39, .c (.l 176 sI6 c0)), (40, cI v0.2), (41, .c (.at_ (avs sI6 x4))), (42, .c (.at_ (avs sI3 x4.2.2.2))), (43, cI x4.2.2.2.1), (44, cI (IntKind.i64.wrap ((IntKind.i64.wrap ((IntKind.i64.wrap (v0.1 + 1)) + 1)) + 1))), (45, cB (x4.2.2.2.1 != (IntKind.i64.wrap ((IntKind.i64.wrap ((IntKind.i64.wrap (v0.1 + 1)) + 1)) + 1)))), (46, cI (IntKind.i64.wrap ((IntKind.i64.wrap ((IntKind.i64.wrap (v0.1 + 1)) + 1)) + 1))), (47, cI (IntKind.i64.wrap ((IntKind.i64.wrap ((IntKind.i64.wrap ((IntKind.i64.wrap (v0.1 + 1)) + 1)) + 1)) + 1))), (48, .c (.l 176 sI6 c0)), (49, cI v0.2), (50, .c (.at_ (avs sI6 x5))), (51, .c (.at_ [vI x5.2.2.2.2.1, vI x5.2.2.2.2.2])), (52, cI x5.2.2.2.2.1), (53, cI (IntKind.i64.wrap ((IntKind.i64.wrap ((IntKind.i64.wrap ((IntKind.i64.wrap (v0.1 + 1)) + 1)) + 1)) + 1))), (54, cB (x5.2.2.2.2.1 != (IntKind.i64.wrap ((IntKind.i64.wrap ((IntKind.i64.wrap ((IntKind.i64.wrap (v0.1 + 1)) + 1)) + 1)) + 1))))], []⟩
def YlheldBatteryS_0_5 {R : Type} (K : Ex → St → Option R) (c0 : ClheldBatteryS_0) (v0 : VlheldBatteryS_0) (x1 : I6) (x2 : I6) (x3 : I6) (x4 : I6) (x5 : I6) (x6 : I6) : Option R := K .ret ⟨67, 0, [(0, .c (.l 176 sI6 c0)), (1, cI (IntKind.i64.wrap ((IntKind.i64.wrap ((IntKind.i64.wrap ((IntKind.i64.wrap ((IntKind.i64.wrap (v0.1 + 1)) + 1)) + 1)) + 1)) + 1))), (4, cI (-1)), (5, cI v0.2), (6, cI v0.2), (7, .c (.l 176 sI6 c0)), (8, cI (c0.length : Int)), (9, cB (decide (v0.2 < (c0.length : Int)))), (12, .c (.l 176 sI6 c0)), (13, cI v0.2), (14, .c (.at_ (avs sI6 x1))), (15, .c (.at_ (avs sI6 x1))), (16, cI x1.1), (17, cI v0.1), (18, cB (x1.1 != v0.1)), (19, cI v0.1), (20, cI (IntKind.i64.wrap (v0.1 + 1))), (21, .c (.l 176 sI6 c0)), (22, cI v0.2), (23, .c (.at_ (avs sI6 x2))), (24, .c (.at_ [vI x2.2.1, vI x2.2.2.1, vI x2.2.2.2.1, vI x2.2.2.2.2.1, vI x2.2.2.2.2.2])), (25, cI x2.2.1), (26, cI (IntKind.i64.wrap (v0.1 + 1))), (27, cB (x2.2.1 != (IntKind.i64.wrap (v0.1 + 1)))), (28, cI (IntKind.i64.wrap (v0.1 + 1))), (29, cI (IntKind.i64.wrap ((IntKind.i64.wrap (v0.1 + 1)) + 1))), (30, .c (.l 176 sI6 c0)), (31, cI v0.2), (32, .c (.at_ (avs sI6 x3))), (33, .c (.at_ (avs sI4 x3.2.2))), (34, cI x3.2.2.1), (35, cI (IntKind.i64.wrap ((IntKind.i64.wrap (v0.1 + 1)) + 1))), (36, cB (x3.2.2.1 != (IntKind.i64.wrap ((IntKind.i64.wrap (v0.1 + 1)) + 1)))), (37, cI (IntKind.i64.wrap ((IntKind.i64.wrap (v0.1 + 1)) + 1))), (38, cI (IntKind.i64.wrap ((IntKind.i64.wrap ((IntKind.i64.wrap (v0.1 + 1)) + 1)) + 1))), (39, .c (.l 176 sI6 c0)), (40, cI v0.2), (41, .c (.at_ (avs sI6 x4))), (42, .c (.at_ (avs sI3 x4.2.2.2))), (43, cI x4.2.2.2.1), (44, cI (IntKind.i64.wrap ((IntKind.i64.wrap ((IntKind.i64.wrap (v0.1 + 1)) + 1)) + 1))), (45, cB (x4.2.2.2.1 != (IntKind.i64.wrap ((IntKind.i64.wrap ((IntKind.i64.wrap (v0.1 + 1)) + 1)) + 1)))), (46, cI (IntKind.i64.wrap ((IntKind.i64.wrap ((IntKind.i64.wrap (v0.1 + 1)) + 1)) + 1))), (47, cI (IntKind.i64.wrap ((IntKind.i64.wrap ((IntKind.i64.wrap ((IntKind.i64.wrap (v0.1 + 1)) + 1)) + 1)) + 1))), (48, .c (.l 176 sI6 c0)), (49, cI v0.2), (50, .c (.at_ (avs sI6 x5))), (51, .c (.at_ [vI x5.2.2.2.2.1, vI x5.2.2.2.2.2])), (52, cI x5.2.2.2.2.1), (53, cI (IntKind.i64.wrap ((IntKind.i64.wrap ((IntKind.i64.wrap ((IntKind.i64.wrap (v0.1 + 1)) + 1)) + 1)) + 1))), (54, cB (x5.2.2.2.2.1 != (IntKind.i64.wrap ((IntKind.i64.wrap ((IntKind.i64.wrap ((IntKind.i64.wrap (v0.1 + 1)) + 1)) + 1)) + 1)))), (55, cI (IntKind.i64.wrap ((IntKind.i64.wrap ((IntKind.i64.wrap ((IntKind.i64.wrap (v0.1 + 1)) + 1)) + 1)) + 1))), (56, cI (IntKind.i64.wrap ((IntKind.i64.wrap ((IntKind.i64.wrap ((IntKind.i64.wrap ((IntKind.i64.wrap (v0.1 + 1)) + 1)) + 1)) + 1)) + 1))), (57, .c (.l 176 sI6 c0)), (58, cI v0.2), (59, .c (.at_ (avs sI6 x6))), (60, .c (.at_ [vI x6.2.2.2.2.2])), (61, cI x6.2.2.2.2.2), (62, cI (IntKind.i64.wrap ((IntKind.i64.wrap ((IntKind.i64.wrap ((IntKind.i64.wrap ((IntKind.i64.wrap (v0.1 + 1)) + 1)) + 1)) + 1)) + 1))), (63, cB (x6.2.2.2.2.2 != (IntKind.i64.wrap ((IntKind.i64.wrap ((IntKind.i64.wrap ((IntKind.i64.wrap ((IntKind.i64.wrap (v0.1 + 1)) + 1)) + 1)) + 1)) + 1))))], []⟩
def YlheldBatteryS_0_6 {R : Type} (K : Ex → St → Option R) (c0 : ClheldBatteryS_0) (v0 : VlheldBatteryS_0) : Option R := K (.exit 0) ⟨67, 0, [(0, .c (.l 176 sI6 c0)), (1, cI v0.1), (5, cI v0.2), (6, cI v0.2), (7, .c (.l 176 sI6 c0)), (8, cI (c0.length : Int)), (9, cB (decide (v0.2 < (c0.length : Int))))], []⟩
theorem llheldBatteryS_0 {R : Type} (k : Nat) (K : Ex → St → Option R) (c0 : ClheldBatteryS_0) : ∀ (n : Nat) (v : VlheldBatteryS_0), loopRun [0, 0, 1, 5] (run E (den E k) (lv 78) k (nthLoop Tryz.f78 0)) n (StlheldBatteryS_0 c0 v) K = LlheldBatteryS_0 k (YlheldBatteryS_0_0 K c0) (YlheldBatteryS_0_1 K c0) (YlheldBatteryS_0_2 K c0) (YlheldBatteryS_0_3 K c0) (YlheldBatteryS_0_4 K c0) (YlheldBatteryS_0_5 K c0) (YlheldBatteryS_0_6 K c0) c0 n v := loop_law (B := BlheldBatteryS_0 k (YlheldBatteryS_0_0 K c0) (YlheldBatteryS_0_1 K c0) (YlheldBatteryS_0_2 K c0) (YlheldBatteryS_0_3 K c0) (YlheldBatteryS_0_4 K c0) (YlheldBatteryS_0_5 K c0) (YlheldBatteryS_0_6 K c0) c0) (fun _ => rfl) (fun n v => by kernel_rfl) (fun _ => rfl) (fun _ _ => rfl)
theorem mlheldBatteryS_0 (k : Nat) (a0 : List I6) (a1 : Int) : FlheldBatteryS (k + 1) a0 a1 = loopRun (R := Int) [0, 0, 1, 5] (run E (den E k) (lv 78) k (nthLoop Tryz.f78 0)) k (StlheldBatteryS_0 a0 (a1, 0)) (kontAt E (den E k) (lv 78) k (bodyOf Tryz.f78) 0 [] (finish E (rs 78) Tryz.f78 : Ex → St → Option (Int))) := by kernel_rfl
theorem elheldBatteryS (k : Nat) (a0 : List I6) (a1 : Int) : FlheldBatteryS (k + 1) a0 a1 = LlheldBatteryS_0 k (fun (v0 : I2) (x1 : I6) => some (-1)) (fun (v0 : I2) (x1 : I6) (x2 : I6) => some (-1)) (fun (v0 : I2) (x1 : I6) (x2 : I6) (x3 : I6) => some (-1)) (fun (v0 : I2) (x1 : I6) (x2 : I6) (x3 : I6) (x4 : I6) => some (-1)) (fun (v0 : I2) (x1 : I6) (x2 : I6) (x3 : I6) (x4 : I6) (x5 : I6) => some (-1)) (fun (v0 : I2) (x1 : I6) (x2 : I6) (x3 : I6) (x4 : I6) (x5 : I6) (x6 : I6) => some (-1)) (fun (v0 : I2) => some v0.1) a0 k (a1, 0) := by
  rw [mlheldBatteryS_0]
  simp only [llheldBatteryS_0]
  kernel_rfl
noncomputable def FlheldFaultS (k : Nat) (a0 : List I4) (a1 : Int) : Option (Int) := den E k 82 [.c (.l 66 sI4 a0), cI a1]
abbrev ClheldFaultS_0 : Type := (List I4)
abbrev VlheldFaultS_0 : Type := Int × Int
def StlheldFaultS_0 (c0 : ClheldFaultS_0) (v0 : VlheldFaultS_0) : St := ⟨49, 0, [(0, .c (.l 66 sI4 c0)), (1, cI v0.1), (5, cI v0.2)], []⟩
noncomputable def BlheldFaultS_0 {R : Type} (k : Nat) (X0 : VlheldFaultS_0 → I4 → Option R) (X1 : VlheldFaultS_0 → I4 → I4 → Option R) (X2 : VlheldFaultS_0 → I4 → I4 → I4 → Option R) (X3 : VlheldFaultS_0 → I4 → I4 → I4 → I4 → Option R) (X4 : VlheldFaultS_0 → Option R) (c0 : ClheldFaultS_0) (rec : VlheldFaultS_0 → Option R) (v0 : VlheldFaultS_0) : Option R := if (decide (v0.2 < (c0.length : Int))) = true then if 0 ≤ v0.2 then ix c0 v0.2.toNat fun x1 => if (x1.1 != v0.1) = true then X0 v0 x1 else if 0 ≤ v0.2 then ix c0 v0.2.toNat fun x2 => if (x2.2.1 != (IntKind.i64.wrap (v0.1 + 1))) = true then X1 v0 x1 x2 else if 0 ≤ v0.2 then ix c0 v0.2.toNat fun x3 => if (x3.2.2.1 != (IntKind.i64.wrap ((IntKind.i64.wrap (v0.1 + 1)) + 1))) = true then X2 v0 x1 x2 x3 else if 0 ≤ v0.2 then ix c0 v0.2.toNat fun x4 => if (x4.2.2.2 != (IntKind.i64.wrap ((IntKind.i64.wrap ((IntKind.i64.wrap (v0.1 + 1)) + 1)) + 1))) = true then X3 v0 x1 x2 x3 x4 else rec ((IntKind.i64.wrap ((IntKind.i64.wrap ((IntKind.i64.wrap ((IntKind.i64.wrap (v0.1 + 1)) + 1)) + 1)) + 1)), (IntKind.i64.wrap (v0.2 + 1))) else none else none else none else none else X4 v0
noncomputable def LlheldFaultS_0 {R : Type} (k : Nat) (X0 : VlheldFaultS_0 → I4 → Option R) (X1 : VlheldFaultS_0 → I4 → I4 → Option R) (X2 : VlheldFaultS_0 → I4 → I4 → I4 → Option R) (X3 : VlheldFaultS_0 → I4 → I4 → I4 → I4 → Option R) (X4 : VlheldFaultS_0 → Option R) (c : ClheldFaultS_0) : Nat → VlheldFaultS_0 → Option R
  | 0, _ => none
  | n + 1, v => BlheldFaultS_0 k X0 X1 X2 X3 X4 c (LlheldFaultS_0 k X0 X1 X2 X3 X4 c n) v
def YlheldFaultS_0_0 {R : Type} (K : Ex → St → Option R) (c0 : ClheldFaultS_0) (v0 : VlheldFaultS_0) (x1 : I4) : Option R := K .ret ⟨49, 0, [(0, .c (.l 66 sI4 c0)), (1, cI v0.1), (4, cI (-1)), (5, cI v0.2), (6, cI v0.2), (7, .c (.l 66 sI4 c0)), (8, cI (c0.length : Int)), (9, cB (decide (v0.2 < (c0.length : Int)))), (12, .c (.l 66 sI4 c0)), (13, cI v0.2), (14, .c (.at_ (avs sI4 x1))), (15, .c (.at_ (avs sI4 x1))), (16, cI x1.1), (17, cI v0.1), (18, cB (x1.1 != v0.1))], []⟩
def YlheldFaultS_0_1 {R : Type} (K : Ex → St → Option R) (c0 : ClheldFaultS_0) (v0 : VlheldFaultS_0) (x1 : I4) (x2 : I4) : Option R := K .ret ⟨49, 0, [(0, .c (.l 66 sI4 c0)), (1, cI (IntKind.i64.wrap (v0.1 + 1))), (4, cI (-1)), (5, cI v0.2), (6, cI v0.2), (7, .c (.l 66 sI4 c0)), (8, cI (c0.length : Int)), (9, cB (decide (v0.2 < (c0.length : Int)))), (12, .c (.l 66 sI4 c0)), (13, cI v0.2), (14, .c (.at_ (avs sI4 x1))), (15, .c (.at_ (avs sI4 x1))), (16, cI x1.1), (17, cI v0.1), (18, cB (x1.1 != v0.1)), (19, cI v0.1), (20, cI (IntKind.i64.wrap (v0.1 + 1))), (21, .c (.l 66 sI4 c0)), (22, cI v0.2), (23, .c (.at_ (avs sI4 x2))), (24, .c (.at_ (avs sI3 x2.2))), (25, cI x2.2.1), (26, cI (IntKind.i64.wrap (v0.1 + 1))), (27, cB (x2.2.1 != (IntKind.i64.wrap (v0.1 + 1))))], []⟩
def YlheldFaultS_0_2 {R : Type} (K : Ex → St → Option R) (c0 : ClheldFaultS_0) (v0 : VlheldFaultS_0) (x1 : I4) (x2 : I4) (x3 : I4) : Option R := K .ret ⟨49, 0, [(0, .c (.l 66 sI4 c0)), (1, cI (IntKind.i64.wrap ((IntKind.i64.wrap (v0.1 + 1)) + 1))), (4, cI (-1)), (5, cI v0.2), (6, cI v0.2), (7, .c (.l 66 sI4 c0)), (8, cI (c0.length : Int)), (9, cB (decide (v0.2 < (c0.length : Int)))), (12, .c (.l 66 sI4 c0)), (13, cI v0.2), (14, .c (.at_ (avs sI4 x1))), (15, .c (.at_ (avs sI4 x1))), (16, cI x1.1), (17, cI v0.1), (18, cB (x1.1 != v0.1)), (19, cI v0.1), (20, cI (IntKind.i64.wrap (v0.1 + 1))), (21, .c (.l 66 sI4 c0)), (22, cI v0.2), (23, .c (.at_ (avs sI4 x2))), (24, .c (.at_ (avs sI3 x2.2))), (25, cI x2.2.1), (26, cI (IntKind.i64.wrap (v0.1 + 1))), (27, cB (x2.2.1 != (IntKind.i64.wrap (v0.1 + 1)))), (28, cI (IntKind.i64.wrap (v0.1 + 1))), (29, cI (IntKind.i64.wrap ((IntKind.i64.wrap (v0.1 + 1)) + 1))), (30, .c (.l 66 sI4 c0)), (31, cI v0.2), (32, .c (.at_ (avs sI4 x3))), (33, .c (.at_ [vI x3.2.2.1, vI x3.2.2.2])), (34, cI x3.2.2.1), (35, cI (IntKind.i64.wrap ((IntKind.i64.wrap (v0.1 + 1)) + 1))), (36, cB (x3.2.2.1 != (IntKind.i64.wrap ((IntKind.i64.wrap (v0.1 + 1)) + 1))))], []⟩
def YlheldFaultS_0_3 {R : Type} (K : Ex → St → Option R) (c0 : ClheldFaultS_0) (v0 : VlheldFaultS_0) (x1 : I4) (x2 : I4) (x3 : I4) (x4 : I4) : Option R := K .ret ⟨49, 0, [(0, .c (.l 66 sI4 c0)), (1, cI (IntKind.i64.wrap ((IntKind.i64.wrap ((IntKind.i64.wrap (v0.1 + 1)) + 1)) + 1))), (4, cI (-1)), (5, cI v0.2), (6, cI v0.2), (7, .c (.l 66 sI4 c0)), (8, cI (c0.length : Int)), (9, cB (decide (v0.2 < (c0.length : Int)))), (12, .c (.l 66 sI4 c0)), (13, cI v0.2), (14, .c (.at_ (avs sI4 x1))), (15, .c (.at_ (avs sI4 x1))), (16, cI x1.1), (17, cI v0.1), (18, cB (x1.1 != v0.1)), (19, cI v0.1), (20, cI (IntKind.i64.wrap (v0.1 + 1))), (21, .c (.l 66 sI4 c0)), (22, cI v0.2), (23, .c (.at_ (avs sI4 x2))), (24, .c (.at_ (avs sI3 x2.2))), (25, cI x2.2.1), (26, cI (IntKind.i64.wrap (v0.1 + 1))), (27, cB (x2.2.1 != (IntKind.i64.wrap (v0.1 + 1)))), (28, cI (IntKind.i64.wrap (v0.1 + 1))), (29, cI (IntKind.i64.wrap ((IntKind.i64.wrap (v0.1 + 1)) + 1))), (30, .c (.l 66 sI4 c0)), (31, cI v0.2), (32, .c (.at_ (avs sI4 x3))), (33, .c (.at_ [vI x3.2.2.1, vI x3.2.2.2])), (34, cI x3.2.2.1), (35, cI (IntKind.i64.wrap ((IntKind.i64.wrap (v0.1 + 1)) + 1))), (36, cB (x3.2.2.1 != (IntKind.i64.wrap ((IntKind.i64.wrap (v0.1 + 1)) + 1)))), (37, cI (IntKind.i64.wrap ((IntKind.i64.wrap (v0.1 + 1)) + 1))), (38, cI (IntKind.i64.wrap ((IntKind.i64.wrap ((IntKind.i64.wrap (v0.1 + 1)) + 1)) + 1))), (39, .c (.l 66 sI4 c0)), (40, cI v0.2), (41, .c (.at_ (avs sI4 x4))), (42, .c (.at_ [vI x4.2.2.2])), (43, cI x4.2.2.2), (44, cI (IntKind.i64.wrap ((IntKind.i64.wrap ((IntKind.i64.wrap (v0.1 + 1)) + 1)) + 1))), (45, cB (x4.2.2.2 != (IntKind.i64.wrap ((IntKind.i64.wrap ((IntKind.i64.wrap (v0.1 + 1)) + 1)) + 1))))], []⟩
def YlheldFaultS_0_4 {R : Type} (K : Ex → St → Option R) (c0 : ClheldFaultS_0) (v0 : VlheldFaultS_0) : Option R := K (.exit 0) ⟨49, 0, [(0, .c (.l 66 sI4 c0)), (1, cI v0.1), (5, cI v0.2), (6, cI v0.2), (7, .c (.l 66 sI4 c0)), (8, cI (c0.length : Int)), (9, cB (decide (v0.2 < (c0.length : Int))))], []⟩
theorem llheldFaultS_0 {R : Type} (k : Nat) (K : Ex → St → Option R) (c0 : ClheldFaultS_0) : ∀ (n : Nat) (v : VlheldFaultS_0), loopRun [0, 0, 1, 5] (run E (den E k) (lv 82) k (nthLoop Tryz.f82 0)) n (StlheldFaultS_0 c0 v) K = LlheldFaultS_0 k (YlheldFaultS_0_0 K c0) (YlheldFaultS_0_1 K c0) (YlheldFaultS_0_2 K c0) (YlheldFaultS_0_3 K c0) (YlheldFaultS_0_4 K c0) c0 n v := loop_law (B := BlheldFaultS_0 k (YlheldFaultS_0_0 K c0) (YlheldFaultS_0_1 K c0) (YlheldFaultS_0_2 K c0) (YlheldFaultS_0_3 K c0) (YlheldFaultS_0_4 K c0) c0) (fun _ => rfl) (fun n v => by kernel_rfl) (fun _ => rfl) (fun _ _ => rfl)
theorem mlheldFaultS_0 (k : Nat) (a0 : List I4) (a1 : Int) : FlheldFaultS (k + 1) a0 a1 = loopRun (R := Int) [0, 0, 1, 5] (run E (den E k) (lv 82) k (nthLoop Tryz.f82 0)) k (StlheldFaultS_0 a0 (a1, 0)) (kontAt E (den E k) (lv 82) k (bodyOf Tryz.f82) 0 [] (finish E (rs 82) Tryz.f82 : Ex → St → Option (Int))) := by kernel_rfl
theorem elheldFaultS (k : Nat) (a0 : List I4) (a1 : Int) : FlheldFaultS (k + 1) a0 a1 = LlheldFaultS_0 k (fun (v0 : I2) (x1 : I4) => some (-1)) (fun (v0 : I2) (x1 : I4) (x2 : I4) => some (-1)) (fun (v0 : I2) (x1 : I4) (x2 : I4) (x3 : I4) => some (-1)) (fun (v0 : I2) (x1 : I4) (x2 : I4) (x3 : I4) (x4 : I4) => some (-1)) (fun (v0 : I2) => some v0.1) a0 k (a1, 0) := by
  rw [mlheldFaultS_0]
  simp only [llheldFaultS_0]
  kernel_rfl
noncomputable def FlheldFlowS (k : Nat) (a0 : List I4) (a1 : Int) : Option (Int) := den E k 80 [.c (.l 76 sI4 a0), cI a1]
abbrev ClheldFlowS_0 : Type := (List I4)
abbrev VlheldFlowS_0 : Type := Int × Int
def StlheldFlowS_0 (c0 : ClheldFlowS_0) (v0 : VlheldFlowS_0) : St := ⟨49, 0, [(0, .c (.l 76 sI4 c0)), (1, cI v0.1), (5, cI v0.2)], []⟩
noncomputable def BlheldFlowS_0 {R : Type} (k : Nat) (X0 : VlheldFlowS_0 → I4 → Option R) (X1 : VlheldFlowS_0 → I4 → I4 → Option R) (X2 : VlheldFlowS_0 → I4 → I4 → I4 → Option R) (X3 : VlheldFlowS_0 → I4 → I4 → I4 → I4 → Option R) (X4 : VlheldFlowS_0 → Option R) (c0 : ClheldFlowS_0) (rec : VlheldFlowS_0 → Option R) (v0 : VlheldFlowS_0) : Option R := if (decide (v0.2 < (c0.length : Int))) = true then if 0 ≤ v0.2 then ix c0 v0.2.toNat fun x1 => if (x1.1 != v0.1) = true then X0 v0 x1 else if 0 ≤ v0.2 then ix c0 v0.2.toNat fun x2 => if (x2.2.1 != (IntKind.i64.wrap (v0.1 + 1))) = true then X1 v0 x1 x2 else if 0 ≤ v0.2 then ix c0 v0.2.toNat fun x3 => if (x3.2.2.1 != (IntKind.i64.wrap ((IntKind.i64.wrap (v0.1 + 1)) + 1))) = true then X2 v0 x1 x2 x3 else if 0 ≤ v0.2 then ix c0 v0.2.toNat fun x4 => if (x4.2.2.2 != (IntKind.i64.wrap ((IntKind.i64.wrap ((IntKind.i64.wrap (v0.1 + 1)) + 1)) + 1))) = true then X3 v0 x1 x2 x3 x4 else rec ((IntKind.i64.wrap ((IntKind.i64.wrap ((IntKind.i64.wrap ((IntKind.i64.wrap (v0.1 + 1)) + 1)) + 1)) + 1)), (IntKind.i64.wrap (v0.2 + 1))) else none else none else none else none else X4 v0
noncomputable def LlheldFlowS_0 {R : Type} (k : Nat) (X0 : VlheldFlowS_0 → I4 → Option R) (X1 : VlheldFlowS_0 → I4 → I4 → Option R) (X2 : VlheldFlowS_0 → I4 → I4 → I4 → Option R) (X3 : VlheldFlowS_0 → I4 → I4 → I4 → I4 → Option R) (X4 : VlheldFlowS_0 → Option R) (c : ClheldFlowS_0) : Nat → VlheldFlowS_0 → Option R
  | 0, _ => none
  | n + 1, v => BlheldFlowS_0 k X0 X1 X2 X3 X4 c (LlheldFlowS_0 k X0 X1 X2 X3 X4 c n) v
def YlheldFlowS_0_0 {R : Type} (K : Ex → St → Option R) (c0 : ClheldFlowS_0) (v0 : VlheldFlowS_0) (x1 : I4) : Option R := K .ret ⟨49, 0, [(0, .c (.l 76 sI4 c0)), (1, cI v0.1), (4, cI (-1)), (5, cI v0.2), (6, cI v0.2), (7, .c (.l 76 sI4 c0)), (8, cI (c0.length : Int)), (9, cB (decide (v0.2 < (c0.length : Int)))), (12, .c (.l 76 sI4 c0)), (13, cI v0.2), (14, .c (.at_ (avs sI4 x1))), (15, .c (.at_ (avs sI4 x1))), (16, cI x1.1), (17, cI v0.1), (18, cB (x1.1 != v0.1))], []⟩
def YlheldFlowS_0_1 {R : Type} (K : Ex → St → Option R) (c0 : ClheldFlowS_0) (v0 : VlheldFlowS_0) (x1 : I4) (x2 : I4) : Option R := K .ret ⟨49, 0, [(0, .c (.l 76 sI4 c0)), (1, cI (IntKind.i64.wrap (v0.1 + 1))), (4, cI (-1)), (5, cI v0.2), (6, cI v0.2), (7, .c (.l 76 sI4 c0)), (8, cI (c0.length : Int)), (9, cB (decide (v0.2 < (c0.length : Int)))), (12, .c (.l 76 sI4 c0)), (13, cI v0.2), (14, .c (.at_ (avs sI4 x1))), (15, .c (.at_ (avs sI4 x1))), (16, cI x1.1), (17, cI v0.1), (18, cB (x1.1 != v0.1)), (19, cI v0.1), (20, cI (IntKind.i64.wrap (v0.1 + 1))), (21, .c (.l 76 sI4 c0)), (22, cI v0.2), (23, .c (.at_ (avs sI4 x2))), (24, .c (.at_ (avs sI3 x2.2))), (25, cI x2.2.1), (26, cI (IntKind.i64.wrap (v0.1 + 1))), (27, cB (x2.2.1 != (IntKind.i64.wrap (v0.1 + 1))))], []⟩
def YlheldFlowS_0_2 {R : Type} (K : Ex → St → Option R) (c0 : ClheldFlowS_0) (v0 : VlheldFlowS_0) (x1 : I4) (x2 : I4) (x3 : I4) : Option R := K .ret ⟨49, 0, [(0, .c (.l 76 sI4 c0)), (1, cI (IntKind.i64.wrap ((IntKind.i64.wrap (v0.1 + 1)) + 1))), (4, cI (-1)), (5, cI v0.2), (6, cI v0.2), (7, .c (.l 76 sI4 c0)), (8, cI (c0.length : Int)), (9, cB (decide (v0.2 < (c0.length : Int)))), (12, .c (.l 76 sI4 c0)), (13, cI v0.2), (14, .c (.at_ (avs sI4 x1))), (15, .c (.at_ (avs sI4 x1))), (16, cI x1.1), (17, cI v0.1), (18, cB (x1.1 != v0.1)), (19, cI v0.1), (20, cI (IntKind.i64.wrap (v0.1 + 1))), (21, .c (.l 76 sI4 c0)), (22, cI v0.2), (23, .c (.at_ (avs sI4 x2))), (24, .c (.at_ (avs sI3 x2.2))), (25, cI x2.2.1), (26, cI (IntKind.i64.wrap (v0.1 + 1))), (27, cB (x2.2.1 != (IntKind.i64.wrap (v0.1 + 1)))), (28, cI (IntKind.i64.wrap (v0.1 + 1))), (29, cI (IntKind.i64.wrap ((IntKind.i64.wrap (v0.1 + 1)) + 1))), (30, .c (.l 76 sI4 c0)), (31, cI v0.2), (32, .c (.at_ (avs sI4 x3))), (33, .c (.at_ [vI x3.2.2.1, vI x3.2.2.2])), (34, cI x3.2.2.1), (35, cI (IntKind.i64.wrap ((IntKind.i64.wrap (v0.1 + 1)) + 1))), (36, cB (x3.2.2.1 != (IntKind.i64.wrap ((IntKind.i64.wrap (v0.1 + 1)) + 1))))], []⟩
def YlheldFlowS_0_3 {R : Type} (K : Ex → St → Option R) (c0 : ClheldFlowS_0) (v0 : VlheldFlowS_0) (x1 : I4) (x2 : I4) (x3 : I4) (x4 : I4) : Option R := K .ret ⟨49, 0, [(0, .c (.l 76 sI4 c0)), (1, cI (IntKind.i64.wrap ((IntKind.i64.wrap ((IntKind.i64.wrap (v0.1 + 1)) + 1)) + 1))), (4, cI (-1)), (5, cI v0.2), (6, cI v0.2), (7, .c (.l 76 sI4 c0)), (8, cI (c0.length : Int)), (9, cB (decide (v0.2 < (c0.length : Int)))), (12, .c (.l 76 sI4 c0)), (13, cI v0.2), (14, .c (.at_ (avs sI4 x1))), (15, .c (.at_ (avs sI4 x1))), (16, cI x1.1), (17, cI v0.1), (18, cB (x1.1 != v0.1)), (19, cI v0.1), (20, cI (IntKind.i64.wrap (v0.1 + 1))), (21, .c (.l 76 sI4 c0)), (22, cI v0.2), (23, .c (.at_ (avs sI4 x2))), (24, .c (.at_ (avs sI3 x2.2))), (25, cI x2.2.1), (26, cI (IntKind.i64.wrap (v0.1 + 1))), (27, cB (x2.2.1 != (IntKind.i64.wrap (v0.1 + 1)))), (28, cI (IntKind.i64.wrap (v0.1 + 1))), (29, cI (IntKind.i64.wrap ((IntKind.i64.wrap (v0.1 + 1)) + 1))), (30, .c (.l 76 sI4 c0)), (31, cI v0.2), (32, .c (.at_ (avs sI4 x3))), (33, .c (.at_ [vI x3.2.2.1, vI x3.2.2.2])), (34, cI x3.2.2.1), (35, cI (IntKind.i64.wrap ((IntKind.i64.wrap (v0.1 + 1)) + 1))), (36, cB (x3.2.2.1 != (IntKind.i64.wrap ((IntKind.i64.wrap (v0.1 + 1)) + 1)))), (37, cI (IntKind.i64.wrap ((IntKind.i64.wrap (v0.1 + 1)) + 1))), (38, cI (IntKind.i64.wrap ((IntKind.i64.wrap ((IntKind.i64.wrap (v0.1 + 1)) + 1)) + 1))), (39, .c (.l 76 sI4 c0)), (40, cI v0.2), (41, .c (.at_ (avs sI4 x4))), (42, .c (.at_ [vI x4.2.2.2])), (43, cI x4.2.2.2), (44, cI (IntKind.i64.wrap ((IntKind.i64.wrap ((IntKind.i64.wrap (v0.1 + 1)) + 1)) + 1))), (45, cB (x4.2.2.2 != (IntKind.i64.wrap ((IntKind.i64.wrap ((IntKind.i64.wrap (v0.1 + 1)) + 1)) + 1))))], []⟩
def YlheldFlowS_0_4 {R : Type} (K : Ex → St → Option R) (c0 : ClheldFlowS_0) (v0 : VlheldFlowS_0) : Option R := K (.exit 0) ⟨49, 0, [(0, .c (.l 76 sI4 c0)), (1, cI v0.1), (5, cI v0.2), (6, cI v0.2), (7, .c (.l 76 sI4 c0)), (8, cI (c0.length : Int)), (9, cB (decide (v0.2 < (c0.length : Int))))], []⟩
theorem llheldFlowS_0 {R : Type} (k : Nat) (K : Ex → St → Option R) (c0 : ClheldFlowS_0) : ∀ (n : Nat) (v : VlheldFlowS_0), loopRun [0, 0, 1, 5] (run E (den E k) (lv 80) k (nthLoop Tryz.f80 0)) n (StlheldFlowS_0 c0 v) K = LlheldFlowS_0 k (YlheldFlowS_0_0 K c0) (YlheldFlowS_0_1 K c0) (YlheldFlowS_0_2 K c0) (YlheldFlowS_0_3 K c0) (YlheldFlowS_0_4 K c0) c0 n v := loop_law (B := BlheldFlowS_0 k (YlheldFlowS_0_0 K c0) (YlheldFlowS_0_1 K c0) (YlheldFlowS_0_2 K c0) (YlheldFlowS_0_3 K c0) (YlheldFlowS_0_4 K c0) c0) (fun _ => rfl) (fun n v => by kernel_rfl) (fun _ => rfl) (fun _ _ => rfl)
theorem mlheldFlowS_0 (k : Nat) (a0 : List I4) (a1 : Int) : FlheldFlowS (k + 1) a0 a1 = loopRun (R := Int) [0, 0, 1, 5] (run E (den E k) (lv 80) k (nthLoop Tryz.f80 0)) k (StlheldFlowS_0 a0 (a1, 0)) (kontAt E (den E k) (lv 80) k (bodyOf Tryz.f80) 0 [] (finish E (rs 80) Tryz.f80 : Ex → St → Option (Int))) := by kernel_rfl
theorem elheldFlowS (k : Nat) (a0 : List I4) (a1 : Int) : FlheldFlowS (k + 1) a0 a1 = LlheldFlowS_0 k (fun (v0 : I2) (x1 : I4) => some (-1)) (fun (v0 : I2) (x1 : I4) (x2 : I4) => some (-1)) (fun (v0 : I2) (x1 : I4) (x2 : I4) (x3 : I4) => some (-1)) (fun (v0 : I2) (x1 : I4) (x2 : I4) (x3 : I4) (x4 : I4) => some (-1)) (fun (v0 : I2) => some v0.1) a0 k (a1, 0) := by
  rw [mlheldFlowS_0]
  simp only [llheldFlowS_0]
  kernel_rfl
noncomputable def FlheldIntS (k : Nat) (a0 : List Int) (a1 : Int) : Option (Int) := den E k 77 [.c (.l 3 (.i .i64) a0), cI a1]
abbrev ClheldIntS_0 : Type := (List Int)
abbrev VlheldIntS_0 : Type := Int × Int
def StlheldIntS_0 (c0 : ClheldIntS_0) (v0 : VlheldIntS_0) : St := ⟨21, 0, [(0, .c (.l 3 (.i .i64) c0)), (1, cI v0.1), (5, cI v0.2)], []⟩
noncomputable def BlheldIntS_0 {R : Type} (k : Nat) (X0 : VlheldIntS_0 → Int → Option R) (X1 : VlheldIntS_0 → Option R) (c0 : ClheldIntS_0) (rec : VlheldIntS_0 → Option R) (v0 : VlheldIntS_0) : Option R := if (decide (v0.2 < (c0.length : Int))) = true then if 0 ≤ v0.2 then ix c0 v0.2.toNat fun x1 => if (x1 != v0.1) = true then X0 v0 x1 else rec ((IntKind.i64.wrap (v0.1 + 1)), (IntKind.i64.wrap (v0.2 + 1))) else none else X1 v0
noncomputable def LlheldIntS_0 {R : Type} (k : Nat) (X0 : VlheldIntS_0 → Int → Option R) (X1 : VlheldIntS_0 → Option R) (c : ClheldIntS_0) : Nat → VlheldIntS_0 → Option R
  | 0, _ => none
  | n + 1, v => BlheldIntS_0 k X0 X1 c (LlheldIntS_0 k X0 X1 c n) v
def YlheldIntS_0_0 {R : Type} (K : Ex → St → Option R) (c0 : ClheldIntS_0) (v0 : VlheldIntS_0) (x1 : Int) : Option R := K .ret ⟨21, 0, [(0, .c (.l 3 (.i .i64) c0)), (1, cI v0.1), (4, cI (-1)), (5, cI v0.2), (6, cI v0.2), (7, .c (.l 3 (.i .i64) c0)), (8, cI (c0.length : Int)), (9, cB (decide (v0.2 < (c0.length : Int)))), (12, .c (.l 3 (.i .i64) c0)), (13, cI v0.2), (14, .c (.at_ [vI x1])), (15, cI x1), (16, cI v0.1), (17, cB (x1 != v0.1))], []⟩
def YlheldIntS_0_1 {R : Type} (K : Ex → St → Option R) (c0 : ClheldIntS_0) (v0 : VlheldIntS_0) : Option R := K (.exit 0) ⟨21, 0, [(0, .c (.l 3 (.i .i64) c0)), (1, cI v0.1), (5, cI v0.2), (6, cI v0.2), (7, .c (.l 3 (.i .i64) c0)), (8, cI (c0.length : Int)), (9, cB (decide (v0.2 < (c0.length : Int))))], []⟩
theorem llheldIntS_0 {R : Type} (k : Nat) (K : Ex → St → Option R) (c0 : ClheldIntS_0) : ∀ (n : Nat) (v : VlheldIntS_0), loopRun [0, 0, 1, 5] (run E (den E k) (lv 77) k (nthLoop Tryz.f77 0)) n (StlheldIntS_0 c0 v) K = LlheldIntS_0 k (YlheldIntS_0_0 K c0) (YlheldIntS_0_1 K c0) c0 n v := loop_law (B := BlheldIntS_0 k (YlheldIntS_0_0 K c0) (YlheldIntS_0_1 K c0) c0) (fun _ => rfl) (fun n v => by kernel_rfl) (fun _ => rfl) (fun _ _ => rfl)
theorem mlheldIntS_0 (k : Nat) (a0 : List Int) (a1 : Int) : FlheldIntS (k + 1) a0 a1 = loopRun (R := Int) [0, 0, 1, 5] (run E (den E k) (lv 77) k (nthLoop Tryz.f77 0)) k (StlheldIntS_0 a0 (a1, 0)) (kontAt E (den E k) (lv 77) k (bodyOf Tryz.f77) 0 [] (finish E (rs 77) Tryz.f77 : Ex → St → Option (Int))) := by kernel_rfl
theorem elheldIntS (k : Nat) (a0 : List Int) (a1 : Int) : FlheldIntS (k + 1) a0 a1 = LlheldIntS_0 k (fun (v0 : I2) (x1 : Int) => some (-1)) (fun (v0 : I2) => some v0.1) a0 k (a1, 0) := by
  rw [mlheldIntS_0]
  simp only [llheldIntS_0]
  kernel_rfl
noncomputable def FlheldLaw (k : Nat) (a0 : List Int) (a1 : Int) : Option (Int) := den E k 76 [.agg [.l 3 (.i .i64) a0], cI a1]
theorem elheldLaw (k : Nat) (a0 : List Int) (a1 : Int) : FlheldLaw (k + 1) a0 a1 = (FlheldIntS k a0 a1).bind fun p1 => if (decide (p1 < 0)) = true then some (-1) else some p1 := by kernel_rfl
noncomputable def FlheldPacketS (k : Nat) (a0 : List I6) (a1 : Int) : Option (Int) := den E k 83 [.c (.l 133 sI6 a0), cI a1]
abbrev ClheldPacketS_0 : Type := (List I6)
abbrev VlheldPacketS_0 : Type := Int × Int
def StlheldPacketS_0 (c0 : ClheldPacketS_0) (v0 : VlheldPacketS_0) : St := ⟨67, 0, [(0, .c (.l 133 sI6 c0)), (1, cI v0.1), (5, cI v0.2)], []⟩
noncomputable def BlheldPacketS_0 {R : Type} (k : Nat) (X0 : VlheldPacketS_0 → I6 → Option R) (X1 : VlheldPacketS_0 → I6 → I6 → Option R) (X2 : VlheldPacketS_0 → I6 → I6 → I6 → Option R) (X3 : VlheldPacketS_0 → I6 → I6 → I6 → I6 → Option R) (X4 : VlheldPacketS_0 → I6 → I6 → I6 → I6 → I6 → Option R) (X5 : VlheldPacketS_0 → I6 → I6 → I6 → I6 → I6 → I6 → Option R) (X6 : VlheldPacketS_0 → Option R) (c0 : ClheldPacketS_0) (rec : VlheldPacketS_0 → Option R) (v0 : VlheldPacketS_0) : Option R := if (decide (v0.2 < (c0.length : Int))) = true then if 0 ≤ v0.2 then ix c0 v0.2.toNat fun x1 => if (x1.1 != v0.1) = true then X0 v0 x1 else if 0 ≤ v0.2 then ix c0 v0.2.toNat fun x2 => if (x2.2.1 != (IntKind.i64.wrap (v0.1 + 1))) = true then X1 v0 x1 x2 else if 0 ≤ v0.2 then ix c0 v0.2.toNat fun x3 => if (x3.2.2.1 != (IntKind.i64.wrap ((IntKind.i64.wrap (v0.1 + 1)) + 1))) = true then X2 v0 x1 x2 x3 else if 0 ≤ v0.2 then ix c0 v0.2.toNat fun x4 => if (x4.2.2.2.1 != (IntKind.i64.wrap ((IntKind.i64.wrap ((IntKind.i64.wrap (v0.1 + 1)) + 1)) + 1))) = true then X3 v0 x1 x2 x3 x4 else if 0 ≤ v0.2 then ix c0 v0.2.toNat fun x5 => if (x5.2.2.2.2.1 != (IntKind.i64.wrap ((IntKind.i64.wrap ((IntKind.i64.wrap ((IntKind.i64.wrap (v0.1 + 1)) + 1)) + 1)) + 1))) = true then X4 v0 x1 x2 x3 x4 x5 else if 0 ≤ v0.2 then ix c0 v0.2.toNat fun x6 => if (x6.2.2.2.2.2 != (IntKind.i64.wrap ((IntKind.i64.wrap ((IntKind.i64.wrap ((IntKind.i64.wrap ((IntKind.i64.wrap (v0.1 + 1)) + 1)) + 1)) + 1)) + 1))) = true then X5 v0 x1 x2 x3 x4 x5 x6 else rec ((IntKind.i64.wrap ((IntKind.i64.wrap ((IntKind.i64.wrap ((IntKind.i64.wrap ((IntKind.i64.wrap ((IntKind.i64.wrap (v0.1 + 1)) + 1)) + 1)) + 1)) + 1)) + 1)), (IntKind.i64.wrap (v0.2 + 1))) else none else none else none else none else none else none else X6 v0
noncomputable def LlheldPacketS_0 {R : Type} (k : Nat) (X0 : VlheldPacketS_0 → I6 → Option R) (X1 : VlheldPacketS_0 → I6 → I6 → Option R) (X2 : VlheldPacketS_0 → I6 → I6 → I6 → Option R) (X3 : VlheldPacketS_0 → I6 → I6 → I6 → I6 → Option R) (X4 : VlheldPacketS_0 → I6 → I6 → I6 → I6 → I6 → Option R) (X5 : VlheldPacketS_0 → I6 → I6 → I6 → I6 → I6 → I6 → Option R) (X6 : VlheldPacketS_0 → Option R) (c : ClheldPacketS_0) : Nat → VlheldPacketS_0 → Option R
  | 0, _ => none
  | n + 1, v => BlheldPacketS_0 k X0 X1 X2 X3 X4 X5 X6 c (LlheldPacketS_0 k X0 X1 X2 X3 X4 X5 X6 c n) v
def YlheldPacketS_0_0 {R : Type} (K : Ex → St → Option R) (c0 : ClheldPacketS_0) (v0 : VlheldPacketS_0) (x1 : I6) : Option R := K .ret ⟨67, 0, [(0, .c (.l 133 sI6 c0)), (1, cI v0.1), (4, cI (-1)), (5, cI v0.2), (6, cI v0.2), (7, .c (.l 133 sI6 c0)), (8, cI (c0.length : Int)), (9, cB (decide (v0.2 < (c0.length : Int)))), (12, .c (.l 133 sI6 c0)), (13, cI v0.2), (14, .c (.at_ (avs sI6 x1))), (15, .c (.at_ (avs sI6 x1))), (16, cI x1.1), (17, cI v0.1), (18, cB (x1.1 != v0.1))], []⟩
def YlheldPacketS_0_1 {R : Type} (K : Ex → St → Option R) (c0 : ClheldPacketS_0) (v0 : VlheldPacketS_0) (x1 : I6) (x2 : I6) : Option R := K .ret ⟨67, 0, [(0, .c (.l 133 sI6 c0)), (1, cI (IntKind.i64.wrap (v0.1 + 1))), (4, cI (-1)), (5, cI v0.2), (6, cI v0.2), (7, .c (.l 133 sI6 c0)), (8, cI (c0.length : Int)), (9, cB (decide (v0.2 < (c0.length : Int)))), (12, .c (.l 133 sI6 c0)), (13, cI v0.2), (14, .c (.at_ (avs sI6 x1))), (15, .c (.at_ (avs sI6 x1))), (16, cI x1.1), (17, cI v0.1), (18, cB (x1.1 != v0.1)), (19, cI v0.1), (20, cI (IntKind.i64.wrap (v0.1 + 1))), (21, .c (.l 133 sI6 c0)), (22, cI v0.2), (23, .c (.at_ (avs sI6 x2))), (24, .c (.at_ [vI x2.2.1, vI x2.2.2.1, vI x2.2.2.2.1, vI x2.2.2.2.2.1, vI x2.2.2.2.2.2])), (25, cI x2.2.1), (26, cI (IntKind.i64.wrap (v0.1 + 1))), (27, cB (x2.2.1 != (IntKind.i64.wrap (v0.1 + 1))))], []⟩
def YlheldPacketS_0_2 {R : Type} (K : Ex → St → Option R) (c0 : ClheldPacketS_0) (v0 : VlheldPacketS_0) (x1 : I6) (x2 : I6) (x3 : I6) : Option R := K .ret ⟨67, 0, [(0, .c (.l 133 sI6 c0)), (1, cI (IntKind.i64.wrap ((IntKind.i64.wrap (v0.1 + 1)) + 1))), (4, cI (-1)), (5, cI v0.2), (6, cI v0.2), (7, .c (.l 133 sI6 c0)), (8, cI (c0.length : Int)), (9, cB (decide (v0.2 < (c0.length : Int)))), (12, .c (.l 133 sI6 c0)), (13, cI v0.2), (14, .c (.at_ (avs sI6 x1))), (15, .c (.at_ (avs sI6 x1))), (16, cI x1.1), (17, cI v0.1), (18, cB (x1.1 != v0.1)), (19, cI v0.1), (20, cI (IntKind.i64.wrap (v0.1 + 1))), (21, .c (.l 133 sI6 c0)), (22, cI v0.2), (23, .c (.at_ (avs sI6 x2))), (24, .c (.at_ [vI x2.2.1, vI x2.2.2.1, vI x2.2.2.2.1, vI x2.2.2.2.2.1, vI x2.2.2.2.2.2])), (25, cI x2.2.1), (26, cI (IntKind.i64.wrap (v0.1 + 1))), (27, cB (x2.2.1 != (IntKind.i64.wrap (v0.1 + 1)))), (28, cI (IntKind.i64.wrap (v0.1 + 1))), (29, cI (IntKind.i64.wrap ((IntKind.i64.wrap (v0.1 + 1)) + 1))), (30, .c (.l 133 sI6 c0)), (31, cI v0.2), (32, .c (.at_ (avs sI6 x3))), (33, .c (.at_ (avs sI4 x3.2.2))), (34, cI x3.2.2.1), (35, cI (IntKind.i64.wrap ((IntKind.i64.wrap (v0.1 + 1)) + 1))), (36, cB (x3.2.2.1 != (IntKind.i64.wrap ((IntKind.i64.wrap (v0.1 + 1)) + 1))))], []⟩
def YlheldPacketS_0_3 {R : Type} (K : Ex → St → Option R) (c0 : ClheldPacketS_0) (v0 : VlheldPacketS_0) (x1 : I6) (x2 : I6) (x3 : I6) (x4 : I6) : Option R := K .ret ⟨67, 0, [(0, .c (.l 133 sI6 c0)), (1, cI (IntKind.i64.wrap ((IntKind.i64.wrap ((IntKind.i64.wrap (v0.1 + 1)) + 1)) + 1))), (4, cI (-1)), (5, cI v0.2), (6, cI v0.2), (7, .c (.l 133 sI6 c0)), (8, cI (c0.length : Int)), (9, cB (decide (v0.2 < (c0.length : Int)))), (12, .c (.l 133 sI6 c0)), (13, cI v0.2), (14, .c (.at_ (avs sI6 x1))), (15, .c (.at_ (avs sI6 x1))), (16, cI x1.1), (17, cI v0.1), (18, cB (x1.1 != v0.1)), (19, cI v0.1), (20, cI (IntKind.i64.wrap (v0.1 + 1))), (21, .c (.l 133 sI6 c0)), (22, cI v0.2), (23, .c (.at_ (avs sI6 x2))), (24, .c (.at_ [vI x2.2.1, vI x2.2.2.1, vI x2.2.2.2.1, vI x2.2.2.2.2.1, vI x2.2.2.2.2.2])), (25, cI x2.2.1), (26, cI (IntKind.i64.wrap (v0.1 + 1))), (27, cB (x2.2.1 != (IntKind.i64.wrap (v0.1 + 1)))), (28, cI (IntKind.i64.wrap (v0.1 + 1))), (29, cI (IntKind.i64.wrap ((IntKind.i64.wrap (v0.1 + 1)) + 1))), (30, .c (.l 133 sI6 c0)), (31, cI v0.2), (32, .c (.at_ (avs sI6 x3))), (33, .c (.at_ (avs sI4 x3.2.2))), (34, cI x3.2.2.1), (35, cI (IntKind.i64.wrap ((IntKind.i64.wrap (v0.1 + 1)) + 1))), (36, cB (x3.2.2.1 != (IntKind.i64.wrap ((IntKind.i64.wrap (v0.1 + 1)) + 1)))), (37, cI (IntKind.i64.wrap ((IntKind.i64.wrap (v0.1 + 1)) + 1))), (38, cI (IntKind.i64.wrap ((IntKind.i64.wrap ((IntKind.i64.wrap (v0.1 + 1)) + 1)) + 1))), (39, .c (.l 133 sI6 c0)), (40, cI v0.2), (41, .c (.at_ (avs sI6 x4))), (42, .c (.at_ (avs sI3 x4.2.2.2))), (43, cI x4.2.2.2.1), (44, cI (IntKind.i64.wrap ((IntKind.i64.wrap ((IntKind.i64.wrap (v0.1 + 1)) + 1)) + 1))), (45, cB (x4.2.2.2.1 != (IntKind.i64.wrap ((IntKind.i64.wrap ((IntKind.i64.wrap (v0.1 + 1)) + 1)) + 1))))], []⟩
def YlheldPacketS_0_4 {R : Type} (K : Ex → St → Option R) (c0 : ClheldPacketS_0) (v0 : VlheldPacketS_0) (x1 : I6) (x2 : I6) (x3 : I6) (x4 : I6) (x5 : I6) : Option R := K .ret ⟨67, 0, [(0, .c (.l 133 sI6 c0)), (1, cI (IntKind.i64.wrap ((IntKind.i64.wrap ((IntKind.i64.wrap ((IntKind.i64.wrap (v0.1 + 1)) + 1)) + 1)) + 1))), (4, cI (-1)), (5, cI v0.2), (6, cI v0.2), (7, .c (.l 133 sI6 c0)), (8, cI (c0.length : Int)), (9, cB (decide (v0.2 < (c0.length : Int)))), (12, .c (.l 133 sI6 c0)), (13, cI v0.2), (14, .c (.at_ (avs sI6 x1))), (15, .c (.at_ (avs sI6 x1))), (16, cI x1.1), (17, cI v0.1), (18, cB (x1.1 != v0.1)), (19, cI v0.1), (20, cI (IntKind.i64.wrap (v0.1 + 1))), (21, .c (.l 133 sI6 c0)), (22, cI v0.2), (23, .c (.at_ (avs sI6 x2))), (24, .c (.at_ [vI x2.2.1, vI x2.2.2.1, vI x2.2.2.2.1, vI x2.2.2.2.2.1, vI x2.2.2.2.2.2])), (25, cI x2.2.1), (26, cI (IntKind.i64.wrap (v0.1 + 1))), (27, cB (x2.2.1 != (IntKind.i64.wrap (v0.1 + 1)))), (28, cI (IntKind.i64.wrap (v0.1 + 1))), (29, cI (IntKind.i64.wrap ((IntKind.i64.wrap (v0.1 + 1)) + 1))), (30, .c (.l 133 sI6 c0)), (31, cI v0.2), (32, .c (.at_ (avs sI6 x3))), (33, .c (.at_ (avs sI4 x3.2.2))), (34, cI x3.2.2.1), (35, cI (IntKind.i64.wrap ((IntKind.i64.wrap (v0.1 + 1)) + 1))), (36, cB (x3.2.2.1 != (IntKind.i64.wrap ((IntKind.i64.wrap (v0.1 + 1)) + 1)))), (37, cI (IntKind.i64.wrap ((IntKind.i64.wrap (v0.1 + 1)) + 1))), (38, cI (IntKind.i64.wrap ((IntKind.i64.wrap ((IntKind.i64.wrap (v0.1 + 1)) + 1)) + 1))), (39, .c (.l 133 sI6 c0)), (40, cI v0.2), (41, .c (.at_ (avs sI6 x4))), (42, .c (.at_ (avs sI3 x4.2.2.2))), (43, cI x4.2.2.2.1), (44, cI (IntKind.i64.wrap ((IntKind.i64.wrap ((IntKind.i64.wrap (v0.1 + 1)) + 1)) + 1))), (45, cB (x4.2.2.2.1 != (IntKind.i64.wrap ((IntKind.i64.wrap ((IntKind.i64.wrap (v0.1 + 1)) + 1)) + 1)))), (46, cI (IntKind.i64.wrap ((IntKind.i64.wrap ((IntKind.i64.wrap (v0.1 + 1)) + 1)) + 1))), (47, cI (IntKind.i64.wrap ((IntKind.i64.wrap ((IntKind.i64.wrap ((IntKind.i64.wrap (v0.1 + 1)) + 1)) + 1)) + 1))), (48, .c (.l 133 sI6 c0)), (49, cI v0.2), (50, .c (.at_ (avs sI6 x5))), (51, .c (.at_ [vI x5.2.2.2.2.1, vI x5.2.2.2.2.2])), (52, cI x5.2.2.2.2.1), (53, cI (IntKind.i64.wrap ((IntKind.i64.wrap ((IntKind.i64.wrap ((IntKind.i64.wrap (v0.1 + 1)) + 1)) + 1)) + 1))), (54, cB (x5.2.2.2.2.1 != (IntKind.i64.wrap ((IntKind.i64.wrap ((IntKind.i64.wrap ((IntKind.i64.wrap (v0.1 + 1)) + 1)) + 1)) + 1))))], []⟩
def YlheldPacketS_0_5 {R : Type} (K : Ex → St → Option R) (c0 : ClheldPacketS_0) (v0 : VlheldPacketS_0) (x1 : I6) (x2 : I6) (x3 : I6) (x4 : I6) (x5 : I6) (x6 : I6) : Option R := K .ret ⟨67, 0, [(0, .c (.l 133 sI6 c0)), (1, cI (IntKind.i64.wrap ((IntKind.i64.wrap ((IntKind.i64.wrap ((IntKind.i64.wrap ((IntKind.i64.wrap (v0.1 + 1)) + 1)) + 1)) + 1)) + 1))), (4, cI (-1)), (5, cI v0.2), (6, cI v0.2), (7, .c (.l 133 sI6 c0)), (8, cI (c0.length : Int)), (9, cB (decide (v0.2 < (c0.length : Int)))), (12, .c (.l 133 sI6 c0)), (13, cI v0.2), (14, .c (.at_ (avs sI6 x1))), (15, .c (.at_ (avs sI6 x1))), (16, cI x1.1), (17, cI v0.1), (18, cB (x1.1 != v0.1)), (19, cI v0.1), (20, cI (IntKind.i64.wrap (v0.1 + 1))), (21, .c (.l 133 sI6 c0)), (22, cI v0.2), (23, .c (.at_ (avs sI6 x2))), (24, .c (.at_ [vI x2.2.1, vI x2.2.2.1, vI x2.2.2.2.1, vI x2.2.2.2.2.1, vI x2.2.2.2.2.2])), (25, cI x2.2.1), (26, cI (IntKind.i64.wrap (v0.1 + 1))), (27, cB (x2.2.1 != (IntKind.i64.wrap (v0.1 + 1)))), (28, cI (IntKind.i64.wrap (v0.1 + 1))), (29, cI (IntKind.i64.wrap ((IntKind.i64.wrap (v0.1 + 1)) + 1))), (30, .c (.l 133 sI6 c0)), (31, cI v0.2), (32, .c (.at_ (avs sI6 x3))), (33, .c (.at_ (avs sI4 x3.2.2))), (34, cI x3.2.2.1), (35, cI (IntKind.i64.wrap ((IntKind.i64.wrap (v0.1 + 1)) + 1))), (36, cB (x3.2.2.1 != (IntKind.i64.wrap ((IntKind.i64.wrap (v0.1 + 1)) + 1)))), (37, cI (IntKind.i64.wrap ((IntKind.i64.wrap (v0.1 + 1)) + 1))), (38, cI (IntKind.i64.wrap ((IntKind.i64.wrap ((IntKind.i64.wrap (v0.1 + 1)) + 1)) + 1))), (39, .c (.l 133 sI6 c0)), (40, cI v0.2), (41, .c (.at_ (avs sI6 x4))), (42, .c (.at_ (avs sI3 x4.2.2.2))), (43, cI x4.2.2.2.1), (44, cI (IntKind.i64.wrap ((IntKind.i64.wrap ((IntKind.i64.wrap (v0.1 + 1)) + 1)) + 1))), (45, cB (x4.2.2.2.1 != (IntKind.i64.wrap ((IntKind.i64.wrap ((IntKind.i64.wrap (v0.1 + 1)) + 1)) + 1)))), (46, cI (IntKind.i64.wrap ((IntKind.i64.wrap ((IntKind.i64.wrap (v0.1 + 1)) + 1)) + 1))), (47, cI (IntKind.i64.wrap ((IntKind.i64.wrap ((IntKind.i64.wrap ((IntKind.i64.wrap (v0.1 + 1)) + 1)) + 1)) + 1))), (48, .c (.l 133 sI6 c0)), (49, cI v0.2), (50, .c (.at_ (avs sI6 x5))), (51, .c (.at_ [vI x5.2.2.2.2.1, vI x5.2.2.2.2.2])), (52, cI x5.2.2.2.2.1), (53, cI (IntKind.i64.wrap ((IntKind.i64.wrap ((IntKind.i64.wrap ((IntKind.i64.wrap (v0.1 + 1)) + 1)) + 1)) + 1))), (54, cB (x5.2.2.2.2.1 != (IntKind.i64.wrap ((IntKind.i64.wrap ((IntKind.i64.wrap ((IntKind.i64.wrap (v0.1 + 1)) + 1)) + 1)) + 1)))), (55, cI (IntKind.i64.wrap ((IntKind.i64.wrap ((IntKind.i64.wrap ((IntKind.i64.wrap (v0.1 + 1)) + 1)) + 1)) + 1))), (56, cI (IntKind.i64.wrap ((IntKind.i64.wrap ((IntKind.i64.wrap ((IntKind.i64.wrap ((IntKind.i64.wrap (v0.1 + 1)) + 1)) + 1)) + 1)) + 1))), (57, .c (.l 133 sI6 c0)), (58, cI v0.2), (59, .c (.at_ (avs sI6 x6))), (60, .c (.at_ [vI x6.2.2.2.2.2])), (61, cI x6.2.2.2.2.2), (62, cI (IntKind.i64.wrap ((IntKind.i64.wrap ((IntKind.i64.wrap ((IntKind.i64.wrap ((IntKind.i64.wrap (v0.1 + 1)) + 1)) + 1)) + 1)) + 1))), (63, cB (x6.2.2.2.2.2 != (IntKind.i64.wrap ((IntKind.i64.wrap ((IntKind.i64.wrap ((IntKind.i64.wrap ((IntKind.i64.wrap (v0.1 + 1)) + 1)) + 1)) + 1)) + 1))))], []⟩
def YlheldPacketS_0_6 {R : Type} (K : Ex → St → Option R) (c0 : ClheldPacketS_0) (v0 : VlheldPacketS_0) : Option R := K (.exit 0) ⟨67, 0, [(0, .c (.l 133 sI6 c0)), (1, cI v0.1), (5, cI v0.2), (6, cI v0.2), (7, .c (.l 133 sI6 c0)), (8, cI (c0.length : Int)), (9, cB (decide (v0.2 < (c0.length : Int))))], []⟩
theorem llheldPacketS_0 {R : Type} (k : Nat) (K : Ex → St → Option R) (c0 : ClheldPacketS_0) : ∀ (n : Nat) (v : VlheldPacketS_0), loopRun [0, 0, 1, 5] (run E (den E k) (lv 83) k (nthLoop Tryz.f83 0)) n (StlheldPacketS_0 c0 v) K = LlheldPacketS_0 k (YlheldPacketS_0_0 K c0) (YlheldPacketS_0_1 K c0) (YlheldPacketS_0_2 K c0) (YlheldPacketS_0_3 K c0) (YlheldPacketS_0_4 K c0) (YlheldPacketS_0_5 K c0) (YlheldPacketS_0_6 K c0) c0 n v := loop_law (B := BlheldPacketS_0 k (YlheldPacketS_0_0 K c0) (YlheldPacketS_0_1 K c0) (YlheldPacketS_0_2 K c0) (YlheldPacketS_0_3 K c0) (YlheldPacketS_0_4 K c0) (YlheldPacketS_0_5 K c0) (YlheldPacketS_0_6 K c0) c0) (fun _ => rfl) (fun n v => by kernel_rfl) (fun _ => rfl) (fun _ _ => rfl)
theorem mlheldPacketS_0 (k : Nat) (a0 : List I6) (a1 : Int) : FlheldPacketS (k + 1) a0 a1 = loopRun (R := Int) [0, 0, 1, 5] (run E (den E k) (lv 83) k (nthLoop Tryz.f83 0)) k (StlheldPacketS_0 a0 (a1, 0)) (kontAt E (den E k) (lv 83) k (bodyOf Tryz.f83) 0 [] (finish E (rs 83) Tryz.f83 : Ex → St → Option (Int))) := by kernel_rfl
theorem elheldPacketS (k : Nat) (a0 : List I6) (a1 : Int) : FlheldPacketS (k + 1) a0 a1 = LlheldPacketS_0 k (fun (v0 : I2) (x1 : I6) => some (-1)) (fun (v0 : I2) (x1 : I6) (x2 : I6) => some (-1)) (fun (v0 : I2) (x1 : I6) (x2 : I6) (x3 : I6) => some (-1)) (fun (v0 : I2) (x1 : I6) (x2 : I6) (x3 : I6) (x4 : I6) => some (-1)) (fun (v0 : I2) (x1 : I6) (x2 : I6) (x3 : I6) (x4 : I6) (x5 : I6) => some (-1)) (fun (v0 : I2) (x1 : I6) (x2 : I6) (x3 : I6) (x4 : I6) (x5 : I6) (x6 : I6) => some (-1)) (fun (v0 : I2) => some v0.1) a0 k (a1, 0) := by
  rw [mlheldPacketS_0]
  simp only [llheldPacketS_0]
  kernel_rfl
noncomputable def FlheldLinkS (k : Nat) (a0 : List I2) (a1 : Int) : Option (Int) := den E k 209 [.c (.l 283 sI2 a0), cI a1]
abbrev ClheldLinkS_0 : Type := (List I2)
abbrev VlheldLinkS_0 : Type := Int × Int
def StlheldLinkS_0 (c0 : ClheldLinkS_0) (v0 : VlheldLinkS_0) : St := ⟨31, 0, [(0, .c (.l 283 sI2 c0)), (1, cI v0.1), (5, cI v0.2)], []⟩
noncomputable def BlheldLinkS_0 {R : Type} (k : Nat) (X0 : VlheldLinkS_0 → I2 → Option R) (X1 : VlheldLinkS_0 → I2 → I2 → Option R) (X2 : VlheldLinkS_0 → Option R) (c0 : ClheldLinkS_0) (rec : VlheldLinkS_0 → Option R) (v0 : VlheldLinkS_0) : Option R := if (decide (v0.2 < (c0.length : Int))) = true then if 0 ≤ v0.2 then ix c0 v0.2.toNat fun x1 => if (x1.1 != v0.1) = true then X0 v0 x1 else if 0 ≤ v0.2 then ix c0 v0.2.toNat fun x2 => if (x2.2 != (IntKind.i64.wrap (v0.1 + 1))) = true then X1 v0 x1 x2 else rec ((IntKind.i64.wrap ((IntKind.i64.wrap (v0.1 + 1)) + 1)), (IntKind.i64.wrap (v0.2 + 1))) else none else none else X2 v0
noncomputable def LlheldLinkS_0 {R : Type} (k : Nat) (X0 : VlheldLinkS_0 → I2 → Option R) (X1 : VlheldLinkS_0 → I2 → I2 → Option R) (X2 : VlheldLinkS_0 → Option R) (c : ClheldLinkS_0) : Nat → VlheldLinkS_0 → Option R
  | 0, _ => none
  | n + 1, v => BlheldLinkS_0 k X0 X1 X2 c (LlheldLinkS_0 k X0 X1 X2 c n) v
def YlheldLinkS_0_0 {R : Type} (K : Ex → St → Option R) (c0 : ClheldLinkS_0) (v0 : VlheldLinkS_0) (x1 : I2) : Option R := K .ret ⟨31, 0, [(0, .c (.l 283 sI2 c0)), (1, cI v0.1), (4, cI (-1)), (5, cI v0.2), (6, cI v0.2), (7, .c (.l 283 sI2 c0)), (8, cI (c0.length : Int)), (9, cB (decide (v0.2 < (c0.length : Int)))), (12, .c (.l 283 sI2 c0)), (13, cI v0.2), (14, .c (.at_ [vI x1.1, vI x1.2])), (15, .c (.at_ [vI x1.1, vI x1.2])), (16, cI x1.1), (17, cI v0.1), (18, cB (x1.1 != v0.1))], []⟩
def YlheldLinkS_0_1 {R : Type} (K : Ex → St → Option R) (c0 : ClheldLinkS_0) (v0 : VlheldLinkS_0) (x1 : I2) (x2 : I2) : Option R := K .ret ⟨31, 0, [(0, .c (.l 283 sI2 c0)), (1, cI (IntKind.i64.wrap (v0.1 + 1))), (4, cI (-1)), (5, cI v0.2), (6, cI v0.2), (7, .c (.l 283 sI2 c0)), (8, cI (c0.length : Int)), (9, cB (decide (v0.2 < (c0.length : Int)))), (12, .c (.l 283 sI2 c0)), (13, cI v0.2), (14, .c (.at_ [vI x1.1, vI x1.2])), (15, .c (.at_ [vI x1.1, vI x1.2])), (16, cI x1.1), (17, cI v0.1), (18, cB (x1.1 != v0.1)), (19, cI v0.1), (20, cI (IntKind.i64.wrap (v0.1 + 1))), (21, .c (.l 283 sI2 c0)), (22, cI v0.2), (23, .c (.at_ [vI x2.1, vI x2.2])), (24, .c (.at_ [vI x2.2])), (25, cI x2.2), (26, cI (IntKind.i64.wrap (v0.1 + 1))), (27, cB (x2.2 != (IntKind.i64.wrap (v0.1 + 1))))], []⟩
def YlheldLinkS_0_2 {R : Type} (K : Ex → St → Option R) (c0 : ClheldLinkS_0) (v0 : VlheldLinkS_0) : Option R := K (.exit 0) ⟨31, 0, [(0, .c (.l 283 sI2 c0)), (1, cI v0.1), (5, cI v0.2), (6, cI v0.2), (7, .c (.l 283 sI2 c0)), (8, cI (c0.length : Int)), (9, cB (decide (v0.2 < (c0.length : Int))))], []⟩
theorem llheldLinkS_0 {R : Type} (k : Nat) (K : Ex → St → Option R) (c0 : ClheldLinkS_0) : ∀ (n : Nat) (v : VlheldLinkS_0), loopRun [0, 0, 1, 5] (run E (den E k) (lv 209) k (nthLoop Tryz.f209 0)) n (StlheldLinkS_0 c0 v) K = LlheldLinkS_0 k (YlheldLinkS_0_0 K c0) (YlheldLinkS_0_1 K c0) (YlheldLinkS_0_2 K c0) c0 n v := loop_law (B := BlheldLinkS_0 k (YlheldLinkS_0_0 K c0) (YlheldLinkS_0_1 K c0) (YlheldLinkS_0_2 K c0) c0) (fun _ => rfl) (fun n v => by kernel_rfl) (fun _ => rfl) (fun _ _ => rfl)
theorem mlheldLinkS_0 (k : Nat) (a0 : List I2) (a1 : Int) : FlheldLinkS (k + 1) a0 a1 = loopRun (R := Int) [0, 0, 1, 5] (run E (den E k) (lv 209) k (nthLoop Tryz.f209 0)) k (StlheldLinkS_0 a0 (a1, 0)) (kontAt E (den E k) (lv 209) k (bodyOf Tryz.f209) 0 [] (finish E (rs 209) Tryz.f209 : Ex → St → Option (Int))) := by kernel_rfl
theorem elheldLinkS (k : Nat) (a0 : List I2) (a1 : Int) : FlheldLinkS (k + 1) a0 a1 = LlheldLinkS_0 k (fun (v0 : I2) (x1 : I2) => some (-1)) (fun (v0 : I2) (x1 : I2) (x2 : I2) => some (-1)) (fun (v0 : I2) => some v0.1) a0 k (a1, 0) := by
  rw [mlheldLinkS_0]
  simp only [llheldLinkS_0]
  kernel_rfl
noncomputable def FlheldTableS (k : Nat) (a0 : List (Int × (List Int) × List Int)) (a1 : Int) : Option (Int) := den E k 210 [.c (.l 211 sTable a0), cI a1]
abbrev ClheldTableS_0 : Type := (List (Int × (List Int) × List Int))
abbrev VlheldTableS_0 : Type := Int × Int
def StlheldTableS_0 (c0 : ClheldTableS_0) (v0 : VlheldTableS_0) : St := ⟨40, 0, [(0, .c (.l 211 sTable c0)), (1, cI v0.1), (5, cI v0.2)], []⟩
noncomputable def BlheldTableS_0 {R : Type} (k : Nat) (X0 : VlheldTableS_0 → (Int × (List Int) × List Int) → Option R) (X1 : VlheldTableS_0 → (Int × (List Int) × List Int) → (Int × (List Int) × List Int) → Int → Option R) (X2 : VlheldTableS_0 → (Int × (List Int) × List Int) → (Int × (List Int) × List Int) → Int → (Int × (List Int) × List Int) → Int → Option R) (X3 : VlheldTableS_0 → Option R) (c0 : ClheldTableS_0) (rec : VlheldTableS_0 → Option R) (v0 : VlheldTableS_0) : Option R := if (decide (v0.2 < (c0.length : Int))) = true then if 0 ≤ v0.2 then ix c0 v0.2.toNat fun x1 => if (x1.1 != v0.1) = true then X0 v0 x1 else if 0 ≤ v0.2 then ix c0 v0.2.toNat fun x2 => (FlheldIntS k x2.2.1 (IntKind.i64.wrap (v0.1 + 1))).bind fun p3 => if (decide (p3 < 0)) = true then X1 v0 x1 x2 p3 else if 0 ≤ v0.2 then ix c0 v0.2.toNat fun x4 => (FlheldIntS k x4.2.2 p3).bind fun p5 => if (decide (p5 < 0)) = true then X2 v0 x1 x2 p3 x4 p5 else rec (p5, (IntKind.i64.wrap (v0.2 + 1))) else none else none else none else X3 v0
noncomputable def LlheldTableS_0 {R : Type} (k : Nat) (X0 : VlheldTableS_0 → (Int × (List Int) × List Int) → Option R) (X1 : VlheldTableS_0 → (Int × (List Int) × List Int) → (Int × (List Int) × List Int) → Int → Option R) (X2 : VlheldTableS_0 → (Int × (List Int) × List Int) → (Int × (List Int) × List Int) → Int → (Int × (List Int) × List Int) → Int → Option R) (X3 : VlheldTableS_0 → Option R) (c : ClheldTableS_0) : Nat → VlheldTableS_0 → Option R
  | 0, _ => none
  | n + 1, v => BlheldTableS_0 k X0 X1 X2 X3 c (LlheldTableS_0 k X0 X1 X2 X3 c n) v
def YlheldTableS_0_0 {R : Type} (K : Ex → St → Option R) (c0 : ClheldTableS_0) (v0 : VlheldTableS_0) (x1 : Int × (List Int) × List Int) : Option R := K .ret ⟨40, 0, [(0, .c (.l 211 sTable c0)), (1, cI v0.1), (4, cI (-1)), (5, cI v0.2), (6, cI v0.2), (7, .c (.l 211 sTable c0)), (8, cI (c0.length : Int)), (9, cB (decide (v0.2 < (c0.length : Int)))), (12, .c (.l 211 sTable c0)), (13, cI v0.2), (14, .c (.at_ (avs sTable x1))), (15, .c (.at_ (avs sTable x1))), (16, cI x1.1), (17, cI v0.1), (18, cB (x1.1 != v0.1))], []⟩
def YlheldTableS_0_1 {R : Type} (K : Ex → St → Option R) (c0 : ClheldTableS_0) (v0 : VlheldTableS_0) (x1 : Int × (List Int) × List Int) (x2 : Int × (List Int) × List Int) (p3 : Int) : Option R := K .ret ⟨40, 0, [(0, .c (.l 211 sTable c0)), (1, cI p3), (4, cI (-1)), (5, cI v0.2), (6, cI v0.2), (7, .c (.l 211 sTable c0)), (8, cI (c0.length : Int)), (9, cB (decide (v0.2 < (c0.length : Int)))), (12, .c (.l 211 sTable c0)), (13, cI v0.2), (14, .c (.at_ (avs sTable x1))), (15, .c (.at_ (avs sTable x1))), (16, cI x1.1), (17, cI v0.1), (18, cB (x1.1 != v0.1)), (19, cI v0.1), (20, cI (IntKind.i64.wrap (v0.1 + 1))), (21, .c (.l 211 sTable c0)), (22, cI v0.2), (23, .c (.at_ (avs sTable x2))), (24, .c (.at_ [.l 3 (.i .i64) x2.2.1, .l 3 (.i .i64) x2.2.2])), (25, .c (.l 3 (.i .i64) x2.2.1)), (26, cI (IntKind.i64.wrap (v0.1 + 1))), (27, cI p3), (28, cI p3), (29, cB (decide (p3 < 0)))], []⟩
def YlheldTableS_0_2 {R : Type} (K : Ex → St → Option R) (c0 : ClheldTableS_0) (v0 : VlheldTableS_0) (x1 : Int × (List Int) × List Int) (x2 : Int × (List Int) × List Int) (p3 : Int) (x4 : Int × (List Int) × List Int) (p5 : Int) : Option R := K .ret ⟨40, 0, [(0, .c (.l 211 sTable c0)), (1, cI p5), (4, cI (-1)), (5, cI v0.2), (6, cI v0.2), (7, .c (.l 211 sTable c0)), (8, cI (c0.length : Int)), (9, cB (decide (v0.2 < (c0.length : Int)))), (12, .c (.l 211 sTable c0)), (13, cI v0.2), (14, .c (.at_ (avs sTable x1))), (15, .c (.at_ (avs sTable x1))), (16, cI x1.1), (17, cI v0.1), (18, cB (x1.1 != v0.1)), (19, cI v0.1), (20, cI (IntKind.i64.wrap (v0.1 + 1))), (21, .c (.l 211 sTable c0)), (22, cI v0.2), (23, .c (.at_ (avs sTable x2))), (24, .c (.at_ [.l 3 (.i .i64) x2.2.1, .l 3 (.i .i64) x2.2.2])), (25, .c (.l 3 (.i .i64) x2.2.1)), (26, cI (IntKind.i64.wrap (v0.1 + 1))), (27, cI p3), (28, cI p3), (29, cB (decide (p3 < 0))), (30, .c (.l 211 sTable c0)), (31, cI v0.2), (32, .c (.at_ (avs sTable x4))), (33, .c (.at_ [.l 3 (.i .i64) x4.2.2])), (34, .c (.l 3 (.i .i64) x4.2.2)), (35, cI p3), (36, cI p5), (37, cI p5), (38, cB (decide (p5 < 0)))], []⟩
def YlheldTableS_0_3 {R : Type} (K : Ex → St → Option R) (c0 : ClheldTableS_0) (v0 : VlheldTableS_0) : Option R := K (.exit 0) ⟨40, 0, [(0, .c (.l 211 sTable c0)), (1, cI v0.1), (5, cI v0.2), (6, cI v0.2), (7, .c (.l 211 sTable c0)), (8, cI (c0.length : Int)), (9, cB (decide (v0.2 < (c0.length : Int))))], []⟩
theorem llheldTableS_0 {R : Type} (k : Nat) (K : Ex → St → Option R) (c0 : ClheldTableS_0) : ∀ (n : Nat) (v : VlheldTableS_0), loopRun [0, 0, 1, 5] (run E (den E k) (lv 210) k (nthLoop Tryz.f210 0)) n (StlheldTableS_0 c0 v) K = LlheldTableS_0 k (YlheldTableS_0_0 K c0) (YlheldTableS_0_1 K c0) (YlheldTableS_0_2 K c0) (YlheldTableS_0_3 K c0) c0 n v := loop_law (B := BlheldTableS_0 k (YlheldTableS_0_0 K c0) (YlheldTableS_0_1 K c0) (YlheldTableS_0_2 K c0) (YlheldTableS_0_3 K c0) c0) (fun _ => rfl) (fun n v => by kernel_rfl) (fun _ => rfl) (fun _ _ => rfl)
theorem mlheldTableS_0 (k : Nat) (a0 : List (Int × (List Int) × List Int)) (a1 : Int) : FlheldTableS (k + 1) a0 a1 = loopRun (R := Int) [0, 0, 1, 5] (run E (den E k) (lv 210) k (nthLoop Tryz.f210 0)) k (StlheldTableS_0 a0 (a1, 0)) (kontAt E (den E k) (lv 210) k (bodyOf Tryz.f210) 0 [] (finish E (rs 210) Tryz.f210 : Ex → St → Option (Int))) := by kernel_rfl
theorem elheldTableS (k : Nat) (a0 : List (Int × (List Int) × List Int)) (a1 : Int) : FlheldTableS (k + 1) a0 a1 = LlheldTableS_0 k (fun (v0 : I2) (x1 : Int × (List Int) × List Int) => some (-1)) (fun (v0 : I2) (x1 : Int × (List Int) × List Int) (x2 : Int × (List Int) × List Int) (p3 : Int) => some (-1)) (fun (v0 : I2) (x1 : Int × (List Int) × List Int) (x2 : Int × (List Int) × List Int) (p3 : Int) (x4 : Int × (List Int) × List Int) (p5 : Int) => some (-1)) (fun (v0 : I2) => some v0.1) a0 k (a1, 0) := by
  rw [mlheldTableS_0]
  simp only [llheldTableS_0]
  kernel_rfl
noncomputable def FlheldPieceS (k : Nat) (a0 : List TPiece) (a1 : Int) : Option (Int) := den E k 159 [.c (.l 219 sPiece a0), cI a1]
abbrev ClheldPieceS_0 : Type := (List TPiece)
abbrev VlheldPieceS_0 : Type := Int × Int
def StlheldPieceS_0 (c0 : ClheldPieceS_0) (v0 : VlheldPieceS_0) : St := ⟨51, 0, [(0, .c (.l 219 sPiece c0)), (1, cI v0.1), (5, cI v0.2)], []⟩
noncomputable def BlheldPieceS_0 {R : Type} (k : Nat) (X0 : VlheldPieceS_0 → TPiece → Option R) (X1 : VlheldPieceS_0 → TPiece → TPiece → Option R) (X2 : VlheldPieceS_0 → TPiece → TPiece → TPiece → Int → Option R) (X3 : VlheldPieceS_0 → TPiece → TPiece → TPiece → Int → TPiece → Int → Option R) (X4 : VlheldPieceS_0 → Option R) (c0 : ClheldPieceS_0) (rec : VlheldPieceS_0 → Option R) (v0 : VlheldPieceS_0) : Option R := if (decide (v0.2 < (c0.length : Int))) = true then if 0 ≤ v0.2 then ix c0 v0.2.toNat fun x1 => if (x1.1.1 != v0.1) = true then X0 v0 x1 else if 0 ≤ v0.2 then ix c0 v0.2.toNat fun x2 => if (x2.1.2 != (IntKind.i64.wrap (v0.1 + 1))) = true then X1 v0 x1 x2 else if 0 ≤ v0.2 then ix c0 v0.2.toNat fun x3 => (FlheldLinkS k x3.2.1 (IntKind.i64.wrap ((IntKind.i64.wrap (v0.1 + 1)) + 1))).bind fun p4 => if (decide (p4 < 0)) = true then X2 v0 x1 x2 x3 p4 else if 0 ≤ v0.2 then ix c0 v0.2.toNat fun x5 => (FlheldTableS k x5.2.2 p4).bind fun p6 => if (decide (p6 < 0)) = true then X3 v0 x1 x2 x3 p4 x5 p6 else rec (p6, (IntKind.i64.wrap (v0.2 + 1))) else none else none else none else none else X4 v0
noncomputable def LlheldPieceS_0 {R : Type} (k : Nat) (X0 : VlheldPieceS_0 → TPiece → Option R) (X1 : VlheldPieceS_0 → TPiece → TPiece → Option R) (X2 : VlheldPieceS_0 → TPiece → TPiece → TPiece → Int → Option R) (X3 : VlheldPieceS_0 → TPiece → TPiece → TPiece → Int → TPiece → Int → Option R) (X4 : VlheldPieceS_0 → Option R) (c : ClheldPieceS_0) : Nat → VlheldPieceS_0 → Option R
  | 0, _ => none
  | n + 1, v => BlheldPieceS_0 k X0 X1 X2 X3 X4 c (LlheldPieceS_0 k X0 X1 X2 X3 X4 c n) v
def YlheldPieceS_0_0 {R : Type} (K : Ex → St → Option R) (c0 : ClheldPieceS_0) (v0 : VlheldPieceS_0) (x1 : TPiece) : Option R := K .ret ⟨51, 0, [(0, .c (.l 219 sPiece c0)), (1, cI v0.1), (4, cI (-1)), (5, cI v0.2), (6, cI v0.2), (7, .c (.l 219 sPiece c0)), (8, cI (c0.length : Int)), (9, cB (decide (v0.2 < (c0.length : Int)))), (12, .c (.l 219 sPiece c0)), (13, cI v0.2), (14, .c (.at_ (avs sPiece x1))), (15, .c (.at_ (avs sPiece x1))), (16, .c (.at_ (avs sPiece x1))), (17, cI x1.1.1), (18, cI v0.1), (19, cB (x1.1.1 != v0.1))], []⟩
def YlheldPieceS_0_1 {R : Type} (K : Ex → St → Option R) (c0 : ClheldPieceS_0) (v0 : VlheldPieceS_0) (x1 : TPiece) (x2 : TPiece) : Option R := K .ret ⟨51, 0, [(0, .c (.l 219 sPiece c0)), (1, cI (IntKind.i64.wrap (v0.1 + 1))), (4, cI (-1)), (5, cI v0.2), (6, cI v0.2), (7, .c (.l 219 sPiece c0)), (8, cI (c0.length : Int)), (9, cB (decide (v0.2 < (c0.length : Int)))), (12, .c (.l 219 sPiece c0)), (13, cI v0.2), (14, .c (.at_ (avs sPiece x1))), (15, .c (.at_ (avs sPiece x1))), (16, .c (.at_ (avs sPiece x1))), (17, cI x1.1.1), (18, cI v0.1), (19, cB (x1.1.1 != v0.1)), (20, cI v0.1), (21, cI (IntKind.i64.wrap (v0.1 + 1))), (22, .c (.l 219 sPiece c0)), (23, cI v0.2), (24, .c (.at_ (avs sPiece x2))), (25, .c (.at_ (avs sPiece x2))), (26, .c (.at_ [vI x2.1.2, .l 283 sI2 x2.2.1, .l 211 sTable x2.2.2])), (27, cI x2.1.2), (28, cI (IntKind.i64.wrap (v0.1 + 1))), (29, cB (x2.1.2 != (IntKind.i64.wrap (v0.1 + 1))))], []⟩
def YlheldPieceS_0_2 {R : Type} (K : Ex → St → Option R) (c0 : ClheldPieceS_0) (v0 : VlheldPieceS_0) (x1 : TPiece) (x2 : TPiece) (x3 : TPiece) (p4 : Int) : Option R := K .ret ⟨51, 0, [(0, .c (.l 219 sPiece c0)), (1, cI p4), (4, cI (-1)), (5, cI v0.2), (6, cI v0.2), (7, .c (.l 219 sPiece c0)), (8, cI (c0.length : Int)), (9, cB (decide (v0.2 < (c0.length : Int)))), (12, .c (.l 219 sPiece c0)), (13, cI v0.2), (14, .c (.at_ (avs sPiece x1))), (15, .c (.at_ (avs sPiece x1))), (16, .c (.at_ (avs sPiece x1))), (17, cI x1.1.1), (18, cI v0.1), (19, cB (x1.1.1 != v0.1)), (20, cI v0.1), (21, cI (IntKind.i64.wrap (v0.1 + 1))), (22, .c (.l 219 sPiece c0)), (23, cI v0.2), (24, .c (.at_ (avs sPiece x2))), (25, .c (.at_ (avs sPiece x2))), (26, .c (.at_ [vI x2.1.2, .l 283 sI2 x2.2.1, .l 211 sTable x2.2.2])), (27, cI x2.1.2), (28, cI (IntKind.i64.wrap (v0.1 + 1))), (29, cB (x2.1.2 != (IntKind.i64.wrap (v0.1 + 1)))), (30, cI (IntKind.i64.wrap (v0.1 + 1))), (31, cI (IntKind.i64.wrap ((IntKind.i64.wrap (v0.1 + 1)) + 1))), (32, .c (.l 219 sPiece c0)), (33, cI v0.2), (34, .c (.at_ (avs sPiece x3))), (35, .c (.at_ [.l 283 sI2 x3.2.1, .l 211 sTable x3.2.2])), (36, .c (.l 283 sI2 x3.2.1)), (37, cI (IntKind.i64.wrap ((IntKind.i64.wrap (v0.1 + 1)) + 1))), (38, cI p4), (39, cI p4), (40, cB (decide (p4 < 0)))], []⟩
def YlheldPieceS_0_3 {R : Type} (K : Ex → St → Option R) (c0 : ClheldPieceS_0) (v0 : VlheldPieceS_0) (x1 : TPiece) (x2 : TPiece) (x3 : TPiece) (p4 : Int) (x5 : TPiece) (p6 : Int) : Option R := K .ret ⟨51, 0, [(0, .c (.l 219 sPiece c0)), (1, cI p6), (4, cI (-1)), (5, cI v0.2), (6, cI v0.2), (7, .c (.l 219 sPiece c0)), (8, cI (c0.length : Int)), (9, cB (decide (v0.2 < (c0.length : Int)))), (12, .c (.l 219 sPiece c0)), (13, cI v0.2), (14, .c (.at_ (avs sPiece x1))), (15, .c (.at_ (avs sPiece x1))), (16, .c (.at_ (avs sPiece x1))), (17, cI x1.1.1), (18, cI v0.1), (19, cB (x1.1.1 != v0.1)), (20, cI v0.1), (21, cI (IntKind.i64.wrap (v0.1 + 1))), (22, .c (.l 219 sPiece c0)), (23, cI v0.2), (24, .c (.at_ (avs sPiece x2))), (25, .c (.at_ (avs sPiece x2))), (26, .c (.at_ [vI x2.1.2, .l 283 sI2 x2.2.1, .l 211 sTable x2.2.2])), (27, cI x2.1.2), (28, cI (IntKind.i64.wrap (v0.1 + 1))), (29, cB (x2.1.2 != (IntKind.i64.wrap (v0.1 + 1)))), (30, cI (IntKind.i64.wrap (v0.1 + 1))), (31, cI (IntKind.i64.wrap ((IntKind.i64.wrap (v0.1 + 1)) + 1))), (32, .c (.l 219 sPiece c0)), (33, cI v0.2), (34, .c (.at_ (avs sPiece x3))), (35, .c (.at_ [.l 283 sI2 x3.2.1, .l 211 sTable x3.2.2])), (36, .c (.l 283 sI2 x3.2.1)), (37, cI (IntKind.i64.wrap ((IntKind.i64.wrap (v0.1 + 1)) + 1))), (38, cI p4), (39, cI p4), (40, cB (decide (p4 < 0))), (41, .c (.l 219 sPiece c0)), (42, cI v0.2), (43, .c (.at_ (avs sPiece x5))), (44, .c (.at_ [.l 211 sTable x5.2.2])), (45, .c (.l 211 sTable x5.2.2)), (46, cI p4), (47, cI p6), (48, cI p6), (49, cB (decide (p6 < 0)))], []⟩
def YlheldPieceS_0_4 {R : Type} (K : Ex → St → Option R) (c0 : ClheldPieceS_0) (v0 : VlheldPieceS_0) : Option R := K (.exit 0) ⟨51, 0, [(0, .c (.l 219 sPiece c0)), (1, cI v0.1), (5, cI v0.2), (6, cI v0.2), (7, .c (.l 219 sPiece c0)), (8, cI (c0.length : Int)), (9, cB (decide (v0.2 < (c0.length : Int))))], []⟩
theorem llheldPieceS_0 {R : Type} (k : Nat) (K : Ex → St → Option R) (c0 : ClheldPieceS_0) : ∀ (n : Nat) (v : VlheldPieceS_0), loopRun [0, 0, 1, 5] (run E (den E k) (lv 159) k (nthLoop Tryz.f159 0)) n (StlheldPieceS_0 c0 v) K = LlheldPieceS_0 k (YlheldPieceS_0_0 K c0) (YlheldPieceS_0_1 K c0) (YlheldPieceS_0_2 K c0) (YlheldPieceS_0_3 K c0) (YlheldPieceS_0_4 K c0) c0 n v := loop_law (B := BlheldPieceS_0 k (YlheldPieceS_0_0 K c0) (YlheldPieceS_0_1 K c0) (YlheldPieceS_0_2 K c0) (YlheldPieceS_0_3 K c0) (YlheldPieceS_0_4 K c0) c0) (fun _ => rfl) (fun n v => by kernel_rfl) (fun _ => rfl) (fun _ _ => rfl)
theorem mlheldPieceS_0 (k : Nat) (a0 : List TPiece) (a1 : Int) : FlheldPieceS (k + 1) a0 a1 = loopRun (R := Int) [0, 0, 1, 5] (run E (den E k) (lv 159) k (nthLoop Tryz.f159 0)) k (StlheldPieceS_0 a0 (a1, 0)) (kontAt E (den E k) (lv 159) k (bodyOf Tryz.f159) 0 [] (finish E (rs 159) Tryz.f159 : Ex → St → Option (Int))) := by kernel_rfl
theorem elheldPieceS (k : Nat) (a0 : List TPiece) (a1 : Int) : FlheldPieceS (k + 1) a0 a1 = LlheldPieceS_0 k (fun (v0 : I2) (x1 : TPiece) => some (-1)) (fun (v0 : I2) (x1 : TPiece) (x2 : TPiece) => some (-1)) (fun (v0 : I2) (x1 : TPiece) (x2 : TPiece) (x3 : TPiece) (p4 : Int) => some (-1)) (fun (v0 : I2) (x1 : TPiece) (x2 : TPiece) (x3 : TPiece) (p4 : Int) (x5 : TPiece) (p6 : Int) => some (-1)) (fun (v0 : I2) => some v0.1) a0 k (a1, 0) := by
  rw [mlheldPieceS_0]
  simp only [llheldPieceS_0]
  kernel_rfl
noncomputable def FlheldProgram (k : Nat) (a0 : TProgram) (a1 : Int) : Option (Int) := den E k 75 [.agg (avs sProgram a0), cI a1]
theorem elheldProgram (k : Nat) (a0 : TProgram) (a1 : Int) : FlheldProgram (k + 1) a0 a1 = (FlheldPieceS k a0.2.2.2 a1).bind fun p1 => if (decide (p1 < 0)) = true then some (-1) else some p1 := by kernel_rfl
noncomputable def FlheldQueueS (k : Nat) (a0 : List (List I6)) (a1 : Int) : Option (Int) := den E k 79 [.c (.l 136 sQueue a0), cI a1]
abbrev ClheldQueueS_0 : Type := (List (List I6))
abbrev VlheldQueueS_0 : Type := Int × Int
def StlheldQueueS_0 (c0 : ClheldQueueS_0) (v0 : VlheldQueueS_0) : St := ⟨22, 0, [(0, .c (.l 136 sQueue c0)), (1, cI v0.1), (5, cI v0.2)], []⟩
noncomputable def BlheldQueueS_0 {R : Type} (k : Nat) (X0 : VlheldQueueS_0 → (List I6) → Int → Option R) (X1 : VlheldQueueS_0 → Option R) (c0 : ClheldQueueS_0) (rec : VlheldQueueS_0 → Option R) (v0 : VlheldQueueS_0) : Option R := if (decide (v0.2 < (c0.length : Int))) = true then if 0 ≤ v0.2 then ix c0 v0.2.toNat fun x1 => (FlheldPacketS k x1 v0.1).bind fun p2 => if (decide (p2 < 0)) = true then X0 v0 x1 p2 else rec (p2, (IntKind.i64.wrap (v0.2 + 1))) else none else X1 v0
noncomputable def LlheldQueueS_0 {R : Type} (k : Nat) (X0 : VlheldQueueS_0 → (List I6) → Int → Option R) (X1 : VlheldQueueS_0 → Option R) (c : ClheldQueueS_0) : Nat → VlheldQueueS_0 → Option R
  | 0, _ => none
  | n + 1, v => BlheldQueueS_0 k X0 X1 c (LlheldQueueS_0 k X0 X1 c n) v
def YlheldQueueS_0_0 {R : Type} (K : Ex → St → Option R) (c0 : ClheldQueueS_0) (v0 : VlheldQueueS_0) (x1 : List I6) (p2 : Int) : Option R := K .ret ⟨22, 0, [(0, .c (.l 136 sQueue c0)), (1, cI p2), (4, cI (-1)), (5, cI v0.2), (6, cI v0.2), (7, .c (.l 136 sQueue c0)), (8, cI (c0.length : Int)), (9, cB (decide (v0.2 < (c0.length : Int)))), (12, .c (.l 136 sQueue c0)), (13, cI v0.2), (14, .c (.at_ [.l 133 sI6 x1])), (15, .c (.at_ [.l 133 sI6 x1])), (16, .c (.l 133 sI6 x1)), (17, cI v0.1), (18, cI p2), (19, cI p2), (20, cB (decide (p2 < 0)))], []⟩
def YlheldQueueS_0_1 {R : Type} (K : Ex → St → Option R) (c0 : ClheldQueueS_0) (v0 : VlheldQueueS_0) : Option R := K (.exit 0) ⟨22, 0, [(0, .c (.l 136 sQueue c0)), (1, cI v0.1), (5, cI v0.2), (6, cI v0.2), (7, .c (.l 136 sQueue c0)), (8, cI (c0.length : Int)), (9, cB (decide (v0.2 < (c0.length : Int))))], []⟩
theorem llheldQueueS_0 {R : Type} (k : Nat) (K : Ex → St → Option R) (c0 : ClheldQueueS_0) : ∀ (n : Nat) (v : VlheldQueueS_0), loopRun [0, 0, 1, 5] (run E (den E k) (lv 79) k (nthLoop Tryz.f79 0)) n (StlheldQueueS_0 c0 v) K = LlheldQueueS_0 k (YlheldQueueS_0_0 K c0) (YlheldQueueS_0_1 K c0) c0 n v := loop_law (B := BlheldQueueS_0 k (YlheldQueueS_0_0 K c0) (YlheldQueueS_0_1 K c0) c0) (fun _ => rfl) (fun n v => by kernel_rfl) (fun _ => rfl) (fun _ _ => rfl)
theorem mlheldQueueS_0 (k : Nat) (a0 : List (List I6)) (a1 : Int) : FlheldQueueS (k + 1) a0 a1 = loopRun (R := Int) [0, 0, 1, 5] (run E (den E k) (lv 79) k (nthLoop Tryz.f79 0)) k (StlheldQueueS_0 a0 (a1, 0)) (kontAt E (den E k) (lv 79) k (bodyOf Tryz.f79) 0 [] (finish E (rs 79) Tryz.f79 : Ex → St → Option (Int))) := by kernel_rfl
theorem elheldQueueS (k : Nat) (a0 : List (List I6)) (a1 : Int) : FlheldQueueS (k + 1) a0 a1 = LlheldQueueS_0 k (fun (v0 : I2) (x1 : List I6) (p2 : Int) => some (-1)) (fun (v0 : I2) => some v0.1) a0 k (a1, 0) := by
  rw [mlheldQueueS_0]
  simp only [llheldQueueS_0]
  kernel_rfl
noncomputable def FlheldSentS (k : Nat) (a0 : List I4) (a1 : Int) : Option (Int) := den E k 84 [.c (.l 84 sI4 a0), cI a1]
abbrev ClheldSentS_0 : Type := (List I4)
abbrev VlheldSentS_0 : Type := Int × Int
def StlheldSentS_0 (c0 : ClheldSentS_0) (v0 : VlheldSentS_0) : St := ⟨49, 0, [(0, .c (.l 84 sI4 c0)), (1, cI v0.1), (5, cI v0.2)], []⟩
noncomputable def BlheldSentS_0 {R : Type} (k : Nat) (X0 : VlheldSentS_0 → I4 → Option R) (X1 : VlheldSentS_0 → I4 → I4 → Option R) (X2 : VlheldSentS_0 → I4 → I4 → I4 → Option R) (X3 : VlheldSentS_0 → I4 → I4 → I4 → I4 → Option R) (X4 : VlheldSentS_0 → Option R) (c0 : ClheldSentS_0) (rec : VlheldSentS_0 → Option R) (v0 : VlheldSentS_0) : Option R := if (decide (v0.2 < (c0.length : Int))) = true then if 0 ≤ v0.2 then ix c0 v0.2.toNat fun x1 => if (x1.1 != v0.1) = true then X0 v0 x1 else if 0 ≤ v0.2 then ix c0 v0.2.toNat fun x2 => if (x2.2.1 != (IntKind.i64.wrap (v0.1 + 1))) = true then X1 v0 x1 x2 else if 0 ≤ v0.2 then ix c0 v0.2.toNat fun x3 => if (x3.2.2.1 != (IntKind.i64.wrap ((IntKind.i64.wrap (v0.1 + 1)) + 1))) = true then X2 v0 x1 x2 x3 else if 0 ≤ v0.2 then ix c0 v0.2.toNat fun x4 => if (x4.2.2.2 != (IntKind.i64.wrap ((IntKind.i64.wrap ((IntKind.i64.wrap (v0.1 + 1)) + 1)) + 1))) = true then X3 v0 x1 x2 x3 x4 else rec ((IntKind.i64.wrap ((IntKind.i64.wrap ((IntKind.i64.wrap ((IntKind.i64.wrap (v0.1 + 1)) + 1)) + 1)) + 1)), (IntKind.i64.wrap (v0.2 + 1))) else none else none else none else none else X4 v0
noncomputable def LlheldSentS_0 {R : Type} (k : Nat) (X0 : VlheldSentS_0 → I4 → Option R) (X1 : VlheldSentS_0 → I4 → I4 → Option R) (X2 : VlheldSentS_0 → I4 → I4 → I4 → Option R) (X3 : VlheldSentS_0 → I4 → I4 → I4 → I4 → Option R) (X4 : VlheldSentS_0 → Option R) (c : ClheldSentS_0) : Nat → VlheldSentS_0 → Option R
  | 0, _ => none
  | n + 1, v => BlheldSentS_0 k X0 X1 X2 X3 X4 c (LlheldSentS_0 k X0 X1 X2 X3 X4 c n) v
def YlheldSentS_0_0 {R : Type} (K : Ex → St → Option R) (c0 : ClheldSentS_0) (v0 : VlheldSentS_0) (x1 : I4) : Option R := K .ret ⟨49, 0, [(0, .c (.l 84 sI4 c0)), (1, cI v0.1), (4, cI (-1)), (5, cI v0.2), (6, cI v0.2), (7, .c (.l 84 sI4 c0)), (8, cI (c0.length : Int)), (9, cB (decide (v0.2 < (c0.length : Int)))), (12, .c (.l 84 sI4 c0)), (13, cI v0.2), (14, .c (.at_ (avs sI4 x1))), (15, .c (.at_ (avs sI4 x1))), (16, cI x1.1), (17, cI v0.1), (18, cB (x1.1 != v0.1))], []⟩
def YlheldSentS_0_1 {R : Type} (K : Ex → St → Option R) (c0 : ClheldSentS_0) (v0 : VlheldSentS_0) (x1 : I4) (x2 : I4) : Option R := K .ret ⟨49, 0, [(0, .c (.l 84 sI4 c0)), (1, cI (IntKind.i64.wrap (v0.1 + 1))), (4, cI (-1)), (5, cI v0.2), (6, cI v0.2), (7, .c (.l 84 sI4 c0)), (8, cI (c0.length : Int)), (9, cB (decide (v0.2 < (c0.length : Int)))), (12, .c (.l 84 sI4 c0)), (13, cI v0.2), (14, .c (.at_ (avs sI4 x1))), (15, .c (.at_ (avs sI4 x1))), (16, cI x1.1), (17, cI v0.1), (18, cB (x1.1 != v0.1)), (19, cI v0.1), (20, cI (IntKind.i64.wrap (v0.1 + 1))), (21, .c (.l 84 sI4 c0)), (22, cI v0.2), (23, .c (.at_ (avs sI4 x2))), (24, .c (.at_ (avs sI3 x2.2))), (25, cI x2.2.1), (26, cI (IntKind.i64.wrap (v0.1 + 1))), (27, cB (x2.2.1 != (IntKind.i64.wrap (v0.1 + 1))))], []⟩
def YlheldSentS_0_2 {R : Type} (K : Ex → St → Option R) (c0 : ClheldSentS_0) (v0 : VlheldSentS_0) (x1 : I4) (x2 : I4) (x3 : I4) : Option R := K .ret ⟨49, 0, [(0, .c (.l 84 sI4 c0)), (1, cI (IntKind.i64.wrap ((IntKind.i64.wrap (v0.1 + 1)) + 1))), (4, cI (-1)), (5, cI v0.2), (6, cI v0.2), (7, .c (.l 84 sI4 c0)), (8, cI (c0.length : Int)), (9, cB (decide (v0.2 < (c0.length : Int)))), (12, .c (.l 84 sI4 c0)), (13, cI v0.2), (14, .c (.at_ (avs sI4 x1))), (15, .c (.at_ (avs sI4 x1))), (16, cI x1.1), (17, cI v0.1), (18, cB (x1.1 != v0.1)), (19, cI v0.1), (20, cI (IntKind.i64.wrap (v0.1 + 1))), (21, .c (.l 84 sI4 c0)), (22, cI v0.2), (23, .c (.at_ (avs sI4 x2))), (24, .c (.at_ (avs sI3 x2.2))), (25, cI x2.2.1), (26, cI (IntKind.i64.wrap (v0.1 + 1))), (27, cB (x2.2.1 != (IntKind.i64.wrap (v0.1 + 1)))), (28, cI (IntKind.i64.wrap (v0.1 + 1))), (29, cI (IntKind.i64.wrap ((IntKind.i64.wrap (v0.1 + 1)) + 1))), (30, .c (.l 84 sI4 c0)), (31, cI v0.2), (32, .c (.at_ (avs sI4 x3))), (33, .c (.at_ [vI x3.2.2.1, vI x3.2.2.2])), (34, cI x3.2.2.1), (35, cI (IntKind.i64.wrap ((IntKind.i64.wrap (v0.1 + 1)) + 1))), (36, cB (x3.2.2.1 != (IntKind.i64.wrap ((IntKind.i64.wrap (v0.1 + 1)) + 1))))], []⟩
def YlheldSentS_0_3 {R : Type} (K : Ex → St → Option R) (c0 : ClheldSentS_0) (v0 : VlheldSentS_0) (x1 : I4) (x2 : I4) (x3 : I4) (x4 : I4) : Option R := K .ret ⟨49, 0, [(0, .c (.l 84 sI4 c0)), (1, cI (IntKind.i64.wrap ((IntKind.i64.wrap ((IntKind.i64.wrap (v0.1 + 1)) + 1)) + 1))), (4, cI (-1)), (5, cI v0.2), (6, cI v0.2), (7, .c (.l 84 sI4 c0)), (8, cI (c0.length : Int)), (9, cB (decide (v0.2 < (c0.length : Int)))), (12, .c (.l 84 sI4 c0)), (13, cI v0.2), (14, .c (.at_ (avs sI4 x1))), (15, .c (.at_ (avs sI4 x1))), (16, cI x1.1), (17, cI v0.1), (18, cB (x1.1 != v0.1)), (19, cI v0.1), (20, cI (IntKind.i64.wrap (v0.1 + 1))), (21, .c (.l 84 sI4 c0)), (22, cI v0.2), (23, .c (.at_ (avs sI4 x2))), (24, .c (.at_ (avs sI3 x2.2))), (25, cI x2.2.1), (26, cI (IntKind.i64.wrap (v0.1 + 1))), (27, cB (x2.2.1 != (IntKind.i64.wrap (v0.1 + 1)))), (28, cI (IntKind.i64.wrap (v0.1 + 1))), (29, cI (IntKind.i64.wrap ((IntKind.i64.wrap (v0.1 + 1)) + 1))), (30, .c (.l 84 sI4 c0)), (31, cI v0.2), (32, .c (.at_ (avs sI4 x3))), (33, .c (.at_ [vI x3.2.2.1, vI x3.2.2.2])), (34, cI x3.2.2.1), (35, cI (IntKind.i64.wrap ((IntKind.i64.wrap (v0.1 + 1)) + 1))), (36, cB (x3.2.2.1 != (IntKind.i64.wrap ((IntKind.i64.wrap (v0.1 + 1)) + 1)))), (37, cI (IntKind.i64.wrap ((IntKind.i64.wrap (v0.1 + 1)) + 1))), (38, cI (IntKind.i64.wrap ((IntKind.i64.wrap ((IntKind.i64.wrap (v0.1 + 1)) + 1)) + 1))), (39, .c (.l 84 sI4 c0)), (40, cI v0.2), (41, .c (.at_ (avs sI4 x4))), (42, .c (.at_ [vI x4.2.2.2])), (43, cI x4.2.2.2), (44, cI (IntKind.i64.wrap ((IntKind.i64.wrap ((IntKind.i64.wrap (v0.1 + 1)) + 1)) + 1))), (45, cB (x4.2.2.2 != (IntKind.i64.wrap ((IntKind.i64.wrap ((IntKind.i64.wrap (v0.1 + 1)) + 1)) + 1))))], []⟩
def YlheldSentS_0_4 {R : Type} (K : Ex → St → Option R) (c0 : ClheldSentS_0) (v0 : VlheldSentS_0) : Option R := K (.exit 0) ⟨49, 0, [(0, .c (.l 84 sI4 c0)), (1, cI v0.1), (5, cI v0.2), (6, cI v0.2), (7, .c (.l 84 sI4 c0)), (8, cI (c0.length : Int)), (9, cB (decide (v0.2 < (c0.length : Int))))], []⟩
theorem llheldSentS_0 {R : Type} (k : Nat) (K : Ex → St → Option R) (c0 : ClheldSentS_0) : ∀ (n : Nat) (v : VlheldSentS_0), loopRun [0, 0, 1, 5] (run E (den E k) (lv 84) k (nthLoop Tryz.f84 0)) n (StlheldSentS_0 c0 v) K = LlheldSentS_0 k (YlheldSentS_0_0 K c0) (YlheldSentS_0_1 K c0) (YlheldSentS_0_2 K c0) (YlheldSentS_0_3 K c0) (YlheldSentS_0_4 K c0) c0 n v := loop_law (B := BlheldSentS_0 k (YlheldSentS_0_0 K c0) (YlheldSentS_0_1 K c0) (YlheldSentS_0_2 K c0) (YlheldSentS_0_3 K c0) (YlheldSentS_0_4 K c0) c0) (fun _ => rfl) (fun n v => by kernel_rfl) (fun _ => rfl) (fun _ _ => rfl)
theorem mlheldSentS_0 (k : Nat) (a0 : List I4) (a1 : Int) : FlheldSentS (k + 1) a0 a1 = loopRun (R := Int) [0, 0, 1, 5] (run E (den E k) (lv 84) k (nthLoop Tryz.f84 0)) k (StlheldSentS_0 a0 (a1, 0)) (kontAt E (den E k) (lv 84) k (bodyOf Tryz.f84) 0 [] (finish E (rs 84) Tryz.f84 : Ex → St → Option (Int))) := by kernel_rfl
theorem elheldSentS (k : Nat) (a0 : List I4) (a1 : Int) : FlheldSentS (k + 1) a0 a1 = LlheldSentS_0 k (fun (v0 : I2) (x1 : I4) => some (-1)) (fun (v0 : I2) (x1 : I4) (x2 : I4) => some (-1)) (fun (v0 : I2) (x1 : I4) (x2 : I4) (x3 : I4) => some (-1)) (fun (v0 : I2) (x1 : I4) (x2 : I4) (x3 : I4) (x4 : I4) => some (-1)) (fun (v0 : I2) => some v0.1) a0 k (a1, 0) := by
  rw [mlheldSentS_0]
  simp only [llheldSentS_0]
  kernel_rfl
noncomputable def FlheldSatS (k : Nat) (a0 : List I4) (a1 : Int) : Option (Int) := den E k 156 [.c (.l 236 sI4 a0), cI a1]
abbrev ClheldSatS_0 : Type := (List I4)
abbrev VlheldSatS_0 : Type := Int × Int
def StlheldSatS_0 (c0 : ClheldSatS_0) (v0 : VlheldSatS_0) : St := ⟨49, 0, [(0, .c (.l 236 sI4 c0)), (1, cI v0.1), (5, cI v0.2)], []⟩
noncomputable def BlheldSatS_0 {R : Type} (k : Nat) (X0 : VlheldSatS_0 → I4 → Option R) (X1 : VlheldSatS_0 → I4 → I4 → Option R) (X2 : VlheldSatS_0 → I4 → I4 → I4 → Option R) (X3 : VlheldSatS_0 → I4 → I4 → I4 → I4 → Option R) (X4 : VlheldSatS_0 → Option R) (c0 : ClheldSatS_0) (rec : VlheldSatS_0 → Option R) (v0 : VlheldSatS_0) : Option R := if (decide (v0.2 < (c0.length : Int))) = true then if 0 ≤ v0.2 then ix c0 v0.2.toNat fun x1 => if (x1.1 != v0.1) = true then X0 v0 x1 else if 0 ≤ v0.2 then ix c0 v0.2.toNat fun x2 => if (x2.2.1 != (IntKind.i64.wrap (v0.1 + 1))) = true then X1 v0 x1 x2 else if 0 ≤ v0.2 then ix c0 v0.2.toNat fun x3 => if (x3.2.2.1 != (IntKind.i64.wrap ((IntKind.i64.wrap (v0.1 + 1)) + 1))) = true then X2 v0 x1 x2 x3 else if 0 ≤ v0.2 then ix c0 v0.2.toNat fun x4 => if (x4.2.2.2 != (IntKind.i64.wrap ((IntKind.i64.wrap ((IntKind.i64.wrap (v0.1 + 1)) + 1)) + 1))) = true then X3 v0 x1 x2 x3 x4 else rec ((IntKind.i64.wrap ((IntKind.i64.wrap ((IntKind.i64.wrap ((IntKind.i64.wrap (v0.1 + 1)) + 1)) + 1)) + 1)), (IntKind.i64.wrap (v0.2 + 1))) else none else none else none else none else X4 v0
noncomputable def LlheldSatS_0 {R : Type} (k : Nat) (X0 : VlheldSatS_0 → I4 → Option R) (X1 : VlheldSatS_0 → I4 → I4 → Option R) (X2 : VlheldSatS_0 → I4 → I4 → I4 → Option R) (X3 : VlheldSatS_0 → I4 → I4 → I4 → I4 → Option R) (X4 : VlheldSatS_0 → Option R) (c : ClheldSatS_0) : Nat → VlheldSatS_0 → Option R
  | 0, _ => none
  | n + 1, v => BlheldSatS_0 k X0 X1 X2 X3 X4 c (LlheldSatS_0 k X0 X1 X2 X3 X4 c n) v
def YlheldSatS_0_0 {R : Type} (K : Ex → St → Option R) (c0 : ClheldSatS_0) (v0 : VlheldSatS_0) (x1 : I4) : Option R := K .ret ⟨49, 0, [(0, .c (.l 236 sI4 c0)), (1, cI v0.1), (4, cI (-1)), (5, cI v0.2), (6, cI v0.2), (7, .c (.l 236 sI4 c0)), (8, cI (c0.length : Int)), (9, cB (decide (v0.2 < (c0.length : Int)))), (12, .c (.l 236 sI4 c0)), (13, cI v0.2), (14, .c (.at_ (avs sI4 x1))), (15, .c (.at_ (avs sI4 x1))), (16, cI x1.1), (17, cI v0.1), (18, cB (x1.1 != v0.1))], []⟩
def YlheldSatS_0_1 {R : Type} (K : Ex → St → Option R) (c0 : ClheldSatS_0) (v0 : VlheldSatS_0) (x1 : I4) (x2 : I4) : Option R := K .ret ⟨49, 0, [(0, .c (.l 236 sI4 c0)), (1, cI (IntKind.i64.wrap (v0.1 + 1))), (4, cI (-1)), (5, cI v0.2), (6, cI v0.2), (7, .c (.l 236 sI4 c0)), (8, cI (c0.length : Int)), (9, cB (decide (v0.2 < (c0.length : Int)))), (12, .c (.l 236 sI4 c0)), (13, cI v0.2), (14, .c (.at_ (avs sI4 x1))), (15, .c (.at_ (avs sI4 x1))), (16, cI x1.1), (17, cI v0.1), (18, cB (x1.1 != v0.1)), (19, cI v0.1), (20, cI (IntKind.i64.wrap (v0.1 + 1))), (21, .c (.l 236 sI4 c0)), (22, cI v0.2), (23, .c (.at_ (avs sI4 x2))), (24, .c (.at_ (avs sI3 x2.2))), (25, cI x2.2.1), (26, cI (IntKind.i64.wrap (v0.1 + 1))), (27, cB (x2.2.1 != (IntKind.i64.wrap (v0.1 + 1))))], []⟩
def YlheldSatS_0_2 {R : Type} (K : Ex → St → Option R) (c0 : ClheldSatS_0) (v0 : VlheldSatS_0) (x1 : I4) (x2 : I4) (x3 : I4) : Option R := K .ret ⟨49, 0, [(0, .c (.l 236 sI4 c0)), (1, cI (IntKind.i64.wrap ((IntKind.i64.wrap (v0.1 + 1)) + 1))), (4, cI (-1)), (5, cI v0.2), (6, cI v0.2), (7, .c (.l 236 sI4 c0)), (8, cI (c0.length : Int)), (9, cB (decide (v0.2 < (c0.length : Int)))), (12, .c (.l 236 sI4 c0)), (13, cI v0.2), (14, .c (.at_ (avs sI4 x1))), (15, .c (.at_ (avs sI4 x1))), (16, cI x1.1), (17, cI v0.1), (18, cB (x1.1 != v0.1)), (19, cI v0.1), (20, cI (IntKind.i64.wrap (v0.1 + 1))), (21, .c (.l 236 sI4 c0)), (22, cI v0.2), (23, .c (.at_ (avs sI4 x2))), (24, .c (.at_ (avs sI3 x2.2))), (25, cI x2.2.1), (26, cI (IntKind.i64.wrap (v0.1 + 1))), (27, cB (x2.2.1 != (IntKind.i64.wrap (v0.1 + 1)))), (28, cI (IntKind.i64.wrap (v0.1 + 1))), (29, cI (IntKind.i64.wrap ((IntKind.i64.wrap (v0.1 + 1)) + 1))), (30, .c (.l 236 sI4 c0)), (31, cI v0.2), (32, .c (.at_ (avs sI4 x3))), (33, .c (.at_ [vI x3.2.2.1, vI x3.2.2.2])), (34, cI x3.2.2.1), (35, cI (IntKind.i64.wrap ((IntKind.i64.wrap (v0.1 + 1)) + 1))), (36, cB (x3.2.2.1 != (IntKind.i64.wrap ((IntKind.i64.wrap (v0.1 + 1)) + 1))))], []⟩
def YlheldSatS_0_3 {R : Type} (K : Ex → St → Option R) (c0 : ClheldSatS_0) (v0 : VlheldSatS_0) (x1 : I4) (x2 : I4) (x3 : I4) (x4 : I4) : Option R := K .ret ⟨49, 0, [(0, .c (.l 236 sI4 c0)), (1, cI (IntKind.i64.wrap ((IntKind.i64.wrap ((IntKind.i64.wrap (v0.1 + 1)) + 1)) + 1))), (4, cI (-1)), (5, cI v0.2), (6, cI v0.2), (7, .c (.l 236 sI4 c0)), (8, cI (c0.length : Int)), (9, cB (decide (v0.2 < (c0.length : Int)))), (12, .c (.l 236 sI4 c0)), (13, cI v0.2), (14, .c (.at_ (avs sI4 x1))), (15, .c (.at_ (avs sI4 x1))), (16, cI x1.1), (17, cI v0.1), (18, cB (x1.1 != v0.1)), (19, cI v0.1), (20, cI (IntKind.i64.wrap (v0.1 + 1))), (21, .c (.l 236 sI4 c0)), (22, cI v0.2), (23, .c (.at_ (avs sI4 x2))), (24, .c (.at_ (avs sI3 x2.2))), (25, cI x2.2.1), (26, cI (IntKind.i64.wrap (v0.1 + 1))), (27, cB (x2.2.1 != (IntKind.i64.wrap (v0.1 + 1)))), (28, cI (IntKind.i64.wrap (v0.1 + 1))), (29, cI (IntKind.i64.wrap ((IntKind.i64.wrap (v0.1 + 1)) + 1))), (30, .c (.l 236 sI4 c0)), (31, cI v0.2), (32, .c (.at_ (avs sI4 x3))), (33, .c (.at_ [vI x3.2.2.1, vI x3.2.2.2])), (34, cI x3.2.2.1), (35, cI (IntKind.i64.wrap ((IntKind.i64.wrap (v0.1 + 1)) + 1))), (36, cB (x3.2.2.1 != (IntKind.i64.wrap ((IntKind.i64.wrap (v0.1 + 1)) + 1)))), (37, cI (IntKind.i64.wrap ((IntKind.i64.wrap (v0.1 + 1)) + 1))), (38, cI (IntKind.i64.wrap ((IntKind.i64.wrap ((IntKind.i64.wrap (v0.1 + 1)) + 1)) + 1))), (39, .c (.l 236 sI4 c0)), (40, cI v0.2), (41, .c (.at_ (avs sI4 x4))), (42, .c (.at_ [vI x4.2.2.2])), (43, cI x4.2.2.2), (44, cI (IntKind.i64.wrap ((IntKind.i64.wrap ((IntKind.i64.wrap (v0.1 + 1)) + 1)) + 1))), (45, cB (x4.2.2.2 != (IntKind.i64.wrap ((IntKind.i64.wrap ((IntKind.i64.wrap (v0.1 + 1)) + 1)) + 1))))], []⟩
def YlheldSatS_0_4 {R : Type} (K : Ex → St → Option R) (c0 : ClheldSatS_0) (v0 : VlheldSatS_0) : Option R := K (.exit 0) ⟨49, 0, [(0, .c (.l 236 sI4 c0)), (1, cI v0.1), (5, cI v0.2), (6, cI v0.2), (7, .c (.l 236 sI4 c0)), (8, cI (c0.length : Int)), (9, cB (decide (v0.2 < (c0.length : Int))))], []⟩
theorem llheldSatS_0 {R : Type} (k : Nat) (K : Ex → St → Option R) (c0 : ClheldSatS_0) : ∀ (n : Nat) (v : VlheldSatS_0), loopRun [0, 0, 1, 5] (run E (den E k) (lv 156) k (nthLoop Tryz.f156 0)) n (StlheldSatS_0 c0 v) K = LlheldSatS_0 k (YlheldSatS_0_0 K c0) (YlheldSatS_0_1 K c0) (YlheldSatS_0_2 K c0) (YlheldSatS_0_3 K c0) (YlheldSatS_0_4 K c0) c0 n v := loop_law (B := BlheldSatS_0 k (YlheldSatS_0_0 K c0) (YlheldSatS_0_1 K c0) (YlheldSatS_0_2 K c0) (YlheldSatS_0_3 K c0) (YlheldSatS_0_4 K c0) c0) (fun _ => rfl) (fun n v => by kernel_rfl) (fun _ => rfl) (fun _ _ => rfl)
theorem mlheldSatS_0 (k : Nat) (a0 : List I4) (a1 : Int) : FlheldSatS (k + 1) a0 a1 = loopRun (R := Int) [0, 0, 1, 5] (run E (den E k) (lv 156) k (nthLoop Tryz.f156 0)) k (StlheldSatS_0 a0 (a1, 0)) (kontAt E (den E k) (lv 156) k (bodyOf Tryz.f156) 0 [] (finish E (rs 156) Tryz.f156 : Ex → St → Option (Int))) := by kernel_rfl
theorem elheldSatS (k : Nat) (a0 : List I4) (a1 : Int) : FlheldSatS (k + 1) a0 a1 = LlheldSatS_0 k (fun (v0 : I2) (x1 : I4) => some (-1)) (fun (v0 : I2) (x1 : I4) (x2 : I4) => some (-1)) (fun (v0 : I2) (x1 : I4) (x2 : I4) (x3 : I4) => some (-1)) (fun (v0 : I2) (x1 : I4) (x2 : I4) (x3 : I4) (x4 : I4) => some (-1)) (fun (v0 : I2) => some v0.1) a0 k (a1, 0) := by
  rw [mlheldSatS_0]
  simp only [llheldSatS_0]
  kernel_rfl
noncomputable def FlheldSiteS (k : Nat) (a0 : List I3) (a1 : Int) : Option (Int) := den E k 157 [.c (.l 240 sI3 a0), cI a1]
abbrev ClheldSiteS_0 : Type := (List I3)
abbrev VlheldSiteS_0 : Type := Int × Int
def StlheldSiteS_0 (c0 : ClheldSiteS_0) (v0 : VlheldSiteS_0) : St := ⟨40, 0, [(0, .c (.l 240 sI3 c0)), (1, cI v0.1), (5, cI v0.2)], []⟩
noncomputable def BlheldSiteS_0 {R : Type} (k : Nat) (X0 : VlheldSiteS_0 → I3 → Option R) (X1 : VlheldSiteS_0 → I3 → I3 → Option R) (X2 : VlheldSiteS_0 → I3 → I3 → I3 → Option R) (X3 : VlheldSiteS_0 → Option R) (c0 : ClheldSiteS_0) (rec : VlheldSiteS_0 → Option R) (v0 : VlheldSiteS_0) : Option R := if (decide (v0.2 < (c0.length : Int))) = true then if 0 ≤ v0.2 then ix c0 v0.2.toNat fun x1 => if (x1.1 != v0.1) = true then X0 v0 x1 else if 0 ≤ v0.2 then ix c0 v0.2.toNat fun x2 => if (x2.2.1 != (IntKind.i64.wrap (v0.1 + 1))) = true then X1 v0 x1 x2 else if 0 ≤ v0.2 then ix c0 v0.2.toNat fun x3 => if (x3.2.2 != (IntKind.i64.wrap ((IntKind.i64.wrap (v0.1 + 1)) + 1))) = true then X2 v0 x1 x2 x3 else rec ((IntKind.i64.wrap ((IntKind.i64.wrap ((IntKind.i64.wrap (v0.1 + 1)) + 1)) + 1)), (IntKind.i64.wrap (v0.2 + 1))) else none else none else none else X3 v0
noncomputable def LlheldSiteS_0 {R : Type} (k : Nat) (X0 : VlheldSiteS_0 → I3 → Option R) (X1 : VlheldSiteS_0 → I3 → I3 → Option R) (X2 : VlheldSiteS_0 → I3 → I3 → I3 → Option R) (X3 : VlheldSiteS_0 → Option R) (c : ClheldSiteS_0) : Nat → VlheldSiteS_0 → Option R
  | 0, _ => none
  | n + 1, v => BlheldSiteS_0 k X0 X1 X2 X3 c (LlheldSiteS_0 k X0 X1 X2 X3 c n) v
def YlheldSiteS_0_0 {R : Type} (K : Ex → St → Option R) (c0 : ClheldSiteS_0) (v0 : VlheldSiteS_0) (x1 : I3) : Option R := K .ret ⟨40, 0, [(0, .c (.l 240 sI3 c0)), (1, cI v0.1), (4, cI (-1)), (5, cI v0.2), (6, cI v0.2), (7, .c (.l 240 sI3 c0)), (8, cI (c0.length : Int)), (9, cB (decide (v0.2 < (c0.length : Int)))), (12, .c (.l 240 sI3 c0)), (13, cI v0.2), (14, .c (.at_ (avs sI3 x1))), (15, .c (.at_ (avs sI3 x1))), (16, cI x1.1), (17, cI v0.1), (18, cB (x1.1 != v0.1))], []⟩
def YlheldSiteS_0_1 {R : Type} (K : Ex → St → Option R) (c0 : ClheldSiteS_0) (v0 : VlheldSiteS_0) (x1 : I3) (x2 : I3) : Option R := K .ret ⟨40, 0, [(0, .c (.l 240 sI3 c0)), (1, cI (IntKind.i64.wrap (v0.1 + 1))), (4, cI (-1)), (5, cI v0.2), (6, cI v0.2), (7, .c (.l 240 sI3 c0)), (8, cI (c0.length : Int)), (9, cB (decide (v0.2 < (c0.length : Int)))), (12, .c (.l 240 sI3 c0)), (13, cI v0.2), (14, .c (.at_ (avs sI3 x1))), (15, .c (.at_ (avs sI3 x1))), (16, cI x1.1), (17, cI v0.1), (18, cB (x1.1 != v0.1)), (19, cI v0.1), (20, cI (IntKind.i64.wrap (v0.1 + 1))), (21, .c (.l 240 sI3 c0)), (22, cI v0.2), (23, .c (.at_ (avs sI3 x2))), (24, .c (.at_ [vI x2.2.1, vI x2.2.2])), (25, cI x2.2.1), (26, cI (IntKind.i64.wrap (v0.1 + 1))), (27, cB (x2.2.1 != (IntKind.i64.wrap (v0.1 + 1))))], []⟩
def YlheldSiteS_0_2 {R : Type} (K : Ex → St → Option R) (c0 : ClheldSiteS_0) (v0 : VlheldSiteS_0) (x1 : I3) (x2 : I3) (x3 : I3) : Option R := K .ret ⟨40, 0, [(0, .c (.l 240 sI3 c0)), (1, cI (IntKind.i64.wrap ((IntKind.i64.wrap (v0.1 + 1)) + 1))), (4, cI (-1)), (5, cI v0.2), (6, cI v0.2), (7, .c (.l 240 sI3 c0)), (8, cI (c0.length : Int)), (9, cB (decide (v0.2 < (c0.length : Int)))), (12, .c (.l 240 sI3 c0)), (13, cI v0.2), (14, .c (.at_ (avs sI3 x1))), (15, .c (.at_ (avs sI3 x1))), (16, cI x1.1), (17, cI v0.1), (18, cB (x1.1 != v0.1)), (19, cI v0.1), (20, cI (IntKind.i64.wrap (v0.1 + 1))), (21, .c (.l 240 sI3 c0)), (22, cI v0.2), (23, .c (.at_ (avs sI3 x2))), (24, .c (.at_ [vI x2.2.1, vI x2.2.2])), (25, cI x2.2.1), (26, cI (IntKind.i64.wrap (v0.1 + 1))), (27, cB (x2.2.1 != (IntKind.i64.wrap (v0.1 + 1)))), (28, cI (IntKind.i64.wrap (v0.1 + 1))), (29, cI (IntKind.i64.wrap ((IntKind.i64.wrap (v0.1 + 1)) + 1))), (30, .c (.l 240 sI3 c0)), (31, cI v0.2), (32, .c (.at_ (avs sI3 x3))), (33, .c (.at_ [vI x3.2.2])), (34, cI x3.2.2), (35, cI (IntKind.i64.wrap ((IntKind.i64.wrap (v0.1 + 1)) + 1))), (36, cB (x3.2.2 != (IntKind.i64.wrap ((IntKind.i64.wrap (v0.1 + 1)) + 1))))], []⟩
def YlheldSiteS_0_3 {R : Type} (K : Ex → St → Option R) (c0 : ClheldSiteS_0) (v0 : VlheldSiteS_0) : Option R := K (.exit 0) ⟨40, 0, [(0, .c (.l 240 sI3 c0)), (1, cI v0.1), (5, cI v0.2), (6, cI v0.2), (7, .c (.l 240 sI3 c0)), (8, cI (c0.length : Int)), (9, cB (decide (v0.2 < (c0.length : Int))))], []⟩
theorem llheldSiteS_0 {R : Type} (k : Nat) (K : Ex → St → Option R) (c0 : ClheldSiteS_0) : ∀ (n : Nat) (v : VlheldSiteS_0), loopRun [0, 0, 1, 5] (run E (den E k) (lv 157) k (nthLoop Tryz.f157 0)) n (StlheldSiteS_0 c0 v) K = LlheldSiteS_0 k (YlheldSiteS_0_0 K c0) (YlheldSiteS_0_1 K c0) (YlheldSiteS_0_2 K c0) (YlheldSiteS_0_3 K c0) c0 n v := loop_law (B := BlheldSiteS_0 k (YlheldSiteS_0_0 K c0) (YlheldSiteS_0_1 K c0) (YlheldSiteS_0_2 K c0) (YlheldSiteS_0_3 K c0) c0) (fun _ => rfl) (fun n v => by kernel_rfl) (fun _ => rfl) (fun _ _ => rfl)
theorem mlheldSiteS_0 (k : Nat) (a0 : List I3) (a1 : Int) : FlheldSiteS (k + 1) a0 a1 = loopRun (R := Int) [0, 0, 1, 5] (run E (den E k) (lv 157) k (nthLoop Tryz.f157 0)) k (StlheldSiteS_0 a0 (a1, 0)) (kontAt E (den E k) (lv 157) k (bodyOf Tryz.f157) 0 [] (finish E (rs 157) Tryz.f157 : Ex → St → Option (Int))) := by kernel_rfl
theorem elheldSiteS (k : Nat) (a0 : List I3) (a1 : Int) : FlheldSiteS (k + 1) a0 a1 = LlheldSiteS_0 k (fun (v0 : I2) (x1 : I3) => some (-1)) (fun (v0 : I2) (x1 : I3) (x2 : I3) => some (-1)) (fun (v0 : I2) (x1 : I3) (x2 : I3) (x3 : I3) => some (-1)) (fun (v0 : I2) => some v0.1) a0 k (a1, 0) := by
  rw [mlheldSiteS_0]
  simp only [llheldSiteS_0]
  kernel_rfl
noncomputable def FlheldZoneS (k : Nat) (a0 : List I3) (a1 : Int) : Option (Int) := den E k 158 [.c (.l 246 sZone a0), cI a1]
abbrev ClheldZoneS_0 : Type := (List I3)
abbrev VlheldZoneS_0 : Type := Int × Int
def StlheldZoneS_0 (c0 : ClheldZoneS_0) (v0 : VlheldZoneS_0) : St := ⟨42, 0, [(0, .c (.l 246 sZone c0)), (1, cI v0.1), (5, cI v0.2)], []⟩
noncomputable def BlheldZoneS_0 {R : Type} (k : Nat) (X0 : VlheldZoneS_0 → I3 → Option R) (X1 : VlheldZoneS_0 → I3 → I3 → Option R) (X2 : VlheldZoneS_0 → I3 → I3 → I3 → Option R) (X3 : VlheldZoneS_0 → Option R) (c0 : ClheldZoneS_0) (rec : VlheldZoneS_0 → Option R) (v0 : VlheldZoneS_0) : Option R := if (decide (v0.2 < (c0.length : Int))) = true then if 0 ≤ v0.2 then ix c0 v0.2.toNat fun x1 => if (x1.1 != v0.1) = true then X0 v0 x1 else if 0 ≤ v0.2 then ix c0 v0.2.toNat fun x2 => if (x2.2.1 != (IntKind.i64.wrap (v0.1 + 1))) = true then X1 v0 x1 x2 else if 0 ≤ v0.2 then ix c0 v0.2.toNat fun x3 => if (x3.2.2 != (IntKind.i64.wrap ((IntKind.i64.wrap (v0.1 + 1)) + 1))) = true then X2 v0 x1 x2 x3 else rec ((IntKind.i64.wrap ((IntKind.i64.wrap ((IntKind.i64.wrap (v0.1 + 1)) + 1)) + 1)), (IntKind.i64.wrap (v0.2 + 1))) else none else none else none else X3 v0
noncomputable def LlheldZoneS_0 {R : Type} (k : Nat) (X0 : VlheldZoneS_0 → I3 → Option R) (X1 : VlheldZoneS_0 → I3 → I3 → Option R) (X2 : VlheldZoneS_0 → I3 → I3 → I3 → Option R) (X3 : VlheldZoneS_0 → Option R) (c : ClheldZoneS_0) : Nat → VlheldZoneS_0 → Option R
  | 0, _ => none
  | n + 1, v => BlheldZoneS_0 k X0 X1 X2 X3 c (LlheldZoneS_0 k X0 X1 X2 X3 c n) v
def YlheldZoneS_0_0 {R : Type} (K : Ex → St → Option R) (c0 : ClheldZoneS_0) (v0 : VlheldZoneS_0) (x1 : I3) : Option R := K .ret ⟨42, 0, [(0, .c (.l 246 sZone c0)), (1, cI v0.1), (4, cI (-1)), (5, cI v0.2), (6, cI v0.2), (7, .c (.l 246 sZone c0)), (8, cI (c0.length : Int)), (9, cB (decide (v0.2 < (c0.length : Int)))), (12, .c (.l 246 sZone c0)), (13, cI v0.2), (14, .c (.at_ (avs sI3 x1))), (15, .c (.at_ (avs sI3 x1))), (16, cI x1.1), (17, cI v0.1), (18, cB (x1.1 != v0.1))], []⟩
def YlheldZoneS_0_1 {R : Type} (K : Ex → St → Option R) (c0 : ClheldZoneS_0) (v0 : VlheldZoneS_0) (x1 : I3) (x2 : I3) : Option R := K .ret ⟨42, 0, [(0, .c (.l 246 sZone c0)), (1, cI (IntKind.i64.wrap (v0.1 + 1))), (4, cI (-1)), (5, cI v0.2), (6, cI v0.2), (7, .c (.l 246 sZone c0)), (8, cI (c0.length : Int)), (9, cB (decide (v0.2 < (c0.length : Int)))), (12, .c (.l 246 sZone c0)), (13, cI v0.2), (14, .c (.at_ (avs sI3 x1))), (15, .c (.at_ (avs sI3 x1))), (16, cI x1.1), (17, cI v0.1), (18, cB (x1.1 != v0.1)), (19, cI v0.1), (20, cI (IntKind.i64.wrap (v0.1 + 1))), (21, .c (.l 246 sZone c0)), (22, cI v0.2), (23, .c (.at_ (avs sI3 x2))), (24, .c (.at_ [vI x2.2.1, vI x2.2.2])), (25, .c (.at_ [vI x2.2.1, vI x2.2.2])), (26, cI x2.2.1), (27, cI (IntKind.i64.wrap (v0.1 + 1))), (28, cB (x2.2.1 != (IntKind.i64.wrap (v0.1 + 1))))], []⟩
def YlheldZoneS_0_2 {R : Type} (K : Ex → St → Option R) (c0 : ClheldZoneS_0) (v0 : VlheldZoneS_0) (x1 : I3) (x2 : I3) (x3 : I3) : Option R := K .ret ⟨42, 0, [(0, .c (.l 246 sZone c0)), (1, cI (IntKind.i64.wrap ((IntKind.i64.wrap (v0.1 + 1)) + 1))), (4, cI (-1)), (5, cI v0.2), (6, cI v0.2), (7, .c (.l 246 sZone c0)), (8, cI (c0.length : Int)), (9, cB (decide (v0.2 < (c0.length : Int)))), (12, .c (.l 246 sZone c0)), (13, cI v0.2), (14, .c (.at_ (avs sI3 x1))), (15, .c (.at_ (avs sI3 x1))), (16, cI x1.1), (17, cI v0.1), (18, cB (x1.1 != v0.1)), (19, cI v0.1), (20, cI (IntKind.i64.wrap (v0.1 + 1))), (21, .c (.l 246 sZone c0)), (22, cI v0.2), (23, .c (.at_ (avs sI3 x2))), (24, .c (.at_ [vI x2.2.1, vI x2.2.2])), (25, .c (.at_ [vI x2.2.1, vI x2.2.2])), (26, cI x2.2.1), (27, cI (IntKind.i64.wrap (v0.1 + 1))), (28, cB (x2.2.1 != (IntKind.i64.wrap (v0.1 + 1)))), (29, cI (IntKind.i64.wrap (v0.1 + 1))), (30, cI (IntKind.i64.wrap ((IntKind.i64.wrap (v0.1 + 1)) + 1))), (31, .c (.l 246 sZone c0)), (32, cI v0.2), (33, .c (.at_ (avs sI3 x3))), (34, .c (.at_ [vI x3.2.1, vI x3.2.2])), (35, .c (.at_ [vI x3.2.2])), (36, cI x3.2.2), (37, cI (IntKind.i64.wrap ((IntKind.i64.wrap (v0.1 + 1)) + 1))), (38, cB (x3.2.2 != (IntKind.i64.wrap ((IntKind.i64.wrap (v0.1 + 1)) + 1))))], []⟩
def YlheldZoneS_0_3 {R : Type} (K : Ex → St → Option R) (c0 : ClheldZoneS_0) (v0 : VlheldZoneS_0) : Option R := K (.exit 0) ⟨42, 0, [(0, .c (.l 246 sZone c0)), (1, cI v0.1), (5, cI v0.2), (6, cI v0.2), (7, .c (.l 246 sZone c0)), (8, cI (c0.length : Int)), (9, cB (decide (v0.2 < (c0.length : Int))))], []⟩
theorem llheldZoneS_0 {R : Type} (k : Nat) (K : Ex → St → Option R) (c0 : ClheldZoneS_0) : ∀ (n : Nat) (v : VlheldZoneS_0), loopRun [0, 0, 1, 5] (run E (den E k) (lv 158) k (nthLoop Tryz.f158 0)) n (StlheldZoneS_0 c0 v) K = LlheldZoneS_0 k (YlheldZoneS_0_0 K c0) (YlheldZoneS_0_1 K c0) (YlheldZoneS_0_2 K c0) (YlheldZoneS_0_3 K c0) c0 n v := loop_law (B := BlheldZoneS_0 k (YlheldZoneS_0_0 K c0) (YlheldZoneS_0_1 K c0) (YlheldZoneS_0_2 K c0) (YlheldZoneS_0_3 K c0) c0) (fun _ => rfl) (fun n v => by kernel_rfl) (fun _ => rfl) (fun _ _ => rfl)
theorem mlheldZoneS_0 (k : Nat) (a0 : List I3) (a1 : Int) : FlheldZoneS (k + 1) a0 a1 = loopRun (R := Int) [0, 0, 1, 5] (run E (den E k) (lv 158) k (nthLoop Tryz.f158 0)) k (StlheldZoneS_0 a0 (a1, 0)) (kontAt E (den E k) (lv 158) k (bodyOf Tryz.f158) 0 [] (finish E (rs 158) Tryz.f158 : Ex → St → Option (Int))) := by kernel_rfl
theorem elheldZoneS (k : Nat) (a0 : List I3) (a1 : Int) : FlheldZoneS (k + 1) a0 a1 = LlheldZoneS_0 k (fun (v0 : I2) (x1 : I3) => some (-1)) (fun (v0 : I2) (x1 : I3) (x2 : I3) => some (-1)) (fun (v0 : I2) (x1 : I3) (x2 : I3) (x3 : I3) => some (-1)) (fun (v0 : I2) => some v0.1) a0 k (a1, 0) := by
  rw [mlheldZoneS_0]
  simp only [llheldZoneS_0]
  kernel_rfl
noncomputable def FlheldSky (k : Nat) (a0 : TSky) (a1 : Int) : Option (Int) := den E k 74 [.agg (avs sSky a0), cI a1]
theorem elheldSky (k : Nat) (a0 : TSky) (a1 : Int) : FlheldSky (k + 1) a0 a1 = (FlheldSatS k a0.2.1 a1).bind fun p1 => if (decide (p1 < 0)) = true then some (-1) else (FlheldSiteS k a0.2.2.1 p1).bind fun p2 => if (decide (p2 < 0)) = true then some (-1) else (FlheldZoneS k a0.2.2.2.2.2.2.2.2.1 p2).bind fun p3 => if (decide (p3 < 0)) = true then some (-1) else some p3 := by kernel_rfl
noncomputable def FlheldStreamS (k : Nat) (a0 : List (Int × Int × List Int)) (a1 : Int) : Option (Int) := den E k 81 [.c (.l 145 sStream a0), cI a1]
abbrev ClheldStreamS_0 : Type := (List (Int × Int × List Int))
abbrev VlheldStreamS_0 : Type := Int × Int
def StlheldStreamS_0 (c0 : ClheldStreamS_0) (v0 : VlheldStreamS_0) : St := ⟨40, 0, [(0, .c (.l 145 sStream c0)), (1, cI v0.1), (5, cI v0.2)], []⟩
noncomputable def BlheldStreamS_0 {R : Type} (k : Nat) (X0 : VlheldStreamS_0 → (Int × Int × List Int) → Option R) (X1 : VlheldStreamS_0 → (Int × Int × List Int) → (Int × Int × List Int) → Option R) (X2 : VlheldStreamS_0 → (Int × Int × List Int) → (Int × Int × List Int) → (Int × Int × List Int) → Int → Option R) (X3 : VlheldStreamS_0 → Option R) (c0 : ClheldStreamS_0) (rec : VlheldStreamS_0 → Option R) (v0 : VlheldStreamS_0) : Option R := if (decide (v0.2 < (c0.length : Int))) = true then if 0 ≤ v0.2 then ix c0 v0.2.toNat fun x1 => if (x1.1 != v0.1) = true then X0 v0 x1 else if 0 ≤ v0.2 then ix c0 v0.2.toNat fun x2 => if (x2.2.1 != (IntKind.i64.wrap (v0.1 + 1))) = true then X1 v0 x1 x2 else if 0 ≤ v0.2 then ix c0 v0.2.toNat fun x3 => (FlheldIntS k x3.2.2 (IntKind.i64.wrap ((IntKind.i64.wrap (v0.1 + 1)) + 1))).bind fun p4 => if (decide (p4 < 0)) = true then X2 v0 x1 x2 x3 p4 else rec (p4, (IntKind.i64.wrap (v0.2 + 1))) else none else none else none else X3 v0
noncomputable def LlheldStreamS_0 {R : Type} (k : Nat) (X0 : VlheldStreamS_0 → (Int × Int × List Int) → Option R) (X1 : VlheldStreamS_0 → (Int × Int × List Int) → (Int × Int × List Int) → Option R) (X2 : VlheldStreamS_0 → (Int × Int × List Int) → (Int × Int × List Int) → (Int × Int × List Int) → Int → Option R) (X3 : VlheldStreamS_0 → Option R) (c : ClheldStreamS_0) : Nat → VlheldStreamS_0 → Option R
  | 0, _ => none
  | n + 1, v => BlheldStreamS_0 k X0 X1 X2 X3 c (LlheldStreamS_0 k X0 X1 X2 X3 c n) v
def YlheldStreamS_0_0 {R : Type} (K : Ex → St → Option R) (c0 : ClheldStreamS_0) (v0 : VlheldStreamS_0) (x1 : Int × Int × List Int) : Option R := K .ret ⟨40, 0, [(0, .c (.l 145 sStream c0)), (1, cI v0.1), (4, cI (-1)), (5, cI v0.2), (6, cI v0.2), (7, .c (.l 145 sStream c0)), (8, cI (c0.length : Int)), (9, cB (decide (v0.2 < (c0.length : Int)))), (12, .c (.l 145 sStream c0)), (13, cI v0.2), (14, .c (.at_ (avs sStream x1))), (15, .c (.at_ (avs sStream x1))), (16, cI x1.1), (17, cI v0.1), (18, cB (x1.1 != v0.1))], []⟩
def YlheldStreamS_0_1 {R : Type} (K : Ex → St → Option R) (c0 : ClheldStreamS_0) (v0 : VlheldStreamS_0) (x1 : Int × Int × List Int) (x2 : Int × Int × List Int) : Option R := K .ret ⟨40, 0, [(0, .c (.l 145 sStream c0)), (1, cI (IntKind.i64.wrap (v0.1 + 1))), (4, cI (-1)), (5, cI v0.2), (6, cI v0.2), (7, .c (.l 145 sStream c0)), (8, cI (c0.length : Int)), (9, cB (decide (v0.2 < (c0.length : Int)))), (12, .c (.l 145 sStream c0)), (13, cI v0.2), (14, .c (.at_ (avs sStream x1))), (15, .c (.at_ (avs sStream x1))), (16, cI x1.1), (17, cI v0.1), (18, cB (x1.1 != v0.1)), (19, cI v0.1), (20, cI (IntKind.i64.wrap (v0.1 + 1))), (21, .c (.l 145 sStream c0)), (22, cI v0.2), (23, .c (.at_ (avs sStream x2))), (24, .c (.at_ [vI x2.2.1, .l 3 (.i .i64) x2.2.2])), (25, cI x2.2.1), (26, cI (IntKind.i64.wrap (v0.1 + 1))), (27, cB (x2.2.1 != (IntKind.i64.wrap (v0.1 + 1))))], []⟩
def YlheldStreamS_0_2 {R : Type} (K : Ex → St → Option R) (c0 : ClheldStreamS_0) (v0 : VlheldStreamS_0) (x1 : Int × Int × List Int) (x2 : Int × Int × List Int) (x3 : Int × Int × List Int) (p4 : Int) : Option R := K .ret ⟨40, 0, [(0, .c (.l 145 sStream c0)), (1, cI p4), (4, cI (-1)), (5, cI v0.2), (6, cI v0.2), (7, .c (.l 145 sStream c0)), (8, cI (c0.length : Int)), (9, cB (decide (v0.2 < (c0.length : Int)))), (12, .c (.l 145 sStream c0)), (13, cI v0.2), (14, .c (.at_ (avs sStream x1))), (15, .c (.at_ (avs sStream x1))), (16, cI x1.1), (17, cI v0.1), (18, cB (x1.1 != v0.1)), (19, cI v0.1), (20, cI (IntKind.i64.wrap (v0.1 + 1))), (21, .c (.l 145 sStream c0)), (22, cI v0.2), (23, .c (.at_ (avs sStream x2))), (24, .c (.at_ [vI x2.2.1, .l 3 (.i .i64) x2.2.2])), (25, cI x2.2.1), (26, cI (IntKind.i64.wrap (v0.1 + 1))), (27, cB (x2.2.1 != (IntKind.i64.wrap (v0.1 + 1)))), (28, cI (IntKind.i64.wrap (v0.1 + 1))), (29, cI (IntKind.i64.wrap ((IntKind.i64.wrap (v0.1 + 1)) + 1))), (30, .c (.l 145 sStream c0)), (31, cI v0.2), (32, .c (.at_ (avs sStream x3))), (33, .c (.at_ [.l 3 (.i .i64) x3.2.2])), (34, .c (.l 3 (.i .i64) x3.2.2)), (35, cI (IntKind.i64.wrap ((IntKind.i64.wrap (v0.1 + 1)) + 1))), (36, cI p4), (37, cI p4), (38, cB (decide (p4 < 0)))], []⟩
def YlheldStreamS_0_3 {R : Type} (K : Ex → St → Option R) (c0 : ClheldStreamS_0) (v0 : VlheldStreamS_0) : Option R := K (.exit 0) ⟨40, 0, [(0, .c (.l 145 sStream c0)), (1, cI v0.1), (5, cI v0.2), (6, cI v0.2), (7, .c (.l 145 sStream c0)), (8, cI (c0.length : Int)), (9, cB (decide (v0.2 < (c0.length : Int))))], []⟩
theorem llheldStreamS_0 {R : Type} (k : Nat) (K : Ex → St → Option R) (c0 : ClheldStreamS_0) : ∀ (n : Nat) (v : VlheldStreamS_0), loopRun [0, 0, 1, 5] (run E (den E k) (lv 81) k (nthLoop Tryz.f81 0)) n (StlheldStreamS_0 c0 v) K = LlheldStreamS_0 k (YlheldStreamS_0_0 K c0) (YlheldStreamS_0_1 K c0) (YlheldStreamS_0_2 K c0) (YlheldStreamS_0_3 K c0) c0 n v := loop_law (B := BlheldStreamS_0 k (YlheldStreamS_0_0 K c0) (YlheldStreamS_0_1 K c0) (YlheldStreamS_0_2 K c0) (YlheldStreamS_0_3 K c0) c0) (fun _ => rfl) (fun n v => by kernel_rfl) (fun _ => rfl) (fun _ _ => rfl)
theorem mlheldStreamS_0 (k : Nat) (a0 : List (Int × Int × List Int)) (a1 : Int) : FlheldStreamS (k + 1) a0 a1 = loopRun (R := Int) [0, 0, 1, 5] (run E (den E k) (lv 81) k (nthLoop Tryz.f81 0)) k (StlheldStreamS_0 a0 (a1, 0)) (kontAt E (den E k) (lv 81) k (bodyOf Tryz.f81) 0 [] (finish E (rs 81) Tryz.f81 : Ex → St → Option (Int))) := by kernel_rfl
theorem elheldStreamS (k : Nat) (a0 : List (Int × Int × List Int)) (a1 : Int) : FlheldStreamS (k + 1) a0 a1 = LlheldStreamS_0 k (fun (v0 : I2) (x1 : Int × Int × List Int) => some (-1)) (fun (v0 : I2) (x1 : Int × Int × List Int) (x2 : Int × Int × List Int) => some (-1)) (fun (v0 : I2) (x1 : Int × Int × List Int) (x2 : Int × Int × List Int) (x3 : Int × Int × List Int) (p4 : Int) => some (-1)) (fun (v0 : I2) => some v0.1) a0 k (a1, 0) := by
  rw [mlheldStreamS_0]
  simp only [llheldStreamS_0]
  kernel_rfl
noncomputable def FlheldWorld (k : Nat) (a0 : TWorld) (a1 : Int) : Option (Int) := den E k 15 [.agg (avs sWorld a0), cI a1]
theorem elheldWorld (k : Nat) (a0 : TWorld) (a1 : Int) : FlheldWorld (k + 1) a0 a1 = (FlheldSky k a0.1 a1).bind fun p1 => if (decide (p1 < 0)) = true then some (-1) else (FlheldProgram k a0.2.1 p1).bind fun p2 => if (decide (p2 < 0)) = true then some (-1) else (FlheldLaw k a0.2.2.1 p2).bind fun p3 => if (decide (p3 < 0)) = true then some (-1) else (FlheldIntS k a0.2.2.2.1 p3).bind fun p4 => if (decide (p4 < 0)) = true then some (-1) else (FlheldBatteryS k a0.2.2.2.2.1 p4).bind fun p5 => if (decide (p5 < 0)) = true then some (-1) else (FlheldQueueS k a0.2.2.2.2.2.1 p5).bind fun p6 => if (decide (p6 < 0)) = true then some (-1) else (FlheldFlowS k a0.2.2.2.2.2.2.1 p6).bind fun p7 => if (decide (p7 < 0)) = true then some (-1) else (FlheldIntS k a0.2.2.2.2.2.2.2.1 p7).bind fun p8 => if (decide (p8 < 0)) = true then some (-1) else (FlheldStreamS k a0.2.2.2.2.2.2.2.2.1 p8).bind fun p9 => if (decide (p9 < 0)) = true then some (-1) else (FlheldFaultS k a0.2.2.2.2.2.2.2.2.2.1 p9).bind fun p10 => if (decide (p10 < 0)) = true then some (-1) else (FlheldPacketS k a0.2.2.2.2.2.2.2.2.2.2.2.2.1 p10).bind fun p11 => if (decide (p11 < 0)) = true then some (-1) else (FlheldSentS k a0.2.2.2.2.2.2.2.2.2.2.2.2.2 p11).bind fun p12 => if (decide (p12 < 0)) = true then some (-1) else some p12 := by kernel_rfl
end Go.Proofs.YtekefiglklmgnaaGreat.World
