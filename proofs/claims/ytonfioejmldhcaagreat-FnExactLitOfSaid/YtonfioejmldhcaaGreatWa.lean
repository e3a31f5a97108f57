/- The equations of the functions that a law reaches, part 1. No condition. -/
import Derived.Test.YtonfioejmldhcaaGreatV3
import Derived.Test.YtonfioejmldhcaaGreatProg
import Derived.KernelRfl
namespace Go.Proofs.YtonfioejmldhcaaGreat.World
open Go Go.V Go.Proofs
set_option linter.unusedVariables false
set_option linter.unusedSimpArgs false
set_option maxRecDepth 100000
set_option maxHeartbeats 4000000
abbrev TLPiece : Type := (Int × Int) × (List (Int × Int)) × List (Int × (List Int) × List Int)
abbrev TPiece : Type := (Int × Int) × (List (Int × Int)) × List (Int × (List Int) × List Int)
abbrev TLProgram : Type := Int × Int × Int × List TPiece
abbrev TProgram : Type := Int × Int × Int × List TPiece
abbrev TLSky : Type := Int × (List (Int × Int × Int × Int)) × (List (Int × Int × Int)) × Int × Int × Int × Int × Int × (List (Int × Int × Int)) × Int
abbrev TSky : Type := Int × (List (Int × Int × Int × Int)) × (List (Int × Int × Int)) × Int × Int × Int × Int × Int × (List (Int × Int × Int)) × Int
abbrev TLWorld : Type := TSky × TProgram × (List Int) × (List Int) × (List (Int × Int × Int × Int × Int × Int)) × (List (List (Int × Int × Int × Int × Int × Int))) × (List (Int × Int × Int × Int)) × (List Int) × (List (Int × Int × List Int)) × (List (Int × Int × Int × Int)) × Int × Int × (List (Int × Int × Int × Int × Int × Int)) × List (Int × Int × Int × Int)
abbrev TWorld : Type := TSky × TProgram × (List Int) × (List Int) × (List (Int × Int × Int × Int × Int × Int)) × (List (List (Int × Int × Int × Int × Int × Int))) × (List (Int × Int × Int × Int)) × (List Int) × (List (Int × Int × List Int)) × (List (Int × Int × Int × Int)) × Int × Int × (List (Int × Int × Int × Int × Int × Int)) × List (Int × Int × Int × Int)
abbrev sI4 : Sh := (.a [(.i .i64), (.i .i64), (.i .i64), (.i .i64)])
abbrev sI3 : Sh := (.a [(.i .i64), (.i .i64), (.i .i64)])
abbrev sI2 : Sh := (.a [(.i .i64), (.i .i64)])
abbrev sZone : Sh := (.a [(.i .i64), sI2])
abbrev sLSky : Sh := (.a [(.i .i64), (.l 264 sI4), (.l 268 sI3), (.i .i64), (.i .i64), (.i .i64), (.i .i64), (.i .i64), (.l 276 sZone), (.i .i64)])
abbrev sTable : Sh := (.a [(.i .i64), (.l 3 (.i .i64)), (.l 3 (.i .i64))])
abbrev sLPiece : Sh := (.a [sI2, (.l 330 sI2), (.l 328 sTable)])
abbrev sLProgram : Sh := (.a [(.i .i64), (.i .i64), (.i .i64), (.l 260 sLPiece)])
abbrev sLaw : Sh := (.a [(.l 3 (.i .i64))])
abbrev sI6 : Sh := (.a [(.i .i64), (.i .i64), (.i .i64), (.i .i64), (.i .i64), (.i .i64)])
abbrev sLQueue : Sh := (.a [(.l 192 sI6)])
abbrev sStream : Sh := (.a [(.i .i64), (.i .i64), (.l 3 (.i .i64))])
abbrev sLWorld : Sh := (.a [sLSky, sLProgram, sLaw, (.l 3 (.i .i64)), (.l 188 sI6), (.l 180 sLQueue), (.l 84 sI4), (.l 3 (.i .i64)), (.l 182 sStream), (.l 76 sI4), (.i .i64), (.i .i64), (.l 192 sI6), (.l 92 sI4)])
abbrev sSky : Sh := (.a [(.i .i64), (.l 262 sI4), (.l 266 sI3), (.i .i64), (.i .i64), (.i .i64), (.i .i64), (.i .i64), (.l 272 sZone), (.i .i64)])
abbrev sPiece : Sh := (.a [sI2, (.l 317 sI2), (.l 239 sTable)])
abbrev sProgram : Sh := (.a [(.i .i64), (.i .i64), (.i .i64), (.l 247 sPiece)])
abbrev sQueue : Sh := (.a [(.l 155 sI6)])
abbrev sWorld : Sh := (.a [sSky, sProgram, sLaw, (.l 3 (.i .i64)), (.l 141 sI6), (.l 158 sQueue), (.l 86 sI4), (.l 3 (.i .i64)), (.l 166 sStream), (.l 79 sI4), (.i .i64), (.i .i64), (.l 155 sI6), (.l 94 sI4)])
noncomputable def ty : Nat → Option TyI
  | 3 => some ⟨.one, 1, 8, [(.int .i64 0)], (.i .i64)⟩
  | 4 => some ⟨.one, 1, 1, [(.bool false)], .b⟩
  | 22 => some ⟨.slc 264, 1, 24, [(.slice none 0 0)], (.l 264 sI4)⟩
  | 23 => some ⟨.slc 268, 1, 24, [(.slice none 0 0)], (.l 268 sI3)⟩
  | 24 => some ⟨.slc 276, 1, 24, [(.slice none 0 0)], (.l 276 sZone)⟩
  | 26 => some ⟨.agg [(0, 3), (1, 22), (2, 23), (3, 3), (4, 3), (5, 3), (6, 3), (7, 3), (8, 24), (9, 3)], 10, 128, [(.int .i64 0), (.slice none 0 0), (.slice none 0 0), (.int .i64 0), (.int .i64 0), (.int .i64 0), (.int .i64 0), (.int .i64 0), (.slice none 0 0), (.int .i64 0)], sLSky⟩
  | 27 => some ⟨.slc 260, 1, 24, [(.slice none 0 0)], (.l 260 sLPiece)⟩
  | 29 => some ⟨.agg [(0, 3), (1, 3), (2, 3), (3, 27)], 4, 48, [(.int .i64 0), (.int .i64 0), (.int .i64 0), (.slice none 0 0)], sLProgram⟩
  | 30 => some ⟨.slc 3, 1, 24, [(.slice none 0 0)], (.l 3 (.i .i64))⟩
  | 32 => some ⟨.agg [(0, 30)], 1, 24, [(.slice none 0 0)], sLaw⟩
  | 33 => some ⟨.slc 188, 1, 24, [(.slice none 0 0)], (.l 188 sI6)⟩
  | 34 => some ⟨.slc 180, 1, 24, [(.slice none 0 0)], (.l 180 sLQueue)⟩
  | 35 => some ⟨.slc 84, 1, 24, [(.slice none 0 0)], (.l 84 sI4)⟩
  | 36 => some ⟨.slc 182, 1, 24, [(.slice none 0 0)], (.l 182 sStream)⟩
  | 37 => some ⟨.slc 76, 1, 24, [(.slice none 0 0)], (.l 76 sI4)⟩
  | 38 => some ⟨.slc 192, 1, 24, [(.slice none 0 0)], (.l 192 sI6)⟩
  | 39 => some ⟨.slc 92, 1, 24, [(.slice none 0 0)], (.l 92 sI4)⟩
  | 41 => some ⟨.agg [(0, 26), (10, 29), (14, 32), (15, 30), (16, 33), (17, 34), (18, 35), (19, 30), (20, 36), (21, 37), (22, 3), (23, 3), (24, 38), (25, 39)], 26, 432, [(.int .i64 0), (.slice none 0 0), (.slice none 0 0), (.int .i64 0), (.int .i64 0), (.int .i64 0), (.int .i64 0), (.int .i64 0), (.slice none 0 0), (.int .i64 0), (.int .i64 0), (.int .i64 0), (.int .i64 0), (.slice none 0 0), (.slice none 0 0), (.slice none 0 0), (.slice none 0 0), (.slice none 0 0), (.slice none 0 0), (.slice none 0 0), (.slice none 0 0), (.slice none 0 0), (.int .i64 0), (.int .i64 0), (.slice none 0 0), (.slice none 0 0)], sLWorld⟩
  | 44 => some ⟨.slc 262, 1, 24, [(.slice none 0 0)], (.l 262 sI4)⟩
  | 45 => some ⟨.slc 266, 1, 24, [(.slice none 0 0)], (.l 266 sI3)⟩
  | 46 => some ⟨.slc 272, 1, 24, [(.slice none 0 0)], (.l 272 sZone)⟩
  | 48 => some ⟨.agg [(0, 3), (1, 44), (2, 45), (3, 3), (4, 3), (5, 3), (6, 3), (7, 3), (8, 46), (9, 3)], 10, 128, [(.int .i64 0), (.slice none 0 0), (.slice none 0 0), (.int .i64 0), (.int .i64 0), (.int .i64 0), (.int .i64 0), (.int .i64 0), (.slice none 0 0), (.int .i64 0)], sSky⟩
  | 49 => some ⟨.slc 247, 1, 24, [(.slice none 0 0)], (.l 247 sPiece)⟩
  | 51 => some ⟨.agg [(0, 3), (1, 3), (2, 3), (3, 49)], 4, 48, [(.int .i64 0), (.int .i64 0), (.int .i64 0), (.slice none 0 0)], sProgram⟩
  | 52 => some ⟨.agg [(0, 30)], 1, 24, [(.slice none 0 0)], sLaw⟩
  | 53 => some ⟨.slc 141, 1, 24, [(.slice none 0 0)], (.l 141 sI6)⟩
  | 54 => some ⟨.slc 158, 1, 24, [(.slice none 0 0)], (.l 158 sQueue)⟩
  | 55 => some ⟨.slc 86, 1, 24, [(.slice none 0 0)], (.l 86 sI4)⟩
  | 56 => some ⟨.slc 166, 1, 24, [(.slice none 0 0)], (.l 166 sStream)⟩
  | 57 => some ⟨.slc 79, 1, 24, [(.slice none 0 0)], (.l 79 sI4)⟩
  | 58 => some ⟨.slc 155, 1, 24, [(.slice none 0 0)], (.l 155 sI6)⟩
  | 59 => some ⟨.slc 94, 1, 24, [(.slice none 0 0)], (.l 94 sI4)⟩
  | 61 => some ⟨.agg [(0, 48), (10, 51), (14, 52), (15, 30), (16, 53), (17, 54), (18, 55), (19, 30), (20, 56), (21, 57), (22, 3), (23, 3), (24, 58), (25, 59)], 26, 432, [(.int .i64 0), (.slice none 0 0), (.slice none 0 0), (.int .i64 0), (.int .i64 0), (.int .i64 0), (.int .i64 0), (.int .i64 0), (.slice none 0 0), (.int .i64 0), (.int .i64 0), (.int .i64 0), (.int .i64 0), (.slice none 0 0), (.slice none 0 0), (.slice none 0 0), (.slice none 0 0), (.slice none 0 0), (.slice none 0 0), (.slice none 0 0), (.slice none 0 0), (.slice none 0 0), (.int .i64 0), (.int .i64 0), (.slice none 0 0), (.slice none 0 0)], sWorld⟩
  | 71 => some ⟨.slc 151, 1, 24, [(.slice none 0 0)], (.l 151 sI2)⟩
  | 76 => some ⟨.agg [(0, 3), (1, 3), (2, 3), (3, 3)], 4, 32, [(.int .i64 0), (.int .i64 0), (.int .i64 0), (.int .i64 0)], sI4⟩
  | 79 => some ⟨.agg [(0, 3), (1, 3), (2, 3), (3, 3)], 4, 32, [(.int .i64 0), (.int .i64 0), (.int .i64 0), (.int .i64 0)], sI4⟩
  | 84 => some ⟨.agg [(0, 3), (1, 3), (2, 3), (3, 3)], 4, 32, [(.int .i64 0), (.int .i64 0), (.int .i64 0), (.int .i64 0)], sI4⟩
  | 86 => some ⟨.agg [(0, 3), (1, 3), (2, 3), (3, 3)], 4, 32, [(.int .i64 0), (.int .i64 0), (.int .i64 0), (.int .i64 0)], sI4⟩
  | 92 => some ⟨.agg [(0, 3), (1, 3), (2, 3), (3, 3)], 4, 32, [(.int .i64 0), (.int .i64 0), (.int .i64 0), (.int .i64 0)], sI4⟩
  | 94 => some ⟨.agg [(0, 3), (1, 3), (2, 3), (3, 3)], 4, 32, [(.int .i64 0), (.int .i64 0), (.int .i64 0), (.int .i64 0)], sI4⟩
  | 141 => some ⟨.agg [(0, 3), (1, 3), (2, 3), (3, 3), (4, 3), (5, 3)], 6, 48, [(.int .i64 0), (.int .i64 0), (.int .i64 0), (.int .i64 0), (.int .i64 0), (.int .i64 0)], sI6⟩
  | 151 => some ⟨.agg [(0, 3), (1, 3)], 2, 16, [(.int .i64 0), (.int .i64 0)], sI2⟩
  | 155 => some ⟨.agg [(0, 3), (1, 3), (2, 3), (3, 3), (4, 3), (5, 3)], 6, 48, [(.int .i64 0), (.int .i64 0), (.int .i64 0), (.int .i64 0), (.int .i64 0), (.int .i64 0)], sI6⟩
  | 158 => some ⟨.agg [(0, 58)], 1, 24, [(.slice none 0 0)], sQueue⟩
  | 166 => some ⟨.agg [(0, 3), (1, 3), (2, 30)], 3, 40, [(.int .i64 0), (.int .i64 0), (.slice none 0 0)], sStream⟩
  | 180 => some ⟨.agg [(0, 38)], 1, 24, [(.slice none 0 0)], sLQueue⟩
  | 182 => some ⟨.agg [(0, 3), (1, 3), (2, 30)], 3, 40, [(.int .i64 0), (.int .i64 0), (.slice none 0 0)], sStream⟩
  | 188 => some ⟨.agg [(0, 3), (1, 3), (2, 3), (3, 3), (4, 3), (5, 3)], 6, 48, [(.int .i64 0), (.int .i64 0), (.int .i64 0), (.int .i64 0), (.int .i64 0), (.int .i64 0)], sI6⟩
  | 192 => some ⟨.agg [(0, 3), (1, 3), (2, 3), (3, 3), (4, 3), (5, 3)], 6, 48, [(.int .i64 0), (.int .i64 0), (.int .i64 0), (.int .i64 0), (.int .i64 0), (.int .i64 0)], sI6⟩
  | 239 => some ⟨.agg [(0, 3), (1, 30), (2, 30)], 3, 56, [(.int .i64 0), (.slice none 0 0), (.slice none 0 0)], sTable⟩
  | 244 => some ⟨.slc 317, 1, 24, [(.slice none 0 0)], (.l 317 sI2)⟩
  | 245 => some ⟨.slc 239, 1, 24, [(.slice none 0 0)], (.l 239 sTable)⟩
  | 247 => some ⟨.agg [(0, 151), (2, 244), (3, 245)], 4, 64, [(.int .i64 0), (.int .i64 0), (.slice none 0 0), (.slice none 0 0)], sPiece⟩
  | 256 => some ⟨.agg [(0, 3), (1, 3)], 2, 16, [(.int .i64 0), (.int .i64 0)], sI2⟩
  | 257 => some ⟨.slc 330, 1, 24, [(.slice none 0 0)], (.l 330 sI2)⟩
  | 258 => some ⟨.slc 328, 1, 24, [(.slice none 0 0)], (.l 328 sTable)⟩
  | 260 => some ⟨.agg [(0, 256), (2, 257), (3, 258)], 4, 64, [(.int .i64 0), (.int .i64 0), (.slice none 0 0), (.slice none 0 0)], sLPiece⟩
  | 262 => some ⟨.agg [(0, 3), (1, 3), (2, 3), (3, 3)], 4, 32, [(.int .i64 0), (.int .i64 0), (.int .i64 0), (.int .i64 0)], sI4⟩
  | 264 => some ⟨.agg [(0, 3), (1, 3), (2, 3), (3, 3)], 4, 32, [(.int .i64 0), (.int .i64 0), (.int .i64 0), (.int .i64 0)], sI4⟩
  | 266 => some ⟨.agg [(0, 3), (1, 3), (2, 3)], 3, 24, [(.int .i64 0), (.int .i64 0), (.int .i64 0)], sI3⟩
  | 268 => some ⟨.agg [(0, 3), (1, 3), (2, 3)], 3, 24, [(.int .i64 0), (.int .i64 0), (.int .i64 0)], sI3⟩
  | 270 => some ⟨.agg [(0, 3), (1, 3)], 2, 16, [(.int .i64 0), (.int .i64 0)], sI2⟩
  | 272 => some ⟨.agg [(0, 3), (1, 270)], 3, 24, [(.int .i64 0), (.int .i64 0), (.int .i64 0)], sZone⟩
  | 274 => some ⟨.agg [(0, 3), (1, 3)], 2, 16, [(.int .i64 0), (.int .i64 0)], sI2⟩
  | 276 => some ⟨.agg [(0, 3), (1, 274)], 3, 24, [(.int .i64 0), (.int .i64 0), (.int .i64 0)], sZone⟩
  | 284 => some ⟨.slc 4, 1, 24, [(.slice none 0 0)], (.l 4 .b)⟩
  | 317 => some ⟨.agg [(0, 3), (1, 3)], 2, 16, [(.int .i64 0), (.int .i64 0)], sI2⟩
  | 328 => some ⟨.agg [(0, 3), (1, 30), (2, 30)], 3, 56, [(.int .i64 0), (.slice none 0 0), (.slice none 0 0)], sTable⟩
  | 330 => some ⟨.agg [(0, 3), (1, 3)], 2, 16, [(.int .i64 0), (.int .i64 0)], sI2⟩
  | _ => none
noncomputable def fn0 : Nat → Option Func
  | 3 => some Tryz.f3
  | 4 => some Tryz.f4
  | 5 => some Tryz.f5
  | 7 => some Tryz.f7
  | 8 => some Tryz.f8
  | 14 => some Tryz.f14
  | 15 => some Tryz.f15
  | 16 => some Tryz.f16
  | 17 => some Tryz.f17
  | 18 => some Tryz.f18
  | 19 => some Tryz.f19
  | 20 => some Tryz.f20
  | 21 => some Tryz.f21
  | 22 => some Tryz.f22
  | 23 => some Tryz.f23
  | 24 => some Tryz.f24
  | 25 => some Tryz.f25
  | 26 => some Tryz.f26
  | 29 => some Tryz.f29
  | 30 => some Tryz.f30
  | 31 => some Tryz.f31
  | 32 => some Tryz.f32
  | 33 => some Tryz.f33
  | 34 => some Tryz.f34
  | 35 => some Tryz.f35
  | 37 => some Tryz.f37
  | 43 => some Tryz.f43
  | 48 => some Tryz.f48
  | 50 => some Tryz.f50
  | 51 => some Tryz.f51
  | 52 => some Tryz.f52
  | 53 => some Tryz.f53
  | 54 => some Tryz.f54
  | 55 => some Tryz.f55
  | 56 => some Tryz.f56
  | 57 => some Tryz.f57
  | 58 => some Tryz.f58
  | 59 => some Tryz.f59
  | 60 => some Tryz.f60
  | 61 => some Tryz.f61
  | 62 => some Tryz.f62
  | 63 => some Tryz.f63
  | 64 => some Tryz.f64
  | 65 => some Tryz.f65
  | 66 => some Tryz.f66
  | 67 => some Tryz.f67
  | 68 => some Tryz.f68
  | 69 => some Tryz.f69
  | 70 => some Tryz.f70
  | 71 => some Tryz.f71
  | 72 => some Tryz.f72
  | 73 => some Tryz.f73
  | 74 => some Tryz.f74
  | 75 => some Tryz.f75
  | 76 => some Tryz.f76
  | 77 => some Tryz.f77
  | 78 => some Tryz.f78
  | 79 => some Tryz.f79
  | 80 => some Tryz.f80
  | 81 => some Tryz.f81
  | _ => none
noncomputable def fn1 : Nat → Option Func
  | 82 => some Tryz.f82
  | 83 => some Tryz.f83
  | 84 => some Tryz.f84
  | 85 => some Tryz.f85
  | 86 => some Tryz.f86
  | 87 => some Tryz.f87
  | 88 => some Tryz.f88
  | 89 => some Tryz.f89
  | 90 => some Tryz.f90
  | 91 => some Tryz.f91
  | 92 => some Tryz.f92
  | 93 => some Tryz.f93
  | 94 => some Tryz.f94
  | 95 => some Tryz.f95
  | 96 => some Tryz.f96
  | 97 => some Tryz.f97
  | 98 => some Tryz.f98
  | 101 => some Tryz.f101
  | 102 => some Tryz.f102
  | 103 => some Tryz.f103
  | 104 => some Tryz.f104
  | 105 => some Tryz.f105
  | 106 => some Tryz.f106
  | 107 => some Tryz.f107
  | 135 => some Tryz.f135
  | 144 => some Tryz.f144
  | 145 => some Tryz.f145
  | 146 => some Tryz.f146
  | 147 => some Tryz.f147
  | 148 => some Tryz.f148
  | 149 => some Tryz.f149
  | 150 => some Tryz.f150
  | 151 => some Tryz.f151
  | 152 => some Tryz.f152
  | 153 => some Tryz.f153
  | 154 => some Tryz.f154
  | 155 => some Tryz.f155
  | 156 => some Tryz.f156
  | 157 => some Tryz.f157
  | 158 => some Tryz.f158
  | 159 => some Tryz.f159
  | 160 => some Tryz.f160
  | 161 => some Tryz.f161
  | 162 => some Tryz.f162
  | 163 => some Tryz.f163
  | 164 => some Tryz.f164
  | 165 => some Tryz.f165
  | 166 => some Tryz.f166
  | 167 => some Tryz.f167
  | 168 => some Tryz.f168
  | 169 => some Tryz.f169
  | 170 => some Tryz.f170
  | 171 => some Tryz.f171
  | 172 => some Tryz.f172
  | 173 => some Tryz.f173
  | 174 => some Tryz.f174
  | 175 => some Tryz.f175
  | 176 => some Tryz.f176
  | 177 => some Tryz.f177
  | 178 => some Tryz.f178
  | _ => none
noncomputable def fn2 : Nat → Option Func
  | 179 => some Tryz.f179
  | 184 => some Tryz.f184
  | 185 => some Tryz.f185
  | 186 => some Tryz.f186
  | 187 => some Tryz.f187
  | 188 => some Tryz.f188
  | 189 => some Tryz.f189
  | 190 => some Tryz.f190
  | 191 => some Tryz.f191
  | 192 => some Tryz.f192
  | 193 => some Tryz.f193
  | 198 => some Tryz.f198
  | 209 => some Tryz.f209
  | 244 => some Tryz.f244
  | 245 => some Tryz.f245
  | 246 => some Tryz.f246
  | 247 => some Tryz.f247
  | 248 => some Tryz.f248
  | 249 => some Tryz.f249
  | 250 => some Tryz.f250
  | 251 => some Tryz.f251
  | 252 => some Tryz.f252
  | 253 => some Tryz.f253
  | 254 => some Tryz.f254
  | 255 => some Tryz.f255
  | 256 => some Tryz.f256
  | 260 => some Tryz.f260
  | 261 => some Tryz.f261
  | 262 => some Tryz.f262
  | 263 => some Tryz.f263
  | 264 => some Tryz.f264
  | 265 => some Tryz.f265
  | 266 => some Tryz.f266
  | 267 => some Tryz.f267
  | 268 => some Tryz.f268
  | 301 => some Tryz.f301
  | 302 => some Tryz.f302
  | 303 => some Tryz.f303
  | 304 => some Tryz.f304
  | 305 => some Tryz.f305
  | 306 => some Tryz.f306
  | 307 => some Tryz.f307
  | 308 => some Tryz.f308
  | 309 => some Tryz.f309
  | 311 => some Tryz.f311
  | 312 => some Tryz.f312
  | 313 => some Tryz.f313
  | 314 => some Tryz.f314
  | 315 => some Tryz.f315
  | 316 => some Tryz.f316
  | 317 => some Tryz.f317
  | 318 => some Tryz.f318
  | 319 => some Tryz.f319
  | 332 => some Tryz.f332
  | 333 => some Tryz.f333
  | 334 => some Tryz.f334
  | 335 => some Tryz.f335
  | 336 => some Tryz.f336
  | 337 => some Tryz.f337
  | 338 => some Tryz.f338
  | _ => none
noncomputable def fn3 : Nat → Option Func
  | 339 => some Tryz.f339
  | 340 => some Tryz.f340
  | 341 => some Tryz.f341
  | 342 => some Tryz.f342
  | 343 => some Tryz.f343
  | 344 => some Tryz.f344
  | _ => none
noncomputable def fn (f : Nat) : Option Func := (match fn0 f with
  | some F => some F
  | none => (match fn1 f with
  | some F => some F
  | none => (match fn2 f with
  | some F => some F
  | none => fn3 f)))
def lv : Nat → List Nat
  | 15 => [0, 1, 2, 5, 6]
  | 17 => [0, 1, 5, 10, 11, 12]
  | 18 => [0, 0, 1, 5]
  | 20 => [14]
  | 21 => [1, 0, 1, 5]
  | 22 => [0, 0, 1, 5]
  | 33 => [0, 0, 1, 5]
  | 34 => [1, 0, 1, 5]
  | 35 => [0, 0, 1, 5]
  | 55 => [0, 0, 1, 5]
  | 57 => [0, 0, 1, 5]
  | 64 => [0, 0, 3, 4]
  | 65 => [0, 0, 3, 4]
  | 66 => [0, 0, 3, 4]
  | 67 => [0, 0, 3, 4]
  | 68 => [0, 0, 3, 4]
  | 69 => [0, 0, 3, 4]
  | 70 => [0, 0, 3, 4]
  | 71 => [0, 0, 3, 4]
  | 75 => [0, 0, 1, 5]
  | 76 => [0, 0, 1, 5]
  | 77 => [0, 0, 1, 5]
  | 78 => [0, 0, 1, 5]
  | 79 => [0, 0, 1, 5]
  | 80 => [0, 0, 1, 5]
  | 81 => [0, 0, 1, 5]
  | 82 => [3]
  | 83 => [1]
  | 84 => [1]
  | 85 => [1, 0, 1, 5]
  | 86 => [1, 0, 1, 5]
  | 87 => [1, 0, 1, 5]
  | 88 => [1, 0, 1, 5]
  | 89 => [1, 0, 1, 5]
  | 90 => [1, 0, 1, 5]
  | 91 => [1, 0, 1, 5]
  | 93 => [0, 1, 2, 4, 9, 10]
  | 96 => [0, 0, 1, 2, 3, 9, 10]
  | 97 => [0, 0, 1, 2, 9, 16, 17]
  | 101 => [0, 0, 1, 2, 7]
  | 103 => [0, 1, 2, 9, 10, 11]
  | 105 => [0, 1, 4, 9, 11, 12]
  | 147 => [0, 0, 1, 5]
  | 150 => [0, 0, 3, 4]
  | 151 => [0, 0, 3, 4]
  | 152 => [0, 0, 3, 4]
  | 153 => [0, 0, 3, 4]
  | 158 => [0, 0, 1, 5]
  | 159 => [0, 0, 1, 5]
  | 160 => [0, 0, 1, 5]
  | 161 => [0, 0, 1, 5]
  | 169 => [1, 0, 1, 5]
  | 170 => [1, 0, 1, 5]
  | 171 => [1, 0, 1, 5]
  | 172 => [1, 0, 1, 5]
  | 174 => [0, 0, 1, 5]
  | 176 => [0, 2, 4, 9, 10, 11]
  | 177 => [0, 0, 1, 2, 3, 9]
  | 179 => [0, 0, 1, 2, 3, 11, 12, 13]
  | 191 => [0, 1, 2, 7, 8]
  | 253 => [1, 0, 1, 5]
  | 254 => [1, 0, 1, 5]
  | 256 => [0, 3, 5, 6, 8, 9, 10]
  | 302 => [0, 0, 1, 5]
  | 305 => [0, 0, 3, 4]
  | 306 => [0, 0, 3, 4]
  | 308 => [0, 0, 1, 5]
  | 309 => [0, 0, 1, 5]
  | _ => []
def rs : Nat → RSh
  | 3 => ⟨false, [.b], 0⟩
  | 4 => ⟨false, [.b], 0⟩
  | 5 => ⟨false, [.b], 0⟩
  | 7 => ⟨false, [.b], 0⟩
  | 8 => ⟨false, [.b], 0⟩
  | 14 => ⟨false, [(.i .i64)], 0⟩
  | 15 => ⟨true, [(.l 3 (.i .i64))], 0⟩
  | 16 => ⟨true, [sWorld], 0⟩
  | 17 => ⟨true, [(.l 3 (.i .i64))], 0⟩
  | 18 => ⟨false, [.b], 0⟩
  | 19 => ⟨false, [.b], 0⟩
  | 20 => ⟨true, [(.i .i64), (.l 262 sI4), (.l 266 sI3), (.l 272 sZone), (.l 247 sPiece), (.l 3 (.i .i64)), (.l 3 (.i .i64)), (.l 141 sI6), (.l 158 sQueue), (.l 86 sI4), (.l 3 (.i .i64)), (.l 166 sStream), (.l 79 sI4), (.l 155 sI6), (.l 94 sI4)], 14⟩
  | 21 => ⟨true, [(.i .i64), (.l 3 (.i .i64))], 1⟩
  | 22 => ⟨false, [(.i .i64)], 0⟩
  | 23 => ⟨false, [(.i .i64)], 0⟩
  | 24 => ⟨false, [(.i .i64)], 0⟩
  | 25 => ⟨true, [(.l 3 (.i .i64))], 0⟩
  | 26 => ⟨true, [(.l 3 (.i .i64))], 0⟩
  | 29 => ⟨false, [.b], 0⟩
  | 30 => ⟨false, [.b], 0⟩
  | 31 => ⟨true, [(.l 151 sI2)], 0⟩
  | 32 => ⟨true, [(.l 151 sI2)], 0⟩
  | 33 => ⟨false, [.b], 0⟩
  | 34 => ⟨true, [(.i .i64), (.l 151 sI2)], 1⟩
  | 35 => ⟨false, [(.i .i64)], 0⟩
  | 37 => ⟨false, [sI4], 0⟩
  | 43 => ⟨false, [sI4], 0⟩
  | 48 => ⟨false, [sI4], 0⟩
  | 50 => ⟨false, [(.i .i64)], 0⟩
  | 51 => ⟨false, [(.i .i64)], 0⟩
  | 52 => ⟨false, [(.i .i64)], 0⟩
  | 53 => ⟨false, [(.i .i64)], 0⟩
  | 54 => ⟨false, [(.i .i64)], 0⟩
  | 55 => ⟨false, [(.i .i64)], 0⟩
  | 56 => ⟨false, [(.i .i64)], 0⟩
  | 57 => ⟨false, [(.i .i64)], 0⟩
  | 58 => ⟨false, [(.i .i64)], 0⟩
  | 59 => ⟨false, [(.i .i64)], 0⟩
  | 60 => ⟨false, [(.i .i64)], 0⟩
  | 61 => ⟨true, [sSky], 0⟩
  | 62 => ⟨true, [sProgram], 0⟩
  | 63 => ⟨true, [sLaw], 0⟩
  | 64 => ⟨true, [(.l 3 (.i .i64))], 0⟩
  | 65 => ⟨true, [(.l 141 sI6)], 0⟩
  | 66 => ⟨true, [(.l 158 sQueue)], 0⟩
  | 67 => ⟨true, [(.l 86 sI4)], 0⟩
  | 68 => ⟨true, [(.l 166 sStream)], 0⟩
  | 69 => ⟨true, [(.l 79 sI4)], 0⟩
  | 70 => ⟨true, [(.l 155 sI6)], 0⟩
  | 71 => ⟨true, [(.l 94 sI4)], 0⟩
  | 72 => ⟨false, [.b], 0⟩
  | 73 => ⟨false, [.b], 0⟩
  | 74 => ⟨false, [.b], 0⟩
  | 75 => ⟨false, [.b], 0⟩
  | 76 => ⟨false, [.b], 0⟩
  | 77 => ⟨false, [.b], 0⟩
  | 78 => ⟨false, [.b], 0⟩
  | 79 => ⟨false, [.b], 0⟩
  | 80 => ⟨false, [.b], 0⟩
  | 81 => ⟨false, [.b], 0⟩
  | 82 => ⟨true, [(.i .i64), (.l 262 sI4), (.l 266 sI3), (.l 272 sZone)], 3⟩
  | 83 => ⟨true, [(.i .i64), (.l 247 sPiece)], 1⟩
  | 84 => ⟨true, [(.i .i64), (.l 3 (.i .i64))], 1⟩
  | 85 => ⟨true, [(.i .i64), (.l 141 sI6)], 1⟩
  | 86 => ⟨true, [(.i .i64), (.l 158 sQueue)], 1⟩
  | 87 => ⟨true, [(.i .i64), (.l 86 sI4)], 1⟩
  | 88 => ⟨true, [(.i .i64), (.l 166 sStream)], 1⟩
  | 89 => ⟨true, [(.i .i64), (.l 79 sI4)], 1⟩
  | 90 => ⟨true, [(.i .i64), (.l 155 sI6)], 1⟩
  | 91 => ⟨true, [(.i .i64), (.l 94 sI4)], 1⟩
  | 92 => ⟨false, [.b], 0⟩
  | 93 => ⟨false, [(.i .i64)], 0⟩
  | 94 => ⟨false, [.b], 0⟩
  | 95 => ⟨false, [(.i .i64)], 0⟩
  | 96 => ⟨true, [(.l 3 (.i .i64))], 0⟩
  | 97 => ⟨true, [(.l 3 (.i .i64))], 0⟩
  | 98 => ⟨false, [(.i .i64)], 0⟩
  | 101 => ⟨false, [.b], 0⟩
  | 102 => ⟨false, [.b], 0⟩
  | 103 => ⟨false, [.b], 0⟩
  | 104 => ⟨false, [.b], 0⟩
  | 105 => ⟨true, [(.l 151 sI2)], 0⟩
  | 106 => ⟨true, [(.l 151 sI2)], 0⟩
  | 107 => ⟨false, [.b], 0⟩
  | 135 => ⟨false, [.b], 0⟩
  | 144 => ⟨false, [(.i .i64)], 0⟩
  | 145 => ⟨false, [(.i .i64)], 0⟩
  | 146 => ⟨false, [(.i .i64)], 0⟩
  | 147 => ⟨false, [(.i .i64)], 0⟩
  | 148 => ⟨false, [(.i .i64)], 0⟩
  | 149 => ⟨false, [(.i .i64)], 0⟩
  | 150 => ⟨true, [(.l 262 sI4)], 0⟩
  | 151 => ⟨true, [(.l 266 sI3)], 0⟩
  | 152 => ⟨true, [(.l 272 sZone)], 0⟩
  | 153 => ⟨true, [(.l 247 sPiece)], 0⟩
  | 154 => ⟨false, [sI6], 0⟩
  | 155 => ⟨true, [sQueue], 0⟩
  | 156 => ⟨true, [sStream], 0⟩
  | 157 => ⟨false, [sI6], 0⟩
  | 158 => ⟨false, [.b], 0⟩
  | 159 => ⟨false, [.b], 0⟩
  | 160 => ⟨false, [.b], 0⟩
  | 161 => ⟨false, [.b], 0⟩
  | 162 => ⟨false, [.b], 0⟩
  | 163 => ⟨false, [.b], 0⟩
  | 164 => ⟨false, [.b], 0⟩
  | 165 => ⟨false, [.b], 0⟩
  | 166 => ⟨false, [.b], 0⟩
  | 167 => ⟨false, [.b], 0⟩
  | 168 => ⟨false, [.b], 0⟩
  | 169 => ⟨true, [(.i .i64), (.l 262 sI4)], 1⟩
  | 170 => ⟨true, [(.i .i64), (.l 266 sI3)], 1⟩
  | 171 => ⟨true, [(.i .i64), (.l 272 sZone)], 1⟩
  | 172 => ⟨true, [(.i .i64), (.l 247 sPiece)], 1⟩
  | 173 => ⟨false, [.b], 0⟩
  | 174 => ⟨false, [.b], 0⟩
  | 175 => ⟨false, [(.i .i64)], 0⟩
  | 176 => ⟨true, [(.l 3 (.i .i64))], 0⟩
  | 177 => ⟨false, [.b], 0⟩
  | 178 => ⟨false, [.b], 0⟩
  | 179 => ⟨false, [.b], 0⟩
  | 184 => ⟨false, [.b], 0⟩
  | 185 => ⟨false, [.b], 0⟩
  | 186 => ⟨false, [.b], 0⟩
  | 187 => ⟨false, [.b], 0⟩
  | 188 => ⟨false, [(.i .i64), (.i .i64)], 0⟩
  | 189 => ⟨false, [(.i .i64)], 0⟩
  | 190 => ⟨true, [(.l 151 sI2)], 0⟩
  | 191 => ⟨true, [(.l 151 sI2)], 0⟩
  | 192 => ⟨false, [.b], 0⟩
  | 193 => ⟨false, [(.i .i64)], 0⟩
  | 198 => ⟨false, [.b], 0⟩
  | 209 => ⟨false, [.b], 0⟩
  | 244 => ⟨false, [(.i .i64)], 0⟩
  | 245 => ⟨false, [sI4], 0⟩
  | 246 => ⟨false, [sI3], 0⟩
  | 247 => ⟨false, [sZone], 0⟩
  | 248 => ⟨true, [sPiece], 0⟩
  | 249 => ⟨false, [.b], 0⟩
  | 250 => ⟨false, [.b], 0⟩
  | 251 => ⟨false, [.b], 0⟩
  | 252 => ⟨false, [.b], 0⟩
  | 253 => ⟨true, [(.i .i64), (.l 317 sI2)], 1⟩
  | 254 => ⟨true, [(.i .i64), (.l 239 sTable)], 1⟩
  | 255 => ⟨false, [.b], 0⟩
  | 256 => ⟨true, [(.l 4 .b)], 0⟩
  | 260 => ⟨false, [sI2], 0⟩
  | 261 => ⟨false, [(.i .i64)], 0⟩
  | 262 => ⟨false, [(.i .i64)], 0⟩
  | 263 => ⟨false, [(.i .i64)], 0⟩
  | 264 => ⟨false, [.b], 0⟩
  | 265 => ⟨false, [sI2], 0⟩
  | 266 => ⟨false, [(.i .i64)], 0⟩
  | 267 => ⟨false, [(.i .i64)], 0⟩
  | 268 => ⟨false, [(.i .i64)], 0⟩
  | 301 => ⟨false, [(.i .i64)], 0⟩
  | 302 => ⟨false, [(.i .i64)], 0⟩
  | 303 => ⟨false, [sI2], 0⟩
  | 304 => ⟨false, [sI2], 0⟩
  | 305 => ⟨true, [(.l 317 sI2)], 0⟩
  | 306 => ⟨true, [(.l 239 sTable)], 0⟩
  | 307 => ⟨false, [.b], 0⟩
  | 308 => ⟨false, [.b], 0⟩
  | 309 => ⟨false, [.b], 0⟩
  | 311 => ⟨false, [sI2], 0⟩
  | 312 => ⟨false, [.b], 0⟩
  | 313 => ⟨false, [(.i .i64)], 0⟩
  | 314 => ⟨false, [(.i .i64)], 0⟩
  | 315 => ⟨false, [sI2], 0⟩
  | 316 => ⟨false, [.b], 0⟩
  | 317 => ⟨false, [(.i .i64)], 0⟩
  | 318 => ⟨false, [(.i .i64)], 0⟩
  | 319 => ⟨false, [.b], 0⟩
  | 332 => ⟨false, [(.i .i64)], 0⟩
  | 333 => ⟨false, [sI2], 0⟩
  | 334 => ⟨true, [sTable], 0⟩
  | 335 => ⟨false, [.b], 0⟩
  | 336 => ⟨false, [.b], 0⟩
  | 337 => ⟨false, [sI2], 0⟩
  | 338 => ⟨false, [(.i .i64)], 0⟩
  | 339 => ⟨false, [(.i .i64)], 0⟩
  | 340 => ⟨false, [(.i .i64)], 0⟩
  | 341 => ⟨false, [sI2], 0⟩
  | 342 => ⟨false, [(.i .i64)], 0⟩
  | 343 => ⟨false, [(.i .i64)], 0⟩
  | 344 => ⟨false, [(.i .i64)], 0⟩
  | _ => ⟨false, [], 0⟩
def tk : Nat → List (Option Sh)
  | 20 => [some sWorld]
  | 21 => [some (.l 3 (.i .i64))]
  | 34 => [some (.l 151 sI2)]
  | 82 => [some sSky]
  | 83 => [some sProgram]
  | 84 => [some sLaw]
  | 85 => [some (.l 141 sI6)]
  | 86 => [some (.l 158 sQueue)]
  | 87 => [some (.l 86 sI4)]
  | 88 => [some (.l 166 sStream)]
  | 89 => [some (.l 79 sI4)]
  | 90 => [some (.l 155 sI6)]
  | 91 => [some (.l 94 sI4)]
  | 169 => [some (.l 262 sI4)]
  | 170 => [some (.l 266 sI3)]
  | 171 => [some (.l 272 sZone)]
  | 172 => [some (.l 247 sPiece)]
  | 190 => [some (.l 151 sI2)]
  | 253 => [some (.l 317 sI2)]
  | 254 => [some (.l 239 sTable)]
  | _ => []
noncomputable def E : Env := { P := Tryz.prog, fn := fn, ty := ty, lv := lv, rs := rs, tk := tk, ext := fun _ => none }
/-! loop.example/g00599/impl.TrailOf -/
noncomputable def FiTrailOf (k : Nat) (a0 : TWorld) (a1 : Int) : Option (List Int) := den E k 17 [.agg [.v (.int .i64 a0.1.1), .l 262 sI4 a0.1.2.1, .l 266 sI3 a0.1.2.2.1, .v (.int .i64 a0.1.2.2.2.1), .v (.int .i64 a0.1.2.2.2.2.1), .v (.int .i64 a0.1.2.2.2.2.2.1), .v (.int .i64 a0.1.2.2.2.2.2.2.1), .v (.int .i64 a0.1.2.2.2.2.2.2.2.1), .l 272 sZone a0.1.2.2.2.2.2.2.2.2.1, .v (.int .i64 a0.1.2.2.2.2.2.2.2.2.2), .v (.int .i64 a0.2.1.1), .v (.int .i64 a0.2.1.2.1), .v (.int .i64 a0.2.1.2.2.1), .l 247 sPiece a0.2.1.2.2.2, .l 3 (.i .i64) a0.2.2.1, .l 3 (.i .i64) a0.2.2.2.1, .l 141 sI6 a0.2.2.2.2.1, .l 158 sQueue a0.2.2.2.2.2.1, .l 86 sI4 a0.2.2.2.2.2.2.1, .l 3 (.i .i64) a0.2.2.2.2.2.2.2.1, .l 166 sStream a0.2.2.2.2.2.2.2.2.1, .l 79 sI4 a0.2.2.2.2.2.2.2.2.2.1, .v (.int .i64 a0.2.2.2.2.2.2.2.2.2.2.1), .v (.int .i64 a0.2.2.2.2.2.2.2.2.2.2.2.1), .l 155 sI6 a0.2.2.2.2.2.2.2.2.2.2.2.2.1, .l 94 sI4 a0.2.2.2.2.2.2.2.2.2.2.2.2.2], .c (.v (.int .i64 a1))]
abbrev CiTrailOf_0 : Type := Int × (List (Int × Int × Int × Int)) × Int
abbrev ViTrailOf_0 : Type := Int × (List Int)
def StiTrailOf_0 (c0 : CiTrailOf_0) (v0 : ViTrailOf_0) : St := ⟨35, 1, [(1, .c (.v (.int .i64 c0.1))), (5, .c (.ref 0)), (10, .c (.l 94 sI4 c0.2.1)), (11, .c (.v (.int .i64 c0.2.2))), (12, .c (.v (.int .i64 v0.1)))], [(0, .arr 3 (.i .i64) v0.2)]⟩
noncomputable def BiTrailOf_0 {R : Type} (k : Nat) (X0 : ViTrailOf_0 → Option R) (c0 : CiTrailOf_0) (rec : ViTrailOf_0 → Option R) (v0 : ViTrailOf_0) : Option R := if (decide (v0.1 < c0.2.2)) = true then if 0 ≤ v0.1 then ix c0.2.1 v0.1.toNat fun x1 => if (x1.2.2.2 != c0.1) = true then rec ((IntKind.i64.wrap (v0.1 + 1)), v0.2) else if ((v0.2.length : Int) == 0) = true then if (v0.2.length + ([x1.2.1]).length) * 8 ≤ 140737488355328 then if ((v0.2 ++ [x1.2.1]).length + ([x1.2.2.1]).length) * 8 ≤ 140737488355328 then rec ((IntKind.i64.wrap (v0.1 + 1)), ((v0.2 ++ [x1.2.1]) ++ [x1.2.2.1])) else none else none else if (v0.2.length + ([x1.2.2.1]).length) * 8 ≤ 140737488355328 then rec ((IntKind.i64.wrap (v0.1 + 1)), (v0.2 ++ [x1.2.2.1])) else none else none else X0 v0
noncomputable def LiTrailOf_0 {R : Type} (k : Nat) (X0 : ViTrailOf_0 → Option R) (c : CiTrailOf_0) : Nat → ViTrailOf_0 → Option R
  | 0, _ => none
  | n + 1, v => BiTrailOf_0 k X0 c (LiTrailOf_0 k X0 c n) v
theorem biTrailOf_0 {R : Type} (k n : Nat) (K : Ex → St → Option R) (c0 : CiTrailOf_0) (v : ViTrailOf_0) : loopRun [0, 1, 5, 10, 11, 12] (run E (den E k) (lv 17) k (nthLoop Tryz.f17 0)) (n + 1) (StiTrailOf_0 c0 v) K = BiTrailOf_0 k (fun (v0 : ViTrailOf_0) => K (.exit 0) ⟨35, 1, [(1, .c (.v (.int .i64 c0.1))), (5, .c (.ref 0)), (10, .c (.l 94 sI4 c0.2.1)), (11, .c (.v (.int .i64 c0.2.2))), (12, .c (.v (.int .i64 v0.1))), (13, .c (.v (.bool (decide (v0.1 < c0.2.2)))))], [(0, .arr 3 (.i .i64) v0.2)]⟩) c0 (fun v => loopRun [0, 1, 5, 10, 11, 12] (run E (den E k) (lv 17) k (nthLoop Tryz.f17 0)) n (StiTrailOf_0 c0 v) K) v := by kernel_rfl
theorem liTrailOf_0 {R : Type} (k : Nat) (K : Ex → St → Option R) (c0 : CiTrailOf_0) : ∀ (n : Nat) (v : ViTrailOf_0), loopRun [0, 1, 5, 10, 11, 12] (run E (den E k) (lv 17) k (nthLoop Tryz.f17 0)) n (StiTrailOf_0 c0 v) K = LiTrailOf_0 k (fun (v0 : ViTrailOf_0) => K (.exit 0) ⟨35, 1, [(1, .c (.v (.int .i64 c0.1))), (5, .c (.ref 0)), (10, .c (.l 94 sI4 c0.2.1)), (11, .c (.v (.int .i64 c0.2.2))), (12, .c (.v (.int .i64 v0.1))), (13, .c (.v (.bool (decide (v0.1 < c0.2.2)))))], [(0, .arr 3 (.i .i64) v0.2)]⟩) c0 n v := by
  intro n
  induction n with
  | zero => intro v; rfl
  | succ n ih =>
    intro v
    refine (biTrailOf_0 k n K c0 v).trans ?_
    rw [funext ih]
    kernel_rfl
theorem miTrailOf_0 (k : Nat) (a0 : TWorld) (a1 : Int) : FiTrailOf (k + 1) a0 a1 = loopRun (R := List Int) [0, 1, 5, 10, 11, 12] (run E (den E k) (lv 17) k (nthLoop Tryz.f17 0)) k (StiTrailOf_0 (a1, a0.2.2.2.2.2.2.2.2.2.2.2.2.2, (a0.2.2.2.2.2.2.2.2.2.2.2.2.2.length : Int)) (0, [])) (kontAt E (den E k) (lv 17) k (bodyOf Tryz.f17) 0 [] (finish E (rs 17) Tryz.f17 : Ex → St → Option (List Int))) := by kernel_rfl
theorem eiTrailOf (k : Nat) (a0 : TWorld) (a1 : Int) : FiTrailOf (k + 1) a0 a1 = LiTrailOf_0 k (fun (v0 : Int × (List Int)) => some v0.2) (a1, a0.2.2.2.2.2.2.2.2.2.2.2.2.2, (a0.2.2.2.2.2.2.2.2.2.2.2.2.2.length : Int)) k (0, []) := by
  rw [miTrailOf_0]
  simp only [liTrailOf_0]
  kernel_rfl
/-! loop.example/g00599/laws.eqIntS -/
noncomputable def FleqIntS (k : Nat) (a0 : List Int) (a1 : List Int) : Option (Bool) := den E k 18 [.c (.l 3 (.i .i64) a0), .c (.l 3 (.i .i64) a1)]
abbrev CleqIntS_0 : Type := (List Int) × (List Int)
abbrev VleqIntS_0 : Type := Int
def StleqIntS_0 (c0 : CleqIntS_0) (v0 : VleqIntS_0) : St := ⟨26, 0, [(0, .c (.l 3 (.i .i64) c0.1)), (1, .c (.l 3 (.i .i64) c0.2)), (5, .c (.v (.int .i64 v0)))], []⟩
noncomputable def BleqIntS_0 {R : Type} (k : Nat) (X0 : VleqIntS_0 → Int → Int → Option R) (X1 : VleqIntS_0 → Option R) (c0 : CleqIntS_0) (rec : VleqIntS_0 → Option R) (v0 : VleqIntS_0) : Option R := if (decide (v0 < (c0.1.length : Int))) = true then if 0 ≤ v0 then ix c0.1 v0.toNat fun x1 => if 0 ≤ v0 then ix c0.2 v0.toNat fun x2 => if (x1 != x2) = true then X0 v0 x1 x2 else rec (IntKind.i64.wrap (v0 + 1)) else none else none else X1 v0
noncomputable def LleqIntS_0 {R : Type} (k : Nat) (X0 : VleqIntS_0 → Int → Int → Option R) (X1 : VleqIntS_0 → Option R) (c : CleqIntS_0) : Nat → VleqIntS_0 → Option R
  | 0, _ => none
  | n + 1, v => BleqIntS_0 k X0 X1 c (LleqIntS_0 k X0 X1 c n) v
theorem bleqIntS_0 {R : Type} (k n : Nat) (K : Ex → St → Option R) (c0 : CleqIntS_0) (v : VleqIntS_0) : loopRun [0, 0, 1, 5] (run E (den E k) (lv 18) k (nthLoop Tryz.f18 0)) (n + 1) (StleqIntS_0 c0 v) K = BleqIntS_0 k (fun (v0 : VleqIntS_0) (x1 : Int) (x2 : Int) => K .ret ⟨26, 0, [(0, .c (.l 3 (.i .i64) c0.1)), (1, .c (.l 3 (.i .i64) c0.2)), (4, .c (.v (.bool false))), (5, .c (.v (.int .i64 v0))), (11, .c (.v (.int .i64 v0))), (12, .c (.l 3 (.i .i64) c0.1)), (13, .c (.v (.int .i64 (c0.1.length : Int)))), (14, .c (.v (.bool (decide (v0 < (c0.1.length : Int)))))), (17, .c (.l 3 (.i .i64) c0.1)), (18, .c (.v (.int .i64 v0))), (19, .c (.at_ [.v (.int .i64 x1)])), (20, .c (.v (.int .i64 x1))), (21, .c (.l 3 (.i .i64) c0.2)), (22, .c (.v (.int .i64 v0))), (23, .c (.at_ [.v (.int .i64 x2)])), (24, .c (.v (.int .i64 x2))), (25, .c (.v (.bool (x1 != x2))))], []⟩) (fun (v0 : VleqIntS_0) => K (.exit 0) ⟨26, 0, [(0, .c (.l 3 (.i .i64) c0.1)), (1, .c (.l 3 (.i .i64) c0.2)), (5, .c (.v (.int .i64 v0))), (11, .c (.v (.int .i64 v0))), (12, .c (.l 3 (.i .i64) c0.1)), (13, .c (.v (.int .i64 (c0.1.length : Int)))), (14, .c (.v (.bool (decide (v0 < (c0.1.length : Int))))))], []⟩) c0 (fun v => loopRun [0, 0, 1, 5] (run E (den E k) (lv 18) k (nthLoop Tryz.f18 0)) n (StleqIntS_0 c0 v) K) v := by kernel_rfl
theorem lleqIntS_0 {R : Type} (k : Nat) (K : Ex → St → Option R) (c0 : CleqIntS_0) : ∀ (n : Nat) (v : VleqIntS_0), loopRun [0, 0, 1, 5] (run E (den E k) (lv 18) k (nthLoop Tryz.f18 0)) n (StleqIntS_0 c0 v) K = LleqIntS_0 k (fun (v0 : VleqIntS_0) (x1 : Int) (x2 : Int) => K .ret ⟨26, 0, [(0, .c (.l 3 (.i .i64) c0.1)), (1, .c (.l 3 (.i .i64) c0.2)), (4, .c (.v (.bool false))), (5, .c (.v (.int .i64 v0))), (11, .c (.v (.int .i64 v0))), (12, .c (.l 3 (.i .i64) c0.1)), (13, .c (.v (.int .i64 (c0.1.length : Int)))), (14, .c (.v (.bool (decide (v0 < (c0.1.length : Int)))))), (17, .c (.l 3 (.i .i64) c0.1)), (18, .c (.v (.int .i64 v0))), (19, .c (.at_ [.v (.int .i64 x1)])), (20, .c (.v (.int .i64 x1))), (21, .c (.l 3 (.i .i64) c0.2)), (22, .c (.v (.int .i64 v0))), (23, .c (.at_ [.v (.int .i64 x2)])), (24, .c (.v (.int .i64 x2))), (25, .c (.v (.bool (x1 != x2))))], []⟩) (fun (v0 : VleqIntS_0) => K (.exit 0) ⟨26, 0, [(0, .c (.l 3 (.i .i64) c0.1)), (1, .c (.l 3 (.i .i64) c0.2)), (5, .c (.v (.int .i64 v0))), (11, .c (.v (.int .i64 v0))), (12, .c (.l 3 (.i .i64) c0.1)), (13, .c (.v (.int .i64 (c0.1.length : Int)))), (14, .c (.v (.bool (decide (v0 < (c0.1.length : Int))))))], []⟩) c0 n v := by
  intro n
  induction n with
  | zero => intro v; rfl
  | succ n ih =>
    intro v
    refine (bleqIntS_0 k n K c0 v).trans ?_
    rw [funext ih]
    kernel_rfl
theorem mleqIntS_0 (k : Nat) (a0 : List Int) (a1 : List Int) : FleqIntS (k + 1) a0 a1 = if ((a0.length : Int) != (a1.length : Int)) = true then some false else loopRun (R := Bool) [0, 0, 1, 5] (run E (den E k) (lv 18) k (nthLoop Tryz.f18 0)) k (StleqIntS_0 (a0, a1) 0) (kontAt E (den E k) (lv 18) k (bodyOf Tryz.f18) 0 [] (finish E (rs 18) Tryz.f18 : Ex → St → Option (Bool))) := by kernel_rfl
theorem eleqIntS (k : Nat) (a0 : List Int) (a1 : List Int) : FleqIntS (k + 1) a0 a1 = if ((a0.length : Int) != (a1.length : Int)) = true then some false else LleqIntS_0 k (fun (v0 : Int) (x1 : Int) (x2 : Int) => some false) (fun (v0 : Int) => some true) (a0, a1) k 0 := by
  rw [mleqIntS_0]
  simp only [lleqIntS_0]
  kernel_rfl
/-! loop.example/g00599/laws.eqBattery -/
noncomputable def FleqBattery (k : Nat) (a0 : Int × Int × Int × Int × Int × Int) (a1 : Int × Int × Int × Int × Int × Int) : Option (Bool) := den E k 162 [.agg [.v (.int .i64 a0.1), .v (.int .i64 a0.2.1), .v (.int .i64 a0.2.2.1), .v (.int .i64 a0.2.2.2.1), .v (.int .i64 a0.2.2.2.2.1), .v (.int .i64 a0.2.2.2.2.2)], .agg [.v (.int .i64 a1.1), .v (.int .i64 a1.2.1), .v (.int .i64 a1.2.2.1), .v (.int .i64 a1.2.2.2.1), .v (.int .i64 a1.2.2.2.2.1), .v (.int .i64 a1.2.2.2.2.2)]]
theorem eleqBattery (k : Nat) (a0 : Int × Int × Int × Int × Int × Int) (a1 : Int × Int × Int × Int × Int × Int) : FleqBattery (k + 1) a0 a1 = if (a0.1 != a1.1) = true then some false else if (a0.2.1 != a1.2.1) = true then some false else if (a0.2.2.1 != a1.2.2.1) = true then some false else if (a0.2.2.2.1 != a1.2.2.2.1) = true then some false else if (a0.2.2.2.2.1 != a1.2.2.2.2.1) = true then some false else if (a0.2.2.2.2.2 != a1.2.2.2.2.2) = true then some false else some true := by kernel_rfl
/-! loop.example/g00599/laws.eqBatteryS -/
noncomputable def FleqBatteryS (k : Nat) (a0 : List (Int × Int × Int × Int × Int × Int)) (a1 : List (Int × Int × Int × Int × Int × Int)) : Option (Bool) := den E k 75 [.c (.l 141 sI6 a0), .c (.l 141 sI6 a1)]
abbrev CleqBatteryS_0 : Type := (List (Int × Int × Int × Int × Int × Int)) × (List (Int × Int × Int × Int × Int × Int))
abbrev VleqBatteryS_0 : Type := Int
def StleqBatteryS_0 (c0 : CleqBatteryS_0) (v0 : VleqBatteryS_0) : St := ⟨27, 0, [(0, .c (.l 141 sI6 c0.1)), (1, .c (.l 141 sI6 c0.2)), (5, .c (.v (.int .i64 v0)))], []⟩
noncomputable def BleqBatteryS_0 {R : Type} (k : Nat) (X0 : VleqBatteryS_0 → (Int × Int × Int × Int × Int × Int) → (Int × Int × Int × Int × Int × Int) → Bool → Option R) (X1 : VleqBatteryS_0 → Option R) (c0 : CleqBatteryS_0) (rec : VleqBatteryS_0 → Option R) (v0 : VleqBatteryS_0) : Option R := if (decide (v0 < (c0.1.length : Int))) = true then if 0 ≤ v0 then ix c0.1 v0.toNat fun x1 => if 0 ≤ v0 then ix c0.2 v0.toNat fun x2 => (FleqBattery k x1 x2).bind fun p3 => if (!p3) = true then X0 v0 x1 x2 p3 else rec (IntKind.i64.wrap (v0 + 1)) else none else none else X1 v0
noncomputable def LleqBatteryS_0 {R : Type} (k : Nat) (X0 : VleqBatteryS_0 → (Int × Int × Int × Int × Int × Int) → (Int × Int × Int × Int × Int × Int) → Bool → Option R) (X1 : VleqBatteryS_0 → Option R) (c : CleqBatteryS_0) : Nat → VleqBatteryS_0 → Option R
  | 0, _ => none
  | n + 1, v => BleqBatteryS_0 k X0 X1 c (LleqBatteryS_0 k X0 X1 c n) v
theorem bleqBatteryS_0 {R : Type} (k n : Nat) (K : Ex → St → Option R) (c0 : CleqBatteryS_0) (v : VleqBatteryS_0) : loopRun [0, 0, 1, 5] (run E (den E k) (lv 75) k (nthLoop Tryz.f75 0)) (n + 1) (StleqBatteryS_0 c0 v) K = BleqBatteryS_0 k (fun (v0 : VleqBatteryS_0) (x1 : Int × Int × Int × Int × Int × Int) (x2 : Int × Int × Int × Int × Int × Int) (p3 : Bool) => K .ret ⟨27, 0, [(0, .c (.l 141 sI6 c0.1)), (1, .c (.l 141 sI6 c0.2)), (4, .c (.v (.bool false))), (5, .c (.v (.int .i64 v0))), (11, .c (.v (.int .i64 v0))), (12, .c (.l 141 sI6 c0.1)), (13, .c (.v (.int .i64 (c0.1.length : Int)))), (14, .c (.v (.bool (decide (v0 < (c0.1.length : Int)))))), (17, .c (.l 141 sI6 c0.1)), (18, .c (.v (.int .i64 v0))), (19, .c (.at_ [.v (.int .i64 x1.1), .v (.int .i64 x1.2.1), .v (.int .i64 x1.2.2.1), .v (.int .i64 x1.2.2.2.1), .v (.int .i64 x1.2.2.2.2.1), .v (.int .i64 x1.2.2.2.2.2)])), (20, .agg [.v (.int .i64 x1.1), .v (.int .i64 x1.2.1), .v (.int .i64 x1.2.2.1), .v (.int .i64 x1.2.2.2.1), .v (.int .i64 x1.2.2.2.2.1), .v (.int .i64 x1.2.2.2.2.2)]), (21, .c (.l 141 sI6 c0.2)), (22, .c (.v (.int .i64 v0))), (23, .c (.at_ [.v (.int .i64 x2.1), .v (.int .i64 x2.2.1), .v (.int .i64 x2.2.2.1), .v (.int .i64 x2.2.2.2.1), .v (.int .i64 x2.2.2.2.2.1), .v (.int .i64 x2.2.2.2.2.2)])), (24, .agg [.v (.int .i64 x2.1), .v (.int .i64 x2.2.1), .v (.int .i64 x2.2.2.1), .v (.int .i64 x2.2.2.2.1), .v (.int .i64 x2.2.2.2.2.1), .v (.int .i64 x2.2.2.2.2.2)]), (25, .c (.v (.bool p3))), (26, .c (.v (.bool (!p3))))], []⟩) (fun (v0 : VleqBatteryS_0) => K (.exit 0) ⟨27, 0, [(0, .c (.l 141 sI6 c0.1)), (1, .c (.l 141 sI6 c0.2)), (5, .c (.v (.int .i64 v0))), (11, .c (.v (.int .i64 v0))), (12, .c (.l 141 sI6 c0.1)), (13, .c (.v (.int .i64 (c0.1.length : Int)))), (14, .c (.v (.bool (decide (v0 < (c0.1.length : Int))))))], []⟩) c0 (fun v => loopRun [0, 0, 1, 5] (run E (den E k) (lv 75) k (nthLoop Tryz.f75 0)) n (StleqBatteryS_0 c0 v) K) v := by kernel_rfl
theorem lleqBatteryS_0 {R : Type} (k : Nat) (K : Ex → St → Option R) (c0 : CleqBatteryS_0) : ∀ (n : Nat) (v : VleqBatteryS_0), loopRun [0, 0, 1, 5] (run E (den E k) (lv 75) k (nthLoop Tryz.f75 0)) n (StleqBatteryS_0 c0 v) K = LleqBatteryS_0 k (fun (v0 : VleqBatteryS_0) (x1 : Int × Int × Int × Int × Int × Int) (x2 : Int × Int × Int × Int × Int × Int) (p3 : Bool) => K .ret ⟨27, 0, [(0, .c (.l 141 sI6 c0.1)), (1, .c (.l 141 sI6 c0.2)), (4, .c (.v (.bool false))), (5, .c (.v (.int .i64 v0))), (11, .c (.v (.int .i64 v0))), (12, .c (.l 141 sI6 c0.1)), (13, .c (.v (.int .i64 (c0.1.length : Int)))), (14, .c (.v (.bool (decide (v0 < (c0.1.length : Int)))))), (17, .c (.l 141 sI6 c0.1)), (18, .c (.v (.int .i64 v0))), (19, .c (.at_ [.v (.int .i64 x1.1), .v (.int .i64 x1.2.1), .v (.int .i64 x1.2.2.1), .v (.int .i64 x1.2.2.2.1), .v (.int .i64 x1.2.2.2.2.1), .v (.int .i64 x1.2.2.2.2.2)])), (20, .agg [.v (.int .i64 x1.1), .v (.int .i64 x1.2.1), .v (.int .i64 x1.2.2.1), .v (.int .i64 x1.2.2.2.1), .v (.int .i64 x1.2.2.2.2.1), .v (.int .i64 x1.2.2.2.2.2)]), (21, .c (.l 141 sI6 c0.2)), (22, .c (.v (.int .i64 v0))), (23, .c (.at_ [.v (.int .i64 x2.1), .v (.int .i64 x2.2.1), .v (.int .i64 x2.2.2.1), .v (.int .i64 x2.2.2.2.1), .v (.int .i64 x2.2.2.2.2.1), .v (.int .i64 x2.2.2.2.2.2)])), (24, .agg [.v (.int .i64 x2.1), .v (.int .i64 x2.2.1), .v (.int .i64 x2.2.2.1), .v (.int .i64 x2.2.2.2.1), .v (.int .i64 x2.2.2.2.2.1), .v (.int .i64 x2.2.2.2.2.2)]), (25, .c (.v (.bool p3))), (26, .c (.v (.bool (!p3))))], []⟩) (fun (v0 : VleqBatteryS_0) => K (.exit 0) ⟨27, 0, [(0, .c (.l 141 sI6 c0.1)), (1, .c (.l 141 sI6 c0.2)), (5, .c (.v (.int .i64 v0))), (11, .c (.v (.int .i64 v0))), (12, .c (.l 141 sI6 c0.1)), (13, .c (.v (.int .i64 (c0.1.length : Int)))), (14, .c (.v (.bool (decide (v0 < (c0.1.length : Int))))))], []⟩) c0 n v := by
  intro n
  induction n with
  | zero => intro v; rfl
  | succ n ih =>
    intro v
    refine (bleqBatteryS_0 k n K c0 v).trans ?_
    rw [funext ih]
    kernel_rfl
theorem mleqBatteryS_0 (k : Nat) (a0 : List (Int × Int × Int × Int × Int × Int)) (a1 : List (Int × Int × Int × Int × Int × Int)) : FleqBatteryS (k + 1) a0 a1 = if ((a0.length : Int) != (a1.length : Int)) = true then some false else loopRun (R := Bool) [0, 0, 1, 5] (run E (den E k) (lv 75) k (nthLoop Tryz.f75 0)) k (StleqBatteryS_0 (a0, a1) 0) (kontAt E (den E k) (lv 75) k (bodyOf Tryz.f75) 0 [] (finish E (rs 75) Tryz.f75 : Ex → St → Option (Bool))) := by kernel_rfl
theorem eleqBatteryS (k : Nat) (a0 : List (Int × Int × Int × Int × Int × Int)) (a1 : List (Int × Int × Int × Int × Int × Int)) : FleqBatteryS (k + 1) a0 a1 = if ((a0.length : Int) != (a1.length : Int)) = true then some false else LleqBatteryS_0 k (fun (v0 : Int) (x1 : Int × Int × Int × Int × Int × Int) (x2 : Int × Int × Int × Int × Int × Int) (p3 : Bool) => some false) (fun (v0 : Int) => some true) (a0, a1) k 0 := by
  rw [mleqBatteryS_0]
  simp only [lleqBatteryS_0]
  kernel_rfl
/-! loop.example/g00599/laws.eqFault -/
noncomputable def FleqFault (k : Nat) (a0 : Int × Int × Int × Int) (a1 : Int × Int × Int × Int) : Option (Bool) := den E k 166 [.agg [.v (.int .i64 a0.1), .v (.int .i64 a0.2.1), .v (.int .i64 a0.2.2.1), .v (.int .i64 a0.2.2.2)], .agg [.v (.int .i64 a1.1), .v (.int .i64 a1.2.1), .v (.int .i64 a1.2.2.1), .v (.int .i64 a1.2.2.2)]]
theorem eleqFault (k : Nat) (a0 : Int × Int × Int × Int) (a1 : Int × Int × Int × Int) : FleqFault (k + 1) a0 a1 = if (a0.1 != a1.1) = true then some false else if (a0.2.1 != a1.2.1) = true then some false else if (a0.2.2.1 != a1.2.2.1) = true then some false else if (a0.2.2.2 != a1.2.2.2) = true then some false else some true := by kernel_rfl
/-! loop.example/g00599/laws.eqFaultS -/
noncomputable def FleqFaultS (k : Nat) (a0 : List (Int × Int × Int × Int)) (a1 : List (Int × Int × Int × Int)) : Option (Bool) := den E k 79 [.c (.l 79 sI4 a0), .c (.l 79 sI4 a1)]
abbrev CleqFaultS_0 : Type := (List (Int × Int × Int × Int)) × (List (Int × Int × Int × Int))
abbrev VleqFaultS_0 : Type := Int
def StleqFaultS_0 (c0 : CleqFaultS_0) (v0 : VleqFaultS_0) : St := ⟨27, 0, [(0, .c (.l 79 sI4 c0.1)), (1, .c (.l 79 sI4 c0.2)), (5, .c (.v (.int .i64 v0)))], []⟩
noncomputable def BleqFaultS_0 {R : Type} (k : Nat) (X0 : VleqFaultS_0 → (Int × Int × Int × Int) → (Int × Int × Int × Int) → Bool → Option R) (X1 : VleqFaultS_0 → Option R) (c0 : CleqFaultS_0) (rec : VleqFaultS_0 → Option R) (v0 : VleqFaultS_0) : Option R := if (decide (v0 < (c0.1.length : Int))) = true then if 0 ≤ v0 then ix c0.1 v0.toNat fun x1 => if 0 ≤ v0 then ix c0.2 v0.toNat fun x2 => (FleqFault k x1 x2).bind fun p3 => if (!p3) = true then X0 v0 x1 x2 p3 else rec (IntKind.i64.wrap (v0 + 1)) else none else none else X1 v0
noncomputable def LleqFaultS_0 {R : Type} (k : Nat) (X0 : VleqFaultS_0 → (Int × Int × Int × Int) → (Int × Int × Int × Int) → Bool → Option R) (X1 : VleqFaultS_0 → Option R) (c : CleqFaultS_0) : Nat → VleqFaultS_0 → Option R
  | 0, _ => none
  | n + 1, v => BleqFaultS_0 k X0 X1 c (LleqFaultS_0 k X0 X1 c n) v
theorem bleqFaultS_0 {R : Type} (k n : Nat) (K : Ex → St → Option R) (c0 : CleqFaultS_0) (v : VleqFaultS_0) : loopRun [0, 0, 1, 5] (run E (den E k) (lv 79) k (nthLoop Tryz.f79 0)) (n + 1) (StleqFaultS_0 c0 v) K = BleqFaultS_0 k (fun (v0 : VleqFaultS_0) (x1 : Int × Int × Int × Int) (x2 : Int × Int × Int × Int) (p3 : Bool) => K .ret ⟨27, 0, [(0, .c (.l 79 sI4 c0.1)), (1, .c (.l 79 sI4 c0.2)), (4, .c (.v (.bool false))), (5, .c (.v (.int .i64 v0))), (11, .c (.v (.int .i64 v0))), (12, .c (.l 79 sI4 c0.1)), (13, .c (.v (.int .i64 (c0.1.length : Int)))), (14, .c (.v (.bool (decide (v0 < (c0.1.length : Int)))))), (17, .c (.l 79 sI4 c0.1)), (18, .c (.v (.int .i64 v0))), (19, .c (.at_ [.v (.int .i64 x1.1), .v (.int .i64 x1.2.1), .v (.int .i64 x1.2.2.1), .v (.int .i64 x1.2.2.2)])), (20, .agg [.v (.int .i64 x1.1), .v (.int .i64 x1.2.1), .v (.int .i64 x1.2.2.1), .v (.int .i64 x1.2.2.2)]), (21, .c (.l 79 sI4 c0.2)), (22, .c (.v (.int .i64 v0))), (23, .c (.at_ [.v (.int .i64 x2.1), .v (.int .i64 x2.2.1), .v (.int .i64 x2.2.2.1), .v (.int .i64 x2.2.2.2)])), (24, .agg [.v (.int .i64 x2.1), .v (.int .i64 x2.2.1), .v (.int .i64 x2.2.2.1), .v (.int .i64 x2.2.2.2)]), (25, .c (.v (.bool p3))), (26, .c (.v (.bool (!p3))))], []⟩) (fun (v0 : VleqFaultS_0) => K (.exit 0) ⟨27, 0, [(0, .c (.l 79 sI4 c0.1)), (1, .c (.l 79 sI4 c0.2)), (5, .c (.v (.int .i64 v0))), (11, .c (.v (.int .i64 v0))), (12, .c (.l 79 sI4 c0.1)), (13, .c (.v (.int .i64 (c0.1.length : Int)))), (14, .c (.v (.bool (decide (v0 < (c0.1.length : Int))))))], []⟩) c0 (fun v => loopRun [0, 0, 1, 5] (run E (den E k) (lv 79) k (nthLoop Tryz.f79 0)) n (StleqFaultS_0 c0 v) K) v := by kernel_rfl
theorem lleqFaultS_0 {R : Type} (k : Nat) (K : Ex → St → Option R) (c0 : CleqFaultS_0) : ∀ (n : Nat) (v : VleqFaultS_0), loopRun [0, 0, 1, 5] (run E (den E k) (lv 79) k (nthLoop Tryz.f79 0)) n (StleqFaultS_0 c0 v) K = LleqFaultS_0 k (fun (v0 : VleqFaultS_0) (x1 : Int × Int × Int × Int) (x2 : Int × Int × Int × Int) (p3 : Bool) => K .ret ⟨27, 0, [(0, .c (.l 79 sI4 c0.1)), (1, .c (.l 79 sI4 c0.2)), (4, .c (.v (.bool false))), (5, .c (.v (.int .i64 v0))), (11, .c (.v (.int .i64 v0))), (12, .c (.l 79 sI4 c0.1)), (13, .c (.v (.int .i64 (c0.1.length : Int)))), (14, .c (.v (.bool (decide (v0 < (c0.1.length : Int)))))), (17, .c (.l 79 sI4 c0.1)), (18, .c (.v (.int .i64 v0))), (19, .c (.at_ [.v (.int .i64 x1.1), .v (.int .i64 x1.2.1), .v (.int .i64 x1.2.2.1), .v (.int .i64 x1.2.2.2)])), (20, .agg [.v (.int .i64 x1.1), .v (.int .i64 x1.2.1), .v (.int .i64 x1.2.2.1), .v (.int .i64 x1.2.2.2)]), (21, .c (.l 79 sI4 c0.2)), (22, .c (.v (.int .i64 v0))), (23, .c (.at_ [.v (.int .i64 x2.1), .v (.int .i64 x2.2.1), .v (.int .i64 x2.2.2.1), .v (.int .i64 x2.2.2.2)])), (24, .agg [.v (.int .i64 x2.1), .v (.int .i64 x2.2.1), .v (.int .i64 x2.2.2.1), .v (.int .i64 x2.2.2.2)]), (25, .c (.v (.bool p3))), (26, .c (.v (.bool (!p3))))], []⟩) (fun (v0 : VleqFaultS_0) => K (.exit 0) ⟨27, 0, [(0, .c (.l 79 sI4 c0.1)), (1, .c (.l 79 sI4 c0.2)), (5, .c (.v (.int .i64 v0))), (11, .c (.v (.int .i64 v0))), (12, .c (.l 79 sI4 c0.1)), (13, .c (.v (.int .i64 (c0.1.length : Int)))), (14, .c (.v (.bool (decide (v0 < (c0.1.length : Int))))))], []⟩) c0 n v := by
  intro n
  induction n with
  | zero => intro v; rfl
  | succ n ih =>
    intro v
    refine (bleqFaultS_0 k n K c0 v).trans ?_
    rw [funext ih]
    kernel_rfl
theorem mleqFaultS_0 (k : Nat) (a0 : List (Int × Int × Int × Int)) (a1 : List (Int × Int × Int × Int)) : FleqFaultS (k + 1) a0 a1 = if ((a0.length : Int) != (a1.length : Int)) = true then some false else loopRun (R := Bool) [0, 0, 1, 5] (run E (den E k) (lv 79) k (nthLoop Tryz.f79 0)) k (StleqFaultS_0 (a0, a1) 0) (kontAt E (den E k) (lv 79) k (bodyOf Tryz.f79) 0 [] (finish E (rs 79) Tryz.f79 : Ex → St → Option (Bool))) := by kernel_rfl
theorem eleqFaultS (k : Nat) (a0 : List (Int × Int × Int × Int)) (a1 : List (Int × Int × Int × Int)) : FleqFaultS (k + 1) a0 a1 = if ((a0.length : Int) != (a1.length : Int)) = true then some false else LleqFaultS_0 k (fun (v0 : Int) (x1 : Int × Int × Int × Int) (x2 : Int × Int × Int × Int) (p3 : Bool) => some false) (fun (v0 : Int) => some true) (a0, a1) k 0 := by
  rw [mleqFaultS_0]
  simp only [lleqFaultS_0]
  kernel_rfl
/-! loop.example/g00599/laws.eqFlow -/
noncomputable def FleqFlow (k : Nat) (a0 : Int × Int × Int × Int) (a1 : Int × Int × Int × Int) : Option (Bool) := den E k 164 [.agg [.v (.int .i64 a0.1), .v (.int .i64 a0.2.1), .v (.int .i64 a0.2.2.1), .v (.int .i64 a0.2.2.2)], .agg [.v (.int .i64 a1.1), .v (.int .i64 a1.2.1), .v (.int .i64 a1.2.2.1), .v (.int .i64 a1.2.2.2)]]
theorem eleqFlow (k : Nat) (a0 : Int × Int × Int × Int) (a1 : Int × Int × Int × Int) : FleqFlow (k + 1) a0 a1 = if (a0.1 != a1.1) = true then some false else if (a0.2.1 != a1.2.1) = true then some false else if (a0.2.2.1 != a1.2.2.1) = true then some false else if (a0.2.2.2 != a1.2.2.2) = true then some false else some true := by kernel_rfl
/-! loop.example/g00599/laws.eqFlowS -/
noncomputable def FleqFlowS (k : Nat) (a0 : List (Int × Int × Int × Int)) (a1 : List (Int × Int × Int × Int)) : Option (Bool) := den E k 77 [.c (.l 86 sI4 a0), .c (.l 86 sI4 a1)]
abbrev CleqFlowS_0 : Type := (List (Int × Int × Int × Int)) × (List (Int × Int × Int × Int))
abbrev VleqFlowS_0 : Type := Int
def StleqFlowS_0 (c0 : CleqFlowS_0) (v0 : VleqFlowS_0) : St := ⟨27, 0, [(0, .c (.l 86 sI4 c0.1)), (1, .c (.l 86 sI4 c0.2)), (5, .c (.v (.int .i64 v0)))], []⟩
noncomputable def BleqFlowS_0 {R : Type} (k : Nat) (X0 : VleqFlowS_0 → (Int × Int × Int × Int) → (Int × Int × Int × Int) → Bool → Option R) (X1 : VleqFlowS_0 → Option R) (c0 : CleqFlowS_0) (rec : VleqFlowS_0 → Option R) (v0 : VleqFlowS_0) : Option R := if (decide (v0 < (c0.1.length : Int))) = true then if 0 ≤ v0 then ix c0.1 v0.toNat fun x1 => if 0 ≤ v0 then ix c0.2 v0.toNat fun x2 => (FleqFlow k x1 x2).bind fun p3 => if (!p3) = true then X0 v0 x1 x2 p3 else rec (IntKind.i64.wrap (v0 + 1)) else none else none else X1 v0
noncomputable def LleqFlowS_0 {R : Type} (k : Nat) (X0 : VleqFlowS_0 → (Int × Int × Int × Int) → (Int × Int × Int × Int) → Bool → Option R) (X1 : VleqFlowS_0 → Option R) (c : CleqFlowS_0) : Nat → VleqFlowS_0 → Option R
  | 0, _ => none
  | n + 1, v => BleqFlowS_0 k X0 X1 c (LleqFlowS_0 k X0 X1 c n) v
theorem bleqFlowS_0 {R : Type} (k n : Nat) (K : Ex → St → Option R) (c0 : CleqFlowS_0) (v : VleqFlowS_0) : loopRun [0, 0, 1, 5] (run E (den E k) (lv 77) k (nthLoop Tryz.f77 0)) (n + 1) (StleqFlowS_0 c0 v) K = BleqFlowS_0 k (fun (v0 : VleqFlowS_0) (x1 : Int × Int × Int × Int) (x2 : Int × Int × Int × Int) (p3 : Bool) => K .ret ⟨27, 0, [(0, .c (.l 86 sI4 c0.1)), (1, .c (.l 86 sI4 c0.2)), (4, .c (.v (.bool false))), (5, .c (.v (.int .i64 v0))), (11, .c (.v (.int .i64 v0))), (12, .c (.l 86 sI4 c0.1)), (13, .c (.v (.int .i64 (c0.1.length : Int)))), (14, .c (.v (.bool (decide (v0 < (c0.1.length : Int)))))), (17, .c (.l 86 sI4 c0.1)), (18, .c (.v (.int .i64 v0))), (19, .c (.at_ [.v (.int .i64 x1.1), .v (.int .i64 x1.2.1), .v (.int .i64 x1.2.2.1), .v (.int .i64 x1.2.2.2)])), (20, .agg [.v (.int .i64 x1.1), .v (.int .i64 x1.2.1), .v (.int .i64 x1.2.2.1), .v (.int .i64 x1.2.2.2)]), (21, .c (.l 86 sI4 c0.2)), (22, .c (.v (.int .i64 v0))), (23, .c (.at_ [.v (.int .i64 x2.1), .v (.int .i64 x2.2.1), .v (.int .i64 x2.2.2.1), .v (.int .i64 x2.2.2.2)])), (24, .agg [.v (.int .i64 x2.1), .v (.int .i64 x2.2.1), .v (.int .i64 x2.2.2.1), .v (.int .i64 x2.2.2.2)]), (25, .c (.v (.bool p3))), (26, .c (.v (.bool (!p3))))], []⟩) (fun (v0 : VleqFlowS_0) => K (.exit 0) ⟨27, 0, [(0, .c (.l 86 sI4 c0.1)), (1, .c (.l 86 sI4 c0.2)), (5, .c (.v (.int .i64 v0))), (11, .c (.v (.int .i64 v0))), (12, .c (.l 86 sI4 c0.1)), (13, .c (.v (.int .i64 (c0.1.length : Int)))), (14, .c (.v (.bool (decide (v0 < (c0.1.length : Int))))))], []⟩) c0 (fun v => loopRun [0, 0, 1, 5] (run E (den E k) (lv 77) k (nthLoop Tryz.f77 0)) n (StleqFlowS_0 c0 v) K) v := by kernel_rfl
theorem lleqFlowS_0 {R : Type} (k : Nat) (K : Ex → St → Option R) (c0 : CleqFlowS_0) : ∀ (n : Nat) (v : VleqFlowS_0), loopRun [0, 0, 1, 5] (run E (den E k) (lv 77) k (nthLoop Tryz.f77 0)) n (StleqFlowS_0 c0 v) K = LleqFlowS_0 k (fun (v0 : VleqFlowS_0) (x1 : Int × Int × Int × Int) (x2 : Int × Int × Int × Int) (p3 : Bool) => K .ret ⟨27, 0, [(0, .c (.l 86 sI4 c0.1)), (1, .c (.l 86 sI4 c0.2)), (4, .c (.v (.bool false))), (5, .c (.v (.int .i64 v0))), (11, .c (.v (.int .i64 v0))), (12, .c (.l 86 sI4 c0.1)), (13, .c (.v (.int .i64 (c0.1.length : Int)))), (14, .c (.v (.bool (decide (v0 < (c0.1.length : Int)))))), (17, .c (.l 86 sI4 c0.1)), (18, .c (.v (.int .i64 v0))), (19, .c (.at_ [.v (.int .i64 x1.1), .v (.int .i64 x1.2.1), .v (.int .i64 x1.2.2.1), .v (.int .i64 x1.2.2.2)])), (20, .agg [.v (.int .i64 x1.1), .v (.int .i64 x1.2.1), .v (.int .i64 x1.2.2.1), .v (.int .i64 x1.2.2.2)]), (21, .c (.l 86 sI4 c0.2)), (22, .c (.v (.int .i64 v0))), (23, .c (.at_ [.v (.int .i64 x2.1), .v (.int .i64 x2.2.1), .v (.int .i64 x2.2.2.1), .v (.int .i64 x2.2.2.2)])), (24, .agg [.v (.int .i64 x2.1), .v (.int .i64 x2.2.1), .v (.int .i64 x2.2.2.1), .v (.int .i64 x2.2.2.2)]), (25, .c (.v (.bool p3))), (26, .c (.v (.bool (!p3))))], []⟩) (fun (v0 : VleqFlowS_0) => K (.exit 0) ⟨27, 0, [(0, .c (.l 86 sI4 c0.1)), (1, .c (.l 86 sI4 c0.2)), (5, .c (.v (.int .i64 v0))), (11, .c (.v (.int .i64 v0))), (12, .c (.l 86 sI4 c0.1)), (13, .c (.v (.int .i64 (c0.1.length : Int)))), (14, .c (.v (.bool (decide (v0 < (c0.1.length : Int))))))], []⟩) c0 n v := by
  intro n
  induction n with
  | zero => intro v; rfl
  | succ n ih =>
    intro v
    refine (bleqFlowS_0 k n K c0 v).trans ?_
    rw [funext ih]
    kernel_rfl
theorem mleqFlowS_0 (k : Nat) (a0 : List (Int × Int × Int × Int)) (a1 : List (Int × Int × Int × Int)) : FleqFlowS (k + 1) a0 a1 = if ((a0.length : Int) != (a1.length : Int)) = true then some false else loopRun (R := Bool) [0, 0, 1, 5] (run E (den E k) (lv 77) k (nthLoop Tryz.f77 0)) k (StleqFlowS_0 (a0, a1) 0) (kontAt E (den E k) (lv 77) k (bodyOf Tryz.f77) 0 [] (finish E (rs 77) Tryz.f77 : Ex → St → Option (Bool))) := by kernel_rfl
theorem eleqFlowS (k : Nat) (a0 : List (Int × Int × Int × Int)) (a1 : List (Int × Int × Int × Int)) : FleqFlowS (k + 1) a0 a1 = if ((a0.length : Int) != (a1.length : Int)) = true then some false else LleqFlowS_0 k (fun (v0 : Int) (x1 : Int × Int × Int × Int) (x2 : Int × Int × Int × Int) (p3 : Bool) => some false) (fun (v0 : Int) => some true) (a0, a1) k 0 := by
  rw [mleqFlowS_0]
  simp only [lleqFlowS_0]
  kernel_rfl
/-! loop.example/g00599/laws.eqLaw -/
noncomputable def FleqLaw (k : Nat) (a0 : List Int) (a1 : List Int) : Option (Bool) := den E k 74 [.agg [.l 3 (.i .i64) a0], .agg [.l 3 (.i .i64) a1]]
theorem eleqLaw (k : Nat) (a0 : List Int) (a1 : List Int) : FleqLaw (k + 1) a0 a1 = (FleqIntS k a0 a1).bind fun p1 => if (!p1) = true then some false else some true := by kernel_rfl
/-! loop.example/g00599/laws.eqPacket -/
noncomputable def FleqPacket (k : Nat) (a0 : Int × Int × Int × Int × Int × Int) (a1 : Int × Int × Int × Int × Int × Int) : Option (Bool) := den E k 167 [.agg [.v (.int .i64 a0.1), .v (.int .i64 a0.2.1), .v (.int .i64 a0.2.2.1), .v (.int .i64 a0.2.2.2.1), .v (.int .i64 a0.2.2.2.2.1), .v (.int .i64 a0.2.2.2.2.2)], .agg [.v (.int .i64 a1.1), .v (.int .i64 a1.2.1), .v (.int .i64 a1.2.2.1), .v (.int .i64 a1.2.2.2.1), .v (.int .i64 a1.2.2.2.2.1), .v (.int .i64 a1.2.2.2.2.2)]]
theorem eleqPacket (k : Nat) (a0 : Int × Int × Int × Int × Int × Int) (a1 : Int × Int × Int × Int × Int × Int) : FleqPacket (k + 1) a0 a1 = if (a0.1 != a1.1) = true then some false else if (a0.2.1 != a1.2.1) = true then some false else if (a0.2.2.1 != a1.2.2.1) = true then some false else if (a0.2.2.2.1 != a1.2.2.2.1) = true then some false else if (a0.2.2.2.2.1 != a1.2.2.2.2.1) = true then some false else if (a0.2.2.2.2.2 != a1.2.2.2.2.2) = true then some false else some true := by kernel_rfl
/-! loop.example/g00599/laws.eqPacketS -/
noncomputable def FleqPacketS (k : Nat) (a0 : List (Int × Int × Int × Int × Int × Int)) (a1 : List (Int × Int × Int × Int × Int × Int)) : Option (Bool) := den E k 80 [.c (.l 155 sI6 a0), .c (.l 155 sI6 a1)]
abbrev CleqPacketS_0 : Type := (List (Int × Int × Int × Int × Int × Int)) × (List (Int × Int × Int × Int × Int × Int))
abbrev VleqPacketS_0 : Type := Int
def StleqPacketS_0 (c0 : CleqPacketS_0) (v0 : VleqPacketS_0) : St := ⟨27, 0, [(0, .c (.l 155 sI6 c0.1)), (1, .c (.l 155 sI6 c0.2)), (5, .c (.v (.int .i64 v0)))], []⟩
noncomputable def BleqPacketS_0 {R : Type} (k : Nat) (X0 : VleqPacketS_0 → (Int × Int × Int × Int × Int × Int) → (Int × Int × Int × Int × Int × Int) → Bool → Option R) (X1 : VleqPacketS_0 → Option R) (c0 : CleqPacketS_0) (rec : VleqPacketS_0 → Option R) (v0 : VleqPacketS_0) : Option R := if (decide (v0 < (c0.1.length : Int))) = true then if 0 ≤ v0 then ix c0.1 v0.toNat fun x1 => if 0 ≤ v0 then ix c0.2 v0.toNat fun x2 => (FleqPacket k x1 x2).bind fun p3 => if (!p3) = true then X0 v0 x1 x2 p3 else rec (IntKind.i64.wrap (v0 + 1)) else none else none else X1 v0
noncomputable def LleqPacketS_0 {R : Type} (k : Nat) (X0 : VleqPacketS_0 → (Int × Int × Int × Int × Int × Int) → (Int × Int × Int × Int × Int × Int) → Bool → Option R) (X1 : VleqPacketS_0 → Option R) (c : CleqPacketS_0) : Nat → VleqPacketS_0 → Option R
  | 0, _ => none
  | n + 1, v => BleqPacketS_0 k X0 X1 c (LleqPacketS_0 k X0 X1 c n) v
theorem bleqPacketS_0 {R : Type} (k n : Nat) (K : Ex → St → Option R) (c0 : CleqPacketS_0) (v : VleqPacketS_0) : loopRun [0, 0, 1, 5] (run E (den E k) (lv 80) k (nthLoop Tryz.f80 0)) (n + 1) (StleqPacketS_0 c0 v) K = BleqPacketS_0 k (fun (v0 : VleqPacketS_0) (x1 : Int × Int × Int × Int × Int × Int) (x2 : Int × Int × Int × Int × Int × Int) (p3 : Bool) => K .ret ⟨27, 0, [(0, .c (.l 155 sI6 c0.1)), (1, .c (.l 155 sI6 c0.2)), (4, .c (.v (.bool false))), (5, .c (.v (.int .i64 v0))), (11, .c (.v (.int .i64 v0))), (12, .c (.l 155 sI6 c0.1)), (13, .c (.v (.int .i64 (c0.1.length : Int)))), (14, .c (.v (.bool (decide (v0 < (c0.1.length : Int)))))), (17, .c (.l 155 sI6 c0.1)), (18, .c (.v (.int .i64 v0))), (19, .c (.at_ [.v (.int .i64 x1.1), .v (.int .i64 x1.2.1), .v (.int .i64 x1.2.2.1), .v (.int .i64 x1.2.2.2.1), .v (.int .i64 x1.2.2.2.2.1), .v (.int .i64 x1.2.2.2.2.2)])), (20, .agg [.v (.int .i64 x1.1), .v (.int .i64 x1.2.1), .v (.int .i64 x1.2.2.1), .v (.int .i64 x1.2.2.2.1), .v (.int .i64 x1.2.2.2.2.1), .v (.int .i64 x1.2.2.2.2.2)]), (21, .c (.l 155 sI6 c0.2)), (22, .c (.v (.int .i64 v0))), (23, .c (.at_ [.v (.int .i64 x2.1), .v (.int .i64 x2.2.1), .v (.int .i64 x2.2.2.1), .v (.int .i64 x2.2.2.2.1), .v (.int .i64 x2.2.2.2.2.1), .v (.int .i64 x2.2.2.2.2.2)])), (24, .agg [.v (.int .i64 x2.1), .v (.int .i64 x2.2.1), .v (.int .i64 x2.2.2.1), .v (.int .i64 x2.2.2.2.1), .v (.int .i64 x2.2.2.2.2.1), .v (.int .i64 x2.2.2.2.2.2)]), (25, .c (.v (.bool p3))), (26, .c (.v (.bool (!p3))))], []⟩) (fun (v0 : VleqPacketS_0) => K (.exit 0) ⟨27, 0, [(0, .c (.l 155 sI6 c0.1)), (1, .c (.l 155 sI6 c0.2)), (5, .c (.v (.int .i64 v0))), (11, .c (.v (.int .i64 v0))), (12, .c (.l 155 sI6 c0.1)), (13, .c (.v (.int .i64 (c0.1.length : Int)))), (14, .c (.v (.bool (decide (v0 < (c0.1.length : Int))))))], []⟩) c0 (fun v => loopRun [0, 0, 1, 5] (run E (den E k) (lv 80) k (nthLoop Tryz.f80 0)) n (StleqPacketS_0 c0 v) K) v := by kernel_rfl
theorem lleqPacketS_0 {R : Type} (k : Nat) (K : Ex → St → Option R) (c0 : CleqPacketS_0) : ∀ (n : Nat) (v : VleqPacketS_0), loopRun [0, 0, 1, 5] (run E (den E k) (lv 80) k (nthLoop Tryz.f80 0)) n (StleqPacketS_0 c0 v) K = LleqPacketS_0 k (fun (v0 : VleqPacketS_0) (x1 : Int × Int × Int × Int × Int × Int) (x2 : Int × Int × Int × Int × Int × Int) (p3 : Bool) => K .ret ⟨27, 0, [(0, .c (.l 155 sI6 c0.1)), (1, .c (.l 155 sI6 c0.2)), (4, .c (.v (.bool false))), (5, .c (.v (.int .i64 v0))), (11, .c (.v (.int .i64 v0))), (12, .c (.l 155 sI6 c0.1)), (13, .c (.v (.int .i64 (c0.1.length : Int)))), (14, .c (.v (.bool (decide (v0 < (c0.1.length : Int)))))), (17, .c (.l 155 sI6 c0.1)), (18, .c (.v (.int .i64 v0))), (19, .c (.at_ [.v (.int .i64 x1.1), .v (.int .i64 x1.2.1), .v (.int .i64 x1.2.2.1), .v (.int .i64 x1.2.2.2.1), .v (.int .i64 x1.2.2.2.2.1), .v (.int .i64 x1.2.2.2.2.2)])), (20, .agg [.v (.int .i64 x1.1), .v (.int .i64 x1.2.1), .v (.int .i64 x1.2.2.1), .v (.int .i64 x1.2.2.2.1), .v (.int .i64 x1.2.2.2.2.1), .v (.int .i64 x1.2.2.2.2.2)]), (21, .c (.l 155 sI6 c0.2)), (22, .c (.v (.int .i64 v0))), (23, .c (.at_ [.v (.int .i64 x2.1), .v (.int .i64 x2.2.1), .v (.int .i64 x2.2.2.1), .v (.int .i64 x2.2.2.2.1), .v (.int .i64 x2.2.2.2.2.1), .v (.int .i64 x2.2.2.2.2.2)])), (24, .agg [.v (.int .i64 x2.1), .v (.int .i64 x2.2.1), .v (.int .i64 x2.2.2.1), .v (.int .i64 x2.2.2.2.1), .v (.int .i64 x2.2.2.2.2.1), .v (.int .i64 x2.2.2.2.2.2)]), (25, .c (.v (.bool p3))), (26, .c (.v (.bool (!p3))))], []⟩) (fun (v0 : VleqPacketS_0) => K (.exit 0) ⟨27, 0, [(0, .c (.l 155 sI6 c0.1)), (1, .c (.l 155 sI6 c0.2)), (5, .c (.v (.int .i64 v0))), (11, .c (.v (.int .i64 v0))), (12, .c (.l 155 sI6 c0.1)), (13, .c (.v (.int .i64 (c0.1.length : Int)))), (14, .c (.v (.bool (decide (v0 < (c0.1.length : Int))))))], []⟩) c0 n v := by
  intro n
  induction n with
  | zero => intro v; rfl
  | succ n ih =>
    intro v
    refine (bleqPacketS_0 k n K c0 v).trans ?_
    rw [funext ih]
    kernel_rfl
theorem mleqPacketS_0 (k : Nat) (a0 : List (Int × Int × Int × Int × Int × Int)) (a1 : List (Int × Int × Int × Int × Int × Int)) : FleqPacketS (k + 1) a0 a1 = if ((a0.length : Int) != (a1.length : Int)) = true then some false else loopRun (R := Bool) [0, 0, 1, 5] (run E (den E k) (lv 80) k (nthLoop Tryz.f80 0)) k (StleqPacketS_0 (a0, a1) 0) (kontAt E (den E k) (lv 80) k (bodyOf Tryz.f80) 0 [] (finish E (rs 80) Tryz.f80 : Ex → St → Option (Bool))) := by kernel_rfl
theorem eleqPacketS (k : Nat) (a0 : List (Int × Int × Int × Int × Int × Int)) (a1 : List (Int × Int × Int × Int × Int × Int)) : FleqPacketS (k + 1) a0 a1 = if ((a0.length : Int) != (a1.length : Int)) = true then some false else LleqPacketS_0 k (fun (v0 : Int) (x1 : Int × Int × Int × Int × Int × Int) (x2 : Int × Int × Int × Int × Int × Int) (p3 : Bool) => some false) (fun (v0 : Int) => some true) (a0, a1) k 0 := by
  rw [mleqPacketS_0]
  simp only [lleqPacketS_0]
  kernel_rfl
/-! loop.example/g00599/laws.eqLink -/
noncomputable def FleqLink (k : Nat) (a0 : Int × Int) (a1 : Int × Int) : Option (Bool) := den E k 335 [.agg [.v (.int .i64 a0.1), .v (.int .i64 a0.2)], .agg [.v (.int .i64 a1.1), .v (.int .i64 a1.2)]]
theorem eleqLink (k : Nat) (a0 : Int × Int) (a1 : Int × Int) : FleqLink (k + 1) a0 a1 = if (a0.1 != a1.1) = true then some false else if (a0.2 != a1.2) = true then some false else some true := by kernel_rfl
/-! loop.example/g00599/laws.eqLinkS -/
noncomputable def FleqLinkS (k : Nat) (a0 : List (Int × Int)) (a1 : List (Int × Int)) : Option (Bool) := den E k 308 [.c (.l 317 sI2 a0), .c (.l 317 sI2 a1)]
abbrev CleqLinkS_0 : Type := (List (Int × Int)) × (List (Int × Int))
abbrev VleqLinkS_0 : Type := Int
def StleqLinkS_0 (c0 : CleqLinkS_0) (v0 : VleqLinkS_0) : St := ⟨27, 0, [(0, .c (.l 317 sI2 c0.1)), (1, .c (.l 317 sI2 c0.2)), (5, .c (.v (.int .i64 v0)))], []⟩
noncomputable def BleqLinkS_0 {R : Type} (k : Nat) (X0 : VleqLinkS_0 → (Int × Int) → (Int × Int) → Bool → Option R) (X1 : VleqLinkS_0 → Option R) (c0 : CleqLinkS_0) (rec : VleqLinkS_0 → Option R) (v0 : VleqLinkS_0) : Option R := if (decide (v0 < (c0.1.length : Int))) = true then if 0 ≤ v0 then ix c0.1 v0.toNat fun x1 => if 0 ≤ v0 then ix c0.2 v0.toNat fun x2 => (FleqLink k x1 x2).bind fun p3 => if (!p3) = true then X0 v0 x1 x2 p3 else rec (IntKind.i64.wrap (v0 + 1)) else none else none else X1 v0
noncomputable def LleqLinkS_0 {R : Type} (k : Nat) (X0 : VleqLinkS_0 → (Int × Int) → (Int × Int) → Bool → Option R) (X1 : VleqLinkS_0 → Option R) (c : CleqLinkS_0) : Nat → VleqLinkS_0 → Option R
  | 0, _ => none
  | n + 1, v => BleqLinkS_0 k X0 X1 c (LleqLinkS_0 k X0 X1 c n) v
theorem bleqLinkS_0 {R : Type} (k n : Nat) (K : Ex → St → Option R) (c0 : CleqLinkS_0) (v : VleqLinkS_0) : loopRun [0, 0, 1, 5] (run E (den E k) (lv 308) k (nthLoop Tryz.f308 0)) (n + 1) (StleqLinkS_0 c0 v) K = BleqLinkS_0 k (fun (v0 : VleqLinkS_0) (x1 : Int × Int) (x2 : Int × Int) (p3 : Bool) => K .ret ⟨27, 0, [(0, .c (.l 317 sI2 c0.1)), (1, .c (.l 317 sI2 c0.2)), (4, .c (.v (.bool false))), (5, .c (.v (.int .i64 v0))), (11, .c (.v (.int .i64 v0))), (12, .c (.l 317 sI2 c0.1)), (13, .c (.v (.int .i64 (c0.1.length : Int)))), (14, .c (.v (.bool (decide (v0 < (c0.1.length : Int)))))), (17, .c (.l 317 sI2 c0.1)), (18, .c (.v (.int .i64 v0))), (19, .c (.at_ [.v (.int .i64 x1.1), .v (.int .i64 x1.2)])), (20, .agg [.v (.int .i64 x1.1), .v (.int .i64 x1.2)]), (21, .c (.l 317 sI2 c0.2)), (22, .c (.v (.int .i64 v0))), (23, .c (.at_ [.v (.int .i64 x2.1), .v (.int .i64 x2.2)])), (24, .agg [.v (.int .i64 x2.1), .v (.int .i64 x2.2)]), (25, .c (.v (.bool p3))), (26, .c (.v (.bool (!p3))))], []⟩) (fun (v0 : VleqLinkS_0) => K (.exit 0) ⟨27, 0, [(0, .c (.l 317 sI2 c0.1)), (1, .c (.l 317 sI2 c0.2)), (5, .c (.v (.int .i64 v0))), (11, .c (.v (.int .i64 v0))), (12, .c (.l 317 sI2 c0.1)), (13, .c (.v (.int .i64 (c0.1.length : Int)))), (14, .c (.v (.bool (decide (v0 < (c0.1.length : Int))))))], []⟩) c0 (fun v => loopRun [0, 0, 1, 5] (run E (den E k) (lv 308) k (nthLoop Tryz.f308 0)) n (StleqLinkS_0 c0 v) K) v := by kernel_rfl
theorem lleqLinkS_0 {R : Type} (k : Nat) (K : Ex → St → Option R) (c0 : CleqLinkS_0) : ∀ (n : Nat) (v : VleqLinkS_0), loopRun [0, 0, 1, 5] (run E (den E k) (lv 308) k (nthLoop Tryz.f308 0)) n (StleqLinkS_0 c0 v) K = LleqLinkS_0 k (fun (v0 : VleqLinkS_0) (x1 : Int × Int) (x2 : Int × Int) (p3 : Bool) => K .ret ⟨27, 0, [(0, .c (.l 317 sI2 c0.1)), (1, .c (.l 317 sI2 c0.2)), (4, .c (.v (.bool false))), (5, .c (.v (.int .i64 v0))), (11, .c (.v (.int .i64 v0))), (12, .c (.l 317 sI2 c0.1)), (13, .c (.v (.int .i64 (c0.1.length : Int)))), (14, .c (.v (.bool (decide (v0 < (c0.1.length : Int)))))), (17, .c (.l 317 sI2 c0.1)), (18, .c (.v (.int .i64 v0))), (19, .c (.at_ [.v (.int .i64 x1.1), .v (.int .i64 x1.2)])), (20, .agg [.v (.int .i64 x1.1), .v (.int .i64 x1.2)]), (21, .c (.l 317 sI2 c0.2)), (22, .c (.v (.int .i64 v0))), (23, .c (.at_ [.v (.int .i64 x2.1), .v (.int .i64 x2.2)])), (24, .agg [.v (.int .i64 x2.1), .v (.int .i64 x2.2)]), (25, .c (.v (.bool p3))), (26, .c (.v (.bool (!p3))))], []⟩) (fun (v0 : VleqLinkS_0) => K (.exit 0) ⟨27, 0, [(0, .c (.l 317 sI2 c0.1)), (1, .c (.l 317 sI2 c0.2)), (5, .c (.v (.int .i64 v0))), (11, .c (.v (.int .i64 v0))), (12, .c (.l 317 sI2 c0.1)), (13, .c (.v (.int .i64 (c0.1.length : Int)))), (14, .c (.v (.bool (decide (v0 < (c0.1.length : Int))))))], []⟩) c0 n v := by
  intro n
  induction n with
  | zero => intro v; rfl
  | succ n ih =>
    intro v
    refine (bleqLinkS_0 k n K c0 v).trans ?_
    rw [funext ih]
    kernel_rfl
theorem mleqLinkS_0 (k : Nat) (a0 : List (Int × Int)) (a1 : List (Int × Int)) : FleqLinkS (k + 1) a0 a1 = if ((a0.length : Int) != (a1.length : Int)) = true then some false else loopRun (R := Bool) [0, 0, 1, 5] (run E (den E k) (lv 308) k (nthLoop Tryz.f308 0)) k (StleqLinkS_0 (a0, a1) 0) (kontAt E (den E k) (lv 308) k (bodyOf Tryz.f308) 0 [] (finish E (rs 308) Tryz.f308 : Ex → St → Option (Bool))) := by kernel_rfl
theorem eleqLinkS (k : Nat) (a0 : List (Int × Int)) (a1 : List (Int × Int)) : FleqLinkS (k + 1) a0 a1 = if ((a0.length : Int) != (a1.length : Int)) = true then some false else LleqLinkS_0 k (fun (v0 : Int) (x1 : Int × Int) (x2 : Int × Int) (p3 : Bool) => some false) (fun (v0 : Int) => some true) (a0, a1) k 0 := by
  rw [mleqLinkS_0]
  simp only [lleqLinkS_0]
  kernel_rfl
/-! loop.example/g00599/laws.eqSpan -/
noncomputable def FleqSpan (k : Nat) (a0 : Int × Int) (a1 : Int × Int) : Option (Bool) := den E k 107 [.agg [.v (.int .i64 a0.1), .v (.int .i64 a0.2)], .agg [.v (.int .i64 a1.1), .v (.int .i64 a1.2)]]
theorem eleqSpan (k : Nat) (a0 : Int × Int) (a1 : Int × Int) : FleqSpan (k + 1) a0 a1 = if (a0.1 != a1.1) = true then some false else if (a0.2 != a1.2) = true then some false else some true := by kernel_rfl
/-! loop.example/g00599/laws.eqTable -/
noncomputable def FleqTable (k : Nat) (a0 : Int × (List Int) × List Int) (a1 : Int × (List Int) × List Int) : Option (Bool) := den E k 336 [.agg [.v (.int .i64 a0.1), .l 3 (.i .i64) a0.2.1, .l 3 (.i .i64) a0.2.2], .agg [.v (.int .i64 a1.1), .l 3 (.i .i64) a1.2.1, .l 3 (.i .i64) a1.2.2]]
theorem eleqTable (k : Nat) (a0 : Int × (List Int) × List Int) (a1 : Int × (List Int) × List Int) : FleqTable (k + 1) a0 a1 = if (a0.1 != a1.1) = true then some false else (FleqIntS k a0.2.1 a1.2.1).bind fun p1 => if (!p1) = true then some false else (FleqIntS k a0.2.2 a1.2.2).bind fun p2 => if (!p2) = true then some false else some true := by kernel_rfl
/-! loop.example/g00599/laws.eqTableS -/
noncomputable def FleqTableS (k : Nat) (a0 : List (Int × (List Int) × List Int)) (a1 : List (Int × (List Int) × List Int)) : Option (Bool) := den E k 309 [.c (.l 239 sTable a0), .c (.l 239 sTable a1)]
abbrev CleqTableS_0 : Type := (List (Int × (List Int) × List Int)) × (List (Int × (List Int) × List Int))
abbrev VleqTableS_0 : Type := Int
def StleqTableS_0 (c0 : CleqTableS_0) (v0 : VleqTableS_0) : St := ⟨27, 0, [(0, .c (.l 239 sTable c0.1)), (1, .c (.l 239 sTable c0.2)), (5, .c (.v (.int .i64 v0)))], []⟩
noncomputable def BleqTableS_0 {R : Type} (k : Nat) (X0 : VleqTableS_0 → (Int × (List Int) × List Int) → (Int × (List Int) × List Int) → Bool → Option R) (X1 : VleqTableS_0 → Option R) (c0 : CleqTableS_0) (rec : VleqTableS_0 → Option R) (v0 : VleqTableS_0) : Option R := if (decide (v0 < (c0.1.length : Int))) = true then if 0 ≤ v0 then ix c0.1 v0.toNat fun x1 => if 0 ≤ v0 then ix c0.2 v0.toNat fun x2 => (FleqTable k x1 x2).bind fun p3 => if (!p3) = true then X0 v0 x1 x2 p3 else rec (IntKind.i64.wrap (v0 + 1)) else none else none else X1 v0
noncomputable def LleqTableS_0 {R : Type} (k : Nat) (X0 : VleqTableS_0 → (Int × (List Int) × List Int) → (Int × (List Int) × List Int) → Bool → Option R) (X1 : VleqTableS_0 → Option R) (c : CleqTableS_0) : Nat → VleqTableS_0 → Option R
  | 0, _ => none
  | n + 1, v => BleqTableS_0 k X0 X1 c (LleqTableS_0 k X0 X1 c n) v
theorem bleqTableS_0 {R : Type} (k n : Nat) (K : Ex → St → Option R) (c0 : CleqTableS_0) (v : VleqTableS_0) : loopRun [0, 0, 1, 5] (run E (den E k) (lv 309) k (nthLoop Tryz.f309 0)) (n + 1) (StleqTableS_0 c0 v) K = BleqTableS_0 k (fun (v0 : VleqTableS_0) (x1 : Int × (List Int) × List Int) (x2 : Int × (List Int) × List Int) (p3 : Bool) => K .ret ⟨27, 0, [(0, .c (.l 239 sTable c0.1)), (1, .c (.l 239 sTable c0.2)), (4, .c (.v (.bool false))), (5, .c (.v (.int .i64 v0))), (11, .c (.v (.int .i64 v0))), (12, .c (.l 239 sTable c0.1)), (13, .c (.v (.int .i64 (c0.1.length : Int)))), (14, .c (.v (.bool (decide (v0 < (c0.1.length : Int)))))), (17, .c (.l 239 sTable c0.1)), (18, .c (.v (.int .i64 v0))), (19, .c (.at_ [.v (.int .i64 x1.1), .l 3 (.i .i64) x1.2.1, .l 3 (.i .i64) x1.2.2])), (20, .agg [.v (.int .i64 x1.1), .l 3 (.i .i64) x1.2.1, .l 3 (.i .i64) x1.2.2]), (21, .c (.l 239 sTable c0.2)), (22, .c (.v (.int .i64 v0))), (23, .c (.at_ [.v (.int .i64 x2.1), .l 3 (.i .i64) x2.2.1, .l 3 (.i .i64) x2.2.2])), (24, .agg [.v (.int .i64 x2.1), .l 3 (.i .i64) x2.2.1, .l 3 (.i .i64) x2.2.2]), (25, .c (.v (.bool p3))), (26, .c (.v (.bool (!p3))))], []⟩) (fun (v0 : VleqTableS_0) => K (.exit 0) ⟨27, 0, [(0, .c (.l 239 sTable c0.1)), (1, .c (.l 239 sTable c0.2)), (5, .c (.v (.int .i64 v0))), (11, .c (.v (.int .i64 v0))), (12, .c (.l 239 sTable c0.1)), (13, .c (.v (.int .i64 (c0.1.length : Int)))), (14, .c (.v (.bool (decide (v0 < (c0.1.length : Int))))))], []⟩) c0 (fun v => loopRun [0, 0, 1, 5] (run E (den E k) (lv 309) k (nthLoop Tryz.f309 0)) n (StleqTableS_0 c0 v) K) v := by kernel_rfl
theorem lleqTableS_0 {R : Type} (k : Nat) (K : Ex → St → Option R) (c0 : CleqTableS_0) : ∀ (n : Nat) (v : VleqTableS_0), loopRun [0, 0, 1, 5] (run E (den E k) (lv 309) k (nthLoop Tryz.f309 0)) n (StleqTableS_0 c0 v) K = LleqTableS_0 k (fun (v0 : VleqTableS_0) (x1 : Int × (List Int) × List Int) (x2 : Int × (List Int) × List Int) (p3 : Bool) => K .ret ⟨27, 0, [(0, .c (.l 239 sTable c0.1)), (1, .c (.l 239 sTable c0.2)), (4, .c (.v (.bool false))), (5, .c (.v (.int .i64 v0))), (11, .c (.v (.int .i64 v0))), (12, .c (.l 239 sTable c0.1)), (13, .c (.v (.int .i64 (c0.1.length : Int)))), (14, .c (.v (.bool (decide (v0 < (c0.1.length : Int)))))), (17, .c (.l 239 sTable c0.1)), (18, .c (.v (.int .i64 v0))), (19, .c (.at_ [.v (.int .i64 x1.1), .l 3 (.i .i64) x1.2.1, .l 3 (.i .i64) x1.2.2])), (20, .agg [.v (.int .i64 x1.1), .l 3 (.i .i64) x1.2.1, .l 3 (.i .i64) x1.2.2]), (21, .c (.l 239 sTable c0.2)), (22, .c (.v (.int .i64 v0))), (23, .c (.at_ [.v (.int .i64 x2.1), .l 3 (.i .i64) x2.2.1, .l 3 (.i .i64) x2.2.2])), (24, .agg [.v (.int .i64 x2.1), .l 3 (.i .i64) x2.2.1, .l 3 (.i .i64) x2.2.2]), (25, .c (.v (.bool p3))), (26, .c (.v (.bool (!p3))))], []⟩) (fun (v0 : VleqTableS_0) => K (.exit 0) ⟨27, 0, [(0, .c (.l 239 sTable c0.1)), (1, .c (.l 239 sTable c0.2)), (5, .c (.v (.int .i64 v0))), (11, .c (.v (.int .i64 v0))), (12, .c (.l 239 sTable c0.1)), (13, .c (.v (.int .i64 (c0.1.length : Int)))), (14, .c (.v (.bool (decide (v0 < (c0.1.length : Int))))))], []⟩) c0 n v := by
  intro n
  induction n with
  | zero => intro v; rfl
  | succ n ih =>
    intro v
    refine (bleqTableS_0 k n K c0 v).trans ?_
    rw [funext ih]
    kernel_rfl
theorem mleqTableS_0 (k : Nat) (a0 : List (Int × (List Int) × List Int)) (a1 : List (Int × (List Int) × List Int)) : FleqTableS (k + 1) a0 a1 = if ((a0.length : Int) != (a1.length : Int)) = true then some false else loopRun (R := Bool) [0, 0, 1, 5] (run E (den E k) (lv 309) k (nthLoop Tryz.f309 0)) k (StleqTableS_0 (a0, a1) 0) (kontAt E (den E k) (lv 309) k (bodyOf Tryz.f309) 0 [] (finish E (rs 309) Tryz.f309 : Ex → St → Option (Bool))) := by kernel_rfl
theorem eleqTableS (k : Nat) (a0 : List (Int × (List Int) × List Int)) (a1 : List (Int × (List Int) × List Int)) : FleqTableS (k + 1) a0 a1 = if ((a0.length : Int) != (a1.length : Int)) = true then some false else LleqTableS_0 k (fun (v0 : Int) (x1 : Int × (List Int) × List Int) (x2 : Int × (List Int) × List Int) (p3 : Bool) => some false) (fun (v0 : Int) => some true) (a0, a1) k 0 := by
  rw [mleqTableS_0]
  simp only [lleqTableS_0]
  kernel_rfl
/-! loop.example/g00599/laws.eqPiece -/
noncomputable def FleqPiece (k : Nat) (a0 : TPiece) (a1 : TPiece) : Option (Bool) := den E k 252 [.agg [.v (.int .i64 a0.1.1), .v (.int .i64 a0.1.2), .l 317 sI2 a0.2.1, .l 239 sTable a0.2.2], .agg [.v (.int .i64 a1.1.1), .v (.int .i64 a1.1.2), .l 317 sI2 a1.2.1, .l 239 sTable a1.2.2]]
theorem eleqPiece (k : Nat) (a0 : TPiece) (a1 : TPiece) : FleqPiece (k + 1) a0 a1 = (FleqSpan k a0.1 a1.1).bind fun p1 => if (!p1) = true then some false else (FleqLinkS k a0.2.1 a1.2.1).bind fun p2 => if (!p2) = true then some false else (FleqTableS k a0.2.2 a1.2.2).bind fun p3 => if (!p3) = true then some false else some true := by kernel_rfl
/-! loop.example/g00599/laws.eqPieceS -/
noncomputable def FleqPieceS (k : Nat) (a0 : List TPiece) (a1 : List TPiece) : Option (Bool) := den E k 161 [.c (.l 247 sPiece a0), .c (.l 247 sPiece a1)]
abbrev CleqPieceS_0 : Type := (List TPiece) × (List TPiece)
abbrev VleqPieceS_0 : Type := Int
def StleqPieceS_0 (c0 : CleqPieceS_0) (v0 : VleqPieceS_0) : St := ⟨27, 0, [(0, .c (.l 247 sPiece c0.1)), (1, .c (.l 247 sPiece c0.2)), (5, .c (.v (.int .i64 v0)))], []⟩
noncomputable def BleqPieceS_0 {R : Type} (k : Nat) (X0 : VleqPieceS_0 → TPiece → TPiece → Bool → Option R) (X1 : VleqPieceS_0 → Option R) (c0 : CleqPieceS_0) (rec : VleqPieceS_0 → Option R) (v0 : VleqPieceS_0) : Option R := if (decide (v0 < (c0.1.length : Int))) = true then if 0 ≤ v0 then ix c0.1 v0.toNat fun x1 => if 0 ≤ v0 then ix c0.2 v0.toNat fun x2 => (FleqPiece k x1 x2).bind fun p3 => if (!p3) = true then X0 v0 x1 x2 p3 else rec (IntKind.i64.wrap (v0 + 1)) else none else none else X1 v0
noncomputable def LleqPieceS_0 {R : Type} (k : Nat) (X0 : VleqPieceS_0 → TPiece → TPiece → Bool → Option R) (X1 : VleqPieceS_0 → Option R) (c : CleqPieceS_0) : Nat → VleqPieceS_0 → Option R
  | 0, _ => none
  | n + 1, v => BleqPieceS_0 k X0 X1 c (LleqPieceS_0 k X0 X1 c n) v
theorem bleqPieceS_0 {R : Type} (k n : Nat) (K : Ex → St → Option R) (c0 : CleqPieceS_0) (v : VleqPieceS_0) : loopRun [0, 0, 1, 5] (run E (den E k) (lv 161) k (nthLoop Tryz.f161 0)) (n + 1) (StleqPieceS_0 c0 v) K = BleqPieceS_0 k (fun (v0 : VleqPieceS_0) (x1 : TPiece) (x2 : TPiece) (p3 : Bool) => K .ret ⟨27, 0, [(0, .c (.l 247 sPiece c0.1)), (1, .c (.l 247 sPiece c0.2)), (4, .c (.v (.bool false))), (5, .c (.v (.int .i64 v0))), (11, .c (.v (.int .i64 v0))), (12, .c (.l 247 sPiece c0.1)), (13, .c (.v (.int .i64 (c0.1.length : Int)))), (14, .c (.v (.bool (decide (v0 < (c0.1.length : Int)))))), (17, .c (.l 247 sPiece c0.1)), (18, .c (.v (.int .i64 v0))), (19, .c (.at_ [.v (.int .i64 x1.1.1), .v (.int .i64 x1.1.2), .l 317 sI2 x1.2.1, .l 239 sTable x1.2.2])), (20, .agg [.v (.int .i64 x1.1.1), .v (.int .i64 x1.1.2), .l 317 sI2 x1.2.1, .l 239 sTable x1.2.2]), (21, .c (.l 247 sPiece c0.2)), (22, .c (.v (.int .i64 v0))), (23, .c (.at_ [.v (.int .i64 x2.1.1), .v (.int .i64 x2.1.2), .l 317 sI2 x2.2.1, .l 239 sTable x2.2.2])), (24, .agg [.v (.int .i64 x2.1.1), .v (.int .i64 x2.1.2), .l 317 sI2 x2.2.1, .l 239 sTable x2.2.2]), (25, .c (.v (.bool p3))), (26, .c (.v (.bool (!p3))))], []⟩) (fun (v0 : VleqPieceS_0) => K (.exit 0) ⟨27, 0, [(0, .c (.l 247 sPiece c0.1)), (1, .c (.l 247 sPiece c0.2)), (5, .c (.v (.int .i64 v0))), (11, .c (.v (.int .i64 v0))), (12, .c (.l 247 sPiece c0.1)), (13, .c (.v (.int .i64 (c0.1.length : Int)))), (14, .c (.v (.bool (decide (v0 < (c0.1.length : Int))))))], []⟩) c0 (fun v => loopRun [0, 0, 1, 5] (run E (den E k) (lv 161) k (nthLoop Tryz.f161 0)) n (StleqPieceS_0 c0 v) K) v := by kernel_rfl
theorem lleqPieceS_0 {R : Type} (k : Nat) (K : Ex → St → Option R) (c0 : CleqPieceS_0) : ∀ (n : Nat) (v : VleqPieceS_0), loopRun [0, 0, 1, 5] (run E (den E k) (lv 161) k (nthLoop Tryz.f161 0)) n (StleqPieceS_0 c0 v) K = LleqPieceS_0 k (fun (v0 : VleqPieceS_0) (x1 : TPiece) (x2 : TPiece) (p3 : Bool) => K .ret ⟨27, 0, [(0, .c (.l 247 sPiece c0.1)), (1, .c (.l 247 sPiece c0.2)), (4, .c (.v (.bool false))), (5, .c (.v (.int .i64 v0))), (11, .c (.v (.int .i64 v0))), (12, .c (.l 247 sPiece c0.1)), (13, .c (.v (.int .i64 (c0.1.length : Int)))), (14, .c (.v (.bool (decide (v0 < (c0.1.length : Int)))))), (17, .c (.l 247 sPiece c0.1)), (18, .c (.v (.int .i64 v0))), (19, .c (.at_ [.v (.int .i64 x1.1.1), .v (.int .i64 x1.1.2), .l 317 sI2 x1.2.1, .l 239 sTable x1.2.2])), (20, .agg [.v (.int .i64 x1.1.1), .v (.int .i64 x1.1.2), .l 317 sI2 x1.2.1, .l 239 sTable x1.2.2]), (21, .c (.l 247 sPiece c0.2)), (22, .c (.v (.int .i64 v0))), (23, .c (.at_ [.v (.int .i64 x2.1.1), .v (.int .i64 x2.1.2), .l 317 sI2 x2.2.1, .l 239 sTable x2.2.2])), (24, .agg [.v (.int .i64 x2.1.1), .v (.int .i64 x2.1.2), .l 317 sI2 x2.2.1, .l 239 sTable x2.2.2]), (25, .c (.v (.bool p3))), (26, .c (.v (.bool (!p3))))], []⟩) (fun (v0 : VleqPieceS_0) => K (.exit 0) ⟨27, 0, [(0, .c (.l 247 sPiece c0.1)), (1, .c (.l 247 sPiece c0.2)), (5, .c (.v (.int .i64 v0))), (11, .c (.v (.int .i64 v0))), (12, .c (.l 247 sPiece c0.1)), (13, .c (.v (.int .i64 (c0.1.length : Int)))), (14, .c (.v (.bool (decide (v0 < (c0.1.length : Int))))))], []⟩) c0 n v := by
  intro n
  induction n with
  | zero => intro v; rfl
  | succ n ih =>
    intro v
    refine (bleqPieceS_0 k n K c0 v).trans ?_
    rw [funext ih]
    kernel_rfl
theorem mleqPieceS_0 (k : Nat) (a0 : List TPiece) (a1 : List TPiece) : FleqPieceS (k + 1) a0 a1 = if ((a0.length : Int) != (a1.length : Int)) = true then some false else loopRun (R := Bool) [0, 0, 1, 5] (run E (den E k) (lv 161) k (nthLoop Tryz.f161 0)) k (StleqPieceS_0 (a0, a1) 0) (kontAt E (den E k) (lv 161) k (bodyOf Tryz.f161) 0 [] (finish E (rs 161) Tryz.f161 : Ex → St → Option (Bool))) := by kernel_rfl
theorem eleqPieceS (k : Nat) (a0 : List TPiece) (a1 : List TPiece) : FleqPieceS (k + 1) a0 a1 = if ((a0.length : Int) != (a1.length : Int)) = true then some false else LleqPieceS_0 k (fun (v0 : Int) (x1 : TPiece) (x2 : TPiece) (p3 : Bool) => some false) (fun (v0 : Int) => some true) (a0, a1) k 0 := by
  rw [mleqPieceS_0]
  simp only [lleqPieceS_0]
  kernel_rfl
/-! loop.example/g00599/laws.eqProgram -/
noncomputable def FleqProgram (k : Nat) (a0 : TProgram) (a1 : TProgram) : Option (Bool) := den E k 73 [.agg [.v (.int .i64 a0.1), .v (.int .i64 a0.2.1), .v (.int .i64 a0.2.2.1), .l 247 sPiece a0.2.2.2], .agg [.v (.int .i64 a1.1), .v (.int .i64 a1.2.1), .v (.int .i64 a1.2.2.1), .l 247 sPiece a1.2.2.2]]
theorem eleqProgram (k : Nat) (a0 : TProgram) (a1 : TProgram) : FleqProgram (k + 1) a0 a1 = if (a0.1 != a1.1) = true then some false else if (a0.2.1 != a1.2.1) = true then some false else if (a0.2.2.1 != a1.2.2.1) = true then some false else (FleqPieceS k a0.2.2.2 a1.2.2.2).bind fun p1 => if (!p1) = true then some false else some true := by kernel_rfl
/-! loop.example/g00599/laws.eqQueue -/
noncomputable def FleqQueue (k : Nat) (a0 : List (Int × Int × Int × Int × Int × Int)) (a1 : List (Int × Int × Int × Int × Int × Int)) : Option (Bool) := den E k 163 [.agg [.l 155 sI6 a0], .agg [.l 155 sI6 a1]]
theorem eleqQueue (k : Nat) (a0 : List (Int × Int × Int × Int × Int × Int)) (a1 : List (Int × Int × Int × Int × Int × Int)) : FleqQueue (k + 1) a0 a1 = (FleqPacketS k a0 a1).bind fun p1 => if (!p1) = true then some false else some true := by kernel_rfl
/-! loop.example/g00599/laws.eqQueueS -/
noncomputable def FleqQueueS (k : Nat) (a0 : List (List (Int × Int × Int × Int × Int × Int))) (a1 : List (List (Int × Int × Int × Int × Int × Int))) : Option (Bool) := den E k 76 [.c (.l 158 sQueue a0), .c (.l 158 sQueue a1)]
abbrev CleqQueueS_0 : Type := (List (List (Int × Int × Int × Int × Int × Int))) × (List (List (Int × Int × Int × Int × Int × Int)))
abbrev VleqQueueS_0 : Type := Int
def StleqQueueS_0 (c0 : CleqQueueS_0) (v0 : VleqQueueS_0) : St := ⟨27, 0, [(0, .c (.l 158 sQueue c0.1)), (1, .c (.l 158 sQueue c0.2)), (5, .c (.v (.int .i64 v0)))], []⟩
noncomputable def BleqQueueS_0 {R : Type} (k : Nat) (X0 : VleqQueueS_0 → (List (Int × Int × Int × Int × Int × Int)) → (List (Int × Int × Int × Int × Int × Int)) → Bool → Option R) (X1 : VleqQueueS_0 → Option R) (c0 : CleqQueueS_0) (rec : VleqQueueS_0 → Option R) (v0 : VleqQueueS_0) : Option R := if (decide (v0 < (c0.1.length : Int))) = true then if 0 ≤ v0 then ix c0.1 v0.toNat fun x1 => if 0 ≤ v0 then ix c0.2 v0.toNat fun x2 => (FleqQueue k x1 x2).bind fun p3 => if (!p3) = true then X0 v0 x1 x2 p3 else rec (IntKind.i64.wrap (v0 + 1)) else none else none else X1 v0
noncomputable def LleqQueueS_0 {R : Type} (k : Nat) (X0 : VleqQueueS_0 → (List (Int × Int × Int × Int × Int × Int)) → (List (Int × Int × Int × Int × Int × Int)) → Bool → Option R) (X1 : VleqQueueS_0 → Option R) (c : CleqQueueS_0) : Nat → VleqQueueS_0 → Option R
  | 0, _ => none
  | n + 1, v => BleqQueueS_0 k X0 X1 c (LleqQueueS_0 k X0 X1 c n) v
theorem bleqQueueS_0 {R : Type} (k n : Nat) (K : Ex → St → Option R) (c0 : CleqQueueS_0) (v : VleqQueueS_0) : loopRun [0, 0, 1, 5] (run E (den E k) (lv 76) k (nthLoop Tryz.f76 0)) (n + 1) (StleqQueueS_0 c0 v) K = BleqQueueS_0 k (fun (v0 : VleqQueueS_0) (x1 : List (Int × Int × Int × Int × Int × Int)) (x2 : List (Int × Int × Int × Int × Int × Int)) (p3 : Bool) => K .ret ⟨27, 0, [(0, .c (.l 158 sQueue c0.1)), (1, .c (.l 158 sQueue c0.2)), (4, .c (.v (.bool false))), (5, .c (.v (.int .i64 v0))), (11, .c (.v (.int .i64 v0))), (12, .c (.l 158 sQueue c0.1)), (13, .c (.v (.int .i64 (c0.1.length : Int)))), (14, .c (.v (.bool (decide (v0 < (c0.1.length : Int)))))), (17, .c (.l 158 sQueue c0.1)), (18, .c (.v (.int .i64 v0))), (19, .c (.at_ [.l 155 sI6 x1])), (20, .agg [.l 155 sI6 x1]), (21, .c (.l 158 sQueue c0.2)), (22, .c (.v (.int .i64 v0))), (23, .c (.at_ [.l 155 sI6 x2])), (24, .agg [.l 155 sI6 x2]), (25, .c (.v (.bool p3))), (26, .c (.v (.bool (!p3))))], []⟩) (fun (v0 : VleqQueueS_0) => K (.exit 0) ⟨27, 0, [(0, .c (.l 158 sQueue c0.1)), (1, .c (.l 158 sQueue c0.2)), (5, .c (.v (.int .i64 v0))), (11, .c (.v (.int .i64 v0))), (12, .c (.l 158 sQueue c0.1)), (13, .c (.v (.int .i64 (c0.1.length : Int)))), (14, .c (.v (.bool (decide (v0 < (c0.1.length : Int))))))], []⟩) c0 (fun v => loopRun [0, 0, 1, 5] (run E (den E k) (lv 76) k (nthLoop Tryz.f76 0)) n (StleqQueueS_0 c0 v) K) v := by kernel_rfl
theorem lleqQueueS_0 {R : Type} (k : Nat) (K : Ex → St → Option R) (c0 : CleqQueueS_0) : ∀ (n : Nat) (v : VleqQueueS_0), loopRun [0, 0, 1, 5] (run E (den E k) (lv 76) k (nthLoop Tryz.f76 0)) n (StleqQueueS_0 c0 v) K = LleqQueueS_0 k (fun (v0 : VleqQueueS_0) (x1 : List (Int × Int × Int × Int × Int × Int)) (x2 : List (Int × Int × Int × Int × Int × Int)) (p3 : Bool) => K .ret ⟨27, 0, [(0, .c (.l 158 sQueue c0.1)), (1, .c (.l 158 sQueue c0.2)), (4, .c (.v (.bool false))), (5, .c (.v (.int .i64 v0))), (11, .c (.v (.int .i64 v0))), (12, .c (.l 158 sQueue c0.1)), (13, .c (.v (.int .i64 (c0.1.length : Int)))), (14, .c (.v (.bool (decide (v0 < (c0.1.length : Int)))))), (17, .c (.l 158 sQueue c0.1)), (18, .c (.v (.int .i64 v0))), (19, .c (.at_ [.l 155 sI6 x1])), (20, .agg [.l 155 sI6 x1]), (21, .c (.l 158 sQueue c0.2)), (22, .c (.v (.int .i64 v0))), (23, .c (.at_ [.l 155 sI6 x2])), (24, .agg [.l 155 sI6 x2]), (25, .c (.v (.bool p3))), (26, .c (.v (.bool (!p3))))], []⟩) (fun (v0 : VleqQueueS_0) => K (.exit 0) ⟨27, 0, [(0, .c (.l 158 sQueue c0.1)), (1, .c (.l 158 sQueue c0.2)), (5, .c (.v (.int .i64 v0))), (11, .c (.v (.int .i64 v0))), (12, .c (.l 158 sQueue c0.1)), (13, .c (.v (.int .i64 (c0.1.length : Int)))), (14, .c (.v (.bool (decide (v0 < (c0.1.length : Int))))))], []⟩) c0 n v := by
  intro n
  induction n with
  | zero => intro v; rfl
  | succ n ih =>
    intro v
    refine (bleqQueueS_0 k n K c0 v).trans ?_
    rw [funext ih]
    kernel_rfl
theorem mleqQueueS_0 (k : Nat) (a0 : List (List (Int × Int × Int × Int × Int × Int))) (a1 : List (List (Int × Int × Int × Int × Int × Int))) : FleqQueueS (k + 1) a0 a1 = if ((a0.length : Int) != (a1.length : Int)) = true then some false else loopRun (R := Bool) [0, 0, 1, 5] (run E (den E k) (lv 76) k (nthLoop Tryz.f76 0)) k (StleqQueueS_0 (a0, a1) 0) (kontAt E (den E k) (lv 76) k (bodyOf Tryz.f76) 0 [] (finish E (rs 76) Tryz.f76 : Ex → St → Option (Bool))) := by kernel_rfl
theorem eleqQueueS (k : Nat) (a0 : List (List (Int × Int × Int × Int × Int × Int))) (a1 : List (List (Int × Int × Int × Int × Int × Int))) : FleqQueueS (k + 1) a0 a1 = if ((a0.length : Int) != (a1.length : Int)) = true then some false else LleqQueueS_0 k (fun (v0 : Int) (x1 : List (Int × Int × Int × Int × Int × Int)) (x2 : List (Int × Int × Int × Int × Int × Int)) (p3 : Bool) => some false) (fun (v0 : Int) => some true) (a0, a1) k 0 := by
  rw [mleqQueueS_0]
  simp only [lleqQueueS_0]
  kernel_rfl
/-! loop.example/g00599/laws.eqSent -/
noncomputable def FleqSent (k : Nat) (a0 : Int × Int × Int × Int) (a1 : Int × Int × Int × Int) : Option (Bool) := den E k 168 [.agg [.v (.int .i64 a0.1), .v (.int .i64 a0.2.1), .v (.int .i64 a0.2.2.1), .v (.int .i64 a0.2.2.2)], .agg [.v (.int .i64 a1.1), .v (.int .i64 a1.2.1), .v (.int .i64 a1.2.2.1), .v (.int .i64 a1.2.2.2)]]
theorem eleqSent (k : Nat) (a0 : Int × Int × Int × Int) (a1 : Int × Int × Int × Int) : FleqSent (k + 1) a0 a1 = if (a0.1 != a1.1) = true then some false else if (a0.2.1 != a1.2.1) = true then some false else if (a0.2.2.1 != a1.2.2.1) = true then some false else if (a0.2.2.2 != a1.2.2.2) = true then some false else some true := by kernel_rfl
/-! loop.example/g00599/laws.eqSentS -/
noncomputable def FleqSentS (k : Nat) (a0 : List (Int × Int × Int × Int)) (a1 : List (Int × Int × Int × Int)) : Option (Bool) := den E k 81 [.c (.l 94 sI4 a0), .c (.l 94 sI4 a1)]
abbrev CleqSentS_0 : Type := (List (Int × Int × Int × Int)) × (List (Int × Int × Int × Int))
abbrev VleqSentS_0 : Type := Int
def StleqSentS_0 (c0 : CleqSentS_0) (v0 : VleqSentS_0) : St := ⟨27, 0, [(0, .c (.l 94 sI4 c0.1)), (1, .c (.l 94 sI4 c0.2)), (5, .c (.v (.int .i64 v0)))], []⟩
noncomputable def BleqSentS_0 {R : Type} (k : Nat) (X0 : VleqSentS_0 → (Int × Int × Int × Int) → (Int × Int × Int × Int) → Bool → Option R) (X1 : VleqSentS_0 → Option R) (c0 : CleqSentS_0) (rec : VleqSentS_0 → Option R) (v0 : VleqSentS_0) : Option R := if (decide (v0 < (c0.1.length : Int))) = true then if 0 ≤ v0 then ix c0.1 v0.toNat fun x1 => if 0 ≤ v0 then ix c0.2 v0.toNat fun x2 => (FleqSent k x1 x2).bind fun p3 => if (!p3) = true then X0 v0 x1 x2 p3 else rec (IntKind.i64.wrap (v0 + 1)) else none else none else X1 v0
noncomputable def LleqSentS_0 {R : Type} (k : Nat) (X0 : VleqSentS_0 → (Int × Int × Int × Int) → (Int × Int × Int × Int) → Bool → Option R) (X1 : VleqSentS_0 → Option R) (c : CleqSentS_0) : Nat → VleqSentS_0 → Option R
  | 0, _ => none
  | n + 1, v => BleqSentS_0 k X0 X1 c (LleqSentS_0 k X0 X1 c n) v
theorem bleqSentS_0 {R : Type} (k n : Nat) (K : Ex → St → Option R) (c0 : CleqSentS_0) (v : VleqSentS_0) : loopRun [0, 0, 1, 5] (run E (den E k) (lv 81) k (nthLoop Tryz.f81 0)) (n + 1) (StleqSentS_0 c0 v) K = BleqSentS_0 k (fun (v0 : VleqSentS_0) (x1 : Int × Int × Int × Int) (x2 : Int × Int × Int × Int) (p3 : Bool) => K .ret ⟨27, 0, [(0, .c (.l 94 sI4 c0.1)), (1, .c (.l 94 sI4 c0.2)), (4, .c (.v (.bool false))), (5, .c (.v (.int .i64 v0))), (11, .c (.v (.int .i64 v0))), (12, .c (.l 94 sI4 c0.1)), (13, .c (.v (.int .i64 (c0.1.length : Int)))), (14, .c (.v (.bool (decide (v0 < (c0.1.length : Int)))))), (17, .c (.l 94 sI4 c0.1)), (18, .c (.v (.int .i64 v0))), (19, .c (.at_ [.v (.int .i64 x1.1), .v (.int .i64 x1.2.1), .v (.int .i64 x1.2.2.1), .v (.int .i64 x1.2.2.2)])), (20, .agg [.v (.int .i64 x1.1), .v (.int .i64 x1.2.1), .v (.int .i64 x1.2.2.1), .v (.int .i64 x1.2.2.2)]), (21, .c (.l 94 sI4 c0.2)), (22, .c (.v (.int .i64 v0))), (23, .c (.at_ [.v (.int .i64 x2.1), .v (.int .i64 x2.2.1), .v (.int .i64 x2.2.2.1), .v (.int .i64 x2.2.2.2)])), (24, .agg [.v (.int .i64 x2.1), .v (.int .i64 x2.2.1), .v (.int .i64 x2.2.2.1), .v (.int .i64 x2.2.2.2)]), (25, .c (.v (.bool p3))), (26, .c (.v (.bool (!p3))))], []⟩) (fun (v0 : VleqSentS_0) => K (.exit 0) ⟨27, 0, [(0, .c (.l 94 sI4 c0.1)), (1, .c (.l 94 sI4 c0.2)), (5, .c (.v (.int .i64 v0))), (11, .c (.v (.int .i64 v0))), (12, .c (.l 94 sI4 c0.1)), (13, .c (.v (.int .i64 (c0.1.length : Int)))), (14, .c (.v (.bool (decide (v0 < (c0.1.length : Int))))))], []⟩) c0 (fun v => loopRun [0, 0, 1, 5] (run E (den E k) (lv 81) k (nthLoop Tryz.f81 0)) n (StleqSentS_0 c0 v) K) v := by kernel_rfl
theorem lleqSentS_0 {R : Type} (k : Nat) (K : Ex → St → Option R) (c0 : CleqSentS_0) : ∀ (n : Nat) (v : VleqSentS_0), loopRun [0, 0, 1, 5] (run E (den E k) (lv 81) k (nthLoop Tryz.f81 0)) n (StleqSentS_0 c0 v) K = LleqSentS_0 k (fun (v0 : VleqSentS_0) (x1 : Int × Int × Int × Int) (x2 : Int × Int × Int × Int) (p3 : Bool) => K .ret ⟨27, 0, [(0, .c (.l 94 sI4 c0.1)), (1, .c (.l 94 sI4 c0.2)), (4, .c (.v (.bool false))), (5, .c (.v (.int .i64 v0))), (11, .c (.v (.int .i64 v0))), (12, .c (.l 94 sI4 c0.1)), (13, .c (.v (.int .i64 (c0.1.length : Int)))), (14, .c (.v (.bool (decide (v0 < (c0.1.length : Int)))))), (17, .c (.l 94 sI4 c0.1)), (18, .c (.v (.int .i64 v0))), (19, .c (.at_ [.v (.int .i64 x1.1), .v (.int .i64 x1.2.1), .v (.int .i64 x1.2.2.1), .v (.int .i64 x1.2.2.2)])), (20, .agg [.v (.int .i64 x1.1), .v (.int .i64 x1.2.1), .v (.int .i64 x1.2.2.1), .v (.int .i64 x1.2.2.2)]), (21, .c (.l 94 sI4 c0.2)), (22, .c (.v (.int .i64 v0))), (23, .c (.at_ [.v (.int .i64 x2.1), .v (.int .i64 x2.2.1), .v (.int .i64 x2.2.2.1), .v (.int .i64 x2.2.2.2)])), (24, .agg [.v (.int .i64 x2.1), .v (.int .i64 x2.2.1), .v (.int .i64 x2.2.2.1), .v (.int .i64 x2.2.2.2)]), (25, .c (.v (.bool p3))), (26, .c (.v (.bool (!p3))))], []⟩) (fun (v0 : VleqSentS_0) => K (.exit 0) ⟨27, 0, [(0, .c (.l 94 sI4 c0.1)), (1, .c (.l 94 sI4 c0.2)), (5, .c (.v (.int .i64 v0))), (11, .c (.v (.int .i64 v0))), (12, .c (.l 94 sI4 c0.1)), (13, .c (.v (.int .i64 (c0.1.length : Int)))), (14, .c (.v (.bool (decide (v0 < (c0.1.length : Int))))))], []⟩) c0 n v := by
  intro n
  induction n with
  | zero => intro v; rfl
  | succ n ih =>
    intro v
    refine (bleqSentS_0 k n K c0 v).trans ?_
    rw [funext ih]
    kernel_rfl
theorem mleqSentS_0 (k : Nat) (a0 : List (Int × Int × Int × Int)) (a1 : List (Int × Int × Int × Int)) : FleqSentS (k + 1) a0 a1 = if ((a0.length : Int) != (a1.length : Int)) = true then some false else loopRun (R := Bool) [0, 0, 1, 5] (run E (den E k) (lv 81) k (nthLoop Tryz.f81 0)) k (StleqSentS_0 (a0, a1) 0) (kontAt E (den E k) (lv 81) k (bodyOf Tryz.f81) 0 [] (finish E (rs 81) Tryz.f81 : Ex → St → Option (Bool))) := by kernel_rfl
theorem eleqSentS (k : Nat) (a0 : List (Int × Int × Int × Int)) (a1 : List (Int × Int × Int × Int)) : FleqSentS (k + 1) a0 a1 = if ((a0.length : Int) != (a1.length : Int)) = true then some false else LleqSentS_0 k (fun (v0 : Int) (x1 : Int × Int × Int × Int) (x2 : Int × Int × Int × Int) (p3 : Bool) => some false) (fun (v0 : Int) => some true) (a0, a1) k 0 := by
  rw [mleqSentS_0]
  simp only [lleqSentS_0]
  kernel_rfl
/-! loop.example/g00599/laws.eqSat -/
noncomputable def FleqSat (k : Nat) (a0 : Int × Int × Int × Int) (a1 : Int × Int × Int × Int) : Option (Bool) := den E k 249 [.agg [.v (.int .i64 a0.1), .v (.int .i64 a0.2.1), .v (.int .i64 a0.2.2.1), .v (.int .i64 a0.2.2.2)], .agg [.v (.int .i64 a1.1), .v (.int .i64 a1.2.1), .v (.int .i64 a1.2.2.1), .v (.int .i64 a1.2.2.2)]]
theorem eleqSat (k : Nat) (a0 : Int × Int × Int × Int) (a1 : Int × Int × Int × Int) : FleqSat (k + 1) a0 a1 = if (a0.1 != a1.1) = true then some false else if (a0.2.1 != a1.2.1) = true then some false else if (a0.2.2.1 != a1.2.2.1) = true then some false else if (a0.2.2.2 != a1.2.2.2) = true then some false else some true := by kernel_rfl
/-! loop.example/g00599/laws.eqSatS -/
noncomputable def FleqSatS (k : Nat) (a0 : List (Int × Int × Int × Int)) (a1 : List (Int × Int × Int × Int)) : Option (Bool) := den E k 158 [.c (.l 262 sI4 a0), .c (.l 262 sI4 a1)]
abbrev CleqSatS_0 : Type := (List (Int × Int × Int × Int)) × (List (Int × Int × Int × Int))
abbrev VleqSatS_0 : Type := Int
def StleqSatS_0 (c0 : CleqSatS_0) (v0 : VleqSatS_0) : St := ⟨27, 0, [(0, .c (.l 262 sI4 c0.1)), (1, .c (.l 262 sI4 c0.2)), (5, .c (.v (.int .i64 v0)))], []⟩
noncomputable def BleqSatS_0 {R : Type} (k : Nat) (X0 : VleqSatS_0 → (Int × Int × Int × Int) → (Int × Int × Int × Int) → Bool → Option R) (X1 : VleqSatS_0 → Option R) (c0 : CleqSatS_0) (rec : VleqSatS_0 → Option R) (v0 : VleqSatS_0) : Option R := if (decide (v0 < (c0.1.length : Int))) = true then if 0 ≤ v0 then ix c0.1 v0.toNat fun x1 => if 0 ≤ v0 then ix c0.2 v0.toNat fun x2 => (FleqSat k x1 x2).bind fun p3 => if (!p3) = true then X0 v0 x1 x2 p3 else rec (IntKind.i64.wrap (v0 + 1)) else none else none else X1 v0
noncomputable def LleqSatS_0 {R : Type} (k : Nat) (X0 : VleqSatS_0 → (Int × Int × Int × Int) → (Int × Int × Int × Int) → Bool → Option R) (X1 : VleqSatS_0 → Option R) (c : CleqSatS_0) : Nat → VleqSatS_0 → Option R
  | 0, _ => none
  | n + 1, v => BleqSatS_0 k X0 X1 c (LleqSatS_0 k X0 X1 c n) v
theorem bleqSatS_0 {R : Type} (k n : Nat) (K : Ex → St → Option R) (c0 : CleqSatS_0) (v : VleqSatS_0) : loopRun [0, 0, 1, 5] (run E (den E k) (lv 158) k (nthLoop Tryz.f158 0)) (n + 1) (StleqSatS_0 c0 v) K = BleqSatS_0 k (fun (v0 : VleqSatS_0) (x1 : Int × Int × Int × Int) (x2 : Int × Int × Int × Int) (p3 : Bool) => K .ret ⟨27, 0, [(0, .c (.l 262 sI4 c0.1)), (1, .c (.l 262 sI4 c0.2)), (4, .c (.v (.bool false))), (5, .c (.v (.int .i64 v0))), (11, .c (.v (.int .i64 v0))), (12, .c (.l 262 sI4 c0.1)), (13, .c (.v (.int .i64 (c0.1.length : Int)))), (14, .c (.v (.bool (decide (v0 < (c0.1.length : Int)))))), (17, .c (.l 262 sI4 c0.1)), (18, .c (.v (.int .i64 v0))), (19, .c (.at_ [.v (.int .i64 x1.1), .v (.int .i64 x1.2.1), .v (.int .i64 x1.2.2.1), .v (.int .i64 x1.2.2.2)])), (20, .agg [.v (.int .i64 x1.1), .v (.int .i64 x1.2.1), .v (.int .i64 x1.2.2.1), .v (.int .i64 x1.2.2.2)]), (21, .c (.l 262 sI4 c0.2)), (22, .c (.v (.int .i64 v0))), (23, .c (.at_ [.v (.int .i64 x2.1), .v (.int .i64 x2.2.1), .v (.int .i64 x2.2.2.1), .v (.int .i64 x2.2.2.2)])), (24, .agg [.v (.int .i64 x2.1), .v (.int .i64 x2.2.1), .v (.int .i64 x2.2.2.1), .v (.int .i64 x2.2.2.2)]), (25, .c (.v (.bool p3))), (26, .c (.v (.bool (!p3))))], []⟩) (fun (v0 : VleqSatS_0) => K (.exit 0) ⟨27, 0, [(0, .c (.l 262 sI4 c0.1)), (1, .c (.l 262 sI4 c0.2)), (5, .c (.v (.int .i64 v0))), (11, .c (.v (.int .i64 v0))), (12, .c (.l 262 sI4 c0.1)), (13, .c (.v (.int .i64 (c0.1.length : Int)))), (14, .c (.v (.bool (decide (v0 < (c0.1.length : Int))))))], []⟩) c0 (fun v => loopRun [0, 0, 1, 5] (run E (den E k) (lv 158) k (nthLoop Tryz.f158 0)) n (StleqSatS_0 c0 v) K) v := by kernel_rfl
theorem lleqSatS_0 {R : Type} (k : Nat) (K : Ex → St → Option R) (c0 : CleqSatS_0) : ∀ (n : Nat) (v : VleqSatS_0), loopRun [0, 0, 1, 5] (run E (den E k) (lv 158) k (nthLoop Tryz.f158 0)) n (StleqSatS_0 c0 v) K = LleqSatS_0 k (fun (v0 : VleqSatS_0) (x1 : Int × Int × Int × Int) (x2 : Int × Int × Int × Int) (p3 : Bool) => K .ret ⟨27, 0, [(0, .c (.l 262 sI4 c0.1)), (1, .c (.l 262 sI4 c0.2)), (4, .c (.v (.bool false))), (5, .c (.v (.int .i64 v0))), (11, .c (.v (.int .i64 v0))), (12, .c (.l 262 sI4 c0.1)), (13, .c (.v (.int .i64 (c0.1.length : Int)))), (14, .c (.v (.bool (decide (v0 < (c0.1.length : Int)))))), (17, .c (.l 262 sI4 c0.1)), (18, .c (.v (.int .i64 v0))), (19, .c (.at_ [.v (.int .i64 x1.1), .v (.int .i64 x1.2.1), .v (.int .i64 x1.2.2.1), .v (.int .i64 x1.2.2.2)])), (20, .agg [.v (.int .i64 x1.1), .v (.int .i64 x1.2.1), .v (.int .i64 x1.2.2.1), .v (.int .i64 x1.2.2.2)]), (21, .c (.l 262 sI4 c0.2)), (22, .c (.v (.int .i64 v0))), (23, .c (.at_ [.v (.int .i64 x2.1), .v (.int .i64 x2.2.1), .v (.int .i64 x2.2.2.1), .v (.int .i64 x2.2.2.2)])), (24, .agg [.v (.int .i64 x2.1), .v (.int .i64 x2.2.1), .v (.int .i64 x2.2.2.1), .v (.int .i64 x2.2.2.2)]), (25, .c (.v (.bool p3))), (26, .c (.v (.bool (!p3))))], []⟩) (fun (v0 : VleqSatS_0) => K (.exit 0) ⟨27, 0, [(0, .c (.l 262 sI4 c0.1)), (1, .c (.l 262 sI4 c0.2)), (5, .c (.v (.int .i64 v0))), (11, .c (.v (.int .i64 v0))), (12, .c (.l 262 sI4 c0.1)), (13, .c (.v (.int .i64 (c0.1.length : Int)))), (14, .c (.v (.bool (decide (v0 < (c0.1.length : Int))))))], []⟩) c0 n v := by
  intro n
  induction n with
  | zero => intro v; rfl
  | succ n ih =>
    intro v
    refine (bleqSatS_0 k n K c0 v).trans ?_
    rw [funext ih]
    kernel_rfl
theorem mleqSatS_0 (k : Nat) (a0 : List (Int × Int × Int × Int)) (a1 : List (Int × Int × Int × Int)) : FleqSatS (k + 1) a0 a1 = if ((a0.length : Int) != (a1.length : Int)) = true then some false else loopRun (R := Bool) [0, 0, 1, 5] (run E (den E k) (lv 158) k (nthLoop Tryz.f158 0)) k (StleqSatS_0 (a0, a1) 0) (kontAt E (den E k) (lv 158) k (bodyOf Tryz.f158) 0 [] (finish E (rs 158) Tryz.f158 : Ex → St → Option (Bool))) := by kernel_rfl
theorem eleqSatS (k : Nat) (a0 : List (Int × Int × Int × Int)) (a1 : List (Int × Int × Int × Int)) : FleqSatS (k + 1) a0 a1 = if ((a0.length : Int) != (a1.length : Int)) = true then some false else LleqSatS_0 k (fun (v0 : Int) (x1 : Int × Int × Int × Int) (x2 : Int × Int × Int × Int) (p3 : Bool) => some false) (fun (v0 : Int) => some true) (a0, a1) k 0 := by
  rw [mleqSatS_0]
  simp only [lleqSatS_0]
  kernel_rfl
/-! loop.example/g00599/laws.eqSite -/
noncomputable def FleqSite (k : Nat) (a0 : Int × Int × Int) (a1 : Int × Int × Int) : Option (Bool) := den E k 250 [.agg [.v (.int .i64 a0.1), .v (.int .i64 a0.2.1), .v (.int .i64 a0.2.2)], .agg [.v (.int .i64 a1.1), .v (.int .i64 a1.2.1), .v (.int .i64 a1.2.2)]]
theorem eleqSite (k : Nat) (a0 : Int × Int × Int) (a1 : Int × Int × Int) : FleqSite (k + 1) a0 a1 = if (a0.1 != a1.1) = true then some false else if (a0.2.1 != a1.2.1) = true then some false else if (a0.2.2 != a1.2.2) = true then some false else some true := by kernel_rfl
/-! loop.example/g00599/laws.eqSiteS -/
noncomputable def FleqSiteS (k : Nat) (a0 : List (Int × Int × Int)) (a1 : List (Int × Int × Int)) : Option (Bool) := den E k 159 [.c (.l 266 sI3 a0), .c (.l 266 sI3 a1)]
abbrev CleqSiteS_0 : Type := (List (Int × Int × Int)) × (List (Int × Int × Int))
abbrev VleqSiteS_0 : Type := Int
def StleqSiteS_0 (c0 : CleqSiteS_0) (v0 : VleqSiteS_0) : St := ⟨27, 0, [(0, .c (.l 266 sI3 c0.1)), (1, .c (.l 266 sI3 c0.2)), (5, .c (.v (.int .i64 v0)))], []⟩
noncomputable def BleqSiteS_0 {R : Type} (k : Nat) (X0 : VleqSiteS_0 → (Int × Int × Int) → (Int × Int × Int) → Bool → Option R) (X1 : VleqSiteS_0 → Option R) (c0 : CleqSiteS_0) (rec : VleqSiteS_0 → Option R) (v0 : VleqSiteS_0) : Option R := if (decide (v0 < (c0.1.length : Int))) = true then if 0 ≤ v0 then ix c0.1 v0.toNat fun x1 => if 0 ≤ v0 then ix c0.2 v0.toNat fun x2 => (FleqSite k x1 x2).bind fun p3 => if (!p3) = true then X0 v0 x1 x2 p3 else rec (IntKind.i64.wrap (v0 + 1)) else none else none else X1 v0
noncomputable def LleqSiteS_0 {R : Type} (k : Nat) (X0 : VleqSiteS_0 → (Int × Int × Int) → (Int × Int × Int) → Bool → Option R) (X1 : VleqSiteS_0 → Option R) (c : CleqSiteS_0) : Nat → VleqSiteS_0 → Option R
  | 0, _ => none
  | n + 1, v => BleqSiteS_0 k X0 X1 c (LleqSiteS_0 k X0 X1 c n) v
theorem bleqSiteS_0 {R : Type} (k n : Nat) (K : Ex → St → Option R) (c0 : CleqSiteS_0) (v : VleqSiteS_0) : loopRun [0, 0, 1, 5] (run E (den E k) (lv 159) k (nthLoop Tryz.f159 0)) (n + 1) (StleqSiteS_0 c0 v) K = BleqSiteS_0 k (fun (v0 : VleqSiteS_0) (x1 : Int × Int × Int) (x2 : Int × Int × Int) (p3 : Bool) => K .ret ⟨27, 0, [(0, .c (.l 266 sI3 c0.1)), (1, .c (.l 266 sI3 c0.2)), (4, .c (.v (.bool false))), (5, .c (.v (.int .i64 v0))), (11, .c (.v (.int .i64 v0))), (12, .c (.l 266 sI3 c0.1)), (13, .c (.v (.int .i64 (c0.1.length : Int)))), (14, .c (.v (.bool (decide (v0 < (c0.1.length : Int)))))), (17, .c (.l 266 sI3 c0.1)), (18, .c (.v (.int .i64 v0))), (19, .c (.at_ [.v (.int .i64 x1.1), .v (.int .i64 x1.2.1), .v (.int .i64 x1.2.2)])), (20, .agg [.v (.int .i64 x1.1), .v (.int .i64 x1.2.1), .v (.int .i64 x1.2.2)]), (21, .c (.l 266 sI3 c0.2)), (22, .c (.v (.int .i64 v0))), (23, .c (.at_ [.v (.int .i64 x2.1), .v (.int .i64 x2.2.1), .v (.int .i64 x2.2.2)])), (24, .agg [.v (.int .i64 x2.1), .v (.int .i64 x2.2.1), .v (.int .i64 x2.2.2)]), (25, .c (.v (.bool p3))), (26, .c (.v (.bool (!p3))))], []⟩) (fun (v0 : VleqSiteS_0) => K (.exit 0) ⟨27, 0, [(0, .c (.l 266 sI3 c0.1)), (1, .c (.l 266 sI3 c0.2)), (5, .c (.v (.int .i64 v0))), (11, .c (.v (.int .i64 v0))), (12, .c (.l 266 sI3 c0.1)), (13, .c (.v (.int .i64 (c0.1.length : Int)))), (14, .c (.v (.bool (decide (v0 < (c0.1.length : Int))))))], []⟩) c0 (fun v => loopRun [0, 0, 1, 5] (run E (den E k) (lv 159) k (nthLoop Tryz.f159 0)) n (StleqSiteS_0 c0 v) K) v := by kernel_rfl
theorem lleqSiteS_0 {R : Type} (k : Nat) (K : Ex → St → Option R) (c0 : CleqSiteS_0) : ∀ (n : Nat) (v : VleqSiteS_0), loopRun [0, 0, 1, 5] (run E (den E k) (lv 159) k (nthLoop Tryz.f159 0)) n (StleqSiteS_0 c0 v) K = LleqSiteS_0 k (fun (v0 : VleqSiteS_0) (x1 : Int × Int × Int) (x2 : Int × Int × Int) (p3 : Bool) => K .ret ⟨27, 0, [(0, .c (.l 266 sI3 c0.1)), (1, .c (.l 266 sI3 c0.2)), (4, .c (.v (.bool false))), (5, .c (.v (.int .i64 v0))), (11, .c (.v (.int .i64 v0))), (12, .c (.l 266 sI3 c0.1)), (13, .c (.v (.int .i64 (c0.1.length : Int)))), (14, .c (.v (.bool (decide (v0 < (c0.1.length : Int)))))), (17, .c (.l 266 sI3 c0.1)), (18, .c (.v (.int .i64 v0))), (19, .c (.at_ [.v (.int .i64 x1.1), .v (.int .i64 x1.2.1), .v (.int .i64 x1.2.2)])), (20, .agg [.v (.int .i64 x1.1), .v (.int .i64 x1.2.1), .v (.int .i64 x1.2.2)]), (21, .c (.l 266 sI3 c0.2)), (22, .c (.v (.int .i64 v0))), (23, .c (.at_ [.v (.int .i64 x2.1), .v (.int .i64 x2.2.1), .v (.int .i64 x2.2.2)])), (24, .agg [.v (.int .i64 x2.1), .v (.int .i64 x2.2.1), .v (.int .i64 x2.2.2)]), (25, .c (.v (.bool p3))), (26, .c (.v (.bool (!p3))))], []⟩) (fun (v0 : VleqSiteS_0) => K (.exit 0) ⟨27, 0, [(0, .c (.l 266 sI3 c0.1)), (1, .c (.l 266 sI3 c0.2)), (5, .c (.v (.int .i64 v0))), (11, .c (.v (.int .i64 v0))), (12, .c (.l 266 sI3 c0.1)), (13, .c (.v (.int .i64 (c0.1.length : Int)))), (14, .c (.v (.bool (decide (v0 < (c0.1.length : Int))))))], []⟩) c0 n v := by
  intro n
  induction n with
  | zero => intro v; rfl
  | succ n ih =>
    intro v
    refine (bleqSiteS_0 k n K c0 v).trans ?_
    rw [funext ih]
    kernel_rfl
theorem mleqSiteS_0 (k : Nat) (a0 : List (Int × Int × Int)) (a1 : List (Int × Int × Int)) : FleqSiteS (k + 1) a0 a1 = if ((a0.length : Int) != (a1.length : Int)) = true then some false else loopRun (R := Bool) [0, 0, 1, 5] (run E (den E k) (lv 159) k (nthLoop Tryz.f159 0)) k (StleqSiteS_0 (a0, a1) 0) (kontAt E (den E k) (lv 159) k (bodyOf Tryz.f159) 0 [] (finish E (rs 159) Tryz.f159 : Ex → St → Option (Bool))) := by kernel_rfl
theorem eleqSiteS (k : Nat) (a0 : List (Int × Int × Int)) (a1 : List (Int × Int × Int)) : FleqSiteS (k + 1) a0 a1 = if ((a0.length : Int) != (a1.length : Int)) = true then some false else LleqSiteS_0 k (fun (v0 : Int) (x1 : Int × Int × Int) (x2 : Int × Int × Int) (p3 : Bool) => some false) (fun (v0 : Int) => some true) (a0, a1) k 0 := by
  rw [mleqSiteS_0]
  simp only [lleqSiteS_0]
  kernel_rfl
/-! loop.example/g00599/laws.eqArc -/
noncomputable def FleqArc (k : Nat) (a0 : Int × Int) (a1 : Int × Int) : Option (Bool) := den E k 307 [.agg [.v (.int .i64 a0.1), .v (.int .i64 a0.2)], .agg [.v (.int .i64 a1.1), .v (.int .i64 a1.2)]]
theorem eleqArc (k : Nat) (a0 : Int × Int) (a1 : Int × Int) : FleqArc (k + 1) a0 a1 = if (a0.1 != a1.1) = true then some false else if (a0.2 != a1.2) = true then some false else some true := by kernel_rfl
/-! loop.example/g00599/laws.eqZone -/
noncomputable def FleqZone (k : Nat) (a0 : Int × Int × Int) (a1 : Int × Int × Int) : Option (Bool) := den E k 251 [.agg [.v (.int .i64 a0.1), .v (.int .i64 a0.2.1), .v (.int .i64 a0.2.2)], .agg [.v (.int .i64 a1.1), .v (.int .i64 a1.2.1), .v (.int .i64 a1.2.2)]]
theorem eleqZone (k : Nat) (a0 : Int × Int × Int) (a1 : Int × Int × Int) : FleqZone (k + 1) a0 a1 = if (a0.1 != a1.1) = true then some false else (FleqArc k a0.2 a1.2).bind fun p1 => if (!p1) = true then some false else some true := by kernel_rfl
/-! loop.example/g00599/laws.eqZoneS -/
noncomputable def FleqZoneS (k : Nat) (a0 : List (Int × Int × Int)) (a1 : List (Int × Int × Int)) : Option (Bool) := den E k 160 [.c (.l 272 sZone a0), .c (.l 272 sZone a1)]
abbrev CleqZoneS_0 : Type := (List (Int × Int × Int)) × (List (Int × Int × Int))
abbrev VleqZoneS_0 : Type := Int
def StleqZoneS_0 (c0 : CleqZoneS_0) (v0 : VleqZoneS_0) : St := ⟨27, 0, [(0, .c (.l 272 sZone c0.1)), (1, .c (.l 272 sZone c0.2)), (5, .c (.v (.int .i64 v0)))], []⟩
noncomputable def BleqZoneS_0 {R : Type} (k : Nat) (X0 : VleqZoneS_0 → (Int × Int × Int) → (Int × Int × Int) → Bool → Option R) (X1 : VleqZoneS_0 → Option R) (c0 : CleqZoneS_0) (rec : VleqZoneS_0 → Option R) (v0 : VleqZoneS_0) : Option R := if (decide (v0 < (c0.1.length : Int))) = true then if 0 ≤ v0 then ix c0.1 v0.toNat fun x1 => if 0 ≤ v0 then ix c0.2 v0.toNat fun x2 => (FleqZone k x1 x2).bind fun p3 => if (!p3) = true then X0 v0 x1 x2 p3 else rec (IntKind.i64.wrap (v0 + 1)) else none else none else X1 v0
noncomputable def LleqZoneS_0 {R : Type} (k : Nat) (X0 : VleqZoneS_0 → (Int × Int × Int) → (Int × Int × Int) → Bool → Option R) (X1 : VleqZoneS_0 → Option R) (c : CleqZoneS_0) : Nat → VleqZoneS_0 → Option R
  | 0, _ => none
  | n + 1, v => BleqZoneS_0 k X0 X1 c (LleqZoneS_0 k X0 X1 c n) v
theorem bleqZoneS_0 {R : Type} (k n : Nat) (K : Ex → St → Option R) (c0 : CleqZoneS_0) (v : VleqZoneS_0) : loopRun [0, 0, 1, 5] (run E (den E k) (lv 160) k (nthLoop Tryz.f160 0)) (n + 1) (StleqZoneS_0 c0 v) K = BleqZoneS_0 k (fun (v0 : VleqZoneS_0) (x1 : Int × Int × Int) (x2 : Int × Int × Int) (p3 : Bool) => K .ret ⟨27, 0, [(0, .c (.l 272 sZone c0.1)), (1, .c (.l 272 sZone c0.2)), (4, .c (.v (.bool false))), (5, .c (.v (.int .i64 v0))), (11, .c (.v (.int .i64 v0))), (12, .c (.l 272 sZone c0.1)), (13, .c (.v (.int .i64 (c0.1.length : Int)))), (14, .c (.v (.bool (decide (v0 < (c0.1.length : Int)))))), (17, .c (.l 272 sZone c0.1)), (18, .c (.v (.int .i64 v0))), (19, .c (.at_ [.v (.int .i64 x1.1), .v (.int .i64 x1.2.1), .v (.int .i64 x1.2.2)])), (20, .agg [.v (.int .i64 x1.1), .v (.int .i64 x1.2.1), .v (.int .i64 x1.2.2)]), (21, .c (.l 272 sZone c0.2)), (22, .c (.v (.int .i64 v0))), (23, .c (.at_ [.v (.int .i64 x2.1), .v (.int .i64 x2.2.1), .v (.int .i64 x2.2.2)])), (24, .agg [.v (.int .i64 x2.1), .v (.int .i64 x2.2.1), .v (.int .i64 x2.2.2)]), (25, .c (.v (.bool p3))), (26, .c (.v (.bool (!p3))))], []⟩) (fun (v0 : VleqZoneS_0) => K (.exit 0) ⟨27, 0, [(0, .c (.l 272 sZone c0.1)), (1, .c (.l 272 sZone c0.2)), (5, .c (.v (.int .i64 v0))), (11, .c (.v (.int .i64 v0))), (12, .c (.l 272 sZone c0.1)), (13, .c (.v (.int .i64 (c0.1.length : Int)))), (14, .c (.v (.bool (decide (v0 < (c0.1.length : Int))))))], []⟩) c0 (fun v => loopRun [0, 0, 1, 5] (run E (den E k) (lv 160) k (nthLoop Tryz.f160 0)) n (StleqZoneS_0 c0 v) K) v := by kernel_rfl
theorem lleqZoneS_0 {R : Type} (k : Nat) (K : Ex → St → Option R) (c0 : CleqZoneS_0) : ∀ (n : Nat) (v : VleqZoneS_0), loopRun [0, 0, 1, 5] (run E (den E k) (lv 160) k (nthLoop Tryz.f160 0)) n (StleqZoneS_0 c0 v) K = LleqZoneS_0 k (fun (v0 : VleqZoneS_0) (x1 : Int × Int × Int) (x2 : Int × Int × Int) (p3 : Bool) => K .ret ⟨27, 0, [(0, .c (.l 272 sZone c0.1)), (1, .c (.l 272 sZone c0.2)), (4, .c (.v (.bool false))), (5, .c (.v (.int .i64 v0))), (11, .c (.v (.int .i64 v0))), (12, .c (.l 272 sZone c0.1)), (13, .c (.v (.int .i64 (c0.1.length : Int)))), (14, .c (.v (.bool (decide (v0 < (c0.1.length : Int)))))), (17, .c (.l 272 sZone c0.1)), (18, .c (.v (.int .i64 v0))), (19, .c (.at_ [.v (.int .i64 x1.1), .v (.int .i64 x1.2.1), .v (.int .i64 x1.2.2)])), (20, .agg [.v (.int .i64 x1.1), .v (.int .i64 x1.2.1), .v (.int .i64 x1.2.2)]), (21, .c (.l 272 sZone c0.2)), (22, .c (.v (.int .i64 v0))), (23, .c (.at_ [.v (.int .i64 x2.1), .v (.int .i64 x2.2.1), .v (.int .i64 x2.2.2)])), (24, .agg [.v (.int .i64 x2.1), .v (.int .i64 x2.2.1), .v (.int .i64 x2.2.2)]), (25, .c (.v (.bool p3))), (26, .c (.v (.bool (!p3))))], []⟩) (fun (v0 : VleqZoneS_0) => K (.exit 0) ⟨27, 0, [(0, .c (.l 272 sZone c0.1)), (1, .c (.l 272 sZone c0.2)), (5, .c (.v (.int .i64 v0))), (11, .c (.v (.int .i64 v0))), (12, .c (.l 272 sZone c0.1)), (13, .c (.v (.int .i64 (c0.1.length : Int)))), (14, .c (.v (.bool (decide (v0 < (c0.1.length : Int))))))], []⟩) c0 n v := by
  intro n
  induction n with
  | zero => intro v; rfl
  | succ n ih =>
    intro v
    refine (bleqZoneS_0 k n K c0 v).trans ?_
    rw [funext ih]
    kernel_rfl
theorem mleqZoneS_0 (k : Nat) (a0 : List (Int × Int × Int)) (a1 : List (Int × Int × Int)) : FleqZoneS (k + 1) a0 a1 = if ((a0.length : Int) != (a1.length : Int)) = true then some false else loopRun (R := Bool) [0, 0, 1, 5] (run E (den E k) (lv 160) k (nthLoop Tryz.f160 0)) k (StleqZoneS_0 (a0, a1) 0) (kontAt E (den E k) (lv 160) k (bodyOf Tryz.f160) 0 [] (finish E (rs 160) Tryz.f160 : Ex → St → Option (Bool))) := by kernel_rfl
theorem eleqZoneS (k : Nat) (a0 : List (Int × Int × Int)) (a1 : List (Int × Int × Int)) : FleqZoneS (k + 1) a0 a1 = if ((a0.length : Int) != (a1.length : Int)) = true then some false else LleqZoneS_0 k (fun (v0 : Int) (x1 : Int × Int × Int) (x2 : Int × Int × Int) (p3 : Bool) => some false) (fun (v0 : Int) => some true) (a0, a1) k 0 := by
  rw [mleqZoneS_0]
  simp only [lleqZoneS_0]
  kernel_rfl
/-! loop.example/g00599/laws.eqSky -/
noncomputable def FleqSky (k : Nat) (a0 : TSky) (a1 : TSky) : Option (Bool) := den E k 72 [.agg [.v (.int .i64 a0.1), .l 262 sI4 a0.2.1, .l 266 sI3 a0.2.2.1, .v (.int .i64 a0.2.2.2.1), .v (.int .i64 a0.2.2.2.2.1), .v (.int .i64 a0.2.2.2.2.2.1), .v (.int .i64 a0.2.2.2.2.2.2.1), .v (.int .i64 a0.2.2.2.2.2.2.2.1), .l 272 sZone a0.2.2.2.2.2.2.2.2.1, .v (.int .i64 a0.2.2.2.2.2.2.2.2.2)], .agg [.v (.int .i64 a1.1), .l 262 sI4 a1.2.1, .l 266 sI3 a1.2.2.1, .v (.int .i64 a1.2.2.2.1), .v (.int .i64 a1.2.2.2.2.1), .v (.int .i64 a1.2.2.2.2.2.1), .v (.int .i64 a1.2.2.2.2.2.2.1), .v (.int .i64 a1.2.2.2.2.2.2.2.1), .l 272 sZone a1.2.2.2.2.2.2.2.2.1, .v (.int .i64 a1.2.2.2.2.2.2.2.2.2)]]
theorem eleqSky (k : Nat) (a0 : TSky) (a1 : TSky) : FleqSky (k + 1) a0 a1 = if (a0.1 != a1.1) = true then some false else (FleqSatS k a0.2.1 a1.2.1).bind fun p1 => if (!p1) = true then some false else (FleqSiteS k a0.2.2.1 a1.2.2.1).bind fun p2 => if (!p2) = true then some false else if (a0.2.2.2.1 != a1.2.2.2.1) = true then some false else if (a0.2.2.2.2.1 != a1.2.2.2.2.1) = true then some false else if (a0.2.2.2.2.2.1 != a1.2.2.2.2.2.1) = true then some false else if (a0.2.2.2.2.2.2.1 != a1.2.2.2.2.2.2.1) = true then some false else if (a0.2.2.2.2.2.2.2.1 != a1.2.2.2.2.2.2.2.1) = true then some false else (FleqZoneS k a0.2.2.2.2.2.2.2.2.1 a1.2.2.2.2.2.2.2.2.1).bind fun p3 => if (!p3) = true then some false else if (a0.2.2.2.2.2.2.2.2.2 != a1.2.2.2.2.2.2.2.2.2) = true then some false else some true := by kernel_rfl
/-! loop.example/g00599/laws.eqStream -/
noncomputable def FleqStream (k : Nat) (a0 : Int × Int × List Int) (a1 : Int × Int × List Int) : Option (Bool) := den E k 165 [.agg [.v (.int .i64 a0.1), .v (.int .i64 a0.2.1), .l 3 (.i .i64) a0.2.2], .agg [.v (.int .i64 a1.1), .v (.int .i64 a1.2.1), .l 3 (.i .i64) a1.2.2]]
theorem eleqStream (k : Nat) (a0 : Int × Int × List Int) (a1 : Int × Int × List Int) : FleqStream (k + 1) a0 a1 = if (a0.1 != a1.1) = true then some false else if (a0.2.1 != a1.2.1) = true then some false else (FleqIntS k a0.2.2 a1.2.2).bind fun p1 => if (!p1) = true then some false else some true := by kernel_rfl
/-! loop.example/g00599/laws.eqStreamS -/
noncomputable def FleqStreamS (k : Nat) (a0 : List (Int × Int × List Int)) (a1 : List (Int × Int × List Int)) : Option (Bool) := den E k 78 [.c (.l 166 sStream a0), .c (.l 166 sStream a1)]
abbrev CleqStreamS_0 : Type := (List (Int × Int × List Int)) × (List (Int × Int × List Int))
abbrev VleqStreamS_0 : Type := Int
def StleqStreamS_0 (c0 : CleqStreamS_0) (v0 : VleqStreamS_0) : St := ⟨27, 0, [(0, .c (.l 166 sStream c0.1)), (1, .c (.l 166 sStream c0.2)), (5, .c (.v (.int .i64 v0)))], []⟩
noncomputable def BleqStreamS_0 {R : Type} (k : Nat) (X0 : VleqStreamS_0 → (Int × Int × List Int) → (Int × Int × List Int) → Bool → Option R) (X1 : VleqStreamS_0 → Option R) (c0 : CleqStreamS_0) (rec : VleqStreamS_0 → Option R) (v0 : VleqStreamS_0) : Option R := if (decide (v0 < (c0.1.length : Int))) = true then if 0 ≤ v0 then ix c0.1 v0.toNat fun x1 => if 0 ≤ v0 then ix c0.2 v0.toNat fun x2 => (FleqStream k x1 x2).bind fun p3 => if (!p3) = true then X0 v0 x1 x2 p3 else rec (IntKind.i64.wrap (v0 + 1)) else none else none else X1 v0
noncomputable def LleqStreamS_0 {R : Type} (k : Nat) (X0 : VleqStreamS_0 → (Int × Int × List Int) → (Int × Int × List Int) → Bool → Option R) (X1 : VleqStreamS_0 → Option R) (c : CleqStreamS_0) : Nat → VleqStreamS_0 → Option R
  | 0, _ => none
  | n + 1, v => BleqStreamS_0 k X0 X1 c (LleqStreamS_0 k X0 X1 c n) v
theorem bleqStreamS_0 {R : Type} (k n : Nat) (K : Ex → St → Option R) (c0 : CleqStreamS_0) (v : VleqStreamS_0) : loopRun [0, 0, 1, 5] (run E (den E k) (lv 78) k (nthLoop Tryz.f78 0)) (n + 1) (StleqStreamS_0 c0 v) K = BleqStreamS_0 k (fun (v0 : VleqStreamS_0) (x1 : Int × Int × List Int) (x2 : Int × Int × List Int) (p3 : Bool) => K .ret ⟨27, 0, [(0, .c (.l 166 sStream c0.1)), (1, .c (.l 166 sStream c0.2)), (4, .c (.v (.bool false))), (5, .c (.v (.int .i64 v0))), (11, .c (.v (.int .i64 v0))), (12, .c (.l 166 sStream c0.1)), (13, .c (.v (.int .i64 (c0.1.length : Int)))), (14, .c (.v (.bool (decide (v0 < (c0.1.length : Int)))))), (17, .c (.l 166 sStream c0.1)), (18, .c (.v (.int .i64 v0))), (19, .c (.at_ [.v (.int .i64 x1.1), .v (.int .i64 x1.2.1), .l 3 (.i .i64) x1.2.2])), (20, .agg [.v (.int .i64 x1.1), .v (.int .i64 x1.2.1), .l 3 (.i .i64) x1.2.2]), (21, .c (.l 166 sStream c0.2)), (22, .c (.v (.int .i64 v0))), (23, .c (.at_ [.v (.int .i64 x2.1), .v (.int .i64 x2.2.1), .l 3 (.i .i64) x2.2.2])), (24, .agg [.v (.int .i64 x2.1), .v (.int .i64 x2.2.1), .l 3 (.i .i64) x2.2.2]), (25, .c (.v (.bool p3))), (26, .c (.v (.bool (!p3))))], []⟩) (fun (v0 : VleqStreamS_0) => K (.exit 0) ⟨27, 0, [(0, .c (.l 166 sStream c0.1)), (1, .c (.l 166 sStream c0.2)), (5, .c (.v (.int .i64 v0))), (11, .c (.v (.int .i64 v0))), (12, .c (.l 166 sStream c0.1)), (13, .c (.v (.int .i64 (c0.1.length : Int)))), (14, .c (.v (.bool (decide (v0 < (c0.1.length : Int))))))], []⟩) c0 (fun v => loopRun [0, 0, 1, 5] (run E (den E k) (lv 78) k (nthLoop Tryz.f78 0)) n (StleqStreamS_0 c0 v) K) v := by kernel_rfl
theorem lleqStreamS_0 {R : Type} (k : Nat) (K : Ex → St → Option R) (c0 : CleqStreamS_0) : ∀ (n : Nat) (v : VleqStreamS_0), loopRun [0, 0, 1, 5] (run E (den E k) (lv 78) k (nthLoop Tryz.f78 0)) n (StleqStreamS_0 c0 v) K = LleqStreamS_0 k (fun (v0 : VleqStreamS_0) (x1 : Int × Int × List Int) (x2 : Int × Int × List Int) (p3 : Bool) => K .ret ⟨27, 0, [(0, .c (.l 166 sStream c0.1)), (1, .c (.l 166 sStream c0.2)), (4, .c (.v (.bool false))), (5, .c (.v (.int .i64 v0))), (11, .c (.v (.int .i64 v0))), (12, .c (.l 166 sStream c0.1)), (13, .c (.v (.int .i64 (c0.1.length : Int)))), (14, .c (.v (.bool (decide (v0 < (c0.1.length : Int)))))), (17, .c (.l 166 sStream c0.1)), (18, .c (.v (.int .i64 v0))), (19, .c (.at_ [.v (.int .i64 x1.1), .v (.int .i64 x1.2.1), .l 3 (.i .i64) x1.2.2])), (20, .agg [.v (.int .i64 x1.1), .v (.int .i64 x1.2.1), .l 3 (.i .i64) x1.2.2]), (21, .c (.l 166 sStream c0.2)), (22, .c (.v (.int .i64 v0))), (23, .c (.at_ [.v (.int .i64 x2.1), .v (.int .i64 x2.2.1), .l 3 (.i .i64) x2.2.2])), (24, .agg [.v (.int .i64 x2.1), .v (.int .i64 x2.2.1), .l 3 (.i .i64) x2.2.2]), (25, .c (.v (.bool p3))), (26, .c (.v (.bool (!p3))))], []⟩) (fun (v0 : VleqStreamS_0) => K (.exit 0) ⟨27, 0, [(0, .c (.l 166 sStream c0.1)), (1, .c (.l 166 sStream c0.2)), (5, .c (.v (.int .i64 v0))), (11, .c (.v (.int .i64 v0))), (12, .c (.l 166 sStream c0.1)), (13, .c (.v (.int .i64 (c0.1.length : Int)))), (14, .c (.v (.bool (decide (v0 < (c0.1.length : Int))))))], []⟩) c0 n v := by
  intro n
  induction n with
  | zero => intro v; rfl
  | succ n ih =>
    intro v
    refine (bleqStreamS_0 k n K c0 v).trans ?_
    rw [funext ih]
    kernel_rfl
theorem mleqStreamS_0 (k : Nat) (a0 : List (Int × Int × List Int)) (a1 : List (Int × Int × List Int)) : FleqStreamS (k + 1) a0 a1 = if ((a0.length : Int) != (a1.length : Int)) = true then some false else loopRun (R := Bool) [0, 0, 1, 5] (run E (den E k) (lv 78) k (nthLoop Tryz.f78 0)) k (StleqStreamS_0 (a0, a1) 0) (kontAt E (den E k) (lv 78) k (bodyOf Tryz.f78) 0 [] (finish E (rs 78) Tryz.f78 : Ex → St → Option (Bool))) := by kernel_rfl
theorem eleqStreamS (k : Nat) (a0 : List (Int × Int × List Int)) (a1 : List (Int × Int × List Int)) : FleqStreamS (k + 1) a0 a1 = if ((a0.length : Int) != (a1.length : Int)) = true then some false else LleqStreamS_0 k (fun (v0 : Int) (x1 : Int × Int × List Int) (x2 : Int × Int × List Int) (p3 : Bool) => some false) (fun (v0 : Int) => some true) (a0, a1) k 0 := by
  rw [mleqStreamS_0]
  simp only [lleqStreamS_0]
  kernel_rfl
/-! loop.example/g00599/laws.eqWorld -/
noncomputable def FleqWorld (k : Nat) (a0 : TWorld) (a1 : TWorld) : Option (Bool) := den E k 19 [.agg [.v (.int .i64 a0.1.1), .l 262 sI4 a0.1.2.1, .l 266 sI3 a0.1.2.2.1, .v (.int .i64 a0.1.2.2.2.1), .v (.int .i64 a0.1.2.2.2.2.1), .v (.int .i64 a0.1.2.2.2.2.2.1), .v (.int .i64 a0.1.2.2.2.2.2.2.1), .v (.int .i64 a0.1.2.2.2.2.2.2.2.1), .l 272 sZone a0.1.2.2.2.2.2.2.2.2.1, .v (.int .i64 a0.1.2.2.2.2.2.2.2.2.2), .v (.int .i64 a0.2.1.1), .v (.int .i64 a0.2.1.2.1), .v (.int .i64 a0.2.1.2.2.1), .l 247 sPiece a0.2.1.2.2.2, .l 3 (.i .i64) a0.2.2.1, .l 3 (.i .i64) a0.2.2.2.1, .l 141 sI6 a0.2.2.2.2.1, .l 158 sQueue a0.2.2.2.2.2.1, .l 86 sI4 a0.2.2.2.2.2.2.1, .l 3 (.i .i64) a0.2.2.2.2.2.2.2.1, .l 166 sStream a0.2.2.2.2.2.2.2.2.1, .l 79 sI4 a0.2.2.2.2.2.2.2.2.2.1, .v (.int .i64 a0.2.2.2.2.2.2.2.2.2.2.1), .v (.int .i64 a0.2.2.2.2.2.2.2.2.2.2.2.1), .l 155 sI6 a0.2.2.2.2.2.2.2.2.2.2.2.2.1, .l 94 sI4 a0.2.2.2.2.2.2.2.2.2.2.2.2.2], .agg [.v (.int .i64 a1.1.1), .l 262 sI4 a1.1.2.1, .l 266 sI3 a1.1.2.2.1, .v (.int .i64 a1.1.2.2.2.1), .v (.int .i64 a1.1.2.2.2.2.1), .v (.int .i64 a1.1.2.2.2.2.2.1), .v (.int .i64 a1.1.2.2.2.2.2.2.1), .v (.int .i64 a1.1.2.2.2.2.2.2.2.1), .l 272 sZone a1.1.2.2.2.2.2.2.2.2.1, .v (.int .i64 a1.1.2.2.2.2.2.2.2.2.2), .v (.int .i64 a1.2.1.1), .v (.int .i64 a1.2.1.2.1), .v (.int .i64 a1.2.1.2.2.1), .l 247 sPiece a1.2.1.2.2.2, .l 3 (.i .i64) a1.2.2.1, .l 3 (.i .i64) a1.2.2.2.1, .l 141 sI6 a1.2.2.2.2.1, .l 158 sQueue a1.2.2.2.2.2.1, .l 86 sI4 a1.2.2.2.2.2.2.1, .l 3 (.i .i64) a1.2.2.2.2.2.2.2.1, .l 166 sStream a1.2.2.2.2.2.2.2.2.1, .l 79 sI4 a1.2.2.2.2.2.2.2.2.2.1, .v (.int .i64 a1.2.2.2.2.2.2.2.2.2.2.1), .v (.int .i64 a1.2.2.2.2.2.2.2.2.2.2.2.1), .l 155 sI6 a1.2.2.2.2.2.2.2.2.2.2.2.2.1, .l 94 sI4 a1.2.2.2.2.2.2.2.2.2.2.2.2.2]]
theorem eleqWorld (k : Nat) (a0 : TWorld) (a1 : TWorld) : FleqWorld (k + 1) a0 a1 = (FleqSky k a0.1 a1.1).bind fun p1 => if (!p1) = true then some false else (FleqProgram k a0.2.1 a1.2.1).bind fun p2 => if (!p2) = true then some false else (FleqLaw k a0.2.2.1 a1.2.2.1).bind fun p3 => if (!p3) = true then some false else (FleqIntS k a0.2.2.2.1 a1.2.2.2.1).bind fun p4 => if (!p4) = true then some false else (FleqBatteryS k a0.2.2.2.2.1 a1.2.2.2.2.1).bind fun p5 => if (!p5) = true then some false else (FleqQueueS k a0.2.2.2.2.2.1 a1.2.2.2.2.2.1).bind fun p6 => if (!p6) = true then some false else (FleqFlowS k a0.2.2.2.2.2.2.1 a1.2.2.2.2.2.2.1).bind fun p7 => if (!p7) = true then some false else (FleqIntS k a0.2.2.2.2.2.2.2.1 a1.2.2.2.2.2.2.2.1).bind fun p8 => if (!p8) = true then some false else (FleqStreamS k a0.2.2.2.2.2.2.2.2.1 a1.2.2.2.2.2.2.2.2.1).bind fun p9 => if (!p9) = true then some false else (FleqFaultS k a0.2.2.2.2.2.2.2.2.2.1 a1.2.2.2.2.2.2.2.2.2.1).bind fun p10 => if (!p10) = true then some false else if (a0.2.2.2.2.2.2.2.2.2.2.1 != a1.2.2.2.2.2.2.2.2.2.2.1) = true then some false else if (a0.2.2.2.2.2.2.2.2.2.2.2.1 != a1.2.2.2.2.2.2.2.2.2.2.2.1) = true then some false else (FleqPacketS k a0.2.2.2.2.2.2.2.2.2.2.2.2.1 a1.2.2.2.2.2.2.2.2.2.2.2.2.1).bind fun p11 => if (!p11) = true then some false else (FleqSentS k a0.2.2.2.2.2.2.2.2.2.2.2.2.2 a1.2.2.2.2.2.2.2.2.2.2.2.2.2).bind fun p12 => if (!p12) = true then some false else some true := by kernel_rfl
/-! loop.example/g00599/laws.heldIntS -/
noncomputable def FlheldIntS (k : Nat) (a0 : List Int) (a1 : Int) : Option (Int) := den E k 22 [.c (.l 3 (.i .i64) a0), .c (.v (.int .i64 a1))]
abbrev ClheldIntS_0 : Type := (List Int)
abbrev VlheldIntS_0 : Type := Int × Int
def StlheldIntS_0 (c0 : ClheldIntS_0) (v0 : VlheldIntS_0) : St := ⟨21, 0, [(0, .c (.l 3 (.i .i64) c0)), (1, .c (.v (.int .i64 v0.1))), (5, .c (.v (.int .i64 v0.2)))], []⟩
noncomputable def BlheldIntS_0 {R : Type} (k : Nat) (X0 : VlheldIntS_0 → Int → Option R) (X1 : VlheldIntS_0 → Option R) (c0 : ClheldIntS_0) (rec : VlheldIntS_0 → Option R) (v0 : VlheldIntS_0) : Option R := if (decide (v0.2 < (c0.length : Int))) = true then if 0 ≤ v0.2 then ix c0 v0.2.toNat fun x1 => if (x1 != v0.1) = true then X0 v0 x1 else rec ((IntKind.i64.wrap (v0.1 + 1)), (IntKind.i64.wrap (v0.2 + 1))) else none else X1 v0
noncomputable def LlheldIntS_0 {R : Type} (k : Nat) (X0 : VlheldIntS_0 → Int → Option R) (X1 : VlheldIntS_0 → Option R) (c : ClheldIntS_0) : Nat → VlheldIntS_0 → Option R
  | 0, _ => none
  | n + 1, v => BlheldIntS_0 k X0 X1 c (LlheldIntS_0 k X0 X1 c n) v
theorem blheldIntS_0 {R : Type} (k n : Nat) (K : Ex → St → Option R) (c0 : ClheldIntS_0) (v : VlheldIntS_0) : loopRun [0, 0, 1, 5] (run E (den E k) (lv 22) k (nthLoop Tryz.f22 0)) (n + 1) (StlheldIntS_0 c0 v) K = BlheldIntS_0 k (fun (v0 : VlheldIntS_0) (x1 : Int) => K .ret ⟨21, 0, [(0, .c (.l 3 (.i .i64) c0)), (1, .c (.v (.int .i64 v0.1))), (4, .c (.v (.int .i64 (-1)))), (5, .c (.v (.int .i64 v0.2))), (6, .c (.v (.int .i64 v0.2))), (7, .c (.l 3 (.i .i64) c0)), (8, .c (.v (.int .i64 (c0.length : Int)))), (9, .c (.v (.bool (decide (v0.2 < (c0.length : Int)))))), (12, .c (.l 3 (.i .i64) c0)), (13, .c (.v (.int .i64 v0.2))), (14, .c (.at_ [.v (.int .i64 x1)])), (15, .c (.v (.int .i64 x1))), (16, .c (.v (.int .i64 v0.1))), (17, .c (.v (.bool (x1 != v0.1))))], []⟩) (fun (v0 : VlheldIntS_0) => K (.exit 0) ⟨21, 0, [(0, .c (.l 3 (.i .i64) c0)), (1, .c (.v (.int .i64 v0.1))), (5, .c (.v (.int .i64 v0.2))), (6, .c (.v (.int .i64 v0.2))), (7, .c (.l 3 (.i .i64) c0)), (8, .c (.v (.int .i64 (c0.length : Int)))), (9, .c (.v (.bool (decide (v0.2 < (c0.length : Int))))))], []⟩) c0 (fun v => loopRun [0, 0, 1, 5] (run E (den E k) (lv 22) k (nthLoop Tryz.f22 0)) n (StlheldIntS_0 c0 v) K) v := by kernel_rfl
theorem llheldIntS_0 {R : Type} (k : Nat) (K : Ex → St → Option R) (c0 : ClheldIntS_0) : ∀ (n : Nat) (v : VlheldIntS_0), loopRun [0, 0, 1, 5] (run E (den E k) (lv 22) k (nthLoop Tryz.f22 0)) n (StlheldIntS_0 c0 v) K = LlheldIntS_0 k (fun (v0 : VlheldIntS_0) (x1 : Int) => K .ret ⟨21, 0, [(0, .c (.l 3 (.i .i64) c0)), (1, .c (.v (.int .i64 v0.1))), (4, .c (.v (.int .i64 (-1)))), (5, .c (.v (.int .i64 v0.2))), (6, .c (.v (.int .i64 v0.2))), (7, .c (.l 3 (.i .i64) c0)), (8, .c (.v (.int .i64 (c0.length : Int)))), (9, .c (.v (.bool (decide (v0.2 < (c0.length : Int)))))), (12, .c (.l 3 (.i .i64) c0)), (13, .c (.v (.int .i64 v0.2))), (14, .c (.at_ [.v (.int .i64 x1)])), (15, .c (.v (.int .i64 x1))), (16, .c (.v (.int .i64 v0.1))), (17, .c (.v (.bool (x1 != v0.1))))], []⟩) (fun (v0 : VlheldIntS_0) => K (.exit 0) ⟨21, 0, [(0, .c (.l 3 (.i .i64) c0)), (1, .c (.v (.int .i64 v0.1))), (5, .c (.v (.int .i64 v0.2))), (6, .c (.v (.int .i64 v0.2))), (7, .c (.l 3 (.i .i64) c0)), (8, .c (.v (.int .i64 (c0.length : Int)))), (9, .c (.v (.bool (decide (v0.2 < (c0.length : Int))))))], []⟩) c0 n v := by
  intro n
  induction n with
  | zero => intro v; rfl
  | succ n ih =>
    intro v
    refine (blheldIntS_0 k n K c0 v).trans ?_
    rw [funext ih]
    kernel_rfl
theorem mlheldIntS_0 (k : Nat) (a0 : List Int) (a1 : Int) : FlheldIntS (k + 1) a0 a1 = loopRun (R := Int) [0, 0, 1, 5] (run E (den E k) (lv 22) k (nthLoop Tryz.f22 0)) k (StlheldIntS_0 a0 (a1, 0)) (kontAt E (den E k) (lv 22) k (bodyOf Tryz.f22) 0 [] (finish E (rs 22) Tryz.f22 : Ex → St → Option (Int))) := by kernel_rfl
theorem elheldIntS (k : Nat) (a0 : List Int) (a1 : Int) : FlheldIntS (k + 1) a0 a1 = LlheldIntS_0 k (fun (v0 : Int × Int) (x1 : Int) => some (-1)) (fun (v0 : Int × Int) => some v0.1) a0 k (a1, 0) := by
  rw [mlheldIntS_0]
  simp only [llheldIntS_0]
  kernel_rfl
/-! loop.example/g00599/laws.markIntS -/
noncomputable def FlmarkIntS (k : Nat) (a0 : List Int) (a1 : Int) : Option (Int × List Int) := den E k 21 [.c (.l 3 (.i .i64) a0), .c (.v (.int .i64 a1))]
abbrev ClmarkIntS_0 : Type := Unit
abbrev VlmarkIntS_0 : Type := Int × Int × (List Int)
def StlmarkIntS_0 (c0 : ClmarkIntS_0) (v0 : VlmarkIntS_0) : St := ⟨19, 1, [(0, .c (.ref 0)), (1, .c (.v (.int .i64 v0.1))), (5, .c (.v (.int .i64 v0.2.1)))], [(0, .arr 3 (.i .i64) v0.2.2)]⟩
noncomputable def BlmarkIntS_0 {R : Type} (k : Nat) (X0 : VlmarkIntS_0 → Option R) (c0 : ClmarkIntS_0) (rec : VlmarkIntS_0 → Option R) (v0 : VlmarkIntS_0) : Option R := if (decide (v0.2.1 < (v0.2.2.length : Int))) = true then if 0 ≤ v0.2.1 then if v0.2.1 < (v0.2.2.length : Int) then ix v0.2.2 v0.2.1.toNat fun y1 => rec ((IntKind.i64.wrap (v0.1 + 1)), (IntKind.i64.wrap (v0.2.1 + 1)), (v0.2.2.set v0.2.1.toNat v0.1)) else none else none else X0 v0
noncomputable def LlmarkIntS_0 {R : Type} (k : Nat) (X0 : VlmarkIntS_0 → Option R) (c : ClmarkIntS_0) : Nat → VlmarkIntS_0 → Option R
  | 0, _ => none
  | n + 1, v => BlmarkIntS_0 k X0 c (LlmarkIntS_0 k X0 c n) v
theorem blmarkIntS_0 {R : Type} (k n : Nat) (K : Ex → St → Option R) (c0 : ClmarkIntS_0) (v : VlmarkIntS_0) : loopRun [1, 0, 1, 5] (run E (den E k) (lv 21) k (nthLoop Tryz.f21 0)) (n + 1) (StlmarkIntS_0 c0 v) K = BlmarkIntS_0 k (fun (v0 : VlmarkIntS_0) => K (.exit 0) ⟨19, 1, [(0, .c (.ref 0)), (1, .c (.v (.int .i64 v0.1))), (5, .c (.v (.int .i64 v0.2.1))), (6, .c (.v (.int .i64 v0.2.1))), (7, .c (.ref 0)), (8, .c (.v (.int .i64 (v0.2.2.length : Int)))), (9, .c (.v (.bool (decide (v0.2.1 < (v0.2.2.length : Int))))))], [(0, .arr 3 (.i .i64) v0.2.2)]⟩) c0 (fun v => loopRun [1, 0, 1, 5] (run E (den E k) (lv 21) k (nthLoop Tryz.f21 0)) n (StlmarkIntS_0 c0 v) K) v := by kernel_rfl
theorem llmarkIntS_0 {R : Type} (k : Nat) (K : Ex → St → Option R) (c0 : ClmarkIntS_0) : ∀ (n : Nat) (v : VlmarkIntS_0), loopRun [1, 0, 1, 5] (run E (den E k) (lv 21) k (nthLoop Tryz.f21 0)) n (StlmarkIntS_0 c0 v) K = LlmarkIntS_0 k (fun (v0 : VlmarkIntS_0) => K (.exit 0) ⟨19, 1, [(0, .c (.ref 0)), (1, .c (.v (.int .i64 v0.1))), (5, .c (.v (.int .i64 v0.2.1))), (6, .c (.v (.int .i64 v0.2.1))), (7, .c (.ref 0)), (8, .c (.v (.int .i64 (v0.2.2.length : Int)))), (9, .c (.v (.bool (decide (v0.2.1 < (v0.2.2.length : Int))))))], [(0, .arr 3 (.i .i64) v0.2.2)]⟩) c0 n v := by
  intro n
  induction n with
  | zero => intro v; rfl
  | succ n ih =>
    intro v
    refine (blmarkIntS_0 k n K c0 v).trans ?_
    rw [funext ih]
    kernel_rfl
theorem mlmarkIntS_0 (k : Nat) (a0 : List Int) (a1 : Int) : FlmarkIntS (k + 1) a0 a1 = loopRun (R := Int × List Int) [1, 0, 1, 5] (run E (den E k) (lv 21) k (nthLoop Tryz.f21 0)) k (StlmarkIntS_0 () (a1, 0, a0)) (kontAt E (den E k) (lv 21) k (bodyOf Tryz.f21) 0 [] (finish E (rs 21) Tryz.f21 : Ex → St → Option (Int × List Int))) := by kernel_rfl
theorem elmarkIntS (k : Nat) (a0 : List Int) (a1 : Int) : FlmarkIntS (k + 1) a0 a1 = LlmarkIntS_0 k (fun (v0 : Int × Int × (List Int)) => some (v0.1, v0.2.2)) () k (a1, 0, a0) := by
  rw [mlmarkIntS_0]
  simp only [llmarkIntS_0]
  kernel_rfl
/-! loop.example/g00599/laws.markBatteryS -/
noncomputable def FlmarkBatteryS (k : Nat) (a0 : List (Int × Int × Int × Int × Int × Int)) (a1 : Int) : Option (Int × List (Int × Int × Int × Int × Int × Int)) := den E k 85 [.c (.l 141 sI6 a0), .c (.v (.int .i64 a1))]
abbrev ClmarkBatteryS_0 : Type := Unit
abbrev VlmarkBatteryS_0 : Type := Int × Int × (List (Int × Int × Int × Int × Int × Int))
def StlmarkBatteryS_0 (c0 : ClmarkBatteryS_0) (v0 : VlmarkBatteryS_0) : St := ⟨55, 1, [(0, .c (.ref 0)), (1, .c (.v (.int .i64 v0.1))), (5, .c (.v (.int .i64 v0.2.1)))], [(0, .arr 141 sI6 v0.2.2)]⟩
noncomputable def BlmarkBatteryS_0 {R : Type} (k : Nat) (X0 : VlmarkBatteryS_0 → Option R) (c0 : ClmarkBatteryS_0) (rec : VlmarkBatteryS_0 → Option R) (v0 : VlmarkBatteryS_0) : Option R := if (decide (v0.2.1 < (v0.2.2.length : Int))) = true then if 0 ≤ v0.2.1 then if v0.2.1 < (v0.2.2.length : Int) then ix v0.2.2 v0.2.1.toNat fun y1 => if 0 ≤ v0.2.1 then if v0.2.1 < ((v0.2.2.set v0.2.1.toNat (v0.1, y1.2.1, y1.2.2.1, y1.2.2.2.1, y1.2.2.2.2.1, y1.2.2.2.2.2)).length : Int) then ix (v0.2.2.set v0.2.1.toNat (v0.1, y1.2.1, y1.2.2.1, y1.2.2.2.1, y1.2.2.2.2.1, y1.2.2.2.2.2)) v0.2.1.toNat fun y2 => if 0 ≤ v0.2.1 then if v0.2.1 < (((v0.2.2.set v0.2.1.toNat (v0.1, y1.2.1, y1.2.2.1, y1.2.2.2.1, y1.2.2.2.2.1, y1.2.2.2.2.2)).set v0.2.1.toNat (y2.1, (IntKind.i64.wrap (v0.1 + 1)), y2.2.2.1, y2.2.2.2.1, y2.2.2.2.2.1, y2.2.2.2.2.2)).length : Int) then ix ((v0.2.2.set v0.2.1.toNat (v0.1, y1.2.1, y1.2.2.1, y1.2.2.2.1, y1.2.2.2.2.1, y1.2.2.2.2.2)).set v0.2.1.toNat (y2.1, (IntKind.i64.wrap (v0.1 + 1)), y2.2.2.1, y2.2.2.2.1, y2.2.2.2.2.1, y2.2.2.2.2.2)) v0.2.1.toNat fun y3 => if 0 ≤ v0.2.1 then if v0.2.1 < ((((v0.2.2.set v0.2.1.toNat (v0.1, y1.2.1, y1.2.2.1, y1.2.2.2.1, y1.2.2.2.2.1, y1.2.2.2.2.2)).set v0.2.1.toNat (y2.1, (IntKind.i64.wrap (v0.1 + 1)), y2.2.2.1, y2.2.2.2.1, y2.2.2.2.2.1, y2.2.2.2.2.2)).set v0.2.1.toNat (y3.1, y3.2.1, (IntKind.i64.wrap ((IntKind.i64.wrap (v0.1 + 1)) + 1)), y3.2.2.2.1, y3.2.2.2.2.1, y3.2.2.2.2.2)).length : Int) then ix (((v0.2.2.set v0.2.1.toNat (v0.1, y1.2.1, y1.2.2.1, y1.2.2.2.1, y1.2.2.2.2.1, y1.2.2.2.2.2)).set v0.2.1.toNat (y2.1, (IntKind.i64.wrap (v0.1 + 1)), y2.2.2.1, y2.2.2.2.1, y2.2.2.2.2.1, y2.2.2.2.2.2)).set v0.2.1.toNat (y3.1, y3.2.1, (IntKind.i64.wrap ((IntKind.i64.wrap (v0.1 + 1)) + 1)), y3.2.2.2.1, y3.2.2.2.2.1, y3.2.2.2.2.2)) v0.2.1.toNat fun y4 => if 0 ≤ v0.2.1 then if v0.2.1 < (((((v0.2.2.set v0.2.1.toNat (v0.1, y1.2.1, y1.2.2.1, y1.2.2.2.1, y1.2.2.2.2.1, y1.2.2.2.2.2)).set v0.2.1.toNat (y2.1, (IntKind.i64.wrap (v0.1 + 1)), y2.2.2.1, y2.2.2.2.1, y2.2.2.2.2.1, y2.2.2.2.2.2)).set v0.2.1.toNat (y3.1, y3.2.1, (IntKind.i64.wrap ((IntKind.i64.wrap (v0.1 + 1)) + 1)), y3.2.2.2.1, y3.2.2.2.2.1, y3.2.2.2.2.2)).set v0.2.1.toNat (y4.1, y4.2.1, y4.2.2.1, (IntKind.i64.wrap ((IntKind.i64.wrap ((IntKind.i64.wrap (v0.1 + 1)) + 1)) + 1)), y4.2.2.2.2.1, y4.2.2.2.2.2)).length : Int) then ix ((((v0.2.2.set v0.2.1.toNat (v0.1, y1.2.1, y1.2.2.1, y1.2.2.2.1, y1.2.2.2.2.1, y1.2.2.2.2.2)).set v0.2.1.toNat (y2.1, (IntKind.i64.wrap (v0.1 + 1)), y2.2.2.1, y2.2.2.2.1, y2.2.2.2.2.1, y2.2.2.2.2.2)).set v0.2.1.toNat (y3.1, y3.2.1, (IntKind.i64.wrap ((IntKind.i64.wrap (v0.1 + 1)) + 1)), y3.2.2.2.1, y3.2.2.2.2.1, y3.2.2.2.2.2)).set v0.2.1.toNat (y4.1, y4.2.1, y4.2.2.1, (IntKind.i64.wrap ((IntKind.i64.wrap ((IntKind.i64.wrap (v0.1 + 1)) + 1)) + 1)), y4.2.2.2.2.1, y4.2.2.2.2.2)) v0.2.1.toNat fun y5 => if 0 ≤ v0.2.1 then if v0.2.1 < ((((((v0.2.2.set v0.2.1.toNat (v0.1, y1.2.1, y1.2.2.1, y1.2.2.2.1, y1.2.2.2.2.1, y1.2.2.2.2.2)).set v0.2.1.toNat (y2.1, (IntKind.i64.wrap (v0.1 + 1)), y2.2.2.1, y2.2.2.2.1, y2.2.2.2.2.1, y2.2.2.2.2.2)).set v0.2.1.toNat (y3.1, y3.2.1, (IntKind.i64.wrap ((IntKind.i64.wrap (v0.1 + 1)) + 1)), y3.2.2.2.1, y3.2.2.2.2.1, y3.2.2.2.2.2)).set v0.2.1.toNat (y4.1, y4.2.1, y4.2.2.1, (IntKind.i64.wrap ((IntKind.i64.wrap ((IntKind.i64.wrap (v0.1 + 1)) + 1)) + 1)), y4.2.2.2.2.1, y4.2.2.2.2.2)).set v0.2.1.toNat (y5.1, y5.2.1, y5.2.2.1, y5.2.2.2.1, (IntKind.i64.wrap ((IntKind.i64.wrap ((IntKind.i64.wrap ((IntKind.i64.wrap (v0.1 + 1)) + 1)) + 1)) + 1)), y5.2.2.2.2.2)).length : Int) then ix (((((v0.2.2.set v0.2.1.toNat (v0.1, y1.2.1, y1.2.2.1, y1.2.2.2.1, y1.2.2.2.2.1, y1.2.2.2.2.2)).set v0.2.1.toNat (y2.1, (IntKind.i64.wrap (v0.1 + 1)), y2.2.2.1, y2.2.2.2.1, y2.2.2.2.2.1, y2.2.2.2.2.2)).set v0.2.1.toNat (y3.1, y3.2.1, (IntKind.i64.wrap ((IntKind.i64.wrap (v0.1 + 1)) + 1)), y3.2.2.2.1, y3.2.2.2.2.1, y3.2.2.2.2.2)).set v0.2.1.toNat (y4.1, y4.2.1, y4.2.2.1, (IntKind.i64.wrap ((IntKind.i64.wrap ((IntKind.i64.wrap (v0.1 + 1)) + 1)) + 1)), y4.2.2.2.2.1, y4.2.2.2.2.2)).set v0.2.1.toNat (y5.1, y5.2.1, y5.2.2.1, y5.2.2.2.1, (IntKind.i64.wrap ((IntKind.i64.wrap ((IntKind.i64.wrap ((IntKind.i64.wrap (v0.1 + 1)) + 1)) + 1)) + 1)), y5.2.2.2.2.2)) v0.2.1.toNat fun y6 => rec ((IntKind.i64.wrap ((IntKind.i64.wrap ((IntKind.i64.wrap ((IntKind.i64.wrap ((IntKind.i64.wrap ((IntKind.i64.wrap (v0.1 + 1)) + 1)) + 1)) + 1)) + 1)) + 1)), (IntKind.i64.wrap (v0.2.1 + 1)), ((((((v0.2.2.set v0.2.1.toNat (v0.1, y1.2.1, y1.2.2.1, y1.2.2.2.1, y1.2.2.2.2.1, y1.2.2.2.2.2)).set v0.2.1.toNat (y2.1, (IntKind.i64.wrap (v0.1 + 1)), y2.2.2.1, y2.2.2.2.1, y2.2.2.2.2.1, y2.2.2.2.2.2)).set v0.2.1.toNat (y3.1, y3.2.1, (IntKind.i64.wrap ((IntKind.i64.wrap (v0.1 + 1)) + 1)), y3.2.2.2.1, y3.2.2.2.2.1, y3.2.2.2.2.2)).set v0.2.1.toNat (y4.1, y4.2.1, y4.2.2.1, (IntKind.i64.wrap ((IntKind.i64.wrap ((IntKind.i64.wrap (v0.1 + 1)) + 1)) + 1)), y4.2.2.2.2.1, y4.2.2.2.2.2)).set v0.2.1.toNat (y5.1, y5.2.1, y5.2.2.1, y5.2.2.2.1, (IntKind.i64.wrap ((IntKind.i64.wrap ((IntKind.i64.wrap ((IntKind.i64.wrap (v0.1 + 1)) + 1)) + 1)) + 1)), y5.2.2.2.2.2)).set v0.2.1.toNat (y6.1, y6.2.1, y6.2.2.1, y6.2.2.2.1, y6.2.2.2.2.1, (IntKind.i64.wrap ((IntKind.i64.wrap ((IntKind.i64.wrap ((IntKind.i64.wrap ((IntKind.i64.wrap (v0.1 + 1)) + 1)) + 1)) + 1)) + 1))))) else none else none else none else none else none else none else none else none else none else none else none else none else X0 v0
noncomputable def LlmarkBatteryS_0 {R : Type} (k : Nat) (X0 : VlmarkBatteryS_0 → Option R) (c : ClmarkBatteryS_0) : Nat → VlmarkBatteryS_0 → Option R
  | 0, _ => none
  | n + 1, v => BlmarkBatteryS_0 k X0 c (LlmarkBatteryS_0 k X0 c n) v
theorem blmarkBatteryS_0 {R : Type} (k n : Nat) (K : Ex → St → Option R) (c0 : ClmarkBatteryS_0) (v : VlmarkBatteryS_0) : loopRun [1, 0, 1, 5] (run E (den E k) (lv 85) k (nthLoop Tryz.f85 0)) (n + 1) (StlmarkBatteryS_0 c0 v) K = BlmarkBatteryS_0 k (fun (v0 : VlmarkBatteryS_0) => K (.exit 0) ⟨55, 1, [(0, .c (.ref 0)), (1, .c (.v (.int .i64 v0.1))), (5, .c (.v (.int .i64 v0.2.1))), (6, .c (.v (.int .i64 v0.2.1))), (7, .c (.ref 0)), (8, .c (.v (.int .i64 (v0.2.2.length : Int)))), (9, .c (.v (.bool (decide (v0.2.1 < (v0.2.2.length : Int))))))], [(0, .arr 141 sI6 v0.2.2)]⟩) c0 (fun v => loopRun [1, 0, 1, 5] (run E (den E k) (lv 85) k (nthLoop Tryz.f85 0)) n (StlmarkBatteryS_0 c0 v) K) v := by kernel_rfl
theorem llmarkBatteryS_0 {R : Type} (k : Nat) (K : Ex → St → Option R) (c0 : ClmarkBatteryS_0) : ∀ (n : Nat) (v : VlmarkBatteryS_0), loopRun [1, 0, 1, 5] (run E (den E k) (lv 85) k (nthLoop Tryz.f85 0)) n (StlmarkBatteryS_0 c0 v) K = LlmarkBatteryS_0 k (fun (v0 : VlmarkBatteryS_0) => K (.exit 0) ⟨55, 1, [(0, .c (.ref 0)), (1, .c (.v (.int .i64 v0.1))), (5, .c (.v (.int .i64 v0.2.1))), (6, .c (.v (.int .i64 v0.2.1))), (7, .c (.ref 0)), (8, .c (.v (.int .i64 (v0.2.2.length : Int)))), (9, .c (.v (.bool (decide (v0.2.1 < (v0.2.2.length : Int))))))], [(0, .arr 141 sI6 v0.2.2)]⟩) c0 n v := by
  intro n
  induction n with
  | zero => intro v; rfl
  | succ n ih =>
    intro v
    refine (blmarkBatteryS_0 k n K c0 v).trans ?_
    rw [funext ih]
    kernel_rfl
theorem mlmarkBatteryS_0 (k : Nat) (a0 : List (Int × Int × Int × Int × Int × Int)) (a1 : Int) : FlmarkBatteryS (k + 1) a0 a1 = loopRun (R := Int × List (Int × Int × Int × Int × Int × Int)) [1, 0, 1, 5] (run E (den E k) (lv 85) k (nthLoop Tryz.f85 0)) k (StlmarkBatteryS_0 () (a1, 0, a0)) (kontAt E (den E k) (lv 85) k (bodyOf Tryz.f85) 0 [] (finish E (rs 85) Tryz.f85 : Ex → St → Option (Int × List (Int × Int × Int × Int × Int × Int)))) := by kernel_rfl
theorem elmarkBatteryS (k : Nat) (a0 : List (Int × Int × Int × Int × Int × Int)) (a1 : Int) : FlmarkBatteryS (k + 1) a0 a1 = LlmarkBatteryS_0 k (fun (v0 : Int × Int × (List (Int × Int × Int × Int × Int × Int))) => some (v0.1, v0.2.2)) () k (a1, 0, a0) := by
  rw [mlmarkBatteryS_0]
  simp only [llmarkBatteryS_0]
  kernel_rfl
/-! loop.example/g00599/laws.markFaultS -/
noncomputable def FlmarkFaultS (k : Nat) (a0 : List (Int × Int × Int × Int)) (a1 : Int) : Option (Int × List (Int × Int × Int × Int)) := den E k 89 [.c (.l 79 sI4 a0), .c (.v (.int .i64 a1))]
abbrev ClmarkFaultS_0 : Type := Unit
abbrev VlmarkFaultS_0 : Type := Int × Int × (List (Int × Int × Int × Int))
def StlmarkFaultS_0 (c0 : ClmarkFaultS_0) (v0 : VlmarkFaultS_0) : St := ⟨41, 1, [(0, .c (.ref 0)), (1, .c (.v (.int .i64 v0.1))), (5, .c (.v (.int .i64 v0.2.1)))], [(0, .arr 79 sI4 v0.2.2)]⟩
noncomputable def BlmarkFaultS_0 {R : Type} (k : Nat) (X0 : VlmarkFaultS_0 → Option R) (c0 : ClmarkFaultS_0) (rec : VlmarkFaultS_0 → Option R) (v0 : VlmarkFaultS_0) : Option R := if (decide (v0.2.1 < (v0.2.2.length : Int))) = true then if 0 ≤ v0.2.1 then if v0.2.1 < (v0.2.2.length : Int) then ix v0.2.2 v0.2.1.toNat fun y1 => if 0 ≤ v0.2.1 then if v0.2.1 < ((v0.2.2.set v0.2.1.toNat (v0.1, y1.2.1, y1.2.2.1, y1.2.2.2)).length : Int) then ix (v0.2.2.set v0.2.1.toNat (v0.1, y1.2.1, y1.2.2.1, y1.2.2.2)) v0.2.1.toNat fun y2 => if 0 ≤ v0.2.1 then if v0.2.1 < (((v0.2.2.set v0.2.1.toNat (v0.1, y1.2.1, y1.2.2.1, y1.2.2.2)).set v0.2.1.toNat (y2.1, (IntKind.i64.wrap (v0.1 + 1)), y2.2.2.1, y2.2.2.2)).length : Int) then ix ((v0.2.2.set v0.2.1.toNat (v0.1, y1.2.1, y1.2.2.1, y1.2.2.2)).set v0.2.1.toNat (y2.1, (IntKind.i64.wrap (v0.1 + 1)), y2.2.2.1, y2.2.2.2)) v0.2.1.toNat fun y3 => if 0 ≤ v0.2.1 then if v0.2.1 < ((((v0.2.2.set v0.2.1.toNat (v0.1, y1.2.1, y1.2.2.1, y1.2.2.2)).set v0.2.1.toNat (y2.1, (IntKind.i64.wrap (v0.1 + 1)), y2.2.2.1, y2.2.2.2)).set v0.2.1.toNat (y3.1, y3.2.1, (IntKind.i64.wrap ((IntKind.i64.wrap (v0.1 + 1)) + 1)), y3.2.2.2)).length : Int) then ix (((v0.2.2.set v0.2.1.toNat (v0.1, y1.2.1, y1.2.2.1, y1.2.2.2)).set v0.2.1.toNat (y2.1, (IntKind.i64.wrap (v0.1 + 1)), y2.2.2.1, y2.2.2.2)).set v0.2.1.toNat (y3.1, y3.2.1, (IntKind.i64.wrap ((IntKind.i64.wrap (v0.1 + 1)) + 1)), y3.2.2.2)) v0.2.1.toNat fun y4 => rec ((IntKind.i64.wrap ((IntKind.i64.wrap ((IntKind.i64.wrap ((IntKind.i64.wrap (v0.1 + 1)) + 1)) + 1)) + 1)), (IntKind.i64.wrap (v0.2.1 + 1)), ((((v0.2.2.set v0.2.1.toNat (v0.1, y1.2.1, y1.2.2.1, y1.2.2.2)).set v0.2.1.toNat (y2.1, (IntKind.i64.wrap (v0.1 + 1)), y2.2.2.1, y2.2.2.2)).set v0.2.1.toNat (y3.1, y3.2.1, (IntKind.i64.wrap ((IntKind.i64.wrap (v0.1 + 1)) + 1)), y3.2.2.2)).set v0.2.1.toNat (y4.1, y4.2.1, y4.2.2.1, (IntKind.i64.wrap ((IntKind.i64.wrap ((IntKind.i64.wrap (v0.1 + 1)) + 1)) + 1))))) else none else none else none else none else none else none else none else none else X0 v0
noncomputable def LlmarkFaultS_0 {R : Type} (k : Nat) (X0 : VlmarkFaultS_0 → Option R) (c : ClmarkFaultS_0) : Nat → VlmarkFaultS_0 → Option R
  | 0, _ => none
  | n + 1, v => BlmarkFaultS_0 k X0 c (LlmarkFaultS_0 k X0 c n) v
theorem blmarkFaultS_0 {R : Type} (k n : Nat) (K : Ex → St → Option R) (c0 : ClmarkFaultS_0) (v : VlmarkFaultS_0) : loopRun [1, 0, 1, 5] (run E (den E k) (lv 89) k (nthLoop Tryz.f89 0)) (n + 1) (StlmarkFaultS_0 c0 v) K = BlmarkFaultS_0 k (fun (v0 : VlmarkFaultS_0) => K (.exit 0) ⟨41, 1, [(0, .c (.ref 0)), (1, .c (.v (.int .i64 v0.1))), (5, .c (.v (.int .i64 v0.2.1))), (6, .c (.v (.int .i64 v0.2.1))), (7, .c (.ref 0)), (8, .c (.v (.int .i64 (v0.2.2.length : Int)))), (9, .c (.v (.bool (decide (v0.2.1 < (v0.2.2.length : Int))))))], [(0, .arr 79 sI4 v0.2.2)]⟩) c0 (fun v => loopRun [1, 0, 1, 5] (run E (den E k) (lv 89) k (nthLoop Tryz.f89 0)) n (StlmarkFaultS_0 c0 v) K) v := by kernel_rfl
theorem llmarkFaultS_0 {R : Type} (k : Nat) (K : Ex → St → Option R) (c0 : ClmarkFaultS_0) : ∀ (n : Nat) (v : VlmarkFaultS_0), loopRun [1, 0, 1, 5] (run E (den E k) (lv 89) k (nthLoop Tryz.f89 0)) n (StlmarkFaultS_0 c0 v) K = LlmarkFaultS_0 k (fun (v0 : VlmarkFaultS_0) => K (.exit 0) ⟨41, 1, [(0, .c (.ref 0)), (1, .c (.v (.int .i64 v0.1))), (5, .c (.v (.int .i64 v0.2.1))), (6, .c (.v (.int .i64 v0.2.1))), (7, .c (.ref 0)), (8, .c (.v (.int .i64 (v0.2.2.length : Int)))), (9, .c (.v (.bool (decide (v0.2.1 < (v0.2.2.length : Int))))))], [(0, .arr 79 sI4 v0.2.2)]⟩) c0 n v := by
  intro n
  induction n with
  | zero => intro v; rfl
  | succ n ih =>
    intro v
    refine (blmarkFaultS_0 k n K c0 v).trans ?_
    rw [funext ih]
    kernel_rfl
theorem mlmarkFaultS_0 (k : Nat) (a0 : List (Int × Int × Int × Int)) (a1 : Int) : FlmarkFaultS (k + 1) a0 a1 = loopRun (R := Int × List (Int × Int × Int × Int)) [1, 0, 1, 5] (run E (den E k) (lv 89) k (nthLoop Tryz.f89 0)) k (StlmarkFaultS_0 () (a1, 0, a0)) (kontAt E (den E k) (lv 89) k (bodyOf Tryz.f89) 0 [] (finish E (rs 89) Tryz.f89 : Ex → St → Option (Int × List (Int × Int × Int × Int)))) := by kernel_rfl
theorem elmarkFaultS (k : Nat) (a0 : List (Int × Int × Int × Int)) (a1 : Int) : FlmarkFaultS (k + 1) a0 a1 = LlmarkFaultS_0 k (fun (v0 : Int × Int × (List (Int × Int × Int × Int))) => some (v0.1, v0.2.2)) () k (a1, 0, a0) := by
  rw [mlmarkFaultS_0]
  simp only [llmarkFaultS_0]
  kernel_rfl
/-! loop.example/g00599/laws.markFlowS -/
noncomputable def FlmarkFlowS (k : Nat) (a0 : List (Int × Int × Int × Int)) (a1 : Int) : Option (Int × List (Int × Int × Int × Int)) := den E k 87 [.c (.l 86 sI4 a0), .c (.v (.int .i64 a1))]
abbrev ClmarkFlowS_0 : Type := Unit
abbrev VlmarkFlowS_0 : Type := Int × Int × (List (Int × Int × Int × Int))
def StlmarkFlowS_0 (c0 : ClmarkFlowS_0) (v0 : VlmarkFlowS_0) : St := ⟨41, 1, [(0, .c (.ref 0)), (1, .c (.v (.int .i64 v0.1))), (5, .c (.v (.int .i64 v0.2.1)))], [(0, .arr 86 sI4 v0.2.2)]⟩
noncomputable def BlmarkFlowS_0 {R : Type} (k : Nat) (X0 : VlmarkFlowS_0 → Option R) (c0 : ClmarkFlowS_0) (rec : VlmarkFlowS_0 → Option R) (v0 : VlmarkFlowS_0) : Option R := if (decide (v0.2.1 < (v0.2.2.length : Int))) = true then if 0 ≤ v0.2.1 then if v0.2.1 < (v0.2.2.length : Int) then ix v0.2.2 v0.2.1.toNat fun y1 => if 0 ≤ v0.2.1 then if v0.2.1 < ((v0.2.2.set v0.2.1.toNat (v0.1, y1.2.1, y1.2.2.1, y1.2.2.2)).length : Int) then ix (v0.2.2.set v0.2.1.toNat (v0.1, y1.2.1, y1.2.2.1, y1.2.2.2)) v0.2.1.toNat fun y2 => if 0 ≤ v0.2.1 then if v0.2.1 < (((v0.2.2.set v0.2.1.toNat (v0.1, y1.2.1, y1.2.2.1, y1.2.2.2)).set v0.2.1.toNat (y2.1, (IntKind.i64.wrap (v0.1 + 1)), y2.2.2.1, y2.2.2.2)).length : Int) then ix ((v0.2.2.set v0.2.1.toNat (v0.1, y1.2.1, y1.2.2.1, y1.2.2.2)).set v0.2.1.toNat (y2.1, (IntKind.i64.wrap (v0.1 + 1)), y2.2.2.1, y2.2.2.2)) v0.2.1.toNat fun y3 => if 0 ≤ v0.2.1 then if v0.2.1 < ((((v0.2.2.set v0.2.1.toNat (v0.1, y1.2.1, y1.2.2.1, y1.2.2.2)).set v0.2.1.toNat (y2.1, (IntKind.i64.wrap (v0.1 + 1)), y2.2.2.1, y2.2.2.2)).set v0.2.1.toNat (y3.1, y3.2.1, (IntKind.i64.wrap ((IntKind.i64.wrap (v0.1 + 1)) + 1)), y3.2.2.2)).length : Int) then ix (((v0.2.2.set v0.2.1.toNat (v0.1, y1.2.1, y1.2.2.1, y1.2.2.2)).set v0.2.1.toNat (y2.1, (IntKind.i64.wrap (v0.1 + 1)), y2.2.2.1, y2.2.2.2)).set v0.2.1.toNat (y3.1, y3.2.1, (IntKind.i64.wrap ((IntKind.i64.wrap (v0.1 + 1)) + 1)), y3.2.2.2)) v0.2.1.toNat fun y4 => rec ((IntKind.i64.wrap ((IntKind.i64.wrap ((IntKind.i64.wrap ((IntKind.i64.wrap (v0.1 + 1)) + 1)) + 1)) + 1)), (IntKind.i64.wrap (v0.2.1 + 1)), ((((v0.2.2.set v0.2.1.toNat (v0.1, y1.2.1, y1.2.2.1, y1.2.2.2)).set v0.2.1.toNat (y2.1, (IntKind.i64.wrap (v0.1 + 1)), y2.2.2.1, y2.2.2.2)).set v0.2.1.toNat (y3.1, y3.2.1, (IntKind.i64.wrap ((IntKind.i64.wrap (v0.1 + 1)) + 1)), y3.2.2.2)).set v0.2.1.toNat (y4.1, y4.2.1, y4.2.2.1, (IntKind.i64.wrap ((IntKind.i64.wrap ((IntKind.i64.wrap (v0.1 + 1)) + 1)) + 1))))) else none else none else none else none else none else none else none else none else X0 v0
noncomputable def LlmarkFlowS_0 {R : Type} (k : Nat) (X0 : VlmarkFlowS_0 → Option R) (c : ClmarkFlowS_0) : Nat → VlmarkFlowS_0 → Option R
  | 0, _ => none
  | n + 1, v => BlmarkFlowS_0 k X0 c (LlmarkFlowS_0 k X0 c n) v
theorem blmarkFlowS_0 {R : Type} (k n : Nat) (K : Ex → St → Option R) (c0 : ClmarkFlowS_0) (v : VlmarkFlowS_0) : loopRun [1, 0, 1, 5] (run E (den E k) (lv 87) k (nthLoop Tryz.f87 0)) (n + 1) (StlmarkFlowS_0 c0 v) K = BlmarkFlowS_0 k (fun (v0 : VlmarkFlowS_0) => K (.exit 0) ⟨41, 1, [(0, .c (.ref 0)), (1, .c (.v (.int .i64 v0.1))), (5, .c (.v (.int .i64 v0.2.1))), (6, .c (.v (.int .i64 v0.2.1))), (7, .c (.ref 0)), (8, .c (.v (.int .i64 (v0.2.2.length : Int)))), (9, .c (.v (.bool (decide (v0.2.1 < (v0.2.2.length : Int))))))], [(0, .arr 86 sI4 v0.2.2)]⟩) c0 (fun v => loopRun [1, 0, 1, 5] (run E (den E k) (lv 87) k (nthLoop Tryz.f87 0)) n (StlmarkFlowS_0 c0 v) K) v := by kernel_rfl
theorem llmarkFlowS_0 {R : Type} (k : Nat) (K : Ex → St → Option R) (c0 : ClmarkFlowS_0) : ∀ (n : Nat) (v : VlmarkFlowS_0), loopRun [1, 0, 1, 5] (run E (den E k) (lv 87) k (nthLoop Tryz.f87 0)) n (StlmarkFlowS_0 c0 v) K = LlmarkFlowS_0 k (fun (v0 : VlmarkFlowS_0) => K (.exit 0) ⟨41, 1, [(0, .c (.ref 0)), (1, .c (.v (.int .i64 v0.1))), (5, .c (.v (.int .i64 v0.2.1))), (6, .c (.v (.int .i64 v0.2.1))), (7, .c (.ref 0)), (8, .c (.v (.int .i64 (v0.2.2.length : Int)))), (9, .c (.v (.bool (decide (v0.2.1 < (v0.2.2.length : Int))))))], [(0, .arr 86 sI4 v0.2.2)]⟩) c0 n v := by
  intro n
  induction n with
  | zero => intro v; rfl
  | succ n ih =>
    intro v
    refine (blmarkFlowS_0 k n K c0 v).trans ?_
    rw [funext ih]
    kernel_rfl
theorem mlmarkFlowS_0 (k : Nat) (a0 : List (Int × Int × Int × Int)) (a1 : Int) : FlmarkFlowS (k + 1) a0 a1 = loopRun (R := Int × List (Int × Int × Int × Int)) [1, 0, 1, 5] (run E (den E k) (lv 87) k (nthLoop Tryz.f87 0)) k (StlmarkFlowS_0 () (a1, 0, a0)) (kontAt E (den E k) (lv 87) k (bodyOf Tryz.f87) 0 [] (finish E (rs 87) Tryz.f87 : Ex → St → Option (Int × List (Int × Int × Int × Int)))) := by kernel_rfl
theorem elmarkFlowS (k : Nat) (a0 : List (Int × Int × Int × Int)) (a1 : Int) : FlmarkFlowS (k + 1) a0 a1 = LlmarkFlowS_0 k (fun (v0 : Int × Int × (List (Int × Int × Int × Int))) => some (v0.1, v0.2.2)) () k (a1, 0, a0) := by
  rw [mlmarkFlowS_0]
  simp only [llmarkFlowS_0]
  kernel_rfl
/-! loop.example/g00599/laws.markLaw -/
noncomputable def FlmarkLaw (k : Nat) (a0 : List Int) (a1 : Int) : Option (Int × List Int) := den E k 84 [.agg [.l 3 (.i .i64) a0], .c (.v (.int .i64 a1))]
theorem elmarkLaw (k : Nat) (a0 : List Int) (a1 : Int) : FlmarkLaw (k + 1) a0 a1 = (FlmarkIntS k a0 a1).bind fun p1 => some p1 := by kernel_rfl
/-! loop.example/g00599/laws.markPacketS -/
noncomputable def FlmarkPacketS (k : Nat) (a0 : List (Int × Int × Int × Int × Int × Int)) (a1 : Int) : Option (Int × List (Int × Int × Int × Int × Int × Int)) := den E k 90 [.c (.l 155 sI6 a0), .c (.v (.int .i64 a1))]
abbrev ClmarkPacketS_0 : Type := Unit
abbrev VlmarkPacketS_0 : Type := Int × Int × (List (Int × Int × Int × Int × Int × Int))
def StlmarkPacketS_0 (c0 : ClmarkPacketS_0) (v0 : VlmarkPacketS_0) : St := ⟨55, 1, [(0, .c (.ref 0)), (1, .c (.v (.int .i64 v0.1))), (5, .c (.v (.int .i64 v0.2.1)))], [(0, .arr 155 sI6 v0.2.2)]⟩
noncomputable def BlmarkPacketS_0 {R : Type} (k : Nat) (X0 : VlmarkPacketS_0 → Option R) (c0 : ClmarkPacketS_0) (rec : VlmarkPacketS_0 → Option R) (v0 : VlmarkPacketS_0) : Option R := if (decide (v0.2.1 < (v0.2.2.length : Int))) = true then if 0 ≤ v0.2.1 then if v0.2.1 < (v0.2.2.length : Int) then ix v0.2.2 v0.2.1.toNat fun y1 => if 0 ≤ v0.2.1 then if v0.2.1 < ((v0.2.2.set v0.2.1.toNat (v0.1, y1.2.1, y1.2.2.1, y1.2.2.2.1, y1.2.2.2.2.1, y1.2.2.2.2.2)).length : Int) then ix (v0.2.2.set v0.2.1.toNat (v0.1, y1.2.1, y1.2.2.1, y1.2.2.2.1, y1.2.2.2.2.1, y1.2.2.2.2.2)) v0.2.1.toNat fun y2 => if 0 ≤ v0.2.1 then if v0.2.1 < (((v0.2.2.set v0.2.1.toNat (v0.1, y1.2.1, y1.2.2.1, y1.2.2.2.1, y1.2.2.2.2.1, y1.2.2.2.2.2)).set v0.2.1.toNat (y2.1, (IntKind.i64.wrap (v0.1 + 1)), y2.2.2.1, y2.2.2.2.1, y2.2.2.2.2.1, y2.2.2.2.2.2)).length : Int) then ix ((v0.2.2.set v0.2.1.toNat (v0.1, y1.2.1, y1.2.2.1, y1.2.2.2.1, y1.2.2.2.2.1, y1.2.2.2.2.2)).set v0.2.1.toNat (y2.1, (IntKind.i64.wrap (v0.1 + 1)), y2.2.2.1, y2.2.2.2.1, y2.2.2.2.2.1, y2.2.2.2.2.2)) v0.2.1.toNat fun y3 => if 0 ≤ v0.2.1 then if v0.2.1 < ((((v0.2.2.set v0.2.1.toNat (v0.1, y1.2.1, y1.2.2.1, y1.2.2.2.1, y1.2.2.2.2.1, y1.2.2.2.2.2)).set v0.2.1.toNat (y2.1, (IntKind.i64.wrap (v0.1 + 1)), y2.2.2.1, y2.2.2.2.1, y2.2.2.2.2.1, y2.2.2.2.2.2)).set v0.2.1.toNat (y3.1, y3.2.1, (IntKind.i64.wrap ((IntKind.i64.wrap (v0.1 + 1)) + 1)), y3.2.2.2.1, y3.2.2.2.2.1, y3.2.2.2.2.2)).length : Int) then ix (((v0.2.2.set v0.2.1.toNat (v0.1, y1.2.1, y1.2.2.1, y1.2.2.2.1, y1.2.2.2.2.1, y1.2.2.2.2.2)).set v0.2.1.toNat (y2.1, (IntKind.i64.wrap (v0.1 + 1)), y2.2.2.1, y2.2.2.2.1, y2.2.2.2.2.1, y2.2.2.2.2.2)).set v0.2.1.toNat (y3.1, y3.2.1, (IntKind.i64.wrap ((IntKind.i64.wrap (v0.1 + 1)) + 1)), y3.2.2.2.1, y3.2.2.2.2.1, y3.2.2.2.2.2)) v0.2.1.toNat fun y4 => if 0 ≤ v0.2.1 then if v0.2.1 < (((((v0.2.2.set v0.2.1.toNat (v0.1, y1.2.1, y1.2.2.1, y1.2.2.2.1, y1.2.2.2.2.1, y1.2.2.2.2.2)).set v0.2.1.toNat (y2.1, (IntKind.i64.wrap (v0.1 + 1)), y2.2.2.1, y2.2.2.2.1, y2.2.2.2.2.1, y2.2.2.2.2.2)).set v0.2.1.toNat (y3.1, y3.2.1, (IntKind.i64.wrap ((IntKind.i64.wrap (v0.1 + 1)) + 1)), y3.2.2.2.1, y3.2.2.2.2.1, y3.2.2.2.2.2)).set v0.2.1.toNat (y4.1, y4.2.1, y4.2.2.1, (IntKind.i64.wrap ((IntKind.i64.wrap ((IntKind.i64.wrap (v0.1 + 1)) + 1)) + 1)), y4.2.2.2.2.1, y4.2.2.2.2.2)).length : Int) then ix ((((v0.2.2.set v0.2.1.toNat (v0.1, y1.2.1, y1.2.2.1, y1.2.2.2.1, y1.2.2.2.2.1, y1.2.2.2.2.2)).set v0.2.1.toNat (y2.1, (IntKind.i64.wrap (v0.1 + 1)), y2.2.2.1, y2.2.2.2.1, y2.2.2.2.2.1, y2.2.2.2.2.2)).set v0.2.1.toNat (y3.1, y3.2.1, (IntKind.i64.wrap ((IntKind.i64.wrap (v0.1 + 1)) + 1)), y3.2.2.2.1, y3.2.2.2.2.1, y3.2.2.2.2.2)).set v0.2.1.toNat (y4.1, y4.2.1, y4.2.2.1, (IntKind.i64.wrap ((IntKind.i64.wrap ((IntKind.i64.wrap (v0.1 + 1)) + 1)) + 1)), y4.2.2.2.2.1, y4.2.2.2.2.2)) v0.2.1.toNat fun y5 => if 0 ≤ v0.2.1 then if v0.2.1 < ((((((v0.2.2.set v0.2.1.toNat (v0.1, y1.2.1, y1.2.2.1, y1.2.2.2.1, y1.2.2.2.2.1, y1.2.2.2.2.2)).set v0.2.1.toNat (y2.1, (IntKind.i64.wrap (v0.1 + 1)), y2.2.2.1, y2.2.2.2.1, y2.2.2.2.2.1, y2.2.2.2.2.2)).set v0.2.1.toNat (y3.1, y3.2.1, (IntKind.i64.wrap ((IntKind.i64.wrap (v0.1 + 1)) + 1)), y3.2.2.2.1, y3.2.2.2.2.1, y3.2.2.2.2.2)).set v0.2.1.toNat (y4.1, y4.2.1, y4.2.2.1, (IntKind.i64.wrap ((IntKind.i64.wrap ((IntKind.i64.wrap (v0.1 + 1)) + 1)) + 1)), y4.2.2.2.2.1, y4.2.2.2.2.2)).set v0.2.1.toNat (y5.1, y5.2.1, y5.2.2.1, y5.2.2.2.1, (IntKind.i64.wrap ((IntKind.i64.wrap ((IntKind.i64.wrap ((IntKind.i64.wrap (v0.1 + 1)) + 1)) + 1)) + 1)), y5.2.2.2.2.2)).length : Int) then ix (((((v0.2.2.set v0.2.1.toNat (v0.1, y1.2.1, y1.2.2.1, y1.2.2.2.1, y1.2.2.2.2.1, y1.2.2.2.2.2)).set v0.2.1.toNat (y2.1, (IntKind.i64.wrap (v0.1 + 1)), y2.2.2.1, y2.2.2.2.1, y2.2.2.2.2.1, y2.2.2.2.2.2)).set v0.2.1.toNat (y3.1, y3.2.1, (IntKind.i64.wrap ((IntKind.i64.wrap (v0.1 + 1)) + 1)), y3.2.2.2.1, y3.2.2.2.2.1, y3.2.2.2.2.2)).set v0.2.1.toNat (y4.1, y4.2.1, y4.2.2.1, (IntKind.i64.wrap ((IntKind.i64.wrap ((IntKind.i64.wrap (v0.1 + 1)) + 1)) + 1)), y4.2.2.2.2.1, y4.2.2.2.2.2)).set v0.2.1.toNat (y5.1, y5.2.1, y5.2.2.1, y5.2.2.2.1, (IntKind.i64.wrap ((IntKind.i64.wrap ((IntKind.i64.wrap ((IntKind.i64.wrap (v0.1 + 1)) + 1)) + 1)) + 1)), y5.2.2.2.2.2)) v0.2.1.toNat fun y6 => rec ((IntKind.i64.wrap ((IntKind.i64.wrap ((IntKind.i64.wrap ((IntKind.i64.wrap ((IntKind.i64.wrap ((IntKind.i64.wrap (v0.1 + 1)) + 1)) + 1)) + 1)) + 1)) + 1)), (IntKind.i64.wrap (v0.2.1 + 1)), ((((((v0.2.2.set v0.2.1.toNat (v0.1, y1.2.1, y1.2.2.1, y1.2.2.2.1, y1.2.2.2.2.1, y1.2.2.2.2.2)).set v0.2.1.toNat (y2.1, (IntKind.i64.wrap (v0.1 + 1)), y2.2.2.1, y2.2.2.2.1, y2.2.2.2.2.1, y2.2.2.2.2.2)).set v0.2.1.toNat (y3.1, y3.2.1, (IntKind.i64.wrap ((IntKind.i64.wrap (v0.1 + 1)) + 1)), y3.2.2.2.1, y3.2.2.2.2.1, y3.2.2.2.2.2)).set v0.2.1.toNat (y4.1, y4.2.1, y4.2.2.1, (IntKind.i64.wrap ((IntKind.i64.wrap ((IntKind.i64.wrap (v0.1 + 1)) + 1)) + 1)), y4.2.2.2.2.1, y4.2.2.2.2.2)).set v0.2.1.toNat (y5.1, y5.2.1, y5.2.2.1, y5.2.2.2.1, (IntKind.i64.wrap ((IntKind.i64.wrap ((IntKind.i64.wrap ((IntKind.i64.wrap (v0.1 + 1)) + 1)) + 1)) + 1)), y5.2.2.2.2.2)).set v0.2.1.toNat (y6.1, y6.2.1, y6.2.2.1, y6.2.2.2.1, y6.2.2.2.2.1, (IntKind.i64.wrap ((IntKind.i64.wrap ((IntKind.i64.wrap ((IntKind.i64.wrap ((IntKind.i64.wrap (v0.1 + 1)) + 1)) + 1)) + 1)) + 1))))) else none else none else none else none else none else none else none else none else none else none else none else none else X0 v0
noncomputable def LlmarkPacketS_0 {R : Type} (k : Nat) (X0 : VlmarkPacketS_0 → Option R) (c : ClmarkPacketS_0) : Nat → VlmarkPacketS_0 → Option R
  | 0, _ => none
  | n + 1, v => BlmarkPacketS_0 k X0 c (LlmarkPacketS_0 k X0 c n) v
theorem blmarkPacketS_0 {R : Type} (k n : Nat) (K : Ex → St → Option R) (c0 : ClmarkPacketS_0) (v : VlmarkPacketS_0) : loopRun [1, 0, 1, 5] (run E (den E k) (lv 90) k (nthLoop Tryz.f90 0)) (n + 1) (StlmarkPacketS_0 c0 v) K = BlmarkPacketS_0 k (fun (v0 : VlmarkPacketS_0) => K (.exit 0) ⟨55, 1, [(0, .c (.ref 0)), (1, .c (.v (.int .i64 v0.1))), (5, .c (.v (.int .i64 v0.2.1))), (6, .c (.v (.int .i64 v0.2.1))), (7, .c (.ref 0)), (8, .c (.v (.int .i64 (v0.2.2.length : Int)))), (9, .c (.v (.bool (decide (v0.2.1 < (v0.2.2.length : Int))))))], [(0, .arr 155 sI6 v0.2.2)]⟩) c0 (fun v => loopRun [1, 0, 1, 5] (run E (den E k) (lv 90) k (nthLoop Tryz.f90 0)) n (StlmarkPacketS_0 c0 v) K) v := by kernel_rfl
theorem llmarkPacketS_0 {R : Type} (k : Nat) (K : Ex → St → Option R) (c0 : ClmarkPacketS_0) : ∀ (n : Nat) (v : VlmarkPacketS_0), loopRun [1, 0, 1, 5] (run E (den E k) (lv 90) k (nthLoop Tryz.f90 0)) n (StlmarkPacketS_0 c0 v) K = LlmarkPacketS_0 k (fun (v0 : VlmarkPacketS_0) => K (.exit 0) ⟨55, 1, [(0, .c (.ref 0)), (1, .c (.v (.int .i64 v0.1))), (5, .c (.v (.int .i64 v0.2.1))), (6, .c (.v (.int .i64 v0.2.1))), (7, .c (.ref 0)), (8, .c (.v (.int .i64 (v0.2.2.length : Int)))), (9, .c (.v (.bool (decide (v0.2.1 < (v0.2.2.length : Int))))))], [(0, .arr 155 sI6 v0.2.2)]⟩) c0 n v := by
  intro n
  induction n with
  | zero => intro v; rfl
  | succ n ih =>
    intro v
    refine (blmarkPacketS_0 k n K c0 v).trans ?_
    rw [funext ih]
    kernel_rfl
theorem mlmarkPacketS_0 (k : Nat) (a0 : List (Int × Int × Int × Int × Int × Int)) (a1 : Int) : FlmarkPacketS (k + 1) a0 a1 = loopRun (R := Int × List (Int × Int × Int × Int × Int × Int)) [1, 0, 1, 5] (run E (den E k) (lv 90) k (nthLoop Tryz.f90 0)) k (StlmarkPacketS_0 () (a1, 0, a0)) (kontAt E (den E k) (lv 90) k (bodyOf Tryz.f90) 0 [] (finish E (rs 90) Tryz.f90 : Ex → St → Option (Int × List (Int × Int × Int × Int × Int × Int)))) := by kernel_rfl
theorem elmarkPacketS (k : Nat) (a0 : List (Int × Int × Int × Int × Int × Int)) (a1 : Int) : FlmarkPacketS (k + 1) a0 a1 = LlmarkPacketS_0 k (fun (v0 : Int × Int × (List (Int × Int × Int × Int × Int × Int))) => some (v0.1, v0.2.2)) () k (a1, 0, a0) := by
  rw [mlmarkPacketS_0]
  simp only [llmarkPacketS_0]
  kernel_rfl
/-! loop.example/g00599/laws.markLinkS -/
noncomputable def FlmarkLinkS (k : Nat) (a0 : List (Int × Int)) (a1 : Int) : Option (Int × List (Int × Int)) := den E k 253 [.c (.l 317 sI2 a0), .c (.v (.int .i64 a1))]
abbrev ClmarkLinkS_0 : Type := Unit
abbrev VlmarkLinkS_0 : Type := Int × Int × (List (Int × Int))
def StlmarkLinkS_0 (c0 : ClmarkLinkS_0) (v0 : VlmarkLinkS_0) : St := ⟨27, 1, [(0, .c (.ref 0)), (1, .c (.v (.int .i64 v0.1))), (5, .c (.v (.int .i64 v0.2.1)))], [(0, .arr 317 sI2 v0.2.2)]⟩
noncomputable def BlmarkLinkS_0 {R : Type} (k : Nat) (X0 : VlmarkLinkS_0 → Option R) (c0 : ClmarkLinkS_0) (rec : VlmarkLinkS_0 → Option R) (v0 : VlmarkLinkS_0) : Option R := if (decide (v0.2.1 < (v0.2.2.length : Int))) = true then if 0 ≤ v0.2.1 then if v0.2.1 < (v0.2.2.length : Int) then ix v0.2.2 v0.2.1.toNat fun y1 => if 0 ≤ v0.2.1 then if v0.2.1 < ((v0.2.2.set v0.2.1.toNat (v0.1, y1.2)).length : Int) then ix (v0.2.2.set v0.2.1.toNat (v0.1, y1.2)) v0.2.1.toNat fun y2 => rec ((IntKind.i64.wrap ((IntKind.i64.wrap (v0.1 + 1)) + 1)), (IntKind.i64.wrap (v0.2.1 + 1)), ((v0.2.2.set v0.2.1.toNat (v0.1, y1.2)).set v0.2.1.toNat (y2.1, (IntKind.i64.wrap (v0.1 + 1))))) else none else none else none else none else X0 v0
noncomputable def LlmarkLinkS_0 {R : Type} (k : Nat) (X0 : VlmarkLinkS_0 → Option R) (c : ClmarkLinkS_0) : Nat → VlmarkLinkS_0 → Option R
  | 0, _ => none
  | n + 1, v => BlmarkLinkS_0 k X0 c (LlmarkLinkS_0 k X0 c n) v
theorem blmarkLinkS_0 {R : Type} (k n : Nat) (K : Ex → St → Option R) (c0 : ClmarkLinkS_0) (v : VlmarkLinkS_0) : loopRun [1, 0, 1, 5] (run E (den E k) (lv 253) k (nthLoop Tryz.f253 0)) (n + 1) (StlmarkLinkS_0 c0 v) K = BlmarkLinkS_0 k (fun (v0 : VlmarkLinkS_0) => K (.exit 0) ⟨27, 1, [(0, .c (.ref 0)), (1, .c (.v (.int .i64 v0.1))), (5, .c (.v (.int .i64 v0.2.1))), (6, .c (.v (.int .i64 v0.2.1))), (7, .c (.ref 0)), (8, .c (.v (.int .i64 (v0.2.2.length : Int)))), (9, .c (.v (.bool (decide (v0.2.1 < (v0.2.2.length : Int))))))], [(0, .arr 317 sI2 v0.2.2)]⟩) c0 (fun v => loopRun [1, 0, 1, 5] (run E (den E k) (lv 253) k (nthLoop Tryz.f253 0)) n (StlmarkLinkS_0 c0 v) K) v := by kernel_rfl
theorem llmarkLinkS_0 {R : Type} (k : Nat) (K : Ex → St → Option R) (c0 : ClmarkLinkS_0) : ∀ (n : Nat) (v : VlmarkLinkS_0), loopRun [1, 0, 1, 5] (run E (den E k) (lv 253) k (nthLoop Tryz.f253 0)) n (StlmarkLinkS_0 c0 v) K = LlmarkLinkS_0 k (fun (v0 : VlmarkLinkS_0) => K (.exit 0) ⟨27, 1, [(0, .c (.ref 0)), (1, .c (.v (.int .i64 v0.1))), (5, .c (.v (.int .i64 v0.2.1))), (6, .c (.v (.int .i64 v0.2.1))), (7, .c (.ref 0)), (8, .c (.v (.int .i64 (v0.2.2.length : Int)))), (9, .c (.v (.bool (decide (v0.2.1 < (v0.2.2.length : Int))))))], [(0, .arr 317 sI2 v0.2.2)]⟩) c0 n v := by
  intro n
  induction n with
  | zero => intro v; rfl
  | succ n ih =>
    intro v
    refine (blmarkLinkS_0 k n K c0 v).trans ?_
    rw [funext ih]
    kernel_rfl
theorem mlmarkLinkS_0 (k : Nat) (a0 : List (Int × Int)) (a1 : Int) : FlmarkLinkS (k + 1) a0 a1 = loopRun (R := Int × List (Int × Int)) [1, 0, 1, 5] (run E (den E k) (lv 253) k (nthLoop Tryz.f253 0)) k (StlmarkLinkS_0 () (a1, 0, a0)) (kontAt E (den E k) (lv 253) k (bodyOf Tryz.f253) 0 [] (finish E (rs 253) Tryz.f253 : Ex → St → Option (Int × List (Int × Int)))) := by kernel_rfl
theorem elmarkLinkS (k : Nat) (a0 : List (Int × Int)) (a1 : Int) : FlmarkLinkS (k + 1) a0 a1 = LlmarkLinkS_0 k (fun (v0 : Int × Int × (List (Int × Int))) => some (v0.1, v0.2.2)) () k (a1, 0, a0) := by
  rw [mlmarkLinkS_0]
  simp only [llmarkLinkS_0]
  kernel_rfl
/-! loop.example/g00599/laws.markTableS -/
noncomputable def FlmarkTableS (k : Nat) (a0 : List (Int × (List Int) × List Int)) (a1 : Int) : Option (Int × List (Int × (List Int) × List Int)) := den E k 254 [.c (.l 239 sTable a0), .c (.v (.int .i64 a1))]
abbrev ClmarkTableS_0 : Type := Unit
abbrev VlmarkTableS_0 : Type := Int × Int × (List (Int × (List Int) × List Int))
def StlmarkTableS_0 (c0 : ClmarkTableS_0) (v0 : VlmarkTableS_0) : St := ⟨34, 1, [(0, .c (.ref 0)), (1, .c (.v (.int .i64 v0.1))), (5, .c (.v (.int .i64 v0.2.1)))], [(0, .arr 239 sTable v0.2.2)]⟩
noncomputable def BlmarkTableS_0 {R : Type} (k : Nat) (X0 : VlmarkTableS_0 → Option R) (c0 : ClmarkTableS_0) (rec : VlmarkTableS_0 → Option R) (v0 : VlmarkTableS_0) : Option R := if (decide (v0.2.1 < (v0.2.2.length : Int))) = true then if 0 ≤ v0.2.1 then if v0.2.1 < (v0.2.2.length : Int) then ix v0.2.2 v0.2.1.toNat fun y1 => if 0 ≤ v0.2.1 then if v0.2.1 < ((v0.2.2.set v0.2.1.toNat (v0.1, y1.2.1, y1.2.2)).length : Int) then ix (v0.2.2.set v0.2.1.toNat (v0.1, y1.2.1, y1.2.2)) v0.2.1.toNat fun x2 => (FlmarkIntS k x2.2.1 (IntKind.i64.wrap (v0.1 + 1))).bind fun p3 => if 0 ≤ v0.2.1 then if v0.2.1 < ((v0.2.2.set v0.2.1.toNat (v0.1, y1.2.1, y1.2.2)).length : Int) then ix ((v0.2.2.set v0.2.1.toNat (v0.1, y1.2.1, y1.2.2)).set v0.2.1.toNat (x2.1, p3.2, x2.2.2)) v0.2.1.toNat fun x4 => (FlmarkIntS k x4.2.2 p3.1).bind fun p5 => rec (p5.1, (IntKind.i64.wrap (v0.2.1 + 1)), (((v0.2.2.set v0.2.1.toNat (v0.1, y1.2.1, y1.2.2)).set v0.2.1.toNat (x2.1, p3.2, x2.2.2)).set v0.2.1.toNat (x4.1, x4.2.1, p5.2))) else none else none else none else none else none else none else X0 v0
noncomputable def LlmarkTableS_0 {R : Type} (k : Nat) (X0 : VlmarkTableS_0 → Option R) (c : ClmarkTableS_0) : Nat → VlmarkTableS_0 → Option R
  | 0, _ => none
  | n + 1, v => BlmarkTableS_0 k X0 c (LlmarkTableS_0 k X0 c n) v
theorem blmarkTableS_0 {R : Type} (k n : Nat) (K : Ex → St → Option R) (c0 : ClmarkTableS_0) (v : VlmarkTableS_0) : loopRun [1, 0, 1, 5] (run E (den E k) (lv 254) k (nthLoop Tryz.f254 0)) (n + 1) (StlmarkTableS_0 c0 v) K = BlmarkTableS_0 k (fun (v0 : VlmarkTableS_0) => K (.exit 0) ⟨34, 1, [(0, .c (.ref 0)), (1, .c (.v (.int .i64 v0.1))), (5, .c (.v (.int .i64 v0.2.1))), (6, .c (.v (.int .i64 v0.2.1))), (7, .c (.ref 0)), (8, .c (.v (.int .i64 (v0.2.2.length : Int)))), (9, .c (.v (.bool (decide (v0.2.1 < (v0.2.2.length : Int))))))], [(0, .arr 239 sTable v0.2.2)]⟩) c0 (fun v => loopRun [1, 0, 1, 5] (run E (den E k) (lv 254) k (nthLoop Tryz.f254 0)) n (StlmarkTableS_0 c0 v) K) v := by kernel_rfl
theorem llmarkTableS_0 {R : Type} (k : Nat) (K : Ex → St → Option R) (c0 : ClmarkTableS_0) : ∀ (n : Nat) (v : VlmarkTableS_0), loopRun [1, 0, 1, 5] (run E (den E k) (lv 254) k (nthLoop Tryz.f254 0)) n (StlmarkTableS_0 c0 v) K = LlmarkTableS_0 k (fun (v0 : VlmarkTableS_0) => K (.exit 0) ⟨34, 1, [(0, .c (.ref 0)), (1, .c (.v (.int .i64 v0.1))), (5, .c (.v (.int .i64 v0.2.1))), (6, .c (.v (.int .i64 v0.2.1))), (7, .c (.ref 0)), (8, .c (.v (.int .i64 (v0.2.2.length : Int)))), (9, .c (.v (.bool (decide (v0.2.1 < (v0.2.2.length : Int))))))], [(0, .arr 239 sTable v0.2.2)]⟩) c0 n v := by
  intro n
  induction n with
  | zero => intro v; rfl
  | succ n ih =>
    intro v
    refine (blmarkTableS_0 k n K c0 v).trans ?_
    rw [funext ih]
    kernel_rfl
theorem mlmarkTableS_0 (k : Nat) (a0 : List (Int × (List Int) × List Int)) (a1 : Int) : FlmarkTableS (k + 1) a0 a1 = loopRun (R := Int × List (Int × (List Int) × List Int)) [1, 0, 1, 5] (run E (den E k) (lv 254) k (nthLoop Tryz.f254 0)) k (StlmarkTableS_0 () (a1, 0, a0)) (kontAt E (den E k) (lv 254) k (bodyOf Tryz.f254) 0 [] (finish E (rs 254) Tryz.f254 : Ex → St → Option (Int × List (Int × (List Int) × List Int)))) := by kernel_rfl
theorem elmarkTableS (k : Nat) (a0 : List (Int × (List Int) × List Int)) (a1 : Int) : FlmarkTableS (k + 1) a0 a1 = LlmarkTableS_0 k (fun (v0 : Int × Int × (List (Int × (List Int) × List Int))) => some (v0.1, v0.2.2)) () k (a1, 0, a0) := by
  rw [mlmarkTableS_0]
  simp only [llmarkTableS_0]
  kernel_rfl
/-! loop.example/g00599/laws.markPieceS -/
noncomputable def FlmarkPieceS (k : Nat) (a0 : List TPiece) (a1 : Int) : Option (Int × List TPiece) := den E k 172 [.c (.l 247 sPiece a0), .c (.v (.int .i64 a1))]
abbrev ClmarkPieceS_0 : Type := Unit
abbrev VlmarkPieceS_0 : Type := Int × Int × (List TPiece)
def StlmarkPieceS_0 (c0 : ClmarkPieceS_0) (v0 : VlmarkPieceS_0) : St := ⟨43, 1, [(0, .c (.ref 0)), (1, .c (.v (.int .i64 v0.1))), (5, .c (.v (.int .i64 v0.2.1)))], [(0, .arr 247 sPiece v0.2.2)]⟩
noncomputable def BlmarkPieceS_0 {R : Type} (k : Nat) (X0 : VlmarkPieceS_0 → Option R) (c0 : ClmarkPieceS_0) (rec : VlmarkPieceS_0 → Option R) (v0 : VlmarkPieceS_0) : Option R := if (decide (v0.2.1 < (v0.2.2.length : Int))) = true then if 0 ≤ v0.2.1 then if v0.2.1 < (v0.2.2.length : Int) then ix v0.2.2 v0.2.1.toNat fun y1 => if 0 ≤ v0.2.1 then if v0.2.1 < ((v0.2.2.set v0.2.1.toNat ((v0.1, y1.1.2), y1.2.1, y1.2.2)).length : Int) then ix (v0.2.2.set v0.2.1.toNat ((v0.1, y1.1.2), y1.2.1, y1.2.2)) v0.2.1.toNat fun y2 => if 0 ≤ v0.2.1 then if v0.2.1 < (((v0.2.2.set v0.2.1.toNat ((v0.1, y1.1.2), y1.2.1, y1.2.2)).set v0.2.1.toNat ((y2.1.1, (IntKind.i64.wrap (v0.1 + 1))), y2.2.1, y2.2.2)).length : Int) then ix ((v0.2.2.set v0.2.1.toNat ((v0.1, y1.1.2), y1.2.1, y1.2.2)).set v0.2.1.toNat ((y2.1.1, (IntKind.i64.wrap (v0.1 + 1))), y2.2.1, y2.2.2)) v0.2.1.toNat fun x3 => (FlmarkLinkS k x3.2.1 (IntKind.i64.wrap ((IntKind.i64.wrap (v0.1 + 1)) + 1))).bind fun p4 => if 0 ≤ v0.2.1 then if v0.2.1 < (((v0.2.2.set v0.2.1.toNat ((v0.1, y1.1.2), y1.2.1, y1.2.2)).set v0.2.1.toNat ((y2.1.1, (IntKind.i64.wrap (v0.1 + 1))), y2.2.1, y2.2.2)).length : Int) then ix (((v0.2.2.set v0.2.1.toNat ((v0.1, y1.1.2), y1.2.1, y1.2.2)).set v0.2.1.toNat ((y2.1.1, (IntKind.i64.wrap (v0.1 + 1))), y2.2.1, y2.2.2)).set v0.2.1.toNat (x3.1, p4.2, x3.2.2)) v0.2.1.toNat fun x5 => (FlmarkTableS k x5.2.2 p4.1).bind fun p6 => rec (p6.1, (IntKind.i64.wrap (v0.2.1 + 1)), ((((v0.2.2.set v0.2.1.toNat ((v0.1, y1.1.2), y1.2.1, y1.2.2)).set v0.2.1.toNat ((y2.1.1, (IntKind.i64.wrap (v0.1 + 1))), y2.2.1, y2.2.2)).set v0.2.1.toNat (x3.1, p4.2, x3.2.2)).set v0.2.1.toNat (x5.1, x5.2.1, p6.2))) else none else none else none else none else none else none else none else none else X0 v0
noncomputable def LlmarkPieceS_0 {R : Type} (k : Nat) (X0 : VlmarkPieceS_0 → Option R) (c : ClmarkPieceS_0) : Nat → VlmarkPieceS_0 → Option R
  | 0, _ => none
  | n + 1, v => BlmarkPieceS_0 k X0 c (LlmarkPieceS_0 k X0 c n) v
theorem blmarkPieceS_0 {R : Type} (k n : Nat) (K : Ex → St → Option R) (c0 : ClmarkPieceS_0) (v : VlmarkPieceS_0) : loopRun [1, 0, 1, 5] (run E (den E k) (lv 172) k (nthLoop Tryz.f172 0)) (n + 1) (StlmarkPieceS_0 c0 v) K = BlmarkPieceS_0 k (fun (v0 : VlmarkPieceS_0) => K (.exit 0) ⟨43, 1, [(0, .c (.ref 0)), (1, .c (.v (.int .i64 v0.1))), (5, .c (.v (.int .i64 v0.2.1))), (6, .c (.v (.int .i64 v0.2.1))), (7, .c (.ref 0)), (8, .c (.v (.int .i64 (v0.2.2.length : Int)))), (9, .c (.v (.bool (decide (v0.2.1 < (v0.2.2.length : Int))))))], [(0, .arr 247 sPiece v0.2.2)]⟩) c0 (fun v => loopRun [1, 0, 1, 5] (run E (den E k) (lv 172) k (nthLoop Tryz.f172 0)) n (StlmarkPieceS_0 c0 v) K) v := by kernel_rfl
theorem llmarkPieceS_0 {R : Type} (k : Nat) (K : Ex → St → Option R) (c0 : ClmarkPieceS_0) : ∀ (n : Nat) (v : VlmarkPieceS_0), loopRun [1, 0, 1, 5] (run E (den E k) (lv 172) k (nthLoop Tryz.f172 0)) n (StlmarkPieceS_0 c0 v) K = LlmarkPieceS_0 k (fun (v0 : VlmarkPieceS_0) => K (.exit 0) ⟨43, 1, [(0, .c (.ref 0)), (1, .c (.v (.int .i64 v0.1))), (5, .c (.v (.int .i64 v0.2.1))), (6, .c (.v (.int .i64 v0.2.1))), (7, .c (.ref 0)), (8, .c (.v (.int .i64 (v0.2.2.length : Int)))), (9, .c (.v (.bool (decide (v0.2.1 < (v0.2.2.length : Int))))))], [(0, .arr 247 sPiece v0.2.2)]⟩) c0 n v := by
  intro n
  induction n with
  | zero => intro v; rfl
  | succ n ih =>
    intro v
    refine (blmarkPieceS_0 k n K c0 v).trans ?_
    rw [funext ih]
    kernel_rfl
theorem mlmarkPieceS_0 (k : Nat) (a0 : List TPiece) (a1 : Int) : FlmarkPieceS (k + 1) a0 a1 = loopRun (R := Int × List TPiece) [1, 0, 1, 5] (run E (den E k) (lv 172) k (nthLoop Tryz.f172 0)) k (StlmarkPieceS_0 () (a1, 0, a0)) (kontAt E (den E k) (lv 172) k (bodyOf Tryz.f172) 0 [] (finish E (rs 172) Tryz.f172 : Ex → St → Option (Int × List TPiece))) := by kernel_rfl
theorem elmarkPieceS (k : Nat) (a0 : List TPiece) (a1 : Int) : FlmarkPieceS (k + 1) a0 a1 = LlmarkPieceS_0 k (fun (v0 : Int × Int × (List TPiece)) => some (v0.1, v0.2.2)) () k (a1, 0, a0) := by
  rw [mlmarkPieceS_0]
  simp only [llmarkPieceS_0]
  kernel_rfl
/-! loop.example/g00599/laws.markProgram -/
noncomputable def FlmarkProgram (k : Nat) (a0 : TProgram) (a1 : Int) : Option (Int × List TPiece) := den E k 83 [.agg [.v (.int .i64 a0.1), .v (.int .i64 a0.2.1), .v (.int .i64 a0.2.2.1), .l 247 sPiece a0.2.2.2], .c (.v (.int .i64 a1))]
theorem elmarkProgram (k : Nat) (a0 : TProgram) (a1 : Int) : FlmarkProgram (k + 1) a0 a1 = (FlmarkPieceS k a0.2.2.2 a1).bind fun p1 => some p1 := by kernel_rfl
/-! loop.example/g00599/laws.markQueueS -/
noncomputable def FlmarkQueueS (k : Nat) (a0 : List (List (Int × Int × Int × Int × Int × Int))) (a1 : Int) : Option (Int × List (List (Int × Int × Int × Int × Int × Int))) := den E k 86 [.c (.l 158 sQueue a0), .c (.v (.int .i64 a1))]
abbrev ClmarkQueueS_0 : Type := Unit
abbrev VlmarkQueueS_0 : Type := Int × Int × (List (List (Int × Int × Int × Int × Int × Int)))
def StlmarkQueueS_0 (c0 : ClmarkQueueS_0) (v0 : VlmarkQueueS_0) : St := ⟨20, 1, [(0, .c (.ref 0)), (1, .c (.v (.int .i64 v0.1))), (5, .c (.v (.int .i64 v0.2.1)))], [(0, .arr 158 sQueue v0.2.2)]⟩
noncomputable def BlmarkQueueS_0 {R : Type} (k : Nat) (X0 : VlmarkQueueS_0 → Option R) (c0 : ClmarkQueueS_0) (rec : VlmarkQueueS_0 → Option R) (v0 : VlmarkQueueS_0) : Option R := if (decide (v0.2.1 < (v0.2.2.length : Int))) = true then if 0 ≤ v0.2.1 then if v0.2.1 < (v0.2.2.length : Int) then ix v0.2.2 v0.2.1.toNat fun x1 => (FlmarkPacketS k x1 v0.1).bind fun p2 => rec (p2.1, (IntKind.i64.wrap (v0.2.1 + 1)), (v0.2.2.set v0.2.1.toNat p2.2)) else none else none else X0 v0
noncomputable def LlmarkQueueS_0 {R : Type} (k : Nat) (X0 : VlmarkQueueS_0 → Option R) (c : ClmarkQueueS_0) : Nat → VlmarkQueueS_0 → Option R
  | 0, _ => none
  | n + 1, v => BlmarkQueueS_0 k X0 c (LlmarkQueueS_0 k X0 c n) v
theorem blmarkQueueS_0 {R : Type} (k n : Nat) (K : Ex → St → Option R) (c0 : ClmarkQueueS_0) (v : VlmarkQueueS_0) : loopRun [1, 0, 1, 5] (run E (den E k) (lv 86) k (nthLoop Tryz.f86 0)) (n + 1) (StlmarkQueueS_0 c0 v) K = BlmarkQueueS_0 k (fun (v0 : VlmarkQueueS_0) => K (.exit 0) ⟨20, 1, [(0, .c (.ref 0)), (1, .c (.v (.int .i64 v0.1))), (5, .c (.v (.int .i64 v0.2.1))), (6, .c (.v (.int .i64 v0.2.1))), (7, .c (.ref 0)), (8, .c (.v (.int .i64 (v0.2.2.length : Int)))), (9, .c (.v (.bool (decide (v0.2.1 < (v0.2.2.length : Int))))))], [(0, .arr 158 sQueue v0.2.2)]⟩) c0 (fun v => loopRun [1, 0, 1, 5] (run E (den E k) (lv 86) k (nthLoop Tryz.f86 0)) n (StlmarkQueueS_0 c0 v) K) v := by kernel_rfl
theorem llmarkQueueS_0 {R : Type} (k : Nat) (K : Ex → St → Option R) (c0 : ClmarkQueueS_0) : ∀ (n : Nat) (v : VlmarkQueueS_0), loopRun [1, 0, 1, 5] (run E (den E k) (lv 86) k (nthLoop Tryz.f86 0)) n (StlmarkQueueS_0 c0 v) K = LlmarkQueueS_0 k (fun (v0 : VlmarkQueueS_0) => K (.exit 0) ⟨20, 1, [(0, .c (.ref 0)), (1, .c (.v (.int .i64 v0.1))), (5, .c (.v (.int .i64 v0.2.1))), (6, .c (.v (.int .i64 v0.2.1))), (7, .c (.ref 0)), (8, .c (.v (.int .i64 (v0.2.2.length : Int)))), (9, .c (.v (.bool (decide (v0.2.1 < (v0.2.2.length : Int))))))], [(0, .arr 158 sQueue v0.2.2)]⟩) c0 n v := by
  intro n
  induction n with
  | zero => intro v; rfl
  | succ n ih =>
    intro v
    refine (blmarkQueueS_0 k n K c0 v).trans ?_
    rw [funext ih]
    kernel_rfl
theorem mlmarkQueueS_0 (k : Nat) (a0 : List (List (Int × Int × Int × Int × Int × Int))) (a1 : Int) : FlmarkQueueS (k + 1) a0 a1 = loopRun (R := Int × List (List (Int × Int × Int × Int × Int × Int))) [1, 0, 1, 5] (run E (den E k) (lv 86) k (nthLoop Tryz.f86 0)) k (StlmarkQueueS_0 () (a1, 0, a0)) (kontAt E (den E k) (lv 86) k (bodyOf Tryz.f86) 0 [] (finish E (rs 86) Tryz.f86 : Ex → St → Option (Int × List (List (Int × Int × Int × Int × Int × Int))))) := by kernel_rfl
theorem elmarkQueueS (k : Nat) (a0 : List (List (Int × Int × Int × Int × Int × Int))) (a1 : Int) : FlmarkQueueS (k + 1) a0 a1 = LlmarkQueueS_0 k (fun (v0 : Int × Int × (List (List (Int × Int × Int × Int × Int × Int)))) => some (v0.1, v0.2.2)) () k (a1, 0, a0) := by
  rw [mlmarkQueueS_0]
  simp only [llmarkQueueS_0]
  kernel_rfl
/-! loop.example/g00599/laws.markSentS -/
noncomputable def FlmarkSentS (k : Nat) (a0 : List (Int × Int × Int × Int)) (a1 : Int) : Option (Int × List (Int × Int × Int × Int)) := den E k 91 [.c (.l 94 sI4 a0), .c (.v (.int .i64 a1))]
abbrev ClmarkSentS_0 : Type := Unit
abbrev VlmarkSentS_0 : Type := Int × Int × (List (Int × Int × Int × Int))
def StlmarkSentS_0 (c0 : ClmarkSentS_0) (v0 : VlmarkSentS_0) : St := ⟨41, 1, [(0, .c (.ref 0)), (1, .c (.v (.int .i64 v0.1))), (5, .c (.v (.int .i64 v0.2.1)))], [(0, .arr 94 sI4 v0.2.2)]⟩
noncomputable def BlmarkSentS_0 {R : Type} (k : Nat) (X0 : VlmarkSentS_0 → Option R) (c0 : ClmarkSentS_0) (rec : VlmarkSentS_0 → Option R) (v0 : VlmarkSentS_0) : Option R := if (decide (v0.2.1 < (v0.2.2.length : Int))) = true then if 0 ≤ v0.2.1 then if v0.2.1 < (v0.2.2.length : Int) then ix v0.2.2 v0.2.1.toNat fun y1 => if 0 ≤ v0.2.1 then if v0.2.1 < ((v0.2.2.set v0.2.1.toNat (v0.1, y1.2.1, y1.2.2.1, y1.2.2.2)).length : Int) then ix (v0.2.2.set v0.2.1.toNat (v0.1, y1.2.1, y1.2.2.1, y1.2.2.2)) v0.2.1.toNat fun y2 => if 0 ≤ v0.2.1 then if v0.2.1 < (((v0.2.2.set v0.2.1.toNat (v0.1, y1.2.1, y1.2.2.1, y1.2.2.2)).set v0.2.1.toNat (y2.1, (IntKind.i64.wrap (v0.1 + 1)), y2.2.2.1, y2.2.2.2)).length : Int) then ix ((v0.2.2.set v0.2.1.toNat (v0.1, y1.2.1, y1.2.2.1, y1.2.2.2)).set v0.2.1.toNat (y2.1, (IntKind.i64.wrap (v0.1 + 1)), y2.2.2.1, y2.2.2.2)) v0.2.1.toNat fun y3 => if 0 ≤ v0.2.1 then if v0.2.1 < ((((v0.2.2.set v0.2.1.toNat (v0.1, y1.2.1, y1.2.2.1, y1.2.2.2)).set v0.2.1.toNat (y2.1, (IntKind.i64.wrap (v0.1 + 1)), y2.2.2.1, y2.2.2.2)).set v0.2.1.toNat (y3.1, y3.2.1, (IntKind.i64.wrap ((IntKind.i64.wrap (v0.1 + 1)) + 1)), y3.2.2.2)).length : Int) then ix (((v0.2.2.set v0.2.1.toNat (v0.1, y1.2.1, y1.2.2.1, y1.2.2.2)).set v0.2.1.toNat (y2.1, (IntKind.i64.wrap (v0.1 + 1)), y2.2.2.1, y2.2.2.2)).set v0.2.1.toNat (y3.1, y3.2.1, (IntKind.i64.wrap ((IntKind.i64.wrap (v0.1 + 1)) + 1)), y3.2.2.2)) v0.2.1.toNat fun y4 => rec ((IntKind.i64.wrap ((IntKind.i64.wrap ((IntKind.i64.wrap ((IntKind.i64.wrap (v0.1 + 1)) + 1)) + 1)) + 1)), (IntKind.i64.wrap (v0.2.1 + 1)), ((((v0.2.2.set v0.2.1.toNat (v0.1, y1.2.1, y1.2.2.1, y1.2.2.2)).set v0.2.1.toNat (y2.1, (IntKind.i64.wrap (v0.1 + 1)), y2.2.2.1, y2.2.2.2)).set v0.2.1.toNat (y3.1, y3.2.1, (IntKind.i64.wrap ((IntKind.i64.wrap (v0.1 + 1)) + 1)), y3.2.2.2)).set v0.2.1.toNat (y4.1, y4.2.1, y4.2.2.1, (IntKind.i64.wrap ((IntKind.i64.wrap ((IntKind.i64.wrap (v0.1 + 1)) + 1)) + 1))))) else none else none else none else none else none else none else none else none else X0 v0
noncomputable def LlmarkSentS_0 {R : Type} (k : Nat) (X0 : VlmarkSentS_0 → Option R) (c : ClmarkSentS_0) : Nat → VlmarkSentS_0 → Option R
  | 0, _ => none
  | n + 1, v => BlmarkSentS_0 k X0 c (LlmarkSentS_0 k X0 c n) v
theorem blmarkSentS_0 {R : Type} (k n : Nat) (K : Ex → St → Option R) (c0 : ClmarkSentS_0) (v : VlmarkSentS_0) : loopRun [1, 0, 1, 5] (run E (den E k) (lv 91) k (nthLoop Tryz.f91 0)) (n + 1) (StlmarkSentS_0 c0 v) K = BlmarkSentS_0 k (fun (v0 : VlmarkSentS_0) => K (.exit 0) ⟨41, 1, [(0, .c (.ref 0)), (1, .c (.v (.int .i64 v0.1))), (5, .c (.v (.int .i64 v0.2.1))), (6, .c (.v (.int .i64 v0.2.1))), (7, .c (.ref 0)), (8, .c (.v (.int .i64 (v0.2.2.length : Int)))), (9, .c (.v (.bool (decide (v0.2.1 < (v0.2.2.length : Int))))))], [(0, .arr 94 sI4 v0.2.2)]⟩) c0 (fun v => loopRun [1, 0, 1, 5] (run E (den E k) (lv 91) k (nthLoop Tryz.f91 0)) n (StlmarkSentS_0 c0 v) K) v := by kernel_rfl
theorem llmarkSentS_0 {R : Type} (k : Nat) (K : Ex → St → Option R) (c0 : ClmarkSentS_0) : ∀ (n : Nat) (v : VlmarkSentS_0), loopRun [1, 0, 1, 5] (run E (den E k) (lv 91) k (nthLoop Tryz.f91 0)) n (StlmarkSentS_0 c0 v) K = LlmarkSentS_0 k (fun (v0 : VlmarkSentS_0) => K (.exit 0) ⟨41, 1, [(0, .c (.ref 0)), (1, .c (.v (.int .i64 v0.1))), (5, .c (.v (.int .i64 v0.2.1))), (6, .c (.v (.int .i64 v0.2.1))), (7, .c (.ref 0)), (8, .c (.v (.int .i64 (v0.2.2.length : Int)))), (9, .c (.v (.bool (decide (v0.2.1 < (v0.2.2.length : Int))))))], [(0, .arr 94 sI4 v0.2.2)]⟩) c0 n v := by
  intro n
  induction n with
  | zero => intro v; rfl
  | succ n ih =>
    intro v
    refine (blmarkSentS_0 k n K c0 v).trans ?_
    rw [funext ih]
    kernel_rfl
theorem mlmarkSentS_0 (k : Nat) (a0 : List (Int × Int × Int × Int)) (a1 : Int) : FlmarkSentS (k + 1) a0 a1 = loopRun (R := Int × List (Int × Int × Int × Int)) [1, 0, 1, 5] (run E (den E k) (lv 91) k (nthLoop Tryz.f91 0)) k (StlmarkSentS_0 () (a1, 0, a0)) (kontAt E (den E k) (lv 91) k (bodyOf Tryz.f91) 0 [] (finish E (rs 91) Tryz.f91 : Ex → St → Option (Int × List (Int × Int × Int × Int)))) := by kernel_rfl
theorem elmarkSentS (k : Nat) (a0 : List (Int × Int × Int × Int)) (a1 : Int) : FlmarkSentS (k + 1) a0 a1 = LlmarkSentS_0 k (fun (v0 : Int × Int × (List (Int × Int × Int × Int))) => some (v0.1, v0.2.2)) () k (a1, 0, a0) := by
  rw [mlmarkSentS_0]
  simp only [llmarkSentS_0]
  kernel_rfl
/-! loop.example/g00599/laws.markSatS -/
noncomputable def FlmarkSatS (k : Nat) (a0 : List (Int × Int × Int × Int)) (a1 : Int) : Option (Int × List (Int × Int × Int × Int)) := den E k 169 [.c (.l 262 sI4 a0), .c (.v (.int .i64 a1))]
abbrev ClmarkSatS_0 : Type := Unit
abbrev VlmarkSatS_0 : Type := Int × Int × (List (Int × Int × Int × Int))
def StlmarkSatS_0 (c0 : ClmarkSatS_0) (v0 : VlmarkSatS_0) : St := ⟨41, 1, [(0, .c (.ref 0)), (1, .c (.v (.int .i64 v0.1))), (5, .c (.v (.int .i64 v0.2.1)))], [(0, .arr 262 sI4 v0.2.2)]⟩
noncomputable def BlmarkSatS_0 {R : Type} (k : Nat) (X0 : VlmarkSatS_0 → Option R) (c0 : ClmarkSatS_0) (rec : VlmarkSatS_0 → Option R) (v0 : VlmarkSatS_0) : Option R := if (decide (v0.2.1 < (v0.2.2.length : Int))) = true then if 0 ≤ v0.2.1 then if v0.2.1 < (v0.2.2.length : Int) then ix v0.2.2 v0.2.1.toNat fun y1 => if 0 ≤ v0.2.1 then if v0.2.1 < ((v0.2.2.set v0.2.1.toNat (v0.1, y1.2.1, y1.2.2.1, y1.2.2.2)).length : Int) then ix (v0.2.2.set v0.2.1.toNat (v0.1, y1.2.1, y1.2.2.1, y1.2.2.2)) v0.2.1.toNat fun y2 => if 0 ≤ v0.2.1 then if v0.2.1 < (((v0.2.2.set v0.2.1.toNat (v0.1, y1.2.1, y1.2.2.1, y1.2.2.2)).set v0.2.1.toNat (y2.1, (IntKind.i64.wrap (v0.1 + 1)), y2.2.2.1, y2.2.2.2)).length : Int) then ix ((v0.2.2.set v0.2.1.toNat (v0.1, y1.2.1, y1.2.2.1, y1.2.2.2)).set v0.2.1.toNat (y2.1, (IntKind.i64.wrap (v0.1 + 1)), y2.2.2.1, y2.2.2.2)) v0.2.1.toNat fun y3 => if 0 ≤ v0.2.1 then if v0.2.1 < ((((v0.2.2.set v0.2.1.toNat (v0.1, y1.2.1, y1.2.2.1, y1.2.2.2)).set v0.2.1.toNat (y2.1, (IntKind.i64.wrap (v0.1 + 1)), y2.2.2.1, y2.2.2.2)).set v0.2.1.toNat (y3.1, y3.2.1, (IntKind.i64.wrap ((IntKind.i64.wrap (v0.1 + 1)) + 1)), y3.2.2.2)).length : Int) then ix (((v0.2.2.set v0.2.1.toNat (v0.1, y1.2.1, y1.2.2.1, y1.2.2.2)).set v0.2.1.toNat (y2.1, (IntKind.i64.wrap (v0.1 + 1)), y2.2.2.1, y2.2.2.2)).set v0.2.1.toNat (y3.1, y3.2.1, (IntKind.i64.wrap ((IntKind.i64.wrap (v0.1 + 1)) + 1)), y3.2.2.2)) v0.2.1.toNat fun y4 => rec ((IntKind.i64.wrap ((IntKind.i64.wrap ((IntKind.i64.wrap ((IntKind.i64.wrap (v0.1 + 1)) + 1)) + 1)) + 1)), (IntKind.i64.wrap (v0.2.1 + 1)), ((((v0.2.2.set v0.2.1.toNat (v0.1, y1.2.1, y1.2.2.1, y1.2.2.2)).set v0.2.1.toNat (y2.1, (IntKind.i64.wrap (v0.1 + 1)), y2.2.2.1, y2.2.2.2)).set v0.2.1.toNat (y3.1, y3.2.1, (IntKind.i64.wrap ((IntKind.i64.wrap (v0.1 + 1)) + 1)), y3.2.2.2)).set v0.2.1.toNat (y4.1, y4.2.1, y4.2.2.1, (IntKind.i64.wrap ((IntKind.i64.wrap ((IntKind.i64.wrap (v0.1 + 1)) + 1)) + 1))))) else none else none else none else none else none else none else none else none else X0 v0
noncomputable def LlmarkSatS_0 {R : Type} (k : Nat) (X0 : VlmarkSatS_0 → Option R) (c : ClmarkSatS_0) : Nat → VlmarkSatS_0 → Option R
  | 0, _ => none
  | n + 1, v => BlmarkSatS_0 k X0 c (LlmarkSatS_0 k X0 c n) v
theorem blmarkSatS_0 {R : Type} (k n : Nat) (K : Ex → St → Option R) (c0 : ClmarkSatS_0) (v : VlmarkSatS_0) : loopRun [1, 0, 1, 5] (run E (den E k) (lv 169) k (nthLoop Tryz.f169 0)) (n + 1) (StlmarkSatS_0 c0 v) K = BlmarkSatS_0 k (fun (v0 : VlmarkSatS_0) => K (.exit 0) ⟨41, 1, [(0, .c (.ref 0)), (1, .c (.v (.int .i64 v0.1))), (5, .c (.v (.int .i64 v0.2.1))), (6, .c (.v (.int .i64 v0.2.1))), (7, .c (.ref 0)), (8, .c (.v (.int .i64 (v0.2.2.length : Int)))), (9, .c (.v (.bool (decide (v0.2.1 < (v0.2.2.length : Int))))))], [(0, .arr 262 sI4 v0.2.2)]⟩) c0 (fun v => loopRun [1, 0, 1, 5] (run E (den E k) (lv 169) k (nthLoop Tryz.f169 0)) n (StlmarkSatS_0 c0 v) K) v := by kernel_rfl
theorem llmarkSatS_0 {R : Type} (k : Nat) (K : Ex → St → Option R) (c0 : ClmarkSatS_0) : ∀ (n : Nat) (v : VlmarkSatS_0), loopRun [1, 0, 1, 5] (run E (den E k) (lv 169) k (nthLoop Tryz.f169 0)) n (StlmarkSatS_0 c0 v) K = LlmarkSatS_0 k (fun (v0 : VlmarkSatS_0) => K (.exit 0) ⟨41, 1, [(0, .c (.ref 0)), (1, .c (.v (.int .i64 v0.1))), (5, .c (.v (.int .i64 v0.2.1))), (6, .c (.v (.int .i64 v0.2.1))), (7, .c (.ref 0)), (8, .c (.v (.int .i64 (v0.2.2.length : Int)))), (9, .c (.v (.bool (decide (v0.2.1 < (v0.2.2.length : Int))))))], [(0, .arr 262 sI4 v0.2.2)]⟩) c0 n v := by
  intro n
  induction n with
  | zero => intro v; rfl
  | succ n ih =>
    intro v
    refine (blmarkSatS_0 k n K c0 v).trans ?_
    rw [funext ih]
    kernel_rfl
theorem mlmarkSatS_0 (k : Nat) (a0 : List (Int × Int × Int × Int)) (a1 : Int) : FlmarkSatS (k + 1) a0 a1 = loopRun (R := Int × List (Int × Int × Int × Int)) [1, 0, 1, 5] (run E (den E k) (lv 169) k (nthLoop Tryz.f169 0)) k (StlmarkSatS_0 () (a1, 0, a0)) (kontAt E (den E k) (lv 169) k (bodyOf Tryz.f169) 0 [] (finish E (rs 169) Tryz.f169 : Ex → St → Option (Int × List (Int × Int × Int × Int)))) := by kernel_rfl
theorem elmarkSatS (k : Nat) (a0 : List (Int × Int × Int × Int)) (a1 : Int) : FlmarkSatS (k + 1) a0 a1 = LlmarkSatS_0 k (fun (v0 : Int × Int × (List (Int × Int × Int × Int))) => some (v0.1, v0.2.2)) () k (a1, 0, a0) := by
  rw [mlmarkSatS_0]
  simp only [llmarkSatS_0]
  kernel_rfl
/-! loop.example/g00599/laws.markSiteS -/
noncomputable def FlmarkSiteS (k : Nat) (a0 : List (Int × Int × Int)) (a1 : Int) : Option (Int × List (Int × Int × Int)) := den E k 170 [.c (.l 266 sI3 a0), .c (.v (.int .i64 a1))]
abbrev ClmarkSiteS_0 : Type := Unit
abbrev VlmarkSiteS_0 : Type := Int × Int × (List (Int × Int × Int))
def StlmarkSiteS_0 (c0 : ClmarkSiteS_0) (v0 : VlmarkSiteS_0) : St := ⟨34, 1, [(0, .c (.ref 0)), (1, .c (.v (.int .i64 v0.1))), (5, .c (.v (.int .i64 v0.2.1)))], [(0, .arr 266 sI3 v0.2.2)]⟩
noncomputable def BlmarkSiteS_0 {R : Type} (k : Nat) (X0 : VlmarkSiteS_0 → Option R) (c0 : ClmarkSiteS_0) (rec : VlmarkSiteS_0 → Option R) (v0 : VlmarkSiteS_0) : Option R := if (decide (v0.2.1 < (v0.2.2.length : Int))) = true then if 0 ≤ v0.2.1 then if v0.2.1 < (v0.2.2.length : Int) then ix v0.2.2 v0.2.1.toNat fun y1 => if 0 ≤ v0.2.1 then if v0.2.1 < ((v0.2.2.set v0.2.1.toNat (v0.1, y1.2.1, y1.2.2)).length : Int) then ix (v0.2.2.set v0.2.1.toNat (v0.1, y1.2.1, y1.2.2)) v0.2.1.toNat fun y2 => if 0 ≤ v0.2.1 then if v0.2.1 < (((v0.2.2.set v0.2.1.toNat (v0.1, y1.2.1, y1.2.2)).set v0.2.1.toNat (y2.1, (IntKind.i64.wrap (v0.1 + 1)), y2.2.2)).length : Int) then ix ((v0.2.2.set v0.2.1.toNat (v0.1, y1.2.1, y1.2.2)).set v0.2.1.toNat (y2.1, (IntKind.i64.wrap (v0.1 + 1)), y2.2.2)) v0.2.1.toNat fun y3 => rec ((IntKind.i64.wrap ((IntKind.i64.wrap ((IntKind.i64.wrap (v0.1 + 1)) + 1)) + 1)), (IntKind.i64.wrap (v0.2.1 + 1)), (((v0.2.2.set v0.2.1.toNat (v0.1, y1.2.1, y1.2.2)).set v0.2.1.toNat (y2.1, (IntKind.i64.wrap (v0.1 + 1)), y2.2.2)).set v0.2.1.toNat (y3.1, y3.2.1, (IntKind.i64.wrap ((IntKind.i64.wrap (v0.1 + 1)) + 1))))) else none else none else none else none else none else none else X0 v0
noncomputable def LlmarkSiteS_0 {R : Type} (k : Nat) (X0 : VlmarkSiteS_0 → Option R) (c : ClmarkSiteS_0) : Nat → VlmarkSiteS_0 → Option R
  | 0, _ => none
  | n + 1, v => BlmarkSiteS_0 k X0 c (LlmarkSiteS_0 k X0 c n) v
theorem blmarkSiteS_0 {R : Type} (k n : Nat) (K : Ex → St → Option R) (c0 : ClmarkSiteS_0) (v : VlmarkSiteS_0) : loopRun [1, 0, 1, 5] (run E (den E k) (lv 170) k (nthLoop Tryz.f170 0)) (n + 1) (StlmarkSiteS_0 c0 v) K = BlmarkSiteS_0 k (fun (v0 : VlmarkSiteS_0) => K (.exit 0) ⟨34, 1, [(0, .c (.ref 0)), (1, .c (.v (.int .i64 v0.1))), (5, .c (.v (.int .i64 v0.2.1))), (6, .c (.v (.int .i64 v0.2.1))), (7, .c (.ref 0)), (8, .c (.v (.int .i64 (v0.2.2.length : Int)))), (9, .c (.v (.bool (decide (v0.2.1 < (v0.2.2.length : Int))))))], [(0, .arr 266 sI3 v0.2.2)]⟩) c0 (fun v => loopRun [1, 0, 1, 5] (run E (den E k) (lv 170) k (nthLoop Tryz.f170 0)) n (StlmarkSiteS_0 c0 v) K) v := by kernel_rfl
theorem llmarkSiteS_0 {R : Type} (k : Nat) (K : Ex → St → Option R) (c0 : ClmarkSiteS_0) : ∀ (n : Nat) (v : VlmarkSiteS_0), loopRun [1, 0, 1, 5] (run E (den E k) (lv 170) k (nthLoop Tryz.f170 0)) n (StlmarkSiteS_0 c0 v) K = LlmarkSiteS_0 k (fun (v0 : VlmarkSiteS_0) => K (.exit 0) ⟨34, 1, [(0, .c (.ref 0)), (1, .c (.v (.int .i64 v0.1))), (5, .c (.v (.int .i64 v0.2.1))), (6, .c (.v (.int .i64 v0.2.1))), (7, .c (.ref 0)), (8, .c (.v (.int .i64 (v0.2.2.length : Int)))), (9, .c (.v (.bool (decide (v0.2.1 < (v0.2.2.length : Int))))))], [(0, .arr 266 sI3 v0.2.2)]⟩) c0 n v := by
  intro n
  induction n with
  | zero => intro v; rfl
  | succ n ih =>
    intro v
    refine (blmarkSiteS_0 k n K c0 v).trans ?_
    rw [funext ih]
    kernel_rfl
theorem mlmarkSiteS_0 (k : Nat) (a0 : List (Int × Int × Int)) (a1 : Int) : FlmarkSiteS (k + 1) a0 a1 = loopRun (R := Int × List (Int × Int × Int)) [1, 0, 1, 5] (run E (den E k) (lv 170) k (nthLoop Tryz.f170 0)) k (StlmarkSiteS_0 () (a1, 0, a0)) (kontAt E (den E k) (lv 170) k (bodyOf Tryz.f170) 0 [] (finish E (rs 170) Tryz.f170 : Ex → St → Option (Int × List (Int × Int × Int)))) := by kernel_rfl
theorem elmarkSiteS (k : Nat) (a0 : List (Int × Int × Int)) (a1 : Int) : FlmarkSiteS (k + 1) a0 a1 = LlmarkSiteS_0 k (fun (v0 : Int × Int × (List (Int × Int × Int))) => some (v0.1, v0.2.2)) () k (a1, 0, a0) := by
  rw [mlmarkSiteS_0]
  simp only [llmarkSiteS_0]
  kernel_rfl
/-! loop.example/g00599/laws.markZoneS -/
noncomputable def FlmarkZoneS (k : Nat) (a0 : List (Int × Int × Int)) (a1 : Int) : Option (Int × List (Int × Int × Int)) := den E k 171 [.c (.l 272 sZone a0), .c (.v (.int .i64 a1))]
abbrev ClmarkZoneS_0 : Type := Unit
abbrev VlmarkZoneS_0 : Type := Int × Int × (List (Int × Int × Int))
def StlmarkZoneS_0 (c0 : ClmarkZoneS_0) (v0 : VlmarkZoneS_0) : St := ⟨36, 1, [(0, .c (.ref 0)), (1, .c (.v (.int .i64 v0.1))), (5, .c (.v (.int .i64 v0.2.1)))], [(0, .arr 272 sZone v0.2.2)]⟩
noncomputable def BlmarkZoneS_0 {R : Type} (k : Nat) (X0 : VlmarkZoneS_0 → Option R) (c0 : ClmarkZoneS_0) (rec : VlmarkZoneS_0 → Option R) (v0 : VlmarkZoneS_0) : Option R := if (decide (v0.2.1 < (v0.2.2.length : Int))) = true then if 0 ≤ v0.2.1 then if v0.2.1 < (v0.2.2.length : Int) then ix v0.2.2 v0.2.1.toNat fun y1 => if 0 ≤ v0.2.1 then if v0.2.1 < ((v0.2.2.set v0.2.1.toNat (v0.1, y1.2)).length : Int) then ix (v0.2.2.set v0.2.1.toNat (v0.1, y1.2)) v0.2.1.toNat fun y2 => if 0 ≤ v0.2.1 then if v0.2.1 < (((v0.2.2.set v0.2.1.toNat (v0.1, y1.2)).set v0.2.1.toNat (y2.1, ((IntKind.i64.wrap (v0.1 + 1)), y2.2.2))).length : Int) then ix ((v0.2.2.set v0.2.1.toNat (v0.1, y1.2)).set v0.2.1.toNat (y2.1, ((IntKind.i64.wrap (v0.1 + 1)), y2.2.2))) v0.2.1.toNat fun y3 => rec ((IntKind.i64.wrap ((IntKind.i64.wrap ((IntKind.i64.wrap (v0.1 + 1)) + 1)) + 1)), (IntKind.i64.wrap (v0.2.1 + 1)), (((v0.2.2.set v0.2.1.toNat (v0.1, y1.2)).set v0.2.1.toNat (y2.1, ((IntKind.i64.wrap (v0.1 + 1)), y2.2.2))).set v0.2.1.toNat (y3.1, (y3.2.1, (IntKind.i64.wrap ((IntKind.i64.wrap (v0.1 + 1)) + 1)))))) else none else none else none else none else none else none else X0 v0
noncomputable def LlmarkZoneS_0 {R : Type} (k : Nat) (X0 : VlmarkZoneS_0 → Option R) (c : ClmarkZoneS_0) : Nat → VlmarkZoneS_0 → Option R
  | 0, _ => none
  | n + 1, v => BlmarkZoneS_0 k X0 c (LlmarkZoneS_0 k X0 c n) v
theorem blmarkZoneS_0 {R : Type} (k n : Nat) (K : Ex → St → Option R) (c0 : ClmarkZoneS_0) (v : VlmarkZoneS_0) : loopRun [1, 0, 1, 5] (run E (den E k) (lv 171) k (nthLoop Tryz.f171 0)) (n + 1) (StlmarkZoneS_0 c0 v) K = BlmarkZoneS_0 k (fun (v0 : VlmarkZoneS_0) => K (.exit 0) ⟨36, 1, [(0, .c (.ref 0)), (1, .c (.v (.int .i64 v0.1))), (5, .c (.v (.int .i64 v0.2.1))), (6, .c (.v (.int .i64 v0.2.1))), (7, .c (.ref 0)), (8, .c (.v (.int .i64 (v0.2.2.length : Int)))), (9, .c (.v (.bool (decide (v0.2.1 < (v0.2.2.length : Int))))))], [(0, .arr 272 sZone v0.2.2)]⟩) c0 (fun v => loopRun [1, 0, 1, 5] (run E (den E k) (lv 171) k (nthLoop Tryz.f171 0)) n (StlmarkZoneS_0 c0 v) K) v := by kernel_rfl
theorem llmarkZoneS_0 {R : Type} (k : Nat) (K : Ex → St → Option R) (c0 : ClmarkZoneS_0) : ∀ (n : Nat) (v : VlmarkZoneS_0), loopRun [1, 0, 1, 5] (run E (den E k) (lv 171) k (nthLoop Tryz.f171 0)) n (StlmarkZoneS_0 c0 v) K = LlmarkZoneS_0 k (fun (v0 : VlmarkZoneS_0) => K (.exit 0) ⟨36, 1, [(0, .c (.ref 0)), (1, .c (.v (.int .i64 v0.1))), (5, .c (.v (.int .i64 v0.2.1))), (6, .c (.v (.int .i64 v0.2.1))), (7, .c (.ref 0)), (8, .c (.v (.int .i64 (v0.2.2.length : Int)))), (9, .c (.v (.bool (decide (v0.2.1 < (v0.2.2.length : Int))))))], [(0, .arr 272 sZone v0.2.2)]⟩) c0 n v := by
  intro n
  induction n with
  | zero => intro v; rfl
  | succ n ih =>
    intro v
    refine (blmarkZoneS_0 k n K c0 v).trans ?_
    rw [funext ih]
    kernel_rfl
theorem mlmarkZoneS_0 (k : Nat) (a0 : List (Int × Int × Int)) (a1 : Int) : FlmarkZoneS (k + 1) a0 a1 = loopRun (R := Int × List (Int × Int × Int)) [1, 0, 1, 5] (run E (den E k) (lv 171) k (nthLoop Tryz.f171 0)) k (StlmarkZoneS_0 () (a1, 0, a0)) (kontAt E (den E k) (lv 171) k (bodyOf Tryz.f171) 0 [] (finish E (rs 171) Tryz.f171 : Ex → St → Option (Int × List (Int × Int × Int)))) := by kernel_rfl
theorem elmarkZoneS (k : Nat) (a0 : List (Int × Int × Int)) (a1 : Int) : FlmarkZoneS (k + 1) a0 a1 = LlmarkZoneS_0 k (fun (v0 : Int × Int × (List (Int × Int × Int))) => some (v0.1, v0.2.2)) () k (a1, 0, a0) := by
  rw [mlmarkZoneS_0]
  simp only [llmarkZoneS_0]
  kernel_rfl
/-! loop.example/g00599/laws.markSky -/
noncomputable def FlmarkSky (k : Nat) (a0 : TSky) (a1 : Int) : Option (Int × (List (Int × Int × Int × Int)) × (List (Int × Int × Int)) × List (Int × Int × Int)) := den E k 82 [.agg [.v (.int .i64 a0.1), .l 262 sI4 a0.2.1, .l 266 sI3 a0.2.2.1, .v (.int .i64 a0.2.2.2.1), .v (.int .i64 a0.2.2.2.2.1), .v (.int .i64 a0.2.2.2.2.2.1), .v (.int .i64 a0.2.2.2.2.2.2.1), .v (.int .i64 a0.2.2.2.2.2.2.2.1), .l 272 sZone a0.2.2.2.2.2.2.2.2.1, .v (.int .i64 a0.2.2.2.2.2.2.2.2.2)], .c (.v (.int .i64 a1))]
theorem elmarkSky (k : Nat) (a0 : TSky) (a1 : Int) : FlmarkSky (k + 1) a0 a1 = (FlmarkSatS k a0.2.1 a1).bind fun p1 => (FlmarkSiteS k a0.2.2.1 p1.1).bind fun p2 => (FlmarkZoneS k a0.2.2.2.2.2.2.2.2.1 p2.1).bind fun p3 => some (p3.1, p1.2, p2.2, p3.2) := by kernel_rfl
/-! loop.example/g00599/laws.markStreamS -/
noncomputable def FlmarkStreamS (k : Nat) (a0 : List (Int × Int × List Int)) (a1 : Int) : Option (Int × List (Int × Int × List Int)) := den E k 88 [.c (.l 166 sStream a0), .c (.v (.int .i64 a1))]
abbrev ClmarkStreamS_0 : Type := Unit
abbrev VlmarkStreamS_0 : Type := Int × Int × (List (Int × Int × List Int))
def StlmarkStreamS_0 (c0 : ClmarkStreamS_0) (v0 : VlmarkStreamS_0) : St := ⟨34, 1, [(0, .c (.ref 0)), (1, .c (.v (.int .i64 v0.1))), (5, .c (.v (.int .i64 v0.2.1)))], [(0, .arr 166 sStream v0.2.2)]⟩
noncomputable def BlmarkStreamS_0 {R : Type} (k : Nat) (X0 : VlmarkStreamS_0 → Option R) (c0 : ClmarkStreamS_0) (rec : VlmarkStreamS_0 → Option R) (v0 : VlmarkStreamS_0) : Option R := if (decide (v0.2.1 < (v0.2.2.length : Int))) = true then if 0 ≤ v0.2.1 then if v0.2.1 < (v0.2.2.length : Int) then ix v0.2.2 v0.2.1.toNat fun y1 => if 0 ≤ v0.2.1 then if v0.2.1 < ((v0.2.2.set v0.2.1.toNat (v0.1, y1.2.1, y1.2.2)).length : Int) then ix (v0.2.2.set v0.2.1.toNat (v0.1, y1.2.1, y1.2.2)) v0.2.1.toNat fun y2 => if 0 ≤ v0.2.1 then if v0.2.1 < (((v0.2.2.set v0.2.1.toNat (v0.1, y1.2.1, y1.2.2)).set v0.2.1.toNat (y2.1, (IntKind.i64.wrap (v0.1 + 1)), y2.2.2)).length : Int) then ix ((v0.2.2.set v0.2.1.toNat (v0.1, y1.2.1, y1.2.2)).set v0.2.1.toNat (y2.1, (IntKind.i64.wrap (v0.1 + 1)), y2.2.2)) v0.2.1.toNat fun x3 => (FlmarkIntS k x3.2.2 (IntKind.i64.wrap ((IntKind.i64.wrap (v0.1 + 1)) + 1))).bind fun p4 => rec (p4.1, (IntKind.i64.wrap (v0.2.1 + 1)), (((v0.2.2.set v0.2.1.toNat (v0.1, y1.2.1, y1.2.2)).set v0.2.1.toNat (y2.1, (IntKind.i64.wrap (v0.1 + 1)), y2.2.2)).set v0.2.1.toNat (x3.1, x3.2.1, p4.2))) else none else none else none else none else none else none else X0 v0
noncomputable def LlmarkStreamS_0 {R : Type} (k : Nat) (X0 : VlmarkStreamS_0 → Option R) (c : ClmarkStreamS_0) : Nat → VlmarkStreamS_0 → Option R
  | 0, _ => none
  | n + 1, v => BlmarkStreamS_0 k X0 c (LlmarkStreamS_0 k X0 c n) v
theorem blmarkStreamS_0 {R : Type} (k n : Nat) (K : Ex → St → Option R) (c0 : ClmarkStreamS_0) (v : VlmarkStreamS_0) : loopRun [1, 0, 1, 5] (run E (den E k) (lv 88) k (nthLoop Tryz.f88 0)) (n + 1) (StlmarkStreamS_0 c0 v) K = BlmarkStreamS_0 k (fun (v0 : VlmarkStreamS_0) => K (.exit 0) ⟨34, 1, [(0, .c (.ref 0)), (1, .c (.v (.int .i64 v0.1))), (5, .c (.v (.int .i64 v0.2.1))), (6, .c (.v (.int .i64 v0.2.1))), (7, .c (.ref 0)), (8, .c (.v (.int .i64 (v0.2.2.length : Int)))), (9, .c (.v (.bool (decide (v0.2.1 < (v0.2.2.length : Int))))))], [(0, .arr 166 sStream v0.2.2)]⟩) c0 (fun v => loopRun [1, 0, 1, 5] (run E (den E k) (lv 88) k (nthLoop Tryz.f88 0)) n (StlmarkStreamS_0 c0 v) K) v := by kernel_rfl
theorem llmarkStreamS_0 {R : Type} (k : Nat) (K : Ex → St → Option R) (c0 : ClmarkStreamS_0) : ∀ (n : Nat) (v : VlmarkStreamS_0), loopRun [1, 0, 1, 5] (run E (den E k) (lv 88) k (nthLoop Tryz.f88 0)) n (StlmarkStreamS_0 c0 v) K = LlmarkStreamS_0 k (fun (v0 : VlmarkStreamS_0) => K (.exit 0) ⟨34, 1, [(0, .c (.ref 0)), (1, .c (.v (.int .i64 v0.1))), (5, .c (.v (.int .i64 v0.2.1))), (6, .c (.v (.int .i64 v0.2.1))), (7, .c (.ref 0)), (8, .c (.v (.int .i64 (v0.2.2.length : Int)))), (9, .c (.v (.bool (decide (v0.2.1 < (v0.2.2.length : Int))))))], [(0, .arr 166 sStream v0.2.2)]⟩) c0 n v := by
  intro n
  induction n with
  | zero => intro v; rfl
  | succ n ih =>
    intro v
    refine (blmarkStreamS_0 k n K c0 v).trans ?_
    rw [funext ih]
    kernel_rfl
theorem mlmarkStreamS_0 (k : Nat) (a0 : List (Int × Int × List Int)) (a1 : Int) : FlmarkStreamS (k + 1) a0 a1 = loopRun (R := Int × List (Int × Int × List Int)) [1, 0, 1, 5] (run E (den E k) (lv 88) k (nthLoop Tryz.f88 0)) k (StlmarkStreamS_0 () (a1, 0, a0)) (kontAt E (den E k) (lv 88) k (bodyOf Tryz.f88) 0 [] (finish E (rs 88) Tryz.f88 : Ex → St → Option (Int × List (Int × Int × List Int)))) := by kernel_rfl
theorem elmarkStreamS (k : Nat) (a0 : List (Int × Int × List Int)) (a1 : Int) : FlmarkStreamS (k + 1) a0 a1 = LlmarkStreamS_0 k (fun (v0 : Int × Int × (List (Int × Int × List Int))) => some (v0.1, v0.2.2)) () k (a1, 0, a0) := by
  rw [mlmarkStreamS_0]
  simp only [llmarkStreamS_0]
  kernel_rfl
/-! loop.example/g00599/laws.markWorld -/
noncomputable def FlmarkWorld (k : Nat) (a0 : TWorld) (a1 : Int) : Option (Int × (List (Int × Int × Int × Int)) × (List (Int × Int × Int)) × (List (Int × Int × Int)) × (List TPiece) × (List Int) × (List Int) × (List (Int × Int × Int × Int × Int × Int)) × (List (List (Int × Int × Int × Int × Int × Int))) × (List (Int × Int × Int × Int)) × (List Int) × (List (Int × Int × List Int)) × (List (Int × Int × Int × Int)) × (List (Int × Int × Int × Int × Int × Int)) × List (Int × Int × Int × Int)) := den E k 20 [.agg [.v (.int .i64 a0.1.1), .l 262 sI4 a0.1.2.1, .l 266 sI3 a0.1.2.2.1, .v (.int .i64 a0.1.2.2.2.1), .v (.int .i64 a0.1.2.2.2.2.1), .v (.int .i64 a0.1.2.2.2.2.2.1), .v (.int .i64 a0.1.2.2.2.2.2.2.1), .v (.int .i64 a0.1.2.2.2.2.2.2.2.1), .l 272 sZone a0.1.2.2.2.2.2.2.2.2.1, .v (.int .i64 a0.1.2.2.2.2.2.2.2.2.2), .v (.int .i64 a0.2.1.1), .v (.int .i64 a0.2.1.2.1), .v (.int .i64 a0.2.1.2.2.1), .l 247 sPiece a0.2.1.2.2.2, .l 3 (.i .i64) a0.2.2.1, .l 3 (.i .i64) a0.2.2.2.1, .l 141 sI6 a0.2.2.2.2.1, .l 158 sQueue a0.2.2.2.2.2.1, .l 86 sI4 a0.2.2.2.2.2.2.1, .l 3 (.i .i64) a0.2.2.2.2.2.2.2.1, .l 166 sStream a0.2.2.2.2.2.2.2.2.1, .l 79 sI4 a0.2.2.2.2.2.2.2.2.2.1, .v (.int .i64 a0.2.2.2.2.2.2.2.2.2.2.1), .v (.int .i64 a0.2.2.2.2.2.2.2.2.2.2.2.1), .l 155 sI6 a0.2.2.2.2.2.2.2.2.2.2.2.2.1, .l 94 sI4 a0.2.2.2.2.2.2.2.2.2.2.2.2.2], .c (.v (.int .i64 a1))]
theorem elmarkWorld (k : Nat) (a0 : TWorld) (a1 : Int) : FlmarkWorld (k + 1) a0 a1 = (FlmarkSky k a0.1 a1).bind fun p1 => (FlmarkProgram k a0.2.1 p1.1).bind fun p2 => (FlmarkLaw k a0.2.2.1 p2.1).bind fun p3 => (FlmarkIntS k a0.2.2.2.1 p3.1).bind fun p4 => (FlmarkBatteryS k a0.2.2.2.2.1 p4.1).bind fun p5 => (FlmarkQueueS k a0.2.2.2.2.2.1 p5.1).bind fun p6 => (FlmarkFlowS k a0.2.2.2.2.2.2.1 p6.1).bind fun p7 => (FlmarkIntS k a0.2.2.2.2.2.2.2.1 p7.1).bind fun p8 => (FlmarkStreamS k a0.2.2.2.2.2.2.2.2.1 p8.1).bind fun p9 => (FlmarkFaultS k a0.2.2.2.2.2.2.2.2.2.1 p9.1).bind fun p10 => (FlmarkPacketS k a0.2.2.2.2.2.2.2.2.2.2.2.2.1 p10.1).bind fun p11 => (FlmarkSentS k a0.2.2.2.2.2.2.2.2.2.2.2.2.2 p11.1).bind fun p12 => some (p12.1, p1.2.1, p1.2.2.1, p1.2.2.2, p2.2, p3.2, p4.2, p5.2, p6.2, p7.2, p8.2, p9.2, p10.2, p11.2, p12.2) := by kernel_rfl
/-! loop.example/g00599/laws.szBatteryS -/
noncomputable def FlszBatteryS (k : Nat) (a0 : List (Int × Int × Int × Int × Int × Int)) (a1 : Int) : Option (Int) := den E k 54 [.c (.l 188 sI6 a0), .c (.v (.int .i64 a1))]
theorem elszBatteryS (k : Nat) (a0 : List (Int × Int × Int × Int × Int × Int)) (a1 : Int) : FlszBatteryS (k + 1) a0 a1 = if (decide ((IntKind.i64.wrap (a1 - (a0.length : Int))) < 0)) = true then some (-1) else some (IntKind.i64.wrap (a1 - (a0.length : Int))) := by kernel_rfl
/-! loop.example/g00599/laws.szFaultS -/
noncomputable def FlszFaultS (k : Nat) (a0 : List (Int × Int × Int × Int)) (a1 : Int) : Option (Int) := den E k 58 [.c (.l 76 sI4 a0), .c (.v (.int .i64 a1))]
theorem elszFaultS (k : Nat) (a0 : List (Int × Int × Int × Int)) (a1 : Int) : FlszFaultS (k + 1) a0 a1 = if (decide ((IntKind.i64.wrap (a1 - (a0.length : Int))) < 0)) = true then some (-1) else some (IntKind.i64.wrap (a1 - (a0.length : Int))) := by kernel_rfl
/-! loop.example/g00599/laws.szFlowS -/
noncomputable def FlszFlowS (k : Nat) (a0 : List (Int × Int × Int × Int)) (a1 : Int) : Option (Int) := den E k 56 [.c (.l 84 sI4 a0), .c (.v (.int .i64 a1))]
theorem elszFlowS (k : Nat) (a0 : List (Int × Int × Int × Int)) (a1 : Int) : FlszFlowS (k + 1) a0 a1 = if (decide ((IntKind.i64.wrap (a1 - (a0.length : Int))) < 0)) = true then some (-1) else some (IntKind.i64.wrap (a1 - (a0.length : Int))) := by kernel_rfl
/-! loop.example/g00599/laws.szIntS -/
noncomputable def FlszIntS (k : Nat) (a0 : List Int) (a1 : Int) : Option (Int) := den E k 53 [.c (.l 3 (.i .i64) a0), .c (.v (.int .i64 a1))]
theorem elszIntS (k : Nat) (a0 : List Int) (a1 : Int) : FlszIntS (k + 1) a0 a1 = if (decide ((IntKind.i64.wrap (a1 - (a0.length : Int))) < 0)) = true then some (-1) else some (IntKind.i64.wrap (a1 - (a0.length : Int))) := by kernel_rfl
/-! loop.example/g00599/laws.szLaw -/
noncomputable def FlszLaw (k : Nat) (a0 : List Int) (a1 : Int) : Option (Int) := den E k 52 [.agg [.l 3 (.i .i64) a0], .c (.v (.int .i64 a1))]
theorem elszLaw (k : Nat) (a0 : List Int) (a1 : Int) : FlszLaw (k + 1) a0 a1 = (FlszIntS k a0 a1).bind fun p1 => if (decide (p1 < 0)) = true then some (-1) else some p1 := by kernel_rfl
/-! loop.example/g00599/laws.szPacketS -/
noncomputable def FlszPacketS (k : Nat) (a0 : List (Int × Int × Int × Int × Int × Int)) (a1 : Int) : Option (Int) := den E k 59 [.c (.l 192 sI6 a0), .c (.v (.int .i64 a1))]
theorem elszPacketS (k : Nat) (a0 : List (Int × Int × Int × Int × Int × Int)) (a1 : Int) : FlszPacketS (k + 1) a0 a1 = if (decide ((IntKind.i64.wrap (a1 - (a0.length : Int))) < 0)) = true then some (-1) else some (IntKind.i64.wrap (a1 - (a0.length : Int))) := by kernel_rfl
/-! loop.example/g00599/laws.szLinkS -/
noncomputable def FlszLinkS (k : Nat) (a0 : List (Int × Int)) (a1 : Int) : Option (Int) := den E k 301 [.c (.l 330 sI2 a0), .c (.v (.int .i64 a1))]
theorem elszLinkS (k : Nat) (a0 : List (Int × Int)) (a1 : Int) : FlszLinkS (k + 1) a0 a1 = if (decide ((IntKind.i64.wrap (a1 - (a0.length : Int))) < 0)) = true then some (-1) else some (IntKind.i64.wrap (a1 - (a0.length : Int))) := by kernel_rfl
/-! loop.example/g00599/laws.szTable -/
noncomputable def FlszTable (k : Nat) (a0 : Int × (List Int) × List Int) (a1 : Int) : Option (Int) := den E k 332 [.agg [.v (.int .i64 a0.1), .l 3 (.i .i64) a0.2.1, .l 3 (.i .i64) a0.2.2], .c (.v (.int .i64 a1))]
theorem elszTable (k : Nat) (a0 : Int × (List Int) × List Int) (a1 : Int) : FlszTable (k + 1) a0 a1 = (FlszIntS k a0.2.1 a1).bind fun p1 => if (decide (p1 < 0)) = true then some (-1) else (FlszIntS k a0.2.2 p1).bind fun p2 => if (decide (p2 < 0)) = true then some (-1) else some p2 := by kernel_rfl
/-! loop.example/g00599/laws.szTableS -/
noncomputable def FlszTableS (k : Nat) (a0 : List (Int × (List Int) × List Int)) (a1 : Int) : Option (Int) := den E k 302 [.c (.l 328 sTable a0), .c (.v (.int .i64 a1))]
abbrev ClszTableS_0 : Type := (List (Int × (List Int) × List Int))
abbrev VlszTableS_0 : Type := Int × Int
def StlszTableS_0 (c0 : ClszTableS_0) (v0 : VlszTableS_0) : St := ⟨27, 0, [(0, .c (.l 328 sTable c0)), (1, .c (.v (.int .i64 v0.1))), (5, .c (.v (.int .i64 v0.2)))], []⟩
noncomputable def BlszTableS_0 {R : Type} (k : Nat) (X0 : VlszTableS_0 → (Int × (List Int) × List Int) → Int → Option R) (X1 : VlszTableS_0 → Option R) (c0 : ClszTableS_0) (rec : VlszTableS_0 → Option R) (v0 : VlszTableS_0) : Option R := if (decide (v0.2 < (c0.length : Int))) = true then if 0 ≤ v0.2 then ix c0 v0.2.toNat fun x1 => (FlszTable k x1 v0.1).bind fun p2 => if (decide (p2 < 0)) = true then X0 v0 x1 p2 else rec (p2, (IntKind.i64.wrap (v0.2 + 1))) else none else X1 v0
noncomputable def LlszTableS_0 {R : Type} (k : Nat) (X0 : VlszTableS_0 → (Int × (List Int) × List Int) → Int → Option R) (X1 : VlszTableS_0 → Option R) (c : ClszTableS_0) : Nat → VlszTableS_0 → Option R
  | 0, _ => none
  | n + 1, v => BlszTableS_0 k X0 X1 c (LlszTableS_0 k X0 X1 c n) v
theorem blszTableS_0 {R : Type} (k n : Nat) (K : Ex → St → Option R) (c0 : ClszTableS_0) (v : VlszTableS_0) : loopRun [0, 0, 1, 5] (run E (den E k) (lv 302) k (nthLoop Tryz.f302 0)) (n + 1) (StlszTableS_0 c0 v) K = BlszTableS_0 k (fun (v0 : VlszTableS_0) (x1 : Int × (List Int) × List Int) (p2 : Int) => K .ret ⟨27, 0, [(0, .c (.l 328 sTable c0)), (1, .c (.v (.int .i64 p2))), (4, .c (.v (.int .i64 (-1)))), (5, .c (.v (.int .i64 v0.2))), (12, .c (.v (.int .i64 v0.2))), (13, .c (.l 328 sTable c0)), (14, .c (.v (.int .i64 (c0.length : Int)))), (15, .c (.v (.bool (decide (v0.2 < (c0.length : Int)))))), (18, .c (.l 328 sTable c0)), (19, .c (.v (.int .i64 v0.2))), (20, .c (.at_ [.v (.int .i64 x1.1), .l 3 (.i .i64) x1.2.1, .l 3 (.i .i64) x1.2.2])), (21, .agg [.v (.int .i64 x1.1), .l 3 (.i .i64) x1.2.1, .l 3 (.i .i64) x1.2.2]), (22, .c (.v (.int .i64 v0.1))), (23, .c (.v (.int .i64 p2))), (24, .c (.v (.int .i64 p2))), (25, .c (.v (.bool (decide (p2 < 0)))))], []⟩) (fun (v0 : VlszTableS_0) => K (.exit 0) ⟨27, 0, [(0, .c (.l 328 sTable c0)), (1, .c (.v (.int .i64 v0.1))), (5, .c (.v (.int .i64 v0.2))), (12, .c (.v (.int .i64 v0.2))), (13, .c (.l 328 sTable c0)), (14, .c (.v (.int .i64 (c0.length : Int)))), (15, .c (.v (.bool (decide (v0.2 < (c0.length : Int))))))], []⟩) c0 (fun v => loopRun [0, 0, 1, 5] (run E (den E k) (lv 302) k (nthLoop Tryz.f302 0)) n (StlszTableS_0 c0 v) K) v := by kernel_rfl
theorem llszTableS_0 {R : Type} (k : Nat) (K : Ex → St → Option R) (c0 : ClszTableS_0) : ∀ (n : Nat) (v : VlszTableS_0), loopRun [0, 0, 1, 5] (run E (den E k) (lv 302) k (nthLoop Tryz.f302 0)) n (StlszTableS_0 c0 v) K = LlszTableS_0 k (fun (v0 : VlszTableS_0) (x1 : Int × (List Int) × List Int) (p2 : Int) => K .ret ⟨27, 0, [(0, .c (.l 328 sTable c0)), (1, .c (.v (.int .i64 p2))), (4, .c (.v (.int .i64 (-1)))), (5, .c (.v (.int .i64 v0.2))), (12, .c (.v (.int .i64 v0.2))), (13, .c (.l 328 sTable c0)), (14, .c (.v (.int .i64 (c0.length : Int)))), (15, .c (.v (.bool (decide (v0.2 < (c0.length : Int)))))), (18, .c (.l 328 sTable c0)), (19, .c (.v (.int .i64 v0.2))), (20, .c (.at_ [.v (.int .i64 x1.1), .l 3 (.i .i64) x1.2.1, .l 3 (.i .i64) x1.2.2])), (21, .agg [.v (.int .i64 x1.1), .l 3 (.i .i64) x1.2.1, .l 3 (.i .i64) x1.2.2]), (22, .c (.v (.int .i64 v0.1))), (23, .c (.v (.int .i64 p2))), (24, .c (.v (.int .i64 p2))), (25, .c (.v (.bool (decide (p2 < 0)))))], []⟩) (fun (v0 : VlszTableS_0) => K (.exit 0) ⟨27, 0, [(0, .c (.l 328 sTable c0)), (1, .c (.v (.int .i64 v0.1))), (5, .c (.v (.int .i64 v0.2))), (12, .c (.v (.int .i64 v0.2))), (13, .c (.l 328 sTable c0)), (14, .c (.v (.int .i64 (c0.length : Int)))), (15, .c (.v (.bool (decide (v0.2 < (c0.length : Int))))))], []⟩) c0 n v := by
  intro n
  induction n with
  | zero => intro v; rfl
  | succ n ih =>
    intro v
    refine (blszTableS_0 k n K c0 v).trans ?_
    rw [funext ih]
    kernel_rfl
theorem mlszTableS_0 (k : Nat) (a0 : List (Int × (List Int) × List Int)) (a1 : Int) : FlszTableS (k + 1) a0 a1 = if (decide ((IntKind.i64.wrap (a1 - (a0.length : Int))) < 0)) = true then some (-1) else loopRun (R := Int) [0, 0, 1, 5] (run E (den E k) (lv 302) k (nthLoop Tryz.f302 0)) k (StlszTableS_0 a0 ((IntKind.i64.wrap (a1 - (a0.length : Int))), 0)) (kontAt E (den E k) (lv 302) k (bodyOf Tryz.f302) 0 [] (finish E (rs 302) Tryz.f302 : Ex → St → Option (Int))) := by kernel_rfl
theorem elszTableS (k : Nat) (a0 : List (Int × (List Int) × List Int)) (a1 : Int) : FlszTableS (k + 1) a0 a1 = if (decide ((IntKind.i64.wrap (a1 - (a0.length : Int))) < 0)) = true then some (-1) else LlszTableS_0 k (fun (v0 : Int × Int) (x1 : Int × (List Int) × List Int) (p2 : Int) => some (-1)) (fun (v0 : Int × Int) => some v0.1) a0 k ((IntKind.i64.wrap (a1 - (a0.length : Int))), 0) := by
  rw [mlszTableS_0]
  simp only [llszTableS_0]
  kernel_rfl
/-! loop.example/g00599/laws.szPiece -/
noncomputable def FlszPiece (k : Nat) (a0 : TPiece) (a1 : Int) : Option (Int) := den E k 244 [.agg [.v (.int .i64 a0.1.1), .v (.int .i64 a0.1.2), .l 330 sI2 a0.2.1, .l 328 sTable a0.2.2], .c (.v (.int .i64 a1))]
theorem elszPiece (k : Nat) (a0 : TPiece) (a1 : Int) : FlszPiece (k + 1) a0 a1 = (FlszLinkS k a0.2.1 a1).bind fun p1 => if (decide (p1 < 0)) = true then some (-1) else (FlszTableS k a0.2.2 p1).bind fun p2 => if (decide (p2 < 0)) = true then some (-1) else some p2 := by kernel_rfl
/-! loop.example/g00599/laws.szPieceS -/
noncomputable def FlszPieceS (k : Nat) (a0 : List TPiece) (a1 : Int) : Option (Int) := den E k 147 [.c (.l 260 sLPiece a0), .c (.v (.int .i64 a1))]
abbrev ClszPieceS_0 : Type := (List TPiece)
abbrev VlszPieceS_0 : Type := Int × Int
def StlszPieceS_0 (c0 : ClszPieceS_0) (v0 : VlszPieceS_0) : St := ⟨27, 0, [(0, .c (.l 260 sLPiece c0)), (1, .c (.v (.int .i64 v0.1))), (5, .c (.v (.int .i64 v0.2)))], []⟩
noncomputable def BlszPieceS_0 {R : Type} (k : Nat) (X0 : VlszPieceS_0 → TPiece → Int → Option R) (X1 : VlszPieceS_0 → Option R) (c0 : ClszPieceS_0) (rec : VlszPieceS_0 → Option R) (v0 : VlszPieceS_0) : Option R := if (decide (v0.2 < (c0.length : Int))) = true then if 0 ≤ v0.2 then ix c0 v0.2.toNat fun x1 => (FlszPiece k x1 v0.1).bind fun p2 => if (decide (p2 < 0)) = true then X0 v0 x1 p2 else rec (p2, (IntKind.i64.wrap (v0.2 + 1))) else none else X1 v0
noncomputable def LlszPieceS_0 {R : Type} (k : Nat) (X0 : VlszPieceS_0 → TPiece → Int → Option R) (X1 : VlszPieceS_0 → Option R) (c : ClszPieceS_0) : Nat → VlszPieceS_0 → Option R
  | 0, _ => none
  | n + 1, v => BlszPieceS_0 k X0 X1 c (LlszPieceS_0 k X0 X1 c n) v
theorem blszPieceS_0 {R : Type} (k n : Nat) (K : Ex → St → Option R) (c0 : ClszPieceS_0) (v : VlszPieceS_0) : loopRun [0, 0, 1, 5] (run E (den E k) (lv 147) k (nthLoop Tryz.f147 0)) (n + 1) (StlszPieceS_0 c0 v) K = BlszPieceS_0 k (fun (v0 : VlszPieceS_0) (x1 : TPiece) (p2 : Int) => K .ret ⟨27, 0, [(0, .c (.l 260 sLPiece c0)), (1, .c (.v (.int .i64 p2))), (4, .c (.v (.int .i64 (-1)))), (5, .c (.v (.int .i64 v0.2))), (12, .c (.v (.int .i64 v0.2))), (13, .c (.l 260 sLPiece c0)), (14, .c (.v (.int .i64 (c0.length : Int)))), (15, .c (.v (.bool (decide (v0.2 < (c0.length : Int)))))), (18, .c (.l 260 sLPiece c0)), (19, .c (.v (.int .i64 v0.2))), (20, .c (.at_ [.v (.int .i64 x1.1.1), .v (.int .i64 x1.1.2), .l 330 sI2 x1.2.1, .l 328 sTable x1.2.2])), (21, .agg [.v (.int .i64 x1.1.1), .v (.int .i64 x1.1.2), .l 330 sI2 x1.2.1, .l 328 sTable x1.2.2]), (22, .c (.v (.int .i64 v0.1))), (23, .c (.v (.int .i64 p2))), (24, .c (.v (.int .i64 p2))), (25, .c (.v (.bool (decide (p2 < 0)))))], []⟩) (fun (v0 : VlszPieceS_0) => K (.exit 0) ⟨27, 0, [(0, .c (.l 260 sLPiece c0)), (1, .c (.v (.int .i64 v0.1))), (5, .c (.v (.int .i64 v0.2))), (12, .c (.v (.int .i64 v0.2))), (13, .c (.l 260 sLPiece c0)), (14, .c (.v (.int .i64 (c0.length : Int)))), (15, .c (.v (.bool (decide (v0.2 < (c0.length : Int))))))], []⟩) c0 (fun v => loopRun [0, 0, 1, 5] (run E (den E k) (lv 147) k (nthLoop Tryz.f147 0)) n (StlszPieceS_0 c0 v) K) v := by kernel_rfl
theorem llszPieceS_0 {R : Type} (k : Nat) (K : Ex → St → Option R) (c0 : ClszPieceS_0) : ∀ (n : Nat) (v : VlszPieceS_0), loopRun [0, 0, 1, 5] (run E (den E k) (lv 147) k (nthLoop Tryz.f147 0)) n (StlszPieceS_0 c0 v) K = LlszPieceS_0 k (fun (v0 : VlszPieceS_0) (x1 : TPiece) (p2 : Int) => K .ret ⟨27, 0, [(0, .c (.l 260 sLPiece c0)), (1, .c (.v (.int .i64 p2))), (4, .c (.v (.int .i64 (-1)))), (5, .c (.v (.int .i64 v0.2))), (12, .c (.v (.int .i64 v0.2))), (13, .c (.l 260 sLPiece c0)), (14, .c (.v (.int .i64 (c0.length : Int)))), (15, .c (.v (.bool (decide (v0.2 < (c0.length : Int)))))), (18, .c (.l 260 sLPiece c0)), (19, .c (.v (.int .i64 v0.2))), (20, .c (.at_ [.v (.int .i64 x1.1.1), .v (.int .i64 x1.1.2), .l 330 sI2 x1.2.1, .l 328 sTable x1.2.2])), (21, .agg [.v (.int .i64 x1.1.1), .v (.int .i64 x1.1.2), .l 330 sI2 x1.2.1, .l 328 sTable x1.2.2]), (22, .c (.v (.int .i64 v0.1))), (23, .c (.v (.int .i64 p2))), (24, .c (.v (.int .i64 p2))), (25, .c (.v (.bool (decide (p2 < 0)))))], []⟩) (fun (v0 : VlszPieceS_0) => K (.exit 0) ⟨27, 0, [(0, .c (.l 260 sLPiece c0)), (1, .c (.v (.int .i64 v0.1))), (5, .c (.v (.int .i64 v0.2))), (12, .c (.v (.int .i64 v0.2))), (13, .c (.l 260 sLPiece c0)), (14, .c (.v (.int .i64 (c0.length : Int)))), (15, .c (.v (.bool (decide (v0.2 < (c0.length : Int))))))], []⟩) c0 n v := by
  intro n
  induction n with
  | zero => intro v; rfl
  | succ n ih =>
    intro v
    refine (blszPieceS_0 k n K c0 v).trans ?_
    rw [funext ih]
    kernel_rfl
theorem mlszPieceS_0 (k : Nat) (a0 : List TPiece) (a1 : Int) : FlszPieceS (k + 1) a0 a1 = if (decide ((IntKind.i64.wrap (a1 - (a0.length : Int))) < 0)) = true then some (-1) else loopRun (R := Int) [0, 0, 1, 5] (run E (den E k) (lv 147) k (nthLoop Tryz.f147 0)) k (StlszPieceS_0 a0 ((IntKind.i64.wrap (a1 - (a0.length : Int))), 0)) (kontAt E (den E k) (lv 147) k (bodyOf Tryz.f147) 0 [] (finish E (rs 147) Tryz.f147 : Ex → St → Option (Int))) := by kernel_rfl
theorem elszPieceS (k : Nat) (a0 : List TPiece) (a1 : Int) : FlszPieceS (k + 1) a0 a1 = if (decide ((IntKind.i64.wrap (a1 - (a0.length : Int))) < 0)) = true then some (-1) else LlszPieceS_0 k (fun (v0 : Int × Int) (x1 : TPiece) (p2 : Int) => some (-1)) (fun (v0 : Int × Int) => some v0.1) a0 k ((IntKind.i64.wrap (a1 - (a0.length : Int))), 0) := by
  rw [mlszPieceS_0]
  simp only [llszPieceS_0]
  kernel_rfl
/-! loop.example/g00599/laws.szProgram -/
noncomputable def FlszProgram (k : Nat) (a0 : TProgram) (a1 : Int) : Option (Int) := den E k 51 [.agg [.v (.int .i64 a0.1), .v (.int .i64 a0.2.1), .v (.int .i64 a0.2.2.1), .l 260 sLPiece a0.2.2.2], .c (.v (.int .i64 a1))]
theorem elszProgram (k : Nat) (a0 : TProgram) (a1 : Int) : FlszProgram (k + 1) a0 a1 = (FlszPieceS k a0.2.2.2 a1).bind fun p1 => if (decide (p1 < 0)) = true then some (-1) else some p1 := by kernel_rfl
/-! loop.example/g00599/laws.szQueue -/
noncomputable def FlszQueue (k : Nat) (a0 : List (Int × Int × Int × Int × Int × Int)) (a1 : Int) : Option (Int) := den E k 148 [.agg [.l 192 sI6 a0], .c (.v (.int .i64 a1))]
theorem elszQueue (k : Nat) (a0 : List (Int × Int × Int × Int × Int × Int)) (a1 : Int) : FlszQueue (k + 1) a0 a1 = (FlszPacketS k a0 a1).bind fun p1 => if (decide (p1 < 0)) = true then some (-1) else some p1 := by kernel_rfl
/-! loop.example/g00599/laws.szQueueS -/
noncomputable def FlszQueueS (k : Nat) (a0 : List (List (Int × Int × Int × Int × Int × Int))) (a1 : Int) : Option (Int) := den E k 55 [.c (.l 180 sLQueue a0), .c (.v (.int .i64 a1))]
abbrev ClszQueueS_0 : Type := (List (List (Int × Int × Int × Int × Int × Int)))
abbrev VlszQueueS_0 : Type := Int × Int
def StlszQueueS_0 (c0 : ClszQueueS_0) (v0 : VlszQueueS_0) : St := ⟨27, 0, [(0, .c (.l 180 sLQueue c0)), (1, .c (.v (.int .i64 v0.1))), (5, .c (.v (.int .i64 v0.2)))], []⟩
noncomputable def BlszQueueS_0 {R : Type} (k : Nat) (X0 : VlszQueueS_0 → (List (Int × Int × Int × Int × Int × Int)) → Int → Option R) (X1 : VlszQueueS_0 → Option R) (c0 : ClszQueueS_0) (rec : VlszQueueS_0 → Option R) (v0 : VlszQueueS_0) : Option R := if (decide (v0.2 < (c0.length : Int))) = true then if 0 ≤ v0.2 then ix c0 v0.2.toNat fun x1 => (FlszQueue k x1 v0.1).bind fun p2 => if (decide (p2 < 0)) = true then X0 v0 x1 p2 else rec (p2, (IntKind.i64.wrap (v0.2 + 1))) else none else X1 v0
noncomputable def LlszQueueS_0 {R : Type} (k : Nat) (X0 : VlszQueueS_0 → (List (Int × Int × Int × Int × Int × Int)) → Int → Option R) (X1 : VlszQueueS_0 → Option R) (c : ClszQueueS_0) : Nat → VlszQueueS_0 → Option R
  | 0, _ => none
  | n + 1, v => BlszQueueS_0 k X0 X1 c (LlszQueueS_0 k X0 X1 c n) v
theorem blszQueueS_0 {R : Type} (k n : Nat) (K : Ex → St → Option R) (c0 : ClszQueueS_0) (v : VlszQueueS_0) : loopRun [0, 0, 1, 5] (run E (den E k) (lv 55) k (nthLoop Tryz.f55 0)) (n + 1) (StlszQueueS_0 c0 v) K = BlszQueueS_0 k (fun (v0 : VlszQueueS_0) (x1 : List (Int × Int × Int × Int × Int × Int)) (p2 : Int) => K .ret ⟨27, 0, [(0, .c (.l 180 sLQueue c0)), (1, .c (.v (.int .i64 p2))), (4, .c (.v (.int .i64 (-1)))), (5, .c (.v (.int .i64 v0.2))), (12, .c (.v (.int .i64 v0.2))), (13, .c (.l 180 sLQueue c0)), (14, .c (.v (.int .i64 (c0.length : Int)))), (15, .c (.v (.bool (decide (v0.2 < (c0.length : Int)))))), (18, .c (.l 180 sLQueue c0)), (19, .c (.v (.int .i64 v0.2))), (20, .c (.at_ [.l 192 sI6 x1])), (21, .agg [.l 192 sI6 x1]), (22, .c (.v (.int .i64 v0.1))), (23, .c (.v (.int .i64 p2))), (24, .c (.v (.int .i64 p2))), (25, .c (.v (.bool (decide (p2 < 0)))))], []⟩) (fun (v0 : VlszQueueS_0) => K (.exit 0) ⟨27, 0, [(0, .c (.l 180 sLQueue c0)), (1, .c (.v (.int .i64 v0.1))), (5, .c (.v (.int .i64 v0.2))), (12, .c (.v (.int .i64 v0.2))), (13, .c (.l 180 sLQueue c0)), (14, .c (.v (.int .i64 (c0.length : Int)))), (15, .c (.v (.bool (decide (v0.2 < (c0.length : Int))))))], []⟩) c0 (fun v => loopRun [0, 0, 1, 5] (run E (den E k) (lv 55) k (nthLoop Tryz.f55 0)) n (StlszQueueS_0 c0 v) K) v := by kernel_rfl
theorem llszQueueS_0 {R : Type} (k : Nat) (K : Ex → St → Option R) (c0 : ClszQueueS_0) : ∀ (n : Nat) (v : VlszQueueS_0), loopRun [0, 0, 1, 5] (run E (den E k) (lv 55) k (nthLoop Tryz.f55 0)) n (StlszQueueS_0 c0 v) K = LlszQueueS_0 k (fun (v0 : VlszQueueS_0) (x1 : List (Int × Int × Int × Int × Int × Int)) (p2 : Int) => K .ret ⟨27, 0, [(0, .c (.l 180 sLQueue c0)), (1, .c (.v (.int .i64 p2))), (4, .c (.v (.int .i64 (-1)))), (5, .c (.v (.int .i64 v0.2))), (12, .c (.v (.int .i64 v0.2))), (13, .c (.l 180 sLQueue c0)), (14, .c (.v (.int .i64 (c0.length : Int)))), (15, .c (.v (.bool (decide (v0.2 < (c0.length : Int)))))), (18, .c (.l 180 sLQueue c0)), (19, .c (.v (.int .i64 v0.2))), (20, .c (.at_ [.l 192 sI6 x1])), (21, .agg [.l 192 sI6 x1]), (22, .c (.v (.int .i64 v0.1))), (23, .c (.v (.int .i64 p2))), (24, .c (.v (.int .i64 p2))), (25, .c (.v (.bool (decide (p2 < 0)))))], []⟩) (fun (v0 : VlszQueueS_0) => K (.exit 0) ⟨27, 0, [(0, .c (.l 180 sLQueue c0)), (1, .c (.v (.int .i64 v0.1))), (5, .c (.v (.int .i64 v0.2))), (12, .c (.v (.int .i64 v0.2))), (13, .c (.l 180 sLQueue c0)), (14, .c (.v (.int .i64 (c0.length : Int)))), (15, .c (.v (.bool (decide (v0.2 < (c0.length : Int))))))], []⟩) c0 n v := by
  intro n
  induction n with
  | zero => intro v; rfl
  | succ n ih =>
    intro v
    refine (blszQueueS_0 k n K c0 v).trans ?_
    rw [funext ih]
    kernel_rfl
theorem mlszQueueS_0 (k : Nat) (a0 : List (List (Int × Int × Int × Int × Int × Int))) (a1 : Int) : FlszQueueS (k + 1) a0 a1 = if (decide ((IntKind.i64.wrap (a1 - (a0.length : Int))) < 0)) = true then some (-1) else loopRun (R := Int) [0, 0, 1, 5] (run E (den E k) (lv 55) k (nthLoop Tryz.f55 0)) k (StlszQueueS_0 a0 ((IntKind.i64.wrap (a1 - (a0.length : Int))), 0)) (kontAt E (den E k) (lv 55) k (bodyOf Tryz.f55) 0 [] (finish E (rs 55) Tryz.f55 : Ex → St → Option (Int))) := by kernel_rfl
theorem elszQueueS (k : Nat) (a0 : List (List (Int × Int × Int × Int × Int × Int))) (a1 : Int) : FlszQueueS (k + 1) a0 a1 = if (decide ((IntKind.i64.wrap (a1 - (a0.length : Int))) < 0)) = true then some (-1) else LlszQueueS_0 k (fun (v0 : Int × Int) (x1 : List (Int × Int × Int × Int × Int × Int)) (p2 : Int) => some (-1)) (fun (v0 : Int × Int) => some v0.1) a0 k ((IntKind.i64.wrap (a1 - (a0.length : Int))), 0) := by
  rw [mlszQueueS_0]
  simp only [llszQueueS_0]
  kernel_rfl
/-! loop.example/g00599/laws.szSentS -/
noncomputable def FlszSentS (k : Nat) (a0 : List (Int × Int × Int × Int)) (a1 : Int) : Option (Int) := den E k 60 [.c (.l 92 sI4 a0), .c (.v (.int .i64 a1))]
theorem elszSentS (k : Nat) (a0 : List (Int × Int × Int × Int)) (a1 : Int) : FlszSentS (k + 1) a0 a1 = if (decide ((IntKind.i64.wrap (a1 - (a0.length : Int))) < 0)) = true then some (-1) else some (IntKind.i64.wrap (a1 - (a0.length : Int))) := by kernel_rfl
/-! loop.example/g00599/laws.szSatS -/
noncomputable def FlszSatS (k : Nat) (a0 : List (Int × Int × Int × Int)) (a1 : Int) : Option (Int) := den E k 144 [.c (.l 264 sI4 a0), .c (.v (.int .i64 a1))]
theorem elszSatS (k : Nat) (a0 : List (Int × Int × Int × Int)) (a1 : Int) : FlszSatS (k + 1) a0 a1 = if (decide ((IntKind.i64.wrap (a1 - (a0.length : Int))) < 0)) = true then some (-1) else some (IntKind.i64.wrap (a1 - (a0.length : Int))) := by kernel_rfl
/-! loop.example/g00599/laws.szSiteS -/
noncomputable def FlszSiteS (k : Nat) (a0 : List (Int × Int × Int)) (a1 : Int) : Option (Int) := den E k 145 [.c (.l 268 sI3 a0), .c (.v (.int .i64 a1))]
theorem elszSiteS (k : Nat) (a0 : List (Int × Int × Int)) (a1 : Int) : FlszSiteS (k + 1) a0 a1 = if (decide ((IntKind.i64.wrap (a1 - (a0.length : Int))) < 0)) = true then some (-1) else some (IntKind.i64.wrap (a1 - (a0.length : Int))) := by kernel_rfl
/-! loop.example/g00599/laws.szZoneS -/
noncomputable def FlszZoneS (k : Nat) (a0 : List (Int × Int × Int)) (a1 : Int) : Option (Int) := den E k 146 [.c (.l 276 sZone a0), .c (.v (.int .i64 a1))]
theorem elszZoneS (k : Nat) (a0 : List (Int × Int × Int)) (a1 : Int) : FlszZoneS (k + 1) a0 a1 = if (decide ((IntKind.i64.wrap (a1 - (a0.length : Int))) < 0)) = true then some (-1) else some (IntKind.i64.wrap (a1 - (a0.length : Int))) := by kernel_rfl
/-! loop.example/g00599/laws.szSky -/
noncomputable def FlszSky (k : Nat) (a0 : TSky) (a1 : Int) : Option (Int) := den E k 50 [.agg [.v (.int .i64 a0.1), .l 264 sI4 a0.2.1, .l 268 sI3 a0.2.2.1, .v (.int .i64 a0.2.2.2.1), .v (.int .i64 a0.2.2.2.2.1), .v (.int .i64 a0.2.2.2.2.2.1), .v (.int .i64 a0.2.2.2.2.2.2.1), .v (.int .i64 a0.2.2.2.2.2.2.2.1), .l 276 sZone a0.2.2.2.2.2.2.2.2.1, .v (.int .i64 a0.2.2.2.2.2.2.2.2.2)], .c (.v (.int .i64 a1))]
theorem elszSky (k : Nat) (a0 : TSky) (a1 : Int) : FlszSky (k + 1) a0 a1 = (FlszSatS k a0.2.1 a1).bind fun p1 => if (decide (p1 < 0)) = true then some (-1) else (FlszSiteS k a0.2.2.1 p1).bind fun p2 => if (decide (p2 < 0)) = true then some (-1) else (FlszZoneS k a0.2.2.2.2.2.2.2.2.1 p2).bind fun p3 => if (decide (p3 < 0)) = true then some (-1) else some p3 := by kernel_rfl
/-! loop.example/g00599/laws.szStream -/
noncomputable def FlszStream (k : Nat) (a0 : Int × Int × List Int) (a1 : Int) : Option (Int) := den E k 149 [.agg [.v (.int .i64 a0.1), .v (.int .i64 a0.2.1), .l 3 (.i .i64) a0.2.2], .c (.v (.int .i64 a1))]
theorem elszStream (k : Nat) (a0 : Int × Int × List Int) (a1 : Int) : FlszStream (k + 1) a0 a1 = (FlszIntS k a0.2.2 a1).bind fun p1 => if (decide (p1 < 0)) = true then some (-1) else some p1 := by kernel_rfl
/-! loop.example/g00599/laws.szStreamS -/
noncomputable def FlszStreamS (k : Nat) (a0 : List (Int × Int × List Int)) (a1 : Int) : Option (Int) := den E k 57 [.c (.l 182 sStream a0), .c (.v (.int .i64 a1))]
abbrev ClszStreamS_0 : Type := (List (Int × Int × List Int))
abbrev VlszStreamS_0 : Type := Int × Int
def StlszStreamS_0 (c0 : ClszStreamS_0) (v0 : VlszStreamS_0) : St := ⟨27, 0, [(0, .c (.l 182 sStream c0)), (1, .c (.v (.int .i64 v0.1))), (5, .c (.v (.int .i64 v0.2)))], []⟩
noncomputable def BlszStreamS_0 {R : Type} (k : Nat) (X0 : VlszStreamS_0 → (Int × Int × List Int) → Int → Option R) (X1 : VlszStreamS_0 → Option R) (c0 : ClszStreamS_0) (rec : VlszStreamS_0 → Option R) (v0 : VlszStreamS_0) : Option R := if (decide (v0.2 < (c0.length : Int))) = true then if 0 ≤ v0.2 then ix c0 v0.2.toNat fun x1 => (FlszStream k x1 v0.1).bind fun p2 => if (decide (p2 < 0)) = true then X0 v0 x1 p2 else rec (p2, (IntKind.i64.wrap (v0.2 + 1))) else none else X1 v0
noncomputable def LlszStreamS_0 {R : Type} (k : Nat) (X0 : VlszStreamS_0 → (Int × Int × List Int) → Int → Option R) (X1 : VlszStreamS_0 → Option R) (c : ClszStreamS_0) : Nat → VlszStreamS_0 → Option R
  | 0, _ => none
  | n + 1, v => BlszStreamS_0 k X0 X1 c (LlszStreamS_0 k X0 X1 c n) v
theorem blszStreamS_0 {R : Type} (k n : Nat) (K : Ex → St → Option R) (c0 : ClszStreamS_0) (v : VlszStreamS_0) : loopRun [0, 0, 1, 5] (run E (den E k) (lv 57) k (nthLoop Tryz.f57 0)) (n + 1) (StlszStreamS_0 c0 v) K = BlszStreamS_0 k (fun (v0 : VlszStreamS_0) (x1 : Int × Int × List Int) (p2 : Int) => K .ret ⟨27, 0, [(0, .c (.l 182 sStream c0)), (1, .c (.v (.int .i64 p2))), (4, .c (.v (.int .i64 (-1)))), (5, .c (.v (.int .i64 v0.2))), (12, .c (.v (.int .i64 v0.2))), (13, .c (.l 182 sStream c0)), (14, .c (.v (.int .i64 (c0.length : Int)))), (15, .c (.v (.bool (decide (v0.2 < (c0.length : Int)))))), (18, .c (.l 182 sStream c0)), (19, .c (.v (.int .i64 v0.2))), (20, .c (.at_ [.v (.int .i64 x1.1), .v (.int .i64 x1.2.1), .l 3 (.i .i64) x1.2.2])), (21, .agg [.v (.int .i64 x1.1), .v (.int .i64 x1.2.1), .l 3 (.i .i64) x1.2.2]), (22, .c (.v (.int .i64 v0.1))), (23, .c (.v (.int .i64 p2))), (24, .c (.v (.int .i64 p2))), (25, .c (.v (.bool (decide (p2 < 0)))))], []⟩) (fun (v0 : VlszStreamS_0) => K (.exit 0) ⟨27, 0, [(0, .c (.l 182 sStream c0)), (1, .c (.v (.int .i64 v0.1))), (5, .c (.v (.int .i64 v0.2))), (12, .c (.v (.int .i64 v0.2))), (13, .c (.l 182 sStream c0)), (14, .c (.v (.int .i64 (c0.length : Int)))), (15, .c (.v (.bool (decide (v0.2 < (c0.length : Int))))))], []⟩) c0 (fun v => loopRun [0, 0, 1, 5] (run E (den E k) (lv 57) k (nthLoop Tryz.f57 0)) n (StlszStreamS_0 c0 v) K) v := by kernel_rfl
theorem llszStreamS_0 {R : Type} (k : Nat) (K : Ex → St → Option R) (c0 : ClszStreamS_0) : ∀ (n : Nat) (v : VlszStreamS_0), loopRun [0, 0, 1, 5] (run E (den E k) (lv 57) k (nthLoop Tryz.f57 0)) n (StlszStreamS_0 c0 v) K = LlszStreamS_0 k (fun (v0 : VlszStreamS_0) (x1 : Int × Int × List Int) (p2 : Int) => K .ret ⟨27, 0, [(0, .c (.l 182 sStream c0)), (1, .c (.v (.int .i64 p2))), (4, .c (.v (.int .i64 (-1)))), (5, .c (.v (.int .i64 v0.2))), (12, .c (.v (.int .i64 v0.2))), (13, .c (.l 182 sStream c0)), (14, .c (.v (.int .i64 (c0.length : Int)))), (15, .c (.v (.bool (decide (v0.2 < (c0.length : Int)))))), (18, .c (.l 182 sStream c0)), (19, .c (.v (.int .i64 v0.2))), (20, .c (.at_ [.v (.int .i64 x1.1), .v (.int .i64 x1.2.1), .l 3 (.i .i64) x1.2.2])), (21, .agg [.v (.int .i64 x1.1), .v (.int .i64 x1.2.1), .l 3 (.i .i64) x1.2.2]), (22, .c (.v (.int .i64 v0.1))), (23, .c (.v (.int .i64 p2))), (24, .c (.v (.int .i64 p2))), (25, .c (.v (.bool (decide (p2 < 0)))))], []⟩) (fun (v0 : VlszStreamS_0) => K (.exit 0) ⟨27, 0, [(0, .c (.l 182 sStream c0)), (1, .c (.v (.int .i64 v0.1))), (5, .c (.v (.int .i64 v0.2))), (12, .c (.v (.int .i64 v0.2))), (13, .c (.l 182 sStream c0)), (14, .c (.v (.int .i64 (c0.length : Int)))), (15, .c (.v (.bool (decide (v0.2 < (c0.length : Int))))))], []⟩) c0 n v := by
  intro n
  induction n with
  | zero => intro v; rfl
  | succ n ih =>
    intro v
    refine (blszStreamS_0 k n K c0 v).trans ?_
    rw [funext ih]
    kernel_rfl
theorem mlszStreamS_0 (k : Nat) (a0 : List (Int × Int × List Int)) (a1 : Int) : FlszStreamS (k + 1) a0 a1 = if (decide ((IntKind.i64.wrap (a1 - (a0.length : Int))) < 0)) = true then some (-1) else loopRun (R := Int) [0, 0, 1, 5] (run E (den E k) (lv 57) k (nthLoop Tryz.f57 0)) k (StlszStreamS_0 a0 ((IntKind.i64.wrap (a1 - (a0.length : Int))), 0)) (kontAt E (den E k) (lv 57) k (bodyOf Tryz.f57) 0 [] (finish E (rs 57) Tryz.f57 : Ex → St → Option (Int))) := by kernel_rfl
theorem elszStreamS (k : Nat) (a0 : List (Int × Int × List Int)) (a1 : Int) : FlszStreamS (k + 1) a0 a1 = if (decide ((IntKind.i64.wrap (a1 - (a0.length : Int))) < 0)) = true then some (-1) else LlszStreamS_0 k (fun (v0 : Int × Int) (x1 : Int × Int × List Int) (p2 : Int) => some (-1)) (fun (v0 : Int × Int) => some v0.1) a0 k ((IntKind.i64.wrap (a1 - (a0.length : Int))), 0) := by
  rw [mlszStreamS_0]
  simp only [llszStreamS_0]
  kernel_rfl
/-! loop.example/g00599/laws.szWorld -/
noncomputable def FlszWorld (k : Nat) (a0 : TWorld) (a1 : Int) : Option (Int) := den E k 14 [.agg [.v (.int .i64 a0.1.1), .l 264 sI4 a0.1.2.1, .l 268 sI3 a0.1.2.2.1, .v (.int .i64 a0.1.2.2.2.1), .v (.int .i64 a0.1.2.2.2.2.1), .v (.int .i64 a0.1.2.2.2.2.2.1), .v (.int .i64 a0.1.2.2.2.2.2.2.1), .v (.int .i64 a0.1.2.2.2.2.2.2.2.1), .l 276 sZone a0.1.2.2.2.2.2.2.2.2.1, .v (.int .i64 a0.1.2.2.2.2.2.2.2.2.2), .v (.int .i64 a0.2.1.1), .v (.int .i64 a0.2.1.2.1), .v (.int .i64 a0.2.1.2.2.1), .l 260 sLPiece a0.2.1.2.2.2, .l 3 (.i .i64) a0.2.2.1, .l 3 (.i .i64) a0.2.2.2.1, .l 188 sI6 a0.2.2.2.2.1, .l 180 sLQueue a0.2.2.2.2.2.1, .l 84 sI4 a0.2.2.2.2.2.2.1, .l 3 (.i .i64) a0.2.2.2.2.2.2.2.1, .l 182 sStream a0.2.2.2.2.2.2.2.2.1, .l 76 sI4 a0.2.2.2.2.2.2.2.2.2.1, .v (.int .i64 a0.2.2.2.2.2.2.2.2.2.2.1), .v (.int .i64 a0.2.2.2.2.2.2.2.2.2.2.2.1), .l 192 sI6 a0.2.2.2.2.2.2.2.2.2.2.2.2.1, .l 92 sI4 a0.2.2.2.2.2.2.2.2.2.2.2.2.2], .c (.v (.int .i64 a1))]
theorem elszWorld (k : Nat) (a0 : TWorld) (a1 : Int) : FlszWorld (k + 1) a0 a1 = (FlszSky k a0.1 a1).bind fun p1 => if (decide (p1 < 0)) = true then some (-1) else (FlszProgram k a0.2.1 p1).bind fun p2 => if (decide (p2 < 0)) = true then some (-1) else (FlszLaw k a0.2.2.1 p2).bind fun p3 => if (decide (p3 < 0)) = true then some (-1) else (FlszIntS k a0.2.2.2.1 p3).bind fun p4 => if (decide (p4 < 0)) = true then some (-1) else (FlszBatteryS k a0.2.2.2.2.1 p4).bind fun p5 => if (decide (p5 < 0)) = true then some (-1) else (FlszQueueS k a0.2.2.2.2.2.1 p5).bind fun p6 => if (decide (p6 < 0)) = true then some (-1) else (FlszFlowS k a0.2.2.2.2.2.2.1 p6).bind fun p7 => if (decide (p7 < 0)) = true then some (-1) else (FlszIntS k a0.2.2.2.2.2.2.2.1 p7).bind fun p8 => if (decide (p8 < 0)) = true then some (-1) else (FlszStreamS k a0.2.2.2.2.2.2.2.2.1 p8).bind fun p9 => if (decide (p9 < 0)) = true then some (-1) else (FlszFaultS k a0.2.2.2.2.2.2.2.2.2.1 p9).bind fun p10 => if (decide (p10 < 0)) = true then some (-1) else (FlszPacketS k a0.2.2.2.2.2.2.2.2.2.2.2.2.1 p10).bind fun p11 => if (decide (p11 < 0)) = true then some (-1) else (FlszSentS k a0.2.2.2.2.2.2.2.2.2.2.2.2.2 p11).bind fun p12 => if (decide (p12 < 0)) = true then some (-1) else some p12 := by kernel_rfl
/-! loop.example/g00599/laws.toBattery -/
noncomputable def FltoBattery (k : Nat) (a0 : Int × Int × Int × Int × Int × Int) : Option (Int × Int × Int × Int × Int × Int) := den E k 154 [.agg [.v (.int .i64 a0.1), .v (.int .i64 a0.2.1), .v (.int .i64 a0.2.2.1), .v (.int .i64 a0.2.2.2.1), .v (.int .i64 a0.2.2.2.2.1), .v (.int .i64 a0.2.2.2.2.2)]]
theorem eltoBattery (k : Nat) (a0 : Int × Int × Int × Int × Int × Int) : FltoBattery (k + 1) a0 = some a0 := by kernel_rfl
/-! loop.example/g00599/laws.toBatteryS -/
noncomputable def FltoBatteryS (k : Nat) (a0 : List (Int × Int × Int × Int × Int × Int)) : Option (List (Int × Int × Int × Int × Int × Int)) := den E k 65 [.c (.l 188 sI6 a0)]
abbrev CltoBatteryS_0 : Type := (List (Int × Int × Int × Int × Int × Int))
abbrev VltoBatteryS_0 : Type := Int × (List (Int × Int × Int × Int × Int × Int))
def StltoBatteryS_0 (c0 : CltoBatteryS_0) (v0 : VltoBatteryS_0) : St := ⟨23, 1, [(0, .c (.l 188 sI6 c0)), (3, .c (.ref 0)), (4, .c (.v (.int .i64 v0.1)))], [(0, .arr 141 sI6 v0.2)]⟩
noncomputable def BltoBatteryS_0 {R : Type} (k : Nat) (X0 : VltoBatteryS_0 → Option R) (c0 : CltoBatteryS_0) (rec : VltoBatteryS_0 → Option R) (v0 : VltoBatteryS_0) : Option R := if (decide (v0.1 < (c0.length : Int))) = true then if 0 ≤ v0.1 then ix c0 v0.1.toNat fun x1 => (FltoBattery k x1).bind fun p2 => if 0 ≤ v0.1 then if v0.1 < (v0.2.length : Int) then ix v0.2 v0.1.toNat fun y3 => rec ((IntKind.i64.wrap (v0.1 + 1)), (v0.2.set v0.1.toNat p2)) else none else none else none else X0 v0
noncomputable def LltoBatteryS_0 {R : Type} (k : Nat) (X0 : VltoBatteryS_0 → Option R) (c : CltoBatteryS_0) : Nat → VltoBatteryS_0 → Option R
  | 0, _ => none
  | n + 1, v => BltoBatteryS_0 k X0 c (LltoBatteryS_0 k X0 c n) v
theorem bltoBatteryS_0 {R : Type} (k n : Nat) (K : Ex → St → Option R) (c0 : CltoBatteryS_0) (v : VltoBatteryS_0) : loopRun [0, 0, 3, 4] (run E (den E k) (lv 65) k (nthLoop Tryz.f65 0)) (n + 1) (StltoBatteryS_0 c0 v) K = BltoBatteryS_0 k (fun (v0 : VltoBatteryS_0) => K (.exit 0) ⟨23, 1, [(0, .c (.l 188 sI6 c0)), (3, .c (.ref 0)), (4, .c (.v (.int .i64 v0.1))), (8, .c (.v (.int .i64 v0.1))), (9, .c (.l 188 sI6 c0)), (10, .c (.v (.int .i64 (c0.length : Int)))), (11, .c (.v (.bool (decide (v0.1 < (c0.length : Int))))))], [(0, .arr 141 sI6 v0.2)]⟩) c0 (fun v => loopRun [0, 0, 3, 4] (run E (den E k) (lv 65) k (nthLoop Tryz.f65 0)) n (StltoBatteryS_0 c0 v) K) v := by kernel_rfl
theorem lltoBatteryS_0 {R : Type} (k : Nat) (K : Ex → St → Option R) (c0 : CltoBatteryS_0) : ∀ (n : Nat) (v : VltoBatteryS_0), loopRun [0, 0, 3, 4] (run E (den E k) (lv 65) k (nthLoop Tryz.f65 0)) n (StltoBatteryS_0 c0 v) K = LltoBatteryS_0 k (fun (v0 : VltoBatteryS_0) => K (.exit 0) ⟨23, 1, [(0, .c (.l 188 sI6 c0)), (3, .c (.ref 0)), (4, .c (.v (.int .i64 v0.1))), (8, .c (.v (.int .i64 v0.1))), (9, .c (.l 188 sI6 c0)), (10, .c (.v (.int .i64 (c0.length : Int)))), (11, .c (.v (.bool (decide (v0.1 < (c0.length : Int))))))], [(0, .arr 141 sI6 v0.2)]⟩) c0 n v := by
  intro n
  induction n with
  | zero => intro v; rfl
  | succ n ih =>
    intro v
    refine (bltoBatteryS_0 k n K c0 v).trans ?_
    rw [funext ih]
    kernel_rfl
theorem mltoBatteryS_0 (k : Nat) (a0 : List (Int × Int × Int × Int × Int × Int)) : FltoBatteryS (k + 1) a0 = if (a0.length : Int) = (a0.length : Int) then if 0 ≤ (a0.length : Int) then if 48 * (a0.length : Int).toNat ≤ 281474976710656 then loopRun (R := List (Int × Int × Int × Int × Int × Int)) [0, 0, 3, 4] (run E (den E k) (lv 65) k (nthLoop Tryz.f65 0)) k (StltoBatteryS_0 a0 (0, (List.replicate (a0.length : Int).toNat ((0, 0, 0, 0, 0, 0) : Int × Int × Int × Int × Int × Int)))) (kontAt E (den E k) (lv 65) k (bodyOf Tryz.f65) 0 [] (finish E (rs 65) Tryz.f65 : Ex → St → Option (List (Int × Int × Int × Int × Int × Int)))) else none else none else none := by kernel_rfl
theorem eltoBatteryS (k : Nat) (a0 : List (Int × Int × Int × Int × Int × Int)) : FltoBatteryS (k + 1) a0 = if (a0.length : Int) = (a0.length : Int) then if 0 ≤ (a0.length : Int) then if 48 * (a0.length : Int).toNat ≤ 281474976710656 then LltoBatteryS_0 k (fun (v0 : Int × (List (Int × Int × Int × Int × Int × Int))) => some v0.2) a0 k (0, (List.replicate (a0.length : Int).toNat ((0, 0, 0, 0, 0, 0) : Int × Int × Int × Int × Int × Int))) else none else none else none := by
  rw [mltoBatteryS_0]
  simp only [lltoBatteryS_0]
  kernel_rfl
/-! loop.example/g00599/laws.toFault -/
noncomputable def FltoFault (k : Nat) (a0 : Int × Int × Int × Int) : Option (Int × Int × Int × Int) := den E k 37 [.agg [.v (.int .i64 a0.1), .v (.int .i64 a0.2.1), .v (.int .i64 a0.2.2.1), .v (.int .i64 a0.2.2.2)]]
theorem eltoFault (k : Nat) (a0 : Int × Int × Int × Int) : FltoFault (k + 1) a0 = some a0 := by kernel_rfl
/-! loop.example/g00599/laws.toFaultS -/
noncomputable def FltoFaultS (k : Nat) (a0 : List (Int × Int × Int × Int)) : Option (List (Int × Int × Int × Int)) := den E k 69 [.c (.l 76 sI4 a0)]
abbrev CltoFaultS_0 : Type := (List (Int × Int × Int × Int))
abbrev VltoFaultS_0 : Type := Int × (List (Int × Int × Int × Int))
def StltoFaultS_0 (c0 : CltoFaultS_0) (v0 : VltoFaultS_0) : St := ⟨23, 1, [(0, .c (.l 76 sI4 c0)), (3, .c (.ref 0)), (4, .c (.v (.int .i64 v0.1)))], [(0, .arr 79 sI4 v0.2)]⟩
noncomputable def BltoFaultS_0 {R : Type} (k : Nat) (X0 : VltoFaultS_0 → Option R) (c0 : CltoFaultS_0) (rec : VltoFaultS_0 → Option R) (v0 : VltoFaultS_0) : Option R := if (decide (v0.1 < (c0.length : Int))) = true then if 0 ≤ v0.1 then ix c0 v0.1.toNat fun x1 => (FltoFault k x1).bind fun p2 => if 0 ≤ v0.1 then if v0.1 < (v0.2.length : Int) then ix v0.2 v0.1.toNat fun y3 => rec ((IntKind.i64.wrap (v0.1 + 1)), (v0.2.set v0.1.toNat p2)) else none else none else none else X0 v0
noncomputable def LltoFaultS_0 {R : Type} (k : Nat) (X0 : VltoFaultS_0 → Option R) (c : CltoFaultS_0) : Nat → VltoFaultS_0 → Option R
  | 0, _ => none
  | n + 1, v => BltoFaultS_0 k X0 c (LltoFaultS_0 k X0 c n) v
theorem bltoFaultS_0 {R : Type} (k n : Nat) (K : Ex → St → Option R) (c0 : CltoFaultS_0) (v : VltoFaultS_0) : loopRun [0, 0, 3, 4] (run E (den E k) (lv 69) k (nthLoop Tryz.f69 0)) (n + 1) (StltoFaultS_0 c0 v) K = BltoFaultS_0 k (fun (v0 : VltoFaultS_0) => K (.exit 0) ⟨23, 1, [(0, .c (.l 76 sI4 c0)), (3, .c (.ref 0)), (4, .c (.v (.int .i64 v0.1))), (8, .c (.v (.int .i64 v0.1))), (9, .c (.l 76 sI4 c0)), (10, .c (.v (.int .i64 (c0.length : Int)))), (11, .c (.v (.bool (decide (v0.1 < (c0.length : Int))))))], [(0, .arr 79 sI4 v0.2)]⟩) c0 (fun v => loopRun [0, 0, 3, 4] (run E (den E k) (lv 69) k (nthLoop Tryz.f69 0)) n (StltoFaultS_0 c0 v) K) v := by kernel_rfl
theorem lltoFaultS_0 {R : Type} (k : Nat) (K : Ex → St → Option R) (c0 : CltoFaultS_0) : ∀ (n : Nat) (v : VltoFaultS_0), loopRun [0, 0, 3, 4] (run E (den E k) (lv 69) k (nthLoop Tryz.f69 0)) n (StltoFaultS_0 c0 v) K = LltoFaultS_0 k (fun (v0 : VltoFaultS_0) => K (.exit 0) ⟨23, 1, [(0, .c (.l 76 sI4 c0)), (3, .c (.ref 0)), (4, .c (.v (.int .i64 v0.1))), (8, .c (.v (.int .i64 v0.1))), (9, .c (.l 76 sI4 c0)), (10, .c (.v (.int .i64 (c0.length : Int)))), (11, .c (.v (.bool (decide (v0.1 < (c0.length : Int))))))], [(0, .arr 79 sI4 v0.2)]⟩) c0 n v := by
  intro n
  induction n with
  | zero => intro v; rfl
  | succ n ih =>
    intro v
    refine (bltoFaultS_0 k n K c0 v).trans ?_
    rw [funext ih]
    kernel_rfl
theorem mltoFaultS_0 (k : Nat) (a0 : List (Int × Int × Int × Int)) : FltoFaultS (k + 1) a0 = if (a0.length : Int) = (a0.length : Int) then if 0 ≤ (a0.length : Int) then if 32 * (a0.length : Int).toNat ≤ 281474976710656 then loopRun (R := List (Int × Int × Int × Int)) [0, 0, 3, 4] (run E (den E k) (lv 69) k (nthLoop Tryz.f69 0)) k (StltoFaultS_0 a0 (0, (List.replicate (a0.length : Int).toNat ((0, 0, 0, 0) : Int × Int × Int × Int)))) (kontAt E (den E k) (lv 69) k (bodyOf Tryz.f69) 0 [] (finish E (rs 69) Tryz.f69 : Ex → St → Option (List (Int × Int × Int × Int)))) else none else none else none := by kernel_rfl
theorem eltoFaultS (k : Nat) (a0 : List (Int × Int × Int × Int)) : FltoFaultS (k + 1) a0 = if (a0.length : Int) = (a0.length : Int) then if 0 ≤ (a0.length : Int) then if 32 * (a0.length : Int).toNat ≤ 281474976710656 then LltoFaultS_0 k (fun (v0 : Int × (List (Int × Int × Int × Int))) => some v0.2) a0 k (0, (List.replicate (a0.length : Int).toNat ((0, 0, 0, 0) : Int × Int × Int × Int))) else none else none else none := by
  rw [mltoFaultS_0]
  simp only [lltoFaultS_0]
  kernel_rfl
/-! loop.example/g00599/laws.toFlow -/
noncomputable def FltoFlow (k : Nat) (a0 : Int × Int × Int × Int) : Option (Int × Int × Int × Int) := den E k 43 [.agg [.v (.int .i64 a0.1), .v (.int .i64 a0.2.1), .v (.int .i64 a0.2.2.1), .v (.int .i64 a0.2.2.2)]]
theorem eltoFlow (k : Nat) (a0 : Int × Int × Int × Int) : FltoFlow (k + 1) a0 = some a0 := by kernel_rfl
/-! loop.example/g00599/laws.toFlowS -/
noncomputable def FltoFlowS (k : Nat) (a0 : List (Int × Int × Int × Int)) : Option (List (Int × Int × Int × Int)) := den E k 67 [.c (.l 84 sI4 a0)]
abbrev CltoFlowS_0 : Type := (List (Int × Int × Int × Int))
abbrev VltoFlowS_0 : Type := Int × (List (Int × Int × Int × Int))
def StltoFlowS_0 (c0 : CltoFlowS_0) (v0 : VltoFlowS_0) : St := ⟨23, 1, [(0, .c (.l 84 sI4 c0)), (3, .c (.ref 0)), (4, .c (.v (.int .i64 v0.1)))], [(0, .arr 86 sI4 v0.2)]⟩
noncomputable def BltoFlowS_0 {R : Type} (k : Nat) (X0 : VltoFlowS_0 → Option R) (c0 : CltoFlowS_0) (rec : VltoFlowS_0 → Option R) (v0 : VltoFlowS_0) : Option R := if (decide (v0.1 < (c0.length : Int))) = true then if 0 ≤ v0.1 then ix c0 v0.1.toNat fun x1 => (FltoFlow k x1).bind fun p2 => if 0 ≤ v0.1 then if v0.1 < (v0.2.length : Int) then ix v0.2 v0.1.toNat fun y3 => rec ((IntKind.i64.wrap (v0.1 + 1)), (v0.2.set v0.1.toNat p2)) else none else none else none else X0 v0
noncomputable def LltoFlowS_0 {R : Type} (k : Nat) (X0 : VltoFlowS_0 → Option R) (c : CltoFlowS_0) : Nat → VltoFlowS_0 → Option R
  | 0, _ => none
  | n + 1, v => BltoFlowS_0 k X0 c (LltoFlowS_0 k X0 c n) v
theorem bltoFlowS_0 {R : Type} (k n : Nat) (K : Ex → St → Option R) (c0 : CltoFlowS_0) (v : VltoFlowS_0) : loopRun [0, 0, 3, 4] (run E (den E k) (lv 67) k (nthLoop Tryz.f67 0)) (n + 1) (StltoFlowS_0 c0 v) K = BltoFlowS_0 k (fun (v0 : VltoFlowS_0) => K (.exit 0) ⟨23, 1, [(0, .c (.l 84 sI4 c0)), (3, .c (.ref 0)), (4, .c (.v (.int .i64 v0.1))), (8, .c (.v (.int .i64 v0.1))), (9, .c (.l 84 sI4 c0)), (10, .c (.v (.int .i64 (c0.length : Int)))), (11, .c (.v (.bool (decide (v0.1 < (c0.length : Int))))))], [(0, .arr 86 sI4 v0.2)]⟩) c0 (fun v => loopRun [0, 0, 3, 4] (run E (den E k) (lv 67) k (nthLoop Tryz.f67 0)) n (StltoFlowS_0 c0 v) K) v := by kernel_rfl
theorem lltoFlowS_0 {R : Type} (k : Nat) (K : Ex → St → Option R) (c0 : CltoFlowS_0) : ∀ (n : Nat) (v : VltoFlowS_0), loopRun [0, 0, 3, 4] (run E (den E k) (lv 67) k (nthLoop Tryz.f67 0)) n (StltoFlowS_0 c0 v) K = LltoFlowS_0 k (fun (v0 : VltoFlowS_0) => K (.exit 0) ⟨23, 1, [(0, .c (.l 84 sI4 c0)), (3, .c (.ref 0)), (4, .c (.v (.int .i64 v0.1))), (8, .c (.v (.int .i64 v0.1))), (9, .c (.l 84 sI4 c0)), (10, .c (.v (.int .i64 (c0.length : Int)))), (11, .c (.v (.bool (decide (v0.1 < (c0.length : Int))))))], [(0, .arr 86 sI4 v0.2)]⟩) c0 n v := by
  intro n
  induction n with
  | zero => intro v; rfl
  | succ n ih =>
    intro v
    refine (bltoFlowS_0 k n K c0 v).trans ?_
    rw [funext ih]
    kernel_rfl
theorem mltoFlowS_0 (k : Nat) (a0 : List (Int × Int × Int × Int)) : FltoFlowS (k + 1) a0 = if (a0.length : Int) = (a0.length : Int) then if 0 ≤ (a0.length : Int) then if 32 * (a0.length : Int).toNat ≤ 281474976710656 then loopRun (R := List (Int × Int × Int × Int)) [0, 0, 3, 4] (run E (den E k) (lv 67) k (nthLoop Tryz.f67 0)) k (StltoFlowS_0 a0 (0, (List.replicate (a0.length : Int).toNat ((0, 0, 0, 0) : Int × Int × Int × Int)))) (kontAt E (den E k) (lv 67) k (bodyOf Tryz.f67) 0 [] (finish E (rs 67) Tryz.f67 : Ex → St → Option (List (Int × Int × Int × Int)))) else none else none else none := by kernel_rfl
theorem eltoFlowS (k : Nat) (a0 : List (Int × Int × Int × Int)) : FltoFlowS (k + 1) a0 = if (a0.length : Int) = (a0.length : Int) then if 0 ≤ (a0.length : Int) then if 32 * (a0.length : Int).toNat ≤ 281474976710656 then LltoFlowS_0 k (fun (v0 : Int × (List (Int × Int × Int × Int))) => some v0.2) a0 k (0, (List.replicate (a0.length : Int).toNat ((0, 0, 0, 0) : Int × Int × Int × Int))) else none else none else none := by
  rw [mltoFlowS_0]
  simp only [lltoFlowS_0]
  kernel_rfl
/-! loop.example/g00599/laws.toIntS -/
noncomputable def FltoIntS (k : Nat) (a0 : List Int) : Option (List Int) := den E k 64 [.c (.l 3 (.i .i64) a0)]
abbrev CltoIntS_0 : Type := (List Int)
abbrev VltoIntS_0 : Type := Int × (List Int)
def StltoIntS_0 (c0 : CltoIntS_0) (v0 : VltoIntS_0) : St := ⟨22, 1, [(0, .c (.l 3 (.i .i64) c0)), (3, .c (.ref 0)), (4, .c (.v (.int .i64 v0.1)))], [(0, .arr 3 (.i .i64) v0.2)]⟩
noncomputable def BltoIntS_0 {R : Type} (k : Nat) (X0 : VltoIntS_0 → Option R) (c0 : CltoIntS_0) (rec : VltoIntS_0 → Option R) (v0 : VltoIntS_0) : Option R := if (decide (v0.1 < (c0.length : Int))) = true then if 0 ≤ v0.1 then ix c0 v0.1.toNat fun x1 => if 0 ≤ v0.1 then if v0.1 < (v0.2.length : Int) then ix v0.2 v0.1.toNat fun y2 => rec ((IntKind.i64.wrap (v0.1 + 1)), (v0.2.set v0.1.toNat x1)) else none else none else none else X0 v0
noncomputable def LltoIntS_0 {R : Type} (k : Nat) (X0 : VltoIntS_0 → Option R) (c : CltoIntS_0) : Nat → VltoIntS_0 → Option R
  | 0, _ => none
  | n + 1, v => BltoIntS_0 k X0 c (LltoIntS_0 k X0 c n) v
theorem bltoIntS_0 {R : Type} (k n : Nat) (K : Ex → St → Option R) (c0 : CltoIntS_0) (v : VltoIntS_0) : loopRun [0, 0, 3, 4] (run E (den E k) (lv 64) k (nthLoop Tryz.f64 0)) (n + 1) (StltoIntS_0 c0 v) K = BltoIntS_0 k (fun (v0 : VltoIntS_0) => K (.exit 0) ⟨22, 1, [(0, .c (.l 3 (.i .i64) c0)), (3, .c (.ref 0)), (4, .c (.v (.int .i64 v0.1))), (8, .c (.v (.int .i64 v0.1))), (9, .c (.l 3 (.i .i64) c0)), (10, .c (.v (.int .i64 (c0.length : Int)))), (11, .c (.v (.bool (decide (v0.1 < (c0.length : Int))))))], [(0, .arr 3 (.i .i64) v0.2)]⟩) c0 (fun v => loopRun [0, 0, 3, 4] (run E (den E k) (lv 64) k (nthLoop Tryz.f64 0)) n (StltoIntS_0 c0 v) K) v := by kernel_rfl
theorem lltoIntS_0 {R : Type} (k : Nat) (K : Ex → St → Option R) (c0 : CltoIntS_0) : ∀ (n : Nat) (v : VltoIntS_0), loopRun [0, 0, 3, 4] (run E (den E k) (lv 64) k (nthLoop Tryz.f64 0)) n (StltoIntS_0 c0 v) K = LltoIntS_0 k (fun (v0 : VltoIntS_0) => K (.exit 0) ⟨22, 1, [(0, .c (.l 3 (.i .i64) c0)), (3, .c (.ref 0)), (4, .c (.v (.int .i64 v0.1))), (8, .c (.v (.int .i64 v0.1))), (9, .c (.l 3 (.i .i64) c0)), (10, .c (.v (.int .i64 (c0.length : Int)))), (11, .c (.v (.bool (decide (v0.1 < (c0.length : Int))))))], [(0, .arr 3 (.i .i64) v0.2)]⟩) c0 n v := by
  intro n
  induction n with
  | zero => intro v; rfl
  | succ n ih =>
    intro v
    refine (bltoIntS_0 k n K c0 v).trans ?_
    rw [funext ih]
    kernel_rfl
theorem mltoIntS_0 (k : Nat) (a0 : List Int) : FltoIntS (k + 1) a0 = if (a0.length : Int) = (a0.length : Int) then if 0 ≤ (a0.length : Int) then if 8 * (a0.length : Int).toNat ≤ 281474976710656 then loopRun (R := List Int) [0, 0, 3, 4] (run E (den E k) (lv 64) k (nthLoop Tryz.f64 0)) k (StltoIntS_0 a0 (0, (List.replicate (a0.length : Int).toNat (0 : Int)))) (kontAt E (den E k) (lv 64) k (bodyOf Tryz.f64) 0 [] (finish E (rs 64) Tryz.f64 : Ex → St → Option (List Int))) else none else none else none := by kernel_rfl
theorem eltoIntS (k : Nat) (a0 : List Int) : FltoIntS (k + 1) a0 = if (a0.length : Int) = (a0.length : Int) then if 0 ≤ (a0.length : Int) then if 8 * (a0.length : Int).toNat ≤ 281474976710656 then LltoIntS_0 k (fun (v0 : Int × (List Int)) => some v0.2) a0 k (0, (List.replicate (a0.length : Int).toNat (0 : Int))) else none else none else none := by
  rw [mltoIntS_0]
  simp only [lltoIntS_0]
  kernel_rfl
/-! loop.example/g00599/laws.toLaw -/
noncomputable def FltoLaw (k : Nat) (a0 : List Int) : Option (List Int) := den E k 63 [.agg [.l 3 (.i .i64) a0]]
theorem eltoLaw (k : Nat) (a0 : List Int) : FltoLaw (k + 1) a0 = (FltoIntS k a0).bind fun p1 => some p1 := by kernel_rfl
/-! loop.example/g00599/laws.toPacket -/
noncomputable def FltoPacket (k : Nat) (a0 : Int × Int × Int × Int × Int × Int) : Option (Int × Int × Int × Int × Int × Int) := den E k 157 [.agg [.v (.int .i64 a0.1), .v (.int .i64 a0.2.1), .v (.int .i64 a0.2.2.1), .v (.int .i64 a0.2.2.2.1), .v (.int .i64 a0.2.2.2.2.1), .v (.int .i64 a0.2.2.2.2.2)]]
theorem eltoPacket (k : Nat) (a0 : Int × Int × Int × Int × Int × Int) : FltoPacket (k + 1) a0 = some a0 := by kernel_rfl
/-! loop.example/g00599/laws.toPacketS -/
noncomputable def FltoPacketS (k : Nat) (a0 : List (Int × Int × Int × Int × Int × Int)) : Option (List (Int × Int × Int × Int × Int × Int)) := den E k 70 [.c (.l 192 sI6 a0)]
abbrev CltoPacketS_0 : Type := (List (Int × Int × Int × Int × Int × Int))
abbrev VltoPacketS_0 : Type := Int × (List (Int × Int × Int × Int × Int × Int))
def StltoPacketS_0 (c0 : CltoPacketS_0) (v0 : VltoPacketS_0) : St := ⟨23, 1, [(0, .c (.l 192 sI6 c0)), (3, .c (.ref 0)), (4, .c (.v (.int .i64 v0.1)))], [(0, .arr 155 sI6 v0.2)]⟩
noncomputable def BltoPacketS_0 {R : Type} (k : Nat) (X0 : VltoPacketS_0 → Option R) (c0 : CltoPacketS_0) (rec : VltoPacketS_0 → Option R) (v0 : VltoPacketS_0) : Option R := if (decide (v0.1 < (c0.length : Int))) = true then if 0 ≤ v0.1 then ix c0 v0.1.toNat fun x1 => (FltoPacket k x1).bind fun p2 => if 0 ≤ v0.1 then if v0.1 < (v0.2.length : Int) then ix v0.2 v0.1.toNat fun y3 => rec ((IntKind.i64.wrap (v0.1 + 1)), (v0.2.set v0.1.toNat p2)) else none else none else none else X0 v0
noncomputable def LltoPacketS_0 {R : Type} (k : Nat) (X0 : VltoPacketS_0 → Option R) (c : CltoPacketS_0) : Nat → VltoPacketS_0 → Option R
  | 0, _ => none
  | n + 1, v => BltoPacketS_0 k X0 c (LltoPacketS_0 k X0 c n) v
theorem bltoPacketS_0 {R : Type} (k n : Nat) (K : Ex → St → Option R) (c0 : CltoPacketS_0) (v : VltoPacketS_0) : loopRun [0, 0, 3, 4] (run E (den E k) (lv 70) k (nthLoop Tryz.f70 0)) (n + 1) (StltoPacketS_0 c0 v) K = BltoPacketS_0 k (fun (v0 : VltoPacketS_0) => K (.exit 0) ⟨23, 1, [(0, .c (.l 192 sI6 c0)), (3, .c (.ref 0)), (4, .c (.v (.int .i64 v0.1))), (8, .c (.v (.int .i64 v0.1))), (9, .c (.l 192 sI6 c0)), (10, .c (.v (.int .i64 (c0.length : Int)))), (11, .c (.v (.bool (decide (v0.1 < (c0.length : Int))))))], [(0, .arr 155 sI6 v0.2)]⟩) c0 (fun v => loopRun [0, 0, 3, 4] (run E (den E k) (lv 70) k (nthLoop Tryz.f70 0)) n (StltoPacketS_0 c0 v) K) v := by kernel_rfl
theorem lltoPacketS_0 {R : Type} (k : Nat) (K : Ex → St → Option R) (c0 : CltoPacketS_0) : ∀ (n : Nat) (v : VltoPacketS_0), loopRun [0, 0, 3, 4] (run E (den E k) (lv 70) k (nthLoop Tryz.f70 0)) n (StltoPacketS_0 c0 v) K = LltoPacketS_0 k (fun (v0 : VltoPacketS_0) => K (.exit 0) ⟨23, 1, [(0, .c (.l 192 sI6 c0)), (3, .c (.ref 0)), (4, .c (.v (.int .i64 v0.1))), (8, .c (.v (.int .i64 v0.1))), (9, .c (.l 192 sI6 c0)), (10, .c (.v (.int .i64 (c0.length : Int)))), (11, .c (.v (.bool (decide (v0.1 < (c0.length : Int))))))], [(0, .arr 155 sI6 v0.2)]⟩) c0 n v := by
  intro n
  induction n with
  | zero => intro v; rfl
  | succ n ih =>
    intro v
    refine (bltoPacketS_0 k n K c0 v).trans ?_
    rw [funext ih]
    kernel_rfl
theorem mltoPacketS_0 (k : Nat) (a0 : List (Int × Int × Int × Int × Int × Int)) : FltoPacketS (k + 1) a0 = if (a0.length : Int) = (a0.length : Int) then if 0 ≤ (a0.length : Int) then if 48 * (a0.length : Int).toNat ≤ 281474976710656 then loopRun (R := List (Int × Int × Int × Int × Int × Int)) [0, 0, 3, 4] (run E (den E k) (lv 70) k (nthLoop Tryz.f70 0)) k (StltoPacketS_0 a0 (0, (List.replicate (a0.length : Int).toNat ((0, 0, 0, 0, 0, 0) : Int × Int × Int × Int × Int × Int)))) (kontAt E (den E k) (lv 70) k (bodyOf Tryz.f70) 0 [] (finish E (rs 70) Tryz.f70 : Ex → St → Option (List (Int × Int × Int × Int × Int × Int)))) else none else none else none := by kernel_rfl
theorem eltoPacketS (k : Nat) (a0 : List (Int × Int × Int × Int × Int × Int)) : FltoPacketS (k + 1) a0 = if (a0.length : Int) = (a0.length : Int) then if 0 ≤ (a0.length : Int) then if 48 * (a0.length : Int).toNat ≤ 281474976710656 then LltoPacketS_0 k (fun (v0 : Int × (List (Int × Int × Int × Int × Int × Int))) => some v0.2) a0 k (0, (List.replicate (a0.length : Int).toNat ((0, 0, 0, 0, 0, 0) : Int × Int × Int × Int × Int × Int))) else none else none else none := by
  rw [mltoPacketS_0]
  simp only [lltoPacketS_0]
  kernel_rfl
/-! loop.example/g00599/laws.toLink -/
noncomputable def FltoLink (k : Nat) (a0 : Int × Int) : Option (Int × Int) := den E k 333 [.agg [.v (.int .i64 a0.1), .v (.int .i64 a0.2)]]
theorem eltoLink (k : Nat) (a0 : Int × Int) : FltoLink (k + 1) a0 = some a0 := by kernel_rfl
/-! loop.example/g00599/laws.toLinkS -/
noncomputable def FltoLinkS (k : Nat) (a0 : List (Int × Int)) : Option (List (Int × Int)) := den E k 305 [.c (.l 330 sI2 a0)]
abbrev CltoLinkS_0 : Type := (List (Int × Int))
abbrev VltoLinkS_0 : Type := Int × (List (Int × Int))
def StltoLinkS_0 (c0 : CltoLinkS_0) (v0 : VltoLinkS_0) : St := ⟨23, 1, [(0, .c (.l 330 sI2 c0)), (3, .c (.ref 0)), (4, .c (.v (.int .i64 v0.1)))], [(0, .arr 317 sI2 v0.2)]⟩
noncomputable def BltoLinkS_0 {R : Type} (k : Nat) (X0 : VltoLinkS_0 → Option R) (c0 : CltoLinkS_0) (rec : VltoLinkS_0 → Option R) (v0 : VltoLinkS_0) : Option R := if (decide (v0.1 < (c0.length : Int))) = true then if 0 ≤ v0.1 then ix c0 v0.1.toNat fun x1 => (FltoLink k x1).bind fun p2 => if 0 ≤ v0.1 then if v0.1 < (v0.2.length : Int) then ix v0.2 v0.1.toNat fun y3 => rec ((IntKind.i64.wrap (v0.1 + 1)), (v0.2.set v0.1.toNat p2)) else none else none else none else X0 v0
noncomputable def LltoLinkS_0 {R : Type} (k : Nat) (X0 : VltoLinkS_0 → Option R) (c : CltoLinkS_0) : Nat → VltoLinkS_0 → Option R
  | 0, _ => none
  | n + 1, v => BltoLinkS_0 k X0 c (LltoLinkS_0 k X0 c n) v
theorem bltoLinkS_0 {R : Type} (k n : Nat) (K : Ex → St → Option R) (c0 : CltoLinkS_0) (v : VltoLinkS_0) : loopRun [0, 0, 3, 4] (run E (den E k) (lv 305) k (nthLoop Tryz.f305 0)) (n + 1) (StltoLinkS_0 c0 v) K = BltoLinkS_0 k (fun (v0 : VltoLinkS_0) => K (.exit 0) ⟨23, 1, [(0, .c (.l 330 sI2 c0)), (3, .c (.ref 0)), (4, .c (.v (.int .i64 v0.1))), (8, .c (.v (.int .i64 v0.1))), (9, .c (.l 330 sI2 c0)), (10, .c (.v (.int .i64 (c0.length : Int)))), (11, .c (.v (.bool (decide (v0.1 < (c0.length : Int))))))], [(0, .arr 317 sI2 v0.2)]⟩) c0 (fun v => loopRun [0, 0, 3, 4] (run E (den E k) (lv 305) k (nthLoop Tryz.f305 0)) n (StltoLinkS_0 c0 v) K) v := by kernel_rfl
theorem lltoLinkS_0 {R : Type} (k : Nat) (K : Ex → St → Option R) (c0 : CltoLinkS_0) : ∀ (n : Nat) (v : VltoLinkS_0), loopRun [0, 0, 3, 4] (run E (den E k) (lv 305) k (nthLoop Tryz.f305 0)) n (StltoLinkS_0 c0 v) K = LltoLinkS_0 k (fun (v0 : VltoLinkS_0) => K (.exit 0) ⟨23, 1, [(0, .c (.l 330 sI2 c0)), (3, .c (.ref 0)), (4, .c (.v (.int .i64 v0.1))), (8, .c (.v (.int .i64 v0.1))), (9, .c (.l 330 sI2 c0)), (10, .c (.v (.int .i64 (c0.length : Int)))), (11, .c (.v (.bool (decide (v0.1 < (c0.length : Int))))))], [(0, .arr 317 sI2 v0.2)]⟩) c0 n v := by
  intro n
  induction n with
  | zero => intro v; rfl
  | succ n ih =>
    intro v
    refine (bltoLinkS_0 k n K c0 v).trans ?_
    rw [funext ih]
    kernel_rfl
theorem mltoLinkS_0 (k : Nat) (a0 : List (Int × Int)) : FltoLinkS (k + 1) a0 = if (a0.length : Int) = (a0.length : Int) then if 0 ≤ (a0.length : Int) then if 16 * (a0.length : Int).toNat ≤ 281474976710656 then loopRun (R := List (Int × Int)) [0, 0, 3, 4] (run E (den E k) (lv 305) k (nthLoop Tryz.f305 0)) k (StltoLinkS_0 a0 (0, (List.replicate (a0.length : Int).toNat ((0, 0) : Int × Int)))) (kontAt E (den E k) (lv 305) k (bodyOf Tryz.f305) 0 [] (finish E (rs 305) Tryz.f305 : Ex → St → Option (List (Int × Int)))) else none else none else none := by kernel_rfl
theorem eltoLinkS (k : Nat) (a0 : List (Int × Int)) : FltoLinkS (k + 1) a0 = if (a0.length : Int) = (a0.length : Int) then if 0 ≤ (a0.length : Int) then if 16 * (a0.length : Int).toNat ≤ 281474976710656 then LltoLinkS_0 k (fun (v0 : Int × (List (Int × Int))) => some v0.2) a0 k (0, (List.replicate (a0.length : Int).toNat ((0, 0) : Int × Int))) else none else none else none := by
  rw [mltoLinkS_0]
  simp only [lltoLinkS_0]
  kernel_rfl
/-! loop.example/g00599/laws.toSpan -/
noncomputable def FltoSpan (k : Nat) (a0 : Int × Int) : Option (Int × Int) := den E k 304 [.agg [.v (.int .i64 a0.1), .v (.int .i64 a0.2)]]
theorem eltoSpan (k : Nat) (a0 : Int × Int) : FltoSpan (k + 1) a0 = some a0 := by kernel_rfl
/-! loop.example/g00599/laws.toTable -/
noncomputable def FltoTable (k : Nat) (a0 : Int × (List Int) × List Int) : Option (Int × (List Int) × List Int) := den E k 334 [.agg [.v (.int .i64 a0.1), .l 3 (.i .i64) a0.2.1, .l 3 (.i .i64) a0.2.2]]
theorem eltoTable (k : Nat) (a0 : Int × (List Int) × List Int) : FltoTable (k + 1) a0 = (FltoIntS k a0.2.1).bind fun p1 => (FltoIntS k a0.2.2).bind fun p2 => some (a0.1, p1, p2) := by kernel_rfl
/-! loop.example/g00599/laws.toTableS -/
noncomputable def FltoTableS (k : Nat) (a0 : List (Int × (List Int) × List Int)) : Option (List (Int × (List Int) × List Int)) := den E k 306 [.c (.l 328 sTable a0)]
abbrev CltoTableS_0 : Type := (List (Int × (List Int) × List Int))
abbrev VltoTableS_0 : Type := Int × (List (Int × (List Int) × List Int))
def StltoTableS_0 (c0 : CltoTableS_0) (v0 : VltoTableS_0) : St := ⟨23, 1, [(0, .c (.l 328 sTable c0)), (3, .c (.ref 0)), (4, .c (.v (.int .i64 v0.1)))], [(0, .arr 239 sTable v0.2)]⟩
noncomputable def BltoTableS_0 {R : Type} (k : Nat) (X0 : VltoTableS_0 → Option R) (c0 : CltoTableS_0) (rec : VltoTableS_0 → Option R) (v0 : VltoTableS_0) : Option R := if (decide (v0.1 < (c0.length : Int))) = true then if 0 ≤ v0.1 then ix c0 v0.1.toNat fun x1 => (FltoTable k x1).bind fun p2 => if 0 ≤ v0.1 then if v0.1 < (v0.2.length : Int) then ix v0.2 v0.1.toNat fun y3 => rec ((IntKind.i64.wrap (v0.1 + 1)), (v0.2.set v0.1.toNat p2)) else none else none else none else X0 v0
noncomputable def LltoTableS_0 {R : Type} (k : Nat) (X0 : VltoTableS_0 → Option R) (c : CltoTableS_0) : Nat → VltoTableS_0 → Option R
  | 0, _ => none
  | n + 1, v => BltoTableS_0 k X0 c (LltoTableS_0 k X0 c n) v
theorem bltoTableS_0 {R : Type} (k n : Nat) (K : Ex → St → Option R) (c0 : CltoTableS_0) (v : VltoTableS_0) : loopRun [0, 0, 3, 4] (run E (den E k) (lv 306) k (nthLoop Tryz.f306 0)) (n + 1) (StltoTableS_0 c0 v) K = BltoTableS_0 k (fun (v0 : VltoTableS_0) => K (.exit 0) ⟨23, 1, [(0, .c (.l 328 sTable c0)), (3, .c (.ref 0)), (4, .c (.v (.int .i64 v0.1))), (8, .c (.v (.int .i64 v0.1))), (9, .c (.l 328 sTable c0)), (10, .c (.v (.int .i64 (c0.length : Int)))), (11, .c (.v (.bool (decide (v0.1 < (c0.length : Int))))))], [(0, .arr 239 sTable v0.2)]⟩) c0 (fun v => loopRun [0, 0, 3, 4] (run E (den E k) (lv 306) k (nthLoop Tryz.f306 0)) n (StltoTableS_0 c0 v) K) v := by kernel_rfl
theorem lltoTableS_0 {R : Type} (k : Nat) (K : Ex → St → Option R) (c0 : CltoTableS_0) : ∀ (n : Nat) (v : VltoTableS_0), loopRun [0, 0, 3, 4] (run E (den E k) (lv 306) k (nthLoop Tryz.f306 0)) n (StltoTableS_0 c0 v) K = LltoTableS_0 k (fun (v0 : VltoTableS_0) => K (.exit 0) ⟨23, 1, [(0, .c (.l 328 sTable c0)), (3, .c (.ref 0)), (4, .c (.v (.int .i64 v0.1))), (8, .c (.v (.int .i64 v0.1))), (9, .c (.l 328 sTable c0)), (10, .c (.v (.int .i64 (c0.length : Int)))), (11, .c (.v (.bool (decide (v0.1 < (c0.length : Int))))))], [(0, .arr 239 sTable v0.2)]⟩) c0 n v := by
  intro n
  induction n with
  | zero => intro v; rfl
  | succ n ih =>
    intro v
    refine (bltoTableS_0 k n K c0 v).trans ?_
    rw [funext ih]
    kernel_rfl
theorem mltoTableS_0 (k : Nat) (a0 : List (Int × (List Int) × List Int)) : FltoTableS (k + 1) a0 = if (a0.length : Int) = (a0.length : Int) then if 0 ≤ (a0.length : Int) then if 56 * (a0.length : Int).toNat ≤ 281474976710656 then loopRun (R := List (Int × (List Int) × List Int)) [0, 0, 3, 4] (run E (den E k) (lv 306) k (nthLoop Tryz.f306 0)) k (StltoTableS_0 a0 (0, (List.replicate (a0.length : Int).toNat ((0, [], []) : Int × (List Int) × List Int)))) (kontAt E (den E k) (lv 306) k (bodyOf Tryz.f306) 0 [] (finish E (rs 306) Tryz.f306 : Ex → St → Option (List (Int × (List Int) × List Int)))) else none else none else none := by kernel_rfl
theorem eltoTableS (k : Nat) (a0 : List (Int × (List Int) × List Int)) : FltoTableS (k + 1) a0 = if (a0.length : Int) = (a0.length : Int) then if 0 ≤ (a0.length : Int) then if 56 * (a0.length : Int).toNat ≤ 281474976710656 then LltoTableS_0 k (fun (v0 : Int × (List (Int × (List Int) × List Int))) => some v0.2) a0 k (0, (List.replicate (a0.length : Int).toNat ((0, [], []) : Int × (List Int) × List Int))) else none else none else none := by
  rw [mltoTableS_0]
  simp only [lltoTableS_0]
  kernel_rfl
/-! loop.example/g00599/laws.toPiece -/
noncomputable def FltoPiece (k : Nat) (a0 : TPiece) : Option TPiece := den E k 248 [.agg [.v (.int .i64 a0.1.1), .v (.int .i64 a0.1.2), .l 330 sI2 a0.2.1, .l 328 sTable a0.2.2]]
theorem eltoPiece (k : Nat) (a0 : TPiece) : FltoPiece (k + 1) a0 = (FltoSpan k a0.1).bind fun p1 => (FltoLinkS k a0.2.1).bind fun p2 => (FltoTableS k a0.2.2).bind fun p3 => some (p1, p2, p3) := by kernel_rfl
/-! loop.example/g00599/laws.toPieceS -/
noncomputable def FltoPieceS (k : Nat) (a0 : List TPiece) : Option (List TPiece) := den E k 153 [.c (.l 260 sLPiece a0)]
abbrev CltoPieceS_0 : Type := (List TPiece)
abbrev VltoPieceS_0 : Type := Int × (List TPiece)
def StltoPieceS_0 (c0 : CltoPieceS_0) (v0 : VltoPieceS_0) : St := ⟨23, 1, [(0, .c (.l 260 sLPiece c0)), (3, .c (.ref 0)), (4, .c (.v (.int .i64 v0.1)))], [(0, .arr 247 sPiece v0.2)]⟩
noncomputable def BltoPieceS_0 {R : Type} (k : Nat) (X0 : VltoPieceS_0 → Option R) (c0 : CltoPieceS_0) (rec : VltoPieceS_0 → Option R) (v0 : VltoPieceS_0) : Option R := if (decide (v0.1 < (c0.length : Int))) = true then if 0 ≤ v0.1 then ix c0 v0.1.toNat fun x1 => (FltoPiece k x1).bind fun p2 => if 0 ≤ v0.1 then if v0.1 < (v0.2.length : Int) then ix v0.2 v0.1.toNat fun y3 => rec ((IntKind.i64.wrap (v0.1 + 1)), (v0.2.set v0.1.toNat p2)) else none else none else none else X0 v0
noncomputable def LltoPieceS_0 {R : Type} (k : Nat) (X0 : VltoPieceS_0 → Option R) (c : CltoPieceS_0) : Nat → VltoPieceS_0 → Option R
  | 0, _ => none
  | n + 1, v => BltoPieceS_0 k X0 c (LltoPieceS_0 k X0 c n) v
theorem bltoPieceS_0 {R : Type} (k n : Nat) (K : Ex → St → Option R) (c0 : CltoPieceS_0) (v : VltoPieceS_0) : loopRun [0, 0, 3, 4] (run E (den E k) (lv 153) k (nthLoop Tryz.f153 0)) (n + 1) (StltoPieceS_0 c0 v) K = BltoPieceS_0 k (fun (v0 : VltoPieceS_0) => K (.exit 0) ⟨23, 1, [(0, .c (.l 260 sLPiece c0)), (3, .c (.ref 0)), (4, .c (.v (.int .i64 v0.1))), (8, .c (.v (.int .i64 v0.1))), (9, .c (.l 260 sLPiece c0)), (10, .c (.v (.int .i64 (c0.length : Int)))), (11, .c (.v (.bool (decide (v0.1 < (c0.length : Int))))))], [(0, .arr 247 sPiece v0.2)]⟩) c0 (fun v => loopRun [0, 0, 3, 4] (run E (den E k) (lv 153) k (nthLoop Tryz.f153 0)) n (StltoPieceS_0 c0 v) K) v := by kernel_rfl
theorem lltoPieceS_0 {R : Type} (k : Nat) (K : Ex → St → Option R) (c0 : CltoPieceS_0) : ∀ (n : Nat) (v : VltoPieceS_0), loopRun [0, 0, 3, 4] (run E (den E k) (lv 153) k (nthLoop Tryz.f153 0)) n (StltoPieceS_0 c0 v) K = LltoPieceS_0 k (fun (v0 : VltoPieceS_0) => K (.exit 0) ⟨23, 1, [(0, .c (.l 260 sLPiece c0)), (3, .c (.ref 0)), (4, .c (.v (.int .i64 v0.1))), (8, .c (.v (.int .i64 v0.1))), (9, .c (.l 260 sLPiece c0)), (10, .c (.v (.int .i64 (c0.length : Int)))), (11, .c (.v (.bool (decide (v0.1 < (c0.length : Int))))))], [(0, .arr 247 sPiece v0.2)]⟩) c0 n v := by
  intro n
  induction n with
  | zero => intro v; rfl
  | succ n ih =>
    intro v
    refine (bltoPieceS_0 k n K c0 v).trans ?_
    rw [funext ih]
    kernel_rfl
theorem mltoPieceS_0 (k : Nat) (a0 : List TPiece) : FltoPieceS (k + 1) a0 = if (a0.length : Int) = (a0.length : Int) then if 0 ≤ (a0.length : Int) then if 64 * (a0.length : Int).toNat ≤ 281474976710656 then loopRun (R := List TPiece) [0, 0, 3, 4] (run E (den E k) (lv 153) k (nthLoop Tryz.f153 0)) k (StltoPieceS_0 a0 (0, (List.replicate (a0.length : Int).toNat (((0, 0), [], []) : TPiece)))) (kontAt E (den E k) (lv 153) k (bodyOf Tryz.f153) 0 [] (finish E (rs 153) Tryz.f153 : Ex → St → Option (List TPiece))) else none else none else none := by kernel_rfl
theorem eltoPieceS (k : Nat) (a0 : List TPiece) : FltoPieceS (k + 1) a0 = if (a0.length : Int) = (a0.length : Int) then if 0 ≤ (a0.length : Int) then if 64 * (a0.length : Int).toNat ≤ 281474976710656 then LltoPieceS_0 k (fun (v0 : Int × (List TPiece)) => some v0.2) a0 k (0, (List.replicate (a0.length : Int).toNat (((0, 0), [], []) : TPiece))) else none else none else none := by
  rw [mltoPieceS_0]
  simp only [lltoPieceS_0]
  kernel_rfl
/-! loop.example/g00599/laws.toProgram -/
noncomputable def FltoProgram (k : Nat) (a0 : TProgram) : Option TProgram := den E k 62 [.agg [.v (.int .i64 a0.1), .v (.int .i64 a0.2.1), .v (.int .i64 a0.2.2.1), .l 260 sLPiece a0.2.2.2]]
theorem eltoProgram (k : Nat) (a0 : TProgram) : FltoProgram (k + 1) a0 = (FltoPieceS k a0.2.2.2).bind fun p1 => some (a0.1, a0.2.1, a0.2.2.1, p1) := by kernel_rfl
/-! loop.example/g00599/laws.toQueue -/
noncomputable def FltoQueue (k : Nat) (a0 : List (Int × Int × Int × Int × Int × Int)) : Option (List (Int × Int × Int × Int × Int × Int)) := den E k 155 [.agg [.l 192 sI6 a0]]
theorem eltoQueue (k : Nat) (a0 : List (Int × Int × Int × Int × Int × Int)) : FltoQueue (k + 1) a0 = (FltoPacketS k a0).bind fun p1 => some p1 := by kernel_rfl
/-! loop.example/g00599/laws.toQueueS -/
noncomputable def FltoQueueS (k : Nat) (a0 : List (List (Int × Int × Int × Int × Int × Int))) : Option (List (List (Int × Int × Int × Int × Int × Int))) := den E k 66 [.c (.l 180 sLQueue a0)]
abbrev CltoQueueS_0 : Type := (List (List (Int × Int × Int × Int × Int × Int)))
abbrev VltoQueueS_0 : Type := Int × (List (List (Int × Int × Int × Int × Int × Int)))
def StltoQueueS_0 (c0 : CltoQueueS_0) (v0 : VltoQueueS_0) : St := ⟨23, 1, [(0, .c (.l 180 sLQueue c0)), (3, .c (.ref 0)), (4, .c (.v (.int .i64 v0.1)))], [(0, .arr 158 sQueue v0.2)]⟩
noncomputable def BltoQueueS_0 {R : Type} (k : Nat) (X0 : VltoQueueS_0 → Option R) (c0 : CltoQueueS_0) (rec : VltoQueueS_0 → Option R) (v0 : VltoQueueS_0) : Option R := if (decide (v0.1 < (c0.length : Int))) = true then if 0 ≤ v0.1 then ix c0 v0.1.toNat fun x1 => (FltoQueue k x1).bind fun p2 => if 0 ≤ v0.1 then if v0.1 < (v0.2.length : Int) then ix v0.2 v0.1.toNat fun y3 => rec ((IntKind.i64.wrap (v0.1 + 1)), (v0.2.set v0.1.toNat p2)) else none else none else none else X0 v0
noncomputable def LltoQueueS_0 {R : Type} (k : Nat) (X0 : VltoQueueS_0 → Option R) (c : CltoQueueS_0) : Nat → VltoQueueS_0 → Option R
  | 0, _ => none
  | n + 1, v => BltoQueueS_0 k X0 c (LltoQueueS_0 k X0 c n) v
theorem bltoQueueS_0 {R : Type} (k n : Nat) (K : Ex → St → Option R) (c0 : CltoQueueS_0) (v : VltoQueueS_0) : loopRun [0, 0, 3, 4] (run E (den E k) (lv 66) k (nthLoop Tryz.f66 0)) (n + 1) (StltoQueueS_0 c0 v) K = BltoQueueS_0 k (fun (v0 : VltoQueueS_0) => K (.exit 0) ⟨23, 1, [(0, .c (.l 180 sLQueue c0)), (3, .c (.ref 0)), (4, .c (.v (.int .i64 v0.1))), (8, .c (.v (.int .i64 v0.1))), (9, .c (.l 180 sLQueue c0)), (10, .c (.v (.int .i64 (c0.length : Int)))), (11, .c (.v (.bool (decide (v0.1 < (c0.length : Int))))))], [(0, .arr 158 sQueue v0.2)]⟩) c0 (fun v => loopRun [0, 0, 3, 4] (run E (den E k) (lv 66) k (nthLoop Tryz.f66 0)) n (StltoQueueS_0 c0 v) K) v := by kernel_rfl
theorem lltoQueueS_0 {R : Type} (k : Nat) (K : Ex → St → Option R) (c0 : CltoQueueS_0) : ∀ (n : Nat) (v : VltoQueueS_0), loopRun [0, 0, 3, 4] (run E (den E k) (lv 66) k (nthLoop Tryz.f66 0)) n (StltoQueueS_0 c0 v) K = LltoQueueS_0 k (fun (v0 : VltoQueueS_0) => K (.exit 0) ⟨23, 1, [(0, .c (.l 180 sLQueue c0)), (3, .c (.ref 0)), (4, .c (.v (.int .i64 v0.1))), (8, .c (.v (.int .i64 v0.1))), (9, .c (.l 180 sLQueue c0)), (10, .c (.v (.int .i64 (c0.length : Int)))), (11, .c (.v (.bool (decide (v0.1 < (c0.length : Int))))))], [(0, .arr 158 sQueue v0.2)]⟩) c0 n v := by
  intro n
  induction n with
  | zero => intro v; rfl
  | succ n ih =>
    intro v
    refine (bltoQueueS_0 k n K c0 v).trans ?_
    rw [funext ih]
    kernel_rfl
theorem mltoQueueS_0 (k : Nat) (a0 : List (List (Int × Int × Int × Int × Int × Int))) : FltoQueueS (k + 1) a0 = if (a0.length : Int) = (a0.length : Int) then if 0 ≤ (a0.length : Int) then if 24 * (a0.length : Int).toNat ≤ 281474976710656 then loopRun (R := List (List (Int × Int × Int × Int × Int × Int))) [0, 0, 3, 4] (run E (den E k) (lv 66) k (nthLoop Tryz.f66 0)) k (StltoQueueS_0 a0 (0, (List.replicate (a0.length : Int).toNat ([] : List (Int × Int × Int × Int × Int × Int))))) (kontAt E (den E k) (lv 66) k (bodyOf Tryz.f66) 0 [] (finish E (rs 66) Tryz.f66 : Ex → St → Option (List (List (Int × Int × Int × Int × Int × Int))))) else none else none else none := by kernel_rfl
theorem eltoQueueS (k : Nat) (a0 : List (List (Int × Int × Int × Int × Int × Int))) : FltoQueueS (k + 1) a0 = if (a0.length : Int) = (a0.length : Int) then if 0 ≤ (a0.length : Int) then if 24 * (a0.length : Int).toNat ≤ 281474976710656 then LltoQueueS_0 k (fun (v0 : Int × (List (List (Int × Int × Int × Int × Int × Int)))) => some v0.2) a0 k (0, (List.replicate (a0.length : Int).toNat ([] : List (Int × Int × Int × Int × Int × Int)))) else none else none else none := by
  rw [mltoQueueS_0]
  simp only [lltoQueueS_0]
  kernel_rfl
/-! loop.example/g00599/laws.toSent -/
noncomputable def FltoSent (k : Nat) (a0 : Int × Int × Int × Int) : Option (Int × Int × Int × Int) := den E k 48 [.agg [.v (.int .i64 a0.1), .v (.int .i64 a0.2.1), .v (.int .i64 a0.2.2.1), .v (.int .i64 a0.2.2.2)]]
theorem eltoSent (k : Nat) (a0 : Int × Int × Int × Int) : FltoSent (k + 1) a0 = some a0 := by kernel_rfl
/-! loop.example/g00599/laws.toSentS -/
noncomputable def FltoSentS (k : Nat) (a0 : List (Int × Int × Int × Int)) : Option (List (Int × Int × Int × Int)) := den E k 71 [.c (.l 92 sI4 a0)]
abbrev CltoSentS_0 : Type := (List (Int × Int × Int × Int))
abbrev VltoSentS_0 : Type := Int × (List (Int × Int × Int × Int))
def StltoSentS_0 (c0 : CltoSentS_0) (v0 : VltoSentS_0) : St := ⟨23, 1, [(0, .c (.l 92 sI4 c0)), (3, .c (.ref 0)), (4, .c (.v (.int .i64 v0.1)))], [(0, .arr 94 sI4 v0.2)]⟩
noncomputable def BltoSentS_0 {R : Type} (k : Nat) (X0 : VltoSentS_0 → Option R) (c0 : CltoSentS_0) (rec : VltoSentS_0 → Option R) (v0 : VltoSentS_0) : Option R := if (decide (v0.1 < (c0.length : Int))) = true then if 0 ≤ v0.1 then ix c0 v0.1.toNat fun x1 => (FltoSent k x1).bind fun p2 => if 0 ≤ v0.1 then if v0.1 < (v0.2.length : Int) then ix v0.2 v0.1.toNat fun y3 => rec ((IntKind.i64.wrap (v0.1 + 1)), (v0.2.set v0.1.toNat p2)) else none else none else none else X0 v0
noncomputable def LltoSentS_0 {R : Type} (k : Nat) (X0 : VltoSentS_0 → Option R) (c : CltoSentS_0) : Nat → VltoSentS_0 → Option R
  | 0, _ => none
  | n + 1, v => BltoSentS_0 k X0 c (LltoSentS_0 k X0 c n) v
theorem bltoSentS_0 {R : Type} (k n : Nat) (K : Ex → St → Option R) (c0 : CltoSentS_0) (v : VltoSentS_0) : loopRun [0, 0, 3, 4] (run E (den E k) (lv 71) k (nthLoop Tryz.f71 0)) (n + 1) (StltoSentS_0 c0 v) K = BltoSentS_0 k (fun (v0 : VltoSentS_0) => K (.exit 0) ⟨23, 1, [(0, .c (.l 92 sI4 c0)), (3, .c (.ref 0)), (4, .c (.v (.int .i64 v0.1))), (8, .c (.v (.int .i64 v0.1))), (9, .c (.l 92 sI4 c0)), (10, .c (.v (.int .i64 (c0.length : Int)))), (11, .c (.v (.bool (decide (v0.1 < (c0.length : Int))))))], [(0, .arr 94 sI4 v0.2)]⟩) c0 (fun v => loopRun [0, 0, 3, 4] (run E (den E k) (lv 71) k (nthLoop Tryz.f71 0)) n (StltoSentS_0 c0 v) K) v := by kernel_rfl
theorem lltoSentS_0 {R : Type} (k : Nat) (K : Ex → St → Option R) (c0 : CltoSentS_0) : ∀ (n : Nat) (v : VltoSentS_0), loopRun [0, 0, 3, 4] (run E (den E k) (lv 71) k (nthLoop Tryz.f71 0)) n (StltoSentS_0 c0 v) K = LltoSentS_0 k (fun (v0 : VltoSentS_0) => K (.exit 0) ⟨23, 1, [(0, .c (.l 92 sI4 c0)), (3, .c (.ref 0)), (4, .c (.v (.int .i64 v0.1))), (8, .c (.v (.int .i64 v0.1))), (9, .c (.l 92 sI4 c0)), (10, .c (.v (.int .i64 (c0.length : Int)))), (11, .c (.v (.bool (decide (v0.1 < (c0.length : Int))))))], [(0, .arr 94 sI4 v0.2)]⟩) c0 n v := by
  intro n
  induction n with
  | zero => intro v; rfl
  | succ n ih =>
    intro v
    refine (bltoSentS_0 k n K c0 v).trans ?_
    rw [funext ih]
    kernel_rfl
theorem mltoSentS_0 (k : Nat) (a0 : List (Int × Int × Int × Int)) : FltoSentS (k + 1) a0 = if (a0.length : Int) = (a0.length : Int) then if 0 ≤ (a0.length : Int) then if 32 * (a0.length : Int).toNat ≤ 281474976710656 then loopRun (R := List (Int × Int × Int × Int)) [0, 0, 3, 4] (run E (den E k) (lv 71) k (nthLoop Tryz.f71 0)) k (StltoSentS_0 a0 (0, (List.replicate (a0.length : Int).toNat ((0, 0, 0, 0) : Int × Int × Int × Int)))) (kontAt E (den E k) (lv 71) k (bodyOf Tryz.f71) 0 [] (finish E (rs 71) Tryz.f71 : Ex → St → Option (List (Int × Int × Int × Int)))) else none else none else none := by kernel_rfl
theorem eltoSentS (k : Nat) (a0 : List (Int × Int × Int × Int)) : FltoSentS (k + 1) a0 = if (a0.length : Int) = (a0.length : Int) then if 0 ≤ (a0.length : Int) then if 32 * (a0.length : Int).toNat ≤ 281474976710656 then LltoSentS_0 k (fun (v0 : Int × (List (Int × Int × Int × Int))) => some v0.2) a0 k (0, (List.replicate (a0.length : Int).toNat ((0, 0, 0, 0) : Int × Int × Int × Int))) else none else none else none := by
  rw [mltoSentS_0]
  simp only [lltoSentS_0]
  kernel_rfl
/-! loop.example/g00599/laws.toSat -/
noncomputable def FltoSat (k : Nat) (a0 : Int × Int × Int × Int) : Option (Int × Int × Int × Int) := den E k 245 [.agg [.v (.int .i64 a0.1), .v (.int .i64 a0.2.1), .v (.int .i64 a0.2.2.1), .v (.int .i64 a0.2.2.2)]]
theorem eltoSat (k : Nat) (a0 : Int × Int × Int × Int) : FltoSat (k + 1) a0 = some a0 := by kernel_rfl
/-! loop.example/g00599/laws.toSatS -/
noncomputable def FltoSatS (k : Nat) (a0 : List (Int × Int × Int × Int)) : Option (List (Int × Int × Int × Int)) := den E k 150 [.c (.l 264 sI4 a0)]
abbrev CltoSatS_0 : Type := (List (Int × Int × Int × Int))
abbrev VltoSatS_0 : Type := Int × (List (Int × Int × Int × Int))
def StltoSatS_0 (c0 : CltoSatS_0) (v0 : VltoSatS_0) : St := ⟨23, 1, [(0, .c (.l 264 sI4 c0)), (3, .c (.ref 0)), (4, .c (.v (.int .i64 v0.1)))], [(0, .arr 262 sI4 v0.2)]⟩
noncomputable def BltoSatS_0 {R : Type} (k : Nat) (X0 : VltoSatS_0 → Option R) (c0 : CltoSatS_0) (rec : VltoSatS_0 → Option R) (v0 : VltoSatS_0) : Option R := if (decide (v0.1 < (c0.length : Int))) = true then if 0 ≤ v0.1 then ix c0 v0.1.toNat fun x1 => (FltoSat k x1).bind fun p2 => if 0 ≤ v0.1 then if v0.1 < (v0.2.length : Int) then ix v0.2 v0.1.toNat fun y3 => rec ((IntKind.i64.wrap (v0.1 + 1)), (v0.2.set v0.1.toNat p2)) else none else none else none else X0 v0
noncomputable def LltoSatS_0 {R : Type} (k : Nat) (X0 : VltoSatS_0 → Option R) (c : CltoSatS_0) : Nat → VltoSatS_0 → Option R
  | 0, _ => none
  | n + 1, v => BltoSatS_0 k X0 c (LltoSatS_0 k X0 c n) v
theorem bltoSatS_0 {R : Type} (k n : Nat) (K : Ex → St → Option R) (c0 : CltoSatS_0) (v : VltoSatS_0) : loopRun [0, 0, 3, 4] (run E (den E k) (lv 150) k (nthLoop Tryz.f150 0)) (n + 1) (StltoSatS_0 c0 v) K = BltoSatS_0 k (fun (v0 : VltoSatS_0) => K (.exit 0) ⟨23, 1, [(0, .c (.l 264 sI4 c0)), (3, .c (.ref 0)), (4, .c (.v (.int .i64 v0.1))), (8, .c (.v (.int .i64 v0.1))), (9, .c (.l 264 sI4 c0)), (10, .c (.v (.int .i64 (c0.length : Int)))), (11, .c (.v (.bool (decide (v0.1 < (c0.length : Int))))))], [(0, .arr 262 sI4 v0.2)]⟩) c0 (fun v => loopRun [0, 0, 3, 4] (run E (den E k) (lv 150) k (nthLoop Tryz.f150 0)) n (StltoSatS_0 c0 v) K) v := by kernel_rfl
theorem lltoSatS_0 {R : Type} (k : Nat) (K : Ex → St → Option R) (c0 : CltoSatS_0) : ∀ (n : Nat) (v : VltoSatS_0), loopRun [0, 0, 3, 4] (run E (den E k) (lv 150) k (nthLoop Tryz.f150 0)) n (StltoSatS_0 c0 v) K = LltoSatS_0 k (fun (v0 : VltoSatS_0) => K (.exit 0) ⟨23, 1, [(0, .c (.l 264 sI4 c0)), (3, .c (.ref 0)), (4, .c (.v (.int .i64 v0.1))), (8, .c (.v (.int .i64 v0.1))), (9, .c (.l 264 sI4 c0)), (10, .c (.v (.int .i64 (c0.length : Int)))), (11, .c (.v (.bool (decide (v0.1 < (c0.length : Int))))))], [(0, .arr 262 sI4 v0.2)]⟩) c0 n v := by
  intro n
  induction n with
  | zero => intro v; rfl
  | succ n ih =>
    intro v
    refine (bltoSatS_0 k n K c0 v).trans ?_
    rw [funext ih]
    kernel_rfl
theorem mltoSatS_0 (k : Nat) (a0 : List (Int × Int × Int × Int)) : FltoSatS (k + 1) a0 = if (a0.length : Int) = (a0.length : Int) then if 0 ≤ (a0.length : Int) then if 32 * (a0.length : Int).toNat ≤ 281474976710656 then loopRun (R := List (Int × Int × Int × Int)) [0, 0, 3, 4] (run E (den E k) (lv 150) k (nthLoop Tryz.f150 0)) k (StltoSatS_0 a0 (0, (List.replicate (a0.length : Int).toNat ((0, 0, 0, 0) : Int × Int × Int × Int)))) (kontAt E (den E k) (lv 150) k (bodyOf Tryz.f150) 0 [] (finish E (rs 150) Tryz.f150 : Ex → St → Option (List (Int × Int × Int × Int)))) else none else none else none := by kernel_rfl
theorem eltoSatS (k : Nat) (a0 : List (Int × Int × Int × Int)) : FltoSatS (k + 1) a0 = if (a0.length : Int) = (a0.length : Int) then if 0 ≤ (a0.length : Int) then if 32 * (a0.length : Int).toNat ≤ 281474976710656 then LltoSatS_0 k (fun (v0 : Int × (List (Int × Int × Int × Int))) => some v0.2) a0 k (0, (List.replicate (a0.length : Int).toNat ((0, 0, 0, 0) : Int × Int × Int × Int))) else none else none else none := by
  rw [mltoSatS_0]
  simp only [lltoSatS_0]
  kernel_rfl
/-! loop.example/g00599/laws.toSite -/
noncomputable def FltoSite (k : Nat) (a0 : Int × Int × Int) : Option (Int × Int × Int) := den E k 246 [.agg [.v (.int .i64 a0.1), .v (.int .i64 a0.2.1), .v (.int .i64 a0.2.2)]]
theorem eltoSite (k : Nat) (a0 : Int × Int × Int) : FltoSite (k + 1) a0 = some a0 := by kernel_rfl
end Go.Proofs.YtonfioejmldhcaaGreat.World
