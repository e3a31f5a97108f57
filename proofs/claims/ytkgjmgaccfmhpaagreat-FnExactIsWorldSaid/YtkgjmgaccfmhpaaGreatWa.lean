/- The equations of the functions that a law reaches, part 1. No condition. -/
import Derived.Test.YtkgjmgaccfmhpaaGreatV4
import Derived.Test.YtkgjmgaccfmhpaaGreatProg
import Derived.KernelRfl
namespace Go.Proofs.YtkgjmgaccfmhpaaGreat.World
open Go Go.V Go.Proofs
set_option linter.unusedVariables false
set_option linter.unusedSimpArgs false
set_option maxRecDepth 100000
set_option maxHeartbeats 4000000
abbrev I6 : Type := Int × Int × Int × Int × Int × Int
abbrev I4 : Type := Int × Int × Int × Int
abbrev I3 : Type := Int × Int × Int
abbrev I2 : Type := Int × Int
abbrev TLPiece : Type := I2 × (List I2) × List (Int × (List Int) × List Int)
abbrev TPiece : Type := I2 × (List I2) × List (Int × (List Int) × List Int)
abbrev TLProgram : Type := Int × Int × Int × List TPiece
abbrev TProgram : Type := Int × Int × Int × List TPiece
abbrev TLSky : Type := Int × (List I4) × (List I3) × Int × Int × Int × Int × Int × (List I3) × Int
abbrev TSky : Type := Int × (List I4) × (List I3) × Int × Int × Int × Int × Int × (List I3) × Int
abbrev TLWorld : Type := TSky × TProgram × (List Int) × (List Int) × (List I6) × (List (List I6)) × (List I4) × (List Int) × (List (Int × Int × List Int)) × (List I4) × Int × Int × (List I6) × List I4
abbrev TWorld : Type := TSky × TProgram × (List Int) × (List Int) × (List I6) × (List (List I6)) × (List I4) × (List Int) × (List (Int × Int × List Int)) × (List I4) × Int × Int × (List I6) × List I4
abbrev sI4 : Sh := (.a [(.i .i64), (.i .i64), (.i .i64), (.i .i64)])
abbrev sI3 : Sh := (.a [(.i .i64), (.i .i64), (.i .i64)])
abbrev sI2 : Sh := (.a [(.i .i64), (.i .i64)])
abbrev sZone : Sh := (.a [(.i .i64), sI2])
abbrev sLSky : Sh := (.a [(.i .i64), (.l 273 sI4), (.l 275 sI3), (.i .i64), (.i .i64), (.i .i64), (.i .i64), (.i .i64), (.l 279 sZone), (.i .i64)])
abbrev sTable : Sh := (.a [(.i .i64), (.l 3 (.i .i64)), (.l 3 (.i .i64))])
abbrev sLPiece : Sh := (.a [sI2, (.l 357 sI2), (.l 355 sTable)])
abbrev sLProgram : Sh := (.a [(.i .i64), (.i .i64), (.i .i64), (.l 270 sLPiece)])
abbrev sLaw : Sh := (.a [(.l 3 (.i .i64))])
abbrev sI6 : Sh := (.a [(.i .i64), (.i .i64), (.i .i64), (.i .i64), (.i .i64), (.i .i64)])
abbrev sLQueue : Sh := (.a [(.l 215 sI6)])
abbrev sStream : Sh := (.a [(.i .i64), (.i .i64), (.l 3 (.i .i64))])
abbrev sLWorld : Sh := (.a [sLSky, sLProgram, sLaw, (.l 3 (.i .i64)), (.l 211 sI6), (.l 177 sLQueue), (.l 79 sI4), (.l 3 (.i .i64)), (.l 180 sStream), (.l 81 sI4), (.i .i64), (.i .i64), (.l 215 sI6), (.l 217 sI4)])
abbrev sSky : Sh := (.a [(.i .i64), (.l 186 sI4), (.l 188 sI3), (.i .i64), (.i .i64), (.i .i64), (.i .i64), (.i .i64), (.l 193 sZone), (.i .i64)])
abbrev sPiece : Sh := (.a [sI2, (.l 348 sI2), (.l 220 sTable)])
abbrev sProgram : Sh := (.a [(.i .i64), (.i .i64), (.i .i64), (.l 198 sPiece)])
abbrev sQueue : Sh := (.a [(.l 66 sI6)])
abbrev sWorld : Sh := (.a [sSky, sProgram, sLaw, (.l 3 (.i .i64)), (.l 159 sI6), (.l 140 sQueue), (.l 85 sI4), (.l 3 (.i .i64)), (.l 205 sStream), (.l 86 sI4), (.i .i64), (.i .i64), (.l 66 sI6), (.l 146 sI4)])
noncomputable def ty : Nat → Option TyI
 | 3 => some ⟨.one, 1, 8, [(.int .i64 0)], (.i .i64)⟩
 | 4 => some ⟨.one, 1, 1, [(.bool false)], .b⟩
 | 22 => some ⟨.slc 273, 1, 24, [(.slice none 0 0)], (.l 273 sI4)⟩
 | 23 => some ⟨.slc 275, 1, 24, [(.slice none 0 0)], (.l 275 sI3)⟩
 | 24 => some ⟨.slc 279, 1, 24, [(.slice none 0 0)], (.l 279 sZone)⟩
 | 26 => some ⟨.agg [(0, 3), (1, 22), (2, 23), (3, 3), (4, 3), (5, 3), (6, 3), (7, 3), (8, 24), (9, 3)], 10, 128, [(.int .i64 0), (.slice none 0 0), (.slice none 0 0), (.int .i64 0), (.int .i64 0), (.int .i64 0), (.int .i64 0), (.int .i64 0), (.slice none 0 0), (.int .i64 0)], sLSky⟩
 | 27 => some ⟨.slc 270, 1, 24, [(.slice none 0 0)], (.l 270 sLPiece)⟩
 | 29 => some ⟨.agg [(0, 3), (1, 3), (2, 3), (3, 27)], 4, 48, [(.int .i64 0), (.int .i64 0), (.int .i64 0), (.slice none 0 0)], sLProgram⟩
 | 30 => some ⟨.slc 3, 1, 24, [(.slice none 0 0)], (.l 3 (.i .i64))⟩
 | 32 => some ⟨.agg [(0, 30)], 1, 24, [(.slice none 0 0)], sLaw⟩
 | 33 => some ⟨.slc 211, 1, 24, [(.slice none 0 0)], (.l 211 sI6)⟩
 | 34 => some ⟨.slc 177, 1, 24, [(.slice none 0 0)], (.l 177 sLQueue)⟩
 | 35 => some ⟨.slc 79, 1, 24, [(.slice none 0 0)], (.l 79 sI4)⟩
 | 36 => some ⟨.slc 180, 1, 24, [(.slice none 0 0)], (.l 180 sStream)⟩
 | 37 => some ⟨.slc 81, 1, 24, [(.slice none 0 0)], (.l 81 sI4)⟩
 | 38 => some ⟨.slc 215, 1, 24, [(.slice none 0 0)], (.l 215 sI6)⟩
 | 39 => some ⟨.slc 217, 1, 24, [(.slice none 0 0)], (.l 217 sI4)⟩
 | 41 => some ⟨.agg [(0, 26), (10, 29), (14, 32), (15, 30), (16, 33), (17, 34), (18, 35), (19, 30), (20, 36), (21, 37), (22, 3), (23, 3), (24, 38), (25, 39)], 26, 432, [(.int .i64 0), (.slice none 0 0), (.slice none 0 0), (.int .i64 0), (.int .i64 0), (.int .i64 0), (.int .i64 0), (.int .i64 0), (.slice none 0 0), (.int .i64 0), (.int .i64 0), (.int .i64 0), (.int .i64 0), (.slice none 0 0), (.slice none 0 0), (.slice none 0 0), (.slice none 0 0), (.slice none 0 0), (.slice none 0 0), (.slice none 0 0), (.slice none 0 0), (.slice none 0 0), (.int .i64 0), (.int .i64 0), (.slice none 0 0), (.slice none 0 0)], sLWorld⟩
 | 44 => some ⟨.slc 186, 1, 24, [(.slice none 0 0)], (.l 186 sI4)⟩
 | 45 => some ⟨.slc 188, 1, 24, [(.slice none 0 0)], (.l 188 sI3)⟩
 | 46 => some ⟨.slc 193, 1, 24, [(.slice none 0 0)], (.l 193 sZone)⟩
 | 48 => some ⟨.agg [(0, 3), (1, 44), (2, 45), (3, 3), (4, 3), (5, 3), (6, 3), (7, 3), (8, 46), (9, 3)], 10, 128, [(.int .i64 0), (.slice none 0 0), (.slice none 0 0), (.int .i64 0), (.int .i64 0), (.int .i64 0), (.int .i64 0), (.int .i64 0), (.slice none 0 0), (.int .i64 0)], sSky⟩
 | 49 => some ⟨.slc 198, 1, 24, [(.slice none 0 0)], (.l 198 sPiece)⟩
 | 51 => some ⟨.agg [(0, 3), (1, 3), (2, 3), (3, 49)], 4, 48, [(.int .i64 0), (.int .i64 0), (.int .i64 0), (.slice none 0 0)], sProgram⟩
 | 52 => some ⟨.agg [(0, 30)], 1, 24, [(.slice none 0 0)], sLaw⟩
 | 53 => some ⟨.slc 159, 1, 24, [(.slice none 0 0)], (.l 159 sI6)⟩
 | 54 => some ⟨.slc 140, 1, 24, [(.slice none 0 0)], (.l 140 sQueue)⟩
 | 55 => some ⟨.slc 85, 1, 24, [(.slice none 0 0)], (.l 85 sI4)⟩
 | 56 => some ⟨.slc 205, 1, 24, [(.slice none 0 0)], (.l 205 sStream)⟩
 | 57 => some ⟨.slc 86, 1, 24, [(.slice none 0 0)], (.l 86 sI4)⟩
 | 58 => some ⟨.slc 66, 1, 24, [(.slice none 0 0)], (.l 66 sI6)⟩
 | 59 => some ⟨.slc 146, 1, 24, [(.slice none 0 0)], (.l 146 sI4)⟩
 | 61 => some ⟨.agg [(0, 48), (10, 51), (14, 52), (15, 30), (16, 53), (17, 54), (18, 55), (19, 30), (20, 56), (21, 57), (22, 3), (23, 3), (24, 58), (25, 59)], 26, 432, [(.int .i64 0), (.slice none 0 0), (.slice none 0 0), (.int .i64 0), (.int .i64 0), (.int .i64 0), (.int .i64 0), (.int .i64 0), (.slice none 0 0), (.int .i64 0), (.int .i64 0), (.int .i64 0), (.int .i64 0), (.slice none 0 0), (.slice none 0 0), (.slice none 0 0), (.slice none 0 0), (.slice none 0 0), (.slice none 0 0), (.slice none 0 0), (.slice none 0 0), (.slice none 0 0), (.int .i64 0), (.int .i64 0), (.slice none 0 0), (.slice none 0 0)], sWorld⟩
 | 66 => some ⟨.agg [(0, 3), (1, 3), (2, 3), (3, 3), (4, 3), (5, 3)], 6, 48, [(.int .i64 0), (.int .i64 0), (.int .i64 0), (.int .i64 0), (.int .i64 0), (.int .i64 0)], sI6⟩
 | 79 => some ⟨.agg [(0, 3), (1, 3), (2, 3), (3, 3)], 4, 32, [(.int .i64 0), (.int .i64 0), (.int .i64 0), (.int .i64 0)], sI4⟩
 | 81 => some ⟨.agg [(0, 3), (1, 3), (2, 3), (3, 3)], 4, 32, [(.int .i64 0), (.int .i64 0), (.int .i64 0), (.int .i64 0)], sI4⟩
 | 85 => some ⟨.agg [(0, 3), (1, 3), (2, 3), (3, 3)], 4, 32, [(.int .i64 0), (.int .i64 0), (.int .i64 0), (.int .i64 0)], sI4⟩
 | 86 => some ⟨.agg [(0, 3), (1, 3), (2, 3), (3, 3)], 4, 32, [(.int .i64 0), (.int .i64 0), (.int .i64 0), (.int .i64 0)], sI4⟩
 | 140 => some ⟨.agg [(0, 58)], 1, 24, [(.slice none 0 0)], sQueue⟩
 | 146 => some ⟨.agg [(0, 3), (1, 3), (2, 3), (3, 3)], 4, 32, [(.int .i64 0), (.int .i64 0), (.int .i64 0), (.int .i64 0)], sI4⟩
 | 159 => some ⟨.agg [(0, 3), (1, 3), (2, 3), (3, 3), (4, 3), (5, 3)], 6, 48, [(.int .i64 0), (.int .i64 0), (.int .i64 0), (.int .i64 0), (.int .i64 0), (.int .i64 0)], sI6⟩
 | 162 => some ⟨.slc 183, 1, 24, [(.slice none 0 0)], (.l 183 sI2)⟩
 | 177 => some ⟨.agg [(0, 38)], 1, 24, [(.slice none 0 0)], sLQueue⟩
 | 180 => some ⟨.agg [(0, 3), (1, 3), (2, 30)], 3, 40, [(.int .i64 0), (.int .i64 0), (.slice none 0 0)], sStream⟩
 | 183 => some ⟨.agg [(0, 3), (1, 3)], 2, 16, [(.int .i64 0), (.int .i64 0)], sI2⟩
 | 186 => some ⟨.agg [(0, 3), (1, 3), (2, 3), (3, 3)], 4, 32, [(.int .i64 0), (.int .i64 0), (.int .i64 0), (.int .i64 0)], sI4⟩
 | 188 => some ⟨.agg [(0, 3), (1, 3), (2, 3)], 3, 24, [(.int .i64 0), (.int .i64 0), (.int .i64 0)], sI3⟩
 | 191 => some ⟨.agg [(0, 3), (1, 3)], 2, 16, [(.int .i64 0), (.int .i64 0)], sI2⟩
 | 193 => some ⟨.agg [(0, 3), (1, 191)], 3, 24, [(.int .i64 0), (.int .i64 0), (.int .i64 0)], sZone⟩
 | 195 => some ⟨.slc 348, 1, 24, [(.slice none 0 0)], (.l 348 sI2)⟩
 | 196 => some ⟨.slc 220, 1, 24, [(.slice none 0 0)], (.l 220 sTable)⟩
 | 198 => some ⟨.agg [(0, 183), (2, 195), (3, 196)], 4, 64, [(.int .i64 0), (.int .i64 0), (.slice none 0 0), (.slice none 0 0)], sPiece⟩
 | 205 => some ⟨.agg [(0, 3), (1, 3), (2, 30)], 3, 40, [(.int .i64 0), (.int .i64 0), (.slice none 0 0)], sStream⟩
 | 211 => some ⟨.agg [(0, 3), (1, 3), (2, 3), (3, 3), (4, 3), (5, 3)], 6, 48, [(.int .i64 0), (.int .i64 0), (.int .i64 0), (.int .i64 0), (.int .i64 0), (.int .i64 0)], sI6⟩
 | 215 => some ⟨.agg [(0, 3), (1, 3), (2, 3), (3, 3), (4, 3), (5, 3)], 6, 48, [(.int .i64 0), (.int .i64 0), (.int .i64 0), (.int .i64 0), (.int .i64 0), (.int .i64 0)], sI6⟩
 | 217 => some ⟨.agg [(0, 3), (1, 3), (2, 3), (3, 3)], 4, 32, [(.int .i64 0), (.int .i64 0), (.int .i64 0), (.int .i64 0)], sI4⟩
 | 220 => some ⟨.agg [(0, 3), (1, 30), (2, 30)], 3, 56, [(.int .i64 0), (.slice none 0 0), (.slice none 0 0)], sTable⟩
 | 266 => some ⟨.agg [(0, 3), (1, 3)], 2, 16, [(.int .i64 0), (.int .i64 0)], sI2⟩
 | 267 => some ⟨.slc 357, 1, 24, [(.slice none 0 0)], (.l 357 sI2)⟩
 | 268 => some ⟨.slc 355, 1, 24, [(.slice none 0 0)], (.l 355 sTable)⟩
 | 270 => some ⟨.agg [(0, 266), (2, 267), (3, 268)], 4, 64, [(.int .i64 0), (.int .i64 0), (.slice none 0 0), (.slice none 0 0)], sLPiece⟩
 | 273 => some ⟨.agg [(0, 3), (1, 3), (2, 3), (3, 3)], 4, 32, [(.int .i64 0), (.int .i64 0), (.int .i64 0), (.int .i64 0)], sI4⟩
 | 275 => some ⟨.agg [(0, 3), (1, 3), (2, 3)], 3, 24, [(.int .i64 0), (.int .i64 0), (.int .i64 0)], sI3⟩
 | 277 => some ⟨.agg [(0, 3), (1, 3)], 2, 16, [(.int .i64 0), (.int .i64 0)], sI2⟩
 | 279 => some ⟨.agg [(0, 3), (1, 277)], 3, 24, [(.int .i64 0), (.int .i64 0), (.int .i64 0)], sZone⟩
 | 348 => some ⟨.agg [(0, 3), (1, 3)], 2, 16, [(.int .i64 0), (.int .i64 0)], sI2⟩
 | 355 => some ⟨.agg [(0, 3), (1, 30), (2, 30)], 3, 56, [(.int .i64 0), (.slice none 0 0), (.slice none 0 0)], sTable⟩
 | 357 => some ⟨.agg [(0, 3), (1, 3)], 2, 16, [(.int .i64 0), (.int .i64 0)], sI2⟩
 | 359 => some ⟨.slc 4, 1, 24, [(.slice none 0 0)], (.l 4 .b)⟩
 | _ => none
noncomputable def fn0 : Nat → Option Func
 | 3 => some Tryz.f3
 | 10 => some Tryz.f10
 | 11 => some Tryz.f11
 | 12 => some Tryz.f12
 | 13 => some Tryz.f13
 | 14 => some Tryz.f14
 | 17 => some Tryz.f17
 | 20 => some Tryz.f20
 | 38 => some Tryz.f38
 | 39 => some Tryz.f39
 | 40 => some Tryz.f40
 | 41 => some Tryz.f41
 | 42 => some Tryz.f42
 | 43 => some Tryz.f43
 | 44 => some Tryz.f44
 | 45 => some Tryz.f45
 | 46 => some Tryz.f46
 | 47 => some Tryz.f47
 | 48 => some Tryz.f48
 | 49 => some Tryz.f49
 | 50 => some Tryz.f50
 | 51 => some Tryz.f51
 | 52 => some Tryz.f52
 | 53 => some Tryz.f53
 | 54 => some Tryz.f54
 | 55 => some Tryz.f55
 | 56 => some Tryz.f56
 | 57 => some Tryz.f57
 | 58 => some Tryz.f58
 | 59 => some Tryz.f59
 | 60 => some Tryz.f60
 | 61 => some Tryz.f61
 | 62 => some Tryz.f62
 | 63 => some Tryz.f63
 | 64 => some Tryz.f64
 | 65 => some Tryz.f65
 | 66 => some Tryz.f66
 | 67 => some Tryz.f67
 | 68 => some Tryz.f68
 | 69 => some Tryz.f69
 | 70 => some Tryz.f70
 | 71 => some Tryz.f71
 | 72 => some Tryz.f72
 | 73 => some Tryz.f73
 | 74 => some Tryz.f74
 | 75 => some Tryz.f75
 | 76 => some Tryz.f76
 | 77 => some Tryz.f77
 | 78 => some Tryz.f78
 | 79 => some Tryz.f79
 | 80 => some Tryz.f80
 | 81 => some Tryz.f81
 | 82 => some Tryz.f82
 | 83 => some Tryz.f83
 | 84 => some Tryz.f84
 | 85 => some Tryz.f85
 | 86 => some Tryz.f86
 | 87 => some Tryz.f87
 | 88 => some Tryz.f88
 | 89 => some Tryz.f89
 | _ => none
noncomputable def fn1 : Nat → Option Func
 | 90 => some Tryz.f90
 | 95 => some Tryz.f95
 | 98 => some Tryz.f98
 | 99 => some Tryz.f99
 | 113 => some Tryz.f113
 | 114 => some Tryz.f114
 | 119 => some Tryz.f119
 | 134 => some Tryz.f134
 | 135 => some Tryz.f135
 | 140 => some Tryz.f140
 | 141 => some Tryz.f141
 | 142 => some Tryz.f142
 | 143 => some Tryz.f143
 | 144 => some Tryz.f144
 | 145 => some Tryz.f145
 | 146 => some Tryz.f146
 | 147 => some Tryz.f147
 | 148 => some Tryz.f148
 | 149 => some Tryz.f149
 | 150 => some Tryz.f150
 | 151 => some Tryz.f151
 | 152 => some Tryz.f152
 | 153 => some Tryz.f153
 | 154 => some Tryz.f154
 | 155 => some Tryz.f155
 | 156 => some Tryz.f156
 | 157 => some Tryz.f157
 | 158 => some Tryz.f158
 | 159 => some Tryz.f159
 | 160 => some Tryz.f160
 | 161 => some Tryz.f161
 | 162 => some Tryz.f162
 | 163 => some Tryz.f163
 | 164 => some Tryz.f164
 | 165 => some Tryz.f165
 | 166 => some Tryz.f166
 | 167 => some Tryz.f167
 | 168 => some Tryz.f168
 | 169 => some Tryz.f169
 | 170 => some Tryz.f170
 | 171 => some Tryz.f171
 | 172 => some Tryz.f172
 | 173 => some Tryz.f173
 | 174 => some Tryz.f174
 | 175 => some Tryz.f175
 | 176 => some Tryz.f176
 | 177 => some Tryz.f177
 | 178 => some Tryz.f178
 | 179 => some Tryz.f179
 | 180 => some Tryz.f180
 | 181 => some Tryz.f181
 | 182 => some Tryz.f182
 | 183 => some Tryz.f183
 | 184 => some Tryz.f184
 | 186 => some Tryz.f186
 | 187 => some Tryz.f187
 | 188 => some Tryz.f188
 | 189 => some Tryz.f189
 | 190 => some Tryz.f190
 | 191 => some Tryz.f191
 | _ => none
noncomputable def fn2 : Nat → Option Func
 | 192 => some Tryz.f192
 | 193 => some Tryz.f193
 | 194 => some Tryz.f194
 | 195 => some Tryz.f195
 | 219 => some Tryz.f219
 | 220 => some Tryz.f220
 | 221 => some Tryz.f221
 | 228 => some Tryz.f228
 | 237 => some Tryz.f237
 | 246 => some Tryz.f246
 | 247 => some Tryz.f247
 | 248 => some Tryz.f248
 | 249 => some Tryz.f249
 | 250 => some Tryz.f250
 | 251 => some Tryz.f251
 | 252 => some Tryz.f252
 | 253 => some Tryz.f253
 | 254 => some Tryz.f254
 | 255 => some Tryz.f255
 | 256 => some Tryz.f256
 | 257 => some Tryz.f257
 | 258 => some Tryz.f258
 | 259 => some Tryz.f259
 | 262 => some Tryz.f262
 | 263 => some Tryz.f263
 | 264 => some Tryz.f264
 | 265 => some Tryz.f265
 | 287 => some Tryz.f287
 | 288 => some Tryz.f288
 | 289 => some Tryz.f289
 | 300 => some Tryz.f300
 | 301 => some Tryz.f301
 | 302 => some Tryz.f302
 | 309 => some Tryz.f309
 | 310 => some Tryz.f310
 | 311 => some Tryz.f311
 | 312 => some Tryz.f312
 | 313 => some Tryz.f313
 | 314 => some Tryz.f314
 | 315 => some Tryz.f315
 | 316 => some Tryz.f316
 | 317 => some Tryz.f317
 | 318 => some Tryz.f318
 | 319 => some Tryz.f319
 | 320 => some Tryz.f320
 | 332 => some Tryz.f332
 | 333 => some Tryz.f333
 | 334 => some Tryz.f334
 | 335 => some Tryz.f335
 | 339 => some Tryz.f339
 | 348 => some Tryz.f348
 | 354 => some Tryz.f354
 | 355 => some Tryz.f355
 | 356 => some Tryz.f356
 | 357 => some Tryz.f357
 | 362 => some Tryz.f362
 | 363 => some Tryz.f363
 | 364 => some Tryz.f364
 | 365 => some Tryz.f365
 | 366 => some Tryz.f366
 | _ => none
noncomputable def fn3 : Nat → Option Func
 | 371 => some Tryz.f371
 | 372 => some Tryz.f372
 | 373 => some Tryz.f373
 | 374 => some Tryz.f374
 | 375 => some Tryz.f375
 | 382 => some Tryz.f382
 | 383 => some Tryz.f383
 | 390 => some Tryz.f390
 | 391 => some Tryz.f391
 | 392 => some Tryz.f392
 | 394 => some Tryz.f394
 | 395 => some Tryz.f395
 | 396 => some Tryz.f396
 | 406 => some Tryz.f406
 | 407 => some Tryz.f407
 | 408 => some Tryz.f408
 | 410 => some Tryz.f410
 | 411 => some Tryz.f411
 | 412 => some Tryz.f412
 | _ => none
noncomputable def fn (f : Nat) : Option Func := (match fn0 f with
 | some F => some F
 | none => (match fn1 f with
 | some F => some F
 | none => (match fn2 f with
 | some F => some F
 | none => fn3 f)))
def lv : Nat → List Nat
 | 11 => [0, 1, 3]
 | 20 => [0, 0, 1, 5]
 | 43 => [0, 0, 1, 5]
 | 45 => [0, 0, 1, 5]
 | 50 => [0, 1, 3, 4, 6]
 | 51 => [0, 1, 3]
 | 52 => [0, 2, 3, 5]
 | 54 => [0, 1, 2, 5]
 | 56 => [0, 1, 3]
 | 57 => [0, 1, 3, 4, 5]
 | 58 => [0, 1, 3]
 | 59 => [0, 1, 3, 4, 5, 6, 7]
 | 63 => [0, 0, 3, 4]
 | 64 => [0, 0, 3, 4]
 | 65 => [0, 0, 3, 4]
 | 66 => [0, 0, 3, 4]
 | 67 => [0, 0, 3, 4]
 | 68 => [0, 0, 3, 4]
 | 69 => [0, 0, 3, 4]
 | 70 => [0, 0, 3, 4]
 | 71 => [0, 1, 35, 36, 37, 48, 49, 50, 75, 76, 77, 104, 105, 106]
 | 72 => [0, 1, 21, 22, 23]
 | 73 => [0, 2, 3, 8, 9, 10]
 | 75 => [0, 2, 12, 13, 14]
 | 77 => [0, 1, 14, 15, 16]
 | 78 => [0, 1, 3, 15, 16, 17, 27, 28, 29]
 | 79 => [0, 1, 36, 37, 38, 88, 89, 90]
 | 80 => [0, 1, 3, 10, 11, 12, 24, 25, 26]
 | 84 => [0, 0, 1, 5]
 | 85 => [0, 0, 1, 5]
 | 86 => [0, 0, 1, 5]
 | 87 => [0, 0, 1, 5]
 | 88 => [0, 0, 1, 5]
 | 89 => [0, 0, 1, 5]
 | 90 => [0, 0, 1, 5]
 | 113 => [0, 0, 1, 5]
 | 143 => [0, 0, 1, 5]
 | 151 => [0, 2, 3, 5]
 | 153 => [0, 1, 2, 4, 9, 10]
 | 157 => [0, 1, 2, 5]
 | 158 => [0, 1, 3]
 | 159 => [0, 1, 2, 5, 6, 7, 8]
 | 160 => [0, 0, 3, 4]
 | 161 => [0, 0, 3, 4]
 | 162 => [0, 0, 3, 4]
 | 163 => [0, 0, 3, 4]
 | 173 => [0, 1, 2, 15, 16, 17]
 | 174 => [0, 0, 1, 2, 7, 10, 11]
 | 182 => [0, 1, 22, 23, 24]
 | 184 => [0, 3, 10, 11, 12]
 | 185 => [1]
 | 186 => [0, 3, 6, 7, 8]
 | 187 => [0, 0, 1, 5]
 | 188 => [0, 0, 1, 5]
 | 189 => [0, 0, 1, 5]
 | 190 => [0, 0, 1, 5]
 | 221 => [0, 1, 4, 9, 11, 12]
 | 256 => [0, 0, 1, 12, 13]
 | 258 => [0, 0, 1, 7, 8]
 | 300 => [0, 1, 2, 7, 8]
 | 310 => [0, 0, 1, 5]
 | 311 => [0, 0, 1, 5]
 | 312 => [0, 0, 1, 2, 3, 9, 10, 11, 12, 13, 14, 15]
 | 313 => [0, 0, 1, 2, 3, 9, 10, 11, 12, 13, 14]
 | 316 => [0, 0, 3, 4]
 | 317 => [0, 0, 3, 4]
 | 318 => [0, 0, 1, 2, 3, 9, 10, 11, 25, 26, 55, 56, 57]
 | 319 => [0, 0, 1, 2, 3, 9, 10, 12, 13, 22, 23, 24, 31, 32, 33]
 | 320 => [0, 2, 4, 9, 10, 11]
 | 334 => [0, 0, 1, 5]
 | 335 => [0, 0, 1, 5]
 | 339 => [0, 0, 1, 5, 6, 7, 8]
 | 348 => [0, 1, 5, 9, 10, 11]
 | 375 => [0, 3, 5, 6, 8, 9, 10]
 | _ => []
def rs : Nat → RSh
 | 3 => ⟨false, [.b], 0⟩
 | 10 => ⟨false, [(.i .i64)], 0⟩
 | 11 => ⟨false, [.b], 0⟩
 | 12 => ⟨true, [sWorld], 0⟩
 | 13 => ⟨false, [.b], 0⟩
 | 14 => ⟨false, [.b], 0⟩
 | 17 => ⟨false, [.b], 0⟩
 | 20 => ⟨false, [.b], 0⟩
 | 38 => ⟨false, [(.i .i64)], 0⟩
 | 39 => ⟨false, [(.i .i64)], 0⟩
 | 40 => ⟨false, [(.i .i64)], 0⟩
 | 41 => ⟨false, [(.i .i64)], 0⟩
 | 42 => ⟨false, [(.i .i64)], 0⟩
 | 43 => ⟨false, [(.i .i64)], 0⟩
 | 44 => ⟨false, [(.i .i64)], 0⟩
 | 45 => ⟨false, [(.i .i64)], 0⟩
 | 46 => ⟨false, [(.i .i64)], 0⟩
 | 47 => ⟨false, [(.i .i64)], 0⟩
 | 48 => ⟨false, [(.i .i64)], 0⟩
 | 49 => ⟨false, [.b], 0⟩
 | 50 => ⟨false, [.b], 0⟩
 | 51 => ⟨false, [.b], 0⟩
 | 52 => ⟨false, [.b], 0⟩
 | 53 => ⟨false, [(.i .i64)], 0⟩
 | 54 => ⟨false, [.b], 0⟩
 | 55 => ⟨false, [.b], 0⟩
 | 56 => ⟨false, [.b], 0⟩
 | 57 => ⟨false, [.b], 0⟩
 | 58 => ⟨false, [.b], 0⟩
 | 59 => ⟨false, [.b], 0⟩
 | 60 => ⟨true, [sSky], 0⟩
 | 61 => ⟨true, [sProgram], 0⟩
 | 62 => ⟨true, [sLaw], 0⟩
 | 63 => ⟨true, [(.l 3 (.i .i64))], 0⟩
 | 64 => ⟨true, [(.l 159 sI6)], 0⟩
 | 65 => ⟨true, [(.l 140 sQueue)], 0⟩
 | 66 => ⟨true, [(.l 85 sI4)], 0⟩
 | 67 => ⟨true, [(.l 205 sStream)], 0⟩
 | 68 => ⟨true, [(.l 86 sI4)], 0⟩
 | 69 => ⟨true, [(.l 66 sI6)], 0⟩
 | 70 => ⟨true, [(.l 146 sI4)], 0⟩
 | 71 => ⟨false, [.b], 0⟩
 | 72 => ⟨false, [.b], 0⟩
 | 73 => ⟨false, [.b], 0⟩
 | 74 => ⟨false, [(.i .i64)], 0⟩
 | 75 => ⟨false, [.b], 0⟩
 | 76 => ⟨false, [.b], 0⟩
 | 77 => ⟨false, [.b], 0⟩
 | 78 => ⟨false, [.b], 0⟩
 | 79 => ⟨false, [.b], 0⟩
 | 80 => ⟨false, [.b], 0⟩
 | 81 => ⟨false, [.b], 0⟩
 | 82 => ⟨false, [.b], 0⟩
 | 83 => ⟨false, [.b], 0⟩
 | 84 => ⟨false, [.b], 0⟩
 | 85 => ⟨false, [.b], 0⟩
 | 86 => ⟨false, [.b], 0⟩
 | 87 => ⟨false, [.b], 0⟩
 | 88 => ⟨false, [.b], 0⟩
 | 89 => ⟨false, [.b], 0⟩
 | 90 => ⟨false, [.b], 0⟩
 | 95 => ⟨false, [.b], 0⟩
 | 98 => ⟨false, [(.i .i64)], 0⟩
 | 99 => ⟨false, [.b], 0⟩
 | 113 => ⟨false, [.b], 0⟩
 | 114 => ⟨true, [(.l 183 sI2)], 0⟩
 | 119 => ⟨true, [(.l 183 sI2)], 0⟩
 | 134 => ⟨false, [sI4], 0⟩
 | 135 => ⟨false, [sI4], 0⟩
 | 140 => ⟨false, [(.i .i64)], 0⟩
 | 141 => ⟨false, [(.i .i64)], 0⟩
 | 142 => ⟨false, [(.i .i64)], 0⟩
 | 143 => ⟨false, [(.i .i64)], 0⟩
 | 144 => ⟨false, [(.i .i64)], 0⟩
 | 145 => ⟨false, [(.i .i64)], 0⟩
 | 146 => ⟨false, [.b], 0⟩
 | 147 => ⟨false, [.b], 0⟩
 | 148 => ⟨false, [.b], 0⟩
 | 149 => ⟨false, [.b], 0⟩
 | 150 => ⟨false, [.b], 0⟩
 | 151 => ⟨false, [.b], 0⟩
 | 152 => ⟨false, [.b], 0⟩
 | 153 => ⟨false, [(.i .i64)], 0⟩
 | 154 => ⟨false, [.b], 0⟩
 | 155 => ⟨false, [.b], 0⟩
 | 156 => ⟨false, [.b], 0⟩
 | 157 => ⟨false, [(.i .i64)], 0⟩
 | 158 => ⟨false, [.b], 0⟩
 | 159 => ⟨false, [(.i .i64)], 0⟩
 | 160 => ⟨true, [(.l 186 sI4)], 0⟩
 | 161 => ⟨true, [(.l 188 sI3)], 0⟩
 | 162 => ⟨true, [(.l 193 sZone)], 0⟩
 | 163 => ⟨true, [(.l 198 sPiece)], 0⟩
 | 164 => ⟨false, [sI6], 0⟩
 | 165 => ⟨true, [sQueue], 0⟩
 | 166 => ⟨true, [sStream], 0⟩
 | 167 => ⟨false, [sI6], 0⟩
 | 168 => ⟨false, [sI4], 0⟩
 | 169 => ⟨false, [.b], 0⟩
 | 170 => ⟨false, [.b], 0⟩
 | 171 => ⟨false, [.b], 0⟩
 | 172 => ⟨false, [.b], 0⟩
 | 173 => ⟨false, [.b], 0⟩
 | 174 => ⟨true, [(.l 220 sTable)], 0⟩
 | 175 => ⟨false, [.b], 0⟩
 | 176 => ⟨false, [.b], 0⟩
 | 177 => ⟨false, [(.i .i64)], 0⟩
 | 178 => ⟨false, [.b], 0⟩
 | 179 => ⟨false, [.b], 0⟩
 | 180 => ⟨false, [.b], 0⟩
 | 181 => ⟨false, [(.i .i64)], 0⟩
 | 182 => ⟨false, [.b], 0⟩
 | 183 => ⟨false, [.b], 0⟩
 | 184 => ⟨true, [(.l 66 sI6)], 0⟩
 | 185 => ⟨true, [(.l 3 (.i .i64))], 1⟩
 | 186 => ⟨false, [(.i .i64)], 0⟩
 | 187 => ⟨false, [.b], 0⟩
 | 188 => ⟨false, [.b], 0⟩
 | 189 => ⟨false, [.b], 0⟩
 | 190 => ⟨false, [.b], 0⟩
 | 191 => ⟨false, [.b], 0⟩
 | 192 => ⟨false, [.b], 0⟩
 | 193 => ⟨false, [.b], 0⟩
 | 194 => ⟨false, [.b], 0⟩
 | 195 => ⟨false, [.b], 0⟩
 | 219 => ⟨false, [(.i .i64)], 0⟩
 | 220 => ⟨false, [.b], 0⟩
 | 221 => ⟨true, [(.l 183 sI2)], 0⟩
 | 228 => ⟨true, [(.l 66 sI6)], 0⟩
 | 237 => ⟨true, [(.l 183 sI2)], 0⟩
 | 246 => ⟨false, [(.i .i64)], 0⟩
 | 247 => ⟨false, [.b], 0⟩
 | 248 => ⟨true, [sTable], 0⟩
 | 249 => ⟨false, [.b], 0⟩
 | 250 => ⟨false, [sI4], 0⟩
 | 251 => ⟨false, [sI3], 0⟩
 | 252 => ⟨false, [sZone], 0⟩
 | 253 => ⟨true, [sPiece], 0⟩
 | 254 => ⟨false, [.b], 0⟩
 | 255 => ⟨true, [sTable], 0⟩
 | 256 => ⟨false, [.b], 0⟩
 | 257 => ⟨false, [(.i .i64)], 0⟩
 | 258 => ⟨false, [(.i .i64)], 0⟩
 | 259 => ⟨false, [.b], 0⟩
 | 262 => ⟨false, [.b], 0⟩
 | 263 => ⟨false, [.b], 0⟩
 | 264 => ⟨false, [.b], 0⟩
 | 265 => ⟨false, [.b], 0⟩
 | 287 => ⟨false, [(.i .i64), (.i .i64)], 0⟩
 | 288 => ⟨false, [(.i .i64)], 0⟩
 | 289 => ⟨true, [(.l 183 sI2)], 0⟩
 | 300 => ⟨true, [(.l 183 sI2)], 0⟩
 | 301 => ⟨false, [.b], 0⟩
 | 302 => ⟨false, [(.i .i64)], 0⟩
 | 309 => ⟨false, [(.i .i64)], 0⟩
 | 310 => ⟨false, [(.i .i64)], 0⟩
 | 311 => ⟨false, [.b], 0⟩
 | 312 => ⟨true, [(.l 3 (.i .i64))], 0⟩
 | 313 => ⟨true, [(.l 3 (.i .i64))], 0⟩
 | 314 => ⟨false, [sI2], 0⟩
 | 315 => ⟨false, [sI2], 0⟩
 | 316 => ⟨true, [(.l 348 sI2)], 0⟩
 | 317 => ⟨true, [(.l 220 sTable)], 0⟩
 | 318 => ⟨true, [(.l 3 (.i .i64))], 0⟩
 | 319 => ⟨true, [(.l 3 (.i .i64))], 0⟩
 | 320 => ⟨true, [(.l 3 (.i .i64))], 0⟩
 | 332 => ⟨false, [.b], 0⟩
 | 333 => ⟨false, [.b], 0⟩
 | 334 => ⟨false, [.b], 0⟩
 | 335 => ⟨false, [.b], 0⟩
 | 339 => ⟨true, [(.l 3 (.i .i64))], 0⟩
 | 348 => ⟨true, [(.l 3 (.i .i64))], 0⟩
 | 354 => ⟨false, [sI2], 0⟩
 | 355 => ⟨false, [(.i .i64)], 0⟩
 | 356 => ⟨false, [(.i .i64)], 0⟩
 | 357 => ⟨false, [(.i .i64)], 0⟩
 | 362 => ⟨false, [.b], 0⟩
 | 363 => ⟨false, [sI2], 0⟩
 | 364 => ⟨false, [(.i .i64)], 0⟩
 | 365 => ⟨false, [(.i .i64)], 0⟩
 | 366 => ⟨false, [(.i .i64)], 0⟩
 | 371 => ⟨false, [(.i .i64)], 0⟩
 | 372 => ⟨false, [.b], 0⟩
 | 373 => ⟨false, [sI2], 0⟩
 | 374 => ⟨true, [sTable], 0⟩
 | 375 => ⟨true, [(.l 4 .b)], 0⟩
 | 382 => ⟨false, [.b], 0⟩
 | 383 => ⟨false, [.b], 0⟩
 | 386 => ⟨true, [(.l 3 (.i .i64))], 0⟩
 | 390 => ⟨false, [sI2], 0⟩
 | 391 => ⟨false, [(.i .i64)], 0⟩
 | 392 => ⟨false, [(.i .i64)], 0⟩
 | 394 => ⟨false, [sI2], 0⟩
 | 395 => ⟨false, [(.i .i64)], 0⟩
 | 396 => ⟨false, [(.i .i64)], 0⟩
 | 406 => ⟨false, [sI2], 0⟩
 | 407 => ⟨false, [(.i .i64)], 0⟩
 | 408 => ⟨false, [(.i .i64)], 0⟩
 | 410 => ⟨false, [sI2], 0⟩
 | 411 => ⟨false, [(.i .i64)], 0⟩
 | 412 => ⟨false, [(.i .i64)], 0⟩
 | _ => ⟨false, [], 0⟩
def tk : Nat → List (Option Sh)
 | 185 => [some (.l 3 (.i .i64))]
 | 289 => [some (.l 183 sI2)]
 | 386 => [some (.l 3 (.i .i64))]
 | _ => []
def ext : (f : Nat) → Option (List AV → Option (RTy (rs f)))
 | 185 => some extSort
 | 386 => some extCompact
 | _ => none
noncomputable def E : Env := { P := Tryz.prog, fn := fn, ty := ty, lv := lv, rs := rs, tk := tk, ext := ext }
noncomputable def FiInRange (k : Nat) (a0 : Int) (a1 : Int) (a2 : Int) : Option (Bool) := den E k 76 [cI a0, cI a1, cI a2]
theorem eiInRange (k : Nat) (a0 : Int) (a1 : Int) (a2 : Int) : FiInRange (k + 1) a0 a1 a2 = if ((decide (a1 ≤ a0)) == true) = true then some (decide (a0 ≤ a2)) else some false := by kernel_rfl
noncomputable def FiAreOffsets (k : Nat) (a0 : TProgram) (a1 : List Int) : Option (Bool) := den E k 75 [.agg (avs sProgram a0), .c (.l 3 (.i .i64) a1)]
abbrev CiAreOffsets_0 : Type := (List Int) × Int × TProgram
abbrev ViAreOffsets_0 : Type := Int
def StiAreOffsets_0 (c0 : CiAreOffsets_0) (v0 : ViAreOffsets_0) : St := ⟨33, 1, [(2, cP 0), (12, .c (.l 3 (.i .i64) c0.1)), (13, cI c0.2.1), (14, cI v0)], [(0, .var (avs sProgram c0.2.2))]⟩
noncomputable def BiAreOffsets_0 {R : Type} (k : Nat) (X0 : ViAreOffsets_0 → Int → Bool → Bool → Option R) (X1 : ViAreOffsets_0 → Int → Bool → Option R) (X2 : ViAreOffsets_0 → Option R) (c0 : CiAreOffsets_0) (rec : ViAreOffsets_0 → Option R) (v0 : ViAreOffsets_0) : Option R := if (decide (v0 < c0.2.1)) = true then if 0 ≤ v0 then ix c0.1 v0.toNat fun x1 => (FiInRange k c0.2.2.2.2.1 0 5).bind fun p2 => if ((!p2) == false) = true then (FiInRange k x1 (IntKind.i64.wrap (0 - c0.2.2.2.2.1)) c0.2.2.2.2.1).bind fun p3 => if (!p3) = true then X0 v0 x1 p2 p3 else rec (IntKind.i64.wrap (v0 + 1)) else X1 v0 x1 p2 else none else X2 v0
noncomputable def LiAreOffsets_0 {R : Type} (k : Nat) (X0 : ViAreOffsets_0 → Int → Bool → Bool → Option R) (X1 : ViAreOffsets_0 → Int → Bool → Option R) (X2 : ViAreOffsets_0 → Option R) (c : CiAreOffsets_0) : Nat → ViAreOffsets_0 → Option R
 | 0, _ => none
 | n + 1, v => BiAreOffsets_0 k X0 X1 X2 c (LiAreOffsets_0 k X0 X1 X2 c n) v
noncomputable def fiAreOffsets_0 {R : Type} (k : Nat) (K : Ex → St → Option R) (c : CiAreOffsets_0) (n : Nat) (v : ViAreOffsets_0) : Option R := lpr E k 75 Tryz.f75 0 [0, 2, 12, 13, 14] n (StiAreOffsets_0 c v) K
theorem qiAreOffsets_0 {R : Type} (k : Nat) (K : Ex → St → Option R) (X0 X1 X2 c) (h : QL (fiAreOffsets_0 k K c) (BiAreOffsets_0 k X0 X1 X2 c)) (v) : LiAreOffsets_0 k X0 X1 X2 c k v = fiAreOffsets_0 k K c k v := loop_q h (fun _ => rfl) (fun _ _ => rfl) (fun _ => rfl) k v
noncomputable def NiAreOffsets : Ex → St → Option (Bool) := finish E (rs 75) Tryz.f75
theorem eiAreOffsets (k : Nat) (a0 : TProgram) (a1 : List Int) : FiAreOffsets (k + 1) a0 a1 = if ((a1.length : Int) != a0.1) = true then some false else LiAreOffsets_0 k (fun v0 x1 p2 p3 => some false) (fun v0 x1 p2 => some false) (fun v0 => some true) (a1, (a1.length : Int), a0) k 0 := by
 simp (maxSteps := 9999999) (disch := (refine QL.mk fun n0 v => ?_; kernel_rfl)) only [↓qiAreOffsets_0 (R := Bool) k (kon0 E k 75 Tryz.f75 0 NiAreOffsets)]
 kernel_rfl
noncomputable def FiIsLaw (k : Nat) (a0 : List Int) (a1 : TProgram) : Option (Bool) := den E k 73 [.agg [.l 3 (.i .i64) a0], .agg (avs sProgram a1)]
abbrev CiIsLaw_0 : Type := (List Int) × Int × (List Int) × TProgram
abbrev ViIsLaw_0 : Type := Int
def StiIsLaw_0 (c0 : CiIsLaw_0) (v0 : ViIsLaw_0) : St := ⟨40, 2, [(2, cP 0), (3, cP 1), (8, .c (.l 3 (.i .i64) c0.1)), (9, cI c0.2.1), (10, cI v0)], [(0, .var [.l 3 (.i .i64) c0.2.2.1]), (1, .var (avs sProgram c0.2.2.2))]⟩
noncomputable def BiIsLaw_0 {R : Type} (k : Nat) (X0 : ViIsLaw_0 → Int → Int → Option R) (X1 : ViIsLaw_0 → Int → Option R) (X2 : ViIsLaw_0 → Int → Option R) (X3 : ViIsLaw_0 → Option R) (c0 : CiIsLaw_0) (rec : ViIsLaw_0 → Option R) (v0 : ViIsLaw_0) : Option R := if (decide (v0 < c0.2.1)) = true then if 0 ≤ v0 then ix c0.1 v0.toNat fun x1 => if ((decide (x1 < c0.2.2.2.2.1)) == false) = true then if ((decide (x1 ≥ c0.2.2.2.1)) == false) = true then if ((decide (v0 > 0)) == true) = true then if 0 ≤ (IntKind.i64.wrap (v0 - 1)) then ix c0.2.2.1 ((IntKind.i64.wrap (v0 - 1)).toNat) fun x2 => if (decide (x1 ≤ x2)) = true then X0 v0 x1 x2 else rec (IntKind.i64.wrap (v0 + 1)) else none else rec (IntKind.i64.wrap (v0 + 1)) else X1 v0 x1 else X2 v0 x1 else none else X3 v0
noncomputable def LiIsLaw_0 {R : Type} (k : Nat) (X0 : ViIsLaw_0 → Int → Int → Option R) (X1 : ViIsLaw_0 → Int → Option R) (X2 : ViIsLaw_0 → Int → Option R) (X3 : ViIsLaw_0 → Option R) (c : CiIsLaw_0) : Nat → ViIsLaw_0 → Option R
 | 0, _ => none
 | n + 1, v => BiIsLaw_0 k X0 X1 X2 X3 c (LiIsLaw_0 k X0 X1 X2 X3 c n) v
noncomputable def fiIsLaw_0 {R : Type} (k : Nat) (K : Ex → St → Option R) (c : CiIsLaw_0) (n : Nat) (v : ViIsLaw_0) : Option R := lpr E k 73 Tryz.f73 0 [0, 2, 3, 8, 9, 10] n (StiIsLaw_0 c v) K
theorem qiIsLaw_0 {R : Type} (k : Nat) (K : Ex → St → Option R) (X0 X1 X2 X3 c) (h : QL (fiIsLaw_0 k K c) (BiIsLaw_0 k X0 X1 X2 X3 c)) (v) : LiIsLaw_0 k X0 X1 X2 X3 c k v = fiIsLaw_0 k K c k v := loop_q h (fun _ => rfl) (fun _ _ => rfl) (fun _ => rfl) k v
noncomputable def NiIsLaw : Ex → St → Option (Bool) := finish E (rs 73) Tryz.f73
theorem eiIsLaw (k : Nat) (a0 : List Int) (a1 : TProgram) : FiIsLaw (k + 1) a0 a1 = LiIsLaw_0 k (fun v0 x1 x2 => some false) (fun v0 x1 => some false) (fun v0 x1 => some false) (fun v0 => some true) (a0, (a0.length : Int), a0, a1) k 0 := by
 simp (maxSteps := 9999999) (disch := (refine QL.mk fun n0 v => ?_; kernel_rfl)) only [↓qiIsLaw_0 (R := Bool) k (kon0 E k 73 Tryz.f73 0 NiIsLaw)]
 kernel_rfl
noncomputable def FgEqual_int (k : Nat) (a0 : List Int) (a1 : List Int) : Option (Bool) := den E k 256 [.c (.l 3 (.i .i64) a0), .c (.l 3 (.i .i64) a1)]
abbrev CgEqual_int_0 : Type := (List Int) × (List Int) × Int
abbrev VgEqual_int_0 : Type := Int
def StgEqual_int_0 (c0 : CgEqual_int_0) (v0 : VgEqual_int_0) : St := ⟨26, 0, [(0, .c (.l 3 (.i .i64) c0.1)), (1, .c (.l 3 (.i .i64) c0.2.1)), (12, cI c0.2.2), (13, cI v0)], []⟩
noncomputable def BgEqual_int_0 {R : Type} (k : Nat) (X0 : VgEqual_int_0 → Int → Int → Option R) (X1 : VgEqual_int_0 → Option R) (c0 : CgEqual_int_0) (rec : VgEqual_int_0 → Option R) (v0 : VgEqual_int_0) : Option R := if (decide (v0 < c0.2.2)) = true then if 0 ≤ v0 then ix c0.1 v0.toNat fun x1 => if 0 ≤ v0 then ix c0.2.1 v0.toNat fun x2 => if (x1 != x2) = true then X0 v0 x1 x2 else rec (IntKind.i64.wrap (v0 + 1)) else none else none else X1 v0
noncomputable def LgEqual_int_0 {R : Type} (k : Nat) (X0 : VgEqual_int_0 → Int → Int → Option R) (X1 : VgEqual_int_0 → Option R) (c : CgEqual_int_0) : Nat → VgEqual_int_0 → Option R
 | 0, _ => none
 | n + 1, v => BgEqual_int_0 k X0 X1 c (LgEqual_int_0 k X0 X1 c n) v
noncomputable def fgEqual_int_0 {R : Type} (k : Nat) (K : Ex → St → Option R) (c : CgEqual_int_0) (n : Nat) (v : VgEqual_int_0) : Option R := lpr E k 256 Tryz.f256 0 [0, 0, 1, 12, 13] n (StgEqual_int_0 c v) K
theorem qgEqual_int_0 {R : Type} (k : Nat) (K : Ex → St → Option R) (X0 X1 c) (h : QL (fgEqual_int_0 k K c) (BgEqual_int_0 k X0 X1 c)) (v) : LgEqual_int_0 k X0 X1 c k v = fgEqual_int_0 k K c k v := loop_q h (fun _ => rfl) (fun _ _ => rfl) (fun _ => rfl) k v
noncomputable def NgEqual_int : Ex → St → Option (Bool) := finish E (rs 256) Tryz.f256
theorem egEqual_int (k : Nat) (a0 : List Int) (a1 : List Int) : FgEqual_int (k + 1) a0 a1 = if ((a0.length : Int) != (a1.length : Int)) = true then some false else LgEqual_int_0 k (fun v0 x1 x2 => some false) (fun v0 => some true) (a0, a1, (a0.length : Int)) k 0 := by
 simp (maxSteps := 9999999) (disch := (refine QL.mk fun n0 v => ?_; kernel_rfl)) only [↓qgEqual_int_0 (R := Bool) k (kon0 E k 256 Tryz.f256 0 NgEqual_int)]
 kernel_rfl
noncomputable def FiEqualTables (k : Nat) (a0 : Int × (List Int) × List Int) (a1 : Int × (List Int) × List Int) : Option (Bool) := den E k 175 [.agg (avs sTable a0), .agg (avs sTable a1)]
theorem eiEqualTables (k : Nat) (a0 : Int × (List Int) × List Int) (a1 : Int × (List Int) × List Int) : FiEqualTables (k + 1) a0 a1 = if ((a0.1 == a1.1) == true) = true then (FgEqual_int k a0.2.1 a1.2.1).bind fun p1 => if (p1 == true) = true then (FgEqual_int k a0.2.2 a1.2.2).bind fun p2 => some p2 else some false else some false := by kernel_rfl
noncomputable def FgEqualFunc_Tablev_iEqualTables (k : Nat) (a0 : List (Int × (List Int) × List Int)) (a1 : List (Int × (List Int) × List Int)) : Option (Bool) := den E k 173 [.c (.l 220 sTable a0), .c (.l 220 sTable a1), .c (.v (.func (.func 175) #[] #[]))]
abbrev CgEqualFunc_Tablev_iEqualTables_0 : Type := (List (Int × (List Int) × List Int)) × (List (Int × (List Int) × List Int)) × Int
abbrev VgEqualFunc_Tablev_iEqualTables_0 : Type := Int
def StgEqualFunc_Tablev_iEqualTables_0 (c0 : CgEqualFunc_Tablev_iEqualTables_0) (v0 : VgEqualFunc_Tablev_iEqualTables_0) : St := ⟨32, 0, [(1, .c (.l 220 sTable c0.1)), (2, .c (.v (.func (.func 175) #[] #[]))), (15, .c (.l 220 sTable c0.2.1)), (16, cI c0.2.2), (17, cI v0)], []⟩
noncomputable def BgEqualFunc_Tablev_iEqualTables_0 {R : Type} (k : Nat) (X0 : VgEqualFunc_Tablev_iEqualTables_0 → (Int × (List Int) × List Int) → (Int × (List Int) × List Int) → Bool → Option R) (X1 : VgEqualFunc_Tablev_iEqualTables_0 → Option R) (c0 : CgEqualFunc_Tablev_iEqualTables_0) (rec : VgEqualFunc_Tablev_iEqualTables_0 → Option R) (v0 : VgEqualFunc_Tablev_iEqualTables_0) : Option R := if (decide (v0 < c0.2.2)) = true then if 0 ≤ v0 then ix c0.2.1 v0.toNat fun x1 => if 0 ≤ v0 then ix c0.1 v0.toNat fun x2 => (FiEqualTables k x1 x2).bind fun p3 => if (!p3) = true then X0 v0 x1 x2 p3 else rec (IntKind.i64.wrap (v0 + 1)) else none else none else X1 v0
noncomputable def LgEqualFunc_Tablev_iEqualTables_0 {R : Type} (k : Nat) (X0 : VgEqualFunc_Tablev_iEqualTables_0 → (Int × (List Int) × List Int) → (Int × (List Int) × List Int) → Bool → Option R) (X1 : VgEqualFunc_Tablev_iEqualTables_0 → Option R) (c : CgEqualFunc_Tablev_iEqualTables_0) : Nat → VgEqualFunc_Tablev_iEqualTables_0 → Option R
 | 0, _ => none
 | n + 1, v => BgEqualFunc_Tablev_iEqualTables_0 k X0 X1 c (LgEqualFunc_Tablev_iEqualTables_0 k X0 X1 c n) v
noncomputable def fgEqualFunc_Tablev_iEqualTables_0 {R : Type} (k : Nat) (K : Ex → St → Option R) (c : CgEqualFunc_Tablev_iEqualTables_0) (n : Nat) (v : VgEqualFunc_Tablev_iEqualTables_0) : Option R := lpr E k 173 Tryz.f173 0 [0, 1, 2, 15, 16, 17] n (StgEqualFunc_Tablev_iEqualTables_0 c v) K
theorem qgEqualFunc_Tablev_iEqualTables_0 {R : Type} (k : Nat) (K : Ex → St → Option R) (X0 X1 c) (h : QL (fgEqualFunc_Tablev_iEqualTables_0 k K c) (BgEqualFunc_Tablev_iEqualTables_0 k X0 X1 c)) (v) : LgEqualFunc_Tablev_iEqualTables_0 k X0 X1 c k v = fgEqualFunc_Tablev_iEqualTables_0 k K c k v := loop_q h (fun _ => rfl) (fun _ _ => rfl) (fun _ => rfl) k v
noncomputable def NgEqualFunc_Tablev_iEqualTables : Ex → St → Option (Bool) := finish E (rs 173) Tryz.f173
theorem egEqualFunc_Tablev_iEqualTables (k : Nat) (a0 : List (Int × (List Int) × List Int)) (a1 : List (Int × (List Int) × List Int)) : FgEqualFunc_Tablev_iEqualTables (k + 1) a0 a1 = if ((a0.length : Int) != (a1.length : Int)) = true then some false else LgEqualFunc_Tablev_iEqualTables_0 k (fun v0 x1 x2 p3 => some false) (fun v0 => some true) (a1, a0, (a0.length : Int)) k 0 := by
 simp (maxSteps := 9999999) (disch := (refine QL.mk fun n0 v => ?_; kernel_rfl)) only [↓qgEqualFunc_Tablev_iEqualTables_0 (R := Bool) k (kon0 E k 173 Tryz.f173 0 NgEqualFunc_Tablev_iEqualTables)]
 kernel_rfl
noncomputable def FiIsSpan (k : Nat) (a0 : I2) : Option (Bool) := den E k 172 [.agg [vI a0.1, vI a0.2]]
theorem eiIsSpan (k : Nat) (a0 : I2) : FiIsSpan (k + 1) a0 = if ((decide (a0.1 ≥ 0)) == true) = true then if ((decide (a0.2 ≤ 1000)) == true) = true then some (decide (a0.1 < a0.2)) else some false else some false := by kernel_rfl
noncomputable def FiisNumber (k : Nat) (a0 : Int) : Option (Bool) := den E k 254 [cI a0]
theorem eiisNumber (k : Nat) (a0 : Int) : FiisNumber (k + 1) a0 = (FiInRange k a0 1 12).bind fun p1 => some p1 := by kernel_rfl
noncomputable def FiisFrame (k : Nat) (a0 : Int) (a1 : Int) (a2 : Int) : Option (Bool) := den E k 171 [cI a0, cI a1, cI a2]
theorem eiisFrame (k : Nat) (a0 : Int) (a1 : Int) (a2 : Int) : FiisFrame (k + 1) a0 a1 a2 = (FiisNumber k a0).bind fun p1 => if (p1 == true) = true then (FiInRange k a1 0 a0).bind fun p2 => if (p2 == true) = true then (FiInRange k a2 0 5).bind fun p3 => some p3 else some false else some false := by kernel_rfl
noncomputable def FgCompact_int (k : Nat) (a0 : List Int) : Option (List Int) := den E k 386 [.c (.l 3 (.i .i64) a0)]
theorem egCompact_int (k : Nat) (a0 : List Int) : FgCompact_int (k + 1) a0 = some (compactB a0) := by kernel_rfl
noncomputable def FgSort_int (k : Nat) (a0 : List Int) : Option (List Int) := den E k 185 [.c (.l 3 (.i .i64) a0)]
theorem egSort_int (k : Nat) (a0 : List Int) : FgSort_int (k + 1) a0 = if a0.length ≤ 1099511627776 then some (sortB a0) else none := by kernel_rfl
noncomputable def FiNeighborsIn (k : Nat) (a0 : List I2) (a1 : Int) : Option (List Int) := den E k 348 [.c (.l 348 sI2 a0), cI a1]
abbrev CiNeighborsIn_0 : Type := Int × (List I2) × Int
abbrev ViNeighborsIn_0 : Type := Int × (List Int)
def StiNeighborsIn_0 (c0 : CiNeighborsIn_0) (v0 : ViNeighborsIn_0) : St := ⟨38, 1, [(1, cI c0.1), (5, .c (.ref 0)), (9, .c (.l 348 sI2 c0.2.1)), (10, cI c0.2.2), (11, cI v0.1)], [(0, .arr 3 (.i .i64) v0.2)]⟩
noncomputable def BiNeighborsIn_0 {R : Type} (k : Nat) (X0 : ViNeighborsIn_0 → Option R) (c0 : CiNeighborsIn_0) (rec : ViNeighborsIn_0 → Option R) (v0 : ViNeighborsIn_0) : Option R := if (decide (v0.1 < c0.2.2)) = true then if 0 ≤ v0.1 then ix c0.2.1 v0.1.toNat fun x1 => if (x1.1 == c0.1) = true then if (v0.2.length + ([x1.2]).length) * 8 ≤ 140737488355328 then if (x1.2 == c0.1) = true then if ((v0.2 ++ [x1.2]).length + ([x1.1]).length) * 8 ≤ 140737488355328 then rec ((IntKind.i64.wrap (v0.1 + 1)), ((v0.2 ++ [x1.2]) ++ [x1.1])) else none else rec ((IntKind.i64.wrap (v0.1 + 1)), (v0.2 ++ [x1.2])) else none else if (x1.2 == c0.1) = true then if (v0.2.length + ([x1.1]).length) * 8 ≤ 140737488355328 then rec ((IntKind.i64.wrap (v0.1 + 1)), (v0.2 ++ [x1.1])) else none else rec ((IntKind.i64.wrap (v0.1 + 1)), v0.2) else none else X0 v0
noncomputable def LiNeighborsIn_0 {R : Type} (k : Nat) (X0 : ViNeighborsIn_0 → Option R) (c : CiNeighborsIn_0) : Nat → ViNeighborsIn_0 → Option R
 | 0, _ => none
 | n + 1, v => BiNeighborsIn_0 k X0 c (LiNeighborsIn_0 k X0 c n) v
noncomputable def fiNeighborsIn_0 {R : Type} (k : Nat) (K : Ex → St → Option R) (c : CiNeighborsIn_0) (n : Nat) (v : ViNeighborsIn_0) : Option R := lpr E k 348 Tryz.f348 0 [0, 1, 5, 9, 10, 11] n (StiNeighborsIn_0 c v) K
theorem qiNeighborsIn_0 {R : Type} (k : Nat) (K : Ex → St → Option R) (X0 c) (h : QL (fiNeighborsIn_0 k K c) (BiNeighborsIn_0 k X0 c)) (v) : LiNeighborsIn_0 k X0 c k v = fiNeighborsIn_0 k K c k v := loop_q h (fun _ => rfl) (fun _ _ => rfl) (fun _ => rfl) k v
noncomputable def NiNeighborsIn : Ex → St → Option (List Int) := finish E (rs 348) Tryz.f348
theorem eiNeighborsIn (k : Nat) (a0 : List I2) (a1 : Int) : FiNeighborsIn (k + 1) a0 a1 = LiNeighborsIn_0 k (fun v0 => (FgSort_int k v0.2).bind fun p2 => (FgCompact_int k p2).bind fun p3 => some p3) (a1, a0, (a0.length : Int)) k (0, []) := by
 simp (maxSteps := 9999999) (disch := (refine QL.mk fun n0 v => ?_; kernel_rfl)) only [↓qiNeighborsIn_0 (R := List Int) k (kon0 E k 348 Tryz.f348 0 NiNeighborsIn)]
 kernel_rfl
noncomputable def FiisIndex (k : Nat) (a0 : Int) (a1 : Int) : Option (Bool) := den E k 95 [cI a0, cI a1]
theorem eiisIndex (k : Nat) (a0 : Int) (a1 : Int) : FiisIndex (k + 1) a0 a1 = if ((decide (a0 ≥ 0)) == true) = true then some (decide (a0 < a1)) else some false := by kernel_rfl
noncomputable def FiDistancesTo (k : Nat) (a0 : List I2) (a1 : Int) (a2 : Int) (a3 : Int) : Option (List Int) := den E k 318 [.c (.l 348 sI2 a0), cI a1, cI a2, cI a3]
abbrev CiDistancesTo_2 : Type := (List I2) × Int × Int × Int × Int × Int × Int × Int × (List Int)
abbrev ViDistancesTo_2 : Type := Int × (List Int) × (List Int)
def StiDistancesTo_2 (c2 : CiDistancesTo_2) (v2 : ViDistancesTo_2) : St := ⟨85, 3, [(0, .c (.l 348 sI2 c2.1)), (1, cI c2.2.1), (2, cI c2.2.2.1), (3, cI c2.2.2.2.1), (9, .c (.ref 0)), (10, .c (.ref 1)), (11, cI c2.2.2.2.2.1), (25, cI c2.2.2.2.2.2.1), (26, cI c2.2.2.2.2.2.2.1), (55, .c (.ref 2)), (56, cI c2.2.2.2.2.2.2.2.1), (57, cI v2.1)], [(0, .arr 3 (.i .i64) v2.2.1), (1, .arr 3 (.i .i64) v2.2.2), (2, .arr 3 (.i .i64) c2.2.2.2.2.2.2.2.2)]⟩
noncomputable def BiDistancesTo_2 {R : Type} (k : Nat) (X0 : ViDistancesTo_2 → Option R) (c2 : CiDistancesTo_2) (rec : ViDistancesTo_2 → Option R) (v2 : ViDistancesTo_2) : Option R := if (decide (v2.1 < c2.2.2.2.2.2.2.2.1)) = true then if 0 ≤ v2.1 then if v2.1 < (c2.2.2.2.2.2.2.2.2.length : Int) then ix c2.2.2.2.2.2.2.2.2 v2.1.toNat fun x6 => (FiisIndex k x6 c2.2.1).bind fun p7 => if (p7 == true) = true then if 0 ≤ x6 then if x6 < (v2.2.1.length : Int) then ix v2.2.1 x6.toNat fun x8 => if (decide (x8 < 0)) = true then if 0 ≤ c2.2.2.2.2.1 then if c2.2.2.2.2.1 < (v2.2.1.length : Int) then ix v2.2.1 c2.2.2.2.2.1.toNat fun x9 => if 0 ≤ x6 then if x6 < (v2.2.1.length : Int) then ix v2.2.1 x6.toNat fun y10 => if (v2.2.2.length + ([x6]).length) * 8 ≤ 140737488355328 then rec ((IntKind.i64.wrap (v2.1 + 1)), (v2.2.1.set x6.toNat (IntKind.i64.wrap (x9 + 1))), (v2.2.2 ++ [x6])) else none else none else none else none else none else rec ((IntKind.i64.wrap (v2.1 + 1)), v2.2.1, v2.2.2) else none else none else rec ((IntKind.i64.wrap (v2.1 + 1)), v2.2.1, v2.2.2) else none else none else X0 v2
noncomputable def LiDistancesTo_2 {R : Type} (k : Nat) (X0 : ViDistancesTo_2 → Option R) (c : CiDistancesTo_2) : Nat → ViDistancesTo_2 → Option R
 | 0, _ => none
 | n + 1, v => BiDistancesTo_2 k X0 c (LiDistancesTo_2 k X0 c n) v
noncomputable def fiDistancesTo_2 {R : Type} (k : Nat) (K : Ex → St → Option R) (c : CiDistancesTo_2) (n : Nat) (v : ViDistancesTo_2) : Option R := lpr E k 318 Tryz.f318 2 [0, 0, 1, 2, 3, 9, 10, 11, 25, 26, 55, 56, 57] n (StiDistancesTo_2 c v) K
theorem qiDistancesTo_2 {R : Type} (k : Nat) (K : Ex → St → Option R) (X0 c) (h : QL (fiDistancesTo_2 k K c) (BiDistancesTo_2 k X0 c)) (v) : LiDistancesTo_2 k X0 c k v = fiDistancesTo_2 k K c k v := loop_q h (fun _ => rfl) (fun _ _ => rfl) (fun _ => rfl) k v
abbrev CiDistancesTo_1 : Type := (List I2) × Int × Int × Int × Int × Int
abbrev ViDistancesTo_1 : Type := (List Int) × (List Int)
def StiDistancesTo_1 (c1 : CiDistancesTo_1) (v1 : ViDistancesTo_1) : St := ⟨85, 2, [(0, .c (.l 348 sI2 c1.1)), (1, cI c1.2.1), (2, cI c1.2.2.1), (3, cI c1.2.2.2.1), (9, .c (.ref 0)), (10, .c (.ref 1)), (25, cI c1.2.2.2.2.1), (26, cI c1.2.2.2.2.2)], [(0, .arr 3 (.i .i64) v1.1), (1, .arr 3 (.i .i64) v1.2)]⟩
noncomputable def BiDistancesTo_1 {R : Type} (k : Nat) (X0 : ViDistancesTo_1 → Option R) (c1 : CiDistancesTo_1) (rec : ViDistancesTo_1 → Option R) (v1 : ViDistancesTo_1) : Option R := if (decide ((v1.2.length : Int) > 0)) = true then if 0 < (v1.2.length : Int) then ix v1.2 ((0 : Int).toNat) fun x4 => if ((x4 != c1.2.2.2.1) == true) = true then if (decide (x4 ≥ c1.2.2.1)) = true then if 1 ≤ (v1.2.length : Int) then if (v1.2.length : Int) ≤ (v1.2.length : Int) then rec (v1.1, ((v1.2.take ((v1.2.length : Int).toNat)).drop ((1 : Int).toNat))) else none else none else (FiNeighborsIn k c1.1 x4).bind fun p5 => LiDistancesTo_2 k (fun v2 => if 1 ≤ (v2.2.2.length : Int) then if (v2.2.2.length : Int) ≤ (v2.2.2.length : Int) then rec (v2.2.1, ((v2.2.2.take ((v2.2.2.length : Int).toNat)).drop ((1 : Int).toNat))) else none else none) (c1.1, c1.2.1, c1.2.2.1, c1.2.2.2.1, x4, c1.2.2.2.2.1, c1.2.2.2.2.2, (p5.length : Int), p5) k (0, v1.1, v1.2) else (FiNeighborsIn k c1.1 x4).bind fun p11 => LiDistancesTo_2 k (fun v2 => if 1 ≤ (v2.2.2.length : Int) then if (v2.2.2.length : Int) ≤ (v2.2.2.length : Int) then rec (v2.2.1, ((v2.2.2.take ((v2.2.2.length : Int).toNat)).drop ((1 : Int).toNat))) else none else none) (c1.1, c1.2.1, c1.2.2.1, c1.2.2.2.1, x4, c1.2.2.2.2.1, c1.2.2.2.2.2, (p11.length : Int), p11) k (0, v1.1, v1.2) else none else X0 v1
noncomputable def LiDistancesTo_1 {R : Type} (k : Nat) (X0 : ViDistancesTo_1 → Option R) (c : CiDistancesTo_1) : Nat → ViDistancesTo_1 → Option R
 | 0, _ => none
 | n + 1, v => BiDistancesTo_1 k X0 c (LiDistancesTo_1 k X0 c n) v
noncomputable def fiDistancesTo_1 {R : Type} (k : Nat) (K : Ex → St → Option R) (c : CiDistancesTo_1) (n : Nat) (v : ViDistancesTo_1) : Option R := lpr E k 318 Tryz.f318 1 [0, 0, 1, 2, 3, 9, 10, 25, 26] n (StiDistancesTo_1 c v) K
theorem qiDistancesTo_1 {R : Type} (k : Nat) (K : Ex → St → Option R) (X0 c) (h : QL (fiDistancesTo_1 k K c) (BiDistancesTo_1 k X0 c)) (v) : LiDistancesTo_1 k X0 c k v = fiDistancesTo_1 k K c k v := loop_q h (fun _ => rfl) (fun _ _ => rfl) (fun _ => rfl) k v
abbrev CiDistancesTo_0 : Type := (List I2) × Int × Int × Int × Int
abbrev ViDistancesTo_0 : Type := Int × (List Int)
def StiDistancesTo_0 (c0 : CiDistancesTo_0) (v0 : ViDistancesTo_0) : St := ⟨85, 1, [(0, .c (.l 348 sI2 c0.1)), (1, cI c0.2.1), (2, cI c0.2.2.1), (3, cI c0.2.2.2.1), (9, .c (.ref 0)), (25, cI c0.2.2.2.2), (26, cI v0.1)], [(0, .arr 3 (.i .i64) v0.2)]⟩
noncomputable def BiDistancesTo_0 {R : Type} (k : Nat) (X0 : ViDistancesTo_0 → Option R) (c0 : CiDistancesTo_0) (rec : ViDistancesTo_0 → Option R) (v0 : ViDistancesTo_0) : Option R := if (decide (v0.1 < c0.2.2.2.2)) = true then if (v0.2.length + ([-1]).length) * 8 ≤ 140737488355328 then rec ((IntKind.i64.wrap (v0.1 + 1)), (v0.2 ++ [-1])) else none else X0 v0
noncomputable def LiDistancesTo_0 {R : Type} (k : Nat) (X0 : ViDistancesTo_0 → Option R) (c : CiDistancesTo_0) : Nat → ViDistancesTo_0 → Option R
 | 0, _ => none
 | n + 1, v => BiDistancesTo_0 k X0 c (LiDistancesTo_0 k X0 c n) v
noncomputable def fiDistancesTo_0 {R : Type} (k : Nat) (K : Ex → St → Option R) (c : CiDistancesTo_0) (n : Nat) (v : ViDistancesTo_0) : Option R := lpr E k 318 Tryz.f318 0 [0, 0, 1, 2, 3, 9, 25, 26] n (StiDistancesTo_0 c v) K
theorem qiDistancesTo_0 {R : Type} (k : Nat) (K : Ex → St → Option R) (X0 c) (h : QL (fiDistancesTo_0 k K c) (BiDistancesTo_0 k X0 c)) (v) : LiDistancesTo_0 k X0 c k v = fiDistancesTo_0 k K c k v := loop_q h (fun _ => rfl) (fun _ _ => rfl) (fun _ => rfl) k v
noncomputable def NiDistancesTo : Ex → St → Option (List Int) := finish E (rs 318) Tryz.f318
theorem eiDistancesTo (k : Nat) (a0 : List I2) (a1 : Int) (a2 : Int) (a3 : Int) : FiDistancesTo (k + 1) a0 a1 a2 a3 = (FiisNumber k a1).bind fun p1 => if ((!p1) == false) = true then (FiisIndex k a3 a1).bind fun p2 => if (!p2) = true then some ([]) else LiDistancesTo_0 k (fun v0 => if 0 ≤ a3 then if a3 < (v0.2.length : Int) then ix v0.2 a3.toNat fun y3 => LiDistancesTo_1 k (fun v1 => some v1.1) (a0, a1, a2, a3, a1, v0.1) k ((v0.2.set a3.toNat 0), [a3]) else none else none) (a0, a1, a2, a3, a1) k (0, []) else some ([]) := by
 simp (maxSteps := 9999999) (disch := (refine QL.mk fun n0 v => ?_; unfold BiDistancesTo_0; simp (maxSteps := 9999999) (disch := (refine QL.mk fun n1 v => ?_; unfold BiDistancesTo_1; simp (maxSteps := 9999999) (disch := (refine QL.mk fun n2 v => ?_; kernel_rfl)) only [↓qiDistancesTo_2 (R := List Int) k (kon1 E k 318 Tryz.f318 1 1 n1 [0, 0, 1, 2, 3, 9, 10, 25, 26] (kon0 E k 318 Tryz.f318 1 NiDistancesTo))]; kernel_rfl)) only [↓qiDistancesTo_1 (R := List Int) k (kon0 E k 318 Tryz.f318 1 NiDistancesTo)]; kernel_rfl)) only [↓qiDistancesTo_0 (R := List Int) k (kon0 E k 318 Tryz.f318 0 NiDistancesTo)]
 kernel_rfl
noncomputable def FiNextTo (k : Nat) (a0 : List I2) (a1 : Int) (a2 : Int) (a3 : Int) : Option (List Int) := den E k 319 [.c (.l 348 sI2 a0), cI a1, cI a2, cI a3]
abbrev CiNextTo_1 : Type := (List I2) × Int × Int × Int × Int × Int × Int × Int × (List Int) × (List Int) × (List Int)
abbrev ViNextTo_1 : Type := Int × Int
def StiNextTo_1 (c1 : CiNextTo_1) (v1 : ViNextTo_1) : St := ⟨75, 3, [(0, .c (.l 348 sI2 c1.1)), (1, cI c1.2.1), (2, cI c1.2.2.1), (3, cI c1.2.2.2.1), (9, .c (.ref 0)), (10, .c (.ref 1)), (12, cI c1.2.2.2.2.1), (13, cI v1.1), (22, .c (.ref 1)), (23, cI c1.2.2.2.2.2.1), (24, cI c1.2.2.2.2.2.2.1), (31, .c (.ref 2)), (32, cI c1.2.2.2.2.2.2.2.1), (33, cI v1.2)], [(0, .arr 3 (.i .i64) c1.2.2.2.2.2.2.2.2.1), (1, .arr 3 (.i .i64) c1.2.2.2.2.2.2.2.2.2.1), (2, .arr 3 (.i .i64) c1.2.2.2.2.2.2.2.2.2.2)]⟩
noncomputable def BiNextTo_1 {R : Type} (k : Nat) (X0 : ViNextTo_1 → Option R) (c1 : CiNextTo_1) (rec : ViNextTo_1 → Option R) (v1 : ViNextTo_1) : Option R := if (decide (v1.2 < c1.2.2.2.2.2.2.2.1)) = true then if 0 ≤ v1.2 then if v1.2 < (c1.2.2.2.2.2.2.2.2.2.2.length : Int) then ix c1.2.2.2.2.2.2.2.2.2.2 v1.2.toNat fun x4 => if ((decide (v1.1 < 0)) == true) = true then if ((decide (c1.2.2.2.2.1 > 0)) == true) = true then (FiisIndex k x4 c1.2.1).bind fun p5 => if (p5 == true) = true then if ((decide (x4 < c1.2.2.1)) == false) = true then if ((x4 == c1.2.2.2.1) == true) = true then if 0 ≤ x4 then if x4 < (c1.2.2.2.2.2.2.2.2.2.1.length : Int) then ix c1.2.2.2.2.2.2.2.2.2.1 x4.toNat fun x6 => if (x6 == (IntKind.i64.wrap (c1.2.2.2.2.1 - 1))) = true then rec (x4, (IntKind.i64.wrap (v1.2 + 1))) else rec (v1.1, (IntKind.i64.wrap (v1.2 + 1))) else none else none else rec (v1.1, (IntKind.i64.wrap (v1.2 + 1))) else if 0 ≤ x4 then if x4 < (c1.2.2.2.2.2.2.2.2.2.1.length : Int) then ix c1.2.2.2.2.2.2.2.2.2.1 x4.toNat fun x7 => if (x7 == (IntKind.i64.wrap (c1.2.2.2.2.1 - 1))) = true then rec (x4, (IntKind.i64.wrap (v1.2 + 1))) else rec (v1.1, (IntKind.i64.wrap (v1.2 + 1))) else none else none else rec (v1.1, (IntKind.i64.wrap (v1.2 + 1))) else rec (v1.1, (IntKind.i64.wrap (v1.2 + 1))) else rec (v1.1, (IntKind.i64.wrap (v1.2 + 1))) else none else none else X0 v1
noncomputable def LiNextTo_1 {R : Type} (k : Nat) (X0 : ViNextTo_1 → Option R) (c : CiNextTo_1) : Nat → ViNextTo_1 → Option R
 | 0, _ => none
 | n + 1, v => BiNextTo_1 k X0 c (LiNextTo_1 k X0 c n) v
noncomputable def fiNextTo_1 {R : Type} (k : Nat) (K : Ex → St → Option R) (c : CiNextTo_1) (n : Nat) (v : ViNextTo_1) : Option R := lpr E k 319 Tryz.f319 1 [0, 0, 1, 2, 3, 9, 10, 12, 13, 22, 23, 24, 31, 32, 33] n (StiNextTo_1 c v) K
theorem qiNextTo_1 {R : Type} (k : Nat) (K : Ex → St → Option R) (X0 c) (h : QL (fiNextTo_1 k K c) (BiNextTo_1 k X0 c)) (v) : LiNextTo_1 k X0 c k v = fiNextTo_1 k K c k v := loop_q h (fun _ => rfl) (fun _ _ => rfl) (fun _ => rfl) k v
abbrev CiNextTo_0 : Type := (List I2) × Int × Int × Int × Int × (List Int)
abbrev ViNextTo_0 : Type := Int × (List Int)
def StiNextTo_0 (c0 : CiNextTo_0) (v0 : ViNextTo_0) : St := ⟨75, 2, [(0, .c (.l 348 sI2 c0.1)), (1, cI c0.2.1), (2, cI c0.2.2.1), (3, cI c0.2.2.2.1), (9, .c (.ref 0)), (10, .c (.ref 1)), (22, .c (.ref 1)), (23, cI c0.2.2.2.2.1), (24, cI v0.1)], [(0, .arr 3 (.i .i64) v0.2), (1, .arr 3 (.i .i64) c0.2.2.2.2.2)]⟩
noncomputable def BiNextTo_0 {R : Type} (k : Nat) (X0 : ViNextTo_0 → Option R) (c0 : CiNextTo_0) (rec : ViNextTo_0 → Option R) (v0 : ViNextTo_0) : Option R := if (decide (v0.1 < c0.2.2.2.2.1)) = true then if 0 ≤ v0.1 then if v0.1 < (c0.2.2.2.2.2.length : Int) then ix c0.2.2.2.2.2 v0.1.toNat fun x2 => (FiNeighborsIn k c0.1 v0.1).bind fun p3 => LiNextTo_1 k (fun v1 => if (v0.2.length + ([v1.1]).length) * 8 ≤ 140737488355328 then rec ((IntKind.i64.wrap (v0.1 + 1)), (v0.2 ++ [v1.1])) else none) (c0.1, c0.2.1, c0.2.2.1, c0.2.2.2.1, x2, c0.2.2.2.2.1, v0.1, (p3.length : Int), v0.2, c0.2.2.2.2.2, p3) k (-1, 0) else none else none else X0 v0
noncomputable def LiNextTo_0 {R : Type} (k : Nat) (X0 : ViNextTo_0 → Option R) (c : CiNextTo_0) : Nat → ViNextTo_0 → Option R
 | 0, _ => none
 | n + 1, v => BiNextTo_0 k X0 c (LiNextTo_0 k X0 c n) v
noncomputable def fiNextTo_0 {R : Type} (k : Nat) (K : Ex → St → Option R) (c : CiNextTo_0) (n : Nat) (v : ViNextTo_0) : Option R := lpr E k 319 Tryz.f319 0 [0, 0, 1, 2, 3, 9, 10, 22, 23, 24] n (StiNextTo_0 c v) K
theorem qiNextTo_0 {R : Type} (k : Nat) (K : Ex → St → Option R) (X0 c) (h : QL (fiNextTo_0 k K c) (BiNextTo_0 k X0 c)) (v) : LiNextTo_0 k X0 c k v = fiNextTo_0 k K c k v := loop_q h (fun _ => rfl) (fun _ _ => rfl) (fun _ => rfl) k v
noncomputable def NiNextTo : Ex → St → Option (List Int) := finish E (rs 319) Tryz.f319
theorem eiNextTo (k : Nat) (a0 : List I2) (a1 : Int) (a2 : Int) (a3 : Int) : FiNextTo (k + 1) a0 a1 a2 a3 = (FiDistancesTo k a0 a1 a2 a3).bind fun p1 => LiNextTo_0 k (fun v0 => some v0.2) (a0, a1, a2, a3, (p1.length : Int), p1) k (0, []) := by
 simp (maxSteps := 9999999) (disch := (refine QL.mk fun n0 v => ?_; unfold BiNextTo_0; simp (maxSteps := 9999999) (disch := (refine QL.mk fun n1 v => ?_; kernel_rfl)) only [↓qiNextTo_1 (R := List Int) k (kon1 E k 319 Tryz.f319 0 1 n0 [0, 0, 1, 2, 3, 9, 10, 22, 23, 24] (kon0 E k 319 Tryz.f319 0 NiNextTo))]; kernel_rfl)) only [↓qiNextTo_0 (R := List Int) k (kon0 E k 319 Tryz.f319 0 NiNextTo)]
 kernel_rfl
noncomputable def FiTableOf (k : Nat) (a0 : List I2) (a1 : Int) (a2 : Int) (a3 : Int) : Option (Int × (List Int) × List Int) := den E k 255 [.c (.l 348 sI2 a0), cI a1, cI a2, cI a3]
theorem eiTableOf (k : Nat) (a0 : List I2) (a1 : Int) (a2 : Int) (a3 : Int) : FiTableOf (k + 1) a0 a1 a2 a3 = (FiDistancesTo k a0 a1 a2 a3).bind fun p1 => (FiNextTo k a0 a1 a2 a3).bind fun p2 => some (a3, p1, p2) := by kernel_rfl
noncomputable def FitablesOf (k : Nat) (a0 : List I2) (a1 : Int) (a2 : Int) : Option (List (Int × (List Int) × List Int)) := den E k 174 [.c (.l 348 sI2 a0), cI a1, cI a2]
abbrev CitablesOf_0 : Type := (List I2) × Int × Int × Int
abbrev VitablesOf_0 : Type := Int × (List (Int × (List Int) × List Int))
def StitablesOf_0 (c0 : CitablesOf_0) (v0 : VitablesOf_0) : St := ⟨24, 1, [(0, .c (.l 348 sI2 c0.1)), (1, cI c0.2.1), (2, cI c0.2.2.1), (7, .c (.ref 0)), (10, cI c0.2.2.2), (11, cI v0.1)], [(0, .arr 220 sTable v0.2)]⟩
noncomputable def BitablesOf_0 {R : Type} (k : Nat) (X0 : VitablesOf_0 → Option R) (c0 : CitablesOf_0) (rec : VitablesOf_0 → Option R) (v0 : VitablesOf_0) : Option R := if (decide (v0.1 < c0.2.2.2)) = true then (FiTableOf k c0.1 c0.2.1 c0.2.2.1 v0.1).bind fun p1 => if (v0.2.length + ([p1]).length) * 56 ≤ 140737488355328 then rec ((IntKind.i64.wrap (v0.1 + 1)), (v0.2 ++ [p1])) else none else X0 v0
noncomputable def LitablesOf_0 {R : Type} (k : Nat) (X0 : VitablesOf_0 → Option R) (c : CitablesOf_0) : Nat → VitablesOf_0 → Option R
 | 0, _ => none
 | n + 1, v => BitablesOf_0 k X0 c (LitablesOf_0 k X0 c n) v
noncomputable def fitablesOf_0 {R : Type} (k : Nat) (K : Ex → St → Option R) (c : CitablesOf_0) (n : Nat) (v : VitablesOf_0) : Option R := lpr E k 174 Tryz.f174 0 [0, 0, 1, 2, 7, 10, 11] n (StitablesOf_0 c v) K
theorem qitablesOf_0 {R : Type} (k : Nat) (K : Ex → St → Option R) (X0 c) (h : QL (fitablesOf_0 k K c) (BitablesOf_0 k X0 c)) (v) : LitablesOf_0 k X0 c k v = fitablesOf_0 k K c k v := loop_q h (fun _ => rfl) (fun _ _ => rfl) (fun _ => rfl) k v
noncomputable def NitablesOf : Ex → St → Option (List (Int × (List Int) × List Int)) := finish E (rs 174) Tryz.f174
theorem eitablesOf (k : Nat) (a0 : List I2) (a1 : Int) (a2 : Int) : FitablesOf (k + 1) a0 a1 a2 = LitablesOf_0 k (fun v0 => some v0.2) (a0, a1, a2, a1) k (0, []) := by
 simp (maxSteps := 9999999) (disch := (refine QL.mk fun n0 v => ?_; kernel_rfl)) only [↓qitablesOf_0 (R := List (Int × (List Int) × List Int)) k (kon0 E k 174 Tryz.f174 0 NitablesOf)]
 kernel_rfl
noncomputable def FiIsProgram (k : Nat) (a0 : TProgram) : Option (Bool) := den E k 72 [.agg (avs sProgram a0)]
abbrev CiIsProgram_0 : Type := (List TPiece) × Int × TProgram
abbrev ViIsProgram_0 : Type := Int
def StiIsProgram_0 (c0 : CiIsProgram_0) (v0 : ViIsProgram_0) : St := ⟨64, 1, [(1, cP 0), (21, .c (.l 198 sPiece c0.1)), (22, cI c0.2.1), (23, cI v0)], [(0, .var (avs sProgram c0.2.2))]⟩
noncomputable def BiIsProgram_0 {R : Type} (k : Nat) (X0 : ViIsProgram_0 → TPiece → Bool → TPiece → (List (Int × (List Int) × List Int)) → Bool → Option R) (X1 : ViIsProgram_0 → TPiece → Bool → TPiece → Option R) (X2 : ViIsProgram_0 → TPiece → Bool → (List (Int × (List Int) × List Int)) → Bool → Option R) (X3 : ViIsProgram_0 → TPiece → Bool → Option R) (X4 : ViIsProgram_0 → Option R) (c0 : CiIsProgram_0) (rec : ViIsProgram_0 → Option R) (v0 : ViIsProgram_0) : Option R := if (decide (v0 < c0.2.1)) = true then if 0 ≤ v0 then ix c0.1 v0.toNat fun x3 => (FiIsSpan k x3.1).bind fun p4 => if ((!p4) == false) = true then if ((decide (v0 > 0)) == true) = true then if 0 ≤ (IntKind.i64.wrap (v0 - 1)) then ix c0.2.2.2.2.2 ((IntKind.i64.wrap (v0 - 1)).toNat) fun x5 => if ((x3.1.1 != x5.1.2) == false) = true then (FitablesOf k x3.2.1 c0.2.2.1 c0.2.2.2.1).bind fun p6 => (FgEqualFunc_Tablev_iEqualTables k x3.2.2 p6).bind fun p7 => if (!p7) = true then X0 v0 x3 p4 x5 p6 p7 else rec (IntKind.i64.wrap (v0 + 1)) else X1 v0 x3 p4 x5 else none else (FitablesOf k x3.2.1 c0.2.2.1 c0.2.2.2.1).bind fun p8 => (FgEqualFunc_Tablev_iEqualTables k x3.2.2 p8).bind fun p9 => if (!p9) = true then X2 v0 x3 p4 p8 p9 else rec (IntKind.i64.wrap (v0 + 1)) else X3 v0 x3 p4 else none else X4 v0
noncomputable def LiIsProgram_0 {R : Type} (k : Nat) (X0 : ViIsProgram_0 → TPiece → Bool → TPiece → (List (Int × (List Int) × List Int)) → Bool → Option R) (X1 : ViIsProgram_0 → TPiece → Bool → TPiece → Option R) (X2 : ViIsProgram_0 → TPiece → Bool → (List (Int × (List Int) × List Int)) → Bool → Option R) (X3 : ViIsProgram_0 → TPiece → Bool → Option R) (X4 : ViIsProgram_0 → Option R) (c : CiIsProgram_0) : Nat → ViIsProgram_0 → Option R
 | 0, _ => none
 | n + 1, v => BiIsProgram_0 k X0 X1 X2 X3 X4 c (LiIsProgram_0 k X0 X1 X2 X3 X4 c n) v
noncomputable def fiIsProgram_0 {R : Type} (k : Nat) (K : Ex → St → Option R) (c : CiIsProgram_0) (n : Nat) (v : ViIsProgram_0) : Option R := lpr E k 72 Tryz.f72 0 [0, 1, 21, 22, 23] n (StiIsProgram_0 c v) K
theorem qiIsProgram_0 {R : Type} (k : Nat) (K : Ex → St → Option R) (X0 X1 X2 X3 X4 c) (h : QL (fiIsProgram_0 k K c) (BiIsProgram_0 k X0 X1 X2 X3 X4 c)) (v) : LiIsProgram_0 k X0 X1 X2 X3 X4 c k v = fiIsProgram_0 k K c k v := loop_q h (fun _ => rfl) (fun _ _ => rfl) (fun _ => rfl) k v
noncomputable def NiIsProgram : Ex → St → Option (Bool) := finish E (rs 72) Tryz.f72
theorem eiIsProgram (k : Nat) (a0 : TProgram) : FiIsProgram (k + 1) a0 = (FiisFrame k a0.1 a0.2.1 a0.2.2.1).bind fun p1 => if ((!p1) == false) = true then (FiInRange k (a0.2.2.2.length : Int) 1 40).bind fun p2 => if (!p2) = true then some false else LiIsProgram_0 k (fun v0 x3 p4 x5 p6 p7 => some false) (fun v0 x3 p4 x5 => some false) (fun v0 x3 p4 p8 p9 => some false) (fun v0 x3 p4 => some false) (fun v0 => some true) (a0.2.2.2, (a0.2.2.2.length : Int), a0) k 0 else some false := by
 simp (maxSteps := 9999999) (disch := (refine QL.mk fun n0 v => ?_; kernel_rfl)) only [↓qiIsProgram_0 (R := Bool) k (kon0 E k 72 Tryz.f72 0 NiIsProgram)]
 kernel_rfl
noncomputable def FiIsSat (k : Nat) (a0 : I4) (a1 : Int) : Option (Bool) := den E k 169 [.agg (avs sI4 a0), cI a1]
theorem eiIsSat (k : Nat) (a0 : I4) (a1 : Int) : FiIsSat (k + 1) a0 a1 = if ((decide (a0.1 ≥ 0)) == true) = true then if ((decide (a0.1 < a1)) == true) = true then (FiInRange k a0.2.1 0 359).bind fun p1 => if (p1 == true) = true then (FiInRange k a0.2.2.1 (-60) 60).bind fun p2 => if (p2 == true) = true then (FiInRange k a0.2.2.2 0 20).bind fun p3 => some p3 else some false else some false else some false else some false := by kernel_rfl
noncomputable def FiisWidth (k : Nat) (a0 : Int) : Option (Bool) := den E k 170 [cI a0]
theorem eiisWidth (k : Nat) (a0 : Int) : FiisWidth (k + 1) a0 = (FiInRange k a0 0 359).bind fun p1 => some p1 := by kernel_rfl
noncomputable def FiIsSky (k : Nat) (a0 : TSky) : Option (Bool) := den E k 71 [.agg (avs sSky a0)]
abbrev CiIsSky_3 : Type := (List I4) × Int × Int × (List I3) × Int × Int × (List I3) × Int × Int × Int × TSky × (List Int)
abbrev ViIsSky_3 : Type := Int
def StiIsSky_3 (c3 : CiIsSky_3) (v3 : ViIsSky_3) : St := ⟨122, 2, [(1, cP 0), (35, .c (.l 186 sI4 c3.1)), (36, cI c3.2.1), (37, cI c3.2.2.1), (48, .c (.l 188 sI3 c3.2.2.2.1)), (49, cI c3.2.2.2.2.1), (50, cI c3.2.2.2.2.2.1), (75, .c (.l 193 sZone c3.2.2.2.2.2.2.1)), (76, cI c3.2.2.2.2.2.2.2.1), (77, cI c3.2.2.2.2.2.2.2.2.1), (104, .c (.ref 1)), (105, cI c3.2.2.2.2.2.2.2.2.2.1), (106, cI v3)], [(0, .var (avs sSky c3.2.2.2.2.2.2.2.2.2.2.1)), (1, .arr 3 (.i .i64) c3.2.2.2.2.2.2.2.2.2.2.2)]⟩
noncomputable def BiIsSky_3 {R : Type} (k : Nat) (X0 : ViIsSky_3 → Int → Bool → Option R) (X1 : ViIsSky_3 → Option R) (c3 : CiIsSky_3) (rec : ViIsSky_3 → Option R) (v3 : ViIsSky_3) : Option R := if (decide (v3 < c3.2.2.2.2.2.2.2.2.2.1)) = true then if 0 ≤ v3 then if v3 < (c3.2.2.2.2.2.2.2.2.2.2.2.length : Int) then ix c3.2.2.2.2.2.2.2.2.2.2.2 v3.toNat fun x12 => (FiInRange k x12 0 180).bind fun p13 => if (!p13) = true then X0 v3 x12 p13 else rec (IntKind.i64.wrap (v3 + 1)) else none else none else X1 v3
noncomputable def LiIsSky_3 {R : Type} (k : Nat) (X0 : ViIsSky_3 → Int → Bool → Option R) (X1 : ViIsSky_3 → Option R) (c : CiIsSky_3) : Nat → ViIsSky_3 → Option R
 | 0, _ => none
 | n + 1, v => BiIsSky_3 k X0 X1 c (LiIsSky_3 k X0 X1 c n) v
noncomputable def fiIsSky_3 {R : Type} (k : Nat) (K : Ex → St → Option R) (c : CiIsSky_3) (n : Nat) (v : ViIsSky_3) : Option R := lpr E k 71 Tryz.f71 3 [0, 1, 35, 36, 37, 48, 49, 50, 75, 76, 77, 104, 105, 106] n (StiIsSky_3 c v) K
theorem qiIsSky_3 {R : Type} (k : Nat) (K : Ex → St → Option R) (X0 X1 c) (h : QL (fiIsSky_3 k K c) (BiIsSky_3 k X0 X1 c)) (v) : LiIsSky_3 k X0 X1 c k v = fiIsSky_3 k K c k v := loop_q h (fun _ => rfl) (fun _ _ => rfl) (fun _ => rfl) k v
abbrev CiIsSky_2 : Type := (List I4) × Int × Int × (List I3) × Int × Int × (List I3) × Int × TSky
abbrev ViIsSky_2 : Type := Int
def StiIsSky_2 (c2 : CiIsSky_2) (v2 : ViIsSky_2) : St := ⟨122, 1, [(1, cP 0), (35, .c (.l 186 sI4 c2.1)), (36, cI c2.2.1), (37, cI c2.2.2.1), (48, .c (.l 188 sI3 c2.2.2.2.1)), (49, cI c2.2.2.2.2.1), (50, cI c2.2.2.2.2.2.1), (75, .c (.l 193 sZone c2.2.2.2.2.2.2.1)), (76, cI c2.2.2.2.2.2.2.2.1), (77, cI v2)], [(0, .var (avs sSky c2.2.2.2.2.2.2.2.2))]⟩
noncomputable def BiIsSky_2 {R : Type} (k : Nat) (X0 : ViIsSky_2 → I3 → Bool → Bool → Option R) (X1 : ViIsSky_2 → I3 → Bool → Option R) (X2 : ViIsSky_2 → Option R) (c2 : CiIsSky_2) (rec : ViIsSky_2 → Option R) (v2 : ViIsSky_2) : Option R := if (decide (v2 < c2.2.2.2.2.2.2.2.1)) = true then if 0 ≤ v2 then ix c2.2.2.2.2.2.2.1 v2.toNat fun x9 => (FiInRange k x9.1 0 (IntKind.i64.wrap (c2.2.2.2.2.2.2.2.2.1 - 1))).bind fun p10 => if ((!p10) == false) = true then (FiisWidth k x9.2.2).bind fun p11 => if (!p11) = true then X0 v2 x9 p10 p11 else rec (IntKind.i64.wrap (v2 + 1)) else X1 v2 x9 p10 else none else X2 v2
noncomputable def LiIsSky_2 {R : Type} (k : Nat) (X0 : ViIsSky_2 → I3 → Bool → Bool → Option R) (X1 : ViIsSky_2 → I3 → Bool → Option R) (X2 : ViIsSky_2 → Option R) (c : CiIsSky_2) : Nat → ViIsSky_2 → Option R
 | 0, _ => none
 | n + 1, v => BiIsSky_2 k X0 X1 X2 c (LiIsSky_2 k X0 X1 X2 c n) v
noncomputable def fiIsSky_2 {R : Type} (k : Nat) (K : Ex → St → Option R) (c : CiIsSky_2) (n : Nat) (v : ViIsSky_2) : Option R := lpr E k 71 Tryz.f71 2 [0, 1, 35, 36, 37, 48, 49, 50, 75, 76, 77] n (StiIsSky_2 c v) K
theorem qiIsSky_2 {R : Type} (k : Nat) (K : Ex → St → Option R) (X0 X1 X2 c) (h : QL (fiIsSky_2 k K c) (BiIsSky_2 k X0 X1 X2 c)) (v) : LiIsSky_2 k X0 X1 X2 c k v = fiIsSky_2 k K c k v := loop_q h (fun _ => rfl) (fun _ _ => rfl) (fun _ => rfl) k v
abbrev CiIsSky_1 : Type := (List I4) × Int × Int × (List I3) × Int × TSky
abbrev ViIsSky_1 : Type := Int
def StiIsSky_1 (c1 : CiIsSky_1) (v1 : ViIsSky_1) : St := ⟨122, 1, [(1, cP 0), (35, .c (.l 186 sI4 c1.1)), (36, cI c1.2.1), (37, cI c1.2.2.1), (48, .c (.l 188 sI3 c1.2.2.2.1)), (49, cI c1.2.2.2.2.1), (50, cI v1)], [(0, .var (avs sSky c1.2.2.2.2.2))]⟩
noncomputable def BiIsSky_1 {R : Type} (k : Nat) (X0 : ViIsSky_1 → I3 → Bool → Bool → Bool → Option R) (X1 : ViIsSky_1 → I3 → Bool → Bool → Option R) (X2 : ViIsSky_1 → I3 → Bool → Option R) (X3 : ViIsSky_1 → Option R) (c1 : CiIsSky_1) (rec : ViIsSky_1 → Option R) (v1 : ViIsSky_1) : Option R := if (decide (v1 < c1.2.2.2.2.1)) = true then if 0 ≤ v1 then ix c1.2.2.2.1 v1.toNat fun x5 => (FiInRange k x5.1 0 (IntKind.i64.wrap (c1.2.2.2.2.2.1 - 1))).bind fun p6 => if ((!p6) == false) = true then (FiInRange k x5.2.1 0 359).bind fun p7 => if ((!p7) == false) = true then (FiInRange k x5.2.2 (-60) 60).bind fun p8 => if (!p8) = true then X0 v1 x5 p6 p7 p8 else rec (IntKind.i64.wrap (v1 + 1)) else X1 v1 x5 p6 p7 else X2 v1 x5 p6 else none else X3 v1
noncomputable def LiIsSky_1 {R : Type} (k : Nat) (X0 : ViIsSky_1 → I3 → Bool → Bool → Bool → Option R) (X1 : ViIsSky_1 → I3 → Bool → Bool → Option R) (X2 : ViIsSky_1 → I3 → Bool → Option R) (X3 : ViIsSky_1 → Option R) (c : CiIsSky_1) : Nat → ViIsSky_1 → Option R
 | 0, _ => none
 | n + 1, v => BiIsSky_1 k X0 X1 X2 X3 c (LiIsSky_1 k X0 X1 X2 X3 c n) v
noncomputable def fiIsSky_1 {R : Type} (k : Nat) (K : Ex → St → Option R) (c : CiIsSky_1) (n : Nat) (v : ViIsSky_1) : Option R := lpr E k 71 Tryz.f71 1 [0, 1, 35, 36, 37, 48, 49, 50] n (StiIsSky_1 c v) K
theorem qiIsSky_1 {R : Type} (k : Nat) (K : Ex → St → Option R) (X0 X1 X2 X3 c) (h : QL (fiIsSky_1 k K c) (BiIsSky_1 k X0 X1 X2 X3 c)) (v) : LiIsSky_1 k X0 X1 X2 X3 c k v = fiIsSky_1 k K c k v := loop_q h (fun _ => rfl) (fun _ _ => rfl) (fun _ => rfl) k v
abbrev CiIsSky_0 : Type := (List I4) × Int × TSky
abbrev ViIsSky_0 : Type := Int
def StiIsSky_0 (c0 : CiIsSky_0) (v0 : ViIsSky_0) : St := ⟨122, 1, [(1, cP 0), (35, .c (.l 186 sI4 c0.1)), (36, cI c0.2.1), (37, cI v0)], [(0, .var (avs sSky c0.2.2))]⟩
noncomputable def BiIsSky_0 {R : Type} (k : Nat) (X0 : ViIsSky_0 → I4 → Bool → Option R) (X1 : ViIsSky_0 → Option R) (c0 : CiIsSky_0) (rec : ViIsSky_0 → Option R) (v0 : ViIsSky_0) : Option R := if (decide (v0 < c0.2.1)) = true then if 0 ≤ v0 then ix c0.1 v0.toNat fun x3 => (FiIsSat k x3 c0.2.2.1).bind fun p4 => if (!p4) = true then X0 v0 x3 p4 else rec (IntKind.i64.wrap (v0 + 1)) else none else X1 v0
noncomputable def LiIsSky_0 {R : Type} (k : Nat) (X0 : ViIsSky_0 → I4 → Bool → Option R) (X1 : ViIsSky_0 → Option R) (c : CiIsSky_0) : Nat → ViIsSky_0 → Option R
 | 0, _ => none
 | n + 1, v => BiIsSky_0 k X0 X1 c (LiIsSky_0 k X0 X1 c n) v
noncomputable def fiIsSky_0 {R : Type} (k : Nat) (K : Ex → St → Option R) (c : CiIsSky_0) (n : Nat) (v : ViIsSky_0) : Option R := lpr E k 71 Tryz.f71 0 [0, 1, 35, 36, 37] n (StiIsSky_0 c v) K
theorem qiIsSky_0 {R : Type} (k : Nat) (K : Ex → St → Option R) (X0 X1 c) (h : QL (fiIsSky_0 k K c) (BiIsSky_0 k X0 X1 c)) (v) : LiIsSky_0 k X0 X1 c k v = fiIsSky_0 k K c k v := loop_q h (fun _ => rfl) (fun _ _ => rfl) (fun _ => rfl) k v
noncomputable def NiIsSky : Ex → St → Option (Bool) := finish E (rs 71) Tryz.f71
theorem eiIsSky (k : Nat) (a0 : TSky) : FiIsSky (k + 1) a0 = (FiInRange k a0.1 1 4).bind fun p1 => if ((!p1) == false) = true then (FiInRange k (a0.2.1.length : Int) 1 8).bind fun p2 => if ((!p2) == false) = true then if ((decide ((a0.2.2.1.length : Int) > 4)) == false) = true then if (decide ((a0.2.2.2.2.2.2.2.2.1.length : Int) > 4)) = true then some false else LiIsSky_0 k (fun v0 x3 p4 => some false) (fun v0 => LiIsSky_1 k (fun v1 x5 p6 p7 p8 => some false) (fun v1 x5 p6 p7 => some false) (fun v1 x5 p6 => some false) (fun v1 => LiIsSky_2 k (fun v2 x9 p10 p11 => some false) (fun v2 x9 p10 => some false) (fun v2 => LiIsSky_3 k (fun v3 x12 p13 => some false) (fun v3 => (FiInRange k a0.2.2.2.2.2.2.1 (-60) 60).bind fun p14 => if (p14 == true) = true then (FiInRange k a0.2.2.2.2.2.2.2.2.2 0 20).bind fun p15 => some p15 else some false) (a0.2.1, (a0.2.1.length : Int), v0, a0.2.2.1, (a0.2.2.1.length : Int), v1, a0.2.2.2.2.2.2.2.2.1, (a0.2.2.2.2.2.2.2.2.1.length : Int), v2, (([a0.2.2.2.1, a0.2.2.2.2.1, a0.2.2.2.2.2.1, a0.2.2.2.2.2.2.2.1]).length : Int), a0, [a0.2.2.2.1, a0.2.2.2.2.1, a0.2.2.2.2.2.1, a0.2.2.2.2.2.2.2.1]) k 0) (a0.2.1, (a0.2.1.length : Int), v0, a0.2.2.1, (a0.2.2.1.length : Int), v1, a0.2.2.2.2.2.2.2.2.1, (a0.2.2.2.2.2.2.2.2.1.length : Int), a0) k 0) (a0.2.1, (a0.2.1.length : Int), v0, a0.2.2.1, (a0.2.2.1.length : Int), a0) k 0) (a0.2.1, (a0.2.1.length : Int), a0) k 0 else some false else some false else some false := by
 simp (maxSteps := 9999999) (disch := (refine QL.mk fun n0 v => ?_; unfold BiIsSky_0; simp (maxSteps := 9999999) (disch := (refine QL.mk fun n1 v => ?_; unfold BiIsSky_1; simp (maxSteps := 9999999) (disch := (refine QL.mk fun n2 v => ?_; unfold BiIsSky_2; simp (maxSteps := 9999999) (disch := (refine QL.mk fun n3 v => ?_; kernel_rfl)) only [↓qiIsSky_3 (R := Bool) k (kon0 E k 71 Tryz.f71 3 NiIsSky)]; kernel_rfl)) only [↓qiIsSky_2 (R := Bool) k (kon0 E k 71 Tryz.f71 2 NiIsSky)]; kernel_rfl)) only [↓qiIsSky_1 (R := Bool) k (kon0 E k 71 Tryz.f71 1 NiIsSky)]; kernel_rfl)) only [↓qiIsSky_0 (R := Bool) k (kon0 E k 71 Tryz.f71 0 NiIsSky)]
 kernel_rfl
noncomputable def FiNodesOf (k : Nat) (a0 : TSky) : Option (Int) := den E k 74 [.agg (avs sSky a0)]
theorem eiNodesOf (k : Nat) (a0 : TSky) : FiNodesOf (k + 1) a0 = some (IntKind.i64.wrap ((a0.2.1.length : Int) + (a0.2.2.1.length : Int))) := by kernel_rfl
noncomputable def FiIsBattery (k : Nat) (a0 : I6) : Option (Bool) := den E k 176 [.agg (avs sI6 a0)]
theorem eiIsBattery (k : Nat) (a0 : I6) : FiIsBattery (k + 1) a0 = (FiInRange k a0.2.2.2.1 0 100).bind fun p1 => if (p1 == true) = true then (FiInRange k a0.2.2.2.2.1 0 100).bind fun p2 => if (p2 == true) = true then (FiInRange k a0.2.2.2.2.2 0 100).bind fun p3 => if (p3 == true) = true then (FiInRange k a0.2.1 0 10000).bind fun p4 => if (p4 == true) = true then (FiInRange k a0.2.2.1 0 a0.2.1).bind fun p5 => if (p5 == true) = true then (FiInRange k a0.1 a0.2.2.1 a0.2.1).bind fun p6 => some p6 else some false else some false else some false else some false else some false := by kernel_rfl
noncomputable def FiMod (k : Nat) (a0 : Int) (a1 : Int) : Option (Int) := den E k 412 [cI a0, cI a1]
theorem eiMod (k : Nat) (a0 : Int) (a1 : Int) : FiMod (k + 1) a0 a1 = (FiInRange k a1 1 1000000000000).bind fun p1 => if (!p1) = true then some 0 else if a1 = 0 then none else if (decide (((a0).tmod a1) < 0)) = true then some (IntKind.i64.wrap (((a0).tmod a1) + a1)) else some ((a0).tmod a1) := by kernel_rfl
noncomputable def FiAngleOf (k : Nat) (a0 : Int) : Option (Int) := den E k 396 [cI a0]
theorem eiAngleOf (k : Nat) (a0 : Int) : FiAngleOf (k + 1) a0 = (FiMod k a0 360).bind fun p1 => some p1 := by kernel_rfl
noncomputable def FiGapOf (k : Nat) (a0 : Int) (a1 : Int) : Option (Int) := den E k 364 [cI a0, cI a1]
theorem eiGapOf (k : Nat) (a0 : Int) (a1 : Int) : FiGapOf (k + 1) a0 a1 = (FiAngleOf k a0).bind fun p1 => (FiAngleOf k a1).bind fun p2 => (FiAngleOf k (IntKind.i64.wrap (p1 - p2))).bind fun p3 => some (mn p3 (IntKind.i64.wrap (360 - p3))) := by kernel_rfl
noncomputable def FiMiddleOf (k : Nat) (a0 : I2) : Option (Int) := den E k 365 [.agg [vI a0.1, vI a0.2]]
theorem eiMiddleOf (k : Nat) (a0 : I2) : FiMiddleOf (k + 1) a0 = (FiisWidth k a0.2).bind fun p1 => if (!p1) = true then (FiAngleOf k a0.1).bind fun p2 => some p2 else (FiAngleOf k a0.1).bind fun p3 => (FiAngleOf k (IntKind.i64.wrap (p3 + (IntKind.i64.wrap ((a0.2).tdiv 2))))).bind fun p4 => some p4 := by kernel_rfl
noncomputable def FiIsSite (k : Nat) (a0 : TSky) (a1 : Int) : Option (Bool) := den E k 179 [.agg (avs sSky a0), cI a1]
theorem eiIsSite (k : Nat) (a0 : TSky) (a1 : Int) : FiIsSite (k + 1) a0 a1 = (FiNodesOf k a0).bind fun p1 => (FiInRange k a1 (a0.2.1.length : Int) (IntKind.i64.wrap (p1 - 1))).bind fun p2 => some p2 := by kernel_rfl
noncomputable def FispeedOf (k : Nat) (a0 : I4) : Option (Int) := den E k 411 [.agg (avs sI4 a0)]
theorem eispeedOf (k : Nat) (a0 : I4) : FispeedOf (k + 1) a0 = (FiInRange k a0.2.2.1 (-60) 60).bind fun p1 => if (!p1) = true then some 0 else some a0.2.2.1 := by kernel_rfl
noncomputable def FiPlaceAt (k : Nat) (a0 : I4) (a1 : Int) : Option (Int) := den E k 395 [.agg (avs sI4 a0), cI a1]
theorem eiPlaceAt (k : Nat) (a0 : I4) (a1 : Int) : FiPlaceAt (k + 1) a0 a1 = (FiInRange k a1 0 1000).bind fun p1 => if (!p1) = true then (FiAngleOf k a0.2.1).bind fun p2 => (FispeedOf k a0).bind fun p3 => (FiAngleOf k (IntKind.i64.wrap (p2 + (IntKind.i64.wrap (p3 * 0))))).bind fun p4 => some p4 else (FiAngleOf k a0.2.1).bind fun p5 => (FispeedOf k a0).bind fun p6 => (FiAngleOf k (IntKind.i64.wrap (p5 + (IntKind.i64.wrap (p6 * a1))))).bind fun p7 => some p7 := by kernel_rfl
noncomputable def FiWidenArc (k : Nat) (a0 : I2) (a1 : Int) : Option I2 := den E k 410 [.agg [vI a0.1, vI a0.2], cI a1]
theorem eiWidenArc (k : Nat) (a0 : I2) (a1 : Int) : FiWidenArc (k + 1) a0 a1 = (FiAngleOf k a0.1).bind fun p1 => (FiInRange k a1 0 360).bind fun p2 => if ((!p2) == false) = true then (FiisWidth k a0.2).bind fun p3 => if (!p3) = true then some (p1, a0.2) else (FiAngleOf k (IntKind.i64.wrap (p1 - a1))).bind fun p4 => some (p4, (mn (IntKind.i64.wrap (a0.2 + (IntKind.i64.wrap (2 * a1)))) 359)) else some (p1, a0.2) := by kernel_rfl
noncomputable def FiPlacesAt (k : Nat) (a0 : I4) (a1 : Int) : Option I2 := den E k 394 [.agg (avs sI4 a0), cI a1]
theorem eiPlacesAt (k : Nat) (a0 : I4) (a1 : Int) : FiPlacesAt (k + 1) a0 a1 = (FiPlaceAt k a0 a1).bind fun p1 => (FiWidenArc k (p1, 0) a0.2.2.2).bind fun p2 => some p2 := by kernel_rfl
noncomputable def FiisSatellite (k : Nat) (a0 : TSky) (a1 : Int) : Option (Bool) := den E k 362 [.agg (avs sSky a0), cI a1]
theorem eiisSatellite (k : Nat) (a0 : TSky) (a1 : Int) : FiisSatellite (k + 1) a0 a1 = (FiInRange k a1 0 (IntKind.i64.wrap ((a0.2.1.length : Int) - 1))).bind fun p1 => some p1 := by kernel_rfl
noncomputable def FiNodeAt (k : Nat) (a0 : TSky) (a1 : Int) (a2 : Int) : Option I2 := den E k 363 [.agg (avs sSky a0), cI a1, cI a2]
theorem eiNodeAt (k : Nat) (a0 : TSky) (a1 : Int) (a2 : Int) : FiNodeAt (k + 1) a0 a1 a2 = (FiisSatellite k a0 a1).bind fun p1 => if p1 = true then if 0 ≤ a1 then ix a0.2.1 a1.toNat fun x2 => (FiPlacesAt k x2 a2).bind fun p3 => some p3 else none else (FiIsSite k a0 a1).bind fun p4 => if p4 = true then if 0 ≤ (IntKind.i64.wrap (a1 - (a0.2.1.length : Int))) then ix a0.2.2.1 ((IntKind.i64.wrap (a1 - (a0.2.1.length : Int))).toNat) fun x5 => (FiPlaceAt k (0, x5.2.1, x5.2.2, 0) a2).bind fun p6 => some (p6, 0) else none else some (0, 0) := by kernel_rfl
noncomputable def FiSunAt (k : Nat) (a0 : TSky) (a1 : Int) : Option (Int) := den E k 366 [.agg (avs sSky a0), cI a1]
theorem eiSunAt (k : Nat) (a0 : TSky) (a1 : Int) : FiSunAt (k + 1) a0 a1 = (FiPlaceAt k (0, 0, a0.2.2.2.2.2.2.1, 0) a1).bind fun p1 => some p1 := by kernel_rfl
noncomputable def FiShadowAt (k : Nat) (a0 : TSky) (a1 : Int) (a2 : Int) : Option (Int) := den E k 302 [.agg (avs sSky a0), cI a1, cI a2]
theorem eiShadowAt (k : Nat) (a0 : TSky) (a1 : Int) (a2 : Int) : FiShadowAt (k + 1) a0 a1 a2 = (FiisSatellite k a0 a1).bind fun p1 => if (!p1) = true then some 0 else (FiNodeAt k a0 a1 a2).bind fun p2 => (FiMiddleOf k p2).bind fun p3 => (FiSunAt k a0 a2).bind fun p4 => (FiGapOf k p3 (IntKind.i64.wrap (p4 + 180))).bind fun p5 => if (decide ((IntKind.i64.wrap (p5 - (IntKind.i64.wrap ((p2.2).tdiv 2)))) > a0.2.2.2.2.2.2.2.1)) = true then some 0 else if (decide ((IntKind.i64.wrap (p5 + (IntKind.i64.wrap ((p2.2).tdiv 2)))) ≤ a0.2.2.2.2.2.2.2.1)) = true then some 2 else some 1 := by kernel_rfl
noncomputable def FiLitSpans_1v (k : Nat) (a0 : Int) (a1 : Int) (a2 : List I4) (a3 : List I3) (a4 : Int) (a5 : Int) (a6 : Int) (a7 : Int) (a8 : Int) (a9 : List I3) (a10 : Int) (a11 : Int) : Option (Bool) := den E k 301 [cI a0, .c (.at_ [vI a1, .l 186 sI4 a2, .l 188 sI3 a3, vI a4, vI a5, vI a6, vI a7, vI a8, .l 193 sZone a9, vI a10]), .c (.at_ [vI a11])]
theorem eiLitSpans_1v (k : Nat) (a0 : Int) (a1 : Int) (a2 : List I4) (a3 : List I3) (a4 : Int) (a5 : Int) (a6 : Int) (a7 : Int) (a8 : Int) (a9 : List I3) (a10 : Int) (a11 : Int) : FiLitSpans_1v (k + 1) a0 a1 a2 a3 a4 a5 a6 a7 a8 a9 a10 a11 = (FiShadowAt k (a1, a2, a3, a4, a5, a6, a7, a8, a9, a10) a11 a0).bind fun p1 => some (p1 == 0) := by kernel_rfl
noncomputable def FispansWherev_iLitSpans_1 (k : Nat) (a0 : Int) (a1 : Int) (a2 : Int) (a3 : List I4) (a4 : List I3) (a5 : Int) (a6 : Int) (a7 : Int) (a8 : Int) (a9 : Int) (a10 : List I3) (a11 : Int) (a12 : Int) : Option (List I2) := den E k 300 [cI a0, cI a1, .c (.clo 301 [.at_ [vI a2, .l 186 sI4 a3, .l 188 sI3 a4, vI a5, vI a6, vI a7, vI a8, vI a9, .l 193 sZone a10, vI a11], .at_ [vI a12]])]
abbrev CispansWherev_iLitSpans_1_0 : Type := Int × Int × (List I4) × (List I3) × Int × Int × Int × Int × Int × (List I3) × Int × Int
abbrev VispansWherev_iLitSpans_1_0 : Type := Int × (List I2)
def StispansWherev_iLitSpans_1_0 (c0 : CispansWherev_iLitSpans_1_0) (v0 : VispansWherev_iLitSpans_1_0) : St := ⟨53, 1, [(1, cI c0.1), (2, .c (.clo 301 [.at_ [vI c0.2.1, .l 186 sI4 c0.2.2.1, .l 188 sI3 c0.2.2.2.1, vI c0.2.2.2.2.1, vI c0.2.2.2.2.2.1, vI c0.2.2.2.2.2.2.1, vI c0.2.2.2.2.2.2.2.1, vI c0.2.2.2.2.2.2.2.2.1, .l 193 sZone c0.2.2.2.2.2.2.2.2.2.1, vI c0.2.2.2.2.2.2.2.2.2.2.1], .at_ [vI c0.2.2.2.2.2.2.2.2.2.2.2]])), (7, .c (.ref 0)), (8, cI v0.1)], [(0, .arr 183 sI2 v0.2)]⟩
noncomputable def BispansWherev_iLitSpans_1_0 {R : Type} (k : Nat) (X0 : VispansWherev_iLitSpans_1_0 → Option R) (c0 : CispansWherev_iLitSpans_1_0) (rec : VispansWherev_iLitSpans_1_0 → Option R) (v0 : VispansWherev_iLitSpans_1_0) : Option R := if (decide (v0.1 < (mn c0.1 1000))) = true then (FiLitSpans_1v k v0.1 c0.2.1 c0.2.2.1 c0.2.2.2.1 c0.2.2.2.2.1 c0.2.2.2.2.2.1 c0.2.2.2.2.2.2.1 c0.2.2.2.2.2.2.2.1 c0.2.2.2.2.2.2.2.2.1 c0.2.2.2.2.2.2.2.2.2.1 c0.2.2.2.2.2.2.2.2.2.2.1 c0.2.2.2.2.2.2.2.2.2.2.2).bind fun p1 => if (!p1) = true then rec ((IntKind.i64.wrap (v0.1 + 1)), v0.2) else if ((decide ((IntKind.i64.wrap ((v0.2.length : Int) - 1)) ≥ 0)) == true) = true then if 0 ≤ (IntKind.i64.wrap ((v0.2.length : Int) - 1)) then if (IntKind.i64.wrap ((v0.2.length : Int) - 1)) < (v0.2.length : Int) then ix v0.2 ((IntKind.i64.wrap ((v0.2.length : Int) - 1)).toNat) fun x2 => if (x2.2 == v0.1) = true then if 0 ≤ (IntKind.i64.wrap ((v0.2.length : Int) - 1)) then if (IntKind.i64.wrap ((v0.2.length : Int) - 1)) < (v0.2.length : Int) then ix v0.2 ((IntKind.i64.wrap ((v0.2.length : Int) - 1)).toNat) fun x3 => if 0 ≤ (IntKind.i64.wrap ((v0.2.length : Int) - 1)) then if (IntKind.i64.wrap ((v0.2.length : Int) - 1)) < (v0.2.length : Int) then ix v0.2 ((IntKind.i64.wrap ((v0.2.length : Int) - 1)).toNat) fun y4 => rec ((IntKind.i64.wrap (v0.1 + 1)), (v0.2.set ((IntKind.i64.wrap ((v0.2.length : Int) - 1)).toNat) (y4.1, (IntKind.i64.wrap (x3.2 + 1))))) else none else none else none else none else if (v0.2.length + ([(v0.1, (IntKind.i64.wrap (v0.1 + 1)))]).length) * 16 ≤ 140737488355328 then rec ((IntKind.i64.wrap (v0.1 + 1)), (v0.2 ++ [(v0.1, (IntKind.i64.wrap (v0.1 + 1)))])) else none else none else none else if (v0.2.length + ([(v0.1, (IntKind.i64.wrap (v0.1 + 1)))]).length) * 16 ≤ 140737488355328 then rec ((IntKind.i64.wrap (v0.1 + 1)), (v0.2 ++ [(v0.1, (IntKind.i64.wrap (v0.1 + 1)))])) else none else X0 v0
noncomputable def LispansWherev_iLitSpans_1_0 {R : Type} (k : Nat) (X0 : VispansWherev_iLitSpans_1_0 → Option R) (c : CispansWherev_iLitSpans_1_0) : Nat → VispansWherev_iLitSpans_1_0 → Option R
 | 0, _ => none
 | n + 1, v => BispansWherev_iLitSpans_1_0 k X0 c (LispansWherev_iLitSpans_1_0 k X0 c n) v
noncomputable def fispansWherev_iLitSpans_1_0 {R : Type} (k : Nat) (K : Ex → St → Option R) (c : CispansWherev_iLitSpans_1_0) (n : Nat) (v : VispansWherev_iLitSpans_1_0) : Option R := lpr E k 300 Tryz.f300 0 [0, 1, 2, 7, 8] n (StispansWherev_iLitSpans_1_0 c v) K
theorem qispansWherev_iLitSpans_1_0 {R : Type} (k : Nat) (K : Ex → St → Option R) (X0 c) (h : QL (fispansWherev_iLitSpans_1_0 k K c) (BispansWherev_iLitSpans_1_0 k X0 c)) (v) : LispansWherev_iLitSpans_1_0 k X0 c k v = fispansWherev_iLitSpans_1_0 k K c k v := loop_q h (fun _ => rfl) (fun _ _ => rfl) (fun _ => rfl) k v
noncomputable def NispansWherev_iLitSpans_1 : Ex → St → Option (List I2) := finish E (rs 300) Tryz.f300
theorem eispansWherev_iLitSpans_1 (k : Nat) (a0 : Int) (a1 : Int) (a2 : Int) (a3 : List I4) (a4 : List I3) (a5 : Int) (a6 : Int) (a7 : Int) (a8 : Int) (a9 : Int) (a10 : List I3) (a11 : Int) (a12 : Int) : FispansWherev_iLitSpans_1 (k + 1) a0 a1 a2 a3 a4 a5 a6 a7 a8 a9 a10 a11 a12 = LispansWherev_iLitSpans_1_0 k (fun v0 => some v0.2) (a1, a2, a3, a4, a5, a6, a7, a8, a9, a10, a11, a12) k ((mx a0 0), []) := by
 simp (maxSteps := 9999999) (disch := (refine QL.mk fun n0 v => ?_; kernel_rfl)) only [↓qispansWherev_iLitSpans_1_0 (R := List I2) k (kon0 E k 300 Tryz.f300 0 NispansWherev_iLitSpans_1)]
 kernel_rfl
noncomputable def FiLitSpans (k : Nat) (a0 : TSky) (a1 : Int) (a2 : Int) (a3 : Int) : Option (List I2) := den E k 237 [.agg (avs sSky a0), cI a1, cI a2, cI a3]
theorem eiLitSpans (k : Nat) (a0 : TSky) (a1 : Int) (a2 : Int) (a3 : Int) : FiLitSpans (k + 1) a0 a1 a2 a3 = (FispansWherev_iLitSpans_1 k a2 a3 a0.1 a0.2.1 a0.2.2.1 a0.2.2.2.1 a0.2.2.2.2.1 a0.2.2.2.2.2.1 a0.2.2.2.2.2.2.1 a0.2.2.2.2.2.2.2.1 a0.2.2.2.2.2.2.2.2.1 a0.2.2.2.2.2.2.2.2.2 a1).bind fun p1 => some p1 := by kernel_rfl
noncomputable def FiLitOf (k : Nat) (a0 : TWorld) (a1 : Int) : Option (List I2) := den E k 119 [.agg (avs sWorld a0), cI a1]
theorem eiLitOf (k : Nat) (a0 : TWorld) (a1 : Int) : FiLitOf (k + 1) a0 a1 = (FiLitSpans k a0.1 a1 0 a0.2.2.2.2.2.2.2.2.2.2.2.1).bind fun p1 => some p1 := by kernel_rfl
noncomputable def Fiticks (k : Nat) (a0 : List I2) : Option (List Bool) := den E k 375 [.c (.l 183 sI2 a0)]
abbrev Citicks_1 : Type := (List I2) × Int × Int × I2
abbrev Viticks_1 : Type := Int × (List Bool)
def Stiticks_1 (c1 : Citicks_1) (v1 : Viticks_1) : St := ⟨29, 2, [(3, .c (.ref 0)), (5, cP 1), (6, cI v1.1), (8, .c (.l 183 sI2 c1.1)), (9, cI c1.2.1), (10, cI c1.2.2.1)], [(0, .arr 4 .b v1.2), (1, .var [vI c1.2.2.2.1, vI c1.2.2.2.2])]⟩
noncomputable def Biticks_1 {R : Type} (k : Nat) (X0 : Viticks_1 → Option R) (c1 : Citicks_1) (rec : Viticks_1 → Option R) (v1 : Viticks_1) : Option R := if (decide (v1.1 < c1.2.2.2.2)) = true then if 0 ≤ v1.1 then if v1.1 < (v1.2.length : Int) then ix v1.2 v1.1.toNat fun y3 => rec ((IntKind.i64.wrap (v1.1 + 1)), (v1.2.set v1.1.toNat true)) else none else none else X0 v1
noncomputable def Liticks_1 {R : Type} (k : Nat) (X0 : Viticks_1 → Option R) (c : Citicks_1) : Nat → Viticks_1 → Option R
 | 0, _ => none
 | n + 1, v => Biticks_1 k X0 c (Liticks_1 k X0 c n) v
noncomputable def fiticks_1 {R : Type} (k : Nat) (K : Ex → St → Option R) (c : Citicks_1) (n : Nat) (v : Viticks_1) : Option R := lpr E k 375 Tryz.f375 1 [0, 3, 5, 6, 8, 9, 10] n (Stiticks_1 c v) K
theorem qiticks_1 {R : Type} (k : Nat) (K : Ex → St → Option R) (X0 c) (h : QL (fiticks_1 k K c) (Biticks_1 k X0 c)) (v) : Liticks_1 k X0 c k v = fiticks_1 k K c k v := loop_q h (fun _ => rfl) (fun _ _ => rfl) (fun _ => rfl) k v
abbrev Citicks_0 : Type := (List I2) × Int
abbrev Viticks_0 : Type := Int × (List Bool)
def Stiticks_0 (c0 : Citicks_0) (v0 : Viticks_0) : St := ⟨29, 1, [(3, .c (.ref 0)), (8, .c (.l 183 sI2 c0.1)), (9, cI c0.2), (10, cI v0.1)], [(0, .arr 4 .b v0.2)]⟩
noncomputable def Biticks_0 {R : Type} (k : Nat) (X0 : Viticks_0 → Option R) (c0 : Citicks_0) (rec : Viticks_0 → Option R) (v0 : Viticks_0) : Option R := if (decide (v0.1 < c0.2)) = true then if 0 ≤ v0.1 then ix c0.1 v0.1.toNat fun x1 => (FiIsSpan k x1).bind fun p2 => if p2 = true then Liticks_1 k (fun v1 => rec ((IntKind.i64.wrap (v0.1 + 1)), v1.2)) (c0.1, c0.2, v0.1, x1) k (x1.1, v0.2) else rec ((IntKind.i64.wrap (v0.1 + 1)), v0.2) else none else X0 v0
noncomputable def Liticks_0 {R : Type} (k : Nat) (X0 : Viticks_0 → Option R) (c : Citicks_0) : Nat → Viticks_0 → Option R
 | 0, _ => none
 | n + 1, v => Biticks_0 k X0 c (Liticks_0 k X0 c n) v
noncomputable def fiticks_0 {R : Type} (k : Nat) (K : Ex → St → Option R) (c : Citicks_0) (n : Nat) (v : Viticks_0) : Option R := lpr E k 375 Tryz.f375 0 [0, 3, 8, 9, 10] n (Stiticks_0 c v) K
theorem qiticks_0 {R : Type} (k : Nat) (K : Ex → St → Option R) (X0 c) (h : QL (fiticks_0 k K c) (Biticks_0 k X0 c)) (v) : Liticks_0 k X0 c k v = fiticks_0 k K c k v := loop_q h (fun _ => rfl) (fun _ _ => rfl) (fun _ => rfl) k v
noncomputable def Niticks : Ex → St → Option (List Bool) := finish E (rs 375) Tryz.f375
theorem eiticks (k : Nat) (a0 : List I2) : Fiticks (k + 1) a0 = Liticks_0 k (fun v0 => some v0.2) (a0, (a0.length : Int)) k (0, (List.replicate (1000 : Int).toNat (false : Bool))) := by
 simp (maxSteps := 9999999) (disch := (refine QL.mk fun n0 v => ?_; unfold Biticks_0; simp (maxSteps := 9999999) (disch := (refine QL.mk fun n1 v => ?_; kernel_rfl)) only [↓qiticks_1 (R := List Bool) k (kon1 E k 375 Tryz.f375 0 1 n0 [0, 3, 8, 9, 10] (kon0 E k 375 Tryz.f375 0 Niticks))]; kernel_rfl)) only [↓qiticks_0 (R := List Bool) k (kon0 E k 375 Tryz.f375 0 Niticks)]
 kernel_rfl
noncomputable def Fineeds (k : Nat) (a0 : I6) (a1 : List I2) (a2 : Int) (a3 : Int) : Option (List Int) := den E k 320 [.agg (avs sI6 a0), .c (.l 183 sI2 a1), cI a2, cI a3]
abbrev Cineeds_0 : Type := Int × (List Bool) × I6
abbrev Vineeds_0 : Type := Int × (List Int)
def Stineeds_0 (c0 : Cineeds_0) (v0 : Vineeds_0) : St := ⟨77, 2, [(2, cI c0.1), (4, cP 0), (9, .c (.l 4 .b c0.2.1)), (10, .c (.ref 1)), (11, cI v0.1)], [(0, .var (avs sI6 c0.2.2)), (1, .arr 3 (.i .i64) v0.2)]⟩
noncomputable def Bineeds_0 {R : Type} (k : Nat) (X0 : Vineeds_0 → Option R) (c0 : Cineeds_0) (rec : Vineeds_0 → Option R) (v0 : Vineeds_0) : Option R := if (decide (v0.1 ≥ c0.1)) = true then if 0 ≤ (IntKind.i64.wrap ((IntKind.i64.wrap (v0.1 - c0.1)) + 1)) then if (IntKind.i64.wrap ((IntKind.i64.wrap (v0.1 - c0.1)) + 1)) < (v0.2.length : Int) then ix v0.2 ((IntKind.i64.wrap ((IntKind.i64.wrap (v0.1 - c0.1)) + 1)).toNat) fun x4 => if 0 ≤ v0.1 then ix c0.2.1 v0.1.toNat fun x5 => if x5 = true then if 0 ≤ (IntKind.i64.wrap (v0.1 - c0.1)) then if (IntKind.i64.wrap (v0.1 - c0.1)) < (v0.2.length : Int) then ix v0.2 ((IntKind.i64.wrap (v0.1 - c0.1)).toNat) fun y6 => rec ((IntKind.i64.wrap (v0.1 - 1)), (v0.2.set ((IntKind.i64.wrap (v0.1 - c0.1)).toNat) (mx 0 (IntKind.i64.wrap ((IntKind.i64.wrap (x4 + c0.2.2.2.2.2.1)) - c0.2.2.2.2.2.2.2))))) else none else none else if 0 ≤ (IntKind.i64.wrap (v0.1 - c0.1)) then if (IntKind.i64.wrap (v0.1 - c0.1)) < (v0.2.length : Int) then ix v0.2 ((IntKind.i64.wrap (v0.1 - c0.1)).toNat) fun y7 => rec ((IntKind.i64.wrap (v0.1 - 1)), (v0.2.set ((IntKind.i64.wrap (v0.1 - c0.1)).toNat) (mx 0 (IntKind.i64.wrap (x4 + c0.2.2.2.2.2.1))))) else none else none else none else none else none else X0 v0
noncomputable def Lineeds_0 {R : Type} (k : Nat) (X0 : Vineeds_0 → Option R) (c : Cineeds_0) : Nat → Vineeds_0 → Option R
 | 0, _ => none
 | n + 1, v => Bineeds_0 k X0 c (Lineeds_0 k X0 c n) v
noncomputable def fineeds_0 {R : Type} (k : Nat) (K : Ex → St → Option R) (c : Cineeds_0) (n : Nat) (v : Vineeds_0) : Option R := lpr E k 320 Tryz.f320 0 [0, 2, 4, 9, 10, 11] n (Stineeds_0 c v) K
theorem qineeds_0 {R : Type} (k : Nat) (K : Ex → St → Option R) (X0 c) (h : QL (fineeds_0 k K c) (Bineeds_0 k X0 c)) (v) : Lineeds_0 k X0 c k v = fineeds_0 k K c k v := loop_q h (fun _ => rfl) (fun _ _ => rfl) (fun _ => rfl) k v
noncomputable def Nineeds : Ex → St → Option (List Int) := finish E (rs 320) Tryz.f320
theorem eineeds (k : Nat) (a0 : I6) (a1 : List I2) (a2 : Int) (a3 : Int) : Fineeds (k + 1) a0 a1 a2 a3 = (FiInRange k a0.2.2.2.1 0 100).bind fun p1 => if ((!p1) == false) = true then (FiInRange k a0.2.2.2.2.2 0 100).bind fun p2 => if ((!p2) == false) = true then if ((decide (a2 < 0)) == false) = true then if ((decide (a3 > 1000)) == false) = true then if (decide (a2 ≥ a3)) = true then some ([0]) else (Fiticks k a1).bind fun p3 => if ((IntKind.i64.wrap ((IntKind.i64.wrap (a3 - a2)) + 1)) == (IntKind.i64.wrap ((IntKind.i64.wrap (a3 - a2)) + 1))) = true then if 0 ≤ (IntKind.i64.wrap ((IntKind.i64.wrap (a3 - a2)) + 1)) then if 8 * (IntKind.i64.wrap ((IntKind.i64.wrap (a3 - a2)) + 1)).toNat ≤ 281474976710656 then Lineeds_0 k (fun v0 => some v0.2) (a2, p3, a0) k ((IntKind.i64.wrap (a3 - 1)), (List.replicate (IntKind.i64.wrap ((IntKind.i64.wrap (a3 - a2)) + 1)).toNat (0 : Int))) else none else none else none else some ([0]) else some ([0]) else some ([0]) else some ([0]) := by
 simp (maxSteps := 9999999) (disch := (refine QL.mk fun n0 v => ?_; kernel_rfl)) only [↓qineeds_0 (R := List Int) k (kon0 E k 320 Tryz.f320 0 Nineeds)]
 kernel_rfl
noncomputable def FiNeedAt (k : Nat) (a0 : I6) (a1 : List I2) (a2 : Int) (a3 : Int) : Option (Int) := den E k 257 [.agg (avs sI6 a0), .c (.l 183 sI2 a1), cI a2, cI a3]
theorem eiNeedAt (k : Nat) (a0 : I6) (a1 : List I2) (a2 : Int) (a3 : Int) : FiNeedAt (k + 1) a0 a1 a2 a3 = (Fineeds k a0 a1 a2 a3).bind fun p1 => if 0 < (p1.length : Int) then ix p1 ((0 : Int).toNat) fun x2 => some x2 else none := by kernel_rfl
noncomputable def FiNeedNow (k : Nat) (a0 : TWorld) (a1 : Int) : Option (Int) := den E k 177 [.agg (avs sWorld a0), cI a1]
theorem eiNeedNow (k : Nat) (a0 : TWorld) (a1 : Int) : FiNeedNow (k + 1) a0 a1 = (FiisIndex k a1 (a0.2.2.2.2.1.length : Int)).bind fun p1 => if (!p1) = true then some 0 else if 0 ≤ a1 then ix a0.2.2.2.2.1 a1.toNat fun x2 => (FiLitOf k a0 a1).bind fun p3 => (FiNeedAt k x2 p3 a0.2.2.2.2.2.2.2.2.2.2.1 a0.2.2.2.2.2.2.2.2.2.2.2.1).bind fun p4 => some p4 else none := by kernel_rfl
noncomputable def FiareBatteries (k : Nat) (a0 : TWorld) : Option (Bool) := den E k 77 [.agg (avs sWorld a0)]
abbrev CiareBatteries_0 : Type := (List I6) × Int × TWorld
abbrev ViareBatteries_0 : Type := Int
def StiareBatteries_0 (c0 : CiareBatteries_0) (v0 : ViareBatteries_0) : St := ⟨36, 1, [(1, cP 0), (14, .c (.l 159 sI6 c0.1)), (15, cI c0.2.1), (16, cI v0)], [(0, .var (avs sWorld c0.2.2))]⟩
noncomputable def BiareBatteries_0 {R : Type} (k : Nat) (X0 : ViareBatteries_0 → I6 → Bool → Int → Option R) (X1 : ViareBatteries_0 → I6 → Bool → Option R) (X2 : ViareBatteries_0 → Option R) (c0 : CiareBatteries_0) (rec : ViareBatteries_0 → Option R) (v0 : ViareBatteries_0) : Option R := if (decide (v0 < c0.2.1)) = true then if 0 ≤ v0 then ix c0.1 v0.toNat fun x1 => (FiIsBattery k x1).bind fun p2 => if ((!p2) == false) = true then (FiNeedNow k c0.2.2 v0).bind fun p3 => if (decide (x1.1 < (IntKind.i64.wrap (x1.2.2.1 + p3)))) = true then X0 v0 x1 p2 p3 else rec (IntKind.i64.wrap (v0 + 1)) else X1 v0 x1 p2 else none else X2 v0
noncomputable def LiareBatteries_0 {R : Type} (k : Nat) (X0 : ViareBatteries_0 → I6 → Bool → Int → Option R) (X1 : ViareBatteries_0 → I6 → Bool → Option R) (X2 : ViareBatteries_0 → Option R) (c : CiareBatteries_0) : Nat → ViareBatteries_0 → Option R
 | 0, _ => none
 | n + 1, v => BiareBatteries_0 k X0 X1 X2 c (LiareBatteries_0 k X0 X1 X2 c n) v
noncomputable def fiareBatteries_0 {R : Type} (k : Nat) (K : Ex → St → Option R) (c : CiareBatteries_0) (n : Nat) (v : ViareBatteries_0) : Option R := lpr E k 77 Tryz.f77 0 [0, 1, 14, 15, 16] n (StiareBatteries_0 c v) K
theorem qiareBatteries_0 {R : Type} (k : Nat) (K : Ex → St → Option R) (X0 X1 X2 c) (h : QL (fiareBatteries_0 k K c) (BiareBatteries_0 k X0 X1 X2 c)) (v) : LiareBatteries_0 k X0 X1 X2 c k v = fiareBatteries_0 k K c k v := loop_q h (fun _ => rfl) (fun _ _ => rfl) (fun _ => rfl) k v
noncomputable def NiareBatteries : Ex → St → Option (Bool) := finish E (rs 77) Tryz.f77
theorem eiareBatteries (k : Nat) (a0 : TWorld) : FiareBatteries (k + 1) a0 = if ((a0.2.2.2.2.1.length : Int) != (a0.1.2.1.length : Int)) = true then some false else LiareBatteries_0 k (fun v0 x1 p2 p3 => some false) (fun v0 x1 p2 => some false) (fun v0 => some true) (a0.2.2.2.2.1, (a0.2.2.2.2.1.length : Int), a0) k 0 := by
 simp (maxSteps := 9999999) (disch := (refine QL.mk fun n0 v => ?_; kernel_rfl)) only [↓qiareBatteries_0 (R := Bool) k (kon0 E k 77 Tryz.f77 0 NiareBatteries)]
 kernel_rfl
noncomputable def FiIsFault (k : Nat) (a0 : I4) (a1 : Int) : Option (Bool) := den E k 183 [.agg (avs sI4 a0), cI a1]
theorem eiIsFault (k : Nat) (a0 : I4) (a1 : Int) : FiIsFault (k + 1) a0 a1 = (FiisIndex k a0.1 a1).bind fun p1 => if (p1 == true) = true then (FiInRange k a0.2.1 (-1) (IntKind.i64.wrap (a1 - 1))).bind fun p2 => if (p2 == true) = true then if ((a0.2.1 != a0.1) == true) = true then (FiIsSpan k a0.2.2).bind fun p3 => some p3 else some false else some false else some false := by kernel_rfl
noncomputable def FiIsFlow (k : Nat) (a0 : I4) (a1 : Int) : Option (Bool) := den E k 180 [.agg (avs sI4 a0), cI a1]
theorem eiIsFlow (k : Nat) (a0 : I4) (a1 : Int) : FiIsFlow (k + 1) a0 a1 = (FiInRange k a0.1 0 9999).bind fun p1 => if (p1 == true) = true then (FiisIndex k a0.2.1 a1).bind fun p2 => if (p2 == true) = true then (FiisIndex k a0.2.2.1 a1).bind fun p3 => if (p3 == true) = true then if ((a0.2.1 != a0.2.2.1) == true) = true then (FiInRange k a0.2.2.2 0 1).bind fun p4 => some p4 else some false else some false else some false else some false := by kernel_rfl
noncomputable def FiIsStream (k : Nat) (a0 : Int × Int × List Int) : Option (Bool) := den E k 182 [.agg (avs sStream a0)]
abbrev CiIsStream_0 : Type := (List Int) × Int × (Int × Int × List Int)
abbrev ViIsStream_0 : Type := Int
def StiIsStream_0 (c0 : CiIsStream_0) (v0 : ViIsStream_0) : St := ⟨52, 1, [(1, cP 0), (22, .c (.l 3 (.i .i64) c0.1)), (23, cI c0.2.1), (24, cI v0)], [(0, .var (avs sStream c0.2.2))]⟩
noncomputable def BiIsStream_0 {R : Type} (k : Nat) (X0 : ViIsStream_0 → Int → Int → Option R) (X1 : ViIsStream_0 → Int → Option R) (X2 : ViIsStream_0 → Int → Option R) (X3 : ViIsStream_0 → Option R) (c0 : CiIsStream_0) (rec : ViIsStream_0 → Option R) (v0 : ViIsStream_0) : Option R := if (decide (v0 < c0.2.1)) = true then if 0 ≤ v0 then ix c0.1 v0.toNat fun x3 => if ((decide (x3 ≤ c0.2.2.2.1)) == false) = true then if ((decide (x3 > 9999)) == false) = true then if ((decide (v0 > 0)) == true) = true then if 0 ≤ (IntKind.i64.wrap (v0 - 1)) then ix c0.2.2.2.2 ((IntKind.i64.wrap (v0 - 1)).toNat) fun x4 => if (decide (x3 ≤ x4)) = true then X0 v0 x3 x4 else rec (IntKind.i64.wrap (v0 + 1)) else none else rec (IntKind.i64.wrap (v0 + 1)) else X1 v0 x3 else X2 v0 x3 else none else X3 v0
noncomputable def LiIsStream_0 {R : Type} (k : Nat) (X0 : ViIsStream_0 → Int → Int → Option R) (X1 : ViIsStream_0 → Int → Option R) (X2 : ViIsStream_0 → Int → Option R) (X3 : ViIsStream_0 → Option R) (c : CiIsStream_0) : Nat → ViIsStream_0 → Option R
 | 0, _ => none
 | n + 1, v => BiIsStream_0 k X0 X1 X2 X3 c (LiIsStream_0 k X0 X1 X2 X3 c n) v
noncomputable def fiIsStream_0 {R : Type} (k : Nat) (K : Ex → St → Option R) (c : CiIsStream_0) (n : Nat) (v : ViIsStream_0) : Option R := lpr E k 182 Tryz.f182 0 [0, 1, 22, 23, 24] n (StiIsStream_0 c v) K
theorem qiIsStream_0 {R : Type} (k : Nat) (K : Ex → St → Option R) (X0 X1 X2 X3 c) (h : QL (fiIsStream_0 k K c) (BiIsStream_0 k X0 X1 X2 X3 c)) (v) : LiIsStream_0 k X0 X1 X2 X3 c k v = fiIsStream_0 k K c k v := loop_q h (fun _ => rfl) (fun _ _ => rfl) (fun _ => rfl) k v
noncomputable def NiIsStream : Ex → St → Option (Bool) := finish E (rs 182) Tryz.f182
theorem eiIsStream (k : Nat) (a0 : Int × Int × List Int) : FiIsStream (k + 1) a0 = (FiInRange k a0.1 0 10000).bind fun p1 => if ((!p1) == false) = true then (FiInRange k a0.2.1 0 10000).bind fun p2 => if ((!p2) == false) = true then if (decide ((a0.2.2.length : Int) > 20)) = true then some false else LiIsStream_0 k (fun v0 x3 x4 => some false) (fun v0 x3 => some false) (fun v0 x3 => some false) (fun v0 => some true) (a0.2.2, (a0.2.2.length : Int), a0) k 0 else some false else some false := by
 simp (maxSteps := 9999999) (disch := (refine QL.mk fun n0 v => ?_; kernel_rfl)) only [↓qiIsStream_0 (R := Bool) k (kon0 E k 182 Tryz.f182 0 NiIsStream)]
 kernel_rfl
noncomputable def FiflowAt_1v (k : Nat) (a0 : I4) (a1 : Int) : Option (Bool) := den E k 259 [.agg (avs sI4 a0), .c (.at_ [vI a1])]
theorem eiflowAt_1v (k : Nat) (a0 : I4) (a1 : Int) : FiflowAt_1v (k + 1) a0 a1 = some (a0.1 == a1) := by kernel_rfl
noncomputable def FgIndexFunc_Flowv_iflowAt_1 (k : Nat) (a0 : List I4) (a1 : Int) : Option (Int) := den E k 258 [.c (.l 85 sI4 a0), .c (.clo 259 [.at_ [vI a1]])]
abbrev CgIndexFunc_Flowv_iflowAt_1_0 : Type := (List I4) × Int × Int
abbrev VgIndexFunc_Flowv_iflowAt_1_0 : Type := Int
def StgIndexFunc_Flowv_iflowAt_1_0 (c0 : CgIndexFunc_Flowv_iflowAt_1_0) (v0 : VgIndexFunc_Flowv_iflowAt_1_0) : St := ⟨19, 0, [(0, .c (.l 85 sI4 c0.1)), (1, .c (.clo 259 [.at_ [vI c0.2.1]])), (7, cI c0.2.2), (8, cI v0)], []⟩
noncomputable def BgIndexFunc_Flowv_iflowAt_1_0 {R : Type} (k : Nat) (X0 : VgIndexFunc_Flowv_iflowAt_1_0 → I4 → Bool → Option R) (X1 : VgIndexFunc_Flowv_iflowAt_1_0 → Option R) (c0 : CgIndexFunc_Flowv_iflowAt_1_0) (rec : VgIndexFunc_Flowv_iflowAt_1_0 → Option R) (v0 : VgIndexFunc_Flowv_iflowAt_1_0) : Option R := if (decide (v0 < c0.2.2)) = true then if 0 ≤ v0 then ix c0.1 v0.toNat fun x1 => (FiflowAt_1v k x1 c0.2.1).bind fun p2 => if p2 = true then X0 v0 x1 p2 else rec (IntKind.i64.wrap (v0 + 1)) else none else X1 v0
noncomputable def LgIndexFunc_Flowv_iflowAt_1_0 {R : Type} (k : Nat) (X0 : VgIndexFunc_Flowv_iflowAt_1_0 → I4 → Bool → Option R) (X1 : VgIndexFunc_Flowv_iflowAt_1_0 → Option R) (c : CgIndexFunc_Flowv_iflowAt_1_0) : Nat → VgIndexFunc_Flowv_iflowAt_1_0 → Option R
 | 0, _ => none
 | n + 1, v => BgIndexFunc_Flowv_iflowAt_1_0 k X0 X1 c (LgIndexFunc_Flowv_iflowAt_1_0 k X0 X1 c n) v
noncomputable def fgIndexFunc_Flowv_iflowAt_1_0 {R : Type} (k : Nat) (K : Ex → St → Option R) (c : CgIndexFunc_Flowv_iflowAt_1_0) (n : Nat) (v : VgIndexFunc_Flowv_iflowAt_1_0) : Option R := lpr E k 258 Tryz.f258 0 [0, 0, 1, 7, 8] n (StgIndexFunc_Flowv_iflowAt_1_0 c v) K
theorem qgIndexFunc_Flowv_iflowAt_1_0 {R : Type} (k : Nat) (K : Ex → St → Option R) (X0 X1 c) (h : QL (fgIndexFunc_Flowv_iflowAt_1_0 k K c) (BgIndexFunc_Flowv_iflowAt_1_0 k X0 X1 c)) (v) : LgIndexFunc_Flowv_iflowAt_1_0 k X0 X1 c k v = fgIndexFunc_Flowv_iflowAt_1_0 k K c k v := loop_q h (fun _ => rfl) (fun _ _ => rfl) (fun _ => rfl) k v
noncomputable def NgIndexFunc_Flowv_iflowAt_1 : Ex → St → Option (Int) := finish E (rs 258) Tryz.f258
theorem egIndexFunc_Flowv_iflowAt_1 (k : Nat) (a0 : List I4) (a1 : Int) : FgIndexFunc_Flowv_iflowAt_1 (k + 1) a0 a1 = LgIndexFunc_Flowv_iflowAt_1_0 k (fun v0 x1 p2 => some v0) (fun v0 => some (-1)) (a0, a1, (a0.length : Int)) k 0 := by
 simp (maxSteps := 9999999) (disch := (refine QL.mk fun n0 v => ?_; kernel_rfl)) only [↓qgIndexFunc_Flowv_iflowAt_1_0 (R := Int) k (kon0 E k 258 Tryz.f258 0 NgIndexFunc_Flowv_iflowAt_1)]
 kernel_rfl
noncomputable def FiflowAt (k : Nat) (a0 : TWorld) (a1 : Int) : Option (Int) := den E k 181 [.agg (avs sWorld a0), cI a1]
theorem eiflowAt (k : Nat) (a0 : TWorld) (a1 : Int) : FiflowAt (k + 1) a0 a1 = (FgIndexFunc_Flowv_iflowAt_1 k a0.2.2.2.2.2.2.1 a1).bind fun p1 => some p1 := by kernel_rfl
noncomputable def FiareFlows (k : Nat) (a0 : TWorld) : Option (Bool) := den E k 79 [.agg (avs sWorld a0)]
abbrev CiareFlows_1 : Type := (List I4) × Int × Int × (List I4) × Int × TWorld
abbrev ViareFlows_1 : Type := Int
def StiareFlows_1 (c1 : CiareFlows_1) (v1 : ViareFlows_1) : St := ⟨101, 1, [(1, cP 0), (36, .c (.l 85 sI4 c1.1)), (37, cI c1.2.1), (38, cI c1.2.2.1), (88, .c (.l 86 sI4 c1.2.2.2.1)), (89, cI c1.2.2.2.2.1), (90, cI v1)], [(0, .var (avs sWorld c1.2.2.2.2.2))]⟩
noncomputable def BiareFlows_1 {R : Type} (k : Nat) (X0 : ViareFlows_1 → I4 → Bool → Option R) (X1 : ViareFlows_1 → Option R) (c1 : CiareFlows_1) (rec : ViareFlows_1 → Option R) (v1 : ViareFlows_1) : Option R := if (decide (v1 < c1.2.2.2.2.1)) = true then if 0 ≤ v1 then ix c1.2.2.2.1 v1.toNat fun x9 => (FiIsFault k x9 c1.2.2.2.2.2.2.1.1).bind fun p10 => if (!p10) = true then X0 v1 x9 p10 else rec (IntKind.i64.wrap (v1 + 1)) else none else X1 v1
noncomputable def LiareFlows_1 {R : Type} (k : Nat) (X0 : ViareFlows_1 → I4 → Bool → Option R) (X1 : ViareFlows_1 → Option R) (c : CiareFlows_1) : Nat → ViareFlows_1 → Option R
 | 0, _ => none
 | n + 1, v => BiareFlows_1 k X0 X1 c (LiareFlows_1 k X0 X1 c n) v
noncomputable def fiareFlows_1 {R : Type} (k : Nat) (K : Ex → St → Option R) (c : CiareFlows_1) (n : Nat) (v : ViareFlows_1) : Option R := lpr E k 79 Tryz.f79 1 [0, 1, 36, 37, 38, 88, 89, 90] n (StiareFlows_1 c v) K
theorem qiareFlows_1 {R : Type} (k : Nat) (K : Ex → St → Option R) (X0 X1 c) (h : QL (fiareFlows_1 k K c) (BiareFlows_1 k X0 X1 c)) (v) : LiareFlows_1 k X0 X1 c k v = fiareFlows_1 k K c k v := loop_q h (fun _ => rfl) (fun _ _ => rfl) (fun _ => rfl) k v
abbrev CiareFlows_0 : Type := (List I4) × Int × TWorld
abbrev ViareFlows_0 : Type := Int
def StiareFlows_0 (c0 : CiareFlows_0) (v0 : ViareFlows_0) : St := ⟨101, 1, [(1, cP 0), (36, .c (.l 85 sI4 c0.1)), (37, cI c0.2.1), (38, cI v0)], [(0, .var (avs sWorld c0.2.2))]⟩
noncomputable def BiareFlows_0 {R : Type} (k : Nat) (X0 : ViareFlows_0 → I4 → Bool → Int → Int → Bool → (Int × Int × List Int) → Bool → (Int × Int × List Int) → Option R) (X1 : ViareFlows_0 → I4 → Bool → Int → Int → Bool → (Int × Int × List Int) → Bool → Option R) (X2 : ViareFlows_0 → I4 → Bool → Int → Int → Bool → Option R) (X3 : ViareFlows_0 → I4 → Bool → Int → Option R) (X4 : ViareFlows_0 → I4 → Bool → Option R) (X5 : ViareFlows_0 → Option R) (c0 : CiareFlows_0) (rec : ViareFlows_0 → Option R) (v0 : ViareFlows_0) : Option R := if (decide (v0 < c0.2.1)) = true then if 0 ≤ v0 then ix c0.1 v0.toNat fun x1 => (FiIsFlow k x1 c0.2.2.2.1.1).bind fun p2 => if ((!p2) == false) = true then (FiflowAt k c0.2.2 x1.1).bind fun p3 => if ((p3 != v0) == false) = true then if 0 ≤ v0 then ix c0.2.2.2.2.2.2.2.2.2.1 v0.toNat fun x4 => (FiInRange k x4 0 10000).bind fun p5 => if ((!p5) == false) = true then if 0 ≤ v0 then ix c0.2.2.2.2.2.2.2.2.2.2.1 v0.toNat fun x6 => (FiIsStream k x6).bind fun p7 => if ((!p7) == false) = true then if 0 ≤ v0 then ix c0.2.2.2.2.2.2.2.2.2.2.1 v0.toNat fun x8 => if (x8.1 != x1.1) = true then X0 v0 x1 p2 p3 x4 p5 x6 p7 x8 else rec (IntKind.i64.wrap (v0 + 1)) else none else X1 v0 x1 p2 p3 x4 p5 x6 p7 else none else X2 v0 x1 p2 p3 x4 p5 else none else X3 v0 x1 p2 p3 else X4 v0 x1 p2 else none else X5 v0
noncomputable def LiareFlows_0 {R : Type} (k : Nat) (X0 : ViareFlows_0 → I4 → Bool → Int → Int → Bool → (Int × Int × List Int) → Bool → (Int × Int × List Int) → Option R) (X1 : ViareFlows_0 → I4 → Bool → Int → Int → Bool → (Int × Int × List Int) → Bool → Option R) (X2 : ViareFlows_0 → I4 → Bool → Int → Int → Bool → Option R) (X3 : ViareFlows_0 → I4 → Bool → Int → Option R) (X4 : ViareFlows_0 → I4 → Bool → Option R) (X5 : ViareFlows_0 → Option R) (c : CiareFlows_0) : Nat → ViareFlows_0 → Option R
 | 0, _ => none
 | n + 1, v => BiareFlows_0 k X0 X1 X2 X3 X4 X5 c (LiareFlows_0 k X0 X1 X2 X3 X4 X5 c n) v
noncomputable def fiareFlows_0 {R : Type} (k : Nat) (K : Ex → St → Option R) (c : CiareFlows_0) (n : Nat) (v : ViareFlows_0) : Option R := lpr E k 79 Tryz.f79 0 [0, 1, 36, 37, 38] n (StiareFlows_0 c v) K
theorem qiareFlows_0 {R : Type} (k : Nat) (K : Ex → St → Option R) (X0 X1 X2 X3 X4 X5 c) (h : QL (fiareFlows_0 k K c) (BiareFlows_0 k X0 X1 X2 X3 X4 X5 c)) (v) : LiareFlows_0 k X0 X1 X2 X3 X4 X5 c k v = fiareFlows_0 k K c k v := loop_q h (fun _ => rfl) (fun _ _ => rfl) (fun _ => rfl) k v
noncomputable def NiareFlows : Ex → St → Option (Bool) := finish E (rs 79) Tryz.f79
theorem eiareFlows (k : Nat) (a0 : TWorld) : FiareFlows (k + 1) a0 = if ((decide ((a0.2.2.2.2.2.2.1.length : Int) > 8)) == false) = true then if (((a0.2.2.2.2.2.2.2.1.length : Int) != (a0.2.2.2.2.2.2.1.length : Int)) == false) = true then if (((a0.2.2.2.2.2.2.2.2.1.length : Int) != (a0.2.2.2.2.2.2.1.length : Int)) == false) = true then if (decide ((a0.2.2.2.2.2.2.2.2.2.1.length : Int) > 12)) = true then some false else LiareFlows_0 k (fun v0 x1 p2 p3 x4 p5 x6 p7 x8 => some false) (fun v0 x1 p2 p3 x4 p5 x6 p7 => some false) (fun v0 x1 p2 p3 x4 p5 => some false) (fun v0 x1 p2 p3 => some false) (fun v0 x1 p2 => some false) (fun v0 => LiareFlows_1 k (fun v1 x9 p10 => some false) (fun v1 => some true) (a0.2.2.2.2.2.2.1, (a0.2.2.2.2.2.2.1.length : Int), v0, a0.2.2.2.2.2.2.2.2.2.1, (a0.2.2.2.2.2.2.2.2.2.1.length : Int), a0) k 0) (a0.2.2.2.2.2.2.1, (a0.2.2.2.2.2.2.1.length : Int), a0) k 0 else some false else some false else some false := by
 simp (maxSteps := 9999999) (disch := (refine QL.mk fun n0 v => ?_; unfold BiareFlows_0; simp (maxSteps := 9999999) (disch := (refine QL.mk fun n1 v => ?_; kernel_rfl)) only [↓qiareFlows_1 (R := Bool) k (kon0 E k 79 Tryz.f79 1 NiareFlows)]; kernel_rfl)) only [↓qiareFlows_0 (R := Bool) k (kon0 E k 79 Tryz.f79 0 NiareFlows)]
 kernel_rfl
noncomputable def FiIsPacket (k : Nat) (a0 : I6) (a1 : Int) : Option (Bool) := den E k 178 [.agg (avs sI6 a0), cI a1]
theorem eiIsPacket (k : Nat) (a0 : I6) (a1 : Int) : FiIsPacket (k + 1) a0 a1 = (FiInRange k a0.1 0 9999).bind fun p1 => if (p1 == true) = true then (FiInRange k a0.2.1 0 9999).bind fun p2 => if (p2 == true) = true then (FiInRange k a0.2.2.1 0 9999).bind fun p3 => if (p3 == true) = true then (FiisIndex k a0.2.2.2.1 a1).bind fun p4 => if (p4 == true) = true then (FiisIndex k a0.2.2.2.2.1 a1).bind fun p5 => if (p5 == true) = true then if ((a0.2.2.2.1 != a0.2.2.2.2.1) == true) = true then (FiInRange k a0.2.2.2.2.2 0 1).bind fun p6 => some p6 else some false else some false else some false else some false else some false else some false := by kernel_rfl
noncomputable def FiareQueues (k : Nat) (a0 : TWorld) : Option (Bool) := den E k 78 [.agg (avs sWorld a0)]
abbrev CiareQueues_1 : Type := Int × (List (List I6)) × Int × Int × (List I6) × Int × TWorld
abbrev ViareQueues_1 : Type := Int
def StiareQueues_1 (c1 : CiareQueues_1) (v1 : ViareQueues_1) : St := ⟨53, 1, [(1, cP 0), (3, cI c1.1), (15, .c (.l 140 sQueue c1.2.1)), (16, cI c1.2.2.1), (17, cI c1.2.2.2.1), (27, .c (.l 66 sI6 c1.2.2.2.2.1)), (28, cI c1.2.2.2.2.2.1), (29, cI v1)], [(0, .var (avs sWorld c1.2.2.2.2.2.2))]⟩
noncomputable def BiareQueues_1 {R : Type} (k : Nat) (X0 : ViareQueues_1 → I6 → Bool → Bool → Option R) (X1 : ViareQueues_1 → I6 → Bool → Option R) (X2 : ViareQueues_1 → Option R) (c1 : CiareQueues_1) (rec : ViareQueues_1 → Option R) (v1 : ViareQueues_1) : Option R := if (decide (v1 < c1.2.2.2.2.2.1)) = true then if 0 ≤ v1 then ix c1.2.2.2.2.1 v1.toNat fun x2 => (FiIsPacket k x2 c1.2.2.2.2.2.2.2.1.1).bind fun p3 => if ((!p3) == false) = true then (FiIsSite k c1.2.2.2.2.2.2.1 c1.1).bind fun p4 => if (p4 == true) = true then if (x2.2.2.2.1 != c1.1) = true then X0 v1 x2 p3 p4 else rec (IntKind.i64.wrap (v1 + 1)) else rec (IntKind.i64.wrap (v1 + 1)) else X1 v1 x2 p3 else none else X2 v1
noncomputable def LiareQueues_1 {R : Type} (k : Nat) (X0 : ViareQueues_1 → I6 → Bool → Bool → Option R) (X1 : ViareQueues_1 → I6 → Bool → Option R) (X2 : ViareQueues_1 → Option R) (c : CiareQueues_1) : Nat → ViareQueues_1 → Option R
 | 0, _ => none
 | n + 1, v => BiareQueues_1 k X0 X1 X2 c (LiareQueues_1 k X0 X1 X2 c n) v
noncomputable def fiareQueues_1 {R : Type} (k : Nat) (K : Ex → St → Option R) (c : CiareQueues_1) (n : Nat) (v : ViareQueues_1) : Option R := lpr E k 78 Tryz.f78 1 [0, 1, 3, 15, 16, 17, 27, 28, 29] n (StiareQueues_1 c v) K
theorem qiareQueues_1 {R : Type} (k : Nat) (K : Ex → St → Option R) (X0 X1 X2 c) (h : QL (fiareQueues_1 k K c) (BiareQueues_1 k X0 X1 X2 c)) (v) : LiareQueues_1 k X0 X1 X2 c k v = fiareQueues_1 k K c k v := loop_q h (fun _ => rfl) (fun _ _ => rfl) (fun _ => rfl) k v
abbrev CiareQueues_0 : Type := (List (List I6)) × Int × TWorld
abbrev ViareQueues_0 : Type := Int
def StiareQueues_0 (c0 : CiareQueues_0) (v0 : ViareQueues_0) : St := ⟨53, 1, [(1, cP 0), (15, .c (.l 140 sQueue c0.1)), (16, cI c0.2.1), (17, cI v0)], [(0, .var (avs sWorld c0.2.2))]⟩
noncomputable def BiareQueues_0 {R : Type} (k : Nat) (X0 : ViareQueues_0 → (List I6) → Option R) (X1 : ViareQueues_0 → (List I6) → Int → I6 → Bool → Bool → Option R) (X2 : ViareQueues_0 → (List I6) → Int → I6 → Bool → Option R) (X3 : ViareQueues_0 → Option R) (c0 : CiareQueues_0) (rec : ViareQueues_0 → Option R) (v0 : ViareQueues_0) : Option R := if (decide (v0 < c0.2.1)) = true then if 0 ≤ v0 then ix c0.1 v0.toNat fun x1 => if (decide ((x1.length : Int) > 12)) = true then X0 v0 x1 else LiareQueues_1 k (fun v1 x2 p3 p4 => X1 v0 x1 v1 x2 p3 p4) (fun v1 x2 p3 => X2 v0 x1 v1 x2 p3) (fun v1 => rec (IntKind.i64.wrap (v0 + 1))) (v0, c0.1, c0.2.1, v0, x1, (x1.length : Int), c0.2.2) k 0 else none else X3 v0
noncomputable def LiareQueues_0 {R : Type} (k : Nat) (X0 : ViareQueues_0 → (List I6) → Option R) (X1 : ViareQueues_0 → (List I6) → Int → I6 → Bool → Bool → Option R) (X2 : ViareQueues_0 → (List I6) → Int → I6 → Bool → Option R) (X3 : ViareQueues_0 → Option R) (c : CiareQueues_0) : Nat → ViareQueues_0 → Option R
 | 0, _ => none
 | n + 1, v => BiareQueues_0 k X0 X1 X2 X3 c (LiareQueues_0 k X0 X1 X2 X3 c n) v
noncomputable def fiareQueues_0 {R : Type} (k : Nat) (K : Ex → St → Option R) (c : CiareQueues_0) (n : Nat) (v : ViareQueues_0) : Option R := lpr E k 78 Tryz.f78 0 [0, 1, 15, 16, 17] n (StiareQueues_0 c v) K
theorem qiareQueues_0 {R : Type} (k : Nat) (K : Ex → St → Option R) (X0 X1 X2 X3 c) (h : QL (fiareQueues_0 k K c) (BiareQueues_0 k X0 X1 X2 X3 c)) (v) : LiareQueues_0 k X0 X1 X2 X3 c k v = fiareQueues_0 k K c k v := loop_q h (fun _ => rfl) (fun _ _ => rfl) (fun _ => rfl) k v
noncomputable def NiareQueues : Ex → St → Option (Bool) := finish E (rs 78) Tryz.f78
theorem eiareQueues (k : Nat) (a0 : TWorld) : FiareQueues (k + 1) a0 = if ((a0.2.2.2.2.2.1.length : Int) != a0.2.1.1) = true then some false else LiareQueues_0 k (fun v0 x1 => some false) (fun v0 x1 v1 x2 p3 p4 => some false) (fun v0 x1 v1 x2 p3 => some false) (fun v0 => some true) (a0.2.2.2.2.2.1, (a0.2.2.2.2.2.1.length : Int), a0) k 0 := by
 simp (maxSteps := 9999999) (disch := (refine QL.mk fun n0 v => ?_; unfold BiareQueues_0; simp (maxSteps := 9999999) (disch := (refine QL.mk fun n1 v => ?_; kernel_rfl)) only [↓qiareQueues_1 (R := Bool) k (kon1 E k 78 Tryz.f78 0 1 n0 [0, 1, 15, 16, 17] (kon0 E k 78 Tryz.f78 0 NiareQueues))]; kernel_rfl)) only [↓qiareQueues_0 (R := Bool) k (kon0 E k 78 Tryz.f78 0 NiareQueues)]
 kernel_rfl
noncomputable def FgClone_Packet (k : Nat) (a0 : List I6) : Option (List I6) := den E k 228 [.c (.l 66 sI6 a0)]
theorem egClone_Packet (k : Nat) (a0 : List I6) : FgClone_Packet (k + 1) a0 = agree (a0.isEmpty) (some ([])) (if (0 + a0.length) * 48 ≤ 140737488355328 then some a0 else none) := by kernel_rfl
noncomputable def FipacketsOf (k : Nat) (a0 : TWorld) : Option (List I6) := den E k 184 [.agg (avs sWorld a0)]
abbrev CipacketsOf_0 : Type := (List (List I6)) × Int
abbrev VipacketsOf_0 : Type := Int × (List I6)
def StipacketsOf_0 (c0 : CipacketsOf_0) (v0 : VipacketsOf_0) : St := ⟨22, 1, [(3, .c (.ref 0)), (10, .c (.l 140 sQueue c0.1)), (11, cI c0.2), (12, cI v0.1)], [(0, .arr 66 sI6 v0.2)]⟩
noncomputable def BipacketsOf_0 {R : Type} (k : Nat) (X0 : VipacketsOf_0 → Option R) (c0 : CipacketsOf_0) (rec : VipacketsOf_0 → Option R) (v0 : VipacketsOf_0) : Option R := if (decide (v0.1 < c0.2)) = true then if 0 ≤ v0.1 then ix c0.1 v0.1.toNat fun x2 => if (v0.2.length + x2.length) * 48 ≤ 140737488355328 then rec ((IntKind.i64.wrap (v0.1 + 1)), (v0.2 ++ x2)) else none else none else X0 v0
noncomputable def LipacketsOf_0 {R : Type} (k : Nat) (X0 : VipacketsOf_0 → Option R) (c : CipacketsOf_0) : Nat → VipacketsOf_0 → Option R
 | 0, _ => none
 | n + 1, v => BipacketsOf_0 k X0 c (LipacketsOf_0 k X0 c n) v
noncomputable def fipacketsOf_0 {R : Type} (k : Nat) (K : Ex → St → Option R) (c : CipacketsOf_0) (n : Nat) (v : VipacketsOf_0) : Option R := lpr E k 184 Tryz.f184 0 [0, 3, 10, 11, 12] n (StipacketsOf_0 c v) K
theorem qipacketsOf_0 {R : Type} (k : Nat) (K : Ex → St → Option R) (X0 c) (h : QL (fipacketsOf_0 k K c) (BipacketsOf_0 k X0 c)) (v) : LipacketsOf_0 k X0 c k v = fipacketsOf_0 k K c k v := loop_q h (fun _ => rfl) (fun _ _ => rfl) (fun _ => rfl) k v
noncomputable def NipacketsOf : Ex → St → Option (List I6) := finish E (rs 184) Tryz.f184
theorem eipacketsOf (k : Nat) (a0 : TWorld) : FipacketsOf (k + 1) a0 = (FgClone_Packet k a0.2.2.2.2.2.2.2.2.2.2.2.2.1).bind fun p1 => LipacketsOf_0 k (fun v0 => some v0.2) (a0.2.2.2.2.2.1, (a0.2.2.2.2.2.1.length : Int)) k (0, p1) := by
 simp (maxSteps := 9999999) (disch := (refine QL.mk fun n0 v => ?_; kernel_rfl)) only [↓qipacketsOf_0 (R := List I6) k (kon0 E k 184 Tryz.f184 0 NipacketsOf)]
 kernel_rfl
noncomputable def FisumOf (k : Nat) (a0 : List Int) : Option (Int) := den E k 186 [.c (.l 3 (.i .i64) a0)]
abbrev CisumOf_0 : Type := (List Int) × Int
abbrev VisumOf_0 : Type := Int × Int
def StisumOf_0 (c0 : CisumOf_0) (v0 : VisumOf_0) : St := ⟨17, 0, [(3, cI v0.1), (6, .c (.l 3 (.i .i64) c0.1)), (7, cI c0.2), (8, cI v0.2)], []⟩
noncomputable def BisumOf_0 {R : Type} (k : Nat) (X0 : VisumOf_0 → Option R) (c0 : CisumOf_0) (rec : VisumOf_0 → Option R) (v0 : VisumOf_0) : Option R := if (decide (v0.2 < c0.2)) = true then if 0 ≤ v0.2 then ix c0.1 v0.2.toNat fun x1 => rec ((IntKind.i64.wrap (v0.1 + x1)), (IntKind.i64.wrap (v0.2 + 1))) else none else X0 v0
noncomputable def LisumOf_0 {R : Type} (k : Nat) (X0 : VisumOf_0 → Option R) (c : CisumOf_0) : Nat → VisumOf_0 → Option R
 | 0, _ => none
 | n + 1, v => BisumOf_0 k X0 c (LisumOf_0 k X0 c n) v
noncomputable def fisumOf_0 {R : Type} (k : Nat) (K : Ex → St → Option R) (c : CisumOf_0) (n : Nat) (v : VisumOf_0) : Option R := lpr E k 186 Tryz.f186 0 [0, 3, 6, 7, 8] n (StisumOf_0 c v) K
theorem qisumOf_0 {R : Type} (k : Nat) (K : Ex → St → Option R) (X0 c) (h : QL (fisumOf_0 k K c) (BisumOf_0 k X0 c)) (v) : LisumOf_0 k X0 c k v = fisumOf_0 k K c k v := loop_q h (fun _ => rfl) (fun _ _ => rfl) (fun _ => rfl) k v
noncomputable def NisumOf : Ex → St → Option (Int) := finish E (rs 186) Tryz.f186
theorem eisumOf (k : Nat) (a0 : List Int) : FisumOf (k + 1) a0 = LisumOf_0 k (fun v0 => some v0.1) (a0, (a0.length : Int)) k (0, 0) := by
 simp (maxSteps := 9999999) (disch := (refine QL.mk fun n0 v => ?_; kernel_rfl)) only [↓qisumOf_0 (R := Int) k (kon0 E k 186 Tryz.f186 0 NisumOf)]
 kernel_rfl
noncomputable def FiareWhole (k : Nat) (a0 : TWorld) : Option (Bool) := den E k 80 [.agg (avs sWorld a0)]
abbrev CiareWhole_1 : Type := Int × Int × Int × TWorld × (List Int) × (List I6)
abbrev ViareWhole_1 : Type := Int
def StiareWhole_1 (c1 : CiareWhole_1) (v1 : ViareWhole_1) : St := ⟨41, 3, [(1, cP 0), (3, .c (.ref 1)), (10, .c (.ref 2)), (11, cI c1.1), (12, cI c1.2.1), (24, .c (.ref 1)), (25, cI c1.2.2.1), (26, cI v1)], [(0, .var (avs sWorld c1.2.2.2.1)), (1, .arr 3 (.i .i64) c1.2.2.2.2.1), (2, .arr 66 sI6 c1.2.2.2.2.2)]⟩
noncomputable def BiareWhole_1 {R : Type} (k : Nat) (X0 : ViareWhole_1 → Int → Option R) (X1 : ViareWhole_1 → Option R) (c1 : CiareWhole_1) (rec : ViareWhole_1 → Option R) (v1 : ViareWhole_1) : Option R := if (decide (v1 < c1.2.2.1)) = true then if 0 ≤ v1 then if v1 < (c1.2.2.2.2.1.length : Int) then ix c1.2.2.2.2.1 v1.toNat fun x4 => if (x4 != v1) = true then X0 v1 x4 else rec (IntKind.i64.wrap (v1 + 1)) else none else none else X1 v1
noncomputable def LiareWhole_1 {R : Type} (k : Nat) (X0 : ViareWhole_1 → Int → Option R) (X1 : ViareWhole_1 → Option R) (c : CiareWhole_1) : Nat → ViareWhole_1 → Option R
 | 0, _ => none
 | n + 1, v => BiareWhole_1 k X0 X1 c (LiareWhole_1 k X0 X1 c n) v
noncomputable def fiareWhole_1 {R : Type} (k : Nat) (K : Ex → St → Option R) (c : CiareWhole_1) (n : Nat) (v : ViareWhole_1) : Option R := lpr E k 80 Tryz.f80 1 [0, 1, 3, 10, 11, 12, 24, 25, 26] n (StiareWhole_1 c v) K
theorem qiareWhole_1 {R : Type} (k : Nat) (K : Ex → St → Option R) (X0 X1 c) (h : QL (fiareWhole_1 k K c) (BiareWhole_1 k X0 X1 c)) (v) : LiareWhole_1 k X0 X1 c k v = fiareWhole_1 k K c k v := loop_q h (fun _ => rfl) (fun _ _ => rfl) (fun _ => rfl) k v
abbrev CiareWhole_0 : Type := Int × TWorld × (List I6)
abbrev ViareWhole_0 : Type := Int × (List Int)
def StiareWhole_0 (c0 : CiareWhole_0) (v0 : ViareWhole_0) : St := ⟨41, 3, [(1, cP 0), (3, .c (.ref 1)), (10, .c (.ref 2)), (11, cI c0.1), (12, cI v0.1)], [(0, .var (avs sWorld c0.2.1)), (1, .arr 3 (.i .i64) v0.2), (2, .arr 66 sI6 c0.2.2)]⟩
noncomputable def BiareWhole_0 {R : Type} (k : Nat) (X0 : ViareWhole_0 → Option R) (c0 : CiareWhole_0) (rec : ViareWhole_0 → Option R) (v0 : ViareWhole_0) : Option R := if (decide (v0.1 < c0.1)) = true then if 0 ≤ v0.1 then if v0.1 < (c0.2.2.length : Int) then ix c0.2.2 v0.1.toNat fun x2 => if (v0.2.length + ([x2.1]).length) * 8 ≤ 140737488355328 then rec ((IntKind.i64.wrap (v0.1 + 1)), (v0.2 ++ [x2.1])) else none else none else none else X0 v0
noncomputable def LiareWhole_0 {R : Type} (k : Nat) (X0 : ViareWhole_0 → Option R) (c : CiareWhole_0) : Nat → ViareWhole_0 → Option R
 | 0, _ => none
 | n + 1, v => BiareWhole_0 k X0 c (LiareWhole_0 k X0 c n) v
noncomputable def fiareWhole_0 {R : Type} (k : Nat) (K : Ex → St → Option R) (c : CiareWhole_0) (n : Nat) (v : ViareWhole_0) : Option R := lpr E k 80 Tryz.f80 0 [0, 1, 3, 10, 11, 12] n (StiareWhole_0 c v) K
theorem qiareWhole_0 {R : Type} (k : Nat) (K : Ex → St → Option R) (X0 c) (h : QL (fiareWhole_0 k K c) (BiareWhole_0 k X0 c)) (v) : LiareWhole_0 k X0 c k v = fiareWhole_0 k K c k v := loop_q h (fun _ => rfl) (fun _ _ => rfl) (fun _ => rfl) k v
noncomputable def NiareWhole : Ex → St → Option (Bool) := finish E (rs 80) Tryz.f80
theorem eiareWhole (k : Nat) (a0 : TWorld) : FiareWhole (k + 1) a0 = (FipacketsOf k a0).bind fun p1 => LiareWhole_0 k (fun v0 => (FgSort_int k v0.2).bind fun p3 => LiareWhole_1 k (fun v1 x4 => some false) (fun v1 => (FisumOf k a0.2.2.2.2.2.2.2.1).bind fun p5 => some ((p3.length : Int) == p5)) ((p1.length : Int), v0.1, (p3.length : Int), a0, p3, p1) k 0) ((p1.length : Int), a0, p1) k (0, []) := by
 simp (maxSteps := 9999999) (disch := (refine QL.mk fun n0 v => ?_; unfold BiareWhole_0; simp (maxSteps := 9999999) (disch := (refine QL.mk fun n1 v => ?_; kernel_rfl)) only [↓qiareWhole_1 (R := Bool) k (kon0 E k 80 Tryz.f80 1 NiareWhole)]; kernel_rfl)) only [↓qiareWhole_0 (R := Bool) k (kon0 E k 80 Tryz.f80 0 NiareWhole)]
 kernel_rfl
noncomputable def FiIsWorld (k : Nat) (a0 : TWorld) : Option (Bool) := den E k 13 [.agg (avs sWorld a0)]
theorem eiIsWorld (k : Nat) (a0 : TWorld) : FiIsWorld (k + 1) a0 = (FiIsSky k a0.1).bind fun p1 => if (p1 == true) = true then (FiIsProgram k a0.2.1).bind fun p2 => if (p2 == true) = true then (FiIsLaw k a0.2.2.1 a0.2.1).bind fun p3 => if (p3 == true) = true then (FiNodesOf k a0.1).bind fun p4 => if ((a0.2.1.1 == p4) == true) = true then if ((a0.2.1.2.1 == (a0.1.2.1.length : Int)) == true) = true then (FiAreOffsets k a0.2.1 a0.2.2.2.1).bind fun p5 => if (p5 == true) = true then (FiInRange k a0.2.2.2.2.2.2.2.2.2.2.2.1 1 60).bind fun p6 => if (p6 == true) = true then (FiInRange k a0.2.2.2.2.2.2.2.2.2.2.1 0 a0.2.2.2.2.2.2.2.2.2.2.2.1).bind fun p7 => if (p7 == true) = true then (FiareBatteries k a0).bind fun p8 => if (p8 == true) = true then (FiareQueues k a0).bind fun p9 => if (p9 == true) = true then (FiareFlows k a0).bind fun p10 => if (p10 == true) = true then (FiareWhole k a0).bind fun p11 => some p11 else some false else some false else some false else some false else some false else some false else some false else some false else some false else some false else some false := by kernel_rfl
noncomputable def FleqBattery (k : Nat) (a0 : I6) (a1 : I6) : Option (Bool) := den E k 191 [.agg (avs sI6 a0), .agg (avs sI6 a1)]
noncomputable def FleqBatteryS (k : Nat) (a0 : List I6) (a1 : List I6) : Option (Bool) := den E k 85 [.c (.l 159 sI6 a0), .c (.l 159 sI6 a1)]
noncomputable def FleqFault (k : Nat) (a0 : I4) (a1 : I4) : Option (Bool) := den E k 195 [.agg (avs sI4 a0), .agg (avs sI4 a1)]
noncomputable def FleqFaultS (k : Nat) (a0 : List I4) (a1 : List I4) : Option (Bool) := den E k 89 [.c (.l 86 sI4 a0), .c (.l 86 sI4 a1)]
noncomputable def FleqFlow (k : Nat) (a0 : I4) (a1 : I4) : Option (Bool) := den E k 193 [.agg (avs sI4 a0), .agg (avs sI4 a1)]
noncomputable def FleqFlowS (k : Nat) (a0 : List I4) (a1 : List I4) : Option (Bool) := den E k 87 [.c (.l 85 sI4 a0), .c (.l 85 sI4 a1)]
noncomputable def FleqIntS (k : Nat) (a0 : List Int) (a1 : List Int) : Option (Bool) := den E k 84 [.c (.l 3 (.i .i64) a0), .c (.l 3 (.i .i64) a1)]
noncomputable def FleqLaw (k : Nat) (a0 : List Int) (a1 : List Int) : Option (Bool) := den E k 83 [.agg [.l 3 (.i .i64) a0], .agg [.l 3 (.i .i64) a1]]
noncomputable def FleqPacket (k : Nat) (a0 : I6) (a1 : I6) : Option (Bool) := den E k 17 [.agg (avs sI6 a0), .agg (avs sI6 a1)]
noncomputable def FleqPacketS (k : Nat) (a0 : List I6) (a1 : List I6) : Option (Bool) := den E k 90 [.c (.l 66 sI6 a0), .c (.l 66 sI6 a1)]
noncomputable def FleqLink (k : Nat) (a0 : I2) (a1 : I2) : Option (Bool) := den E k 382 [.agg [vI a0.1, vI a0.2], .agg [vI a1.1, vI a1.2]]
noncomputable def FleqLinkS (k : Nat) (a0 : List I2) (a1 : List I2) : Option (Bool) := den E k 334 [.c (.l 348 sI2 a0), .c (.l 348 sI2 a1)]
noncomputable def FleqSpan (k : Nat) (a0 : I2) (a1 : I2) : Option (Bool) := den E k 333 [.agg [vI a0.1, vI a0.2], .agg [vI a1.1, vI a1.2]]
noncomputable def FleqTable (k : Nat) (a0 : Int × (List Int) × List Int) (a1 : Int × (List Int) × List Int) : Option (Bool) := den E k 383 [.agg (avs sTable a0), .agg (avs sTable a1)]
noncomputable def FleqTableS (k : Nat) (a0 : List (Int × (List Int) × List Int)) (a1 : List (Int × (List Int) × List Int)) : Option (Bool) := den E k 335 [.c (.l 220 sTable a0), .c (.l 220 sTable a1)]
noncomputable def FleqPiece (k : Nat) (a0 : TPiece) (a1 : TPiece) : Option (Bool) := den E k 265 [.agg (avs sPiece a0), .agg (avs sPiece a1)]
noncomputable def FleqPieceS (k : Nat) (a0 : List TPiece) (a1 : List TPiece) : Option (Bool) := den E k 190 [.c (.l 198 sPiece a0), .c (.l 198 sPiece a1)]
noncomputable def FleqProgram (k : Nat) (a0 : TProgram) (a1 : TProgram) : Option (Bool) := den E k 82 [.agg (avs sProgram a0), .agg (avs sProgram a1)]
noncomputable def FleqQueue (k : Nat) (a0 : List I6) (a1 : List I6) : Option (Bool) := den E k 192 [.agg [.l 66 sI6 a0], .agg [.l 66 sI6 a1]]
noncomputable def FleqQueueS (k : Nat) (a0 : List (List I6)) (a1 : List (List I6)) : Option (Bool) := den E k 86 [.c (.l 140 sQueue a0), .c (.l 140 sQueue a1)]
noncomputable def FleqSent (k : Nat) (a0 : I4) (a1 : I4) : Option (Bool) := den E k 99 [.agg (avs sI4 a0), .agg (avs sI4 a1)]
noncomputable def FleqSentS (k : Nat) (a0 : List I4) (a1 : List I4) : Option (Bool) := den E k 20 [.c (.l 146 sI4 a0), .c (.l 146 sI4 a1)]
noncomputable def FleqSat (k : Nat) (a0 : I4) (a1 : I4) : Option (Bool) := den E k 262 [.agg (avs sI4 a0), .agg (avs sI4 a1)]
noncomputable def FleqSatS (k : Nat) (a0 : List I4) (a1 : List I4) : Option (Bool) := den E k 187 [.c (.l 186 sI4 a0), .c (.l 186 sI4 a1)]
noncomputable def FleqSite (k : Nat) (a0 : I3) (a1 : I3) : Option (Bool) := den E k 263 [.agg (avs sI3 a0), .agg (avs sI3 a1)]
noncomputable def FleqSiteS (k : Nat) (a0 : List I3) (a1 : List I3) : Option (Bool) := den E k 188 [.c (.l 188 sI3 a0), .c (.l 188 sI3 a1)]
noncomputable def FleqArc (k : Nat) (a0 : I2) (a1 : I2) : Option (Bool) := den E k 332 [.agg [vI a0.1, vI a0.2], .agg [vI a1.1, vI a1.2]]
noncomputable def FleqZone (k : Nat) (a0 : I3) (a1 : I3) : Option (Bool) := den E k 264 [.agg (avs sI3 a0), .agg (avs sI3 a1)]
noncomputable def FleqZoneS (k : Nat) (a0 : List I3) (a1 : List I3) : Option (Bool) := den E k 189 [.c (.l 193 sZone a0), .c (.l 193 sZone a1)]
noncomputable def FleqSky (k : Nat) (a0 : TSky) (a1 : TSky) : Option (Bool) := den E k 81 [.agg (avs sSky a0), .agg (avs sSky a1)]
noncomputable def FleqStream (k : Nat) (a0 : Int × Int × List Int) (a1 : Int × Int × List Int) : Option (Bool) := den E k 194 [.agg (avs sStream a0), .agg (avs sStream a1)]
noncomputable def FleqStreamS (k : Nat) (a0 : List (Int × Int × List Int)) (a1 : List (Int × Int × List Int)) : Option (Bool) := den E k 88 [.c (.l 205 sStream a0), .c (.l 205 sStream a1)]
noncomputable def FleqWorld (k : Nat) (a0 : TWorld) (a1 : TWorld) : Option (Bool) := den E k 14 [.agg (avs sWorld a0), .agg (avs sWorld a1)]
noncomputable def FlszBatteryS (k : Nat) (a0 : List I6) (a1 : Int) : Option (Int) := den E k 42 [.c (.l 211 sI6 a0), cI a1]
noncomputable def FlszFaultS (k : Nat) (a0 : List I4) (a1 : Int) : Option (Int) := den E k 46 [.c (.l 81 sI4 a0), cI a1]
noncomputable def FlszFlowS (k : Nat) (a0 : List I4) (a1 : Int) : Option (Int) := den E k 44 [.c (.l 79 sI4 a0), cI a1]
noncomputable def FlszIntS (k : Nat) (a0 : List Int) (a1 : Int) : Option (Int) := den E k 41 [.c (.l 3 (.i .i64) a0), cI a1]
noncomputable def FlszLaw (k : Nat) (a0 : List Int) (a1 : Int) : Option (Int) := den E k 40 [.agg [.l 3 (.i .i64) a0], cI a1]
noncomputable def FlszPacketS (k : Nat) (a0 : List I6) (a1 : Int) : Option (Int) := den E k 47 [.c (.l 215 sI6 a0), cI a1]
noncomputable def FlszLinkS (k : Nat) (a0 : List I2) (a1 : Int) : Option (Int) := den E k 309 [.c (.l 357 sI2 a0), cI a1]
noncomputable def FlszTable (k : Nat) (a0 : Int × (List Int) × List Int) (a1 : Int) : Option (Int) := den E k 371 [.agg (avs sTable a0), cI a1]
noncomputable def FlszTableS (k : Nat) (a0 : List (Int × (List Int) × List Int)) (a1 : Int) : Option (Int) := den E k 310 [.c (.l 355 sTable a0), cI a1]
noncomputable def FlszPiece (k : Nat) (a0 : TPiece) (a1 : Int) : Option (Int) := den E k 246 [.agg (avs sLPiece a0), cI a1]
noncomputable def FlszPieceS (k : Nat) (a0 : List TPiece) (a1 : Int) : Option (Int) := den E k 143 [.c (.l 270 sLPiece a0), cI a1]
noncomputable def FlszProgram (k : Nat) (a0 : TProgram) (a1 : Int) : Option (Int) := den E k 39 [.agg (avs sLProgram a0), cI a1]
noncomputable def FlszQueue (k : Nat) (a0 : List I6) (a1 : Int) : Option (Int) := den E k 144 [.agg [.l 215 sI6 a0], cI a1]
noncomputable def FlszQueueS (k : Nat) (a0 : List (List I6)) (a1 : Int) : Option (Int) := den E k 43 [.c (.l 177 sLQueue a0), cI a1]
noncomputable def FlszSentS (k : Nat) (a0 : List I4) (a1 : Int) : Option (Int) := den E k 48 [.c (.l 217 sI4 a0), cI a1]
noncomputable def FlszSatS (k : Nat) (a0 : List I4) (a1 : Int) : Option (Int) := den E k 140 [.c (.l 273 sI4 a0), cI a1]
noncomputable def FlszSiteS (k : Nat) (a0 : List I3) (a1 : Int) : Option (Int) := den E k 141 [.c (.l 275 sI3 a0), cI a1]
noncomputable def FlszZoneS (k : Nat) (a0 : List I3) (a1 : Int) : Option (Int) := den E k 142 [.c (.l 279 sZone a0), cI a1]
noncomputable def FlszSky (k : Nat) (a0 : TSky) (a1 : Int) : Option (Int) := den E k 38 [.agg (avs sLSky a0), cI a1]
noncomputable def FlszStream (k : Nat) (a0 : Int × Int × List Int) (a1 : Int) : Option (Int) := den E k 145 [.agg (avs sStream a0), cI a1]
noncomputable def FlszStreamS (k : Nat) (a0 : List (Int × Int × List Int)) (a1 : Int) : Option (Int) := den E k 45 [.c (.l 180 sStream a0), cI a1]
noncomputable def FlszWorld (k : Nat) (a0 : TWorld) (a1 : Int) : Option (Int) := den E k 10 [.agg (avs sLWorld a0), cI a1]
noncomputable def FltoBattery (k : Nat) (a0 : I6) : Option I6 := den E k 164 [.agg (avs sI6 a0)]
noncomputable def FltoBatteryS (k : Nat) (a0 : List I6) : Option (List I6) := den E k 64 [.c (.l 211 sI6 a0)]
noncomputable def FltoFault (k : Nat) (a0 : I4) : Option I4 := den E k 135 [.agg (avs sI4 a0)]
noncomputable def FltoFaultS (k : Nat) (a0 : List I4) : Option (List I4) := den E k 68 [.c (.l 81 sI4 a0)]
noncomputable def FltoFlow (k : Nat) (a0 : I4) : Option I4 := den E k 134 [.agg (avs sI4 a0)]
noncomputable def FltoFlowS (k : Nat) (a0 : List I4) : Option (List I4) := den E k 66 [.c (.l 79 sI4 a0)]
noncomputable def FltoIntS (k : Nat) (a0 : List Int) : Option (List Int) := den E k 63 [.c (.l 3 (.i .i64) a0)]
noncomputable def FltoLaw (k : Nat) (a0 : List Int) : Option (List Int) := den E k 62 [.agg [.l 3 (.i .i64) a0]]
noncomputable def FltoPacket (k : Nat) (a0 : I6) : Option I6 := den E k 167 [.agg (avs sI6 a0)]
noncomputable def FltoPacketS (k : Nat) (a0 : List I6) : Option (List I6) := den E k 69 [.c (.l 215 sI6 a0)]
noncomputable def FltoLink (k : Nat) (a0 : I2) : Option I2 := den E k 373 [.agg [vI a0.1, vI a0.2]]
noncomputable def FltoLinkS (k : Nat) (a0 : List I2) : Option (List I2) := den E k 316 [.c (.l 357 sI2 a0)]
noncomputable def FltoSpan (k : Nat) (a0 : I2) : Option I2 := den E k 315 [.agg [vI a0.1, vI a0.2]]
noncomputable def FltoTable (k : Nat) (a0 : Int × (List Int) × List Int) : Option (Int × (List Int) × List Int) := den E k 374 [.agg (avs sTable a0)]
noncomputable def FltoTableS (k : Nat) (a0 : List (Int × (List Int) × List Int)) : Option (List (Int × (List Int) × List Int)) := den E k 317 [.c (.l 355 sTable a0)]
noncomputable def FltoPiece (k : Nat) (a0 : TPiece) : Option TPiece := den E k 253 [.agg (avs sLPiece a0)]
noncomputable def FltoPieceS (k : Nat) (a0 : List TPiece) : Option (List TPiece) := den E k 163 [.c (.l 270 sLPiece a0)]
noncomputable def FltoProgram (k : Nat) (a0 : TProgram) : Option TProgram := den E k 61 [.agg (avs sLProgram a0)]
noncomputable def FltoQueue (k : Nat) (a0 : List I6) : Option (List I6) := den E k 165 [.agg [.l 215 sI6 a0]]
noncomputable def FltoQueueS (k : Nat) (a0 : List (List I6)) : Option (List (List I6)) := den E k 65 [.c (.l 177 sLQueue a0)]
noncomputable def FltoSent (k : Nat) (a0 : I4) : Option I4 := den E k 168 [.agg (avs sI4 a0)]
noncomputable def FltoSentS (k : Nat) (a0 : List I4) : Option (List I4) := den E k 70 [.c (.l 217 sI4 a0)]
noncomputable def FltoSat (k : Nat) (a0 : I4) : Option I4 := den E k 250 [.agg (avs sI4 a0)]
noncomputable def FltoSatS (k : Nat) (a0 : List I4) : Option (List I4) := den E k 160 [.c (.l 273 sI4 a0)]
noncomputable def FltoSite (k : Nat) (a0 : I3) : Option I3 := den E k 251 [.agg (avs sI3 a0)]
noncomputable def FltoSiteS (k : Nat) (a0 : List I3) : Option (List I3) := den E k 161 [.c (.l 275 sI3 a0)]
noncomputable def FltoArc (k : Nat) (a0 : I2) : Option I2 := den E k 314 [.agg [vI a0.1, vI a0.2]]
noncomputable def FltoZone (k : Nat) (a0 : I3) : Option I3 := den E k 252 [.agg (avs sI3 a0)]
noncomputable def FltoZoneS (k : Nat) (a0 : List I3) : Option (List I3) := den E k 162 [.c (.l 279 sZone a0)]
noncomputable def FltoSky (k : Nat) (a0 : TSky) : Option TSky := den E k 60 [.agg (avs sLSky a0)]
noncomputable def FltoStream (k : Nat) (a0 : Int × Int × List Int) : Option (Int × Int × List Int) := den E k 166 [.agg (avs sStream a0)]
noncomputable def FltoStreamS (k : Nat) (a0 : List (Int × Int × List Int)) : Option (List (Int × Int × List Int)) := den E k 67 [.c (.l 180 sStream a0)]
noncomputable def FltoWorld (k : Nat) (a0 : TWorld) : Option TWorld := den E k 12 [.agg (avs sLWorld a0)]
noncomputable def Fsl1In (k : Nat) (a0 : Int) (a1 : Int) (a2 : Int) : Option (Bool) := den E k 55 [cI a0, cI a1, cI a2]
theorem esl1In (k : Nat) (a0 : Int) (a1 : Int) (a2 : Int) : Fsl1In (k + 1) a0 a1 a2 = if ((decide (a0 ≥ a1)) == true) = true then some (decide (a0 ≤ a2)) else some false := by kernel_rfl
noncomputable def FsAreOffsets (k : Nat) (a0 : TProgram) (a1 : List Int) : Option (Bool) := den E k 54 [.agg (avs sProgram a0), .c (.l 3 (.i .i64) a1)]
abbrev CsAreOffsets_0 : Type := (List Int) × TProgram
abbrev VsAreOffsets_0 : Type := Int
def StsAreOffsets_0 (c0 : CsAreOffsets_0) (v0 : VsAreOffsets_0) : St := ⟨34, 1, [(1, .c (.l 3 (.i .i64) c0.1)), (2, cP 0), (5, cI v0)], [(0, .var (avs sProgram c0.2))]⟩
noncomputable def BsAreOffsets_0 {R : Type} (k : Nat) (X0 : VsAreOffsets_0 → Bool → Int → Bool → Option R) (X1 : VsAreOffsets_0 → Bool → Option R) (X2 : VsAreOffsets_0 → Option R) (c0 : CsAreOffsets_0) (rec : VsAreOffsets_0 → Option R) (v0 : VsAreOffsets_0) : Option R := if (decide (v0 < (c0.1.length : Int))) = true then (Fsl1In k c0.2.2.2.1 0 5).bind fun p1 => if ((!p1) == false) = true then if 0 ≤ v0 then ix c0.1 v0.toNat fun x2 => (Fsl1In k x2 (IntKind.i64.wrap (0 - c0.2.2.2.1)) c0.2.2.2.1).bind fun p3 => if (!p3) = true then X0 v0 p1 x2 p3 else rec (IntKind.i64.wrap (v0 + 1)) else none else X1 v0 p1 else X2 v0
noncomputable def LsAreOffsets_0 {R : Type} (k : Nat) (X0 : VsAreOffsets_0 → Bool → Int → Bool → Option R) (X1 : VsAreOffsets_0 → Bool → Option R) (X2 : VsAreOffsets_0 → Option R) (c : CsAreOffsets_0) : Nat → VsAreOffsets_0 → Option R
 | 0, _ => none
 | n + 1, v => BsAreOffsets_0 k X0 X1 X2 c (LsAreOffsets_0 k X0 X1 X2 c n) v
noncomputable def fsAreOffsets_0 {R : Type} (k : Nat) (K : Ex → St → Option R) (c : CsAreOffsets_0) (n : Nat) (v : VsAreOffsets_0) : Option R := lpr E k 54 Tryz.f54 0 [0, 1, 2, 5] n (StsAreOffsets_0 c v) K
theorem qsAreOffsets_0 {R : Type} (k : Nat) (K : Ex → St → Option R) (X0 X1 X2 c) (h : QL (fsAreOffsets_0 k K c) (BsAreOffsets_0 k X0 X1 X2 c)) (v) : LsAreOffsets_0 k X0 X1 X2 c k v = fsAreOffsets_0 k K c k v := loop_q h (fun _ => rfl) (fun _ _ => rfl) (fun _ => rfl) k v
noncomputable def NsAreOffsets : Ex → St → Option (Bool) := finish E (rs 54) Tryz.f54
theorem esAreOffsets (k : Nat) (a0 : TProgram) (a1 : List Int) : FsAreOffsets (k + 1) a0 a1 = LsAreOffsets_0 k (fun v0 p1 x2 p3 => some false) (fun v0 p1 => some false) (fun v0 => some ((a1.length : Int) == a0.1)) (a1, a0) k 0 := by
 simp (maxSteps := 9999999) (disch := (refine QL.mk fun n0 v => ?_; kernel_rfl)) only [↓qsAreOffsets_0 (R := Bool) k (kon0 E k 54 Tryz.f54 0 NsAreOffsets)]
 kernel_rfl
noncomputable def FsIsSpan (k : Nat) (a0 : I2) : Option (Bool) := den E k 146 [.agg [vI a0.1, vI a0.2]]
theorem esIsSpan (k : Nat) (a0 : I2) : FsIsSpan (k + 1) a0 = if ((decide (a0.1 ≥ 0)) == true) = true then if ((decide (a0.2 ≤ 1000)) == true) = true then some (decide (a0.1 < a0.2)) else some false else some false := by kernel_rfl
noncomputable def FsIsFault (k : Nat) (a0 : I4) (a1 : Int) : Option (Bool) := den E k 49 [.agg (avs sI4 a0), cI a1]
theorem esIsFault (k : Nat) (a0 : I4) (a1 : Int) : FsIsFault (k + 1) a0 a1 = if ((decide (a0.1 ≥ 0)) == true) = true then if ((decide (a0.1 < a1)) == true) = true then if ((decide (a0.2.1 ≥ -1)) == true) = true then if ((decide (a0.2.1 < a1)) == true) = true then if ((a0.1 != a0.2.1) == true) = true then (FsIsSpan k a0.2.2).bind fun p1 => some p1 else some false else some false else some false else some false else some false := by kernel_rfl
noncomputable def FsIsLaw (k : Nat) (a0 : List Int) (a1 : TProgram) : Option (Bool) := den E k 52 [.agg [.l 3 (.i .i64) a0], .agg (avs sProgram a1)]
abbrev CsIsLaw_0 : Type := (List Int) × TProgram
abbrev VsIsLaw_0 : Type := Int
def StsIsLaw_0 (c0 : CsIsLaw_0) (v0 : VsIsLaw_0) : St := ⟨43, 2, [(2, cP 0), (3, cP 1), (5, cI v0)], [(0, .var [.l 3 (.i .i64) c0.1]), (1, .var (avs sProgram c0.2))]⟩
noncomputable def BsIsLaw_0 {R : Type} (k : Nat) (X0 : VsIsLaw_0 → Int → Int → Option R) (X1 : VsIsLaw_0 → Int → Option R) (X2 : VsIsLaw_0 → Int → Option R) (X3 : VsIsLaw_0 → Option R) (c0 : CsIsLaw_0) (rec : VsIsLaw_0 → Option R) (v0 : VsIsLaw_0) : Option R := if (decide (v0 < (c0.1.length : Int))) = true then if 0 ≤ v0 then ix c0.1 v0.toNat fun x1 => if ((decide (x1 < c0.2.2.1)) == false) = true then if ((decide (x1 ≥ c0.2.1)) == false) = true then if ((decide (v0 > 0)) == true) = true then if 0 ≤ (IntKind.i64.wrap (v0 - 1)) then ix c0.1 ((IntKind.i64.wrap (v0 - 1)).toNat) fun x2 => if (decide (x2 ≥ x1)) = true then X0 v0 x1 x2 else rec (IntKind.i64.wrap (v0 + 1)) else none else rec (IntKind.i64.wrap (v0 + 1)) else X1 v0 x1 else X2 v0 x1 else none else X3 v0
noncomputable def LsIsLaw_0 {R : Type} (k : Nat) (X0 : VsIsLaw_0 → Int → Int → Option R) (X1 : VsIsLaw_0 → Int → Option R) (X2 : VsIsLaw_0 → Int → Option R) (X3 : VsIsLaw_0 → Option R) (c : CsIsLaw_0) : Nat → VsIsLaw_0 → Option R
 | 0, _ => none
 | n + 1, v => BsIsLaw_0 k X0 X1 X2 X3 c (LsIsLaw_0 k X0 X1 X2 X3 c n) v
noncomputable def fsIsLaw_0 {R : Type} (k : Nat) (K : Ex → St → Option R) (c : CsIsLaw_0) (n : Nat) (v : VsIsLaw_0) : Option R := lpr E k 52 Tryz.f52 0 [0, 2, 3, 5] n (StsIsLaw_0 c v) K
theorem qsIsLaw_0 {R : Type} (k : Nat) (K : Ex → St → Option R) (X0 X1 X2 X3 c) (h : QL (fsIsLaw_0 k K c) (BsIsLaw_0 k X0 X1 X2 X3 c)) (v) : LsIsLaw_0 k X0 X1 X2 X3 c k v = fsIsLaw_0 k K c k v := loop_q h (fun _ => rfl) (fun _ _ => rfl) (fun _ => rfl) k v
noncomputable def NsIsLaw : Ex → St → Option (Bool) := finish E (rs 52) Tryz.f52
theorem esIsLaw (k : Nat) (a0 : List Int) (a1 : TProgram) : FsIsLaw (k + 1) a0 a1 = LsIsLaw_0 k (fun v0 x1 x2 => some false) (fun v0 x1 => some false) (fun v0 x1 => some false) (fun v0 => some true) (a0, a1) k 0 := by
 simp (maxSteps := 9999999) (disch := (refine QL.mk fun n0 v => ?_; kernel_rfl)) only [↓qsIsLaw_0 (R := Bool) k (kon0 E k 52 Tryz.f52 0 NsIsLaw)]
 kernel_rfl
noncomputable def Fsl17Frame (k : Nat) (a0 : Int) (a1 : Int) (a2 : Int) : Option (Bool) := den E k 150 [cI a0, cI a1, cI a2]
theorem esl17Frame (k : Nat) (a0 : Int) (a1 : Int) (a2 : Int) : Fsl17Frame (k + 1) a0 a1 a2 = (Fsl1In k a0 1 12).bind fun p1 => if (p1 == true) = true then (Fsl1In k a1 0 a0).bind fun p2 => if (p2 == true) = true then (Fsl1In k a2 0 5).bind fun p3 => some p3 else some false else some false := by kernel_rfl
noncomputable def FsEqualInts (k : Nat) (a0 : List Int) (a1 : List Int) : Option (Bool) := den E k 311 [.c (.l 3 (.i .i64) a0), .c (.l 3 (.i .i64) a1)]
abbrev CsEqualInts_0 : Type := (List Int) × (List Int)
abbrev VsEqualInts_0 : Type := Int
def StsEqualInts_0 (c0 : CsEqualInts_0) (v0 : VsEqualInts_0) : St := ⟨26, 0, [(0, .c (.l 3 (.i .i64) c0.1)), (1, .c (.l 3 (.i .i64) c0.2)), (5, cI v0)], []⟩
noncomputable def BsEqualInts_0 {R : Type} (k : Nat) (X0 : VsEqualInts_0 → Int → Int → Option R) (X1 : VsEqualInts_0 → Option R) (c0 : CsEqualInts_0) (rec : VsEqualInts_0 → Option R) (v0 : VsEqualInts_0) : Option R := if (decide (v0 < (c0.1.length : Int))) = true then if 0 ≤ v0 then ix c0.1 v0.toNat fun x1 => if 0 ≤ v0 then ix c0.2 v0.toNat fun x2 => if (x1 != x2) = true then X0 v0 x1 x2 else rec (IntKind.i64.wrap (v0 + 1)) else none else none else X1 v0
noncomputable def LsEqualInts_0 {R : Type} (k : Nat) (X0 : VsEqualInts_0 → Int → Int → Option R) (X1 : VsEqualInts_0 → Option R) (c : CsEqualInts_0) : Nat → VsEqualInts_0 → Option R
 | 0, _ => none
 | n + 1, v => BsEqualInts_0 k X0 X1 c (LsEqualInts_0 k X0 X1 c n) v
noncomputable def fsEqualInts_0 {R : Type} (k : Nat) (K : Ex → St → Option R) (c : CsEqualInts_0) (n : Nat) (v : VsEqualInts_0) : Option R := lpr E k 311 Tryz.f311 0 [0, 0, 1, 5] n (StsEqualInts_0 c v) K
theorem qsEqualInts_0 {R : Type} (k : Nat) (K : Ex → St → Option R) (X0 X1 c) (h : QL (fsEqualInts_0 k K c) (BsEqualInts_0 k X0 X1 c)) (v) : LsEqualInts_0 k X0 X1 c k v = fsEqualInts_0 k K c k v := loop_q h (fun _ => rfl) (fun _ _ => rfl) (fun _ => rfl) k v
noncomputable def NsEqualInts : Ex → St → Option (Bool) := finish E (rs 311) Tryz.f311
theorem esEqualInts (k : Nat) (a0 : List Int) (a1 : List Int) : FsEqualInts (k + 1) a0 a1 = if ((a0.length : Int) != (a1.length : Int)) = true then some false else LsEqualInts_0 k (fun v0 x1 x2 => some false) (fun v0 => some true) (a0, a1) k 0 := by
 simp (maxSteps := 9999999) (disch := (refine QL.mk fun n0 v => ?_; kernel_rfl)) only [↓qsEqualInts_0 (R := Bool) k (kon0 E k 311 Tryz.f311 0 NsEqualInts)]
 kernel_rfl
noncomputable def FsEqualTables (k : Nat) (a0 : Int × (List Int) × List Int) (a1 : Int × (List Int) × List Int) : Option (Bool) := den E k 247 [.agg (avs sTable a0), .agg (avs sTable a1)]
theorem esEqualTables (k : Nat) (a0 : Int × (List Int) × List Int) (a1 : Int × (List Int) × List Int) : FsEqualTables (k + 1) a0 a1 = if ((a0.1 == a1.1) == true) = true then (FsEqualInts k a0.2.1 a1.2.1).bind fun p1 => if (p1 == true) = true then (FsEqualInts k a0.2.2 a1.2.2).bind fun p2 => some p2 else some false else some false := by kernel_rfl
noncomputable def FsNeighborsIn (k : Nat) (a0 : List I2) (a1 : Int) : Option (List Int) := den E k 339 [.c (.l 348 sI2 a0), cI a1]
abbrev CsNeighborsIn_1 : Type := (List I2) × Int × Int × Int × (List Int)
abbrev VsNeighborsIn_1 : Type := Int
def StsNeighborsIn_1 (c1 : CsNeighborsIn_1) (v1 : VsNeighborsIn_1) : St := ⟨79, 1, [(0, .c (.l 348 sI2 c1.1)), (1, cI c1.2.1), (5, .c (.ref 0)), (6, cI c1.2.2.1), (7, cI c1.2.2.2.1), (8, cI v1)], [(0, .arr 3 (.i .i64) c1.2.2.2.2)]⟩
noncomputable def BsNeighborsIn_1 {R : Type} (k : Nat) (X0 : VsNeighborsIn_1 → Int → Option R) (X1 : VsNeighborsIn_1 → Option R) (c1 : CsNeighborsIn_1) (rec : VsNeighborsIn_1 → Option R) (v1 : VsNeighborsIn_1) : Option R := if ((decide (v1 < (c1.2.2.2.2.length : Int))) == true) = true then if 0 ≤ v1 then if v1 < (c1.2.2.2.2.length : Int) then ix c1.2.2.2.2 v1.toNat fun x3 => if (decide (x3 < c1.2.2.2.1)) = true then rec (IntKind.i64.wrap (v1 + 1)) else X0 v1 x3 else none else none else X1 v1
noncomputable def LsNeighborsIn_1 {R : Type} (k : Nat) (X0 : VsNeighborsIn_1 → Int → Option R) (X1 : VsNeighborsIn_1 → Option R) (c : CsNeighborsIn_1) : Nat → VsNeighborsIn_1 → Option R
 | 0, _ => none
 | n + 1, v => BsNeighborsIn_1 k X0 X1 c (LsNeighborsIn_1 k X0 X1 c n) v
noncomputable def fsNeighborsIn_1 {R : Type} (k : Nat) (K : Ex → St → Option R) (c : CsNeighborsIn_1) (n : Nat) (v : VsNeighborsIn_1) : Option R := lpr E k 339 Tryz.f339 1 [0, 0, 1, 5, 6, 7, 8] n (StsNeighborsIn_1 c v) K
theorem qsNeighborsIn_1 {R : Type} (k : Nat) (K : Ex → St → Option R) (X0 X1 c) (h : QL (fsNeighborsIn_1 k K c) (BsNeighborsIn_1 k X0 X1 c)) (v) : LsNeighborsIn_1 k X0 X1 c k v = fsNeighborsIn_1 k K c k v := loop_q h (fun _ => rfl) (fun _ _ => rfl) (fun _ => rfl) k v
abbrev CsNeighborsIn_0 : Type := (List I2) × Int
abbrev VsNeighborsIn_0 : Type := Int × (List Int)
def StsNeighborsIn_0 (c0 : CsNeighborsIn_0) (v0 : VsNeighborsIn_0) : St := ⟨79, 1, [(0, .c (.l 348 sI2 c0.1)), (1, cI c0.2), (5, .c (.ref 0)), (6, cI v0.1)], [(0, .arr 3 (.i .i64) v0.2)]⟩
noncomputable def BsNeighborsIn_0 {R : Type} (k : Nat) (X0 : VsNeighborsIn_0 → Option R) (c0 : CsNeighborsIn_0) (rec : VsNeighborsIn_0 → Option R) (v0 : VsNeighborsIn_0) : Option R := if (decide (v0.1 < (c0.1.length : Int))) = true then if 0 ≤ v0.1 then ix c0.1 v0.1.toNat fun x1 => if (x1.1 == c0.2) = true then if 0 ≤ v0.1 then ix c0.1 v0.1.toNat fun x2 => LsNeighborsIn_1 k (fun v1 x3 => if ((v1 == (v0.2.length : Int)) == false) = true then if 0 ≤ v1 then if v1 < (v0.2.length : Int) then ix v0.2 v1.toNat fun x4 => if (x4 != x2.2) = true then if 0 ≤ v1 then if v1 ≤ (v0.2.length : Int) then if (0 + ((v0.2.take v1.toNat).drop ((0 : Int).toNat)).length) * 8 ≤ 140737488355328 then if (((v0.2.take v1.toNat).drop ((0 : Int).toNat)).length + ([x2.2]).length) * 8 ≤ 140737488355328 then if 0 ≤ v1 then if v1 ≤ (v0.2.length : Int) then if (v0.2.length : Int) ≤ (v0.2.length : Int) then if ((((v0.2.take v1.toNat).drop ((0 : Int).toNat)) ++ [x2.2]).length + ((v0.2.take ((v0.2.length : Int).toNat)).drop v1.toNat).length) * 8 ≤ 140737488355328 then rec ((IntKind.i64.wrap (v0.1 + 1)), ((((v0.2.take v1.toNat).drop ((0 : Int).toNat)) ++ [x2.2]) ++ ((v0.2.take ((v0.2.length : Int).toNat)).drop v1.toNat))) else none else none else none else none else none else none else none else none else rec ((IntKind.i64.wrap (v0.1 + 1)), v0.2) else none else none else if 0 ≤ v1 then if v1 ≤ (v0.2.length : Int) then if (0 + ((v0.2.take v1.toNat).drop ((0 : Int).toNat)).length) * 8 ≤ 140737488355328 then if (((v0.2.take v1.toNat).drop ((0 : Int).toNat)).length + ([x2.2]).length) * 8 ≤ 140737488355328 then if 0 ≤ v1 then if v1 ≤ (v0.2.length : Int) then if (v0.2.length : Int) ≤ (v0.2.length : Int) then if ((((v0.2.take v1.toNat).drop ((0 : Int).toNat)) ++ [x2.2]).length + ((v0.2.take ((v0.2.length : Int).toNat)).drop v1.toNat).length) * 8 ≤ 140737488355328 then rec ((IntKind.i64.wrap (v0.1 + 1)), ((((v0.2.take v1.toNat).drop ((0 : Int).toNat)) ++ [x2.2]) ++ ((v0.2.take ((v0.2.length : Int).toNat)).drop v1.toNat))) else none else none else none else none else none else none else none else none) (fun v1 => if ((v1 == (v0.2.length : Int)) == false) = true then if 0 ≤ v1 then if v1 < (v0.2.length : Int) then ix v0.2 v1.toNat fun x5 => if (x5 != x2.2) = true then if 0 ≤ v1 then if v1 ≤ (v0.2.length : Int) then if (0 + ((v0.2.take v1.toNat).drop ((0 : Int).toNat)).length) * 8 ≤ 140737488355328 then if (((v0.2.take v1.toNat).drop ((0 : Int).toNat)).length + ([x2.2]).length) * 8 ≤ 140737488355328 then if 0 ≤ v1 then if v1 ≤ (v0.2.length : Int) then if (v0.2.length : Int) ≤ (v0.2.length : Int) then if ((((v0.2.take v1.toNat).drop ((0 : Int).toNat)) ++ [x2.2]).length + ((v0.2.take ((v0.2.length : Int).toNat)).drop v1.toNat).length) * 8 ≤ 140737488355328 then rec ((IntKind.i64.wrap (v0.1 + 1)), ((((v0.2.take v1.toNat).drop ((0 : Int).toNat)) ++ [x2.2]) ++ ((v0.2.take ((v0.2.length : Int).toNat)).drop v1.toNat))) else none else none else none else none else none else none else none else none else rec ((IntKind.i64.wrap (v0.1 + 1)), v0.2) else none else none else if 0 ≤ v1 then if v1 ≤ (v0.2.length : Int) then if (0 + ((v0.2.take v1.toNat).drop ((0 : Int).toNat)).length) * 8 ≤ 140737488355328 then if (((v0.2.take v1.toNat).drop ((0 : Int).toNat)).length + ([x2.2]).length) * 8 ≤ 140737488355328 then if 0 ≤ v1 then if v1 ≤ (v0.2.length : Int) then if (v0.2.length : Int) ≤ (v0.2.length : Int) then if ((((v0.2.take v1.toNat).drop ((0 : Int).toNat)) ++ [x2.2]).length + ((v0.2.take ((v0.2.length : Int).toNat)).drop v1.toNat).length) * 8 ≤ 140737488355328 then rec ((IntKind.i64.wrap (v0.1 + 1)), ((((v0.2.take v1.toNat).drop ((0 : Int).toNat)) ++ [x2.2]) ++ ((v0.2.take ((v0.2.length : Int).toNat)).drop v1.toNat))) else none else none else none else none else none else none else none else none) (c0.1, c0.2, v0.1, x2.2, v0.2) k 0 else none else if 0 ≤ v0.1 then ix c0.1 v0.1.toNat fun x6 => if (x6.2 == c0.2) = true then if 0 ≤ v0.1 then ix c0.1 v0.1.toNat fun x7 => LsNeighborsIn_1 k (fun v1 x3 => if ((v1 == (v0.2.length : Int)) == false) = true then if 0 ≤ v1 then if v1 < (v0.2.length : Int) then ix v0.2 v1.toNat fun x8 => if (x8 != x7.1) = true then if 0 ≤ v1 then if v1 ≤ (v0.2.length : Int) then if (0 + ((v0.2.take v1.toNat).drop ((0 : Int).toNat)).length) * 8 ≤ 140737488355328 then if (((v0.2.take v1.toNat).drop ((0 : Int).toNat)).length + ([x7.1]).length) * 8 ≤ 140737488355328 then if 0 ≤ v1 then if v1 ≤ (v0.2.length : Int) then if (v0.2.length : Int) ≤ (v0.2.length : Int) then if ((((v0.2.take v1.toNat).drop ((0 : Int).toNat)) ++ [x7.1]).length + ((v0.2.take ((v0.2.length : Int).toNat)).drop v1.toNat).length) * 8 ≤ 140737488355328 then rec ((IntKind.i64.wrap (v0.1 + 1)), ((((v0.2.take v1.toNat).drop ((0 : Int).toNat)) ++ [x7.1]) ++ ((v0.2.take ((v0.2.length : Int).toNat)).drop v1.toNat))) else none else none else none else none else none else none else none else none else rec ((IntKind.i64.wrap (v0.1 + 1)), v0.2) else none else none else if 0 ≤ v1 then if v1 ≤ (v0.2.length : Int) then if (0 + ((v0.2.take v1.toNat).drop ((0 : Int).toNat)).length) * 8 ≤ 140737488355328 then if (((v0.2.take v1.toNat).drop ((0 : Int).toNat)).length + ([x7.1]).length) * 8 ≤ 140737488355328 then if 0 ≤ v1 then if v1 ≤ (v0.2.length : Int) then if (v0.2.length : Int) ≤ (v0.2.length : Int) then if ((((v0.2.take v1.toNat).drop ((0 : Int).toNat)) ++ [x7.1]).length + ((v0.2.take ((v0.2.length : Int).toNat)).drop v1.toNat).length) * 8 ≤ 140737488355328 then rec ((IntKind.i64.wrap (v0.1 + 1)), ((((v0.2.take v1.toNat).drop ((0 : Int).toNat)) ++ [x7.1]) ++ ((v0.2.take ((v0.2.length : Int).toNat)).drop v1.toNat))) else none else none else none else none else none else none else none else none) (fun v1 => if ((v1 == (v0.2.length : Int)) == false) = true then if 0 ≤ v1 then if v1 < (v0.2.length : Int) then ix v0.2 v1.toNat fun x9 => if (x9 != x7.1) = true then if 0 ≤ v1 then if v1 ≤ (v0.2.length : Int) then if (0 + ((v0.2.take v1.toNat).drop ((0 : Int).toNat)).length) * 8 ≤ 140737488355328 then if (((v0.2.take v1.toNat).drop ((0 : Int).toNat)).length + ([x7.1]).length) * 8 ≤ 140737488355328 then if 0 ≤ v1 then if v1 ≤ (v0.2.length : Int) then if (v0.2.length : Int) ≤ (v0.2.length : Int) then if ((((v0.2.take v1.toNat).drop ((0 : Int).toNat)) ++ [x7.1]).length + ((v0.2.take ((v0.2.length : Int).toNat)).drop v1.toNat).length) * 8 ≤ 140737488355328 then rec ((IntKind.i64.wrap (v0.1 + 1)), ((((v0.2.take v1.toNat).drop ((0 : Int).toNat)) ++ [x7.1]) ++ ((v0.2.take ((v0.2.length : Int).toNat)).drop v1.toNat))) else none else none else none else none else none else none else none else none else rec ((IntKind.i64.wrap (v0.1 + 1)), v0.2) else none else none else if 0 ≤ v1 then if v1 ≤ (v0.2.length : Int) then if (0 + ((v0.2.take v1.toNat).drop ((0 : Int).toNat)).length) * 8 ≤ 140737488355328 then if (((v0.2.take v1.toNat).drop ((0 : Int).toNat)).length + ([x7.1]).length) * 8 ≤ 140737488355328 then if 0 ≤ v1 then if v1 ≤ (v0.2.length : Int) then if (v0.2.length : Int) ≤ (v0.2.length : Int) then if ((((v0.2.take v1.toNat).drop ((0 : Int).toNat)) ++ [x7.1]).length + ((v0.2.take ((v0.2.length : Int).toNat)).drop v1.toNat).length) * 8 ≤ 140737488355328 then rec ((IntKind.i64.wrap (v0.1 + 1)), ((((v0.2.take v1.toNat).drop ((0 : Int).toNat)) ++ [x7.1]) ++ ((v0.2.take ((v0.2.length : Int).toNat)).drop v1.toNat))) else none else none else none else none else none else none else none else none) (c0.1, c0.2, v0.1, x7.1, v0.2) k 0 else none else rec ((IntKind.i64.wrap (v0.1 + 1)), v0.2) else none else none else X0 v0
noncomputable def LsNeighborsIn_0 {R : Type} (k : Nat) (X0 : VsNeighborsIn_0 → Option R) (c : CsNeighborsIn_0) : Nat → VsNeighborsIn_0 → Option R
 | 0, _ => none
 | n + 1, v => BsNeighborsIn_0 k X0 c (LsNeighborsIn_0 k X0 c n) v
noncomputable def fsNeighborsIn_0 {R : Type} (k : Nat) (K : Ex → St → Option R) (c : CsNeighborsIn_0) (n : Nat) (v : VsNeighborsIn_0) : Option R := lpr E k 339 Tryz.f339 0 [0, 0, 1, 5, 6] n (StsNeighborsIn_0 c v) K
theorem qsNeighborsIn_0 {R : Type} (k : Nat) (K : Ex → St → Option R) (X0 c) (h : QL (fsNeighborsIn_0 k K c) (BsNeighborsIn_0 k X0 c)) (v) : LsNeighborsIn_0 k X0 c k v = fsNeighborsIn_0 k K c k v := loop_q h (fun _ => rfl) (fun _ _ => rfl) (fun _ => rfl) k v
noncomputable def NsNeighborsIn : Ex → St → Option (List Int) := finish E (rs 339) Tryz.f339
theorem esNeighborsIn (k : Nat) (a0 : List I2) (a1 : Int) : FsNeighborsIn (k + 1) a0 a1 = LsNeighborsIn_0 k (fun v0 => some v0.2) (a0, a1) k (0, []) := by
 simp (maxSteps := 9999999) (disch := (refine QL.mk fun n0 v => ?_; unfold BsNeighborsIn_0; simp (maxSteps := 9999999) (disch := (refine QL.mk fun n1 v => ?_; kernel_rfl)) only [↓qsNeighborsIn_1 (R := List Int) k (kon1 E k 339 Tryz.f339 0 1 n0 [0, 0, 1, 5, 6] (kon0 E k 339 Tryz.f339 0 NsNeighborsIn))]; kernel_rfl)) only [↓qsNeighborsIn_0 (R := List Int) k (kon0 E k 339 Tryz.f339 0 NsNeighborsIn)]
 kernel_rfl
noncomputable def Fsl14Ok (k : Nat) (a0 : Int) (a1 : Int) : Option (Bool) := den E k 372 [cI a0, cI a1]
theorem esl14Ok (k : Nat) (a0 : Int) (a1 : Int) : Fsl14Ok (k + 1) a0 a1 = (Fsl1In k a0 1 12).bind fun p1 => if (p1 == true) = true then (Fsl1In k a1 0 (IntKind.i64.wrap (a0 - 1))).bind fun p2 => some p2 else some false := by kernel_rfl
noncomputable def FsDistancesTo (k : Nat) (a0 : List I2) (a1 : Int) (a2 : Int) (a3 : Int) : Option (List Int) := den E k 312 [.c (.l 348 sI2 a0), cI a1, cI a2, cI a3]
abbrev CsDistancesTo_2 : Type := (List I2) × Int × Int × Int × Int × Int × Int × (List Int)
abbrev VsDistancesTo_2 : Type := Int × (List Int) × (List Int)
def StsDistancesTo_2 (c2 : CsDistancesTo_2) (v2 : VsDistancesTo_2) : St := ⟨98, 3, [(0, .c (.l 348 sI2 c2.1)), (1, cI c2.2.1), (2, cI c2.2.2.1), (3, cI c2.2.2.2.1), (9, .c (.ref 0)), (10, cI c2.2.2.2.2.1), (11, .c (.ref 1)), (12, cI c2.2.2.2.2.2.1), (13, cI c2.2.2.2.2.2.2.1), (14, .c (.ref 2)), (15, cI v2.1)], [(0, .arr 3 (.i .i64) v2.2.1), (1, .arr 3 (.i .i64) v2.2.2), (2, .arr 3 (.i .i64) c2.2.2.2.2.2.2.2)]⟩
noncomputable def BsDistancesTo_2 {R : Type} (k : Nat) (X0 : VsDistancesTo_2 → Option R) (c2 : CsDistancesTo_2) (rec : VsDistancesTo_2 → Option R) (v2 : VsDistancesTo_2) : Option R := if (decide (v2.1 < (c2.2.2.2.2.2.2.2.length : Int))) = true then if 0 ≤ v2.1 then if v2.1 < (c2.2.2.2.2.2.2.2.length : Int) then ix c2.2.2.2.2.2.2.2 v2.1.toNat fun x5 => (Fsl1In k x5 0 (IntKind.i64.wrap (c2.2.1 - 1))).bind fun p6 => if (p6 == true) = true then if 0 ≤ v2.1 then if v2.1 < (c2.2.2.2.2.2.2.2.length : Int) then ix c2.2.2.2.2.2.2.2 v2.1.toNat fun x7 => if 0 ≤ x7 then if x7 < (v2.2.1.length : Int) then ix v2.2.1 x7.toNat fun x8 => if (decide (x8 < 0)) = true then if 0 ≤ v2.1 then if v2.1 < (c2.2.2.2.2.2.2.2.length : Int) then ix c2.2.2.2.2.2.2.2 v2.1.toNat fun x9 => if 0 ≤ c2.2.2.2.2.2.2.1 then if c2.2.2.2.2.2.2.1 < (v2.2.1.length : Int) then ix v2.2.1 c2.2.2.2.2.2.2.1.toNat fun x10 => if 0 ≤ x9 then if x9 < (v2.2.1.length : Int) then ix v2.2.1 x9.toNat fun y11 => if 0 ≤ v2.1 then if v2.1 < (c2.2.2.2.2.2.2.2.length : Int) then ix c2.2.2.2.2.2.2.2 v2.1.toNat fun x12 => if (v2.2.2.length + ([x12]).length) * 8 ≤ 140737488355328 then rec ((IntKind.i64.wrap (v2.1 + 1)), (v2.2.1.set x9.toNat (IntKind.i64.wrap (x10 + 1))), (v2.2.2 ++ [x12])) else none else none else none else none else none else none else none else none else none else rec ((IntKind.i64.wrap (v2.1 + 1)), v2.2.1, v2.2.2) else none else none else none else none else rec ((IntKind.i64.wrap (v2.1 + 1)), v2.2.1, v2.2.2) else none else none else X0 v2
noncomputable def LsDistancesTo_2 {R : Type} (k : Nat) (X0 : VsDistancesTo_2 → Option R) (c : CsDistancesTo_2) : Nat → VsDistancesTo_2 → Option R
 | 0, _ => none
 | n + 1, v => BsDistancesTo_2 k X0 c (LsDistancesTo_2 k X0 c n) v
noncomputable def fsDistancesTo_2 {R : Type} (k : Nat) (K : Ex → St → Option R) (c : CsDistancesTo_2) (n : Nat) (v : VsDistancesTo_2) : Option R := lpr E k 312 Tryz.f312 2 [0, 0, 1, 2, 3, 9, 10, 11, 12, 13, 14, 15] n (StsDistancesTo_2 c v) K
theorem qsDistancesTo_2 {R : Type} (k : Nat) (K : Ex → St → Option R) (X0 c) (h : QL (fsDistancesTo_2 k K c) (BsDistancesTo_2 k X0 c)) (v) : LsDistancesTo_2 k X0 c k v = fsDistancesTo_2 k K c k v := loop_q h (fun _ => rfl) (fun _ _ => rfl) (fun _ => rfl) k v
abbrev CsDistancesTo_1 : Type := (List I2) × Int × Int × Int × Int
abbrev VsDistancesTo_1 : Type := Int × (List Int) × (List Int)
def StsDistancesTo_1 (c1 : CsDistancesTo_1) (v1 : VsDistancesTo_1) : St := ⟨98, 2, [(0, .c (.l 348 sI2 c1.1)), (1, cI c1.2.1), (2, cI c1.2.2.1), (3, cI c1.2.2.2.1), (9, .c (.ref 0)), (10, cI c1.2.2.2.2), (11, .c (.ref 1)), (12, cI v1.1)], [(0, .arr 3 (.i .i64) v1.2.1), (1, .arr 3 (.i .i64) v1.2.2)]⟩
noncomputable def BsDistancesTo_1 {R : Type} (k : Nat) (X0 : VsDistancesTo_1 → Option R) (c1 : CsDistancesTo_1) (rec : VsDistancesTo_1 → Option R) (v1 : VsDistancesTo_1) : Option R := if (decide (v1.1 < (v1.2.2.length : Int))) = true then if 0 ≤ v1.1 then if v1.1 < (v1.2.2.length : Int) then ix v1.2.2 v1.1.toNat fun x3 => if ((x3 != c1.2.2.2.1) == true) = true then if (decide (x3 ≥ c1.2.2.1)) = true then rec ((IntKind.i64.wrap (v1.1 + 1)), v1.2.1, v1.2.2) else (FsNeighborsIn k c1.1 x3).bind fun p4 => LsDistancesTo_2 k (fun v2 => rec ((IntKind.i64.wrap (v1.1 + 1)), v2.2.1, v2.2.2)) (c1.1, c1.2.1, c1.2.2.1, c1.2.2.2.1, c1.2.2.2.2, v1.1, x3, p4) k (0, v1.2.1, v1.2.2) else (FsNeighborsIn k c1.1 x3).bind fun p13 => LsDistancesTo_2 k (fun v2 => rec ((IntKind.i64.wrap (v1.1 + 1)), v2.2.1, v2.2.2)) (c1.1, c1.2.1, c1.2.2.1, c1.2.2.2.1, c1.2.2.2.2, v1.1, x3, p13) k (0, v1.2.1, v1.2.2) else none else none else X0 v1
noncomputable def LsDistancesTo_1 {R : Type} (k : Nat) (X0 : VsDistancesTo_1 → Option R) (c : CsDistancesTo_1) : Nat → VsDistancesTo_1 → Option R
 | 0, _ => none
 | n + 1, v => BsDistancesTo_1 k X0 c (LsDistancesTo_1 k X0 c n) v
noncomputable def fsDistancesTo_1 {R : Type} (k : Nat) (K : Ex → St → Option R) (c : CsDistancesTo_1) (n : Nat) (v : VsDistancesTo_1) : Option R := lpr E k 312 Tryz.f312 1 [0, 0, 1, 2, 3, 9, 10, 11, 12] n (StsDistancesTo_1 c v) K
theorem qsDistancesTo_1 {R : Type} (k : Nat) (K : Ex → St → Option R) (X0 c) (h : QL (fsDistancesTo_1 k K c) (BsDistancesTo_1 k X0 c)) (v) : LsDistancesTo_1 k X0 c k v = fsDistancesTo_1 k K c k v := loop_q h (fun _ => rfl) (fun _ _ => rfl) (fun _ => rfl) k v
abbrev CsDistancesTo_0 : Type := (List I2) × Int × Int × Int
abbrev VsDistancesTo_0 : Type := Int × (List Int)
def StsDistancesTo_0 (c0 : CsDistancesTo_0) (v0 : VsDistancesTo_0) : St := ⟨98, 1, [(0, .c (.l 348 sI2 c0.1)), (1, cI c0.2.1), (2, cI c0.2.2.1), (3, cI c0.2.2.2), (9, .c (.ref 0)), (10, cI v0.1)], [(0, .arr 3 (.i .i64) v0.2)]⟩
noncomputable def BsDistancesTo_0 {R : Type} (k : Nat) (X0 : VsDistancesTo_0 → Option R) (c0 : CsDistancesTo_0) (rec : VsDistancesTo_0 → Option R) (v0 : VsDistancesTo_0) : Option R := if (decide (v0.1 < c0.2.1)) = true then if (v0.2.length + ([-1]).length) * 8 ≤ 140737488355328 then rec ((IntKind.i64.wrap (v0.1 + 1)), (v0.2 ++ [-1])) else none else X0 v0
noncomputable def LsDistancesTo_0 {R : Type} (k : Nat) (X0 : VsDistancesTo_0 → Option R) (c : CsDistancesTo_0) : Nat → VsDistancesTo_0 → Option R
 | 0, _ => none
 | n + 1, v => BsDistancesTo_0 k X0 c (LsDistancesTo_0 k X0 c n) v
noncomputable def fsDistancesTo_0 {R : Type} (k : Nat) (K : Ex → St → Option R) (c : CsDistancesTo_0) (n : Nat) (v : VsDistancesTo_0) : Option R := lpr E k 312 Tryz.f312 0 [0, 0, 1, 2, 3, 9, 10] n (StsDistancesTo_0 c v) K
theorem qsDistancesTo_0 {R : Type} (k : Nat) (K : Ex → St → Option R) (X0 c) (h : QL (fsDistancesTo_0 k K c) (BsDistancesTo_0 k X0 c)) (v) : LsDistancesTo_0 k X0 c k v = fsDistancesTo_0 k K c k v := loop_q h (fun _ => rfl) (fun _ _ => rfl) (fun _ => rfl) k v
noncomputable def NsDistancesTo : Ex → St → Option (List Int) := finish E (rs 312) Tryz.f312
theorem esDistancesTo (k : Nat) (a0 : List I2) (a1 : Int) (a2 : Int) (a3 : Int) : FsDistancesTo (k + 1) a0 a1 a2 a3 = (Fsl14Ok k a1 a3).bind fun p1 => if (!p1) = true then some ([]) else LsDistancesTo_0 k (fun v0 => if 0 ≤ a3 then if a3 < (v0.2.length : Int) then ix v0.2 a3.toNat fun y2 => LsDistancesTo_1 k (fun v1 => some v1.2.1) (a0, a1, a2, a3, v0.1) k (0, (v0.2.set a3.toNat 0), [a3]) else none else none) (a0, a1, a2, a3) k (0, []) := by
 simp (maxSteps := 9999999) (disch := (refine QL.mk fun n0 v => ?_; unfold BsDistancesTo_0; simp (maxSteps := 9999999) (disch := (refine QL.mk fun n1 v => ?_; unfold BsDistancesTo_1; simp (maxSteps := 9999999) (disch := (refine QL.mk fun n2 v => ?_; kernel_rfl)) only [↓qsDistancesTo_2 (R := List Int) k (kon1 E k 312 Tryz.f312 1 1 n1 [0, 0, 1, 2, 3, 9, 10, 11, 12] (kon0 E k 312 Tryz.f312 1 NsDistancesTo))]; kernel_rfl)) only [↓qsDistancesTo_1 (R := List Int) k (kon0 E k 312 Tryz.f312 1 NsDistancesTo)]; kernel_rfl)) only [↓qsDistancesTo_0 (R := List Int) k (kon0 E k 312 Tryz.f312 0 NsDistancesTo)]
 kernel_rfl
noncomputable def FsNextTo (k : Nat) (a0 : List I2) (a1 : Int) (a2 : Int) (a3 : Int) : Option (List Int) := den E k 313 [.c (.l 348 sI2 a0), cI a1, cI a2, cI a3]
abbrev CsNextTo_1 : Type := (List I2) × Int × Int × Int × Int × (List Int) × (List Int) × (List Int)
abbrev VsNextTo_1 : Type := Int × Int
def StsNextTo_1 (c1 : CsNextTo_1) (v1 : VsNextTo_1) : St := ⟨84, 3, [(0, .c (.l 348 sI2 c1.1)), (1, cI c1.2.1), (2, cI c1.2.2.1), (3, cI c1.2.2.2.1), (9, .c (.ref 0)), (10, .c (.ref 1)), (11, cI c1.2.2.2.2.1), (12, cI v1.1), (13, .c (.ref 2)), (14, cI v1.2)], [(0, .arr 3 (.i .i64) c1.2.2.2.2.2.1), (1, .arr 3 (.i .i64) c1.2.2.2.2.2.2.1), (2, .arr 3 (.i .i64) c1.2.2.2.2.2.2.2)]⟩
noncomputable def BsNextTo_1 {R : Type} (k : Nat) (X0 : VsNextTo_1 → Int → Option R) (X1 : VsNextTo_1 → Int → Option R) (X2 : VsNextTo_1 → Option R) (c1 : CsNextTo_1) (rec : VsNextTo_1 → Option R) (v1 : VsNextTo_1) : Option R := if ((decide (v1.2 < (c1.2.2.2.2.2.2.2.length : Int))) == true) = true then if 0 ≤ c1.2.2.2.2.1 then if c1.2.2.2.2.1 < (c1.2.2.2.2.2.2.1.length : Int) then ix c1.2.2.2.2.2.2.1 c1.2.2.2.2.1.toNat fun x3 => if ((decide (x3 > 0)) == true) = true then if (decide (v1.1 < 0)) = true then if 0 ≤ v1.2 then if v1.2 < (c1.2.2.2.2.2.2.2.length : Int) then ix c1.2.2.2.2.2.2.2 v1.2.toNat fun x4 => (Fsl1In k x4 0 (IntKind.i64.wrap (c1.2.1 - 1))).bind fun p5 => if (p5 == true) = true then if ((decide (x4 < c1.2.2.1)) == false) = true then if ((x4 == c1.2.2.2.1) == true) = true then if 0 ≤ x4 then if x4 < (c1.2.2.2.2.2.2.1.length : Int) then ix c1.2.2.2.2.2.2.1 x4.toNat fun x6 => if 0 ≤ c1.2.2.2.2.1 then if c1.2.2.2.2.1 < (c1.2.2.2.2.2.2.1.length : Int) then ix c1.2.2.2.2.2.2.1 c1.2.2.2.2.1.toNat fun x7 => if (x6 == (IntKind.i64.wrap (x7 - 1))) = true then rec (x4, (IntKind.i64.wrap (v1.2 + 1))) else rec (v1.1, (IntKind.i64.wrap (v1.2 + 1))) else none else none else none else none else rec (v1.1, (IntKind.i64.wrap (v1.2 + 1))) else if 0 ≤ x4 then if x4 < (c1.2.2.2.2.2.2.1.length : Int) then ix c1.2.2.2.2.2.2.1 x4.toNat fun x8 => if 0 ≤ c1.2.2.2.2.1 then if c1.2.2.2.2.1 < (c1.2.2.2.2.2.2.1.length : Int) then ix c1.2.2.2.2.2.2.1 c1.2.2.2.2.1.toNat fun x9 => if (x8 == (IntKind.i64.wrap (x9 - 1))) = true then rec (x4, (IntKind.i64.wrap (v1.2 + 1))) else rec (v1.1, (IntKind.i64.wrap (v1.2 + 1))) else none else none else none else none else rec (v1.1, (IntKind.i64.wrap (v1.2 + 1))) else none else none else X0 v1 x3 else X1 v1 x3 else none else none else X2 v1
noncomputable def LsNextTo_1 {R : Type} (k : Nat) (X0 : VsNextTo_1 → Int → Option R) (X1 : VsNextTo_1 → Int → Option R) (X2 : VsNextTo_1 → Option R) (c : CsNextTo_1) : Nat → VsNextTo_1 → Option R
 | 0, _ => none
 | n + 1, v => BsNextTo_1 k X0 X1 X2 c (LsNextTo_1 k X0 X1 X2 c n) v
noncomputable def fsNextTo_1 {R : Type} (k : Nat) (K : Ex → St → Option R) (c : CsNextTo_1) (n : Nat) (v : VsNextTo_1) : Option R := lpr E k 313 Tryz.f313 1 [0, 0, 1, 2, 3, 9, 10, 11, 12, 13, 14] n (StsNextTo_1 c v) K
theorem qsNextTo_1 {R : Type} (k : Nat) (K : Ex → St → Option R) (X0 X1 X2 c) (h : QL (fsNextTo_1 k K c) (BsNextTo_1 k X0 X1 X2 c)) (v) : LsNextTo_1 k X0 X1 X2 c k v = fsNextTo_1 k K c k v := loop_q h (fun _ => rfl) (fun _ _ => rfl) (fun _ => rfl) k v
abbrev CsNextTo_0 : Type := (List I2) × Int × Int × Int × (List Int)
abbrev VsNextTo_0 : Type := Int × (List Int)
def StsNextTo_0 (c0 : CsNextTo_0) (v0 : VsNextTo_0) : St := ⟨84, 2, [(0, .c (.l 348 sI2 c0.1)), (1, cI c0.2.1), (2, cI c0.2.2.1), (3, cI c0.2.2.2.1), (9, .c (.ref 0)), (10, .c (.ref 1)), (11, cI v0.1)], [(0, .arr 3 (.i .i64) v0.2), (1, .arr 3 (.i .i64) c0.2.2.2.2)]⟩
noncomputable def BsNextTo_0 {R : Type} (k : Nat) (X0 : VsNextTo_0 → Option R) (c0 : CsNextTo_0) (rec : VsNextTo_0 → Option R) (v0 : VsNextTo_0) : Option R := if (decide (v0.1 < (c0.2.2.2.2.length : Int))) = true then (FsNeighborsIn k c0.1 v0.1).bind fun p2 => LsNextTo_1 k (fun v1 x3 => if (v0.2.length + ([v1.1]).length) * 8 ≤ 140737488355328 then rec ((IntKind.i64.wrap (v0.1 + 1)), (v0.2 ++ [v1.1])) else none) (fun v1 x3 => if (v0.2.length + ([v1.1]).length) * 8 ≤ 140737488355328 then rec ((IntKind.i64.wrap (v0.1 + 1)), (v0.2 ++ [v1.1])) else none) (fun v1 => if (v0.2.length + ([v1.1]).length) * 8 ≤ 140737488355328 then rec ((IntKind.i64.wrap (v0.1 + 1)), (v0.2 ++ [v1.1])) else none) (c0.1, c0.2.1, c0.2.2.1, c0.2.2.2.1, v0.1, v0.2, c0.2.2.2.2, p2) k (-1, 0) else X0 v0
noncomputable def LsNextTo_0 {R : Type} (k : Nat) (X0 : VsNextTo_0 → Option R) (c : CsNextTo_0) : Nat → VsNextTo_0 → Option R
 | 0, _ => none
 | n + 1, v => BsNextTo_0 k X0 c (LsNextTo_0 k X0 c n) v
noncomputable def fsNextTo_0 {R : Type} (k : Nat) (K : Ex → St → Option R) (c : CsNextTo_0) (n : Nat) (v : VsNextTo_0) : Option R := lpr E k 313 Tryz.f313 0 [0, 0, 1, 2, 3, 9, 10, 11] n (StsNextTo_0 c v) K
theorem qsNextTo_0 {R : Type} (k : Nat) (K : Ex → St → Option R) (X0 c) (h : QL (fsNextTo_0 k K c) (BsNextTo_0 k X0 c)) (v) : LsNextTo_0 k X0 c k v = fsNextTo_0 k K c k v := loop_q h (fun _ => rfl) (fun _ _ => rfl) (fun _ => rfl) k v
noncomputable def NsNextTo : Ex → St → Option (List Int) := finish E (rs 313) Tryz.f313
theorem esNextTo (k : Nat) (a0 : List I2) (a1 : Int) (a2 : Int) (a3 : Int) : FsNextTo (k + 1) a0 a1 a2 a3 = (FsDistancesTo k a0 a1 a2 a3).bind fun p1 => LsNextTo_0 k (fun v0 => some v0.2) (a0, a1, a2, a3, p1) k (0, []) := by
 simp (maxSteps := 9999999) (disch := (refine QL.mk fun n0 v => ?_; unfold BsNextTo_0; simp (maxSteps := 9999999) (disch := (refine QL.mk fun n1 v => ?_; kernel_rfl)) only [↓qsNextTo_1 (R := List Int) k (kon1 E k 313 Tryz.f313 0 1 n0 [0, 0, 1, 2, 3, 9, 10, 11] (kon0 E k 313 Tryz.f313 0 NsNextTo))]; kernel_rfl)) only [↓qsNextTo_0 (R := List Int) k (kon0 E k 313 Tryz.f313 0 NsNextTo)]
 kernel_rfl
noncomputable def FsTableOf (k : Nat) (a0 : List I2) (a1 : Int) (a2 : Int) (a3 : Int) : Option (Int × (List Int) × List Int) := den E k 248 [.c (.l 348 sI2 a0), cI a1, cI a2, cI a3]
theorem esTableOf (k : Nat) (a0 : List I2) (a1 : Int) (a2 : Int) (a3 : Int) : FsTableOf (k + 1) a0 a1 a2 a3 = (FsDistancesTo k a0 a1 a2 a3).bind fun p1 => (FsNextTo k a0 a1 a2 a3).bind fun p2 => some (a3, p1, p2) := by kernel_rfl
noncomputable def Fsl17Piece (k : Nat) (a0 : TProgram) (a1 : TPiece) : Option (Bool) := den E k 151 [.agg (avs sProgram a0), .agg (avs sPiece a1)]
abbrev Csl17Piece_0 : Type := TProgram × TPiece
abbrev Vsl17Piece_0 : Type := Int
def Stsl17Piece_0 (c0 : Csl17Piece_0) (v0 : Vsl17Piece_0) : St := ⟨39, 2, [(2, cP 0), (3, cP 1), (5, cI v0)], [(0, .var (avs sProgram c0.1)), (1, .var (avs sPiece c0.2))]⟩
noncomputable def Bsl17Piece_0 {R : Type} (k : Nat) (X0 : Vsl17Piece_0 → (Int × (List Int) × List Int) → (Int × (List Int) × List Int) → Bool → Option R) (X1 : Vsl17Piece_0 → Option R) (c0 : Csl17Piece_0) (rec : Vsl17Piece_0 → Option R) (v0 : Vsl17Piece_0) : Option R := if (decide (v0 < c0.1.1)) = true then if 0 ≤ v0 then ix c0.2.2.2 v0.toNat fun x2 => (FsTableOf k c0.2.2.1 c0.1.1 c0.1.2.1 v0).bind fun p3 => (FsEqualTables k x2 p3).bind fun p4 => if (!p4) = true then X0 v0 x2 p3 p4 else rec (IntKind.i64.wrap (v0 + 1)) else none else X1 v0
noncomputable def Lsl17Piece_0 {R : Type} (k : Nat) (X0 : Vsl17Piece_0 → (Int × (List Int) × List Int) → (Int × (List Int) × List Int) → Bool → Option R) (X1 : Vsl17Piece_0 → Option R) (c : Csl17Piece_0) : Nat → Vsl17Piece_0 → Option R
 | 0, _ => none
 | n + 1, v => Bsl17Piece_0 k X0 X1 c (Lsl17Piece_0 k X0 X1 c n) v
noncomputable def fsl17Piece_0 {R : Type} (k : Nat) (K : Ex → St → Option R) (c : Csl17Piece_0) (n : Nat) (v : Vsl17Piece_0) : Option R := lpr E k 151 Tryz.f151 0 [0, 2, 3, 5] n (Stsl17Piece_0 c v) K
theorem qsl17Piece_0 {R : Type} (k : Nat) (K : Ex → St → Option R) (X0 X1 c) (h : QL (fsl17Piece_0 k K c) (Bsl17Piece_0 k X0 X1 c)) (v) : Lsl17Piece_0 k X0 X1 c k v = fsl17Piece_0 k K c k v := loop_q h (fun _ => rfl) (fun _ _ => rfl) (fun _ => rfl) k v
noncomputable def Nsl17Piece : Ex → St → Option (Bool) := finish E (rs 151) Tryz.f151
theorem esl17Piece (k : Nat) (a0 : TProgram) (a1 : TPiece) : Fsl17Piece (k + 1) a0 a1 = if (((a1.2.2.length : Int) != a0.1) == false) = true then (FsIsSpan k a1.1).bind fun p1 => if (!p1) = true then some false else Lsl17Piece_0 k (fun v0 x2 p3 p4 => some false) (fun v0 => some true) (a0, a1) k 0 else some false := by
 simp (maxSteps := 9999999) (disch := (refine QL.mk fun n0 v => ?_; kernel_rfl)) only [↓qsl17Piece_0 (R := Bool) k (kon0 E k 151 Tryz.f151 0 Nsl17Piece)]
 kernel_rfl
noncomputable def FsIsProgram (k : Nat) (a0 : TProgram) : Option (Bool) := den E k 51 [.agg (avs sProgram a0)]
abbrev CsIsProgram_0 : Type := TProgram
abbrev VsIsProgram_0 : Type := Int
def StsIsProgram_0 (c0 : CsIsProgram_0) (v0 : VsIsProgram_0) : St := ⟨56, 1, [(1, cP 0), (3, cI v0)], [(0, .var (avs sProgram c0))]⟩
noncomputable def BsIsProgram_0 {R : Type} (k : Nat) (X0 : VsIsProgram_0 → TPiece → Bool → TPiece → TPiece → Option R) (X1 : VsIsProgram_0 → TPiece → Bool → Option R) (X2 : VsIsProgram_0 → Option R) (c0 : CsIsProgram_0) (rec : VsIsProgram_0 → Option R) (v0 : VsIsProgram_0) : Option R := if (decide (v0 < (c0.2.2.2.length : Int))) = true then if 0 ≤ v0 then ix c0.2.2.2 v0.toNat fun x3 => (Fsl17Piece k c0 x3).bind fun p4 => if ((!p4) == false) = true then if ((decide (v0 > 0)) == true) = true then if 0 ≤ (IntKind.i64.wrap (v0 - 1)) then ix c0.2.2.2 ((IntKind.i64.wrap (v0 - 1)).toNat) fun x5 => if 0 ≤ v0 then ix c0.2.2.2 v0.toNat fun x6 => if (x5.1.2 != x6.1.1) = true then X0 v0 x3 p4 x5 x6 else rec (IntKind.i64.wrap (v0 + 1)) else none else none else rec (IntKind.i64.wrap (v0 + 1)) else X1 v0 x3 p4 else none else X2 v0
noncomputable def LsIsProgram_0 {R : Type} (k : Nat) (X0 : VsIsProgram_0 → TPiece → Bool → TPiece → TPiece → Option R) (X1 : VsIsProgram_0 → TPiece → Bool → Option R) (X2 : VsIsProgram_0 → Option R) (c : CsIsProgram_0) : Nat → VsIsProgram_0 → Option R
 | 0, _ => none
 | n + 1, v => BsIsProgram_0 k X0 X1 X2 c (LsIsProgram_0 k X0 X1 X2 c n) v
noncomputable def fsIsProgram_0 {R : Type} (k : Nat) (K : Ex → St → Option R) (c : CsIsProgram_0) (n : Nat) (v : VsIsProgram_0) : Option R := lpr E k 51 Tryz.f51 0 [0, 1, 3] n (StsIsProgram_0 c v) K
theorem qsIsProgram_0 {R : Type} (k : Nat) (K : Ex → St → Option R) (X0 X1 X2 c) (h : QL (fsIsProgram_0 k K c) (BsIsProgram_0 k X0 X1 X2 c)) (v) : LsIsProgram_0 k X0 X1 X2 c k v = fsIsProgram_0 k K c k v := loop_q h (fun _ => rfl) (fun _ _ => rfl) (fun _ => rfl) k v
noncomputable def NsIsProgram : Ex → St → Option (Bool) := finish E (rs 51) Tryz.f51
theorem esIsProgram (k : Nat) (a0 : TProgram) : FsIsProgram (k + 1) a0 = (Fsl17Frame k a0.1 a0.2.1 a0.2.2.1).bind fun p1 => if ((!p1) == false) = true then (Fsl1In k (a0.2.2.2.length : Int) 1 40).bind fun p2 => if (!p2) = true then some false else LsIsProgram_0 k (fun v0 x3 p4 x5 x6 => some false) (fun v0 x3 p4 => some false) (fun v0 => some true) a0 k 0 else some false := by
 simp (maxSteps := 9999999) (disch := (refine QL.mk fun n0 v => ?_; kernel_rfl)) only [↓qsIsProgram_0 (R := Bool) k (kon0 E k 51 Tryz.f51 0 NsIsProgram)]
 kernel_rfl
noncomputable def FsIsSat (k : Nat) (a0 : I4) (a1 : Int) : Option (Bool) := den E k 147 [.agg (avs sI4 a0), cI a1]
theorem esIsSat (k : Nat) (a0 : I4) (a1 : Int) : FsIsSat (k + 1) a0 a1 = if ((decide (a0.1 ≥ 0)) == true) = true then if ((decide (a0.1 < a1)) == true) = true then (Fsl1In k a0.2.1 0 359).bind fun p1 => if (p1 == true) = true then (Fsl1In k a0.2.2.1 (-60) 60).bind fun p2 => if (p2 == true) = true then (Fsl1In k a0.2.2.2 0 20).bind fun p3 => some p3 else some false else some false else some false else some false := by kernel_rfl
noncomputable def Fsl7Half (k : Nat) (a0 : Int) : Option (Bool) := den E k 149 [cI a0]
theorem esl7Half (k : Nat) (a0 : Int) : Fsl7Half (k + 1) a0 = (Fsl1In k a0 0 180).bind fun p1 => some p1 := by kernel_rfl
noncomputable def Fsl7Turn (k : Nat) (a0 : Int) : Option (Bool) := den E k 148 [cI a0]
theorem esl7Turn (k : Nat) (a0 : Int) : Fsl7Turn (k + 1) a0 = (Fsl1In k a0 (-60) 60).bind fun p1 => some p1 := by kernel_rfl
noncomputable def FsIsSky (k : Nat) (a0 : TSky) : Option (Bool) := den E k 50 [.agg (avs sSky a0)]
abbrev CsIsSky_2 : Type := Int × Int × TSky
abbrev VsIsSky_2 : Type := Int
def StsIsSky_2 (c2 : CsIsSky_2) (v2 : VsIsSky_2) : St := ⟨138, 1, [(1, cP 0), (3, cI c2.1), (4, cI c2.2.1), (6, cI v2)], [(0, .var (avs sSky c2.2.2))]⟩
noncomputable def BsIsSky_2 {R : Type} (k : Nat) (X0 : VsIsSky_2 → I3 → Bool → Option R) (X1 : VsIsSky_2 → I3 → Option R) (X2 : VsIsSky_2 → I3 → Option R) (X3 : VsIsSky_2 → Option R) (c2 : CsIsSky_2) (rec : VsIsSky_2 → Option R) (v2 : VsIsSky_2) : Option R := if (decide (v2 < (c2.2.2.2.2.2.2.2.2.2.2.1.length : Int))) = true then if 0 ≤ v2 then ix c2.2.2.2.2.2.2.2.2.2.2.1 v2.toNat fun x6 => if ((decide (x6.1 < 0)) == false) = true then if ((decide (x6.1 ≥ c2.2.2.1)) == false) = true then (Fsl1In k x6.2.2 0 359).bind fun p7 => if (!p7) = true then X0 v2 x6 p7 else rec (IntKind.i64.wrap (v2 + 1)) else X1 v2 x6 else X2 v2 x6 else none else X3 v2
noncomputable def LsIsSky_2 {R : Type} (k : Nat) (X0 : VsIsSky_2 → I3 → Bool → Option R) (X1 : VsIsSky_2 → I3 → Option R) (X2 : VsIsSky_2 → I3 → Option R) (X3 : VsIsSky_2 → Option R) (c : CsIsSky_2) : Nat → VsIsSky_2 → Option R
 | 0, _ => none
 | n + 1, v => BsIsSky_2 k X0 X1 X2 X3 c (LsIsSky_2 k X0 X1 X2 X3 c n) v
noncomputable def fsIsSky_2 {R : Type} (k : Nat) (K : Ex → St → Option R) (c : CsIsSky_2) (n : Nat) (v : VsIsSky_2) : Option R := lpr E k 50 Tryz.f50 2 [0, 1, 3, 4, 6] n (StsIsSky_2 c v) K
theorem qsIsSky_2 {R : Type} (k : Nat) (K : Ex → St → Option R) (X0 X1 X2 X3 c) (h : QL (fsIsSky_2 k K c) (BsIsSky_2 k X0 X1 X2 X3 c)) (v) : LsIsSky_2 k X0 X1 X2 X3 c k v = fsIsSky_2 k K c k v := loop_q h (fun _ => rfl) (fun _ _ => rfl) (fun _ => rfl) k v
abbrev CsIsSky_1 : Type := Int × TSky
abbrev VsIsSky_1 : Type := Int
def StsIsSky_1 (c1 : CsIsSky_1) (v1 : VsIsSky_1) : St := ⟨138, 1, [(1, cP 0), (3, cI c1.1), (4, cI v1)], [(0, .var (avs sSky c1.2))]⟩
noncomputable def BsIsSky_1 {R : Type} (k : Nat) (X0 : VsIsSky_1 → I3 → Bool → Bool → Option R) (X1 : VsIsSky_1 → I3 → Bool → Option R) (X2 : VsIsSky_1 → I3 → Option R) (X3 : VsIsSky_1 → I3 → Option R) (X4 : VsIsSky_1 → Option R) (c1 : CsIsSky_1) (rec : VsIsSky_1 → Option R) (v1 : VsIsSky_1) : Option R := if (decide (v1 < (c1.2.2.2.1.length : Int))) = true then if 0 ≤ v1 then ix c1.2.2.2.1 v1.toNat fun x3 => if ((decide (x3.1 < 0)) == false) = true then if ((decide (x3.1 ≥ c1.2.1)) == false) = true then (Fsl1In k x3.2.1 0 359).bind fun p4 => if ((!p4) == false) = true then (Fsl7Turn k x3.2.2).bind fun p5 => if (!p5) = true then X0 v1 x3 p4 p5 else rec (IntKind.i64.wrap (v1 + 1)) else X1 v1 x3 p4 else X2 v1 x3 else X3 v1 x3 else none else X4 v1
noncomputable def LsIsSky_1 {R : Type} (k : Nat) (X0 : VsIsSky_1 → I3 → Bool → Bool → Option R) (X1 : VsIsSky_1 → I3 → Bool → Option R) (X2 : VsIsSky_1 → I3 → Option R) (X3 : VsIsSky_1 → I3 → Option R) (X4 : VsIsSky_1 → Option R) (c : CsIsSky_1) : Nat → VsIsSky_1 → Option R
 | 0, _ => none
 | n + 1, v => BsIsSky_1 k X0 X1 X2 X3 X4 c (LsIsSky_1 k X0 X1 X2 X3 X4 c n) v
noncomputable def fsIsSky_1 {R : Type} (k : Nat) (K : Ex → St → Option R) (c : CsIsSky_1) (n : Nat) (v : VsIsSky_1) : Option R := lpr E k 50 Tryz.f50 1 [0, 1, 3, 4] n (StsIsSky_1 c v) K
theorem qsIsSky_1 {R : Type} (k : Nat) (K : Ex → St → Option R) (X0 X1 X2 X3 X4 c) (h : QL (fsIsSky_1 k K c) (BsIsSky_1 k X0 X1 X2 X3 X4 c)) (v) : LsIsSky_1 k X0 X1 X2 X3 X4 c k v = fsIsSky_1 k K c k v := loop_q h (fun _ => rfl) (fun _ _ => rfl) (fun _ => rfl) k v
abbrev CsIsSky_0 : Type := TSky
abbrev VsIsSky_0 : Type := Int
def StsIsSky_0 (c0 : CsIsSky_0) (v0 : VsIsSky_0) : St := ⟨138, 1, [(1, cP 0), (3, cI v0)], [(0, .var (avs sSky c0))]⟩
noncomputable def BsIsSky_0 {R : Type} (k : Nat) (X0 : VsIsSky_0 → I4 → Bool → Option R) (X1 : VsIsSky_0 → Option R) (c0 : CsIsSky_0) (rec : VsIsSky_0 → Option R) (v0 : VsIsSky_0) : Option R := if (decide (v0 < (c0.2.1.length : Int))) = true then if 0 ≤ v0 then ix c0.2.1 v0.toNat fun x1 => (FsIsSat k x1 c0.1).bind fun p2 => if (!p2) = true then X0 v0 x1 p2 else rec (IntKind.i64.wrap (v0 + 1)) else none else X1 v0
noncomputable def LsIsSky_0 {R : Type} (k : Nat) (X0 : VsIsSky_0 → I4 → Bool → Option R) (X1 : VsIsSky_0 → Option R) (c : CsIsSky_0) : Nat → VsIsSky_0 → Option R
 | 0, _ => none
 | n + 1, v => BsIsSky_0 k X0 X1 c (LsIsSky_0 k X0 X1 c n) v
noncomputable def fsIsSky_0 {R : Type} (k : Nat) (K : Ex → St → Option R) (c : CsIsSky_0) (n : Nat) (v : VsIsSky_0) : Option R := lpr E k 50 Tryz.f50 0 [0, 1, 3] n (StsIsSky_0 c v) K
theorem qsIsSky_0 {R : Type} (k : Nat) (K : Ex → St → Option R) (X0 X1 c) (h : QL (fsIsSky_0 k K c) (BsIsSky_0 k X0 X1 c)) (v) : LsIsSky_0 k X0 X1 c k v = fsIsSky_0 k K c k v := loop_q h (fun _ => rfl) (fun _ _ => rfl) (fun _ => rfl) k v
noncomputable def NsIsSky : Ex → St → Option (Bool) := finish E (rs 50) Tryz.f50
theorem esIsSky (k : Nat) (a0 : TSky) : FsIsSky (k + 1) a0 = LsIsSky_0 k (fun v0 x1 p2 => some false) (fun v0 => LsIsSky_1 k (fun v1 x3 p4 p5 => some false) (fun v1 x3 p4 => some false) (fun v1 x3 => some false) (fun v1 x3 => some false) (fun v1 => LsIsSky_2 k (fun v2 x6 p7 => some false) (fun v2 x6 => some false) (fun v2 x6 => some false) (fun v2 => (Fsl1In k a0.1 1 4).bind fun p8 => if ((!p8) == false) = true then (Fsl1In k (a0.2.1.length : Int) 1 8).bind fun p9 => if ((!p9) == false) = true then if ((decide ((a0.2.2.1.length : Int) > 4)) == false) = true then if (decide ((a0.2.2.2.2.2.2.2.2.1.length : Int) > 4)) = true then some false else (Fsl7Half k a0.2.2.2.1).bind fun p10 => if (p10 == true) = true then (Fsl7Half k a0.2.2.2.2.1).bind fun p11 => if (p11 == true) = true then (Fsl7Half k a0.2.2.2.2.2.1).bind fun p12 => if (p12 == true) = true then (Fsl7Half k a0.2.2.2.2.2.2.2.1).bind fun p13 => if (p13 == true) = true then (Fsl7Turn k a0.2.2.2.2.2.2.1).bind fun p14 => if (p14 == true) = true then (Fsl1In k a0.2.2.2.2.2.2.2.2.2 0 20).bind fun p15 => some p15 else some false else some false else some false else some false else some false else some false else some false else some false) (v0, v1, a0) k 0) (v0, a0) k 0) a0 k 0 := by
 simp (maxSteps := 9999999) (disch := (refine QL.mk fun n0 v => ?_; unfold BsIsSky_0; simp (maxSteps := 9999999) (disch := (refine QL.mk fun n1 v => ?_; unfold BsIsSky_1; simp (maxSteps := 9999999) (disch := (refine QL.mk fun n2 v => ?_; kernel_rfl)) only [↓qsIsSky_2 (R := Bool) k (kon0 E k 50 Tryz.f50 2 NsIsSky)]; kernel_rfl)) only [↓qsIsSky_1 (R := Bool) k (kon0 E k 50 Tryz.f50 1 NsIsSky)]; kernel_rfl)) only [↓qsIsSky_0 (R := Bool) k (kon0 E k 50 Tryz.f50 0 NsIsSky)]
 kernel_rfl
noncomputable def FsNodesOf (k : Nat) (a0 : TSky) : Option (Int) := den E k 53 [.agg (avs sSky a0)]
theorem esNodesOf (k : Nat) (a0 : TSky) : FsNodesOf (k + 1) a0 = some (IntKind.i64.wrap ((a0.2.1.length : Int) + (a0.2.2.1.length : Int))) := by kernel_rfl
noncomputable def Fsl22Rates (k : Nat) (a0 : I6) : Option (Bool) := den E k 249 [.agg (avs sI6 a0)]
theorem esl22Rates (k : Nat) (a0 : I6) : Fsl22Rates (k + 1) a0 = (Fsl1In k a0.2.2.2.1 0 100).bind fun p1 => if (p1 == true) = true then (Fsl1In k a0.2.2.2.2.2 0 100).bind fun p2 => some p2 else some false := by kernel_rfl
noncomputable def FsIsBattery (k : Nat) (a0 : I6) : Option (Bool) := den E k 152 [.agg (avs sI6 a0)]
theorem esIsBattery (k : Nat) (a0 : I6) : FsIsBattery (k + 1) a0 = (Fsl22Rates k a0).bind fun p1 => if (p1 == true) = true then (Fsl1In k a0.2.2.2.2.1 0 100).bind fun p2 => if (p2 == true) = true then (Fsl1In k a0.2.1 0 10000).bind fun p3 => if (p3 == true) = true then (Fsl1In k a0.2.2.1 0 a0.2.1).bind fun p4 => if (p4 == true) = true then (Fsl1In k a0.1 a0.2.2.1 a0.2.1).bind fun p5 => some p5 else some false else some false else some false else some false := by kernel_rfl
noncomputable def FsMod (k : Nat) (a0 : Int) (a1 : Int) : Option (Int) := den E k 408 [cI a0, cI a1]
theorem esMod (k : Nat) (a0 : Int) (a1 : Int) : FsMod (k + 1) a0 a1 = (Fsl1In k a1 1 1000000000000).bind fun p1 => if (!p1) = true then some 0 else if a1 = 0 then none else if a1 = 0 then none else some (((IntKind.i64.wrap (((a0).tmod a1) + a1))).tmod a1) := by kernel_rfl
noncomputable def FsAngleOf (k : Nat) (a0 : Int) : Option (Int) := den E k 392 [cI a0]
theorem esAngleOf (k : Nat) (a0 : Int) : FsAngleOf (k + 1) a0 = (FsMod k a0 360).bind fun p1 => some p1 := by kernel_rfl
noncomputable def FsMin (k : Nat) (a0 : Int) (a1 : Int) : Option (Int) := den E k 98 [cI a0, cI a1]
theorem esMin (k : Nat) (a0 : Int) (a1 : Int) : FsMin (k + 1) a0 a1 = if (decide (a1 < a0)) = true then some a1 else some a0 := by kernel_rfl
noncomputable def FsGapOf (k : Nat) (a0 : Int) (a1 : Int) : Option (Int) := den E k 355 [cI a0, cI a1]
theorem esGapOf (k : Nat) (a0 : Int) (a1 : Int) : FsGapOf (k + 1) a0 a1 = (FsAngleOf k a0).bind fun p1 => (FsAngleOf k a1).bind fun p2 => (FsAngleOf k (IntKind.i64.wrap (p1 - p2))).bind fun p3 => (FsMin k p3 (IntKind.i64.wrap (360 - p3))).bind fun p4 => some p4 := by kernel_rfl
noncomputable def FsMiddleOf (k : Nat) (a0 : I2) : Option (Int) := den E k 356 [.agg [vI a0.1, vI a0.2]]
theorem esMiddleOf (k : Nat) (a0 : I2) : FsMiddleOf (k + 1) a0 = (Fsl1In k a0.2 0 359).bind fun p1 => if (!p1) = true then (FsAngleOf k a0.1).bind fun p2 => some p2 else (FsAngleOf k a0.1).bind fun p3 => (FsAngleOf k (IntKind.i64.wrap (p3 + (IntKind.i64.wrap ((a0.2).tdiv 2))))).bind fun p4 => some p4 := by kernel_rfl
noncomputable def FsIsSite (k : Nat) (a0 : TSky) (a1 : Int) : Option (Bool) := den E k 155 [.agg (avs sSky a0), cI a1]
theorem esIsSite (k : Nat) (a0 : TSky) (a1 : Int) : FsIsSite (k + 1) a0 a1 = (FsNodesOf k a0).bind fun p1 => (Fsl1In k a1 (a0.2.1.length : Int) (IntKind.i64.wrap (p1 - 1))).bind fun p2 => some p2 := by kernel_rfl
noncomputable def Fsl6Speed (k : Nat) (a0 : Int) : Option (Int) := den E k 407 [cI a0]
theorem esl6Speed (k : Nat) (a0 : Int) : Fsl6Speed (k + 1) a0 = (Fsl1In k a0 (-60) 60).bind fun p1 => if p1 = true then some a0 else some 0 := by kernel_rfl
noncomputable def FsPlaceAt (k : Nat) (a0 : I4) (a1 : Int) : Option (Int) := den E k 391 [.agg (avs sI4 a0), cI a1]
theorem esPlaceAt (k : Nat) (a0 : I4) (a1 : Int) : FsPlaceAt (k + 1) a0 a1 = (Fsl1In k a1 0 1000).bind fun p1 => if (!p1) = true then (FsAngleOf k a0.2.1).bind fun p2 => (Fsl6Speed k a0.2.2.1).bind fun p3 => (FsAngleOf k (IntKind.i64.wrap (p2 + (IntKind.i64.wrap (p3 * 0))))).bind fun p4 => some p4 else (FsAngleOf k a0.2.1).bind fun p5 => (Fsl6Speed k a0.2.2.1).bind fun p6 => (FsAngleOf k (IntKind.i64.wrap (p5 + (IntKind.i64.wrap (p6 * a1))))).bind fun p7 => some p7 := by kernel_rfl
noncomputable def FsWidenArc (k : Nat) (a0 : I2) (a1 : Int) : Option I2 := den E k 406 [.agg [vI a0.1, vI a0.2], cI a1]
theorem esWidenArc (k : Nat) (a0 : I2) (a1 : Int) : FsWidenArc (k + 1) a0 a1 = (Fsl1In k a1 0 360).bind fun p1 => if ((!p1) == false) = true then (Fsl1In k a0.2 0 359).bind fun p2 => if (!p2) = true then (FsAngleOf k a0.1).bind fun p3 => some (p3, a0.2) else (FsAngleOf k a0.1).bind fun p4 => (FsAngleOf k (IntKind.i64.wrap (p4 - a1))).bind fun p5 => (FsMin k 359 (IntKind.i64.wrap (a0.2 + (IntKind.i64.wrap (2 * a1))))).bind fun p6 => some (p5, p6) else (FsAngleOf k a0.1).bind fun p7 => some (p7, a0.2) := by kernel_rfl
noncomputable def FsPlacesAt (k : Nat) (a0 : I4) (a1 : Int) : Option I2 := den E k 390 [.agg (avs sI4 a0), cI a1]
theorem esPlacesAt (k : Nat) (a0 : I4) (a1 : Int) : FsPlacesAt (k + 1) a0 a1 = (FsPlaceAt k a0 a1).bind fun p1 => (FsWidenArc k (p1, 0) a0.2.2.2).bind fun p2 => some p2 := by kernel_rfl
noncomputable def FsNodeAt (k : Nat) (a0 : TSky) (a1 : Int) (a2 : Int) : Option I2 := den E k 354 [.agg (avs sSky a0), cI a1, cI a2]
theorem esNodeAt (k : Nat) (a0 : TSky) (a1 : Int) (a2 : Int) : FsNodeAt (k + 1) a0 a1 a2 = (Fsl1In k a1 0 (IntKind.i64.wrap ((a0.2.1.length : Int) - 1))).bind fun p1 => if p1 = true then if 0 ≤ a1 then ix a0.2.1 a1.toNat fun x2 => (FsPlacesAt k x2 a2).bind fun p3 => some p3 else none else (FsIsSite k a0 a1).bind fun p4 => if (!p4) = true then some (0, 0) else if 0 ≤ (IntKind.i64.wrap (a1 - (a0.2.1.length : Int))) then ix a0.2.2.1 ((IntKind.i64.wrap (a1 - (a0.2.1.length : Int))).toNat) fun x5 => (FsPlaceAt k (0, x5.2.1, x5.2.2, 0) a2).bind fun p6 => some (p6, 0) else none := by kernel_rfl
noncomputable def FsSunAt (k : Nat) (a0 : TSky) (a1 : Int) : Option (Int) := den E k 357 [.agg (avs sSky a0), cI a1]
theorem esSunAt (k : Nat) (a0 : TSky) (a1 : Int) : FsSunAt (k + 1) a0 a1 = (FsPlaceAt k (0, 0, a0.2.2.2.2.2.2.1, 0) a1).bind fun p1 => some p1 := by kernel_rfl
noncomputable def FsShadowAt (k : Nat) (a0 : TSky) (a1 : Int) (a2 : Int) : Option (Int) := den E k 288 [.agg (avs sSky a0), cI a1, cI a2]
theorem esShadowAt (k : Nat) (a0 : TSky) (a1 : Int) (a2 : Int) : FsShadowAt (k + 1) a0 a1 a2 = (Fsl1In k a1 0 (IntKind.i64.wrap ((a0.2.1.length : Int) - 1))).bind fun p1 => if (!p1) = true then some 0 else (FsNodeAt k a0 a1 a2).bind fun p2 => (FsMiddleOf k p2).bind fun p3 => (FsSunAt k a0 a2).bind fun p4 => (FsGapOf k p3 (IntKind.i64.wrap (p4 + 180))).bind fun p5 => if (decide ((IntKind.i64.wrap (p5 - (IntKind.i64.wrap ((p2.2).tdiv 2)))) > a0.2.2.2.2.2.2.2.1)) = true then some 0 else if (decide ((IntKind.i64.wrap (p5 + (IntKind.i64.wrap ((p2.2).tdiv 2)))) ≤ a0.2.2.2.2.2.2.2.1)) = true then some 2 else some 1 := by kernel_rfl
noncomputable def Fsl4Put (k : Nat) (a0 : List I2) (a1 : Int) : Option (List I2) := den E k 289 [.c (.l 183 sI2 a0), cI a1]
theorem esl4Put (k : Nat) (a0 : List I2) (a1 : Int) : Fsl4Put (k + 1) a0 a1 = if ((decide ((a0.length : Int) > 0)) == true) = true then if 0 ≤ (IntKind.i64.wrap ((a0.length : Int) - 1)) then if (IntKind.i64.wrap ((a0.length : Int) - 1)) < (a0.length : Int) then ix a0 ((IntKind.i64.wrap ((a0.length : Int) - 1)).toNat) fun x1 => if (x1.2 == a1) = true then if 0 ≤ (IntKind.i64.wrap ((a0.length : Int) - 1)) then if (IntKind.i64.wrap ((a0.length : Int) - 1)) < (a0.length : Int) then ix a0 ((IntKind.i64.wrap ((a0.length : Int) - 1)).toNat) fun y2 => some (a0.set ((IntKind.i64.wrap ((a0.length : Int) - 1)).toNat) (y2.1, (IntKind.i64.wrap (a1 + 1)))) else none else none else if (a0.length + ([(a1, (IntKind.i64.wrap (a1 + 1)))]).length) * 16 ≤ 140737488355328 then some (a0 ++ [(a1, (IntKind.i64.wrap (a1 + 1)))]) else none else none else none else if (a0.length + ([(a1, (IntKind.i64.wrap (a1 + 1)))]).length) * 16 ≤ 140737488355328 then some (a0 ++ [(a1, (IntKind.i64.wrap (a1 + 1)))]) else none := by kernel_rfl
noncomputable def FsMax (k : Nat) (a0 : Int) (a1 : Int) : Option (Int) := den E k 219 [cI a0, cI a1]
theorem esMax (k : Nat) (a0 : Int) (a1 : Int) : FsMax (k + 1) a0 a1 = if (decide (a1 > a0)) = true then some a1 else some a0 := by kernel_rfl
noncomputable def Fsl8Ticks (k : Nat) (a0 : Int) (a1 : Int) : Option I2 := den E k 287 [cI a0, cI a1]
theorem esl8Ticks (k : Nat) (a0 : Int) (a1 : Int) : Fsl8Ticks (k + 1) a0 a1 = (FsMax k 0 a0).bind fun p1 => (FsMin k 1000 p1).bind fun p2 => (FsMin k 1000 a1).bind fun p3 => (FsMax k 0 p3).bind fun p4 => some (p2, p4) := by kernel_rfl
noncomputable def FsLitSpans (k : Nat) (a0 : TSky) (a1 : Int) (a2 : Int) (a3 : Int) : Option (List I2) := den E k 221 [.agg (avs sSky a0), cI a1, cI a2, cI a3]
abbrev CsLitSpans_0 : Type := Int × Int × TSky
abbrev VsLitSpans_0 : Type := Int × (List I2)
def StsLitSpans_0 (c0 : CsLitSpans_0) (v0 : VsLitSpans_0) : St := ⟨35, 2, [(1, cI c0.1), (4, cP 0), (9, .c (.ref 1)), (11, cI c0.2.1), (12, cI v0.1)], [(0, .var (avs sSky c0.2.2)), (1, .arr 183 sI2 v0.2)]⟩
noncomputable def BsLitSpans_0 {R : Type} (k : Nat) (X0 : VsLitSpans_0 → Option R) (c0 : CsLitSpans_0) (rec : VsLitSpans_0 → Option R) (v0 : VsLitSpans_0) : Option R := if (decide (v0.1 < c0.2.1)) = true then (FsShadowAt k c0.2.2 c0.1 v0.1).bind fun p2 => if (p2 == 0) = true then (Fsl4Put k v0.2 v0.1).bind fun p3 => rec ((IntKind.i64.wrap (v0.1 + 1)), p3) else rec ((IntKind.i64.wrap (v0.1 + 1)), v0.2) else X0 v0
noncomputable def LsLitSpans_0 {R : Type} (k : Nat) (X0 : VsLitSpans_0 → Option R) (c : CsLitSpans_0) : Nat → VsLitSpans_0 → Option R
 | 0, _ => none
 | n + 1, v => BsLitSpans_0 k X0 c (LsLitSpans_0 k X0 c n) v
noncomputable def fsLitSpans_0 {R : Type} (k : Nat) (K : Ex → St → Option R) (c : CsLitSpans_0) (n : Nat) (v : VsLitSpans_0) : Option R := lpr E k 221 Tryz.f221 0 [0, 1, 4, 9, 11, 12] n (StsLitSpans_0 c v) K
theorem qsLitSpans_0 {R : Type} (k : Nat) (K : Ex → St → Option R) (X0 c) (h : QL (fsLitSpans_0 k K c) (BsLitSpans_0 k X0 c)) (v) : LsLitSpans_0 k X0 c k v = fsLitSpans_0 k K c k v := loop_q h (fun _ => rfl) (fun _ _ => rfl) (fun _ => rfl) k v
noncomputable def NsLitSpans : Ex → St → Option (List I2) := finish E (rs 221) Tryz.f221
theorem esLitSpans (k : Nat) (a0 : TSky) (a1 : Int) (a2 : Int) (a3 : Int) : FsLitSpans (k + 1) a0 a1 a2 a3 = (Fsl8Ticks k a2 a3).bind fun p1 => LsLitSpans_0 k (fun v0 => some v0.2) (a1, p1.2, a0) k (p1.1, []) := by
 simp (maxSteps := 9999999) (disch := (refine QL.mk fun n0 v => ?_; kernel_rfl)) only [↓qsLitSpans_0 (R := List I2) k (kon0 E k 221 Tryz.f221 0 NsLitSpans)]
 kernel_rfl
noncomputable def FsLitOf (k : Nat) (a0 : TWorld) (a1 : Int) : Option (List I2) := den E k 114 [.agg (avs sWorld a0), cI a1]
theorem esLitOf (k : Nat) (a0 : TWorld) (a1 : Int) : FsLitOf (k + 1) a0 a1 = (FsLitSpans k a0.1 a1 0 a0.2.2.2.2.2.2.2.2.2.2.2.1).bind fun p1 => some p1 := by kernel_rfl
noncomputable def FsInSpan (k : Nat) (a0 : I2) (a1 : Int) : Option (Bool) := den E k 220 [.agg [vI a0.1, vI a0.2], cI a1]
theorem esInSpan (k : Nat) (a0 : I2) (a1 : Int) : FsInSpan (k + 1) a0 a1 = (FsIsSpan k a0).bind fun p1 => if (p1 == true) = true then if ((decide (a0.1 ≤ a1)) == true) = true then some (decide (a1 < a0.2)) else some false else some false := by kernel_rfl
noncomputable def FsInSpans (k : Nat) (a0 : List I2) (a1 : Int) : Option (Bool) := den E k 113 [.c (.l 183 sI2 a0), cI a1]
abbrev CsInSpans_0 : Type := (List I2) × Int
abbrev VsInSpans_0 : Type := Int
def StsInSpans_0 (c0 : CsInSpans_0) (v0 : VsInSpans_0) : St := ⟨18, 0, [(0, .c (.l 183 sI2 c0.1)), (1, cI c0.2), (5, cI v0)], []⟩
noncomputable def BsInSpans_0 {R : Type} (k : Nat) (X0 : VsInSpans_0 → I2 → Bool → Option R) (X1 : VsInSpans_0 → Option R) (c0 : CsInSpans_0) (rec : VsInSpans_0 → Option R) (v0 : VsInSpans_0) : Option R := if (decide (v0 < (c0.1.length : Int))) = true then if 0 ≤ v0 then ix c0.1 v0.toNat fun x1 => (FsInSpan k x1 c0.2).bind fun p2 => if p2 = true then X0 v0 x1 p2 else rec (IntKind.i64.wrap (v0 + 1)) else none else X1 v0
noncomputable def LsInSpans_0 {R : Type} (k : Nat) (X0 : VsInSpans_0 → I2 → Bool → Option R) (X1 : VsInSpans_0 → Option R) (c : CsInSpans_0) : Nat → VsInSpans_0 → Option R
 | 0, _ => none
 | n + 1, v => BsInSpans_0 k X0 X1 c (LsInSpans_0 k X0 X1 c n) v
noncomputable def fsInSpans_0 {R : Type} (k : Nat) (K : Ex → St → Option R) (c : CsInSpans_0) (n : Nat) (v : VsInSpans_0) : Option R := lpr E k 113 Tryz.f113 0 [0, 0, 1, 5] n (StsInSpans_0 c v) K
theorem qsInSpans_0 {R : Type} (k : Nat) (K : Ex → St → Option R) (X0 X1 c) (h : QL (fsInSpans_0 k K c) (BsInSpans_0 k X0 X1 c)) (v) : LsInSpans_0 k X0 X1 c k v = fsInSpans_0 k K c k v := loop_q h (fun _ => rfl) (fun _ _ => rfl) (fun _ => rfl) k v
noncomputable def NsInSpans : Ex → St → Option (Bool) := finish E (rs 113) Tryz.f113
theorem esInSpans (k : Nat) (a0 : List I2) (a1 : Int) : FsInSpans (k + 1) a0 a1 = LsInSpans_0 k (fun v0 x1 p2 => some true) (fun v0 => some false) (a0, a1) k 0 := by
 simp (maxSteps := 9999999) (disch := (refine QL.mk fun n0 v => ?_; kernel_rfl)) only [↓qsInSpans_0 (R := Bool) k (kon0 E k 113 Tryz.f113 0 NsInSpans)]
 kernel_rfl
noncomputable def FsNeedAt (k : Nat) (a0 : I6) (a1 : List I2) (a2 : Int) (a3 : Int) : Option (Int) := den E k 153 [.agg (avs sI6 a0), .c (.l 183 sI2 a1), cI a2, cI a3]
abbrev CsNeedAt_0 : Type := (List I2) × Int × I6
abbrev VsNeedAt_0 : Type := Int × Int
def StsNeedAt_0 (c0 : CsNeedAt_0) (v0 : VsNeedAt_0) : St := ⟨49, 1, [(1, .c (.l 183 sI2 c0.1)), (2, cI c0.2.1), (4, cP 0), (9, cI v0.1), (10, cI v0.2)], [(0, .var (avs sI6 c0.2.2))]⟩
noncomputable def BsNeedAt_0 {R : Type} (k : Nat) (X0 : VsNeedAt_0 → Option R) (c0 : CsNeedAt_0) (rec : VsNeedAt_0 → Option R) (v0 : VsNeedAt_0) : Option R := if (decide (v0.2 ≥ c0.2.1)) = true then (FsInSpans k c0.1 v0.2).bind fun p2 => if p2 = true then (FsMax k 0 (IntKind.i64.wrap ((IntKind.i64.wrap (v0.1 + c0.2.2.2.2.2.1)) - c0.2.2.2.2.2.2.2))).bind fun p3 => rec (p3, (IntKind.i64.wrap (v0.2 - 1))) else (FsMax k 0 (IntKind.i64.wrap (v0.1 + c0.2.2.2.2.2.1))).bind fun p4 => rec (p4, (IntKind.i64.wrap (v0.2 - 1))) else X0 v0
noncomputable def LsNeedAt_0 {R : Type} (k : Nat) (X0 : VsNeedAt_0 → Option R) (c : CsNeedAt_0) : Nat → VsNeedAt_0 → Option R
 | 0, _ => none
 | n + 1, v => BsNeedAt_0 k X0 c (LsNeedAt_0 k X0 c n) v
noncomputable def fsNeedAt_0 {R : Type} (k : Nat) (K : Ex → St → Option R) (c : CsNeedAt_0) (n : Nat) (v : VsNeedAt_0) : Option R := lpr E k 153 Tryz.f153 0 [0, 1, 2, 4, 9, 10] n (StsNeedAt_0 c v) K
theorem qsNeedAt_0 {R : Type} (k : Nat) (K : Ex → St → Option R) (X0 c) (h : QL (fsNeedAt_0 k K c) (BsNeedAt_0 k X0 c)) (v) : LsNeedAt_0 k X0 c k v = fsNeedAt_0 k K c k v := loop_q h (fun _ => rfl) (fun _ _ => rfl) (fun _ => rfl) k v
noncomputable def NsNeedAt : Ex → St → Option (Int) := finish E (rs 153) Tryz.f153
theorem esNeedAt (k : Nat) (a0 : I6) (a1 : List I2) (a2 : Int) (a3 : Int) : FsNeedAt (k + 1) a0 a1 a2 a3 = (Fsl22Rates k a0).bind fun p1 => if ((!p1) == false) = true then if ((decide (a2 < 0)) == false) = true then if ((decide (a3 > 1000)) == false) = true then if (decide (a3 ≤ a2)) = true then some 0 else LsNeedAt_0 k (fun v0 => some v0.1) (a1, a2, a0) k (0, (IntKind.i64.wrap (a3 - 1))) else some 0 else some 0 else some 0 := by
 simp (maxSteps := 9999999) (disch := (refine QL.mk fun n0 v => ?_; kernel_rfl)) only [↓qsNeedAt_0 (R := Int) k (kon0 E k 153 Tryz.f153 0 NsNeedAt)]
 kernel_rfl
noncomputable def Fsl33Batteries (k : Nat) (a0 : TWorld) : Option (Bool) := den E k 56 [.agg (avs sWorld a0)]
abbrev Csl33Batteries_0 : Type := TWorld
abbrev Vsl33Batteries_0 : Type := Int
def Stsl33Batteries_0 (c0 : Csl33Batteries_0) (v0 : Vsl33Batteries_0) : St := ⟨45, 1, [(1, cP 0), (3, cI v0)], [(0, .var (avs sWorld c0))]⟩
noncomputable def Bsl33Batteries_0 {R : Type} (k : Nat) (X0 : Vsl33Batteries_0 → I6 → Bool → (List I2) → Int → Option R) (X1 : Vsl33Batteries_0 → I6 → Bool → Option R) (X2 : Vsl33Batteries_0 → Option R) (c0 : Csl33Batteries_0) (rec : Vsl33Batteries_0 → Option R) (v0 : Vsl33Batteries_0) : Option R := if (decide (v0 < (c0.2.2.2.2.1.length : Int))) = true then if 0 ≤ v0 then ix c0.2.2.2.2.1 v0.toNat fun x1 => (FsIsBattery k x1).bind fun p2 => if ((!p2) == false) = true then (FsLitOf k c0 v0).bind fun p3 => (FsNeedAt k x1 p3 c0.2.2.2.2.2.2.2.2.2.2.1 c0.2.2.2.2.2.2.2.2.2.2.2.1).bind fun p4 => if (decide (x1.1 < (IntKind.i64.wrap (x1.2.2.1 + p4)))) = true then X0 v0 x1 p2 p3 p4 else rec (IntKind.i64.wrap (v0 + 1)) else X1 v0 x1 p2 else none else X2 v0
noncomputable def Lsl33Batteries_0 {R : Type} (k : Nat) (X0 : Vsl33Batteries_0 → I6 → Bool → (List I2) → Int → Option R) (X1 : Vsl33Batteries_0 → I6 → Bool → Option R) (X2 : Vsl33Batteries_0 → Option R) (c : Csl33Batteries_0) : Nat → Vsl33Batteries_0 → Option R
 | 0, _ => none
 | n + 1, v => Bsl33Batteries_0 k X0 X1 X2 c (Lsl33Batteries_0 k X0 X1 X2 c n) v
noncomputable def fsl33Batteries_0 {R : Type} (k : Nat) (K : Ex → St → Option R) (c : Csl33Batteries_0) (n : Nat) (v : Vsl33Batteries_0) : Option R := lpr E k 56 Tryz.f56 0 [0, 1, 3] n (Stsl33Batteries_0 c v) K
theorem qsl33Batteries_0 {R : Type} (k : Nat) (K : Ex → St → Option R) (X0 X1 X2 c) (h : QL (fsl33Batteries_0 k K c) (Bsl33Batteries_0 k X0 X1 X2 c)) (v) : Lsl33Batteries_0 k X0 X1 X2 c k v = fsl33Batteries_0 k K c k v := loop_q h (fun _ => rfl) (fun _ _ => rfl) (fun _ => rfl) k v
noncomputable def Nsl33Batteries : Ex → St → Option (Bool) := finish E (rs 56) Tryz.f56
theorem esl33Batteries (k : Nat) (a0 : TWorld) : Fsl33Batteries (k + 1) a0 = Lsl33Batteries_0 k (fun v0 x1 p2 p3 p4 => some false) (fun v0 x1 p2 => some false) (fun v0 => some ((a0.2.2.2.2.1.length : Int) == (a0.1.2.1.length : Int))) a0 k 0 := by
 simp (maxSteps := 9999999) (disch := (refine QL.mk fun n0 v => ?_; kernel_rfl)) only [↓qsl33Batteries_0 (R := Bool) k (kon0 E k 56 Tryz.f56 0 Nsl33Batteries)]
 kernel_rfl
noncomputable def FsIsFlow (k : Nat) (a0 : I4) (a1 : Int) : Option (Bool) := den E k 156 [.agg (avs sI4 a0), cI a1]
theorem esIsFlow (k : Nat) (a0 : I4) (a1 : Int) : FsIsFlow (k + 1) a0 a1 = (Fsl1In k a0.1 0 9999).bind fun p1 => if (p1 == true) = true then if ((decide (a0.2.1 ≥ 0)) == true) = true then if ((decide (a0.2.1 < a1)) == true) = true then if ((decide (a0.2.2.1 ≥ 0)) == true) = true then if ((decide (a0.2.2.1 < a1)) == true) = true then if ((a0.2.1 != a0.2.2.1) == true) = true then (Fsl1In k a0.2.2.2 0 1).bind fun p2 => some p2 else some false else some false else some false else some false else some false else some false := by kernel_rfl
noncomputable def FsIsStream (k : Nat) (a0 : Int × Int × List Int) : Option (Bool) := den E k 158 [.agg (avs sStream a0)]
abbrev CsIsStream_0 : Type := (Int × Int × List Int)
abbrev VsIsStream_0 : Type := Int
def StsIsStream_0 (c0 : CsIsStream_0) (v0 : VsIsStream_0) : St := ⟨59, 1, [(1, cP 0), (3, cI v0)], [(0, .var (avs sStream c0))]⟩
noncomputable def BsIsStream_0 {R : Type} (k : Nat) (X0 : VsIsStream_0 → Int → Int → Int → Int → Option R) (X1 : VsIsStream_0 → Int → Int → Option R) (X2 : VsIsStream_0 → Int → Option R) (X3 : VsIsStream_0 → Option R) (c0 : CsIsStream_0) (rec : VsIsStream_0 → Option R) (v0 : VsIsStream_0) : Option R := if (decide (v0 < (c0.2.2.length : Int))) = true then if 0 ≤ v0 then ix c0.2.2 v0.toNat fun x1 => if ((decide (x1 ≤ c0.2.1)) == false) = true then if 0 ≤ v0 then ix c0.2.2 v0.toNat fun x2 => if ((decide (x2 > 9999)) == false) = true then if ((decide (v0 > 0)) == true) = true then if 0 ≤ (IntKind.i64.wrap (v0 - 1)) then ix c0.2.2 ((IntKind.i64.wrap (v0 - 1)).toNat) fun x3 => if 0 ≤ v0 then ix c0.2.2 v0.toNat fun x4 => if (decide (x3 ≥ x4)) = true then X0 v0 x1 x2 x3 x4 else rec (IntKind.i64.wrap (v0 + 1)) else none else none else rec (IntKind.i64.wrap (v0 + 1)) else X1 v0 x1 x2 else none else X2 v0 x1 else none else X3 v0
noncomputable def LsIsStream_0 {R : Type} (k : Nat) (X0 : VsIsStream_0 → Int → Int → Int → Int → Option R) (X1 : VsIsStream_0 → Int → Int → Option R) (X2 : VsIsStream_0 → Int → Option R) (X3 : VsIsStream_0 → Option R) (c : CsIsStream_0) : Nat → VsIsStream_0 → Option R
 | 0, _ => none
 | n + 1, v => BsIsStream_0 k X0 X1 X2 X3 c (LsIsStream_0 k X0 X1 X2 X3 c n) v
noncomputable def fsIsStream_0 {R : Type} (k : Nat) (K : Ex → St → Option R) (c : CsIsStream_0) (n : Nat) (v : VsIsStream_0) : Option R := lpr E k 158 Tryz.f158 0 [0, 1, 3] n (StsIsStream_0 c v) K
theorem qsIsStream_0 {R : Type} (k : Nat) (K : Ex → St → Option R) (X0 X1 X2 X3 c) (h : QL (fsIsStream_0 k K c) (BsIsStream_0 k X0 X1 X2 X3 c)) (v) : LsIsStream_0 k X0 X1 X2 X3 c k v = fsIsStream_0 k K c k v := loop_q h (fun _ => rfl) (fun _ _ => rfl) (fun _ => rfl) k v
noncomputable def NsIsStream : Ex → St → Option (Bool) := finish E (rs 158) Tryz.f158
theorem esIsStream (k : Nat) (a0 : Int × Int × List Int) : FsIsStream (k + 1) a0 = LsIsStream_0 k (fun v0 x1 x2 x3 x4 => some false) (fun v0 x1 x2 => some false) (fun v0 x1 => some false) (fun v0 => (Fsl1In k a0.1 0 10000).bind fun p5 => if (p5 == true) = true then (Fsl1In k a0.2.1 0 10000).bind fun p6 => if (p6 == true) = true then some (decide ((a0.2.2.length : Int) ≤ 20)) else some false else some false) a0 k 0 := by
 simp (maxSteps := 9999999) (disch := (refine QL.mk fun n0 v => ?_; kernel_rfl)) only [↓qsIsStream_0 (R := Bool) k (kon0 E k 158 Tryz.f158 0 NsIsStream)]
 kernel_rfl
noncomputable def Fsl33Flow (k : Nat) (a0 : TWorld) (a1 : Int) : Option (Int) := den E k 157 [.agg (avs sWorld a0), cI a1]
abbrev Csl33Flow_0 : Type := Int × TWorld
abbrev Vsl33Flow_0 : Type := Int
def Stsl33Flow_0 (c0 : Csl33Flow_0) (v0 : Vsl33Flow_0) : St := ⟨22, 1, [(1, cI c0.1), (2, cP 0), (5, cI v0)], [(0, .var (avs sWorld c0.2))]⟩
noncomputable def Bsl33Flow_0 {R : Type} (k : Nat) (X0 : Vsl33Flow_0 → I4 → Option R) (X1 : Vsl33Flow_0 → Option R) (c0 : Csl33Flow_0) (rec : Vsl33Flow_0 → Option R) (v0 : Vsl33Flow_0) : Option R := if (decide (v0 < (c0.2.2.2.2.2.2.2.1.length : Int))) = true then if 0 ≤ v0 then ix c0.2.2.2.2.2.2.2.1 v0.toNat fun x1 => if (x1.1 == c0.1) = true then X0 v0 x1 else rec (IntKind.i64.wrap (v0 + 1)) else none else X1 v0
noncomputable def Lsl33Flow_0 {R : Type} (k : Nat) (X0 : Vsl33Flow_0 → I4 → Option R) (X1 : Vsl33Flow_0 → Option R) (c : Csl33Flow_0) : Nat → Vsl33Flow_0 → Option R
 | 0, _ => none
 | n + 1, v => Bsl33Flow_0 k X0 X1 c (Lsl33Flow_0 k X0 X1 c n) v
noncomputable def fsl33Flow_0 {R : Type} (k : Nat) (K : Ex → St → Option R) (c : Csl33Flow_0) (n : Nat) (v : Vsl33Flow_0) : Option R := lpr E k 157 Tryz.f157 0 [0, 1, 2, 5] n (Stsl33Flow_0 c v) K
theorem qsl33Flow_0 {R : Type} (k : Nat) (K : Ex → St → Option R) (X0 X1 c) (h : QL (fsl33Flow_0 k K c) (Bsl33Flow_0 k X0 X1 c)) (v) : Lsl33Flow_0 k X0 X1 c k v = fsl33Flow_0 k K c k v := loop_q h (fun _ => rfl) (fun _ _ => rfl) (fun _ => rfl) k v
noncomputable def Nsl33Flow : Ex → St → Option (Int) := finish E (rs 157) Tryz.f157
theorem esl33Flow (k : Nat) (a0 : TWorld) (a1 : Int) : Fsl33Flow (k + 1) a0 a1 = Lsl33Flow_0 k (fun v0 x1 => some v0) (fun v0 => some (-1)) (a1, a0) k 0 := by
 simp (maxSteps := 9999999) (disch := (refine QL.mk fun n0 v => ?_; kernel_rfl)) only [↓qsl33Flow_0 (R := Int) k (kon0 E k 157 Tryz.f157 0 Nsl33Flow)]
 kernel_rfl
noncomputable def Fsl33Flows (k : Nat) (a0 : TWorld) : Option (Bool) := den E k 58 [.agg (avs sWorld a0)]
abbrev Csl33Flows_0 : Type := TWorld
abbrev Vsl33Flows_0 : Type := Int
def Stsl33Flows_0 (c0 : Csl33Flows_0) (v0 : Vsl33Flows_0) : St := ⟨79, 1, [(1, cP 0), (3, cI v0)], [(0, .var (avs sWorld c0))]⟩
noncomputable def Bsl33Flows_0 {R : Type} (k : Nat) (X0 : Vsl33Flows_0 → I4 → Bool → I4 → Int → (Int × Int × List Int) → Bool → (Int × Int × List Int) → I4 → Option R) (X1 : Vsl33Flows_0 → I4 → Bool → I4 → Int → (Int × Int × List Int) → Bool → Option R) (X2 : Vsl33Flows_0 → I4 → Bool → I4 → Int → Option R) (X3 : Vsl33Flows_0 → I4 → Bool → Option R) (X4 : Vsl33Flows_0 → Option R) (c0 : Csl33Flows_0) (rec : Vsl33Flows_0 → Option R) (v0 : Vsl33Flows_0) : Option R := if (decide (v0 < (c0.2.2.2.2.2.2.1.length : Int))) = true then if 0 ≤ v0 then ix c0.2.2.2.2.2.2.1 v0.toNat fun x1 => (FsIsFlow k x1 c0.2.1.1).bind fun p2 => if ((!p2) == false) = true then if 0 ≤ v0 then ix c0.2.2.2.2.2.2.1 v0.toNat fun x3 => (Fsl33Flow k c0 x3.1).bind fun p4 => if ((decide (p4 < v0)) == false) = true then if 0 ≤ v0 then ix c0.2.2.2.2.2.2.2.2.1 v0.toNat fun x5 => (FsIsStream k x5).bind fun p6 => if ((!p6) == false) = true then if 0 ≤ v0 then ix c0.2.2.2.2.2.2.2.2.1 v0.toNat fun x7 => if 0 ≤ v0 then ix c0.2.2.2.2.2.2.1 v0.toNat fun x8 => if (x7.1 != x8.1) = true then X0 v0 x1 p2 x3 p4 x5 p6 x7 x8 else rec (IntKind.i64.wrap (v0 + 1)) else none else none else X1 v0 x1 p2 x3 p4 x5 p6 else none else X2 v0 x1 p2 x3 p4 else none else X3 v0 x1 p2 else none else X4 v0
noncomputable def Lsl33Flows_0 {R : Type} (k : Nat) (X0 : Vsl33Flows_0 → I4 → Bool → I4 → Int → (Int × Int × List Int) → Bool → (Int × Int × List Int) → I4 → Option R) (X1 : Vsl33Flows_0 → I4 → Bool → I4 → Int → (Int × Int × List Int) → Bool → Option R) (X2 : Vsl33Flows_0 → I4 → Bool → I4 → Int → Option R) (X3 : Vsl33Flows_0 → I4 → Bool → Option R) (X4 : Vsl33Flows_0 → Option R) (c : Csl33Flows_0) : Nat → Vsl33Flows_0 → Option R
 | 0, _ => none
 | n + 1, v => Bsl33Flows_0 k X0 X1 X2 X3 X4 c (Lsl33Flows_0 k X0 X1 X2 X3 X4 c n) v
noncomputable def fsl33Flows_0 {R : Type} (k : Nat) (K : Ex → St → Option R) (c : Csl33Flows_0) (n : Nat) (v : Vsl33Flows_0) : Option R := lpr E k 58 Tryz.f58 0 [0, 1, 3] n (Stsl33Flows_0 c v) K
theorem qsl33Flows_0 {R : Type} (k : Nat) (K : Ex → St → Option R) (X0 X1 X2 X3 X4 c) (h : QL (fsl33Flows_0 k K c) (Bsl33Flows_0 k X0 X1 X2 X3 X4 c)) (v) : Lsl33Flows_0 k X0 X1 X2 X3 X4 c k v = fsl33Flows_0 k K c k v := loop_q h (fun _ => rfl) (fun _ _ => rfl) (fun _ => rfl) k v
noncomputable def Nsl33Flows : Ex → St → Option (Bool) := finish E (rs 58) Tryz.f58
theorem esl33Flows (k : Nat) (a0 : TWorld) : Fsl33Flows (k + 1) a0 = if ((decide ((a0.2.2.2.2.2.2.1.length : Int) > 8)) == false) = true then if (((a0.2.2.2.2.2.2.2.1.length : Int) != (a0.2.2.2.2.2.2.1.length : Int)) == false) = true then if ((a0.2.2.2.2.2.2.2.2.1.length : Int) != (a0.2.2.2.2.2.2.1.length : Int)) = true then some false else Lsl33Flows_0 k (fun v0 x1 p2 x3 p4 x5 p6 x7 x8 => some false) (fun v0 x1 p2 x3 p4 x5 p6 => some false) (fun v0 x1 p2 x3 p4 => some false) (fun v0 x1 p2 => some false) (fun v0 => some true) a0 k 0 else some false else some false := by
 simp (maxSteps := 9999999) (disch := (refine QL.mk fun n0 v => ?_; kernel_rfl)) only [↓qsl33Flows_0 (R := Bool) k (kon0 E k 58 Tryz.f58 0 Nsl33Flows)]
 kernel_rfl
noncomputable def FsPacketPlaces (k : Nat) (a0 : TWorld) (a1 : Int) : Option (Int) := den E k 159 [.agg (avs sWorld a0), cI a1]
abbrev CsPacketPlaces_2 : Type := Int × Int × TWorld
abbrev VsPacketPlaces_2 : Type := Int × Int
def StsPacketPlaces_2 (c2 : CsPacketPlaces_2) (v2 : VsPacketPlaces_2) : St := ⟨59, 1, [(1, cI c2.1), (2, cP 0), (5, cI v2.1), (6, cI c2.2.1), (8, cI v2.2)], [(0, .var (avs sWorld c2.2.2))]⟩
noncomputable def BsPacketPlaces_2 {R : Type} (k : Nat) (X0 : VsPacketPlaces_2 → Option R) (c2 : CsPacketPlaces_2) (rec : VsPacketPlaces_2 → Option R) (v2 : VsPacketPlaces_2) : Option R := if (decide (v2.2 < (c2.2.2.2.2.2.2.2.2.2.2.2.2.2.2.1.length : Int))) = true then if 0 ≤ v2.2 then ix c2.2.2.2.2.2.2.2.2.2.2.2.2.2.2.1 v2.2.toNat fun x4 => if (x4.1 == c2.1) = true then rec ((IntKind.i64.wrap (v2.1 + 1)), (IntKind.i64.wrap (v2.2 + 1))) else rec (v2.1, (IntKind.i64.wrap (v2.2 + 1))) else none else X0 v2
noncomputable def LsPacketPlaces_2 {R : Type} (k : Nat) (X0 : VsPacketPlaces_2 → Option R) (c : CsPacketPlaces_2) : Nat → VsPacketPlaces_2 → Option R
 | 0, _ => none
 | n + 1, v => BsPacketPlaces_2 k X0 c (LsPacketPlaces_2 k X0 c n) v
noncomputable def fsPacketPlaces_2 {R : Type} (k : Nat) (K : Ex → St → Option R) (c : CsPacketPlaces_2) (n : Nat) (v : VsPacketPlaces_2) : Option R := lpr E k 159 Tryz.f159 2 [0, 1, 2, 5, 6, 8] n (StsPacketPlaces_2 c v) K
theorem qsPacketPlaces_2 {R : Type} (k : Nat) (K : Ex → St → Option R) (X0 c) (h : QL (fsPacketPlaces_2 k K c) (BsPacketPlaces_2 k X0 c)) (v) : LsPacketPlaces_2 k X0 c k v = fsPacketPlaces_2 k K c k v := loop_q h (fun _ => rfl) (fun _ _ => rfl) (fun _ => rfl) k v
abbrev CsPacketPlaces_1 : Type := Int × Int × TWorld
abbrev VsPacketPlaces_1 : Type := Int × Int
def StsPacketPlaces_1 (c1 : CsPacketPlaces_1) (v1 : VsPacketPlaces_1) : St := ⟨59, 1, [(1, cI c1.1), (2, cP 0), (5, cI v1.1), (6, cI c1.2.1), (7, cI v1.2)], [(0, .var (avs sWorld c1.2.2))]⟩
noncomputable def BsPacketPlaces_1 {R : Type} (k : Nat) (X0 : VsPacketPlaces_1 → (List I6) → Option R) (c1 : CsPacketPlaces_1) (rec : VsPacketPlaces_1 → Option R) (v1 : VsPacketPlaces_1) : Option R := if 0 ≤ c1.2.1 then ix c1.2.2.2.2.2.2.2.1 c1.2.1.toNat fun x1 => if (decide (v1.2 < (x1.length : Int))) = true then if 0 ≤ c1.2.1 then ix c1.2.2.2.2.2.2.2.1 c1.2.1.toNat fun x2 => if 0 ≤ v1.2 then ix x2 v1.2.toNat fun x3 => if (x3.1 == c1.1) = true then rec ((IntKind.i64.wrap (v1.1 + 1)), (IntKind.i64.wrap (v1.2 + 1))) else rec (v1.1, (IntKind.i64.wrap (v1.2 + 1))) else none else none else X0 v1 x1 else none
noncomputable def LsPacketPlaces_1 {R : Type} (k : Nat) (X0 : VsPacketPlaces_1 → (List I6) → Option R) (c : CsPacketPlaces_1) : Nat → VsPacketPlaces_1 → Option R
 | 0, _ => none
 | n + 1, v => BsPacketPlaces_1 k X0 c (LsPacketPlaces_1 k X0 c n) v
noncomputable def fsPacketPlaces_1 {R : Type} (k : Nat) (K : Ex → St → Option R) (c : CsPacketPlaces_1) (n : Nat) (v : VsPacketPlaces_1) : Option R := lpr E k 159 Tryz.f159 1 [0, 1, 2, 5, 6, 7] n (StsPacketPlaces_1 c v) K
theorem qsPacketPlaces_1 {R : Type} (k : Nat) (K : Ex → St → Option R) (X0 c) (h : QL (fsPacketPlaces_1 k K c) (BsPacketPlaces_1 k X0 c)) (v) : LsPacketPlaces_1 k X0 c k v = fsPacketPlaces_1 k K c k v := loop_q h (fun _ => rfl) (fun _ _ => rfl) (fun _ => rfl) k v
abbrev CsPacketPlaces_0 : Type := Int × TWorld
abbrev VsPacketPlaces_0 : Type := Int × Int
def StsPacketPlaces_0 (c0 : CsPacketPlaces_0) (v0 : VsPacketPlaces_0) : St := ⟨59, 1, [(1, cI c0.1), (2, cP 0), (5, cI v0.1), (6, cI v0.2)], [(0, .var (avs sWorld c0.2))]⟩
noncomputable def BsPacketPlaces_0 {R : Type} (k : Nat) (X0 : VsPacketPlaces_0 → Option R) (c0 : CsPacketPlaces_0) (rec : VsPacketPlaces_0 → Option R) (v0 : VsPacketPlaces_0) : Option R := if (decide (v0.2 < (c0.2.2.2.2.2.2.1.length : Int))) = true then LsPacketPlaces_1 k (fun v1 x1 => rec (v1.1, (IntKind.i64.wrap (v0.2 + 1)))) (c0.1, v0.2, c0.2) k (v0.1, 0) else X0 v0
noncomputable def LsPacketPlaces_0 {R : Type} (k : Nat) (X0 : VsPacketPlaces_0 → Option R) (c : CsPacketPlaces_0) : Nat → VsPacketPlaces_0 → Option R
 | 0, _ => none
 | n + 1, v => BsPacketPlaces_0 k X0 c (LsPacketPlaces_0 k X0 c n) v
noncomputable def fsPacketPlaces_0 {R : Type} (k : Nat) (K : Ex → St → Option R) (c : CsPacketPlaces_0) (n : Nat) (v : VsPacketPlaces_0) : Option R := lpr E k 159 Tryz.f159 0 [0, 1, 2, 5, 6] n (StsPacketPlaces_0 c v) K
theorem qsPacketPlaces_0 {R : Type} (k : Nat) (K : Ex → St → Option R) (X0 c) (h : QL (fsPacketPlaces_0 k K c) (BsPacketPlaces_0 k X0 c)) (v) : LsPacketPlaces_0 k X0 c k v = fsPacketPlaces_0 k K c k v := loop_q h (fun _ => rfl) (fun _ _ => rfl) (fun _ => rfl) k v
noncomputable def NsPacketPlaces : Ex → St → Option (Int) := finish E (rs 159) Tryz.f159
theorem esPacketPlaces (k : Nat) (a0 : TWorld) (a1 : Int) : FsPacketPlaces (k + 1) a0 a1 = LsPacketPlaces_0 k (fun v0 => LsPacketPlaces_2 k (fun v2 => some v2.1) (a1, v0.2, a0) k (v0.1, 0)) (a1, a0) k (0, 0) := by
 simp (maxSteps := 9999999) (disch := (refine QL.mk fun n0 v => ?_; unfold BsPacketPlaces_0; simp (maxSteps := 9999999) (disch := (refine QL.mk fun n1 v => ?_; kernel_rfl)) only [↓qsPacketPlaces_2 (R := Int) k (kon0 E k 159 Tryz.f159 2 NsPacketPlaces), ↓qsPacketPlaces_1 (R := Int) k (kon1 E k 159 Tryz.f159 0 1 n0 [0, 1, 2, 5, 6] (kon0 E k 159 Tryz.f159 0 NsPacketPlaces))]; kernel_rfl)) only [↓qsPacketPlaces_0 (R := Int) k (kon0 E k 159 Tryz.f159 0 NsPacketPlaces)]
 kernel_rfl
noncomputable def Fsl33Packets (k : Nat) (a0 : TWorld) : Option (Bool) := den E k 59 [.agg (avs sWorld a0)]
abbrev Csl33Packets_2 : Type := Int × Int × Int × Int × TWorld
abbrev Vsl33Packets_2 : Type := Int
def Stsl33Packets_2 (c2 : Csl33Packets_2) (v2 : Vsl33Packets_2) : St := ⟨60, 1, [(1, cP 0), (3, cI c2.1), (4, cI c2.2.1), (5, cI c2.2.2.1), (6, cI c2.2.2.2.1), (7, cI v2)], [(0, .var (avs sWorld c2.2.2.2.2))]⟩
noncomputable def Bsl33Packets_2 {R : Type} (k : Nat) (X0 : Vsl33Packets_2 → Int → Option R) (X1 : Vsl33Packets_2 → Option R) (c2 : Csl33Packets_2) (rec : Vsl33Packets_2 → Option R) (v2 : Vsl33Packets_2) : Option R := if (decide (v2 < c2.1)) = true then (FsPacketPlaces k c2.2.2.2.2 v2).bind fun p5 => if (p5 != 1) = true then X0 v2 p5 else rec (IntKind.i64.wrap (v2 + 1)) else X1 v2
noncomputable def Lsl33Packets_2 {R : Type} (k : Nat) (X0 : Vsl33Packets_2 → Int → Option R) (X1 : Vsl33Packets_2 → Option R) (c : Csl33Packets_2) : Nat → Vsl33Packets_2 → Option R
 | 0, _ => none
 | n + 1, v => Bsl33Packets_2 k X0 X1 c (Lsl33Packets_2 k X0 X1 c n) v
noncomputable def fsl33Packets_2 {R : Type} (k : Nat) (K : Ex → St → Option R) (c : Csl33Packets_2) (n : Nat) (v : Vsl33Packets_2) : Option R := lpr E k 59 Tryz.f59 2 [0, 1, 3, 4, 5, 6, 7] n (Stsl33Packets_2 c v) K
theorem qsl33Packets_2 {R : Type} (k : Nat) (K : Ex → St → Option R) (X0 X1 c) (h : QL (fsl33Packets_2 k K c) (Bsl33Packets_2 k X0 X1 c)) (v) : Lsl33Packets_2 k X0 X1 c k v = fsl33Packets_2 k K c k v := loop_q h (fun _ => rfl) (fun _ _ => rfl) (fun _ => rfl) k v
abbrev Csl33Packets_1 : Type := Int × Int × TWorld
abbrev Vsl33Packets_1 : Type := Int × Int
def Stsl33Packets_1 (c1 : Csl33Packets_1) (v1 : Vsl33Packets_1) : St := ⟨60, 1, [(1, cP 0), (3, cI c1.1), (4, cI c1.2.1), (5, cI v1.1), (6, cI v1.2)], [(0, .var (avs sWorld c1.2.2))]⟩
noncomputable def Bsl33Packets_1 {R : Type} (k : Nat) (X0 : Vsl33Packets_1 → Option R) (c1 : Csl33Packets_1) (rec : Vsl33Packets_1 → Option R) (v1 : Vsl33Packets_1) : Option R := if (decide (v1.2 < (c1.2.2.2.2.2.2.2.1.length : Int))) = true then if 0 ≤ v1.2 then ix c1.2.2.2.2.2.2.2.1 v1.2.toNat fun x4 => rec ((IntKind.i64.wrap (v1.1 + (x4.length : Int))), (IntKind.i64.wrap (v1.2 + 1))) else none else X0 v1
noncomputable def Lsl33Packets_1 {R : Type} (k : Nat) (X0 : Vsl33Packets_1 → Option R) (c : Csl33Packets_1) : Nat → Vsl33Packets_1 → Option R
 | 0, _ => none
 | n + 1, v => Bsl33Packets_1 k X0 c (Lsl33Packets_1 k X0 c n) v
noncomputable def fsl33Packets_1 {R : Type} (k : Nat) (K : Ex → St → Option R) (c : Csl33Packets_1) (n : Nat) (v : Vsl33Packets_1) : Option R := lpr E k 59 Tryz.f59 1 [0, 1, 3, 4, 5, 6] n (Stsl33Packets_1 c v) K
theorem qsl33Packets_1 {R : Type} (k : Nat) (K : Ex → St → Option R) (X0 c) (h : QL (fsl33Packets_1 k K c) (Bsl33Packets_1 k X0 c)) (v) : Lsl33Packets_1 k X0 c k v = fsl33Packets_1 k K c k v := loop_q h (fun _ => rfl) (fun _ _ => rfl) (fun _ => rfl) k v
abbrev Csl33Packets_0 : Type := TWorld
abbrev Vsl33Packets_0 : Type := Int × Int
def Stsl33Packets_0 (c0 : Csl33Packets_0) (v0 : Vsl33Packets_0) : St := ⟨60, 1, [(1, cP 0), (3, cI v0.1), (4, cI v0.2)], [(0, .var (avs sWorld c0))]⟩
noncomputable def Bsl33Packets_0 {R : Type} (k : Nat) (X0 : Vsl33Packets_0 → Int → Bool → Option R) (X1 : Vsl33Packets_0 → Option R) (c0 : Csl33Packets_0) (rec : Vsl33Packets_0 → Option R) (v0 : Vsl33Packets_0) : Option R := if (decide (v0.2 < (c0.2.2.2.2.2.2.2.1.length : Int))) = true then if 0 ≤ v0.2 then ix c0.2.2.2.2.2.2.2.1 v0.2.toNat fun x1 => (Fsl1In k x1 0 10000).bind fun p2 => if (!p2) = true then X0 v0 x1 p2 else if 0 ≤ v0.2 then ix c0.2.2.2.2.2.2.2.1 v0.2.toNat fun x3 => rec ((IntKind.i64.wrap (v0.1 + x3)), (IntKind.i64.wrap (v0.2 + 1))) else none else none else X1 v0
noncomputable def Lsl33Packets_0 {R : Type} (k : Nat) (X0 : Vsl33Packets_0 → Int → Bool → Option R) (X1 : Vsl33Packets_0 → Option R) (c : Csl33Packets_0) : Nat → Vsl33Packets_0 → Option R
 | 0, _ => none
 | n + 1, v => Bsl33Packets_0 k X0 X1 c (Lsl33Packets_0 k X0 X1 c n) v
noncomputable def fsl33Packets_0 {R : Type} (k : Nat) (K : Ex → St → Option R) (c : Csl33Packets_0) (n : Nat) (v : Vsl33Packets_0) : Option R := lpr E k 59 Tryz.f59 0 [0, 1, 3, 4] n (Stsl33Packets_0 c v) K
theorem qsl33Packets_0 {R : Type} (k : Nat) (K : Ex → St → Option R) (X0 X1 c) (h : QL (fsl33Packets_0 k K c) (Bsl33Packets_0 k X0 X1 c)) (v) : Lsl33Packets_0 k X0 X1 c k v = fsl33Packets_0 k K c k v := loop_q h (fun _ => rfl) (fun _ _ => rfl) (fun _ => rfl) k v
noncomputable def Nsl33Packets : Ex → St → Option (Bool) := finish E (rs 59) Tryz.f59
theorem esl33Packets (k : Nat) (a0 : TWorld) : Fsl33Packets (k + 1) a0 = Lsl33Packets_0 k (fun v0 x1 p2 => some false) (fun v0 => Lsl33Packets_1 k (fun v1 => if (v1.1 != v0.1) = true then some false else Lsl33Packets_2 k (fun v2 p5 => some false) (fun v2 => some true) (v0.1, v0.2, v1.1, v1.2, a0) k 0) (v0.1, v0.2, a0) k ((a0.2.2.2.2.2.2.2.2.2.2.2.2.1.length : Int), 0)) a0 k (0, 0) := by
 simp (maxSteps := 9999999) (disch := (refine QL.mk fun n0 v => ?_; unfold Bsl33Packets_0; simp (maxSteps := 9999999) (disch := (refine QL.mk fun n1 v => ?_; unfold Bsl33Packets_1; simp (maxSteps := 9999999) (disch := (refine QL.mk fun n2 v => ?_; kernel_rfl)) only [↓qsl33Packets_2 (R := Bool) k (kon0 E k 59 Tryz.f59 2 Nsl33Packets)]; kernel_rfl)) only [↓qsl33Packets_1 (R := Bool) k (kon0 E k 59 Tryz.f59 1 Nsl33Packets)]; kernel_rfl)) only [↓qsl33Packets_0 (R := Bool) k (kon0 E k 59 Tryz.f59 0 Nsl33Packets)]
 kernel_rfl
noncomputable def FsIsPacket (k : Nat) (a0 : I6) (a1 : Int) : Option (Bool) := den E k 154 [.agg (avs sI6 a0), cI a1]
theorem esIsPacket (k : Nat) (a0 : I6) (a1 : Int) : FsIsPacket (k + 1) a0 a1 = (Fsl1In k a0.1 0 9999).bind fun p1 => if (p1 == true) = true then (Fsl1In k a0.2.1 0 9999).bind fun p2 => if (p2 == true) = true then (Fsl1In k a0.2.2.1 0 9999).bind fun p3 => if (p3 == true) = true then if ((decide (a0.2.2.2.1 ≥ 0)) == true) = true then if ((decide (a0.2.2.2.1 < a1)) == true) = true then if ((decide (a0.2.2.2.2.1 ≥ 0)) == true) = true then if ((decide (a0.2.2.2.2.1 < a1)) == true) = true then if ((a0.2.2.2.1 != a0.2.2.2.2.1) == true) = true then (Fsl1In k a0.2.2.2.2.2 0 1).bind fun p4 => some p4 else some false else some false else some false else some false else some false else some false else some false else some false := by kernel_rfl
noncomputable def Fsl33Queues (k : Nat) (a0 : TWorld) : Option (Bool) := den E k 57 [.agg (avs sWorld a0)]
abbrev Csl33Queues_1 : Type := Int × (List I6) × TWorld
abbrev Vsl33Queues_1 : Type := Int
def Stsl33Queues_1 (c1 : Csl33Queues_1) (v1 : Vsl33Queues_1) : St := ⟨59, 1, [(1, cP 0), (3, cI c1.1), (4, .c (.l 66 sI6 c1.2.1)), (5, cI v1)], [(0, .var (avs sWorld c1.2.2))]⟩
noncomputable def Bsl33Queues_1 {R : Type} (k : Nat) (X0 : Vsl33Queues_1 → I6 → Bool → Bool → I6 → Option R) (X1 : Vsl33Queues_1 → I6 → Bool → Option R) (X2 : Vsl33Queues_1 → Option R) (c1 : Csl33Queues_1) (rec : Vsl33Queues_1 → Option R) (v1 : Vsl33Queues_1) : Option R := if (decide (v1 < (c1.2.1.length : Int))) = true then if 0 ≤ v1 then ix c1.2.1 v1.toNat fun x2 => (FsIsPacket k x2 c1.2.2.2.1.1).bind fun p3 => if ((!p3) == false) = true then (FsIsSite k c1.2.2.1 c1.1).bind fun p4 => if (p4 == true) = true then if 0 ≤ v1 then ix c1.2.1 v1.toNat fun x5 => if (x5.2.2.2.1 != c1.1) = true then X0 v1 x2 p3 p4 x5 else rec (IntKind.i64.wrap (v1 + 1)) else none else rec (IntKind.i64.wrap (v1 + 1)) else X1 v1 x2 p3 else none else X2 v1
noncomputable def Lsl33Queues_1 {R : Type} (k : Nat) (X0 : Vsl33Queues_1 → I6 → Bool → Bool → I6 → Option R) (X1 : Vsl33Queues_1 → I6 → Bool → Option R) (X2 : Vsl33Queues_1 → Option R) (c : Csl33Queues_1) : Nat → Vsl33Queues_1 → Option R
 | 0, _ => none
 | n + 1, v => Bsl33Queues_1 k X0 X1 X2 c (Lsl33Queues_1 k X0 X1 X2 c n) v
noncomputable def fsl33Queues_1 {R : Type} (k : Nat) (K : Ex → St → Option R) (c : Csl33Queues_1) (n : Nat) (v : Vsl33Queues_1) : Option R := lpr E k 57 Tryz.f57 1 [0, 1, 3, 4, 5] n (Stsl33Queues_1 c v) K
theorem qsl33Queues_1 {R : Type} (k : Nat) (K : Ex → St → Option R) (X0 X1 X2 c) (h : QL (fsl33Queues_1 k K c) (Bsl33Queues_1 k X0 X1 X2 c)) (v) : Lsl33Queues_1 k X0 X1 X2 c k v = fsl33Queues_1 k K c k v := loop_q h (fun _ => rfl) (fun _ _ => rfl) (fun _ => rfl) k v
abbrev Csl33Queues_0 : Type := TWorld
abbrev Vsl33Queues_0 : Type := Int
def Stsl33Queues_0 (c0 : Csl33Queues_0) (v0 : Vsl33Queues_0) : St := ⟨59, 1, [(1, cP 0), (3, cI v0)], [(0, .var (avs sWorld c0))]⟩
noncomputable def Bsl33Queues_0 {R : Type} (k : Nat) (X0 : Vsl33Queues_0 → (List I6) → Int → I6 → Bool → Bool → I6 → Option R) (X1 : Vsl33Queues_0 → (List I6) → Int → I6 → Bool → Option R) (X2 : Vsl33Queues_0 → (List I6) → Int → Option R) (X3 : Vsl33Queues_0 → Option R) (c0 : Csl33Queues_0) (rec : Vsl33Queues_0 → Option R) (v0 : Vsl33Queues_0) : Option R := if (decide (v0 < (c0.2.2.2.2.2.1.length : Int))) = true then if 0 ≤ v0 then ix c0.2.2.2.2.2.1 v0.toNat fun x1 => Lsl33Queues_1 k (fun v1 x2 p3 p4 x5 => X0 v0 x1 v1 x2 p3 p4 x5) (fun v1 x2 p3 => X1 v0 x1 v1 x2 p3) (fun v1 => if (decide ((x1.length : Int) > 12)) = true then X2 v0 x1 v1 else rec (IntKind.i64.wrap (v0 + 1))) (v0, x1, c0) k 0 else none else X3 v0
noncomputable def Lsl33Queues_0 {R : Type} (k : Nat) (X0 : Vsl33Queues_0 → (List I6) → Int → I6 → Bool → Bool → I6 → Option R) (X1 : Vsl33Queues_0 → (List I6) → Int → I6 → Bool → Option R) (X2 : Vsl33Queues_0 → (List I6) → Int → Option R) (X3 : Vsl33Queues_0 → Option R) (c : Csl33Queues_0) : Nat → Vsl33Queues_0 → Option R
 | 0, _ => none
 | n + 1, v => Bsl33Queues_0 k X0 X1 X2 X3 c (Lsl33Queues_0 k X0 X1 X2 X3 c n) v
noncomputable def fsl33Queues_0 {R : Type} (k : Nat) (K : Ex → St → Option R) (c : Csl33Queues_0) (n : Nat) (v : Vsl33Queues_0) : Option R := lpr E k 57 Tryz.f57 0 [0, 1, 3] n (Stsl33Queues_0 c v) K
theorem qsl33Queues_0 {R : Type} (k : Nat) (K : Ex → St → Option R) (X0 X1 X2 X3 c) (h : QL (fsl33Queues_0 k K c) (Bsl33Queues_0 k X0 X1 X2 X3 c)) (v) : Lsl33Queues_0 k X0 X1 X2 X3 c k v = fsl33Queues_0 k K c k v := loop_q h (fun _ => rfl) (fun _ _ => rfl) (fun _ => rfl) k v
noncomputable def Nsl33Queues : Ex → St → Option (Bool) := finish E (rs 57) Tryz.f57
theorem esl33Queues (k : Nat) (a0 : TWorld) : Fsl33Queues (k + 1) a0 = Lsl33Queues_0 k (fun v0 x1 v1 x2 p3 p4 x5 => some false) (fun v0 x1 v1 x2 p3 => some false) (fun v0 x1 v1 => some false) (fun v0 => some ((a0.2.2.2.2.2.1.length : Int) == a0.2.1.1)) a0 k 0 := by
 simp (maxSteps := 9999999) (disch := (refine QL.mk fun n0 v => ?_; unfold Bsl33Queues_0; simp (maxSteps := 9999999) (disch := (refine QL.mk fun n1 v => ?_; kernel_rfl)) only [↓qsl33Queues_1 (R := Bool) k (kon1 E k 57 Tryz.f57 0 1 n0 [0, 1, 3] (kon0 E k 57 Tryz.f57 0 Nsl33Queues))]; kernel_rfl)) only [↓qsl33Queues_0 (R := Bool) k (kon0 E k 57 Tryz.f57 0 Nsl33Queues)]
 kernel_rfl
noncomputable def FsIsWorld (k : Nat) (a0 : TWorld) : Option (Bool) := den E k 11 [.agg (avs sWorld a0)]
abbrev CsIsWorld_0 : Type := TWorld
abbrev VsIsWorld_0 : Type := Int
def StsIsWorld_0 (c0 : CsIsWorld_0) (v0 : VsIsWorld_0) : St := ⟨98, 1, [(1, cP 0), (3, cI v0)], [(0, .var (avs sWorld c0))]⟩
noncomputable def BsIsWorld_0 {R : Type} (k : Nat) (X0 : VsIsWorld_0 → I4 → Bool → Option R) (X1 : VsIsWorld_0 → Option R) (c0 : CsIsWorld_0) (rec : VsIsWorld_0 → Option R) (v0 : VsIsWorld_0) : Option R := if (decide (v0 < (c0.2.2.2.2.2.2.2.2.2.1.length : Int))) = true then if 0 ≤ v0 then ix c0.2.2.2.2.2.2.2.2.2.1 v0.toNat fun x1 => (FsIsFault k x1 c0.2.1.1).bind fun p2 => if (!p2) = true then X0 v0 x1 p2 else rec (IntKind.i64.wrap (v0 + 1)) else none else X1 v0
noncomputable def LsIsWorld_0 {R : Type} (k : Nat) (X0 : VsIsWorld_0 → I4 → Bool → Option R) (X1 : VsIsWorld_0 → Option R) (c : CsIsWorld_0) : Nat → VsIsWorld_0 → Option R
 | 0, _ => none
 | n + 1, v => BsIsWorld_0 k X0 X1 c (LsIsWorld_0 k X0 X1 c n) v
noncomputable def fsIsWorld_0 {R : Type} (k : Nat) (K : Ex → St → Option R) (c : CsIsWorld_0) (n : Nat) (v : VsIsWorld_0) : Option R := lpr E k 11 Tryz.f11 0 [0, 1, 3] n (StsIsWorld_0 c v) K
theorem qsIsWorld_0 {R : Type} (k : Nat) (K : Ex → St → Option R) (X0 X1 c) (h : QL (fsIsWorld_0 k K c) (BsIsWorld_0 k X0 X1 c)) (v) : LsIsWorld_0 k X0 X1 c k v = fsIsWorld_0 k K c k v := loop_q h (fun _ => rfl) (fun _ _ => rfl) (fun _ => rfl) k v
noncomputable def NsIsWorld : Ex → St → Option (Bool) := finish E (rs 11) Tryz.f11
theorem esIsWorld (k : Nat) (a0 : TWorld) : FsIsWorld (k + 1) a0 = LsIsWorld_0 k (fun v0 x1 p2 => some false) (fun v0 => (FsIsSky k a0.1).bind fun p3 => if ((!p3) == false) = true then (FsIsProgram k a0.2.1).bind fun p4 => if ((!p4) == false) = true then (FsIsLaw k a0.2.2.1 a0.2.1).bind fun p5 => if ((!p5) == false) = true then (FsNodesOf k a0.1).bind fun p6 => if ((a0.2.1.1 != p6) == false) = true then if ((a0.2.1.2.1 != (a0.1.2.1.length : Int)) == false) = true then (FsAreOffsets k a0.2.1 a0.2.2.2.1).bind fun p7 => if (!p7) = true then some false else (Fsl1In k a0.2.2.2.2.2.2.2.2.2.2.2.1 1 60).bind fun p8 => if (p8 == true) = true then (Fsl1In k a0.2.2.2.2.2.2.2.2.2.2.1 0 a0.2.2.2.2.2.2.2.2.2.2.2.1).bind fun p9 => if (p9 == true) = true then if ((decide ((a0.2.2.2.2.2.2.2.2.2.1.length : Int) ≤ 12)) == true) = true then (Fsl33Batteries k a0).bind fun p10 => if (p10 == true) = true then (Fsl33Queues k a0).bind fun p11 => if (p11 == true) = true then (Fsl33Flows k a0).bind fun p12 => if (p12 == true) = true then (Fsl33Packets k a0).bind fun p13 => some p13 else some false else some false else some false else some false else some false else some false else some false else some false else some false else some false else some false) a0 k 0 := by
 simp (maxSteps := 9999999) (disch := (refine QL.mk fun n0 v => ?_; kernel_rfl)) only [↓qsIsWorld_0 (R := Bool) k (kon0 E k 11 Tryz.f11 0 NsIsWorld)]
 kernel_rfl
noncomputable def FlFnExactIsWorld (k : Nat) (a0 : TWorld) : Option (Bool) := den E k 3 [.agg (avs sLWorld a0)]
theorem elFnExactIsWorld (k : Nat) (a0 : TWorld) : FlFnExactIsWorld (k + 1) a0 = (FlszWorld k a0 1048576).bind fun p1 => if (decide (p1 < 0)) = true then some true else (FltoWorld k a0).bind fun p2 => (FsIsWorld k p2).bind fun p3 => (FltoWorld k a0).bind fun p4 => (FiIsWorld k p4).bind fun p5 => if (!(p5 == p3)) = true then some false else (FltoWorld k a0).bind fun p6 => (FleqWorld k p4 p6).bind fun p7 => if (!p7) = true then some false else some true := by kernel_rfl
end Go.Proofs.YtkgjmgaccfmhpaaGreat.World
