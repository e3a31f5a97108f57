/- The equations of the functions that a law reaches, part 1. No condition. -/
import Derived.Test.YtonfioejmldhcaaGreatV3
import Derived.Test.YtonfioejmldhcaaGreatProg
import Derived.KernelRfl
namespace Go.Proofs.YtonfioejmldhcaaGreat.World
open Go Go.V Go.Proofs
set_option linter.unusedVariables false
set_option linter.unusedSimpArgs false
set_option maxRecDepth 100000
set_option maxHeartbeats 4000000
abbrev T246 : Type := (Int × Int) × (List (Int × Int)) × List (Int × (List Int) × List Int)
abbrev T259 : Type := (Int × Int) × (List (Int × Int)) × List (Int × (List Int) × List Int)
abbrev T50 : Type := Int × Int × Int × List T259
abbrev T28 : Type := Int × Int × Int × List T259
abbrev T47 : Type := Int × (List (Int × Int × Int × Int)) × (List (Int × Int × Int)) × Int × Int × Int × Int × Int × (List (Int × Int × Int)) × Int
abbrev T25 : Type := Int × (List (Int × Int × Int × Int)) × (List (Int × Int × Int)) × Int × Int × Int × Int × Int × (List (Int × Int × Int)) × Int
abbrev T60 : Type := T25 × T28 × (List Int) × (List Int) × (List (Int × Int × Int × Int × Int × Int)) × (List (List (Int × Int × Int × Int × Int × Int))) × (List (Int × Int × Int × Int)) × (List Int) × (List (Int × Int × List Int)) × (List (Int × Int × Int × Int)) × Int × Int × (List (Int × Int × Int × Int × Int × Int)) × List (Int × Int × Int × Int)
abbrev T40 : Type := T25 × T28 × (List Int) × (List Int) × (List (Int × Int × Int × Int × Int × Int)) × (List (List (Int × Int × Int × Int × Int × Int))) × (List (Int × Int × Int × Int)) × (List Int) × (List (Int × Int × List Int)) × (List (Int × Int × Int × Int)) × Int × Int × (List (Int × Int × Int × Int × Int × Int)) × List (Int × Int × Int × Int)
abbrev s75 : Sh := (.a [(.i .i64), (.i .i64), (.i .i64), (.i .i64)])
abbrev s265 : Sh := (.a [(.i .i64), (.i .i64), (.i .i64)])
abbrev s150 : Sh := (.a [(.i .i64), (.i .i64)])
abbrev s271 : Sh := (.a [(.i .i64), s150])
abbrev s25 : Sh := (.a [(.i .i64), (.l 264 s75), (.l 268 s265), (.i .i64), (.i .i64), (.i .i64), (.i .i64), (.i .i64), (.l 276 s271), (.i .i64)])
abbrev s238 : Sh := (.a [(.i .i64), (.l 3 (.i .i64)), (.l 3 (.i .i64))])
abbrev s259 : Sh := (.a [s150, (.l 330 s150), (.l 328 s238)])
abbrev s28 : Sh := (.a [(.i .i64), (.i .i64), (.i .i64), (.l 260 s259)])
abbrev s31 : Sh := (.a [(.l 3 (.i .i64))])
abbrev s140 : Sh := (.a [(.i .i64), (.i .i64), (.i .i64), (.i .i64), (.i .i64), (.i .i64)])
abbrev s179 : Sh := (.a [(.l 192 s140)])
abbrev s165 : Sh := (.a [(.i .i64), (.i .i64), (.l 3 (.i .i64))])
abbrev s40 : Sh := (.a [s25, s28, s31, (.l 3 (.i .i64)), (.l 188 s140), (.l 180 s179), (.l 84 s75), (.l 3 (.i .i64)), (.l 182 s165), (.l 76 s75), (.i .i64), (.i .i64), (.l 192 s140), (.l 92 s75)])
abbrev s47 : Sh := (.a [(.i .i64), (.l 262 s75), (.l 266 s265), (.i .i64), (.i .i64), (.i .i64), (.i .i64), (.i .i64), (.l 272 s271), (.i .i64)])
abbrev s246 : Sh := (.a [s150, (.l 317 s150), (.l 239 s238)])
abbrev s50 : Sh := (.a [(.i .i64), (.i .i64), (.i .i64), (.l 247 s246)])
abbrev s157 : Sh := (.a [(.l 155 s140)])
abbrev s60 : Sh := (.a [s47, s50, s31, (.l 3 (.i .i64)), (.l 141 s140), (.l 158 s157), (.l 86 s75), (.l 3 (.i .i64)), (.l 166 s165), (.l 79 s75), (.i .i64), (.i .i64), (.l 155 s140), (.l 94 s75)])
noncomputable def ty : Nat → Option TyI
  | 3 => some ⟨.one, 1, 8, [(.int .i64 0)], (.i .i64)⟩
  | 4 => some ⟨.one, 1, 1, [(.bool false)], .b⟩
  | 22 => some ⟨.slc 264, 1, 24, [(.slice none 0 0)], (.l 264 s75)⟩
  | 23 => some ⟨.slc 268, 1, 24, [(.slice none 0 0)], (.l 268 s265)⟩
  | 24 => some ⟨.slc 276, 1, 24, [(.slice none 0 0)], (.l 276 s271)⟩
  | 26 => some ⟨.agg [(0, 3), (1, 22), (2, 23), (3, 3), (4, 3), (5, 3), (6, 3), (7, 3), (8, 24), (9, 3)], 10, 128, [(.int .i64 0), (.slice none 0 0), (.slice none 0 0), (.int .i64 0), (.int .i64 0), (.int .i64 0), (.int .i64 0), (.int .i64 0), (.slice none 0 0), (.int .i64 0)], s25⟩
  | 27 => some ⟨.slc 260, 1, 24, [(.slice none 0 0)], (.l 260 s259)⟩
  | 29 => some ⟨.agg [(0, 3), (1, 3), (2, 3), (3, 27)], 4, 48, [(.int .i64 0), (.int .i64 0), (.int .i64 0), (.slice none 0 0)], s28⟩
  | 30 => some ⟨.slc 3, 1, 24, [(.slice none 0 0)], (.l 3 (.i .i64))⟩
  | 32 => some ⟨.agg [(0, 30)], 1, 24, [(.slice none 0 0)], s31⟩
  | 33 => some ⟨.slc 188, 1, 24, [(.slice none 0 0)], (.l 188 s140)⟩
  | 34 => some ⟨.slc 180, 1, 24, [(.slice none 0 0)], (.l 180 s179)⟩
  | 35 => some ⟨.slc 84, 1, 24, [(.slice none 0 0)], (.l 84 s75)⟩
  | 36 => some ⟨.slc 182, 1, 24, [(.slice none 0 0)], (.l 182 s165)⟩
  | 37 => some ⟨.slc 76, 1, 24, [(.slice none 0 0)], (.l 76 s75)⟩
  | 38 => some ⟨.slc 192, 1, 24, [(.slice none 0 0)], (.l 192 s140)⟩
  | 39 => some ⟨.slc 92, 1, 24, [(.slice none 0 0)], (.l 92 s75)⟩
  | 41 => some ⟨.agg [(0, 26), (10, 29), (14, 32), (15, 30), (16, 33), (17, 34), (18, 35), (19, 30), (20, 36), (21, 37), (22, 3), (23, 3), (24, 38), (25, 39)], 26, 432, [(.int .i64 0), (.slice none 0 0), (.slice none 0 0), (.int .i64 0), (.int .i64 0), (.int .i64 0), (.int .i64 0), (.int .i64 0), (.slice none 0 0), (.int .i64 0), (.int .i64 0), (.int .i64 0), (.int .i64 0), (.slice none 0 0), (.slice none 0 0), (.slice none 0 0), (.slice none 0 0), (.slice none 0 0), (.slice none 0 0), (.slice none 0 0), (.slice none 0 0), (.slice none 0 0), (.int .i64 0), (.int .i64 0), (.slice none 0 0), (.slice none 0 0)], s40⟩
  | 44 => some ⟨.slc 262, 1, 24, [(.slice none 0 0)], (.l 262 s75)⟩
  | 45 => some ⟨.slc 266, 1, 24, [(.slice none 0 0)], (.l 266 s265)⟩
  | 46 => some ⟨.slc 272, 1, 24, [(.slice none 0 0)], (.l 272 s271)⟩
  | 48 => some ⟨.agg [(0, 3), (1, 44), (2, 45), (3, 3), (4, 3), (5, 3), (6, 3), (7, 3), (8, 46), (9, 3)], 10, 128, [(.int .i64 0), (.slice none 0 0), (.slice none 0 0), (.int .i64 0), (.int .i64 0), (.int .i64 0), (.int .i64 0), (.int .i64 0), (.slice none 0 0), (.int .i64 0)], s47⟩
  | 49 => some ⟨.slc 247, 1, 24, [(.slice none 0 0)], (.l 247 s246)⟩
  | 51 => some ⟨.agg [(0, 3), (1, 3), (2, 3), (3, 49)], 4, 48, [(.int .i64 0), (.int .i64 0), (.int .i64 0), (.slice none 0 0)], s50⟩
  | 52 => some ⟨.agg [(0, 30)], 1, 24, [(.slice none 0 0)], s31⟩
  | 53 => some ⟨.slc 141, 1, 24, [(.slice none 0 0)], (.l 141 s140)⟩
  | 54 => some ⟨.slc 158, 1, 24, [(.slice none 0 0)], (.l 158 s157)⟩
  | 55 => some ⟨.slc 86, 1, 24, [(.slice none 0 0)], (.l 86 s75)⟩
  | 56 => some ⟨.slc 166, 1, 24, [(.slice none 0 0)], (.l 166 s165)⟩
  | 57 => some ⟨.slc 79, 1, 24, [(.slice none 0 0)], (.l 79 s75)⟩
  | 58 => some ⟨.slc 155, 1, 24, [(.slice none 0 0)], (.l 155 s140)⟩
  | 59 => some ⟨.slc 94, 1, 24, [(.slice none 0 0)], (.l 94 s75)⟩
  | 61 => some ⟨.agg [(0, 48), (10, 51), (14, 52), (15, 30), (16, 53), (17, 54), (18, 55), (19, 30), (20, 56), (21, 57), (22, 3), (23, 3), (24, 58), (25, 59)], 26, 432, [(.int .i64 0), (.slice none 0 0), (.slice none 0 0), (.int .i64 0), (.int .i64 0), (.int .i64 0), (.int .i64 0), (.int .i64 0), (.slice none 0 0), (.int .i64 0), (.int .i64 0), (.int .i64 0), (.int .i64 0), (.slice none 0 0), (.slice none 0 0), (.slice none 0 0), (.slice none 0 0), (.slice none 0 0), (.slice none 0 0), (.slice none 0 0), (.slice none 0 0), (.slice none 0 0), (.int .i64 0), (.int .i64 0), (.slice none 0 0), (.slice none 0 0)], s60⟩
  | 71 => some ⟨.slc 151, 1, 24, [(.slice none 0 0)], (.l 151 s150)⟩
  | 76 => some ⟨.agg [(0, 3), (1, 3), (2, 3), (3, 3)], 4, 32, [(.int .i64 0), (.int .i64 0), (.int .i64 0), (.int .i64 0)], s75⟩
  | 79 => some ⟨.agg [(0, 3), (1, 3), (2, 3), (3, 3)], 4, 32, [(.int .i64 0), (.int .i64 0), (.int .i64 0), (.int .i64 0)], s75⟩
  | 84 => some ⟨.agg [(0, 3), (1, 3), (2, 3), (3, 3)], 4, 32, [(.int .i64 0), (.int .i64 0), (.int .i64 0), (.int .i64 0)], s75⟩
  | 86 => some ⟨.agg [(0, 3), (1, 3), (2, 3), (3, 3)], 4, 32, [(.int .i64 0), (.int .i64 0), (.int .i64 0), (.int .i64 0)], s75⟩
  | 92 => some ⟨.agg [(0, 3), (1, 3), (2, 3), (3, 3)], 4, 32, [(.int .i64 0), (.int .i64 0), (.int .i64 0), (.int .i64 0)], s75⟩
  | 94 => some ⟨.agg [(0, 3), (1, 3), (2, 3), (3, 3)], 4, 32, [(.int .i64 0), (.int .i64 0), (.int .i64 0), (.int .i64 0)], s75⟩
  | 141 => some ⟨.agg [(0, 3), (1, 3), (2, 3), (3, 3), (4, 3), (5, 3)], 6, 48, [(.int .i64 0), (.int .i64 0), (.int .i64 0), (.int .i64 0), (.int .i64 0), (.int .i64 0)], s140⟩
  | 151 => some ⟨.agg [(0, 3), (1, 3)], 2, 16, [(.int .i64 0), (.int .i64 0)], s150⟩
  | 155 => some ⟨.agg [(0, 3), (1, 3), (2, 3), (3, 3), (4, 3), (5, 3)], 6, 48, [(.int .i64 0), (.int .i64 0), (.int .i64 0), (.int .i64 0), (.int .i64 0), (.int .i64 0)], s140⟩
  | 158 => some ⟨.agg [(0, 58)], 1, 24, [(.slice none 0 0)], s157⟩
  | 166 => some ⟨.agg [(0, 3), (1, 3), (2, 30)], 3, 40, [(.int .i64 0), (.int .i64 0), (.slice none 0 0)], s165⟩
  | 180 => some ⟨.agg [(0, 38)], 1, 24, [(.slice none 0 0)], s179⟩
  | 182 => some ⟨.agg [(0, 3), (1, 3), (2, 30)], 3, 40, [(.int .i64 0), (.int .i64 0), (.slice none 0 0)], s165⟩
  | 188 => some ⟨.agg [(0, 3), (1, 3), (2, 3), (3, 3), (4, 3), (5, 3)], 6, 48, [(.int .i64 0), (.int .i64 0), (.int .i64 0), (.int .i64 0), (.int .i64 0), (.int .i64 0)], s140⟩
  | 192 => some ⟨.agg [(0, 3), (1, 3), (2, 3), (3, 3), (4, 3), (5, 3)], 6, 48, [(.int .i64 0), (.int .i64 0), (.int .i64 0), (.int .i64 0), (.int .i64 0), (.int .i64 0)], s140⟩
  | 239 => some ⟨.agg [(0, 3), (1, 30), (2, 30)], 3, 56, [(.int .i64 0), (.slice none 0 0), (.slice none 0 0)], s238⟩
  | 244 => some ⟨.slc 317, 1, 24, [(.slice none 0 0)], (.l 317 s150)⟩
  | 245 => some ⟨.slc 239, 1, 24, [(.slice none 0 0)], (.l 239 s238)⟩
  | 247 => some ⟨.agg [(0, 151), (2, 244), (3, 245)], 4, 64, [(.int .i64 0), (.int .i64 0), (.slice none 0 0), (.slice none 0 0)], s246⟩
  | 256 => some ⟨.agg [(0, 3), (1, 3)], 2, 16, [(.int .i64 0), (.int .i64 0)], s150⟩
  | 257 => some ⟨.slc 330, 1, 24, [(.slice none 0 0)], (.l 330 s150)⟩
  | 258 => some ⟨.slc 328, 1, 24, [(.slice none 0 0)], (.l 328 s238)⟩
  | 260 => some ⟨.agg [(0, 256), (2, 257), (3, 258)], 4, 64, [(.int .i64 0), (.int .i64 0), (.slice none 0 0), (.slice none 0 0)], s259⟩
  | 262 => some ⟨.agg [(0, 3), (1, 3), (2, 3), (3, 3)], 4, 32, [(.int .i64 0), (.int .i64 0), (.int .i64 0), (.int .i64 0)], s75⟩
  | 264 => some ⟨.agg [(0, 3), (1, 3), (2, 3), (3, 3)], 4, 32, [(.int .i64 0), (.int .i64 0), (.int .i64 0), (.int .i64 0)], s75⟩
  | 266 => some ⟨.agg [(0, 3), (1, 3), (2, 3)], 3, 24, [(.int .i64 0), (.int .i64 0), (.int .i64 0)], s265⟩
  | 268 => some ⟨.agg [(0, 3), (1, 3), (2, 3)], 3, 24, [(.int .i64 0), (.int .i64 0), (.int .i64 0)], s265⟩
  | 270 => some ⟨.agg [(0, 3), (1, 3)], 2, 16, [(.int .i64 0), (.int .i64 0)], s150⟩
  | 272 => some ⟨.agg [(0, 3), (1, 270)], 3, 24, [(.int .i64 0), (.int .i64 0), (.int .i64 0)], s271⟩
  | 274 => some ⟨.agg [(0, 3), (1, 3)], 2, 16, [(.int .i64 0), (.int .i64 0)], s150⟩
  | 276 => some ⟨.agg [(0, 3), (1, 274)], 3, 24, [(.int .i64 0), (.int .i64 0), (.int .i64 0)], s271⟩
  | 284 => some ⟨.slc 4, 1, 24, [(.slice none 0 0)], (.l 4 .b)⟩
  | 317 => some ⟨.agg [(0, 3), (1, 3)], 2, 16, [(.int .i64 0), (.int .i64 0)], s150⟩
  | 328 => some ⟨.agg [(0, 3), (1, 30), (2, 30)], 3, 56, [(.int .i64 0), (.slice none 0 0), (.slice none 0 0)], s238⟩
  | 330 => some ⟨.agg [(0, 3), (1, 3)], 2, 16, [(.int .i64 0), (.int .i64 0)], s150⟩
  | _ => none
noncomputable def fn : Nat → Option Func
  | 4 => some Tryz.f4
  | 7 => some Tryz.f7
  | 14 => some Tryz.f14
  | 16 => some Tryz.f16
  | 18 => some Tryz.f18
  | 19 => some Tryz.f19
  | 23 => some Tryz.f23
  | 24 => some Tryz.f24
  | 29 => some Tryz.f29
  | 30 => some Tryz.f30
  | 31 => some Tryz.f31
  | 32 => some Tryz.f32
  | 37 => some Tryz.f37
  | 43 => some Tryz.f43
  | 48 => some Tryz.f48
  | 50 => some Tryz.f50
  | 51 => some Tryz.f51
  | 52 => some Tryz.f52
  | 53 => some Tryz.f53
  | 54 => some Tryz.f54
  | 55 => some Tryz.f55
  | 56 => some Tryz.f56
  | 57 => some Tryz.f57
  | 58 => some Tryz.f58
  | 59 => some Tryz.f59
  | 60 => some Tryz.f60
  | 61 => some Tryz.f61
  | 62 => some Tryz.f62
  | 63 => some Tryz.f63
  | 64 => some Tryz.f64
  | 65 => some Tryz.f65
  | 66 => some Tryz.f66
  | 67 => some Tryz.f67
  | 68 => some Tryz.f68
  | 69 => some Tryz.f69
  | 70 => some Tryz.f70
  | 71 => some Tryz.f71
  | 72 => some Tryz.f72
  | 73 => some Tryz.f73
  | 74 => some Tryz.f74
  | 75 => some Tryz.f75
  | 76 => some Tryz.f76
  | 77 => some Tryz.f77
  | 78 => some Tryz.f78
  | 79 => some Tryz.f79
  | 80 => some Tryz.f80
  | 81 => some Tryz.f81
  | 92 => some Tryz.f92
  | 93 => some Tryz.f93
  | 94 => some Tryz.f94
  | 95 => some Tryz.f95
  | 98 => some Tryz.f98
  | 101 => some Tryz.f101
  | 102 => some Tryz.f102
  | 103 => some Tryz.f103
  | 104 => some Tryz.f104
  | 105 => some Tryz.f105
  | 106 => some Tryz.f106
  | 107 => some Tryz.f107
  | 135 => some Tryz.f135
  | 144 => some Tryz.f144
  | 145 => some Tryz.f145
  | 146 => some Tryz.f146
  | 147 => some Tryz.f147
  | 148 => some Tryz.f148
  | 149 => some Tryz.f149
  | 150 => some Tryz.f150
  | 151 => some Tryz.f151
  | 152 => some Tryz.f152
  | 153 => some Tryz.f153
  | 154 => some Tryz.f154
  | 155 => some Tryz.f155
  | 156 => some Tryz.f156
  | 157 => some Tryz.f157
  | 158 => some Tryz.f158
  | 159 => some Tryz.f159
  | 160 => some Tryz.f160
  | 161 => some Tryz.f161
  | 162 => some Tryz.f162
  | 163 => some Tryz.f163
  | 164 => some Tryz.f164
  | 165 => some Tryz.f165
  | 166 => some Tryz.f166
  | 167 => some Tryz.f167
  | 168 => some Tryz.f168
  | 173 => some Tryz.f173
  | 174 => some Tryz.f174
  | 175 => some Tryz.f175
  | 176 => some Tryz.f176
  | 184 => some Tryz.f184
  | 185 => some Tryz.f185
  | 186 => some Tryz.f186
  | 187 => some Tryz.f187
  | 188 => some Tryz.f188
  | 189 => some Tryz.f189
  | 190 => some Tryz.f190
  | 191 => some Tryz.f191
  | 192 => some Tryz.f192
  | 193 => some Tryz.f193
  | 198 => some Tryz.f198
  | 209 => some Tryz.f209
  | 244 => some Tryz.f244
  | 245 => some Tryz.f245
  | 246 => some Tryz.f246
  | 247 => some Tryz.f247
  | 248 => some Tryz.f248
  | 249 => some Tryz.f249
  | 250 => some Tryz.f250
  | 251 => some Tryz.f251
  | 252 => some Tryz.f252
  | 255 => some Tryz.f255
  | 256 => some Tryz.f256
  | 260 => some Tryz.f260
  | 261 => some Tryz.f261
  | 262 => some Tryz.f262
  | 263 => some Tryz.f263
  | 264 => some Tryz.f264
  | 265 => some Tryz.f265
  | 266 => some Tryz.f266
  | 267 => some Tryz.f267
  | 268 => some Tryz.f268
  | 301 => some Tryz.f301
  | 302 => some Tryz.f302
  | 303 => some Tryz.f303
  | 304 => some Tryz.f304
  | 305 => some Tryz.f305
  | 306 => some Tryz.f306
  | 307 => some Tryz.f307
  | 308 => some Tryz.f308
  | 309 => some Tryz.f309
  | 311 => some Tryz.f311
  | 312 => some Tryz.f312
  | 313 => some Tryz.f313
  | 314 => some Tryz.f314
  | 315 => some Tryz.f315
  | 316 => some Tryz.f316
  | 317 => some Tryz.f317
  | 318 => some Tryz.f318
  | 319 => some Tryz.f319
  | 332 => some Tryz.f332
  | 333 => some Tryz.f333
  | 334 => some Tryz.f334
  | 335 => some Tryz.f335
  | 336 => some Tryz.f336
  | 337 => some Tryz.f337
  | 338 => some Tryz.f338
  | 339 => some Tryz.f339
  | 340 => some Tryz.f340
  | 341 => some Tryz.f341
  | 342 => some Tryz.f342
  | 343 => some Tryz.f343
  | 344 => some Tryz.f344
  | _ => none
def lv : Nat → List Nat
  | 18 => [0, 0, 1, 5]
  | 55 => [0, 0, 1, 5]
  | 57 => [0, 0, 1, 5]
  | 64 => [0, 0, 3, 4]
  | 65 => [0, 0, 3, 4]
  | 66 => [0, 0, 3, 4]
  | 67 => [0, 0, 3, 4]
  | 68 => [0, 0, 3, 4]
  | 69 => [0, 0, 3, 4]
  | 70 => [0, 0, 3, 4]
  | 71 => [0, 0, 3, 4]
  | 75 => [0, 0, 1, 5]
  | 76 => [0, 0, 1, 5]
  | 77 => [0, 0, 1, 5]
  | 78 => [0, 0, 1, 5]
  | 79 => [0, 0, 1, 5]
  | 80 => [0, 0, 1, 5]
  | 81 => [0, 0, 1, 5]
  | 93 => [0, 1, 2, 4, 9, 10]
  | 101 => [0, 0, 1, 2, 7]
  | 103 => [0, 1, 2, 9, 10, 11]
  | 105 => [0, 1, 4, 9, 11, 12]
  | 147 => [0, 0, 1, 5]
  | 150 => [0, 0, 3, 4]
  | 151 => [0, 0, 3, 4]
  | 152 => [0, 0, 3, 4]
  | 153 => [0, 0, 3, 4]
  | 158 => [0, 0, 1, 5]
  | 159 => [0, 0, 1, 5]
  | 160 => [0, 0, 1, 5]
  | 161 => [0, 0, 1, 5]
  | 174 => [0, 0, 1, 5]
  | 176 => [0, 2, 4, 9, 10, 11]
  | 191 => [0, 1, 2, 7, 8]
  | 256 => [0, 3, 5, 6, 8, 9, 10]
  | 302 => [0, 0, 1, 5]
  | 305 => [0, 0, 3, 4]
  | 306 => [0, 0, 3, 4]
  | 308 => [0, 0, 1, 5]
  | 309 => [0, 0, 1, 5]
  | _ => []
def rs : Nat → RSh
  | 4 => ⟨false, [.b], 0⟩
  | 7 => ⟨false, [.b], 0⟩
  | 14 => ⟨false, [(.i .i64)], 0⟩
  | 16 => ⟨true, [s60], 0⟩
  | 18 => ⟨false, [.b], 0⟩
  | 19 => ⟨false, [.b], 0⟩
  | 23 => ⟨false, [(.i .i64)], 0⟩
  | 24 => ⟨false, [(.i .i64)], 0⟩
  | 29 => ⟨false, [.b], 0⟩
  | 30 => ⟨false, [.b], 0⟩
  | 31 => ⟨true, [(.l 151 s150)], 0⟩
  | 32 => ⟨true, [(.l 151 s150)], 0⟩
  | 37 => ⟨false, [s75], 0⟩
  | 43 => ⟨false, [s75], 0⟩
  | 48 => ⟨false, [s75], 0⟩
  | 50 => ⟨false, [(.i .i64)], 0⟩
  | 51 => ⟨false, [(.i .i64)], 0⟩
  | 52 => ⟨false, [(.i .i64)], 0⟩
  | 53 => ⟨false, [(.i .i64)], 0⟩
  | 54 => ⟨false, [(.i .i64)], 0⟩
  | 55 => ⟨false, [(.i .i64)], 0⟩
  | 56 => ⟨false, [(.i .i64)], 0⟩
  | 57 => ⟨false, [(.i .i64)], 0⟩
  | 58 => ⟨false, [(.i .i64)], 0⟩
  | 59 => ⟨false, [(.i .i64)], 0⟩
  | 60 => ⟨false, [(.i .i64)], 0⟩
  | 61 => ⟨true, [s47], 0⟩
  | 62 => ⟨true, [s50], 0⟩
  | 63 => ⟨true, [s31], 0⟩
  | 64 => ⟨true, [(.l 3 (.i .i64))], 0⟩
  | 65 => ⟨true, [(.l 141 s140)], 0⟩
  | 66 => ⟨true, [(.l 158 s157)], 0⟩
  | 67 => ⟨true, [(.l 86 s75)], 0⟩
  | 68 => ⟨true, [(.l 166 s165)], 0⟩
  | 69 => ⟨true, [(.l 79 s75)], 0⟩
  | 70 => ⟨true, [(.l 155 s140)], 0⟩
  | 71 => ⟨true, [(.l 94 s75)], 0⟩
  | 72 => ⟨false, [.b], 0⟩
  | 73 => ⟨false, [.b], 0⟩
  | 74 => ⟨false, [.b], 0⟩
  | 75 => ⟨false, [.b], 0⟩
  | 76 => ⟨false, [.b], 0⟩
  | 77 => ⟨false, [.b], 0⟩
  | 78 => ⟨false, [.b], 0⟩
  | 79 => ⟨false, [.b], 0⟩
  | 80 => ⟨false, [.b], 0⟩
  | 81 => ⟨false, [.b], 0⟩
  | 92 => ⟨false, [.b], 0⟩
  | 93 => ⟨false, [(.i .i64)], 0⟩
  | 94 => ⟨false, [.b], 0⟩
  | 95 => ⟨false, [(.i .i64)], 0⟩
  | 98 => ⟨false, [(.i .i64)], 0⟩
  | 101 => ⟨false, [.b], 0⟩
  | 102 => ⟨false, [.b], 0⟩
  | 103 => ⟨false, [.b], 0⟩
  | 104 => ⟨false, [.b], 0⟩
  | 105 => ⟨true, [(.l 151 s150)], 0⟩
  | 106 => ⟨true, [(.l 151 s150)], 0⟩
  | 107 => ⟨false, [.b], 0⟩
  | 135 => ⟨false, [.b], 0⟩
  | 144 => ⟨false, [(.i .i64)], 0⟩
  | 145 => ⟨false, [(.i .i64)], 0⟩
  | 146 => ⟨false, [(.i .i64)], 0⟩
  | 147 => ⟨false, [(.i .i64)], 0⟩
  | 148 => ⟨false, [(.i .i64)], 0⟩
  | 149 => ⟨false, [(.i .i64)], 0⟩
  | 150 => ⟨true, [(.l 262 s75)], 0⟩
  | 151 => ⟨true, [(.l 266 s265)], 0⟩
  | 152 => ⟨true, [(.l 272 s271)], 0⟩
  | 153 => ⟨true, [(.l 247 s246)], 0⟩
  | 154 => ⟨false, [s140], 0⟩
  | 155 => ⟨true, [s157], 0⟩
  | 156 => ⟨true, [s165], 0⟩
  | 157 => ⟨false, [s140], 0⟩
  | 158 => ⟨false, [.b], 0⟩
  | 159 => ⟨false, [.b], 0⟩
  | 160 => ⟨false, [.b], 0⟩
  | 161 => ⟨false, [.b], 0⟩
  | 162 => ⟨false, [.b], 0⟩
  | 163 => ⟨false, [.b], 0⟩
  | 164 => ⟨false, [.b], 0⟩
  | 165 => ⟨false, [.b], 0⟩
  | 166 => ⟨false, [.b], 0⟩
  | 167 => ⟨false, [.b], 0⟩
  | 168 => ⟨false, [.b], 0⟩
  | 173 => ⟨false, [.b], 0⟩
  | 174 => ⟨false, [.b], 0⟩
  | 175 => ⟨false, [(.i .i64)], 0⟩
  | 176 => ⟨true, [(.l 3 (.i .i64))], 0⟩
  | 184 => ⟨false, [.b], 0⟩
  | 185 => ⟨false, [.b], 0⟩
  | 186 => ⟨false, [.b], 0⟩
  | 187 => ⟨false, [.b], 0⟩
  | 188 => ⟨false, [(.i .i64), (.i .i64)], 0⟩
  | 189 => ⟨false, [(.i .i64)], 0⟩
  | 190 => ⟨true, [(.l 151 s150)], 0⟩
  | 191 => ⟨true, [(.l 151 s150)], 0⟩
  | 192 => ⟨false, [.b], 0⟩
  | 193 => ⟨false, [(.i .i64)], 0⟩
  | 198 => ⟨false, [.b], 0⟩
  | 209 => ⟨false, [.b], 0⟩
  | 244 => ⟨false, [(.i .i64)], 0⟩
  | 245 => ⟨false, [s75], 0⟩
  | 246 => ⟨false, [s265], 0⟩
  | 247 => ⟨false, [s271], 0⟩
  | 248 => ⟨true, [s246], 0⟩
  | 249 => ⟨false, [.b], 0⟩
  | 250 => ⟨false, [.b], 0⟩
  | 251 => ⟨false, [.b], 0⟩
  | 252 => ⟨false, [.b], 0⟩
  | 255 => ⟨false, [.b], 0⟩
  | 256 => ⟨true, [(.l 4 .b)], 0⟩
  | 260 => ⟨false, [s150], 0⟩
  | 261 => ⟨false, [(.i .i64)], 0⟩
  | 262 => ⟨false, [(.i .i64)], 0⟩
  | 263 => ⟨false, [(.i .i64)], 0⟩
  | 264 => ⟨false, [.b], 0⟩
  | 265 => ⟨false, [s150], 0⟩
  | 266 => ⟨false, [(.i .i64)], 0⟩
  | 267 => ⟨false, [(.i .i64)], 0⟩
  | 268 => ⟨false, [(.i .i64)], 0⟩
  | 301 => ⟨false, [(.i .i64)], 0⟩
  | 302 => ⟨false, [(.i .i64)], 0⟩
  | 303 => ⟨false, [s150], 0⟩
  | 304 => ⟨false, [s150], 0⟩
  | 305 => ⟨true, [(.l 317 s150)], 0⟩
  | 306 => ⟨true, [(.l 239 s238)], 0⟩
  | 307 => ⟨false, [.b], 0⟩
  | 308 => ⟨false, [.b], 0⟩
  | 309 => ⟨false, [.b], 0⟩
  | 311 => ⟨false, [s150], 0⟩
  | 312 => ⟨false, [.b], 0⟩
  | 313 => ⟨false, [(.i .i64)], 0⟩
  | 314 => ⟨false, [(.i .i64)], 0⟩
  | 315 => ⟨false, [s150], 0⟩
  | 316 => ⟨false, [.b], 0⟩
  | 317 => ⟨false, [(.i .i64)], 0⟩
  | 318 => ⟨false, [(.i .i64)], 0⟩
  | 319 => ⟨false, [.b], 0⟩
  | 332 => ⟨false, [(.i .i64)], 0⟩
  | 333 => ⟨false, [s150], 0⟩
  | 334 => ⟨true, [s238], 0⟩
  | 335 => ⟨false, [.b], 0⟩
  | 336 => ⟨false, [.b], 0⟩
  | 337 => ⟨false, [s150], 0⟩
  | 338 => ⟨false, [(.i .i64)], 0⟩
  | 339 => ⟨false, [(.i .i64)], 0⟩
  | 340 => ⟨false, [(.i .i64)], 0⟩
  | 341 => ⟨false, [s150], 0⟩
  | 342 => ⟨false, [(.i .i64)], 0⟩
  | 343 => ⟨false, [(.i .i64)], 0⟩
  | 344 => ⟨false, [(.i .i64)], 0⟩
  | _ => ⟨false, [], 0⟩
def tk : Nat → List (Option Sh)
  | 190 => [some (.l 151 s150)]
  | _ => []
noncomputable def E : Env := { P := Tryz.prog, fn := fn, ty := ty, lv := lv, rs := rs, tk := tk, ext := fun _ => none }
/-! loop.example/g00599/laws.szSatS -/
noncomputable def F144 (k : Nat) (a0 : List (Int × Int × Int × Int)) (a1 : Int) : Option (Int) := den E k 144 [.c (.l 264 s75 a0), .c (.v (.int .i64 a1))]
theorem e144 (k : Nat) (a0 : List (Int × Int × Int × Int)) (a1 : Int) : F144 (k + 1) a0 a1 = if (decide ((IntKind.i64.wrap (a1 - (a0.length : Int))) < 0)) = true then some (-1) else some (IntKind.i64.wrap (a1 - (a0.length : Int))) := by kernel_rfl
/-! loop.example/g00599/laws.szSiteS -/
noncomputable def F145 (k : Nat) (a0 : List (Int × Int × Int)) (a1 : Int) : Option (Int) := den E k 145 [.c (.l 268 s265 a0), .c (.v (.int .i64 a1))]
theorem e145 (k : Nat) (a0 : List (Int × Int × Int)) (a1 : Int) : F145 (k + 1) a0 a1 = if (decide ((IntKind.i64.wrap (a1 - (a0.length : Int))) < 0)) = true then some (-1) else some (IntKind.i64.wrap (a1 - (a0.length : Int))) := by kernel_rfl
/-! loop.example/g00599/laws.szZoneS -/
noncomputable def F146 (k : Nat) (a0 : List (Int × Int × Int)) (a1 : Int) : Option (Int) := den E k 146 [.c (.l 276 s271 a0), .c (.v (.int .i64 a1))]
theorem e146 (k : Nat) (a0 : List (Int × Int × Int)) (a1 : Int) : F146 (k + 1) a0 a1 = if (decide ((IntKind.i64.wrap (a1 - (a0.length : Int))) < 0)) = true then some (-1) else some (IntKind.i64.wrap (a1 - (a0.length : Int))) := by kernel_rfl
/-! loop.example/g00599/laws.szSky -/
noncomputable def F50 (k : Nat) (a0 : T25) (a1 : Int) : Option (Int) := den E k 50 [.agg [.v (.int .i64 a0.1), .l 264 s75 a0.2.1, .l 268 s265 a0.2.2.1, .v (.int .i64 a0.2.2.2.1), .v (.int .i64 a0.2.2.2.2.1), .v (.int .i64 a0.2.2.2.2.2.1), .v (.int .i64 a0.2.2.2.2.2.2.1), .v (.int .i64 a0.2.2.2.2.2.2.2.1), .l 276 s271 a0.2.2.2.2.2.2.2.2.1, .v (.int .i64 a0.2.2.2.2.2.2.2.2.2)], .c (.v (.int .i64 a1))]
theorem e50 (k : Nat) (a0 : T25) (a1 : Int) : F50 (k + 1) a0 a1 = (F144 k a0.2.1 a1).bind fun p1 => if (decide (p1 < 0)) = true then some (-1) else (F145 k a0.2.2.1 p1).bind fun p2 => if (decide (p2 < 0)) = true then some (-1) else (F146 k a0.2.2.2.2.2.2.2.2.1 p2).bind fun p3 => if (decide (p3 < 0)) = true then some (-1) else some p3 := by kernel_rfl
/-! loop.example/g00599/laws.szLinkS -/
noncomputable def F301 (k : Nat) (a0 : List (Int × Int)) (a1 : Int) : Option (Int) := den E k 301 [.c (.l 330 s150 a0), .c (.v (.int .i64 a1))]
theorem e301 (k : Nat) (a0 : List (Int × Int)) (a1 : Int) : F301 (k + 1) a0 a1 = if (decide ((IntKind.i64.wrap (a1 - (a0.length : Int))) < 0)) = true then some (-1) else some (IntKind.i64.wrap (a1 - (a0.length : Int))) := by kernel_rfl
/-! loop.example/g00599/laws.szIntS -/
noncomputable def F53 (k : Nat) (a0 : List Int) (a1 : Int) : Option (Int) := den E k 53 [.c (.l 3 (.i .i64) a0), .c (.v (.int .i64 a1))]
theorem e53 (k : Nat) (a0 : List Int) (a1 : Int) : F53 (k + 1) a0 a1 = if (decide ((IntKind.i64.wrap (a1 - (a0.length : Int))) < 0)) = true then some (-1) else some (IntKind.i64.wrap (a1 - (a0.length : Int))) := by kernel_rfl
/-! loop.example/g00599/laws.szTable -/
noncomputable def F332 (k : Nat) (a0 : Int × (List Int) × List Int) (a1 : Int) : Option (Int) := den E k 332 [.agg [.v (.int .i64 a0.1), .l 3 (.i .i64) a0.2.1, .l 3 (.i .i64) a0.2.2], .c (.v (.int .i64 a1))]
theorem e332 (k : Nat) (a0 : Int × (List Int) × List Int) (a1 : Int) : F332 (k + 1) a0 a1 = (F53 k a0.2.1 a1).bind fun p1 => if (decide (p1 < 0)) = true then some (-1) else (F53 k a0.2.2 p1).bind fun p2 => if (decide (p2 < 0)) = true then some (-1) else some p2 := by kernel_rfl
/-! loop.example/g00599/laws.szTableS -/
noncomputable def F302 (k : Nat) (a0 : List (Int × (List Int) × List Int)) (a1 : Int) : Option (Int) := den E k 302 [.c (.l 328 s238 a0), .c (.v (.int .i64 a1))]
abbrev C302_0 : Type := (List (Int × (List Int) × List Int))
abbrev V302_0 : Type := Int × Int
def St302_0 (c0 : C302_0) (v0 : V302_0) : St := ⟨27, 0, [(0, .c (.l 328 s238 c0)), (1, .c (.v (.int .i64 v0.1))), (5, .c (.v (.int .i64 v0.2)))], []⟩
noncomputable def B302_0 {R : Type} (k : Nat) (X0 : V302_0 → (Int × (List Int) × List Int) → Int → Option R) (X1 : V302_0 → Option R) (c0 : C302_0) (rec : V302_0 → Option R) (v0 : V302_0) : Option R := if (decide (v0.2 < (c0.length : Int))) = true then if 0 ≤ v0.2 then ix c0 v0.2.toNat fun x1 => (F332 k x1 v0.1).bind fun p2 => if (decide (p2 < 0)) = true then X0 v0 x1 p2 else rec (p2, (IntKind.i64.wrap (v0.2 + 1))) else none else X1 v0
noncomputable def L302_0 {R : Type} (k : Nat) (X0 : V302_0 → (Int × (List Int) × List Int) → Int → Option R) (X1 : V302_0 → Option R) (c : C302_0) : Nat → V302_0 → Option R
  | 0, _ => none
  | n + 1, v => B302_0 k X0 X1 c (L302_0 k X0 X1 c n) v
theorem b302_0 {R : Type} (k n : Nat) (K : Ex → St → Option R) (c0 : C302_0) (v : V302_0) : loopRun [0, 0, 1, 5] (run E (den E k) (lv 302) k (nthLoop Tryz.f302 0)) (n + 1) (St302_0 c0 v) K = B302_0 k (fun (v0 : V302_0) (x1 : Int × (List Int) × List Int) (p2 : Int) => K .ret ⟨27, 0, [(0, .c (.l 328 s238 c0)), (1, .c (.v (.int .i64 p2))), (4, .c (.v (.int .i64 (-1)))), (5, .c (.v (.int .i64 v0.2))), (12, .c (.v (.int .i64 v0.2))), (13, .c (.l 328 s238 c0)), (14, .c (.v (.int .i64 (c0.length : Int)))), (15, .c (.v (.bool (decide (v0.2 < (c0.length : Int)))))), (18, .c (.l 328 s238 c0)), (19, .c (.v (.int .i64 v0.2))), (20, .c (.at_ [.v (.int .i64 x1.1), .l 3 (.i .i64) x1.2.1, .l 3 (.i .i64) x1.2.2])), (21, .agg [.v (.int .i64 x1.1), .l 3 (.i .i64) x1.2.1, .l 3 (.i .i64) x1.2.2]), (22, .c (.v (.int .i64 v0.1))), (23, .c (.v (.int .i64 p2))), (24, .c (.v (.int .i64 p2))), (25, .c (.v (.bool (decide (p2 < 0)))))], []⟩) (fun (v0 : V302_0) => K (.exit 0) ⟨27, 0, [(0, .c (.l 328 s238 c0)), (1, .c (.v (.int .i64 v0.1))), (5, .c (.v (.int .i64 v0.2))), (12, .c (.v (.int .i64 v0.2))), (13, .c (.l 328 s238 c0)), (14, .c (.v (.int .i64 (c0.length : Int)))), (15, .c (.v (.bool (decide (v0.2 < (c0.length : Int))))))], []⟩) c0 (fun v => loopRun [0, 0, 1, 5] (run E (den E k) (lv 302) k (nthLoop Tryz.f302 0)) n (St302_0 c0 v) K) v := by kernel_rfl
theorem l302_0 {R : Type} (k : Nat) (K : Ex → St → Option R) (c0 : C302_0) : ∀ (n : Nat) (v : V302_0), loopRun [0, 0, 1, 5] (run E (den E k) (lv 302) k (nthLoop Tryz.f302 0)) n (St302_0 c0 v) K = L302_0 k (fun (v0 : V302_0) (x1 : Int × (List Int) × List Int) (p2 : Int) => K .ret ⟨27, 0, [(0, .c (.l 328 s238 c0)), (1, .c (.v (.int .i64 p2))), (4, .c (.v (.int .i64 (-1)))), (5, .c (.v (.int .i64 v0.2))), (12, .c (.v (.int .i64 v0.2))), (13, .c (.l 328 s238 c0)), (14, .c (.v (.int .i64 (c0.length : Int)))), (15, .c (.v (.bool (decide (v0.2 < (c0.length : Int)))))), (18, .c (.l 328 s238 c0)), (19, .c (.v (.int .i64 v0.2))), (20, .c (.at_ [.v (.int .i64 x1.1), .l 3 (.i .i64) x1.2.1, .l 3 (.i .i64) x1.2.2])), (21, .agg [.v (.int .i64 x1.1), .l 3 (.i .i64) x1.2.1, .l 3 (.i .i64) x1.2.2]), (22, .c (.v (.int .i64 v0.1))), (23, .c (.v (.int .i64 p2))), (24, .c (.v (.int .i64 p2))), (25, .c (.v (.bool (decide (p2 < 0)))))], []⟩) (fun (v0 : V302_0) => K (.exit 0) ⟨27, 0, [(0, .c (.l 328 s238 c0)), (1, .c (.v (.int .i64 v0.1))), (5, .c (.v (.int .i64 v0.2))), (12, .c (.v (.int .i64 v0.2))), (13, .c (.l 328 s238 c0)), (14, .c (.v (.int .i64 (c0.length : Int)))), (15, .c (.v (.bool (decide (v0.2 < (c0.length : Int))))))], []⟩) c0 n v := by
  intro n
  induction n with
  | zero => intro v; rfl
  | succ n ih =>
    intro v
    refine (b302_0 k n K c0 v).trans ?_
    rw [funext ih]
    kernel_rfl
theorem m302_0 (k : Nat) (a0 : List (Int × (List Int) × List Int)) (a1 : Int) : F302 (k + 1) a0 a1 = if (decide ((IntKind.i64.wrap (a1 - (a0.length : Int))) < 0)) = true then some (-1) else loopRun (R := Int) [0, 0, 1, 5] (run E (den E k) (lv 302) k (nthLoop Tryz.f302 0)) k (St302_0 a0 ((IntKind.i64.wrap (a1 - (a0.length : Int))), 0)) (kontAt E (den E k) (lv 302) k (bodyOf Tryz.f302) 0 [] (finish E (rs 302) Tryz.f302 : Ex → St → Option (Int))) := by kernel_rfl
theorem e302 (k : Nat) (a0 : List (Int × (List Int) × List Int)) (a1 : Int) : F302 (k + 1) a0 a1 = if (decide ((IntKind.i64.wrap (a1 - (a0.length : Int))) < 0)) = true then some (-1) else L302_0 k (fun (v0 : Int × Int) (x1 : Int × (List Int) × List Int) (p2 : Int) => some (-1)) (fun (v0 : Int × Int) => some v0.1) a0 k ((IntKind.i64.wrap (a1 - (a0.length : Int))), 0) := by
  rw [m302_0]
  simp only [l302_0]
  kernel_rfl
/-! loop.example/g00599/laws.szPiece -/
noncomputable def F244 (k : Nat) (a0 : T259) (a1 : Int) : Option (Int) := den E k 244 [.agg [.v (.int .i64 a0.1.1), .v (.int .i64 a0.1.2), .l 330 s150 a0.2.1, .l 328 s238 a0.2.2], .c (.v (.int .i64 a1))]
theorem e244 (k : Nat) (a0 : T259) (a1 : Int) : F244 (k + 1) a0 a1 = (F301 k a0.2.1 a1).bind fun p1 => if (decide (p1 < 0)) = true then some (-1) else (F302 k a0.2.2 p1).bind fun p2 => if (decide (p2 < 0)) = true then some (-1) else some p2 := by kernel_rfl
/-! loop.example/g00599/laws.szPieceS -/
noncomputable def F147 (k : Nat) (a0 : List T259) (a1 : Int) : Option (Int) := den E k 147 [.c (.l 260 s259 a0), .c (.v (.int .i64 a1))]
abbrev C147_0 : Type := (List T259)
abbrev V147_0 : Type := Int × Int
def St147_0 (c0 : C147_0) (v0 : V147_0) : St := ⟨27, 0, [(0, .c (.l 260 s259 c0)), (1, .c (.v (.int .i64 v0.1))), (5, .c (.v (.int .i64 v0.2)))], []⟩
noncomputable def B147_0 {R : Type} (k : Nat) (X0 : V147_0 → T259 → Int → Option R) (X1 : V147_0 → Option R) (c0 : C147_0) (rec : V147_0 → Option R) (v0 : V147_0) : Option R := if (decide (v0.2 < (c0.length : Int))) = true then if 0 ≤ v0.2 then ix c0 v0.2.toNat fun x1 => (F244 k x1 v0.1).bind fun p2 => if (decide (p2 < 0)) = true then X0 v0 x1 p2 else rec (p2, (IntKind.i64.wrap (v0.2 + 1))) else none else X1 v0
noncomputable def L147_0 {R : Type} (k : Nat) (X0 : V147_0 → T259 → Int → Option R) (X1 : V147_0 → Option R) (c : C147_0) : Nat → V147_0 → Option R
  | 0, _ => none
  | n + 1, v => B147_0 k X0 X1 c (L147_0 k X0 X1 c n) v
theorem b147_0 {R : Type} (k n : Nat) (K : Ex → St → Option R) (c0 : C147_0) (v : V147_0) : loopRun [0, 0, 1, 5] (run E (den E k) (lv 147) k (nthLoop Tryz.f147 0)) (n + 1) (St147_0 c0 v) K = B147_0 k (fun (v0 : V147_0) (x1 : T259) (p2 : Int) => K .ret ⟨27, 0, [(0, .c (.l 260 s259 c0)), (1, .c (.v (.int .i64 p2))), (4, .c (.v (.int .i64 (-1)))), (5, .c (.v (.int .i64 v0.2))), (12, .c (.v (.int .i64 v0.2))), (13, .c (.l 260 s259 c0)), (14, .c (.v (.int .i64 (c0.length : Int)))), (15, .c (.v (.bool (decide (v0.2 < (c0.length : Int)))))), (18, .c (.l 260 s259 c0)), (19, .c (.v (.int .i64 v0.2))), (20, .c (.at_ [.v (.int .i64 x1.1.1), .v (.int .i64 x1.1.2), .l 330 s150 x1.2.1, .l 328 s238 x1.2.2])), (21, .agg [.v (.int .i64 x1.1.1), .v (.int .i64 x1.1.2), .l 330 s150 x1.2.1, .l 328 s238 x1.2.2]), (22, .c (.v (.int .i64 v0.1))), (23, .c (.v (.int .i64 p2))), (24, .c (.v (.int .i64 p2))), (25, .c (.v (.bool (decide (p2 < 0)))))], []⟩) (fun (v0 : V147_0) => K (.exit 0) ⟨27, 0, [(0, .c (.l 260 s259 c0)), (1, .c (.v (.int .i64 v0.1))), (5, .c (.v (.int .i64 v0.2))), (12, .c (.v (.int .i64 v0.2))), (13, .c (.l 260 s259 c0)), (14, .c (.v (.int .i64 (c0.length : Int)))), (15, .c (.v (.bool (decide (v0.2 < (c0.length : Int))))))], []⟩) c0 (fun v => loopRun [0, 0, 1, 5] (run E (den E k) (lv 147) k (nthLoop Tryz.f147 0)) n (St147_0 c0 v) K) v := by kernel_rfl
theorem l147_0 {R : Type} (k : Nat) (K : Ex → St → Option R) (c0 : C147_0) : ∀ (n : Nat) (v : V147_0), loopRun [0, 0, 1, 5] (run E (den E k) (lv 147) k (nthLoop Tryz.f147 0)) n (St147_0 c0 v) K = L147_0 k (fun (v0 : V147_0) (x1 : T259) (p2 : Int) => K .ret ⟨27, 0, [(0, .c (.l 260 s259 c0)), (1, .c (.v (.int .i64 p2))), (4, .c (.v (.int .i64 (-1)))), (5, .c (.v (.int .i64 v0.2))), (12, .c (.v (.int .i64 v0.2))), (13, .c (.l 260 s259 c0)), (14, .c (.v (.int .i64 (c0.length : Int)))), (15, .c (.v (.bool (decide (v0.2 < (c0.length : Int)))))), (18, .c (.l 260 s259 c0)), (19, .c (.v (.int .i64 v0.2))), (20, .c (.at_ [.v (.int .i64 x1.1.1), .v (.int .i64 x1.1.2), .l 330 s150 x1.2.1, .l 328 s238 x1.2.2])), (21, .agg [.v (.int .i64 x1.1.1), .v (.int .i64 x1.1.2), .l 330 s150 x1.2.1, .l 328 s238 x1.2.2]), (22, .c (.v (.int .i64 v0.1))), (23, .c (.v (.int .i64 p2))), (24, .c (.v (.int .i64 p2))), (25, .c (.v (.bool (decide (p2 < 0)))))], []⟩) (fun (v0 : V147_0) => K (.exit 0) ⟨27, 0, [(0, .c (.l 260 s259 c0)), (1, .c (.v (.int .i64 v0.1))), (5, .c (.v (.int .i64 v0.2))), (12, .c (.v (.int .i64 v0.2))), (13, .c (.l 260 s259 c0)), (14, .c (.v (.int .i64 (c0.length : Int)))), (15, .c (.v (.bool (decide (v0.2 < (c0.length : Int))))))], []⟩) c0 n v := by
  intro n
  induction n with
  | zero => intro v; rfl
  | succ n ih =>
    intro v
    refine (b147_0 k n K c0 v).trans ?_
    rw [funext ih]
    kernel_rfl
theorem m147_0 (k : Nat) (a0 : List T259) (a1 : Int) : F147 (k + 1) a0 a1 = if (decide ((IntKind.i64.wrap (a1 - (a0.length : Int))) < 0)) = true then some (-1) else loopRun (R := Int) [0, 0, 1, 5] (run E (den E k) (lv 147) k (nthLoop Tryz.f147 0)) k (St147_0 a0 ((IntKind.i64.wrap (a1 - (a0.length : Int))), 0)) (kontAt E (den E k) (lv 147) k (bodyOf Tryz.f147) 0 [] (finish E (rs 147) Tryz.f147 : Ex → St → Option (Int))) := by kernel_rfl
theorem e147 (k : Nat) (a0 : List T259) (a1 : Int) : F147 (k + 1) a0 a1 = if (decide ((IntKind.i64.wrap (a1 - (a0.length : Int))) < 0)) = true then some (-1) else L147_0 k (fun (v0 : Int × Int) (x1 : T259) (p2 : Int) => some (-1)) (fun (v0 : Int × Int) => some v0.1) a0 k ((IntKind.i64.wrap (a1 - (a0.length : Int))), 0) := by
  rw [m147_0]
  simp only [l147_0]
  kernel_rfl
/-! loop.example/g00599/laws.szProgram -/
noncomputable def F51 (k : Nat) (a0 : T28) (a1 : Int) : Option (Int) := den E k 51 [.agg [.v (.int .i64 a0.1), .v (.int .i64 a0.2.1), .v (.int .i64 a0.2.2.1), .l 260 s259 a0.2.2.2], .c (.v (.int .i64 a1))]
theorem e51 (k : Nat) (a0 : T28) (a1 : Int) : F51 (k + 1) a0 a1 = (F147 k a0.2.2.2 a1).bind fun p1 => if (decide (p1 < 0)) = true then some (-1) else some p1 := by kernel_rfl
/-! loop.example/g00599/laws.szLaw -/
noncomputable def F52 (k : Nat) (a0 : List Int) (a1 : Int) : Option (Int) := den E k 52 [.agg [.l 3 (.i .i64) a0], .c (.v (.int .i64 a1))]
theorem e52 (k : Nat) (a0 : List Int) (a1 : Int) : F52 (k + 1) a0 a1 = (F53 k a0 a1).bind fun p1 => if (decide (p1 < 0)) = true then some (-1) else some p1 := by kernel_rfl
/-! loop.example/g00599/laws.szBatteryS -/
noncomputable def F54 (k : Nat) (a0 : List (Int × Int × Int × Int × Int × Int)) (a1 : Int) : Option (Int) := den E k 54 [.c (.l 188 s140 a0), .c (.v (.int .i64 a1))]
theorem e54 (k : Nat) (a0 : List (Int × Int × Int × Int × Int × Int)) (a1 : Int) : F54 (k + 1) a0 a1 = if (decide ((IntKind.i64.wrap (a1 - (a0.length : Int))) < 0)) = true then some (-1) else some (IntKind.i64.wrap (a1 - (a0.length : Int))) := by kernel_rfl
/-! loop.example/g00599/laws.szPacketS -/
noncomputable def F59 (k : Nat) (a0 : List (Int × Int × Int × Int × Int × Int)) (a1 : Int) : Option (Int) := den E k 59 [.c (.l 192 s140 a0), .c (.v (.int .i64 a1))]
theorem e59 (k : Nat) (a0 : List (Int × Int × Int × Int × Int × Int)) (a1 : Int) : F59 (k + 1) a0 a1 = if (decide ((IntKind.i64.wrap (a1 - (a0.length : Int))) < 0)) = true then some (-1) else some (IntKind.i64.wrap (a1 - (a0.length : Int))) := by kernel_rfl
/-! loop.example/g00599/laws.szQueue -/
noncomputable def F148 (k : Nat) (a0 : List (Int × Int × Int × Int × Int × Int)) (a1 : Int) : Option (Int) := den E k 148 [.agg [.l 192 s140 a0], .c (.v (.int .i64 a1))]
theorem e148 (k : Nat) (a0 : List (Int × Int × Int × Int × Int × Int)) (a1 : Int) : F148 (k + 1) a0 a1 = (F59 k a0 a1).bind fun p1 => if (decide (p1 < 0)) = true then some (-1) else some p1 := by kernel_rfl
/-! loop.example/g00599/laws.szQueueS -/
noncomputable def F55 (k : Nat) (a0 : List (List (Int × Int × Int × Int × Int × Int))) (a1 : Int) : Option (Int) := den E k 55 [.c (.l 180 s179 a0), .c (.v (.int .i64 a1))]
abbrev C55_0 : Type := (List (List (Int × Int × Int × Int × Int × Int)))
abbrev V55_0 : Type := Int × Int
def St55_0 (c0 : C55_0) (v0 : V55_0) : St := ⟨27, 0, [(0, .c (.l 180 s179 c0)), (1, .c (.v (.int .i64 v0.1))), (5, .c (.v (.int .i64 v0.2)))], []⟩
noncomputable def B55_0 {R : Type} (k : Nat) (X0 : V55_0 → (List (Int × Int × Int × Int × Int × Int)) → Int → Option R) (X1 : V55_0 → Option R) (c0 : C55_0) (rec : V55_0 → Option R) (v0 : V55_0) : Option R := if (decide (v0.2 < (c0.length : Int))) = true then if 0 ≤ v0.2 then ix c0 v0.2.toNat fun x1 => (F148 k x1 v0.1).bind fun p2 => if (decide (p2 < 0)) = true then X0 v0 x1 p2 else rec (p2, (IntKind.i64.wrap (v0.2 + 1))) else none else X1 v0
noncomputable def L55_0 {R : Type} (k : Nat) (X0 : V55_0 → (List (Int × Int × Int × Int × Int × Int)) → Int → Option R) (X1 : V55_0 → Option R) (c : C55_0) : Nat → V55_0 → Option R
  | 0, _ => none
  | n + 1, v => B55_0 k X0 X1 c (L55_0 k X0 X1 c n) v
theorem b55_0 {R : Type} (k n : Nat) (K : Ex → St → Option R) (c0 : C55_0) (v : V55_0) : loopRun [0, 0, 1, 5] (run E (den E k) (lv 55) k (nthLoop Tryz.f55 0)) (n + 1) (St55_0 c0 v) K = B55_0 k (fun (v0 : V55_0) (x1 : List (Int × Int × Int × Int × Int × Int)) (p2 : Int) => K .ret ⟨27, 0, [(0, .c (.l 180 s179 c0)), (1, .c (.v (.int .i64 p2))), (4, .c (.v (.int .i64 (-1)))), (5, .c (.v (.int .i64 v0.2))), (12, .c (.v (.int .i64 v0.2))), (13, .c (.l 180 s179 c0)), (14, .c (.v (.int .i64 (c0.length : Int)))), (15, .c (.v (.bool (decide (v0.2 < (c0.length : Int)))))), (18, .c (.l 180 s179 c0)), (19, .c (.v (.int .i64 v0.2))), (20, .c (.at_ [.l 192 s140 x1])), (21, .agg [.l 192 s140 x1]), (22, .c (.v (.int .i64 v0.1))), (23, .c (.v (.int .i64 p2))), (24, .c (.v (.int .i64 p2))), (25, .c (.v (.bool (decide (p2 < 0)))))], []⟩) (fun (v0 : V55_0) => K (.exit 0) ⟨27, 0, [(0, .c (.l 180 s179 c0)), (1, .c (.v (.int .i64 v0.1))), (5, .c (.v (.int .i64 v0.2))), (12, .c (.v (.int .i64 v0.2))), (13, .c (.l 180 s179 c0)), (14, .c (.v (.int .i64 (c0.length : Int)))), (15, .c (.v (.bool (decide (v0.2 < (c0.length : Int))))))], []⟩) c0 (fun v => loopRun [0, 0, 1, 5] (run E (den E k) (lv 55) k (nthLoop Tryz.f55 0)) n (St55_0 c0 v) K) v := by kernel_rfl
theorem l55_0 {R : Type} (k : Nat) (K : Ex → St → Option R) (c0 : C55_0) : ∀ (n : Nat) (v : V55_0), loopRun [0, 0, 1, 5] (run E (den E k) (lv 55) k (nthLoop Tryz.f55 0)) n (St55_0 c0 v) K = L55_0 k (fun (v0 : V55_0) (x1 : List (Int × Int × Int × Int × Int × Int)) (p2 : Int) => K .ret ⟨27, 0, [(0, .c (.l 180 s179 c0)), (1, .c (.v (.int .i64 p2))), (4, .c (.v (.int .i64 (-1)))), (5, .c (.v (.int .i64 v0.2))), (12, .c (.v (.int .i64 v0.2))), (13, .c (.l 180 s179 c0)), (14, .c (.v (.int .i64 (c0.length : Int)))), (15, .c (.v (.bool (decide (v0.2 < (c0.length : Int)))))), (18, .c (.l 180 s179 c0)), (19, .c (.v (.int .i64 v0.2))), (20, .c (.at_ [.l 192 s140 x1])), (21, .agg [.l 192 s140 x1]), (22, .c (.v (.int .i64 v0.1))), (23, .c (.v (.int .i64 p2))), (24, .c (.v (.int .i64 p2))), (25, .c (.v (.bool (decide (p2 < 0)))))], []⟩) (fun (v0 : V55_0) => K (.exit 0) ⟨27, 0, [(0, .c (.l 180 s179 c0)), (1, .c (.v (.int .i64 v0.1))), (5, .c (.v (.int .i64 v0.2))), (12, .c (.v (.int .i64 v0.2))), (13, .c (.l 180 s179 c0)), (14, .c (.v (.int .i64 (c0.length : Int)))), (15, .c (.v (.bool (decide (v0.2 < (c0.length : Int))))))], []⟩) c0 n v := by
  intro n
  induction n with
  | zero => intro v; rfl
  | succ n ih =>
    intro v
    refine (b55_0 k n K c0 v).trans ?_
    rw [funext ih]
    kernel_rfl
theorem m55_0 (k : Nat) (a0 : List (List (Int × Int × Int × Int × Int × Int))) (a1 : Int) : F55 (k + 1) a0 a1 = if (decide ((IntKind.i64.wrap (a1 - (a0.length : Int))) < 0)) = true then some (-1) else loopRun (R := Int) [0, 0, 1, 5] (run E (den E k) (lv 55) k (nthLoop Tryz.f55 0)) k (St55_0 a0 ((IntKind.i64.wrap (a1 - (a0.length : Int))), 0)) (kontAt E (den E k) (lv 55) k (bodyOf Tryz.f55) 0 [] (finish E (rs 55) Tryz.f55 : Ex → St → Option (Int))) := by kernel_rfl
theorem e55 (k : Nat) (a0 : List (List (Int × Int × Int × Int × Int × Int))) (a1 : Int) : F55 (k + 1) a0 a1 = if (decide ((IntKind.i64.wrap (a1 - (a0.length : Int))) < 0)) = true then some (-1) else L55_0 k (fun (v0 : Int × Int) (x1 : List (Int × Int × Int × Int × Int × Int)) (p2 : Int) => some (-1)) (fun (v0 : Int × Int) => some v0.1) a0 k ((IntKind.i64.wrap (a1 - (a0.length : Int))), 0) := by
  rw [m55_0]
  simp only [l55_0]
  kernel_rfl
/-! loop.example/g00599/laws.szFlowS -/
noncomputable def F56 (k : Nat) (a0 : List (Int × Int × Int × Int)) (a1 : Int) : Option (Int) := den E k 56 [.c (.l 84 s75 a0), .c (.v (.int .i64 a1))]
theorem e56 (k : Nat) (a0 : List (Int × Int × Int × Int)) (a1 : Int) : F56 (k + 1) a0 a1 = if (decide ((IntKind.i64.wrap (a1 - (a0.length : Int))) < 0)) = true then some (-1) else some (IntKind.i64.wrap (a1 - (a0.length : Int))) := by kernel_rfl
/-! loop.example/g00599/laws.szStream -/
noncomputable def F149 (k : Nat) (a0 : Int × Int × List Int) (a1 : Int) : Option (Int) := den E k 149 [.agg [.v (.int .i64 a0.1), .v (.int .i64 a0.2.1), .l 3 (.i .i64) a0.2.2], .c (.v (.int .i64 a1))]
theorem e149 (k : Nat) (a0 : Int × Int × List Int) (a1 : Int) : F149 (k + 1) a0 a1 = (F53 k a0.2.2 a1).bind fun p1 => if (decide (p1 < 0)) = true then some (-1) else some p1 := by kernel_rfl
/-! loop.example/g00599/laws.szStreamS -/
noncomputable def F57 (k : Nat) (a0 : List (Int × Int × List Int)) (a1 : Int) : Option (Int) := den E k 57 [.c (.l 182 s165 a0), .c (.v (.int .i64 a1))]
abbrev C57_0 : Type := (List (Int × Int × List Int))
abbrev V57_0 : Type := Int × Int
def St57_0 (c0 : C57_0) (v0 : V57_0) : St := ⟨27, 0, [(0, .c (.l 182 s165 c0)), (1, .c (.v (.int .i64 v0.1))), (5, .c (.v (.int .i64 v0.2)))], []⟩
noncomputable def B57_0 {R : Type} (k : Nat) (X0 : V57_0 → (Int × Int × List Int) → Int → Option R) (X1 : V57_0 → Option R) (c0 : C57_0) (rec : V57_0 → Option R) (v0 : V57_0) : Option R := if (decide (v0.2 < (c0.length : Int))) = true then if 0 ≤ v0.2 then ix c0 v0.2.toNat fun x1 => (F149 k x1 v0.1).bind fun p2 => if (decide (p2 < 0)) = true then X0 v0 x1 p2 else rec (p2, (IntKind.i64.wrap (v0.2 + 1))) else none else X1 v0
noncomputable def L57_0 {R : Type} (k : Nat) (X0 : V57_0 → (Int × Int × List Int) → Int → Option R) (X1 : V57_0 → Option R) (c : C57_0) : Nat → V57_0 → Option R
  | 0, _ => none
  | n + 1, v => B57_0 k X0 X1 c (L57_0 k X0 X1 c n) v
theorem b57_0 {R : Type} (k n : Nat) (K : Ex → St → Option R) (c0 : C57_0) (v : V57_0) : loopRun [0, 0, 1, 5] (run E (den E k) (lv 57) k (nthLoop Tryz.f57 0)) (n + 1) (St57_0 c0 v) K = B57_0 k (fun (v0 : V57_0) (x1 : Int × Int × List Int) (p2 : Int) => K .ret ⟨27, 0, [(0, .c (.l 182 s165 c0)), (1, .c (.v (.int .i64 p2))), (4, .c (.v (.int .i64 (-1)))), (5, .c (.v (.int .i64 v0.2))), (12, .c (.v (.int .i64 v0.2))), (13, .c (.l 182 s165 c0)), (14, .c (.v (.int .i64 (c0.length : Int)))), (15, .c (.v (.bool (decide (v0.2 < (c0.length : Int)))))), (18, .c (.l 182 s165 c0)), (19, .c (.v (.int .i64 v0.2))), (20, .c (.at_ [.v (.int .i64 x1.1), .v (.int .i64 x1.2.1), .l 3 (.i .i64) x1.2.2])), (21, .agg [.v (.int .i64 x1.1), .v (.int .i64 x1.2.1), .l 3 (.i .i64) x1.2.2]), (22, .c (.v (.int .i64 v0.1))), (23, .c (.v (.int .i64 p2))), (24, .c (.v (.int .i64 p2))), (25, .c (.v (.bool (decide (p2 < 0)))))], []⟩) (fun (v0 : V57_0) => K (.exit 0) ⟨27, 0, [(0, .c (.l 182 s165 c0)), (1, .c (.v (.int .i64 v0.1))), (5, .c (.v (.int .i64 v0.2))), (12, .c (.v (.int .i64 v0.2))), (13, .c (.l 182 s165 c0)), (14, .c (.v (.int .i64 (c0.length : Int)))), (15, .c (.v (.bool (decide (v0.2 < (c0.length : Int))))))], []⟩) c0 (fun v => loopRun [0, 0, 1, 5] (run E (den E k) (lv 57) k (nthLoop Tryz.f57 0)) n (St57_0 c0 v) K) v := by kernel_rfl
theorem l57_0 {R : Type} (k : Nat) (K : Ex → St → Option R) (c0 : C57_0) : ∀ (n : Nat) (v : V57_0), loopRun [0, 0, 1, 5] (run E (den E k) (lv 57) k (nthLoop Tryz.f57 0)) n (St57_0 c0 v) K = L57_0 k (fun (v0 : V57_0) (x1 : Int × Int × List Int) (p2 : Int) => K .ret ⟨27, 0, [(0, .c (.l 182 s165 c0)), (1, .c (.v (.int .i64 p2))), (4, .c (.v (.int .i64 (-1)))), (5, .c (.v (.int .i64 v0.2))), (12, .c (.v (.int .i64 v0.2))), (13, .c (.l 182 s165 c0)), (14, .c (.v (.int .i64 (c0.length : Int)))), (15, .c (.v (.bool (decide (v0.2 < (c0.length : Int)))))), (18, .c (.l 182 s165 c0)), (19, .c (.v (.int .i64 v0.2))), (20, .c (.at_ [.v (.int .i64 x1.1), .v (.int .i64 x1.2.1), .l 3 (.i .i64) x1.2.2])), (21, .agg [.v (.int .i64 x1.1), .v (.int .i64 x1.2.1), .l 3 (.i .i64) x1.2.2]), (22, .c (.v (.int .i64 v0.1))), (23, .c (.v (.int .i64 p2))), (24, .c (.v (.int .i64 p2))), (25, .c (.v (.bool (decide (p2 < 0)))))], []⟩) (fun (v0 : V57_0) => K (.exit 0) ⟨27, 0, [(0, .c (.l 182 s165 c0)), (1, .c (.v (.int .i64 v0.1))), (5, .c (.v (.int .i64 v0.2))), (12, .c (.v (.int .i64 v0.2))), (13, .c (.l 182 s165 c0)), (14, .c (.v (.int .i64 (c0.length : Int)))), (15, .c (.v (.bool (decide (v0.2 < (c0.length : Int))))))], []⟩) c0 n v := by
  intro n
  induction n with
  | zero => intro v; rfl
  | succ n ih =>
    intro v
    refine (b57_0 k n K c0 v).trans ?_
    rw [funext ih]
    kernel_rfl
theorem m57_0 (k : Nat) (a0 : List (Int × Int × List Int)) (a1 : Int) : F57 (k + 1) a0 a1 = if (decide ((IntKind.i64.wrap (a1 - (a0.length : Int))) < 0)) = true then some (-1) else loopRun (R := Int) [0, 0, 1, 5] (run E (den E k) (lv 57) k (nthLoop Tryz.f57 0)) k (St57_0 a0 ((IntKind.i64.wrap (a1 - (a0.length : Int))), 0)) (kontAt E (den E k) (lv 57) k (bodyOf Tryz.f57) 0 [] (finish E (rs 57) Tryz.f57 : Ex → St → Option (Int))) := by kernel_rfl
theorem e57 (k : Nat) (a0 : List (Int × Int × List Int)) (a1 : Int) : F57 (k + 1) a0 a1 = if (decide ((IntKind.i64.wrap (a1 - (a0.length : Int))) < 0)) = true then some (-1) else L57_0 k (fun (v0 : Int × Int) (x1 : Int × Int × List Int) (p2 : Int) => some (-1)) (fun (v0 : Int × Int) => some v0.1) a0 k ((IntKind.i64.wrap (a1 - (a0.length : Int))), 0) := by
  rw [m57_0]
  simp only [l57_0]
  kernel_rfl
/-! loop.example/g00599/laws.szFaultS -/
noncomputable def F58 (k : Nat) (a0 : List (Int × Int × Int × Int)) (a1 : Int) : Option (Int) := den E k 58 [.c (.l 76 s75 a0), .c (.v (.int .i64 a1))]
theorem e58 (k : Nat) (a0 : List (Int × Int × Int × Int)) (a1 : Int) : F58 (k + 1) a0 a1 = if (decide ((IntKind.i64.wrap (a1 - (a0.length : Int))) < 0)) = true then some (-1) else some (IntKind.i64.wrap (a1 - (a0.length : Int))) := by kernel_rfl
/-! loop.example/g00599/laws.szSentS -/
noncomputable def F60 (k : Nat) (a0 : List (Int × Int × Int × Int)) (a1 : Int) : Option (Int) := den E k 60 [.c (.l 92 s75 a0), .c (.v (.int .i64 a1))]
theorem e60 (k : Nat) (a0 : List (Int × Int × Int × Int)) (a1 : Int) : F60 (k + 1) a0 a1 = if (decide ((IntKind.i64.wrap (a1 - (a0.length : Int))) < 0)) = true then some (-1) else some (IntKind.i64.wrap (a1 - (a0.length : Int))) := by kernel_rfl
/-! loop.example/g00599/laws.szWorld -/
noncomputable def F14 (k : Nat) (a0 : T40) (a1 : Int) : Option (Int) := den E k 14 [.agg [.v (.int .i64 a0.1.1), .l 264 s75 a0.1.2.1, .l 268 s265 a0.1.2.2.1, .v (.int .i64 a0.1.2.2.2.1), .v (.int .i64 a0.1.2.2.2.2.1), .v (.int .i64 a0.1.2.2.2.2.2.1), .v (.int .i64 a0.1.2.2.2.2.2.2.1), .v (.int .i64 a0.1.2.2.2.2.2.2.2.1), .l 276 s271 a0.1.2.2.2.2.2.2.2.2.1, .v (.int .i64 a0.1.2.2.2.2.2.2.2.2.2), .v (.int .i64 a0.2.1.1), .v (.int .i64 a0.2.1.2.1), .v (.int .i64 a0.2.1.2.2.1), .l 260 s259 a0.2.1.2.2.2, .l 3 (.i .i64) a0.2.2.1, .l 3 (.i .i64) a0.2.2.2.1, .l 188 s140 a0.2.2.2.2.1, .l 180 s179 a0.2.2.2.2.2.1, .l 84 s75 a0.2.2.2.2.2.2.1, .l 3 (.i .i64) a0.2.2.2.2.2.2.2.1, .l 182 s165 a0.2.2.2.2.2.2.2.2.1, .l 76 s75 a0.2.2.2.2.2.2.2.2.2.1, .v (.int .i64 a0.2.2.2.2.2.2.2.2.2.2.1), .v (.int .i64 a0.2.2.2.2.2.2.2.2.2.2.2.1), .l 192 s140 a0.2.2.2.2.2.2.2.2.2.2.2.2.1, .l 92 s75 a0.2.2.2.2.2.2.2.2.2.2.2.2.2], .c (.v (.int .i64 a1))]
theorem e14 (k : Nat) (a0 : T40) (a1 : Int) : F14 (k + 1) a0 a1 = (F50 k a0.1 a1).bind fun p1 => if (decide (p1 < 0)) = true then some (-1) else (F51 k a0.2.1 p1).bind fun p2 => if (decide (p2 < 0)) = true then some (-1) else (F52 k a0.2.2.1 p2).bind fun p3 => if (decide (p3 < 0)) = true then some (-1) else (F53 k a0.2.2.2.1 p3).bind fun p4 => if (decide (p4 < 0)) = true then some (-1) else (F54 k a0.2.2.2.2.1 p4).bind fun p5 => if (decide (p5 < 0)) = true then some (-1) else (F55 k a0.2.2.2.2.2.1 p5).bind fun p6 => if (decide (p6 < 0)) = true then some (-1) else (F56 k a0.2.2.2.2.2.2.1 p6).bind fun p7 => if (decide (p7 < 0)) = true then some (-1) else (F53 k a0.2.2.2.2.2.2.2.1 p7).bind fun p8 => if (decide (p8 < 0)) = true then some (-1) else (F57 k a0.2.2.2.2.2.2.2.2.1 p8).bind fun p9 => if (decide (p9 < 0)) = true then some (-1) else (F58 k a0.2.2.2.2.2.2.2.2.2.1 p9).bind fun p10 => if (decide (p10 < 0)) = true then some (-1) else (F59 k a0.2.2.2.2.2.2.2.2.2.2.2.2.1 p10).bind fun p11 => if (decide (p11 < 0)) = true then some (-1) else (F60 k a0.2.2.2.2.2.2.2.2.2.2.2.2.2 p11).bind fun p12 => if (decide (p12 < 0)) = true then some (-1) else some p12 := by kernel_rfl
/-! loop.example/g00599/laws.toSat -/
noncomputable def F245 (k : Nat) (a0 : Int × Int × Int × Int) : Option (Int × Int × Int × Int) := den E k 245 [.agg [.v (.int .i64 a0.1), .v (.int .i64 a0.2.1), .v (.int .i64 a0.2.2.1), .v (.int .i64 a0.2.2.2)]]
theorem e245 (k : Nat) (a0 : Int × Int × Int × Int) : F245 (k + 1) a0 = some a0 := by kernel_rfl
/-! loop.example/g00599/laws.toSatS -/
noncomputable def F150 (k : Nat) (a0 : List (Int × Int × Int × Int)) : Option (List (Int × Int × Int × Int)) := den E k 150 [.c (.l 264 s75 a0)]
abbrev C150_0 : Type := (List (Int × Int × Int × Int))
abbrev V150_0 : Type := Int × (List (Int × Int × Int × Int))
def St150_0 (c0 : C150_0) (v0 : V150_0) : St := ⟨23, 1, [(0, .c (.l 264 s75 c0)), (3, .c (.ref 0)), (4, .c (.v (.int .i64 v0.1)))], [(0, .arr 262 s75 v0.2)]⟩
noncomputable def B150_0 {R : Type} (k : Nat) (X0 : V150_0 → Option R) (c0 : C150_0) (rec : V150_0 → Option R) (v0 : V150_0) : Option R := if (decide (v0.1 < (c0.length : Int))) = true then if 0 ≤ v0.1 then ix c0 v0.1.toNat fun x1 => (F245 k x1).bind fun p2 => if 0 ≤ v0.1 then if v0.1 < (v0.2.length : Int) then ix v0.2 v0.1.toNat fun y3 => rec ((IntKind.i64.wrap (v0.1 + 1)), (v0.2.set v0.1.toNat p2)) else none else none else none else X0 v0
noncomputable def L150_0 {R : Type} (k : Nat) (X0 : V150_0 → Option R) (c : C150_0) : Nat → V150_0 → Option R
  | 0, _ => none
  | n + 1, v => B150_0 k X0 c (L150_0 k X0 c n) v
theorem b150_0 {R : Type} (k n : Nat) (K : Ex → St → Option R) (c0 : C150_0) (v : V150_0) : loopRun [0, 0, 3, 4] (run E (den E k) (lv 150) k (nthLoop Tryz.f150 0)) (n + 1) (St150_0 c0 v) K = B150_0 k (fun (v0 : V150_0) => K (.exit 0) ⟨23, 1, [(0, .c (.l 264 s75 c0)), (3, .c (.ref 0)), (4, .c (.v (.int .i64 v0.1))), (8, .c (.v (.int .i64 v0.1))), (9, .c (.l 264 s75 c0)), (10, .c (.v (.int .i64 (c0.length : Int)))), (11, .c (.v (.bool (decide (v0.1 < (c0.length : Int))))))], [(0, .arr 262 s75 v0.2)]⟩) c0 (fun v => loopRun [0, 0, 3, 4] (run E (den E k) (lv 150) k (nthLoop Tryz.f150 0)) n (St150_0 c0 v) K) v := by kernel_rfl
theorem l150_0 {R : Type} (k : Nat) (K : Ex → St → Option R) (c0 : C150_0) : ∀ (n : Nat) (v : V150_0), loopRun [0, 0, 3, 4] (run E (den E k) (lv 150) k (nthLoop Tryz.f150 0)) n (St150_0 c0 v) K = L150_0 k (fun (v0 : V150_0) => K (.exit 0) ⟨23, 1, [(0, .c (.l 264 s75 c0)), (3, .c (.ref 0)), (4, .c (.v (.int .i64 v0.1))), (8, .c (.v (.int .i64 v0.1))), (9, .c (.l 264 s75 c0)), (10, .c (.v (.int .i64 (c0.length : Int)))), (11, .c (.v (.bool (decide (v0.1 < (c0.length : Int))))))], [(0, .arr 262 s75 v0.2)]⟩) c0 n v := by
  intro n
  induction n with
  | zero => intro v; rfl
  | succ n ih =>
    intro v
    refine (b150_0 k n K c0 v).trans ?_
    rw [funext ih]
    kernel_rfl
theorem m150_0 (k : Nat) (a0 : List (Int × Int × Int × Int)) : F150 (k + 1) a0 = if (a0.length : Int) = (a0.length : Int) then if 0 ≤ (a0.length : Int) then if 32 * (a0.length : Int).toNat ≤ 281474976710656 then loopRun (R := List (Int × Int × Int × Int)) [0, 0, 3, 4] (run E (den E k) (lv 150) k (nthLoop Tryz.f150 0)) k (St150_0 a0 (0, (List.replicate (a0.length : Int).toNat ((0, 0, 0, 0) : Int × Int × Int × Int)))) (kontAt E (den E k) (lv 150) k (bodyOf Tryz.f150) 0 [] (finish E (rs 150) Tryz.f150 : Ex → St → Option (List (Int × Int × Int × Int)))) else none else none else none := by kernel_rfl
theorem e150 (k : Nat) (a0 : List (Int × Int × Int × Int)) : F150 (k + 1) a0 = if (a0.length : Int) = (a0.length : Int) then if 0 ≤ (a0.length : Int) then if 32 * (a0.length : Int).toNat ≤ 281474976710656 then L150_0 k (fun (v0 : Int × (List (Int × Int × Int × Int))) => some v0.2) a0 k (0, (List.replicate (a0.length : Int).toNat ((0, 0, 0, 0) : Int × Int × Int × Int))) else none else none else none := by
  rw [m150_0]
  simp only [l150_0]
  kernel_rfl
/-! loop.example/g00599/laws.toSite -/
noncomputable def F246 (k : Nat) (a0 : Int × Int × Int) : Option (Int × Int × Int) := den E k 246 [.agg [.v (.int .i64 a0.1), .v (.int .i64 a0.2.1), .v (.int .i64 a0.2.2)]]
theorem e246 (k : Nat) (a0 : Int × Int × Int) : F246 (k + 1) a0 = some a0 := by kernel_rfl
/-! loop.example/g00599/laws.toSiteS -/
noncomputable def F151 (k : Nat) (a0 : List (Int × Int × Int)) : Option (List (Int × Int × Int)) := den E k 151 [.c (.l 268 s265 a0)]
abbrev C151_0 : Type := (List (Int × Int × Int))
abbrev V151_0 : Type := Int × (List (Int × Int × Int))
def St151_0 (c0 : C151_0) (v0 : V151_0) : St := ⟨23, 1, [(0, .c (.l 268 s265 c0)), (3, .c (.ref 0)), (4, .c (.v (.int .i64 v0.1)))], [(0, .arr 266 s265 v0.2)]⟩
noncomputable def B151_0 {R : Type} (k : Nat) (X0 : V151_0 → Option R) (c0 : C151_0) (rec : V151_0 → Option R) (v0 : V151_0) : Option R := if (decide (v0.1 < (c0.length : Int))) = true then if 0 ≤ v0.1 then ix c0 v0.1.toNat fun x1 => (F246 k x1).bind fun p2 => if 0 ≤ v0.1 then if v0.1 < (v0.2.length : Int) then ix v0.2 v0.1.toNat fun y3 => rec ((IntKind.i64.wrap (v0.1 + 1)), (v0.2.set v0.1.toNat p2)) else none else none else none else X0 v0
noncomputable def L151_0 {R : Type} (k : Nat) (X0 : V151_0 → Option R) (c : C151_0) : Nat → V151_0 → Option R
  | 0, _ => none
  | n + 1, v => B151_0 k X0 c (L151_0 k X0 c n) v
theorem b151_0 {R : Type} (k n : Nat) (K : Ex → St → Option R) (c0 : C151_0) (v : V151_0) : loopRun [0, 0, 3, 4] (run E (den E k) (lv 151) k (nthLoop Tryz.f151 0)) (n + 1) (St151_0 c0 v) K = B151_0 k (fun (v0 : V151_0) => K (.exit 0) ⟨23, 1, [(0, .c (.l 268 s265 c0)), (3, .c (.ref 0)), (4, .c (.v (.int .i64 v0.1))), (8, .c (.v (.int .i64 v0.1))), (9, .c (.l 268 s265 c0)), (10, .c (.v (.int .i64 (c0.length : Int)))), (11, .c (.v (.bool (decide (v0.1 < (c0.length : Int))))))], [(0, .arr 266 s265 v0.2)]⟩) c0 (fun v => loopRun [0, 0, 3, 4] (run E (den E k) (lv 151) k (nthLoop Tryz.f151 0)) n (St151_0 c0 v) K) v := by kernel_rfl
theorem l151_0 {R : Type} (k : Nat) (K : Ex → St → Option R) (c0 : C151_0) : ∀ (n : Nat) (v : V151_0), loopRun [0, 0, 3, 4] (run E (den E k) (lv 151) k (nthLoop Tryz.f151 0)) n (St151_0 c0 v) K = L151_0 k (fun (v0 : V151_0) => K (.exit 0) ⟨23, 1, [(0, .c (.l 268 s265 c0)), (3, .c (.ref 0)), (4, .c (.v (.int .i64 v0.1))), (8, .c (.v (.int .i64 v0.1))), (9, .c (.l 268 s265 c0)), (10, .c (.v (.int .i64 (c0.length : Int)))), (11, .c (.v (.bool (decide (v0.1 < (c0.length : Int))))))], [(0, .arr 266 s265 v0.2)]⟩) c0 n v := by
  intro n
  induction n with
  | zero => intro v; rfl
  | succ n ih =>
    intro v
    refine (b151_0 k n K c0 v).trans ?_
    rw [funext ih]
    kernel_rfl
theorem m151_0 (k : Nat) (a0 : List (Int × Int × Int)) : F151 (k + 1) a0 = if (a0.length : Int) = (a0.length : Int) then if 0 ≤ (a0.length : Int) then if 24 * (a0.length : Int).toNat ≤ 281474976710656 then loopRun (R := List (Int × Int × Int)) [0, 0, 3, 4] (run E (den E k) (lv 151) k (nthLoop Tryz.f151 0)) k (St151_0 a0 (0, (List.replicate (a0.length : Int).toNat ((0, 0, 0) : Int × Int × Int)))) (kontAt E (den E k) (lv 151) k (bodyOf Tryz.f151) 0 [] (finish E (rs 151) Tryz.f151 : Ex → St → Option (List (Int × Int × Int)))) else none else none else none := by kernel_rfl
theorem e151 (k : Nat) (a0 : List (Int × Int × Int)) : F151 (k + 1) a0 = if (a0.length : Int) = (a0.length : Int) then if 0 ≤ (a0.length : Int) then if 24 * (a0.length : Int).toNat ≤ 281474976710656 then L151_0 k (fun (v0 : Int × (List (Int × Int × Int))) => some v0.2) a0 k (0, (List.replicate (a0.length : Int).toNat ((0, 0, 0) : Int × Int × Int))) else none else none else none := by
  rw [m151_0]
  simp only [l151_0]
  kernel_rfl
/-! loop.example/g00599/laws.toArc -/
noncomputable def F303 (k : Nat) (a0 : Int × Int) : Option (Int × Int) := den E k 303 [.agg [.v (.int .i64 a0.1), .v (.int .i64 a0.2)]]
theorem e303 (k : Nat) (a0 : Int × Int) : F303 (k + 1) a0 = some a0 := by kernel_rfl
/-! loop.example/g00599/laws.toZone -/
noncomputable def F247 (k : Nat) (a0 : Int × Int × Int) : Option (Int × Int × Int) := den E k 247 [.agg [.v (.int .i64 a0.1), .v (.int .i64 a0.2.1), .v (.int .i64 a0.2.2)]]
theorem e247 (k : Nat) (a0 : Int × Int × Int) : F247 (k + 1) a0 = (F303 k a0.2).bind fun p1 => some (a0.1, p1) := by kernel_rfl
/-! loop.example/g00599/laws.toZoneS -/
noncomputable def F152 (k : Nat) (a0 : List (Int × Int × Int)) : Option (List (Int × Int × Int)) := den E k 152 [.c (.l 276 s271 a0)]
abbrev C152_0 : Type := (List (Int × Int × Int))
abbrev V152_0 : Type := Int × (List (Int × Int × Int))
def St152_0 (c0 : C152_0) (v0 : V152_0) : St := ⟨23, 1, [(0, .c (.l 276 s271 c0)), (3, .c (.ref 0)), (4, .c (.v (.int .i64 v0.1)))], [(0, .arr 272 s271 v0.2)]⟩
noncomputable def B152_0 {R : Type} (k : Nat) (X0 : V152_0 → Option R) (c0 : C152_0) (rec : V152_0 → Option R) (v0 : V152_0) : Option R := if (decide (v0.1 < (c0.length : Int))) = true then if 0 ≤ v0.1 then ix c0 v0.1.toNat fun x1 => (F247 k x1).bind fun p2 => if 0 ≤ v0.1 then if v0.1 < (v0.2.length : Int) then ix v0.2 v0.1.toNat fun y3 => rec ((IntKind.i64.wrap (v0.1 + 1)), (v0.2.set v0.1.toNat p2)) else none else none else none else X0 v0
noncomputable def L152_0 {R : Type} (k : Nat) (X0 : V152_0 → Option R) (c : C152_0) : Nat → V152_0 → Option R
  | 0, _ => none
  | n + 1, v => B152_0 k X0 c (L152_0 k X0 c n) v
theorem b152_0 {R : Type} (k n : Nat) (K : Ex → St → Option R) (c0 : C152_0) (v : V152_0) : loopRun [0, 0, 3, 4] (run E (den E k) (lv 152) k (nthLoop Tryz.f152 0)) (n + 1) (St152_0 c0 v) K = B152_0 k (fun (v0 : V152_0) => K (.exit 0) ⟨23, 1, [(0, .c (.l 276 s271 c0)), (3, .c (.ref 0)), (4, .c (.v (.int .i64 v0.1))), (8, .c (.v (.int .i64 v0.1))), (9, .c (.l 276 s271 c0)), (10, .c (.v (.int .i64 (c0.length : Int)))), (11, .c (.v (.bool (decide (v0.1 < (c0.length : Int))))))], [(0, .arr 272 s271 v0.2)]⟩) c0 (fun v => loopRun [0, 0, 3, 4] (run E (den E k) (lv 152) k (nthLoop Tryz.f152 0)) n (St152_0 c0 v) K) v := by kernel_rfl
theorem l152_0 {R : Type} (k : Nat) (K : Ex → St → Option R) (c0 : C152_0) : ∀ (n : Nat) (v : V152_0), loopRun [0, 0, 3, 4] (run E (den E k) (lv 152) k (nthLoop Tryz.f152 0)) n (St152_0 c0 v) K = L152_0 k (fun (v0 : V152_0) => K (.exit 0) ⟨23, 1, [(0, .c (.l 276 s271 c0)), (3, .c (.ref 0)), (4, .c (.v (.int .i64 v0.1))), (8, .c (.v (.int .i64 v0.1))), (9, .c (.l 276 s271 c0)), (10, .c (.v (.int .i64 (c0.length : Int)))), (11, .c (.v (.bool (decide (v0.1 < (c0.length : Int))))))], [(0, .arr 272 s271 v0.2)]⟩) c0 n v := by
  intro n
  induction n with
  | zero => intro v; rfl
  | succ n ih =>
    intro v
    refine (b152_0 k n K c0 v).trans ?_
    rw [funext ih]
    kernel_rfl
theorem m152_0 (k : Nat) (a0 : List (Int × Int × Int)) : F152 (k + 1) a0 = if (a0.length : Int) = (a0.length : Int) then if 0 ≤ (a0.length : Int) then if 24 * (a0.length : Int).toNat ≤ 281474976710656 then loopRun (R := List (Int × Int × Int)) [0, 0, 3, 4] (run E (den E k) (lv 152) k (nthLoop Tryz.f152 0)) k (St152_0 a0 (0, (List.replicate (a0.length : Int).toNat ((0, (0, 0)) : Int × Int × Int)))) (kontAt E (den E k) (lv 152) k (bodyOf Tryz.f152) 0 [] (finish E (rs 152) Tryz.f152 : Ex → St → Option (List (Int × Int × Int)))) else none else none else none := by kernel_rfl
theorem e152 (k : Nat) (a0 : List (Int × Int × Int)) : F152 (k + 1) a0 = if (a0.length : Int) = (a0.length : Int) then if 0 ≤ (a0.length : Int) then if 24 * (a0.length : Int).toNat ≤ 281474976710656 then L152_0 k (fun (v0 : Int × (List (Int × Int × Int))) => some v0.2) a0 k (0, (List.replicate (a0.length : Int).toNat ((0, (0, 0)) : Int × Int × Int))) else none else none else none := by
  rw [m152_0]
  simp only [l152_0]
  kernel_rfl
/-! loop.example/g00599/laws.toSky -/
noncomputable def F61 (k : Nat) (a0 : T25) : Option T25 := den E k 61 [.agg [.v (.int .i64 a0.1), .l 264 s75 a0.2.1, .l 268 s265 a0.2.2.1, .v (.int .i64 a0.2.2.2.1), .v (.int .i64 a0.2.2.2.2.1), .v (.int .i64 a0.2.2.2.2.2.1), .v (.int .i64 a0.2.2.2.2.2.2.1), .v (.int .i64 a0.2.2.2.2.2.2.2.1), .l 276 s271 a0.2.2.2.2.2.2.2.2.1, .v (.int .i64 a0.2.2.2.2.2.2.2.2.2)]]
theorem e61 (k : Nat) (a0 : T25) : F61 (k + 1) a0 = (F150 k a0.2.1).bind fun p1 => (F151 k a0.2.2.1).bind fun p2 => (F152 k a0.2.2.2.2.2.2.2.2.1).bind fun p3 => some (a0.1, p1, p2, a0.2.2.2.1, a0.2.2.2.2.1, a0.2.2.2.2.2.1, a0.2.2.2.2.2.2.1, a0.2.2.2.2.2.2.2.1, p3, a0.2.2.2.2.2.2.2.2.2) := by kernel_rfl
/-! loop.example/g00599/laws.toSpan -/
noncomputable def F304 (k : Nat) (a0 : Int × Int) : Option (Int × Int) := den E k 304 [.agg [.v (.int .i64 a0.1), .v (.int .i64 a0.2)]]
theorem e304 (k : Nat) (a0 : Int × Int) : F304 (k + 1) a0 = some a0 := by kernel_rfl
/-! loop.example/g00599/laws.toLink -/
noncomputable def F333 (k : Nat) (a0 : Int × Int) : Option (Int × Int) := den E k 333 [.agg [.v (.int .i64 a0.1), .v (.int .i64 a0.2)]]
theorem e333 (k : Nat) (a0 : Int × Int) : F333 (k + 1) a0 = some a0 := by kernel_rfl
/-! loop.example/g00599/laws.toLinkS -/
noncomputable def F305 (k : Nat) (a0 : List (Int × Int)) : Option (List (Int × Int)) := den E k 305 [.c (.l 330 s150 a0)]
abbrev C305_0 : Type := (List (Int × Int))
abbrev V305_0 : Type := Int × (List (Int × Int))
def St305_0 (c0 : C305_0) (v0 : V305_0) : St := ⟨23, 1, [(0, .c (.l 330 s150 c0)), (3, .c (.ref 0)), (4, .c (.v (.int .i64 v0.1)))], [(0, .arr 317 s150 v0.2)]⟩
noncomputable def B305_0 {R : Type} (k : Nat) (X0 : V305_0 → Option R) (c0 : C305_0) (rec : V305_0 → Option R) (v0 : V305_0) : Option R := if (decide (v0.1 < (c0.length : Int))) = true then if 0 ≤ v0.1 then ix c0 v0.1.toNat fun x1 => (F333 k x1).bind fun p2 => if 0 ≤ v0.1 then if v0.1 < (v0.2.length : Int) then ix v0.2 v0.1.toNat fun y3 => rec ((IntKind.i64.wrap (v0.1 + 1)), (v0.2.set v0.1.toNat p2)) else none else none else none else X0 v0
noncomputable def L305_0 {R : Type} (k : Nat) (X0 : V305_0 → Option R) (c : C305_0) : Nat → V305_0 → Option R
  | 0, _ => none
  | n + 1, v => B305_0 k X0 c (L305_0 k X0 c n) v
theorem b305_0 {R : Type} (k n : Nat) (K : Ex → St → Option R) (c0 : C305_0) (v : V305_0) : loopRun [0, 0, 3, 4] (run E (den E k) (lv 305) k (nthLoop Tryz.f305 0)) (n + 1) (St305_0 c0 v) K = B305_0 k (fun (v0 : V305_0) => K (.exit 0) ⟨23, 1, [(0, .c (.l 330 s150 c0)), (3, .c (.ref 0)), (4, .c (.v (.int .i64 v0.1))), (8, .c (.v (.int .i64 v0.1))), (9, .c (.l 330 s150 c0)), (10, .c (.v (.int .i64 (c0.length : Int)))), (11, .c (.v (.bool (decide (v0.1 < (c0.length : Int))))))], [(0, .arr 317 s150 v0.2)]⟩) c0 (fun v => loopRun [0, 0, 3, 4] (run E (den E k) (lv 305) k (nthLoop Tryz.f305 0)) n (St305_0 c0 v) K) v := by kernel_rfl
theorem l305_0 {R : Type} (k : Nat) (K : Ex → St → Option R) (c0 : C305_0) : ∀ (n : Nat) (v : V305_0), loopRun [0, 0, 3, 4] (run E (den E k) (lv 305) k (nthLoop Tryz.f305 0)) n (St305_0 c0 v) K = L305_0 k (fun (v0 : V305_0) => K (.exit 0) ⟨23, 1, [(0, .c (.l 330 s150 c0)), (3, .c (.ref 0)), (4, .c (.v (.int .i64 v0.1))), (8, .c (.v (.int .i64 v0.1))), (9, .c (.l 330 s150 c0)), (10, .c (.v (.int .i64 (c0.length : Int)))), (11, .c (.v (.bool (decide (v0.1 < (c0.length : Int))))))], [(0, .arr 317 s150 v0.2)]⟩) c0 n v := by
  intro n
  induction n with
  | zero => intro v; rfl
  | succ n ih =>
    intro v
    refine (b305_0 k n K c0 v).trans ?_
    rw [funext ih]
    kernel_rfl
theorem m305_0 (k : Nat) (a0 : List (Int × Int)) : F305 (k + 1) a0 = if (a0.length : Int) = (a0.length : Int) then if 0 ≤ (a0.length : Int) then if 16 * (a0.length : Int).toNat ≤ 281474976710656 then loopRun (R := List (Int × Int)) [0, 0, 3, 4] (run E (den E k) (lv 305) k (nthLoop Tryz.f305 0)) k (St305_0 a0 (0, (List.replicate (a0.length : Int).toNat ((0, 0) : Int × Int)))) (kontAt E (den E k) (lv 305) k (bodyOf Tryz.f305) 0 [] (finish E (rs 305) Tryz.f305 : Ex → St → Option (List (Int × Int)))) else none else none else none := by kernel_rfl
theorem e305 (k : Nat) (a0 : List (Int × Int)) : F305 (k + 1) a0 = if (a0.length : Int) = (a0.length : Int) then if 0 ≤ (a0.length : Int) then if 16 * (a0.length : Int).toNat ≤ 281474976710656 then L305_0 k (fun (v0 : Int × (List (Int × Int))) => some v0.2) a0 k (0, (List.replicate (a0.length : Int).toNat ((0, 0) : Int × Int))) else none else none else none := by
  rw [m305_0]
  simp only [l305_0]
  kernel_rfl
/-! loop.example/g00599/laws.toIntS -/
noncomputable def F64 (k : Nat) (a0 : List Int) : Option (List Int) := den E k 64 [.c (.l 3 (.i .i64) a0)]
abbrev C64_0 : Type := (List Int)
abbrev V64_0 : Type := Int × (List Int)
def St64_0 (c0 : C64_0) (v0 : V64_0) : St := ⟨22, 1, [(0, .c (.l 3 (.i .i64) c0)), (3, .c (.ref 0)), (4, .c (.v (.int .i64 v0.1)))], [(0, .arr 3 (.i .i64) v0.2)]⟩
noncomputable def B64_0 {R : Type} (k : Nat) (X0 : V64_0 → Option R) (c0 : C64_0) (rec : V64_0 → Option R) (v0 : V64_0) : Option R := if (decide (v0.1 < (c0.length : Int))) = true then if 0 ≤ v0.1 then ix c0 v0.1.toNat fun x1 => if 0 ≤ v0.1 then if v0.1 < (v0.2.length : Int) then ix v0.2 v0.1.toNat fun y2 => rec ((IntKind.i64.wrap (v0.1 + 1)), (v0.2.set v0.1.toNat x1)) else none else none else none else X0 v0
noncomputable def L64_0 {R : Type} (k : Nat) (X0 : V64_0 → Option R) (c : C64_0) : Nat → V64_0 → Option R
  | 0, _ => none
  | n + 1, v => B64_0 k X0 c (L64_0 k X0 c n) v
theorem b64_0 {R : Type} (k n : Nat) (K : Ex → St → Option R) (c0 : C64_0) (v : V64_0) : loopRun [0, 0, 3, 4] (run E (den E k) (lv 64) k (nthLoop Tryz.f64 0)) (n + 1) (St64_0 c0 v) K = B64_0 k (fun (v0 : V64_0) => K (.exit 0) ⟨22, 1, [(0, .c (.l 3 (.i .i64) c0)), (3, .c (.ref 0)), (4, .c (.v (.int .i64 v0.1))), (8, .c (.v (.int .i64 v0.1))), (9, .c (.l 3 (.i .i64) c0)), (10, .c (.v (.int .i64 (c0.length : Int)))), (11, .c (.v (.bool (decide (v0.1 < (c0.length : Int))))))], [(0, .arr 3 (.i .i64) v0.2)]⟩) c0 (fun v => loopRun [0, 0, 3, 4] (run E (den E k) (lv 64) k (nthLoop Tryz.f64 0)) n (St64_0 c0 v) K) v := by kernel_rfl
theorem l64_0 {R : Type} (k : Nat) (K : Ex → St → Option R) (c0 : C64_0) : ∀ (n : Nat) (v : V64_0), loopRun [0, 0, 3, 4] (run E (den E k) (lv 64) k (nthLoop Tryz.f64 0)) n (St64_0 c0 v) K = L64_0 k (fun (v0 : V64_0) => K (.exit 0) ⟨22, 1, [(0, .c (.l 3 (.i .i64) c0)), (3, .c (.ref 0)), (4, .c (.v (.int .i64 v0.1))), (8, .c (.v (.int .i64 v0.1))), (9, .c (.l 3 (.i .i64) c0)), (10, .c (.v (.int .i64 (c0.length : Int)))), (11, .c (.v (.bool (decide (v0.1 < (c0.length : Int))))))], [(0, .arr 3 (.i .i64) v0.2)]⟩) c0 n v := by
  intro n
  induction n with
  | zero => intro v; rfl
  | succ n ih =>
    intro v
    refine (b64_0 k n K c0 v).trans ?_
    rw [funext ih]
    kernel_rfl
theorem m64_0 (k : Nat) (a0 : List Int) : F64 (k + 1) a0 = if (a0.length : Int) = (a0.length : Int) then if 0 ≤ (a0.length : Int) then if 8 * (a0.length : Int).toNat ≤ 281474976710656 then loopRun (R := List Int) [0, 0, 3, 4] (run E (den E k) (lv 64) k (nthLoop Tryz.f64 0)) k (St64_0 a0 (0, (List.replicate (a0.length : Int).toNat (0 : Int)))) (kontAt E (den E k) (lv 64) k (bodyOf Tryz.f64) 0 [] (finish E (rs 64) Tryz.f64 : Ex → St → Option (List Int))) else none else none else none := by kernel_rfl
theorem e64 (k : Nat) (a0 : List Int) : F64 (k + 1) a0 = if (a0.length : Int) = (a0.length : Int) then if 0 ≤ (a0.length : Int) then if 8 * (a0.length : Int).toNat ≤ 281474976710656 then L64_0 k (fun (v0 : Int × (List Int)) => some v0.2) a0 k (0, (List.replicate (a0.length : Int).toNat (0 : Int))) else none else none else none := by
  rw [m64_0]
  simp only [l64_0]
  kernel_rfl
/-! loop.example/g00599/laws.toTable -/
noncomputable def F334 (k : Nat) (a0 : Int × (List Int) × List Int) : Option (Int × (List Int) × List Int) := den E k 334 [.agg [.v (.int .i64 a0.1), .l 3 (.i .i64) a0.2.1, .l 3 (.i .i64) a0.2.2]]
theorem e334 (k : Nat) (a0 : Int × (List Int) × List Int) : F334 (k + 1) a0 = (F64 k a0.2.1).bind fun p1 => (F64 k a0.2.2).bind fun p2 => some (a0.1, p1, p2) := by kernel_rfl
/-! loop.example/g00599/laws.toTableS -/
noncomputable def F306 (k : Nat) (a0 : List (Int × (List Int) × List Int)) : Option (List (Int × (List Int) × List Int)) := den E k 306 [.c (.l 328 s238 a0)]
abbrev C306_0 : Type := (List (Int × (List Int) × List Int))
abbrev V306_0 : Type := Int × (List (Int × (List Int) × List Int))
def St306_0 (c0 : C306_0) (v0 : V306_0) : St := ⟨23, 1, [(0, .c (.l 328 s238 c0)), (3, .c (.ref 0)), (4, .c (.v (.int .i64 v0.1)))], [(0, .arr 239 s238 v0.2)]⟩
noncomputable def B306_0 {R : Type} (k : Nat) (X0 : V306_0 → Option R) (c0 : C306_0) (rec : V306_0 → Option R) (v0 : V306_0) : Option R := if (decide (v0.1 < (c0.length : Int))) = true then if 0 ≤ v0.1 then ix c0 v0.1.toNat fun x1 => (F334 k x1).bind fun p2 => if 0 ≤ v0.1 then if v0.1 < (v0.2.length : Int) then ix v0.2 v0.1.toNat fun y3 => rec ((IntKind.i64.wrap (v0.1 + 1)), (v0.2.set v0.1.toNat p2)) else none else none else none else X0 v0
noncomputable def L306_0 {R : Type} (k : Nat) (X0 : V306_0 → Option R) (c : C306_0) : Nat → V306_0 → Option R
  | 0, _ => none
  | n + 1, v => B306_0 k X0 c (L306_0 k X0 c n) v
theorem b306_0 {R : Type} (k n : Nat) (K : Ex → St → Option R) (c0 : C306_0) (v : V306_0) : loopRun [0, 0, 3, 4] (run E (den E k) (lv 306) k (nthLoop Tryz.f306 0)) (n + 1) (St306_0 c0 v) K = B306_0 k (fun (v0 : V306_0) => K (.exit 0) ⟨23, 1, [(0, .c (.l 328 s238 c0)), (3, .c (.ref 0)), (4, .c (.v (.int .i64 v0.1))), (8, .c (.v (.int .i64 v0.1))), (9, .c (.l 328 s238 c0)), (10, .c (.v (.int .i64 (c0.length : Int)))), (11, .c (.v (.bool (decide (v0.1 < (c0.length : Int))))))], [(0, .arr 239 s238 v0.2)]⟩) c0 (fun v => loopRun [0, 0, 3, 4] (run E (den E k) (lv 306) k (nthLoop Tryz.f306 0)) n (St306_0 c0 v) K) v := by kernel_rfl
theorem l306_0 {R : Type} (k : Nat) (K : Ex → St → Option R) (c0 : C306_0) : ∀ (n : Nat) (v : V306_0), loopRun [0, 0, 3, 4] (run E (den E k) (lv 306) k (nthLoop Tryz.f306 0)) n (St306_0 c0 v) K = L306_0 k (fun (v0 : V306_0) => K (.exit 0) ⟨23, 1, [(0, .c (.l 328 s238 c0)), (3, .c (.ref 0)), (4, .c (.v (.int .i64 v0.1))), (8, .c (.v (.int .i64 v0.1))), (9, .c (.l 328 s238 c0)), (10, .c (.v (.int .i64 (c0.length : Int)))), (11, .c (.v (.bool (decide (v0.1 < (c0.length : Int))))))], [(0, .arr 239 s238 v0.2)]⟩) c0 n v := by
  intro n
  induction n with
  | zero => intro v; rfl
  | succ n ih =>
    intro v
    refine (b306_0 k n K c0 v).trans ?_
    rw [funext ih]
    kernel_rfl
theorem m306_0 (k : Nat) (a0 : List (Int × (List Int) × List Int)) : F306 (k + 1) a0 = if (a0.length : Int) = (a0.length : Int) then if 0 ≤ (a0.length : Int) then if 56 * (a0.length : Int).toNat ≤ 281474976710656 then loopRun (R := List (Int × (List Int) × List Int)) [0, 0, 3, 4] (run E (den E k) (lv 306) k (nthLoop Tryz.f306 0)) k (St306_0 a0 (0, (List.replicate (a0.length : Int).toNat ((0, [], []) : Int × (List Int) × List Int)))) (kontAt E (den E k) (lv 306) k (bodyOf Tryz.f306) 0 [] (finish E (rs 306) Tryz.f306 : Ex → St → Option (List (Int × (List Int) × List Int)))) else none else none else none := by kernel_rfl
theorem e306 (k : Nat) (a0 : List (Int × (List Int) × List Int)) : F306 (k + 1) a0 = if (a0.length : Int) = (a0.length : Int) then if 0 ≤ (a0.length : Int) then if 56 * (a0.length : Int).toNat ≤ 281474976710656 then L306_0 k (fun (v0 : Int × (List (Int × (List Int) × List Int))) => some v0.2) a0 k (0, (List.replicate (a0.length : Int).toNat ((0, [], []) : Int × (List Int) × List Int))) else none else none else none := by
  rw [m306_0]
  simp only [l306_0]
  kernel_rfl
/-! loop.example/g00599/laws.toPiece -/
noncomputable def F248 (k : Nat) (a0 : T259) : Option T259 := den E k 248 [.agg [.v (.int .i64 a0.1.1), .v (.int .i64 a0.1.2), .l 330 s150 a0.2.1, .l 328 s238 a0.2.2]]
theorem e248 (k : Nat) (a0 : T259) : F248 (k + 1) a0 = (F304 k a0.1).bind fun p1 => (F305 k a0.2.1).bind fun p2 => (F306 k a0.2.2).bind fun p3 => some (p1, p2, p3) := by kernel_rfl
/-! loop.example/g00599/laws.toPieceS -/
noncomputable def F153 (k : Nat) (a0 : List T259) : Option (List T259) := den E k 153 [.c (.l 260 s259 a0)]
abbrev C153_0 : Type := (List T259)
abbrev V153_0 : Type := Int × (List T259)
def St153_0 (c0 : C153_0) (v0 : V153_0) : St := ⟨23, 1, [(0, .c (.l 260 s259 c0)), (3, .c (.ref 0)), (4, .c (.v (.int .i64 v0.1)))], [(0, .arr 247 s246 v0.2)]⟩
noncomputable def B153_0 {R : Type} (k : Nat) (X0 : V153_0 → Option R) (c0 : C153_0) (rec : V153_0 → Option R) (v0 : V153_0) : Option R := if (decide (v0.1 < (c0.length : Int))) = true then if 0 ≤ v0.1 then ix c0 v0.1.toNat fun x1 => (F248 k x1).bind fun p2 => if 0 ≤ v0.1 then if v0.1 < (v0.2.length : Int) then ix v0.2 v0.1.toNat fun y3 => rec ((IntKind.i64.wrap (v0.1 + 1)), (v0.2.set v0.1.toNat p2)) else none else none else none else X0 v0
noncomputable def L153_0 {R : Type} (k : Nat) (X0 : V153_0 → Option R) (c : C153_0) : Nat → V153_0 → Option R
  | 0, _ => none
  | n + 1, v => B153_0 k X0 c (L153_0 k X0 c n) v
theorem b153_0 {R : Type} (k n : Nat) (K : Ex → St → Option R) (c0 : C153_0) (v : V153_0) : loopRun [0, 0, 3, 4] (run E (den E k) (lv 153) k (nthLoop Tryz.f153 0)) (n + 1) (St153_0 c0 v) K = B153_0 k (fun (v0 : V153_0) => K (.exit 0) ⟨23, 1, [(0, .c (.l 260 s259 c0)), (3, .c (.ref 0)), (4, .c (.v (.int .i64 v0.1))), (8, .c (.v (.int .i64 v0.1))), (9, .c (.l 260 s259 c0)), (10, .c (.v (.int .i64 (c0.length : Int)))), (11, .c (.v (.bool (decide (v0.1 < (c0.length : Int))))))], [(0, .arr 247 s246 v0.2)]⟩) c0 (fun v => loopRun [0, 0, 3, 4] (run E (den E k) (lv 153) k (nthLoop Tryz.f153 0)) n (St153_0 c0 v) K) v := by kernel_rfl
theorem l153_0 {R : Type} (k : Nat) (K : Ex → St → Option R) (c0 : C153_0) : ∀ (n : Nat) (v : V153_0), loopRun [0, 0, 3, 4] (run E (den E k) (lv 153) k (nthLoop Tryz.f153 0)) n (St153_0 c0 v) K = L153_0 k (fun (v0 : V153_0) => K (.exit 0) ⟨23, 1, [(0, .c (.l 260 s259 c0)), (3, .c (.ref 0)), (4, .c (.v (.int .i64 v0.1))), (8, .c (.v (.int .i64 v0.1))), (9, .c (.l 260 s259 c0)), (10, .c (.v (.int .i64 (c0.length : Int)))), (11, .c (.v (.bool (decide (v0.1 < (c0.length : Int))))))], [(0, .arr 247 s246 v0.2)]⟩) c0 n v := by
  intro n
  induction n with
  | zero => intro v; rfl
  | succ n ih =>
    intro v
    refine (b153_0 k n K c0 v).trans ?_
    rw [funext ih]
    kernel_rfl
theorem m153_0 (k : Nat) (a0 : List T259) : F153 (k + 1) a0 = if (a0.length : Int) = (a0.length : Int) then if 0 ≤ (a0.length : Int) then if 64 * (a0.length : Int).toNat ≤ 281474976710656 then loopRun (R := List T259) [0, 0, 3, 4] (run E (den E k) (lv 153) k (nthLoop Tryz.f153 0)) k (St153_0 a0 (0, (List.replicate (a0.length : Int).toNat (((0, 0), [], []) : T259)))) (kontAt E (den E k) (lv 153) k (bodyOf Tryz.f153) 0 [] (finish E (rs 153) Tryz.f153 : Ex → St → Option (List T259))) else none else none else none := by kernel_rfl
theorem e153 (k : Nat) (a0 : List T259) : F153 (k + 1) a0 = if (a0.length : Int) = (a0.length : Int) then if 0 ≤ (a0.length : Int) then if 64 * (a0.length : Int).toNat ≤ 281474976710656 then L153_0 k (fun (v0 : Int × (List T259)) => some v0.2) a0 k (0, (List.replicate (a0.length : Int).toNat (((0, 0), [], []) : T259))) else none else none else none := by
  rw [m153_0]
  simp only [l153_0]
  kernel_rfl
/-! loop.example/g00599/laws.toProgram -/
noncomputable def F62 (k : Nat) (a0 : T28) : Option T28 := den E k 62 [.agg [.v (.int .i64 a0.1), .v (.int .i64 a0.2.1), .v (.int .i64 a0.2.2.1), .l 260 s259 a0.2.2.2]]
theorem e62 (k : Nat) (a0 : T28) : F62 (k + 1) a0 = (F153 k a0.2.2.2).bind fun p1 => some (a0.1, a0.2.1, a0.2.2.1, p1) := by kernel_rfl
/-! loop.example/g00599/laws.toLaw -/
noncomputable def F63 (k : Nat) (a0 : List Int) : Option (List Int) := den E k 63 [.agg [.l 3 (.i .i64) a0]]
theorem e63 (k : Nat) (a0 : List Int) : F63 (k + 1) a0 = (F64 k a0).bind fun p1 => some p1 := by kernel_rfl
/-! loop.example/g00599/laws.toBattery -/
noncomputable def F154 (k : Nat) (a0 : Int × Int × Int × Int × Int × Int) : Option (Int × Int × Int × Int × Int × Int) := den E k 154 [.agg [.v (.int .i64 a0.1), .v (.int .i64 a0.2.1), .v (.int .i64 a0.2.2.1), .v (.int .i64 a0.2.2.2.1), .v (.int .i64 a0.2.2.2.2.1), .v (.int .i64 a0.2.2.2.2.2)]]
theorem e154 (k : Nat) (a0 : Int × Int × Int × Int × Int × Int) : F154 (k + 1) a0 = some a0 := by kernel_rfl
/-! loop.example/g00599/laws.toBatteryS -/
noncomputable def F65 (k : Nat) (a0 : List (Int × Int × Int × Int × Int × Int)) : Option (List (Int × Int × Int × Int × Int × Int)) := den E k 65 [.c (.l 188 s140 a0)]
abbrev C65_0 : Type := (List (Int × Int × Int × Int × Int × Int))
abbrev V65_0 : Type := Int × (List (Int × Int × Int × Int × Int × Int))
def St65_0 (c0 : C65_0) (v0 : V65_0) : St := ⟨23, 1, [(0, .c (.l 188 s140 c0)), (3, .c (.ref 0)), (4, .c (.v (.int .i64 v0.1)))], [(0, .arr 141 s140 v0.2)]⟩
noncomputable def B65_0 {R : Type} (k : Nat) (X0 : V65_0 → Option R) (c0 : C65_0) (rec : V65_0 → Option R) (v0 : V65_0) : Option R := if (decide (v0.1 < (c0.length : Int))) = true then if 0 ≤ v0.1 then ix c0 v0.1.toNat fun x1 => (F154 k x1).bind fun p2 => if 0 ≤ v0.1 then if v0.1 < (v0.2.length : Int) then ix v0.2 v0.1.toNat fun y3 => rec ((IntKind.i64.wrap (v0.1 + 1)), (v0.2.set v0.1.toNat p2)) else none else none else none else X0 v0
noncomputable def L65_0 {R : Type} (k : Nat) (X0 : V65_0 → Option R) (c : C65_0) : Nat → V65_0 → Option R
  | 0, _ => none
  | n + 1, v => B65_0 k X0 c (L65_0 k X0 c n) v
theorem b65_0 {R : Type} (k n : Nat) (K : Ex → St → Option R) (c0 : C65_0) (v : V65_0) : loopRun [0, 0, 3, 4] (run E (den E k) (lv 65) k (nthLoop Tryz.f65 0)) (n + 1) (St65_0 c0 v) K = B65_0 k (fun (v0 : V65_0) => K (.exit 0) ⟨23, 1, [(0, .c (.l 188 s140 c0)), (3, .c (.ref 0)), (4, .c (.v (.int .i64 v0.1))), (8, .c (.v (.int .i64 v0.1))), (9, .c (.l 188 s140 c0)), (10, .c (.v (.int .i64 (c0.length : Int)))), (11, .c (.v (.bool (decide (v0.1 < (c0.length : Int))))))], [(0, .arr 141 s140 v0.2)]⟩) c0 (fun v => loopRun [0, 0, 3, 4] (run E (den E k) (lv 65) k (nthLoop Tryz.f65 0)) n (St65_0 c0 v) K) v := by kernel_rfl
theorem l65_0 {R : Type} (k : Nat) (K : Ex → St → Option R) (c0 : C65_0) : ∀ (n : Nat) (v : V65_0), loopRun [0, 0, 3, 4] (run E (den E k) (lv 65) k (nthLoop Tryz.f65 0)) n (St65_0 c0 v) K = L65_0 k (fun (v0 : V65_0) => K (.exit 0) ⟨23, 1, [(0, .c (.l 188 s140 c0)), (3, .c (.ref 0)), (4, .c (.v (.int .i64 v0.1))), (8, .c (.v (.int .i64 v0.1))), (9, .c (.l 188 s140 c0)), (10, .c (.v (.int .i64 (c0.length : Int)))), (11, .c (.v (.bool (decide (v0.1 < (c0.length : Int))))))], [(0, .arr 141 s140 v0.2)]⟩) c0 n v := by
  intro n
  induction n with
  | zero => intro v; rfl
  | succ n ih =>
    intro v
    refine (b65_0 k n K c0 v).trans ?_
    rw [funext ih]
    kernel_rfl
theorem m65_0 (k : Nat) (a0 : List (Int × Int × Int × Int × Int × Int)) : F65 (k + 1) a0 = if (a0.length : Int) = (a0.length : Int) then if 0 ≤ (a0.length : Int) then if 48 * (a0.length : Int).toNat ≤ 281474976710656 then loopRun (R := List (Int × Int × Int × Int × Int × Int)) [0, 0, 3, 4] (run E (den E k) (lv 65) k (nthLoop Tryz.f65 0)) k (St65_0 a0 (0, (List.replicate (a0.length : Int).toNat ((0, 0, 0, 0, 0, 0) : Int × Int × Int × Int × Int × Int)))) (kontAt E (den E k) (lv 65) k (bodyOf Tryz.f65) 0 [] (finish E (rs 65) Tryz.f65 : Ex → St → Option (List (Int × Int × Int × Int × Int × Int)))) else none else none else none := by kernel_rfl
theorem e65 (k : Nat) (a0 : List (Int × Int × Int × Int × Int × Int)) : F65 (k + 1) a0 = if (a0.length : Int) = (a0.length : Int) then if 0 ≤ (a0.length : Int) then if 48 * (a0.length : Int).toNat ≤ 281474976710656 then L65_0 k (fun (v0 : Int × (List (Int × Int × Int × Int × Int × Int))) => some v0.2) a0 k (0, (List.replicate (a0.length : Int).toNat ((0, 0, 0, 0, 0, 0) : Int × Int × Int × Int × Int × Int))) else none else none else none := by
  rw [m65_0]
  simp only [l65_0]
  kernel_rfl
/-! loop.example/g00599/laws.toPacket -/
noncomputable def F157 (k : Nat) (a0 : Int × Int × Int × Int × Int × Int) : Option (Int × Int × Int × Int × Int × Int) := den E k 157 [.agg [.v (.int .i64 a0.1), .v (.int .i64 a0.2.1), .v (.int .i64 a0.2.2.1), .v (.int .i64 a0.2.2.2.1), .v (.int .i64 a0.2.2.2.2.1), .v (.int .i64 a0.2.2.2.2.2)]]
theorem e157 (k : Nat) (a0 : Int × Int × Int × Int × Int × Int) : F157 (k + 1) a0 = some a0 := by kernel_rfl
/-! loop.example/g00599/laws.toPacketS -/
noncomputable def F70 (k : Nat) (a0 : List (Int × Int × Int × Int × Int × Int)) : Option (List (Int × Int × Int × Int × Int × Int)) := den E k 70 [.c (.l 192 s140 a0)]
abbrev C70_0 : Type := (List (Int × Int × Int × Int × Int × Int))
abbrev V70_0 : Type := Int × (List (Int × Int × Int × Int × Int × Int))
def St70_0 (c0 : C70_0) (v0 : V70_0) : St := ⟨23, 1, [(0, .c (.l 192 s140 c0)), (3, .c (.ref 0)), (4, .c (.v (.int .i64 v0.1)))], [(0, .arr 155 s140 v0.2)]⟩
noncomputable def B70_0 {R : Type} (k : Nat) (X0 : V70_0 → Option R) (c0 : C70_0) (rec : V70_0 → Option R) (v0 : V70_0) : Option R := if (decide (v0.1 < (c0.length : Int))) = true then if 0 ≤ v0.1 then ix c0 v0.1.toNat fun x1 => (F157 k x1).bind fun p2 => if 0 ≤ v0.1 then if v0.1 < (v0.2.length : Int) then ix v0.2 v0.1.toNat fun y3 => rec ((IntKind.i64.wrap (v0.1 + 1)), (v0.2.set v0.1.toNat p2)) else none else none else none else X0 v0
noncomputable def L70_0 {R : Type} (k : Nat) (X0 : V70_0 → Option R) (c : C70_0) : Nat → V70_0 → Option R
  | 0, _ => none
  | n + 1, v => B70_0 k X0 c (L70_0 k X0 c n) v
theorem b70_0 {R : Type} (k n : Nat) (K : Ex → St → Option R) (c0 : C70_0) (v : V70_0) : loopRun [0, 0, 3, 4] (run E (den E k) (lv 70) k (nthLoop Tryz.f70 0)) (n + 1) (St70_0 c0 v) K = B70_0 k (fun (v0 : V70_0) => K (.exit 0) ⟨23, 1, [(0, .c (.l 192 s140 c0)), (3, .c (.ref 0)), (4, .c (.v (.int .i64 v0.1))), (8, .c (.v (.int .i64 v0.1))), (9, .c (.l 192 s140 c0)), (10, .c (.v (.int .i64 (c0.length : Int)))), (11, .c (.v (.bool (decide (v0.1 < (c0.length : Int))))))], [(0, .arr 155 s140 v0.2)]⟩) c0 (fun v => loopRun [0, 0, 3, 4] (run E (den E k) (lv 70) k (nthLoop Tryz.f70 0)) n (St70_0 c0 v) K) v := by kernel_rfl
theorem l70_0 {R : Type} (k : Nat) (K : Ex → St → Option R) (c0 : C70_0) : ∀ (n : Nat) (v : V70_0), loopRun [0, 0, 3, 4] (run E (den E k) (lv 70) k (nthLoop Tryz.f70 0)) n (St70_0 c0 v) K = L70_0 k (fun (v0 : V70_0) => K (.exit 0) ⟨23, 1, [(0, .c (.l 192 s140 c0)), (3, .c (.ref 0)), (4, .c (.v (.int .i64 v0.1))), (8, .c (.v (.int .i64 v0.1))), (9, .c (.l 192 s140 c0)), (10, .c (.v (.int .i64 (c0.length : Int)))), (11, .c (.v (.bool (decide (v0.1 < (c0.length : Int))))))], [(0, .arr 155 s140 v0.2)]⟩) c0 n v := by
  intro n
  induction n with
  | zero => intro v; rfl
  | succ n ih =>
    intro v
    refine (b70_0 k n K c0 v).trans ?_
    rw [funext ih]
    kernel_rfl
theorem m70_0 (k : Nat) (a0 : List (Int × Int × Int × Int × Int × Int)) : F70 (k + 1) a0 = if (a0.length : Int) = (a0.length : Int) then if 0 ≤ (a0.length : Int) then if 48 * (a0.length : Int).toNat ≤ 281474976710656 then loopRun (R := List (Int × Int × Int × Int × Int × Int)) [0, 0, 3, 4] (run E (den E k) (lv 70) k (nthLoop Tryz.f70 0)) k (St70_0 a0 (0, (List.replicate (a0.length : Int).toNat ((0, 0, 0, 0, 0, 0) : Int × Int × Int × Int × Int × Int)))) (kontAt E (den E k) (lv 70) k (bodyOf Tryz.f70) 0 [] (finish E (rs 70) Tryz.f70 : Ex → St → Option (List (Int × Int × Int × Int × Int × Int)))) else none else none else none := by kernel_rfl
theorem e70 (k : Nat) (a0 : List (Int × Int × Int × Int × Int × Int)) : F70 (k + 1) a0 = if (a0.length : Int) = (a0.length : Int) then if 0 ≤ (a0.length : Int) then if 48 * (a0.length : Int).toNat ≤ 281474976710656 then L70_0 k (fun (v0 : Int × (List (Int × Int × Int × Int × Int × Int))) => some v0.2) a0 k (0, (List.replicate (a0.length : Int).toNat ((0, 0, 0, 0, 0, 0) : Int × Int × Int × Int × Int × Int))) else none else none else none := by
  rw [m70_0]
  simp only [l70_0]
  kernel_rfl
/-! loop.example/g00599/laws.toQueue -/
noncomputable def F155 (k : Nat) (a0 : List (Int × Int × Int × Int × Int × Int)) : Option (List (Int × Int × Int × Int × Int × Int)) := den E k 155 [.agg [.l 192 s140 a0]]
theorem e155 (k : Nat) (a0 : List (Int × Int × Int × Int × Int × Int)) : F155 (k + 1) a0 = (F70 k a0).bind fun p1 => some p1 := by kernel_rfl
/-! loop.example/g00599/laws.toQueueS -/
noncomputable def F66 (k : Nat) (a0 : List (List (Int × Int × Int × Int × Int × Int))) : Option (List (List (Int × Int × Int × Int × Int × Int))) := den E k 66 [.c (.l 180 s179 a0)]
abbrev C66_0 : Type := (List (List (Int × Int × Int × Int × Int × Int)))
abbrev V66_0 : Type := Int × (List (List (Int × Int × Int × Int × Int × Int)))
def St66_0 (c0 : C66_0) (v0 : V66_0) : St := ⟨23, 1, [(0, .c (.l 180 s179 c0)), (3, .c (.ref 0)), (4, .c (.v (.int .i64 v0.1)))], [(0, .arr 158 s157 v0.2)]⟩
noncomputable def B66_0 {R : Type} (k : Nat) (X0 : V66_0 → Option R) (c0 : C66_0) (rec : V66_0 → Option R) (v0 : V66_0) : Option R := if (decide (v0.1 < (c0.length : Int))) = true then if 0 ≤ v0.1 then ix c0 v0.1.toNat fun x1 => (F155 k x1).bind fun p2 => if 0 ≤ v0.1 then if v0.1 < (v0.2.length : Int) then ix v0.2 v0.1.toNat fun y3 => rec ((IntKind.i64.wrap (v0.1 + 1)), (v0.2.set v0.1.toNat p2)) else none else none else none else X0 v0
noncomputable def L66_0 {R : Type} (k : Nat) (X0 : V66_0 → Option R) (c : C66_0) : Nat → V66_0 → Option R
  | 0, _ => none
  | n + 1, v => B66_0 k X0 c (L66_0 k X0 c n) v
theorem b66_0 {R : Type} (k n : Nat) (K : Ex → St → Option R) (c0 : C66_0) (v : V66_0) : loopRun [0, 0, 3, 4] (run E (den E k) (lv 66) k (nthLoop Tryz.f66 0)) (n + 1) (St66_0 c0 v) K = B66_0 k (fun (v0 : V66_0) => K (.exit 0) ⟨23, 1, [(0, .c (.l 180 s179 c0)), (3, .c (.ref 0)), (4, .c (.v (.int .i64 v0.1))), (8, .c (.v (.int .i64 v0.1))), (9, .c (.l 180 s179 c0)), (10, .c (.v (.int .i64 (c0.length : Int)))), (11, .c (.v (.bool (decide (v0.1 < (c0.length : Int))))))], [(0, .arr 158 s157 v0.2)]⟩) c0 (fun v => loopRun [0, 0, 3, 4] (run E (den E k) (lv 66) k (nthLoop Tryz.f66 0)) n (St66_0 c0 v) K) v := by kernel_rfl
theorem l66_0 {R : Type} (k : Nat) (K : Ex → St → Option R) (c0 : C66_0) : ∀ (n : Nat) (v : V66_0), loopRun [0, 0, 3, 4] (run E (den E k) (lv 66) k (nthLoop Tryz.f66 0)) n (St66_0 c0 v) K = L66_0 k (fun (v0 : V66_0) => K (.exit 0) ⟨23, 1, [(0, .c (.l 180 s179 c0)), (3, .c (.ref 0)), (4, .c (.v (.int .i64 v0.1))), (8, .c (.v (.int .i64 v0.1))), (9, .c (.l 180 s179 c0)), (10, .c (.v (.int .i64 (c0.length : Int)))), (11, .c (.v (.bool (decide (v0.1 < (c0.length : Int))))))], [(0, .arr 158 s157 v0.2)]⟩) c0 n v := by
  intro n
  induction n with
  | zero => intro v; rfl
  | succ n ih =>
    intro v
    refine (b66_0 k n K c0 v).trans ?_
    rw [funext ih]
    kernel_rfl
theorem m66_0 (k : Nat) (a0 : List (List (Int × Int × Int × Int × Int × Int))) : F66 (k + 1) a0 = if (a0.length : Int) = (a0.length : Int) then if 0 ≤ (a0.length : Int) then if 24 * (a0.length : Int).toNat ≤ 281474976710656 then loopRun (R := List (List (Int × Int × Int × Int × Int × Int))) [0, 0, 3, 4] (run E (den E k) (lv 66) k (nthLoop Tryz.f66 0)) k (St66_0 a0 (0, (List.replicate (a0.length : Int).toNat ([] : List (Int × Int × Int × Int × Int × Int))))) (kontAt E (den E k) (lv 66) k (bodyOf Tryz.f66) 0 [] (finish E (rs 66) Tryz.f66 : Ex → St → Option (List (List (Int × Int × Int × Int × Int × Int))))) else none else none else none := by kernel_rfl
theorem e66 (k : Nat) (a0 : List (List (Int × Int × Int × Int × Int × Int))) : F66 (k + 1) a0 = if (a0.length : Int) = (a0.length : Int) then if 0 ≤ (a0.length : Int) then if 24 * (a0.length : Int).toNat ≤ 281474976710656 then L66_0 k (fun (v0 : Int × (List (List (Int × Int × Int × Int × Int × Int)))) => some v0.2) a0 k (0, (List.replicate (a0.length : Int).toNat ([] : List (Int × Int × Int × Int × Int × Int)))) else none else none else none := by
  rw [m66_0]
  simp only [l66_0]
  kernel_rfl
/-! loop.example/g00599/laws.toFlow -/
noncomputable def F43 (k : Nat) (a0 : Int × Int × Int × Int) : Option (Int × Int × Int × Int) := den E k 43 [.agg [.v (.int .i64 a0.1), .v (.int .i64 a0.2.1), .v (.int .i64 a0.2.2.1), .v (.int .i64 a0.2.2.2)]]
theorem e43 (k : Nat) (a0 : Int × Int × Int × Int) : F43 (k + 1) a0 = some a0 := by kernel_rfl
/-! loop.example/g00599/laws.toFlowS -/
noncomputable def F67 (k : Nat) (a0 : List (Int × Int × Int × Int)) : Option (List (Int × Int × Int × Int)) := den E k 67 [.c (.l 84 s75 a0)]
abbrev C67_0 : Type := (List (Int × Int × Int × Int))
abbrev V67_0 : Type := Int × (List (Int × Int × Int × Int))
def St67_0 (c0 : C67_0) (v0 : V67_0) : St := ⟨23, 1, [(0, .c (.l 84 s75 c0)), (3, .c (.ref 0)), (4, .c (.v (.int .i64 v0.1)))], [(0, .arr 86 s75 v0.2)]⟩
noncomputable def B67_0 {R : Type} (k : Nat) (X0 : V67_0 → Option R) (c0 : C67_0) (rec : V67_0 → Option R) (v0 : V67_0) : Option R := if (decide (v0.1 < (c0.length : Int))) = true then if 0 ≤ v0.1 then ix c0 v0.1.toNat fun x1 => (F43 k x1).bind fun p2 => if 0 ≤ v0.1 then if v0.1 < (v0.2.length : Int) then ix v0.2 v0.1.toNat fun y3 => rec ((IntKind.i64.wrap (v0.1 + 1)), (v0.2.set v0.1.toNat p2)) else none else none else none else X0 v0
noncomputable def L67_0 {R : Type} (k : Nat) (X0 : V67_0 → Option R) (c : C67_0) : Nat → V67_0 → Option R
  | 0, _ => none
  | n + 1, v => B67_0 k X0 c (L67_0 k X0 c n) v
theorem b67_0 {R : Type} (k n : Nat) (K : Ex → St → Option R) (c0 : C67_0) (v : V67_0) : loopRun [0, 0, 3, 4] (run E (den E k) (lv 67) k (nthLoop Tryz.f67 0)) (n + 1) (St67_0 c0 v) K = B67_0 k (fun (v0 : V67_0) => K (.exit 0) ⟨23, 1, [(0, .c (.l 84 s75 c0)), (3, .c (.ref 0)), (4, .c (.v (.int .i64 v0.1))), (8, .c (.v (.int .i64 v0.1))), (9, .c (.l 84 s75 c0)), (10, .c (.v (.int .i64 (c0.length : Int)))), (11, .c (.v (.bool (decide (v0.1 < (c0.length : Int))))))], [(0, .arr 86 s75 v0.2)]⟩) c0 (fun v => loopRun [0, 0, 3, 4] (run E (den E k) (lv 67) k (nthLoop Tryz.f67 0)) n (St67_0 c0 v) K) v := by kernel_rfl
theorem l67_0 {R : Type} (k : Nat) (K : Ex → St → Option R) (c0 : C67_0) : ∀ (n : Nat) (v : V67_0), loopRun [0, 0, 3, 4] (run E (den E k) (lv 67) k (nthLoop Tryz.f67 0)) n (St67_0 c0 v) K = L67_0 k (fun (v0 : V67_0) => K (.exit 0) ⟨23, 1, [(0, .c (.l 84 s75 c0)), (3, .c (.ref 0)), (4, .c (.v (.int .i64 v0.1))), (8, .c (.v (.int .i64 v0.1))), (9, .c (.l 84 s75 c0)), (10, .c (.v (.int .i64 (c0.length : Int)))), (11, .c (.v (.bool (decide (v0.1 < (c0.length : Int))))))], [(0, .arr 86 s75 v0.2)]⟩) c0 n v := by
  intro n
  induction n with
  | zero => intro v; rfl
  | succ n ih =>
    intro v
    refine (b67_0 k n K c0 v).trans ?_
    rw [funext ih]
    kernel_rfl
theorem m67_0 (k : Nat) (a0 : List (Int × Int × Int × Int)) : F67 (k + 1) a0 = if (a0.length : Int) = (a0.length : Int) then if 0 ≤ (a0.length : Int) then if 32 * (a0.length : Int).toNat ≤ 281474976710656 then loopRun (R := List (Int × Int × Int × Int)) [0, 0, 3, 4] (run E (den E k) (lv 67) k (nthLoop Tryz.f67 0)) k (St67_0 a0 (0, (List.replicate (a0.length : Int).toNat ((0, 0, 0, 0) : Int × Int × Int × Int)))) (kontAt E (den E k) (lv 67) k (bodyOf Tryz.f67) 0 [] (finish E (rs 67) Tryz.f67 : Ex → St → Option (List (Int × Int × Int × Int)))) else none else none else none := by kernel_rfl
theorem e67 (k : Nat) (a0 : List (Int × Int × Int × Int)) : F67 (k + 1) a0 = if (a0.length : Int) = (a0.length : Int) then if 0 ≤ (a0.length : Int) then if 32 * (a0.length : Int).toNat ≤ 281474976710656 then L67_0 k (fun (v0 : Int × (List (Int × Int × Int × Int))) => some v0.2) a0 k (0, (List.replicate (a0.length : Int).toNat ((0, 0, 0, 0) : Int × Int × Int × Int))) else none else none else none := by
  rw [m67_0]
  simp only [l67_0]
  kernel_rfl
/-! loop.example/g00599/laws.toStream -/
noncomputable def F156 (k : Nat) (a0 : Int × Int × List Int) : Option (Int × Int × List Int) := den E k 156 [.agg [.v (.int .i64 a0.1), .v (.int .i64 a0.2.1), .l 3 (.i .i64) a0.2.2]]
theorem e156 (k : Nat) (a0 : Int × Int × List Int) : F156 (k + 1) a0 = (F64 k a0.2.2).bind fun p1 => some (a0.1, a0.2.1, p1) := by kernel_rfl
/-! loop.example/g00599/laws.toStreamS -/
noncomputable def F68 (k : Nat) (a0 : List (Int × Int × List Int)) : Option (List (Int × Int × List Int)) := den E k 68 [.c (.l 182 s165 a0)]
abbrev C68_0 : Type := (List (Int × Int × List Int))
abbrev V68_0 : Type := Int × (List (Int × Int × List Int))
def St68_0 (c0 : C68_0) (v0 : V68_0) : St := ⟨23, 1, [(0, .c (.l 182 s165 c0)), (3, .c (.ref 0)), (4, .c (.v (.int .i64 v0.1)))], [(0, .arr 166 s165 v0.2)]⟩
noncomputable def B68_0 {R : Type} (k : Nat) (X0 : V68_0 → Option R) (c0 : C68_0) (rec : V68_0 → Option R) (v0 : V68_0) : Option R := if (decide (v0.1 < (c0.length : Int))) = true then if 0 ≤ v0.1 then ix c0 v0.1.toNat fun x1 => (F156 k x1).bind fun p2 => if 0 ≤ v0.1 then if v0.1 < (v0.2.length : Int) then ix v0.2 v0.1.toNat fun y3 => rec ((IntKind.i64.wrap (v0.1 + 1)), (v0.2.set v0.1.toNat p2)) else none else none else none else X0 v0
noncomputable def L68_0 {R : Type} (k : Nat) (X0 : V68_0 → Option R) (c : C68_0) : Nat → V68_0 → Option R
  | 0, _ => none
  | n + 1, v => B68_0 k X0 c (L68_0 k X0 c n) v
theorem b68_0 {R : Type} (k n : Nat) (K : Ex → St → Option R) (c0 : C68_0) (v : V68_0) : loopRun [0, 0, 3, 4] (run E (den E k) (lv 68) k (nthLoop Tryz.f68 0)) (n + 1) (St68_0 c0 v) K = B68_0 k (fun (v0 : V68_0) => K (.exit 0) ⟨23, 1, [(0, .c (.l 182 s165 c0)), (3, .c (.ref 0)), (4, .c (.v (.int .i64 v0.1))), (8, .c (.v (.int .i64 v0.1))), (9, .c (.l 182 s165 c0)), (10, .c (.v (.int .i64 (c0.length : Int)))), (11, .c (.v (.bool (decide (v0.1 < (c0.length : Int))))))], [(0, .arr 166 s165 v0.2)]⟩) c0 (fun v => loopRun [0, 0, 3, 4] (run E (den E k) (lv 68) k (nthLoop Tryz.f68 0)) n (St68_0 c0 v) K) v := by kernel_rfl
theorem l68_0 {R : Type} (k : Nat) (K : Ex → St → Option R) (c0 : C68_0) : ∀ (n : Nat) (v : V68_0), loopRun [0, 0, 3, 4] (run E (den E k) (lv 68) k (nthLoop Tryz.f68 0)) n (St68_0 c0 v) K = L68_0 k (fun (v0 : V68_0) => K (.exit 0) ⟨23, 1, [(0, .c (.l 182 s165 c0)), (3, .c (.ref 0)), (4, .c (.v (.int .i64 v0.1))), (8, .c (.v (.int .i64 v0.1))), (9, .c (.l 182 s165 c0)), (10, .c (.v (.int .i64 (c0.length : Int)))), (11, .c (.v (.bool (decide (v0.1 < (c0.length : Int))))))], [(0, .arr 166 s165 v0.2)]⟩) c0 n v := by
  intro n
  induction n with
  | zero => intro v; rfl
  | succ n ih =>
    intro v
    refine (b68_0 k n K c0 v).trans ?_
    rw [funext ih]
    kernel_rfl
theorem m68_0 (k : Nat) (a0 : List (Int × Int × List Int)) : F68 (k + 1) a0 = if (a0.length : Int) = (a0.length : Int) then if 0 ≤ (a0.length : Int) then if 40 * (a0.length : Int).toNat ≤ 281474976710656 then loopRun (R := List (Int × Int × List Int)) [0, 0, 3, 4] (run E (den E k) (lv 68) k (nthLoop Tryz.f68 0)) k (St68_0 a0 (0, (List.replicate (a0.length : Int).toNat ((0, 0, []) : Int × Int × List Int)))) (kontAt E (den E k) (lv 68) k (bodyOf Tryz.f68) 0 [] (finish E (rs 68) Tryz.f68 : Ex → St → Option (List (Int × Int × List Int)))) else none else none else none := by kernel_rfl
theorem e68 (k : Nat) (a0 : List (Int × Int × List Int)) : F68 (k + 1) a0 = if (a0.length : Int) = (a0.length : Int) then if 0 ≤ (a0.length : Int) then if 40 * (a0.length : Int).toNat ≤ 281474976710656 then L68_0 k (fun (v0 : Int × (List (Int × Int × List Int))) => some v0.2) a0 k (0, (List.replicate (a0.length : Int).toNat ((0, 0, []) : Int × Int × List Int))) else none else none else none := by
  rw [m68_0]
  simp only [l68_0]
  kernel_rfl
/-! loop.example/g00599/laws.toFault -/
noncomputable def F37 (k : Nat) (a0 : Int × Int × Int × Int) : Option (Int × Int × Int × Int) := den E k 37 [.agg [.v (.int .i64 a0.1), .v (.int .i64 a0.2.1), .v (.int .i64 a0.2.2.1), .v (.int .i64 a0.2.2.2)]]
theorem e37 (k : Nat) (a0 : Int × Int × Int × Int) : F37 (k + 1) a0 = some a0 := by kernel_rfl
/-! loop.example/g00599/laws.toFaultS -/
noncomputable def F69 (k : Nat) (a0 : List (Int × Int × Int × Int)) : Option (List (Int × Int × Int × Int)) := den E k 69 [.c (.l 76 s75 a0)]
abbrev C69_0 : Type := (List (Int × Int × Int × Int))
abbrev V69_0 : Type := Int × (List (Int × Int × Int × Int))
def St69_0 (c0 : C69_0) (v0 : V69_0) : St := ⟨23, 1, [(0, .c (.l 76 s75 c0)), (3, .c (.ref 0)), (4, .c (.v (.int .i64 v0.1)))], [(0, .arr 79 s75 v0.2)]⟩
noncomputable def B69_0 {R : Type} (k : Nat) (X0 : V69_0 → Option R) (c0 : C69_0) (rec : V69_0 → Option R) (v0 : V69_0) : Option R := if (decide (v0.1 < (c0.length : Int))) = true then if 0 ≤ v0.1 then ix c0 v0.1.toNat fun x1 => (F37 k x1).bind fun p2 => if 0 ≤ v0.1 then if v0.1 < (v0.2.length : Int) then ix v0.2 v0.1.toNat fun y3 => rec ((IntKind.i64.wrap (v0.1 + 1)), (v0.2.set v0.1.toNat p2)) else none else none else none else X0 v0
noncomputable def L69_0 {R : Type} (k : Nat) (X0 : V69_0 → Option R) (c : C69_0) : Nat → V69_0 → Option R
  | 0, _ => none
  | n + 1, v => B69_0 k X0 c (L69_0 k X0 c n) v
theorem b69_0 {R : Type} (k n : Nat) (K : Ex → St → Option R) (c0 : C69_0) (v : V69_0) : loopRun [0, 0, 3, 4] (run E (den E k) (lv 69) k (nthLoop Tryz.f69 0)) (n + 1) (St69_0 c0 v) K = B69_0 k (fun (v0 : V69_0) => K (.exit 0) ⟨23, 1, [(0, .c (.l 76 s75 c0)), (3, .c (.ref 0)), (4, .c (.v (.int .i64 v0.1))), (8, .c (.v (.int .i64 v0.1))), (9, .c (.l 76 s75 c0)), (10, .c (.v (.int .i64 (c0.length : Int)))), (11, .c (.v (.bool (decide (v0.1 < (c0.length : Int))))))], [(0, .arr 79 s75 v0.2)]⟩) c0 (fun v => loopRun [0, 0, 3, 4] (run E (den E k) (lv 69) k (nthLoop Tryz.f69 0)) n (St69_0 c0 v) K) v := by kernel_rfl
theorem l69_0 {R : Type} (k : Nat) (K : Ex → St → Option R) (c0 : C69_0) : ∀ (n : Nat) (v : V69_0), loopRun [0, 0, 3, 4] (run E (den E k) (lv 69) k (nthLoop Tryz.f69 0)) n (St69_0 c0 v) K = L69_0 k (fun (v0 : V69_0) => K (.exit 0) ⟨23, 1, [(0, .c (.l 76 s75 c0)), (3, .c (.ref 0)), (4, .c (.v (.int .i64 v0.1))), (8, .c (.v (.int .i64 v0.1))), (9, .c (.l 76 s75 c0)), (10, .c (.v (.int .i64 (c0.length : Int)))), (11, .c (.v (.bool (decide (v0.1 < (c0.length : Int))))))], [(0, .arr 79 s75 v0.2)]⟩) c0 n v := by
  intro n
  induction n with
  | zero => intro v; rfl
  | succ n ih =>
    intro v
    refine (b69_0 k n K c0 v).trans ?_
    rw [funext ih]
    kernel_rfl
theorem m69_0 (k : Nat) (a0 : List (Int × Int × Int × Int)) : F69 (k + 1) a0 = if (a0.length : Int) = (a0.length : Int) then if 0 ≤ (a0.length : Int) then if 32 * (a0.length : Int).toNat ≤ 281474976710656 then loopRun (R := List (Int × Int × Int × Int)) [0, 0, 3, 4] (run E (den E k) (lv 69) k (nthLoop Tryz.f69 0)) k (St69_0 a0 (0, (List.replicate (a0.length : Int).toNat ((0, 0, 0, 0) : Int × Int × Int × Int)))) (kontAt E (den E k) (lv 69) k (bodyOf Tryz.f69) 0 [] (finish E (rs 69) Tryz.f69 : Ex → St → Option (List (Int × Int × Int × Int)))) else none else none else none := by kernel_rfl
theorem e69 (k : Nat) (a0 : List (Int × Int × Int × Int)) : F69 (k + 1) a0 = if (a0.length : Int) = (a0.length : Int) then if 0 ≤ (a0.length : Int) then if 32 * (a0.length : Int).toNat ≤ 281474976710656 then L69_0 k (fun (v0 : Int × (List (Int × Int × Int × Int))) => some v0.2) a0 k (0, (List.replicate (a0.length : Int).toNat ((0, 0, 0, 0) : Int × Int × Int × Int))) else none else none else none := by
  rw [m69_0]
  simp only [l69_0]
  kernel_rfl
/-! loop.example/g00599/laws.toSent -/
noncomputable def F48 (k : Nat) (a0 : Int × Int × Int × Int) : Option (Int × Int × Int × Int) := den E k 48 [.agg [.v (.int .i64 a0.1), .v (.int .i64 a0.2.1), .v (.int .i64 a0.2.2.1), .v (.int .i64 a0.2.2.2)]]
theorem e48 (k : Nat) (a0 : Int × Int × Int × Int) : F48 (k + 1) a0 = some a0 := by kernel_rfl
/-! loop.example/g00599/laws.toSentS -/
noncomputable def F71 (k : Nat) (a0 : List (Int × Int × Int × Int)) : Option (List (Int × Int × Int × Int)) := den E k 71 [.c (.l 92 s75 a0)]
abbrev C71_0 : Type := (List (Int × Int × Int × Int))
abbrev V71_0 : Type := Int × (List (Int × Int × Int × Int))
def St71_0 (c0 : C71_0) (v0 : V71_0) : St := ⟨23, 1, [(0, .c (.l 92 s75 c0)), (3, .c (.ref 0)), (4, .c (.v (.int .i64 v0.1)))], [(0, .arr 94 s75 v0.2)]⟩
noncomputable def B71_0 {R : Type} (k : Nat) (X0 : V71_0 → Option R) (c0 : C71_0) (rec : V71_0 → Option R) (v0 : V71_0) : Option R := if (decide (v0.1 < (c0.length : Int))) = true then if 0 ≤ v0.1 then ix c0 v0.1.toNat fun x1 => (F48 k x1).bind fun p2 => if 0 ≤ v0.1 then if v0.1 < (v0.2.length : Int) then ix v0.2 v0.1.toNat fun y3 => rec ((IntKind.i64.wrap (v0.1 + 1)), (v0.2.set v0.1.toNat p2)) else none else none else none else X0 v0
noncomputable def L71_0 {R : Type} (k : Nat) (X0 : V71_0 → Option R) (c : C71_0) : Nat → V71_0 → Option R
  | 0, _ => none
  | n + 1, v => B71_0 k X0 c (L71_0 k X0 c n) v
theorem b71_0 {R : Type} (k n : Nat) (K : Ex → St → Option R) (c0 : C71_0) (v : V71_0) : loopRun [0, 0, 3, 4] (run E (den E k) (lv 71) k (nthLoop Tryz.f71 0)) (n + 1) (St71_0 c0 v) K = B71_0 k (fun (v0 : V71_0) => K (.exit 0) ⟨23, 1, [(0, .c (.l 92 s75 c0)), (3, .c (.ref 0)), (4, .c (.v (.int .i64 v0.1))), (8, .c (.v (.int .i64 v0.1))), (9, .c (.l 92 s75 c0)), (10, .c (.v (.int .i64 (c0.length : Int)))), (11, .c (.v (.bool (decide (v0.1 < (c0.length : Int))))))], [(0, .arr 94 s75 v0.2)]⟩) c0 (fun v => loopRun [0, 0, 3, 4] (run E (den E k) (lv 71) k (nthLoop Tryz.f71 0)) n (St71_0 c0 v) K) v := by kernel_rfl
theorem l71_0 {R : Type} (k : Nat) (K : Ex → St → Option R) (c0 : C71_0) : ∀ (n : Nat) (v : V71_0), loopRun [0, 0, 3, 4] (run E (den E k) (lv 71) k (nthLoop Tryz.f71 0)) n (St71_0 c0 v) K = L71_0 k (fun (v0 : V71_0) => K (.exit 0) ⟨23, 1, [(0, .c (.l 92 s75 c0)), (3, .c (.ref 0)), (4, .c (.v (.int .i64 v0.1))), (8, .c (.v (.int .i64 v0.1))), (9, .c (.l 92 s75 c0)), (10, .c (.v (.int .i64 (c0.length : Int)))), (11, .c (.v (.bool (decide (v0.1 < (c0.length : Int))))))], [(0, .arr 94 s75 v0.2)]⟩) c0 n v := by
  intro n
  induction n with
  | zero => intro v; rfl
  | succ n ih =>
    intro v
    refine (b71_0 k n K c0 v).trans ?_
    rw [funext ih]
    kernel_rfl
theorem m71_0 (k : Nat) (a0 : List (Int × Int × Int × Int)) : F71 (k + 1) a0 = if (a0.length : Int) = (a0.length : Int) then if 0 ≤ (a0.length : Int) then if 32 * (a0.length : Int).toNat ≤ 281474976710656 then loopRun (R := List (Int × Int × Int × Int)) [0, 0, 3, 4] (run E (den E k) (lv 71) k (nthLoop Tryz.f71 0)) k (St71_0 a0 (0, (List.replicate (a0.length : Int).toNat ((0, 0, 0, 0) : Int × Int × Int × Int)))) (kontAt E (den E k) (lv 71) k (bodyOf Tryz.f71) 0 [] (finish E (rs 71) Tryz.f71 : Ex → St → Option (List (Int × Int × Int × Int)))) else none else none else none := by kernel_rfl
theorem e71 (k : Nat) (a0 : List (Int × Int × Int × Int)) : F71 (k + 1) a0 = if (a0.length : Int) = (a0.length : Int) then if 0 ≤ (a0.length : Int) then if 32 * (a0.length : Int).toNat ≤ 281474976710656 then L71_0 k (fun (v0 : Int × (List (Int × Int × Int × Int))) => some v0.2) a0 k (0, (List.replicate (a0.length : Int).toNat ((0, 0, 0, 0) : Int × Int × Int × Int))) else none else none else none := by
  rw [m71_0]
  simp only [l71_0]
  kernel_rfl
/-! loop.example/g00599/laws.toWorld -/
noncomputable def F16 (k : Nat) (a0 : T40) : Option T40 := den E k 16 [.agg [.v (.int .i64 a0.1.1), .l 264 s75 a0.1.2.1, .l 268 s265 a0.1.2.2.1, .v (.int .i64 a0.1.2.2.2.1), .v (.int .i64 a0.1.2.2.2.2.1), .v (.int .i64 a0.1.2.2.2.2.2.1), .v (.int .i64 a0.1.2.2.2.2.2.2.1), .v (.int .i64 a0.1.2.2.2.2.2.2.2.1), .l 276 s271 a0.1.2.2.2.2.2.2.2.2.1, .v (.int .i64 a0.1.2.2.2.2.2.2.2.2.2), .v (.int .i64 a0.2.1.1), .v (.int .i64 a0.2.1.2.1), .v (.int .i64 a0.2.1.2.2.1), .l 260 s259 a0.2.1.2.2.2, .l 3 (.i .i64) a0.2.2.1, .l 3 (.i .i64) a0.2.2.2.1, .l 188 s140 a0.2.2.2.2.1, .l 180 s179 a0.2.2.2.2.2.1, .l 84 s75 a0.2.2.2.2.2.2.1, .l 3 (.i .i64) a0.2.2.2.2.2.2.2.1, .l 182 s165 a0.2.2.2.2.2.2.2.2.1, .l 76 s75 a0.2.2.2.2.2.2.2.2.2.1, .v (.int .i64 a0.2.2.2.2.2.2.2.2.2.2.1), .v (.int .i64 a0.2.2.2.2.2.2.2.2.2.2.2.1), .l 192 s140 a0.2.2.2.2.2.2.2.2.2.2.2.2.1, .l 92 s75 a0.2.2.2.2.2.2.2.2.2.2.2.2.2]]
theorem e16 (k : Nat) (a0 : T40) : F16 (k + 1) a0 = (F61 k a0.1).bind fun p1 => (F62 k a0.2.1).bind fun p2 => (F63 k a0.2.2.1).bind fun p3 => (F64 k a0.2.2.2.1).bind fun p4 => (F65 k a0.2.2.2.2.1).bind fun p5 => (F66 k a0.2.2.2.2.2.1).bind fun p6 => (F67 k a0.2.2.2.2.2.2.1).bind fun p7 => (F64 k a0.2.2.2.2.2.2.2.1).bind fun p8 => (F68 k a0.2.2.2.2.2.2.2.2.1).bind fun p9 => (F69 k a0.2.2.2.2.2.2.2.2.2.1).bind fun p10 => (F70 k a0.2.2.2.2.2.2.2.2.2.2.2.2.1).bind fun p11 => (F71 k a0.2.2.2.2.2.2.2.2.2.2.2.2.2).bind fun p12 => some (p1, p2, p3, p4, p5, p6, p7, p8, p9, p10, a0.2.2.2.2.2.2.2.2.2.2.1, a0.2.2.2.2.2.2.2.2.2.2.2.1, p11, p12) := by kernel_rfl
/-! loop.example/g00599/laws.eqIntS -/
noncomputable def F18 (k : Nat) (a0 : List Int) (a1 : List Int) : Option (Bool) := den E k 18 [.c (.l 3 (.i .i64) a0), .c (.l 3 (.i .i64) a1)]
abbrev C18_0 : Type := (List Int) × (List Int)
abbrev V18_0 : Type := Int
def St18_0 (c0 : C18_0) (v0 : V18_0) : St := ⟨26, 0, [(0, .c (.l 3 (.i .i64) c0.1)), (1, .c (.l 3 (.i .i64) c0.2)), (5, .c (.v (.int .i64 v0)))], []⟩
noncomputable def B18_0 {R : Type} (k : Nat) (X0 : V18_0 → Int → Int → Option R) (X1 : V18_0 → Option R) (c0 : C18_0) (rec : V18_0 → Option R) (v0 : V18_0) : Option R := if (decide (v0 < (c0.1.length : Int))) = true then if 0 ≤ v0 then ix c0.1 v0.toNat fun x1 => if 0 ≤ v0 then ix c0.2 v0.toNat fun x2 => if (x1 != x2) = true then X0 v0 x1 x2 else rec (IntKind.i64.wrap (v0 + 1)) else none else none else X1 v0
noncomputable def L18_0 {R : Type} (k : Nat) (X0 : V18_0 → Int → Int → Option R) (X1 : V18_0 → Option R) (c : C18_0) : Nat → V18_0 → Option R
  | 0, _ => none
  | n + 1, v => B18_0 k X0 X1 c (L18_0 k X0 X1 c n) v
theorem b18_0 {R : Type} (k n : Nat) (K : Ex → St → Option R) (c0 : C18_0) (v : V18_0) : loopRun [0, 0, 1, 5] (run E (den E k) (lv 18) k (nthLoop Tryz.f18 0)) (n + 1) (St18_0 c0 v) K = B18_0 k (fun (v0 : V18_0) (x1 : Int) (x2 : Int) => K .ret ⟨26, 0, [(0, .c (.l 3 (.i .i64) c0.1)), (1, .c (.l 3 (.i .i64) c0.2)), (4, .c (.v (.bool false))), (5, .c (.v (.int .i64 v0))), (11, .c (.v (.int .i64 v0))), (12, .c (.l 3 (.i .i64) c0.1)), (13, .c (.v (.int .i64 (c0.1.length : Int)))), (14, .c (.v (.bool (decide (v0 < (c0.1.length : Int)))))), (17, .c (.l 3 (.i .i64) c0.1)), (18, .c (.v (.int .i64 v0))), (19, .c (.at_ [.v (.int .i64 x1)])), (20, .c (.v (.int .i64 x1))), (21, .c (.l 3 (.i .i64) c0.2)), (22, .c (.v (.int .i64 v0))), (23, .c (.at_ [.v (.int .i64 x2)])), (24, .c (.v (.int .i64 x2))), (25, .c (.v (.bool (x1 != x2))))], []⟩) (fun (v0 : V18_0) => K (.exit 0) ⟨26, 0, [(0, .c (.l 3 (.i .i64) c0.1)), (1, .c (.l 3 (.i .i64) c0.2)), (5, .c (.v (.int .i64 v0))), (11, .c (.v (.int .i64 v0))), (12, .c (.l 3 (.i .i64) c0.1)), (13, .c (.v (.int .i64 (c0.1.length : Int)))), (14, .c (.v (.bool (decide (v0 < (c0.1.length : Int))))))], []⟩) c0 (fun v => loopRun [0, 0, 1, 5] (run E (den E k) (lv 18) k (nthLoop Tryz.f18 0)) n (St18_0 c0 v) K) v := by kernel_rfl
theorem l18_0 {R : Type} (k : Nat) (K : Ex → St → Option R) (c0 : C18_0) : ∀ (n : Nat) (v : V18_0), loopRun [0, 0, 1, 5] (run E (den E k) (lv 18) k (nthLoop Tryz.f18 0)) n (St18_0 c0 v) K = L18_0 k (fun (v0 : V18_0) (x1 : Int) (x2 : Int) => K .ret ⟨26, 0, [(0, .c (.l 3 (.i .i64) c0.1)), (1, .c (.l 3 (.i .i64) c0.2)), (4, .c (.v (.bool false))), (5, .c (.v (.int .i64 v0))), (11, .c (.v (.int .i64 v0))), (12, .c (.l 3 (.i .i64) c0.1)), (13, .c (.v (.int .i64 (c0.1.length : Int)))), (14, .c (.v (.bool (decide (v0 < (c0.1.length : Int)))))), (17, .c (.l 3 (.i .i64) c0.1)), (18, .c (.v (.int .i64 v0))), (19, .c (.at_ [.v (.int .i64 x1)])), (20, .c (.v (.int .i64 x1))), (21, .c (.l 3 (.i .i64) c0.2)), (22, .c (.v (.int .i64 v0))), (23, .c (.at_ [.v (.int .i64 x2)])), (24, .c (.v (.int .i64 x2))), (25, .c (.v (.bool (x1 != x2))))], []⟩) (fun (v0 : V18_0) => K (.exit 0) ⟨26, 0, [(0, .c (.l 3 (.i .i64) c0.1)), (1, .c (.l 3 (.i .i64) c0.2)), (5, .c (.v (.int .i64 v0))), (11, .c (.v (.int .i64 v0))), (12, .c (.l 3 (.i .i64) c0.1)), (13, .c (.v (.int .i64 (c0.1.length : Int)))), (14, .c (.v (.bool (decide (v0 < (c0.1.length : Int))))))], []⟩) c0 n v := by
  intro n
  induction n with
  | zero => intro v; rfl
  | succ n ih =>
    intro v
    refine (b18_0 k n K c0 v).trans ?_
    rw [funext ih]
    kernel_rfl
theorem m18_0 (k : Nat) (a0 : List Int) (a1 : List Int) : F18 (k + 1) a0 a1 = if ((a0.length : Int) != (a1.length : Int)) = true then some false else loopRun (R := Bool) [0, 0, 1, 5] (run E (den E k) (lv 18) k (nthLoop Tryz.f18 0)) k (St18_0 (a0, a1) 0) (kontAt E (den E k) (lv 18) k (bodyOf Tryz.f18) 0 [] (finish E (rs 18) Tryz.f18 : Ex → St → Option (Bool))) := by kernel_rfl
theorem e18 (k : Nat) (a0 : List Int) (a1 : List Int) : F18 (k + 1) a0 a1 = if ((a0.length : Int) != (a1.length : Int)) = true then some false else L18_0 k (fun (v0 : Int) (x1 : Int) (x2 : Int) => some false) (fun (v0 : Int) => some true) (a0, a1) k 0 := by
  rw [m18_0]
  simp only [l18_0]
  kernel_rfl
/-! loop.example/g00599/laws.eqSat -/
noncomputable def F249 (k : Nat) (a0 : Int × Int × Int × Int) (a1 : Int × Int × Int × Int) : Option (Bool) := den E k 249 [.agg [.v (.int .i64 a0.1), .v (.int .i64 a0.2.1), .v (.int .i64 a0.2.2.1), .v (.int .i64 a0.2.2.2)], .agg [.v (.int .i64 a1.1), .v (.int .i64 a1.2.1), .v (.int .i64 a1.2.2.1), .v (.int .i64 a1.2.2.2)]]
theorem e249 (k : Nat) (a0 : Int × Int × Int × Int) (a1 : Int × Int × Int × Int) : F249 (k + 1) a0 a1 = if (a0.1 != a1.1) = true then some false else if (a0.2.1 != a1.2.1) = true then some false else if (a0.2.2.1 != a1.2.2.1) = true then some false else if (a0.2.2.2 != a1.2.2.2) = true then some false else some true := by kernel_rfl
/-! loop.example/g00599/laws.eqSatS -/
noncomputable def F158 (k : Nat) (a0 : List (Int × Int × Int × Int)) (a1 : List (Int × Int × Int × Int)) : Option (Bool) := den E k 158 [.c (.l 262 s75 a0), .c (.l 262 s75 a1)]
abbrev C158_0 : Type := (List (Int × Int × Int × Int)) × (List (Int × Int × Int × Int))
abbrev V158_0 : Type := Int
def St158_0 (c0 : C158_0) (v0 : V158_0) : St := ⟨27, 0, [(0, .c (.l 262 s75 c0.1)), (1, .c (.l 262 s75 c0.2)), (5, .c (.v (.int .i64 v0)))], []⟩
noncomputable def B158_0 {R : Type} (k : Nat) (X0 : V158_0 → (Int × Int × Int × Int) → (Int × Int × Int × Int) → Bool → Option R) (X1 : V158_0 → Option R) (c0 : C158_0) (rec : V158_0 → Option R) (v0 : V158_0) : Option R := if (decide (v0 < (c0.1.length : Int))) = true then if 0 ≤ v0 then ix c0.1 v0.toNat fun x1 => if 0 ≤ v0 then ix c0.2 v0.toNat fun x2 => (F249 k x1 x2).bind fun p3 => if (!p3) = true then X0 v0 x1 x2 p3 else rec (IntKind.i64.wrap (v0 + 1)) else none else none else X1 v0
noncomputable def L158_0 {R : Type} (k : Nat) (X0 : V158_0 → (Int × Int × Int × Int) → (Int × Int × Int × Int) → Bool → Option R) (X1 : V158_0 → Option R) (c : C158_0) : Nat → V158_0 → Option R
  | 0, _ => none
  | n + 1, v => B158_0 k X0 X1 c (L158_0 k X0 X1 c n) v
theorem b158_0 {R : Type} (k n : Nat) (K : Ex → St → Option R) (c0 : C158_0) (v : V158_0) : loopRun [0, 0, 1, 5] (run E (den E k) (lv 158) k (nthLoop Tryz.f158 0)) (n + 1) (St158_0 c0 v) K = B158_0 k (fun (v0 : V158_0) (x1 : Int × Int × Int × Int) (x2 : Int × Int × Int × Int) (p3 : Bool) => K .ret ⟨27, 0, [(0, .c (.l 262 s75 c0.1)), (1, .c (.l 262 s75 c0.2)), (4, .c (.v (.bool false))), (5, .c (.v (.int .i64 v0))), (11, .c (.v (.int .i64 v0))), (12, .c (.l 262 s75 c0.1)), (13, .c (.v (.int .i64 (c0.1.length : Int)))), (14, .c (.v (.bool (decide (v0 < (c0.1.length : Int)))))), (17, .c (.l 262 s75 c0.1)), (18, .c (.v (.int .i64 v0))), (19, .c (.at_ [.v (.int .i64 x1.1), .v (.int .i64 x1.2.1), .v (.int .i64 x1.2.2.1), .v (.int .i64 x1.2.2.2)])), (20, .agg [.v (.int .i64 x1.1), .v (.int .i64 x1.2.1), .v (.int .i64 x1.2.2.1), .v (.int .i64 x1.2.2.2)]), (21, .c (.l 262 s75 c0.2)), (22, .c (.v (.int .i64 v0))), (23, .c (.at_ [.v (.int .i64 x2.1), .v (.int .i64 x2.2.1), .v (.int .i64 x2.2.2.1), .v (.int .i64 x2.2.2.2)])), (24, .agg [.v (.int .i64 x2.1), .v (.int .i64 x2.2.1), .v (.int .i64 x2.2.2.1), .v (.int .i64 x2.2.2.2)]), (25, .c (.v (.bool p3))), (26, .c (.v (.bool (!p3))))], []⟩) (fun (v0 : V158_0) => K (.exit 0) ⟨27, 0, [(0, .c (.l 262 s75 c0.1)), (1, .c (.l 262 s75 c0.2)), (5, .c (.v (.int .i64 v0))), (11, .c (.v (.int .i64 v0))), (12, .c (.l 262 s75 c0.1)), (13, .c (.v (.int .i64 (c0.1.length : Int)))), (14, .c (.v (.bool (decide (v0 < (c0.1.length : Int))))))], []⟩) c0 (fun v => loopRun [0, 0, 1, 5] (run E (den E k) (lv 158) k (nthLoop Tryz.f158 0)) n (St158_0 c0 v) K) v := by kernel_rfl
theorem l158_0 {R : Type} (k : Nat) (K : Ex → St → Option R) (c0 : C158_0) : ∀ (n : Nat) (v : V158_0), loopRun [0, 0, 1, 5] (run E (den E k) (lv 158) k (nthLoop Tryz.f158 0)) n (St158_0 c0 v) K = L158_0 k (fun (v0 : V158_0) (x1 : Int × Int × Int × Int) (x2 : Int × Int × Int × Int) (p3 : Bool) => K .ret ⟨27, 0, [(0, .c (.l 262 s75 c0.1)), (1, .c (.l 262 s75 c0.2)), (4, .c (.v (.bool false))), (5, .c (.v (.int .i64 v0))), (11, .c (.v (.int .i64 v0))), (12, .c (.l 262 s75 c0.1)), (13, .c (.v (.int .i64 (c0.1.length : Int)))), (14, .c (.v (.bool (decide (v0 < (c0.1.length : Int)))))), (17, .c (.l 262 s75 c0.1)), (18, .c (.v (.int .i64 v0))), (19, .c (.at_ [.v (.int .i64 x1.1), .v (.int .i64 x1.2.1), .v (.int .i64 x1.2.2.1), .v (.int .i64 x1.2.2.2)])), (20, .agg [.v (.int .i64 x1.1), .v (.int .i64 x1.2.1), .v (.int .i64 x1.2.2.1), .v (.int .i64 x1.2.2.2)]), (21, .c (.l 262 s75 c0.2)), (22, .c (.v (.int .i64 v0))), (23, .c (.at_ [.v (.int .i64 x2.1), .v (.int .i64 x2.2.1), .v (.int .i64 x2.2.2.1), .v (.int .i64 x2.2.2.2)])), (24, .agg [.v (.int .i64 x2.1), .v (.int .i64 x2.2.1), .v (.int .i64 x2.2.2.1), .v (.int .i64 x2.2.2.2)]), (25, .c (.v (.bool p3))), (26, .c (.v (.bool (!p3))))], []⟩) (fun (v0 : V158_0) => K (.exit 0) ⟨27, 0, [(0, .c (.l 262 s75 c0.1)), (1, .c (.l 262 s75 c0.2)), (5, .c (.v (.int .i64 v0))), (11, .c (.v (.int .i64 v0))), (12, .c (.l 262 s75 c0.1)), (13, .c (.v (.int .i64 (c0.1.length : Int)))), (14, .c (.v (.bool (decide (v0 < (c0.1.length : Int))))))], []⟩) c0 n v := by
  intro n
  induction n with
  | zero => intro v; rfl
  | succ n ih =>
    intro v
    refine (b158_0 k n K c0 v).trans ?_
    rw [funext ih]
    kernel_rfl
theorem m158_0 (k : Nat) (a0 : List (Int × Int × Int × Int)) (a1 : List (Int × Int × Int × Int)) : F158 (k + 1) a0 a1 = if ((a0.length : Int) != (a1.length : Int)) = true then some false else loopRun (R := Bool) [0, 0, 1, 5] (run E (den E k) (lv 158) k (nthLoop Tryz.f158 0)) k (St158_0 (a0, a1) 0) (kontAt E (den E k) (lv 158) k (bodyOf Tryz.f158) 0 [] (finish E (rs 158) Tryz.f158 : Ex → St → Option (Bool))) := by kernel_rfl
theorem e158 (k : Nat) (a0 : List (Int × Int × Int × Int)) (a1 : List (Int × Int × Int × Int)) : F158 (k + 1) a0 a1 = if ((a0.length : Int) != (a1.length : Int)) = true then some false else L158_0 k (fun (v0 : Int) (x1 : Int × Int × Int × Int) (x2 : Int × Int × Int × Int) (p3 : Bool) => some false) (fun (v0 : Int) => some true) (a0, a1) k 0 := by
  rw [m158_0]
  simp only [l158_0]
  kernel_rfl
/-! loop.example/g00599/laws.eqSite -/
noncomputable def F250 (k : Nat) (a0 : Int × Int × Int) (a1 : Int × Int × Int) : Option (Bool) := den E k 250 [.agg [.v (.int .i64 a0.1), .v (.int .i64 a0.2.1), .v (.int .i64 a0.2.2)], .agg [.v (.int .i64 a1.1), .v (.int .i64 a1.2.1), .v (.int .i64 a1.2.2)]]
theorem e250 (k : Nat) (a0 : Int × Int × Int) (a1 : Int × Int × Int) : F250 (k + 1) a0 a1 = if (a0.1 != a1.1) = true then some false else if (a0.2.1 != a1.2.1) = true then some false else if (a0.2.2 != a1.2.2) = true then some false else some true := by kernel_rfl
/-! loop.example/g00599/laws.eqSiteS -/
noncomputable def F159 (k : Nat) (a0 : List (Int × Int × Int)) (a1 : List (Int × Int × Int)) : Option (Bool) := den E k 159 [.c (.l 266 s265 a0), .c (.l 266 s265 a1)]
abbrev C159_0 : Type := (List (Int × Int × Int)) × (List (Int × Int × Int))
abbrev V159_0 : Type := Int
def St159_0 (c0 : C159_0) (v0 : V159_0) : St := ⟨27, 0, [(0, .c (.l 266 s265 c0.1)), (1, .c (.l 266 s265 c0.2)), (5, .c (.v (.int .i64 v0)))], []⟩
noncomputable def B159_0 {R : Type} (k : Nat) (X0 : V159_0 → (Int × Int × Int) → (Int × Int × Int) → Bool → Option R) (X1 : V159_0 → Option R) (c0 : C159_0) (rec : V159_0 → Option R) (v0 : V159_0) : Option R := if (decide (v0 < (c0.1.length : Int))) = true then if 0 ≤ v0 then ix c0.1 v0.toNat fun x1 => if 0 ≤ v0 then ix c0.2 v0.toNat fun x2 => (F250 k x1 x2).bind fun p3 => if (!p3) = true then X0 v0 x1 x2 p3 else rec (IntKind.i64.wrap (v0 + 1)) else none else none else X1 v0
noncomputable def L159_0 {R : Type} (k : Nat) (X0 : V159_0 → (Int × Int × Int) → (Int × Int × Int) → Bool → Option R) (X1 : V159_0 → Option R) (c : C159_0) : Nat → V159_0 → Option R
  | 0, _ => none
  | n + 1, v => B159_0 k X0 X1 c (L159_0 k X0 X1 c n) v
theorem b159_0 {R : Type} (k n : Nat) (K : Ex → St → Option R) (c0 : C159_0) (v : V159_0) : loopRun [0, 0, 1, 5] (run E (den E k) (lv 159) k (nthLoop Tryz.f159 0)) (n + 1) (St159_0 c0 v) K = B159_0 k (fun (v0 : V159_0) (x1 : Int × Int × Int) (x2 : Int × Int × Int) (p3 : Bool) => K .ret ⟨27, 0, [(0, .c (.l 266 s265 c0.1)), (1, .c (.l 266 s265 c0.2)), (4, .c (.v (.bool false))), (5, .c (.v (.int .i64 v0))), (11, .c (.v (.int .i64 v0))), (12, .c (.l 266 s265 c0.1)), (13, .c (.v (.int .i64 (c0.1.length : Int)))), (14, .c (.v (.bool (decide (v0 < (c0.1.length : Int)))))), (17, .c (.l 266 s265 c0.1)), (18, .c (.v (.int .i64 v0))), (19, .c (.at_ [.v (.int .i64 x1.1), .v (.int .i64 x1.2.1), .v (.int .i64 x1.2.2)])), (20, .agg [.v (.int .i64 x1.1), .v (.int .i64 x1.2.1), .v (.int .i64 x1.2.2)]), (21, .c (.l 266 s265 c0.2)), (22, .c (.v (.int .i64 v0))), (23, .c (.at_ [.v (.int .i64 x2.1), .v (.int .i64 x2.2.1), .v (.int .i64 x2.2.2)])), (24, .agg [.v (.int .i64 x2.1), .v (.int .i64 x2.2.1), .v (.int .i64 x2.2.2)]), (25, .c (.v (.bool p3))), (26, .c (.v (.bool (!p3))))], []⟩) (fun (v0 : V159_0) => K (.exit 0) ⟨27, 0, [(0, .c (.l 266 s265 c0.1)), (1, .c (.l 266 s265 c0.2)), (5, .c (.v (.int .i64 v0))), (11, .c (.v (.int .i64 v0))), (12, .c (.l 266 s265 c0.1)), (13, .c (.v (.int .i64 (c0.1.length : Int)))), (14, .c (.v (.bool (decide (v0 < (c0.1.length : Int))))))], []⟩) c0 (fun v => loopRun [0, 0, 1, 5] (run E (den E k) (lv 159) k (nthLoop Tryz.f159 0)) n (St159_0 c0 v) K) v := by kernel_rfl
theorem l159_0 {R : Type} (k : Nat) (K : Ex → St → Option R) (c0 : C159_0) : ∀ (n : Nat) (v : V159_0), loopRun [0, 0, 1, 5] (run E (den E k) (lv 159) k (nthLoop Tryz.f159 0)) n (St159_0 c0 v) K = L159_0 k (fun (v0 : V159_0) (x1 : Int × Int × Int) (x2 : Int × Int × Int) (p3 : Bool) => K .ret ⟨27, 0, [(0, .c (.l 266 s265 c0.1)), (1, .c (.l 266 s265 c0.2)), (4, .c (.v (.bool false))), (5, .c (.v (.int .i64 v0))), (11, .c (.v (.int .i64 v0))), (12, .c (.l 266 s265 c0.1)), (13, .c (.v (.int .i64 (c0.1.length : Int)))), (14, .c (.v (.bool (decide (v0 < (c0.1.length : Int)))))), (17, .c (.l 266 s265 c0.1)), (18, .c (.v (.int .i64 v0))), (19, .c (.at_ [.v (.int .i64 x1.1), .v (.int .i64 x1.2.1), .v (.int .i64 x1.2.2)])), (20, .agg [.v (.int .i64 x1.1), .v (.int .i64 x1.2.1), .v (.int .i64 x1.2.2)]), (21, .c (.l 266 s265 c0.2)), (22, .c (.v (.int .i64 v0))), (23, .c (.at_ [.v (.int .i64 x2.1), .v (.int .i64 x2.2.1), .v (.int .i64 x2.2.2)])), (24, .agg [.v (.int .i64 x2.1), .v (.int .i64 x2.2.1), .v (.int .i64 x2.2.2)]), (25, .c (.v (.bool p3))), (26, .c (.v (.bool (!p3))))], []⟩) (fun (v0 : V159_0) => K (.exit 0) ⟨27, 0, [(0, .c (.l 266 s265 c0.1)), (1, .c (.l 266 s265 c0.2)), (5, .c (.v (.int .i64 v0))), (11, .c (.v (.int .i64 v0))), (12, .c (.l 266 s265 c0.1)), (13, .c (.v (.int .i64 (c0.1.length : Int)))), (14, .c (.v (.bool (decide (v0 < (c0.1.length : Int))))))], []⟩) c0 n v := by
  intro n
  induction n with
  | zero => intro v; rfl
  | succ n ih =>
    intro v
    refine (b159_0 k n K c0 v).trans ?_
    rw [funext ih]
    kernel_rfl
theorem m159_0 (k : Nat) (a0 : List (Int × Int × Int)) (a1 : List (Int × Int × Int)) : F159 (k + 1) a0 a1 = if ((a0.length : Int) != (a1.length : Int)) = true then some false else loopRun (R := Bool) [0, 0, 1, 5] (run E (den E k) (lv 159) k (nthLoop Tryz.f159 0)) k (St159_0 (a0, a1) 0) (kontAt E (den E k) (lv 159) k (bodyOf Tryz.f159) 0 [] (finish E (rs 159) Tryz.f159 : Ex → St → Option (Bool))) := by kernel_rfl
theorem e159 (k : Nat) (a0 : List (Int × Int × Int)) (a1 : List (Int × Int × Int)) : F159 (k + 1) a0 a1 = if ((a0.length : Int) != (a1.length : Int)) = true then some false else L159_0 k (fun (v0 : Int) (x1 : Int × Int × Int) (x2 : Int × Int × Int) (p3 : Bool) => some false) (fun (v0 : Int) => some true) (a0, a1) k 0 := by
  rw [m159_0]
  simp only [l159_0]
  kernel_rfl
/-! loop.example/g00599/laws.eqArc -/
noncomputable def F307 (k : Nat) (a0 : Int × Int) (a1 : Int × Int) : Option (Bool) := den E k 307 [.agg [.v (.int .i64 a0.1), .v (.int .i64 a0.2)], .agg [.v (.int .i64 a1.1), .v (.int .i64 a1.2)]]
theorem e307 (k : Nat) (a0 : Int × Int) (a1 : Int × Int) : F307 (k + 1) a0 a1 = if (a0.1 != a1.1) = true then some false else if (a0.2 != a1.2) = true then some false else some true := by kernel_rfl
/-! loop.example/g00599/laws.eqZone -/
noncomputable def F251 (k : Nat) (a0 : Int × Int × Int) (a1 : Int × Int × Int) : Option (Bool) := den E k 251 [.agg [.v (.int .i64 a0.1), .v (.int .i64 a0.2.1), .v (.int .i64 a0.2.2)], .agg [.v (.int .i64 a1.1), .v (.int .i64 a1.2.1), .v (.int .i64 a1.2.2)]]
theorem e251 (k : Nat) (a0 : Int × Int × Int) (a1 : Int × Int × Int) : F251 (k + 1) a0 a1 = if (a0.1 != a1.1) = true then some false else (F307 k a0.2 a1.2).bind fun p1 => if (!p1) = true then some false else some true := by kernel_rfl
/-! loop.example/g00599/laws.eqZoneS -/
noncomputable def F160 (k : Nat) (a0 : List (Int × Int × Int)) (a1 : List (Int × Int × Int)) : Option (Bool) := den E k 160 [.c (.l 272 s271 a0), .c (.l 272 s271 a1)]
abbrev C160_0 : Type := (List (Int × Int × Int)) × (List (Int × Int × Int))
abbrev V160_0 : Type := Int
def St160_0 (c0 : C160_0) (v0 : V160_0) : St := ⟨27, 0, [(0, .c (.l 272 s271 c0.1)), (1, .c (.l 272 s271 c0.2)), (5, .c (.v (.int .i64 v0)))], []⟩
noncomputable def B160_0 {R : Type} (k : Nat) (X0 : V160_0 → (Int × Int × Int) → (Int × Int × Int) → Bool → Option R) (X1 : V160_0 → Option R) (c0 : C160_0) (rec : V160_0 → Option R) (v0 : V160_0) : Option R := if (decide (v0 < (c0.1.length : Int))) = true then if 0 ≤ v0 then ix c0.1 v0.toNat fun x1 => if 0 ≤ v0 then ix c0.2 v0.toNat fun x2 => (F251 k x1 x2).bind fun p3 => if (!p3) = true then X0 v0 x1 x2 p3 else rec (IntKind.i64.wrap (v0 + 1)) else none else none else X1 v0
noncomputable def L160_0 {R : Type} (k : Nat) (X0 : V160_0 → (Int × Int × Int) → (Int × Int × Int) → Bool → Option R) (X1 : V160_0 → Option R) (c : C160_0) : Nat → V160_0 → Option R
  | 0, _ => none
  | n + 1, v => B160_0 k X0 X1 c (L160_0 k X0 X1 c n) v
theorem b160_0 {R : Type} (k n : Nat) (K : Ex → St → Option R) (c0 : C160_0) (v : V160_0) : loopRun [0, 0, 1, 5] (run E (den E k) (lv 160) k (nthLoop Tryz.f160 0)) (n + 1) (St160_0 c0 v) K = B160_0 k (fun (v0 : V160_0) (x1 : Int × Int × Int) (x2 : Int × Int × Int) (p3 : Bool) => K .ret ⟨27, 0, [(0, .c (.l 272 s271 c0.1)), (1, .c (.l 272 s271 c0.2)), (4, .c (.v (.bool false))), (5, .c (.v (.int .i64 v0))), (11, .c (.v (.int .i64 v0))), (12, .c (.l 272 s271 c0.1)), (13, .c (.v (.int .i64 (c0.1.length : Int)))), (14, .c (.v (.bool (decide (v0 < (c0.1.length : Int)))))), (17, .c (.l 272 s271 c0.1)), (18, .c (.v (.int .i64 v0))), (19, .c (.at_ [.v (.int .i64 x1.1), .v (.int .i64 x1.2.1), .v (.int .i64 x1.2.2)])), (20, .agg [.v (.int .i64 x1.1), .v (.int .i64 x1.2.1), .v (.int .i64 x1.2.2)]), (21, .c (.l 272 s271 c0.2)), (22, .c (.v (.int .i64 v0))), (23, .c (.at_ [.v (.int .i64 x2.1), .v (.int .i64 x2.2.1), .v (.int .i64 x2.2.2)])), (24, .agg [.v (.int .i64 x2.1), .v (.int .i64 x2.2.1), .v (.int .i64 x2.2.2)]), (25, .c (.v (.bool p3))), (26, .c (.v (.bool (!p3))))], []⟩) (fun (v0 : V160_0) => K (.exit 0) ⟨27, 0, [(0, .c (.l 272 s271 c0.1)), (1, .c (.l 272 s271 c0.2)), (5, .c (.v (.int .i64 v0))), (11, .c (.v (.int .i64 v0))), (12, .c (.l 272 s271 c0.1)), (13, .c (.v (.int .i64 (c0.1.length : Int)))), (14, .c (.v (.bool (decide (v0 < (c0.1.length : Int))))))], []⟩) c0 (fun v => loopRun [0, 0, 1, 5] (run E (den E k) (lv 160) k (nthLoop Tryz.f160 0)) n (St160_0 c0 v) K) v := by kernel_rfl
theorem l160_0 {R : Type} (k : Nat) (K : Ex → St → Option R) (c0 : C160_0) : ∀ (n : Nat) (v : V160_0), loopRun [0, 0, 1, 5] (run E (den E k) (lv 160) k (nthLoop Tryz.f160 0)) n (St160_0 c0 v) K = L160_0 k (fun (v0 : V160_0) (x1 : Int × Int × Int) (x2 : Int × Int × Int) (p3 : Bool) => K .ret ⟨27, 0, [(0, .c (.l 272 s271 c0.1)), (1, .c (.l 272 s271 c0.2)), (4, .c (.v (.bool false))), (5, .c (.v (.int .i64 v0))), (11, .c (.v (.int .i64 v0))), (12, .c (.l 272 s271 c0.1)), (13, .c (.v (.int .i64 (c0.1.length : Int)))), (14, .c (.v (.bool (decide (v0 < (c0.1.length : Int)))))), (17, .c (.l 272 s271 c0.1)), (18, .c (.v (.int .i64 v0))), (19, .c (.at_ [.v (.int .i64 x1.1), .v (.int .i64 x1.2.1), .v (.int .i64 x1.2.2)])), (20, .agg [.v (.int .i64 x1.1), .v (.int .i64 x1.2.1), .v (.int .i64 x1.2.2)]), (21, .c (.l 272 s271 c0.2)), (22, .c (.v (.int .i64 v0))), (23, .c (.at_ [.v (.int .i64 x2.1), .v (.int .i64 x2.2.1), .v (.int .i64 x2.2.2)])), (24, .agg [.v (.int .i64 x2.1), .v (.int .i64 x2.2.1), .v (.int .i64 x2.2.2)]), (25, .c (.v (.bool p3))), (26, .c (.v (.bool (!p3))))], []⟩) (fun (v0 : V160_0) => K (.exit 0) ⟨27, 0, [(0, .c (.l 272 s271 c0.1)), (1, .c (.l 272 s271 c0.2)), (5, .c (.v (.int .i64 v0))), (11, .c (.v (.int .i64 v0))), (12, .c (.l 272 s271 c0.1)), (13, .c (.v (.int .i64 (c0.1.length : Int)))), (14, .c (.v (.bool (decide (v0 < (c0.1.length : Int))))))], []⟩) c0 n v := by
  intro n
  induction n with
  | zero => intro v; rfl
  | succ n ih =>
    intro v
    refine (b160_0 k n K c0 v).trans ?_
    rw [funext ih]
    kernel_rfl
theorem m160_0 (k : Nat) (a0 : List (Int × Int × Int)) (a1 : List (Int × Int × Int)) : F160 (k + 1) a0 a1 = if ((a0.length : Int) != (a1.length : Int)) = true then some false else loopRun (R := Bool) [0, 0, 1, 5] (run E (den E k) (lv 160) k (nthLoop Tryz.f160 0)) k (St160_0 (a0, a1) 0) (kontAt E (den E k) (lv 160) k (bodyOf Tryz.f160) 0 [] (finish E (rs 160) Tryz.f160 : Ex → St → Option (Bool))) := by kernel_rfl
theorem e160 (k : Nat) (a0 : List (Int × Int × Int)) (a1 : List (Int × Int × Int)) : F160 (k + 1) a0 a1 = if ((a0.length : Int) != (a1.length : Int)) = true then some false else L160_0 k (fun (v0 : Int) (x1 : Int × Int × Int) (x2 : Int × Int × Int) (p3 : Bool) => some false) (fun (v0 : Int) => some true) (a0, a1) k 0 := by
  rw [m160_0]
  simp only [l160_0]
  kernel_rfl
/-! loop.example/g00599/laws.eqSky -/
noncomputable def F72 (k : Nat) (a0 : T25) (a1 : T25) : Option (Bool) := den E k 72 [.agg [.v (.int .i64 a0.1), .l 262 s75 a0.2.1, .l 266 s265 a0.2.2.1, .v (.int .i64 a0.2.2.2.1), .v (.int .i64 a0.2.2.2.2.1), .v (.int .i64 a0.2.2.2.2.2.1), .v (.int .i64 a0.2.2.2.2.2.2.1), .v (.int .i64 a0.2.2.2.2.2.2.2.1), .l 272 s271 a0.2.2.2.2.2.2.2.2.1, .v (.int .i64 a0.2.2.2.2.2.2.2.2.2)], .agg [.v (.int .i64 a1.1), .l 262 s75 a1.2.1, .l 266 s265 a1.2.2.1, .v (.int .i64 a1.2.2.2.1), .v (.int .i64 a1.2.2.2.2.1), .v (.int .i64 a1.2.2.2.2.2.1), .v (.int .i64 a1.2.2.2.2.2.2.1), .v (.int .i64 a1.2.2.2.2.2.2.2.1), .l 272 s271 a1.2.2.2.2.2.2.2.2.1, .v (.int .i64 a1.2.2.2.2.2.2.2.2.2)]]
theorem e72 (k : Nat) (a0 : T25) (a1 : T25) : F72 (k + 1) a0 a1 = if (a0.1 != a1.1) = true then some false else (F158 k a0.2.1 a1.2.1).bind fun p1 => if (!p1) = true then some false else (F159 k a0.2.2.1 a1.2.2.1).bind fun p2 => if (!p2) = true then some false else if (a0.2.2.2.1 != a1.2.2.2.1) = true then some false else if (a0.2.2.2.2.1 != a1.2.2.2.2.1) = true then some false else if (a0.2.2.2.2.2.1 != a1.2.2.2.2.2.1) = true then some false else if (a0.2.2.2.2.2.2.1 != a1.2.2.2.2.2.2.1) = true then some false else if (a0.2.2.2.2.2.2.2.1 != a1.2.2.2.2.2.2.2.1) = true then some false else (F160 k a0.2.2.2.2.2.2.2.2.1 a1.2.2.2.2.2.2.2.2.1).bind fun p3 => if (!p3) = true then some false else if (a0.2.2.2.2.2.2.2.2.2 != a1.2.2.2.2.2.2.2.2.2) = true then some false else some true := by kernel_rfl
/-! loop.example/g00599/laws.eqSpan -/
noncomputable def F107 (k : Nat) (a0 : Int × Int) (a1 : Int × Int) : Option (Bool) := den E k 107 [.agg [.v (.int .i64 a0.1), .v (.int .i64 a0.2)], .agg [.v (.int .i64 a1.1), .v (.int .i64 a1.2)]]
theorem e107 (k : Nat) (a0 : Int × Int) (a1 : Int × Int) : F107 (k + 1) a0 a1 = if (a0.1 != a1.1) = true then some false else if (a0.2 != a1.2) = true then some false else some true := by kernel_rfl
/-! loop.example/g00599/laws.eqLink -/
noncomputable def F335 (k : Nat) (a0 : Int × Int) (a1 : Int × Int) : Option (Bool) := den E k 335 [.agg [.v (.int .i64 a0.1), .v (.int .i64 a0.2)], .agg [.v (.int .i64 a1.1), .v (.int .i64 a1.2)]]
theorem e335 (k : Nat) (a0 : Int × Int) (a1 : Int × Int) : F335 (k + 1) a0 a1 = if (a0.1 != a1.1) = true then some false else if (a0.2 != a1.2) = true then some false else some true := by kernel_rfl
/-! loop.example/g00599/laws.eqLinkS -/
noncomputable def F308 (k : Nat) (a0 : List (Int × Int)) (a1 : List (Int × Int)) : Option (Bool) := den E k 308 [.c (.l 317 s150 a0), .c (.l 317 s150 a1)]
abbrev C308_0 : Type := (List (Int × Int)) × (List (Int × Int))
abbrev V308_0 : Type := Int
def St308_0 (c0 : C308_0) (v0 : V308_0) : St := ⟨27, 0, [(0, .c (.l 317 s150 c0.1)), (1, .c (.l 317 s150 c0.2)), (5, .c (.v (.int .i64 v0)))], []⟩
noncomputable def B308_0 {R : Type} (k : Nat) (X0 : V308_0 → (Int × Int) → (Int × Int) → Bool → Option R) (X1 : V308_0 → Option R) (c0 : C308_0) (rec : V308_0 → Option R) (v0 : V308_0) : Option R := if (decide (v0 < (c0.1.length : Int))) = true then if 0 ≤ v0 then ix c0.1 v0.toNat fun x1 => if 0 ≤ v0 then ix c0.2 v0.toNat fun x2 => (F335 k x1 x2).bind fun p3 => if (!p3) = true then X0 v0 x1 x2 p3 else rec (IntKind.i64.wrap (v0 + 1)) else none else none else X1 v0
noncomputable def L308_0 {R : Type} (k : Nat) (X0 : V308_0 → (Int × Int) → (Int × Int) → Bool → Option R) (X1 : V308_0 → Option R) (c : C308_0) : Nat → V308_0 → Option R
  | 0, _ => none
  | n + 1, v => B308_0 k X0 X1 c (L308_0 k X0 X1 c n) v
theorem b308_0 {R : Type} (k n : Nat) (K : Ex → St → Option R) (c0 : C308_0) (v : V308_0) : loopRun [0, 0, 1, 5] (run E (den E k) (lv 308) k (nthLoop Tryz.f308 0)) (n + 1) (St308_0 c0 v) K = B308_0 k (fun (v0 : V308_0) (x1 : Int × Int) (x2 : Int × Int) (p3 : Bool) => K .ret ⟨27, 0, [(0, .c (.l 317 s150 c0.1)), (1, .c (.l 317 s150 c0.2)), (4, .c (.v (.bool false))), (5, .c (.v (.int .i64 v0))), (11, .c (.v (.int .i64 v0))), (12, .c (.l 317 s150 c0.1)), (13, .c (.v (.int .i64 (c0.1.length : Int)))), (14, .c (.v (.bool (decide (v0 < (c0.1.length : Int)))))), (17, .c (.l 317 s150 c0.1)), (18, .c (.v (.int .i64 v0))), (19, .c (.at_ [.v (.int .i64 x1.1), .v (.int .i64 x1.2)])), (20, .agg [.v (.int .i64 x1.1), .v (.int .i64 x1.2)]), (21, .c (.l 317 s150 c0.2)), (22, .c (.v (.int .i64 v0))), (23, .c (.at_ [.v (.int .i64 x2.1), .v (.int .i64 x2.2)])), (24, .agg [.v (.int .i64 x2.1), .v (.int .i64 x2.2)]), (25, .c (.v (.bool p3))), (26, .c (.v (.bool (!p3))))], []⟩) (fun (v0 : V308_0) => K (.exit 0) ⟨27, 0, [(0, .c (.l 317 s150 c0.1)), (1, .c (.l 317 s150 c0.2)), (5, .c (.v (.int .i64 v0))), (11, .c (.v (.int .i64 v0))), (12, .c (.l 317 s150 c0.1)), (13, .c (.v (.int .i64 (c0.1.length : Int)))), (14, .c (.v (.bool (decide (v0 < (c0.1.length : Int))))))], []⟩) c0 (fun v => loopRun [0, 0, 1, 5] (run E (den E k) (lv 308) k (nthLoop Tryz.f308 0)) n (St308_0 c0 v) K) v := by kernel_rfl
theorem l308_0 {R : Type} (k : Nat) (K : Ex → St → Option R) (c0 : C308_0) : ∀ (n : Nat) (v : V308_0), loopRun [0, 0, 1, 5] (run E (den E k) (lv 308) k (nthLoop Tryz.f308 0)) n (St308_0 c0 v) K = L308_0 k (fun (v0 : V308_0) (x1 : Int × Int) (x2 : Int × Int) (p3 : Bool) => K .ret ⟨27, 0, [(0, .c (.l 317 s150 c0.1)), (1, .c (.l 317 s150 c0.2)), (4, .c (.v (.bool false))), (5, .c (.v (.int .i64 v0))), (11, .c (.v (.int .i64 v0))), (12, .c (.l 317 s150 c0.1)), (13, .c (.v (.int .i64 (c0.1.length : Int)))), (14, .c (.v (.bool (decide (v0 < (c0.1.length : Int)))))), (17, .c (.l 317 s150 c0.1)), (18, .c (.v (.int .i64 v0))), (19, .c (.at_ [.v (.int .i64 x1.1), .v (.int .i64 x1.2)])), (20, .agg [.v (.int .i64 x1.1), .v (.int .i64 x1.2)]), (21, .c (.l 317 s150 c0.2)), (22, .c (.v (.int .i64 v0))), (23, .c (.at_ [.v (.int .i64 x2.1), .v (.int .i64 x2.2)])), (24, .agg [.v (.int .i64 x2.1), .v (.int .i64 x2.2)]), (25, .c (.v (.bool p3))), (26, .c (.v (.bool (!p3))))], []⟩) (fun (v0 : V308_0) => K (.exit 0) ⟨27, 0, [(0, .c (.l 317 s150 c0.1)), (1, .c (.l 317 s150 c0.2)), (5, .c (.v (.int .i64 v0))), (11, .c (.v (.int .i64 v0))), (12, .c (.l 317 s150 c0.1)), (13, .c (.v (.int .i64 (c0.1.length : Int)))), (14, .c (.v (.bool (decide (v0 < (c0.1.length : Int))))))], []⟩) c0 n v := by
  intro n
  induction n with
  | zero => intro v; rfl
  | succ n ih =>
    intro v
    refine (b308_0 k n K c0 v).trans ?_
    rw [funext ih]
    kernel_rfl
theorem m308_0 (k : Nat) (a0 : List (Int × Int)) (a1 : List (Int × Int)) : F308 (k + 1) a0 a1 = if ((a0.length : Int) != (a1.length : Int)) = true then some false else loopRun (R := Bool) [0, 0, 1, 5] (run E (den E k) (lv 308) k (nthLoop Tryz.f308 0)) k (St308_0 (a0, a1) 0) (kontAt E (den E k) (lv 308) k (bodyOf Tryz.f308) 0 [] (finish E (rs 308) Tryz.f308 : Ex → St → Option (Bool))) := by kernel_rfl
theorem e308 (k : Nat) (a0 : List (Int × Int)) (a1 : List (Int × Int)) : F308 (k + 1) a0 a1 = if ((a0.length : Int) != (a1.length : Int)) = true then some false else L308_0 k (fun (v0 : Int) (x1 : Int × Int) (x2 : Int × Int) (p3 : Bool) => some false) (fun (v0 : Int) => some true) (a0, a1) k 0 := by
  rw [m308_0]
  simp only [l308_0]
  kernel_rfl
/-! loop.example/g00599/laws.eqTable -/
noncomputable def F336 (k : Nat) (a0 : Int × (List Int) × List Int) (a1 : Int × (List Int) × List Int) : Option (Bool) := den E k 336 [.agg [.v (.int .i64 a0.1), .l 3 (.i .i64) a0.2.1, .l 3 (.i .i64) a0.2.2], .agg [.v (.int .i64 a1.1), .l 3 (.i .i64) a1.2.1, .l 3 (.i .i64) a1.2.2]]
theorem e336 (k : Nat) (a0 : Int × (List Int) × List Int) (a1 : Int × (List Int) × List Int) : F336 (k + 1) a0 a1 = if (a0.1 != a1.1) = true then some false else (F18 k a0.2.1 a1.2.1).bind fun p1 => if (!p1) = true then some false else (F18 k a0.2.2 a1.2.2).bind fun p2 => if (!p2) = true then some false else some true := by kernel_rfl
/-! loop.example/g00599/laws.eqTableS -/
noncomputable def F309 (k : Nat) (a0 : List (Int × (List Int) × List Int)) (a1 : List (Int × (List Int) × List Int)) : Option (Bool) := den E k 309 [.c (.l 239 s238 a0), .c (.l 239 s238 a1)]
abbrev C309_0 : Type := (List (Int × (List Int) × List Int)) × (List (Int × (List Int) × List Int))
abbrev V309_0 : Type := Int
def St309_0 (c0 : C309_0) (v0 : V309_0) : St := ⟨27, 0, [(0, .c (.l 239 s238 c0.1)), (1, .c (.l 239 s238 c0.2)), (5, .c (.v (.int .i64 v0)))], []⟩
noncomputable def B309_0 {R : Type} (k : Nat) (X0 : V309_0 → (Int × (List Int) × List Int) → (Int × (List Int) × List Int) → Bool → Option R) (X1 : V309_0 → Option R) (c0 : C309_0) (rec : V309_0 → Option R) (v0 : V309_0) : Option R := if (decide (v0 < (c0.1.length : Int))) = true then if 0 ≤ v0 then ix c0.1 v0.toNat fun x1 => if 0 ≤ v0 then ix c0.2 v0.toNat fun x2 => (F336 k x1 x2).bind fun p3 => if (!p3) = true then X0 v0 x1 x2 p3 else rec (IntKind.i64.wrap (v0 + 1)) else none else none else X1 v0
noncomputable def L309_0 {R : Type} (k : Nat) (X0 : V309_0 → (Int × (List Int) × List Int) → (Int × (List Int) × List Int) → Bool → Option R) (X1 : V309_0 → Option R) (c : C309_0) : Nat → V309_0 → Option R
  | 0, _ => none
  | n + 1, v => B309_0 k X0 X1 c (L309_0 k X0 X1 c n) v
theorem b309_0 {R : Type} (k n : Nat) (K : Ex → St → Option R) (c0 : C309_0) (v : V309_0) : loopRun [0, 0, 1, 5] (run E (den E k) (lv 309) k (nthLoop Tryz.f309 0)) (n + 1) (St309_0 c0 v) K = B309_0 k (fun (v0 : V309_0) (x1 : Int × (List Int) × List Int) (x2 : Int × (List Int) × List Int) (p3 : Bool) => K .ret ⟨27, 0, [(0, .c (.l 239 s238 c0.1)), (1, .c (.l 239 s238 c0.2)), (4, .c (.v (.bool false))), (5, .c (.v (.int .i64 v0))), (11, .c (.v (.int .i64 v0))), (12, .c (.l 239 s238 c0.1)), (13, .c (.v (.int .i64 (c0.1.length : Int)))), (14, .c (.v (.bool (decide (v0 < (c0.1.length : Int)))))), (17, .c (.l 239 s238 c0.1)), (18, .c (.v (.int .i64 v0))), (19, .c (.at_ [.v (.int .i64 x1.1), .l 3 (.i .i64) x1.2.1, .l 3 (.i .i64) x1.2.2])), (20, .agg [.v (.int .i64 x1.1), .l 3 (.i .i64) x1.2.1, .l 3 (.i .i64) x1.2.2]), (21, .c (.l 239 s238 c0.2)), (22, .c (.v (.int .i64 v0))), (23, .c (.at_ [.v (.int .i64 x2.1), .l 3 (.i .i64) x2.2.1, .l 3 (.i .i64) x2.2.2])), (24, .agg [.v (.int .i64 x2.1), .l 3 (.i .i64) x2.2.1, .l 3 (.i .i64) x2.2.2]), (25, .c (.v (.bool p3))), (26, .c (.v (.bool (!p3))))], []⟩) (fun (v0 : V309_0) => K (.exit 0) ⟨27, 0, [(0, .c (.l 239 s238 c0.1)), (1, .c (.l 239 s238 c0.2)), (5, .c (.v (.int .i64 v0))), (11, .c (.v (.int .i64 v0))), (12, .c (.l 239 s238 c0.1)), (13, .c (.v (.int .i64 (c0.1.length : Int)))), (14, .c (.v (.bool (decide (v0 < (c0.1.length : Int))))))], []⟩) c0 (fun v => loopRun [0, 0, 1, 5] (run E (den E k) (lv 309) k (nthLoop Tryz.f309 0)) n (St309_0 c0 v) K) v := by kernel_rfl
theorem l309_0 {R : Type} (k : Nat) (K : Ex → St → Option R) (c0 : C309_0) : ∀ (n : Nat) (v : V309_0), loopRun [0, 0, 1, 5] (run E (den E k) (lv 309) k (nthLoop Tryz.f309 0)) n (St309_0 c0 v) K = L309_0 k (fun (v0 : V309_0) (x1 : Int × (List Int) × List Int) (x2 : Int × (List Int) × List Int) (p3 : Bool) => K .ret ⟨27, 0, [(0, .c (.l 239 s238 c0.1)), (1, .c (.l 239 s238 c0.2)), (4, .c (.v (.bool false))), (5, .c (.v (.int .i64 v0))), (11, .c (.v (.int .i64 v0))), (12, .c (.l 239 s238 c0.1)), (13, .c (.v (.int .i64 (c0.1.length : Int)))), (14, .c (.v (.bool (decide (v0 < (c0.1.length : Int)))))), (17, .c (.l 239 s238 c0.1)), (18, .c (.v (.int .i64 v0))), (19, .c (.at_ [.v (.int .i64 x1.1), .l 3 (.i .i64) x1.2.1, .l 3 (.i .i64) x1.2.2])), (20, .agg [.v (.int .i64 x1.1), .l 3 (.i .i64) x1.2.1, .l 3 (.i .i64) x1.2.2]), (21, .c (.l 239 s238 c0.2)), (22, .c (.v (.int .i64 v0))), (23, .c (.at_ [.v (.int .i64 x2.1), .l 3 (.i .i64) x2.2.1, .l 3 (.i .i64) x2.2.2])), (24, .agg [.v (.int .i64 x2.1), .l 3 (.i .i64) x2.2.1, .l 3 (.i .i64) x2.2.2]), (25, .c (.v (.bool p3))), (26, .c (.v (.bool (!p3))))], []⟩) (fun (v0 : V309_0) => K (.exit 0) ⟨27, 0, [(0, .c (.l 239 s238 c0.1)), (1, .c (.l 239 s238 c0.2)), (5, .c (.v (.int .i64 v0))), (11, .c (.v (.int .i64 v0))), (12, .c (.l 239 s238 c0.1)), (13, .c (.v (.int .i64 (c0.1.length : Int)))), (14, .c (.v (.bool (decide (v0 < (c0.1.length : Int))))))], []⟩) c0 n v := by
  intro n
  induction n with
  | zero => intro v; rfl
  | succ n ih =>
    intro v
    refine (b309_0 k n K c0 v).trans ?_
    rw [funext ih]
    kernel_rfl
theorem m309_0 (k : Nat) (a0 : List (Int × (List Int) × List Int)) (a1 : List (Int × (List Int) × List Int)) : F309 (k + 1) a0 a1 = if ((a0.length : Int) != (a1.length : Int)) = true then some false else loopRun (R := Bool) [0, 0, 1, 5] (run E (den E k) (lv 309) k (nthLoop Tryz.f309 0)) k (St309_0 (a0, a1) 0) (kontAt E (den E k) (lv 309) k (bodyOf Tryz.f309) 0 [] (finish E (rs 309) Tryz.f309 : Ex → St → Option (Bool))) := by kernel_rfl
theorem e309 (k : Nat) (a0 : List (Int × (List Int) × List Int)) (a1 : List (Int × (List Int) × List Int)) : F309 (k + 1) a0 a1 = if ((a0.length : Int) != (a1.length : Int)) = true then some false else L309_0 k (fun (v0 : Int) (x1 : Int × (List Int) × List Int) (x2 : Int × (List Int) × List Int) (p3 : Bool) => some false) (fun (v0 : Int) => some true) (a0, a1) k 0 := by
  rw [m309_0]
  simp only [l309_0]
  kernel_rfl
/-! loop.example/g00599/laws.eqPiece -/
noncomputable def F252 (k : Nat) (a0 : T259) (a1 : T259) : Option (Bool) := den E k 252 [.agg [.v (.int .i64 a0.1.1), .v (.int .i64 a0.1.2), .l 317 s150 a0.2.1, .l 239 s238 a0.2.2], .agg [.v (.int .i64 a1.1.1), .v (.int .i64 a1.1.2), .l 317 s150 a1.2.1, .l 239 s238 a1.2.2]]
theorem e252 (k : Nat) (a0 : T259) (a1 : T259) : F252 (k + 1) a0 a1 = (F107 k a0.1 a1.1).bind fun p1 => if (!p1) = true then some false else (F308 k a0.2.1 a1.2.1).bind fun p2 => if (!p2) = true then some false else (F309 k a0.2.2 a1.2.2).bind fun p3 => if (!p3) = true then some false else some true := by kernel_rfl
/-! loop.example/g00599/laws.eqPieceS -/
noncomputable def F161 (k : Nat) (a0 : List T259) (a1 : List T259) : Option (Bool) := den E k 161 [.c (.l 247 s246 a0), .c (.l 247 s246 a1)]
abbrev C161_0 : Type := (List T259) × (List T259)
abbrev V161_0 : Type := Int
def St161_0 (c0 : C161_0) (v0 : V161_0) : St := ⟨27, 0, [(0, .c (.l 247 s246 c0.1)), (1, .c (.l 247 s246 c0.2)), (5, .c (.v (.int .i64 v0)))], []⟩
noncomputable def B161_0 {R : Type} (k : Nat) (X0 : V161_0 → T259 → T259 → Bool → Option R) (X1 : V161_0 → Option R) (c0 : C161_0) (rec : V161_0 → Option R) (v0 : V161_0) : Option R := if (decide (v0 < (c0.1.length : Int))) = true then if 0 ≤ v0 then ix c0.1 v0.toNat fun x1 => if 0 ≤ v0 then ix c0.2 v0.toNat fun x2 => (F252 k x1 x2).bind fun p3 => if (!p3) = true then X0 v0 x1 x2 p3 else rec (IntKind.i64.wrap (v0 + 1)) else none else none else X1 v0
noncomputable def L161_0 {R : Type} (k : Nat) (X0 : V161_0 → T259 → T259 → Bool → Option R) (X1 : V161_0 → Option R) (c : C161_0) : Nat → V161_0 → Option R
  | 0, _ => none
  | n + 1, v => B161_0 k X0 X1 c (L161_0 k X0 X1 c n) v
theorem b161_0 {R : Type} (k n : Nat) (K : Ex → St → Option R) (c0 : C161_0) (v : V161_0) : loopRun [0, 0, 1, 5] (run E (den E k) (lv 161) k (nthLoop Tryz.f161 0)) (n + 1) (St161_0 c0 v) K = B161_0 k (fun (v0 : V161_0) (x1 : T259) (x2 : T259) (p3 : Bool) => K .ret ⟨27, 0, [(0, .c (.l 247 s246 c0.1)), (1, .c (.l 247 s246 c0.2)), (4, .c (.v (.bool false))), (5, .c (.v (.int .i64 v0))), (11, .c (.v (.int .i64 v0))), (12, .c (.l 247 s246 c0.1)), (13, .c (.v (.int .i64 (c0.1.length : Int)))), (14, .c (.v (.bool (decide (v0 < (c0.1.length : Int)))))), (17, .c (.l 247 s246 c0.1)), (18, .c (.v (.int .i64 v0))), (19, .c (.at_ [.v (.int .i64 x1.1.1), .v (.int .i64 x1.1.2), .l 317 s150 x1.2.1, .l 239 s238 x1.2.2])), (20, .agg [.v (.int .i64 x1.1.1), .v (.int .i64 x1.1.2), .l 317 s150 x1.2.1, .l 239 s238 x1.2.2]), (21, .c (.l 247 s246 c0.2)), (22, .c (.v (.int .i64 v0))), (23, .c (.at_ [.v (.int .i64 x2.1.1), .v (.int .i64 x2.1.2), .l 317 s150 x2.2.1, .l 239 s238 x2.2.2])), (24, .agg [.v (.int .i64 x2.1.1), .v (.int .i64 x2.1.2), .l 317 s150 x2.2.1, .l 239 s238 x2.2.2]), (25, .c (.v (.bool p3))), (26, .c (.v (.bool (!p3))))], []⟩) (fun (v0 : V161_0) => K (.exit 0) ⟨27, 0, [(0, .c (.l 247 s246 c0.1)), (1, .c (.l 247 s246 c0.2)), (5, .c (.v (.int .i64 v0))), (11, .c (.v (.int .i64 v0))), (12, .c (.l 247 s246 c0.1)), (13, .c (.v (.int .i64 (c0.1.length : Int)))), (14, .c (.v (.bool (decide (v0 < (c0.1.length : Int))))))], []⟩) c0 (fun v => loopRun [0, 0, 1, 5] (run E (den E k) (lv 161) k (nthLoop Tryz.f161 0)) n (St161_0 c0 v) K) v := by kernel_rfl
theorem l161_0 {R : Type} (k : Nat) (K : Ex → St → Option R) (c0 : C161_0) : ∀ (n : Nat) (v : V161_0), loopRun [0, 0, 1, 5] (run E (den E k) (lv 161) k (nthLoop Tryz.f161 0)) n (St161_0 c0 v) K = L161_0 k (fun (v0 : V161_0) (x1 : T259) (x2 : T259) (p3 : Bool) => K .ret ⟨27, 0, [(0, .c (.l 247 s246 c0.1)), (1, .c (.l 247 s246 c0.2)), (4, .c (.v (.bool false))), (5, .c (.v (.int .i64 v0))), (11, .c (.v (.int .i64 v0))), (12, .c (.l 247 s246 c0.1)), (13, .c (.v (.int .i64 (c0.1.length : Int)))), (14, .c (.v (.bool (decide (v0 < (c0.1.length : Int)))))), (17, .c (.l 247 s246 c0.1)), (18, .c (.v (.int .i64 v0))), (19, .c (.at_ [.v (.int .i64 x1.1.1), .v (.int .i64 x1.1.2), .l 317 s150 x1.2.1, .l 239 s238 x1.2.2])), (20, .agg [.v (.int .i64 x1.1.1), .v (.int .i64 x1.1.2), .l 317 s150 x1.2.1, .l 239 s238 x1.2.2]), (21, .c (.l 247 s246 c0.2)), (22, .c (.v (.int .i64 v0))), (23, .c (.at_ [.v (.int .i64 x2.1.1), .v (.int .i64 x2.1.2), .l 317 s150 x2.2.1, .l 239 s238 x2.2.2])), (24, .agg [.v (.int .i64 x2.1.1), .v (.int .i64 x2.1.2), .l 317 s150 x2.2.1, .l 239 s238 x2.2.2]), (25, .c (.v (.bool p3))), (26, .c (.v (.bool (!p3))))], []⟩) (fun (v0 : V161_0) => K (.exit 0) ⟨27, 0, [(0, .c (.l 247 s246 c0.1)), (1, .c (.l 247 s246 c0.2)), (5, .c (.v (.int .i64 v0))), (11, .c (.v (.int .i64 v0))), (12, .c (.l 247 s246 c0.1)), (13, .c (.v (.int .i64 (c0.1.length : Int)))), (14, .c (.v (.bool (decide (v0 < (c0.1.length : Int))))))], []⟩) c0 n v := by
  intro n
  induction n with
  | zero => intro v; rfl
  | succ n ih =>
    intro v
    refine (b161_0 k n K c0 v).trans ?_
    rw [funext ih]
    kernel_rfl
theorem m161_0 (k : Nat) (a0 : List T259) (a1 : List T259) : F161 (k + 1) a0 a1 = if ((a0.length : Int) != (a1.length : Int)) = true then some false else loopRun (R := Bool) [0, 0, 1, 5] (run E (den E k) (lv 161) k (nthLoop Tryz.f161 0)) k (St161_0 (a0, a1) 0) (kontAt E (den E k) (lv 161) k (bodyOf Tryz.f161) 0 [] (finish E (rs 161) Tryz.f161 : Ex → St → Option (Bool))) := by kernel_rfl
theorem e161 (k : Nat) (a0 : List T259) (a1 : List T259) : F161 (k + 1) a0 a1 = if ((a0.length : Int) != (a1.length : Int)) = true then some false else L161_0 k (fun (v0 : Int) (x1 : T259) (x2 : T259) (p3 : Bool) => some false) (fun (v0 : Int) => some true) (a0, a1) k 0 := by
  rw [m161_0]
  simp only [l161_0]
  kernel_rfl
/-! loop.example/g00599/laws.eqProgram -/
noncomputable def F73 (k : Nat) (a0 : T28) (a1 : T28) : Option (Bool) := den E k 73 [.agg [.v (.int .i64 a0.1), .v (.int .i64 a0.2.1), .v (.int .i64 a0.2.2.1), .l 247 s246 a0.2.2.2], .agg [.v (.int .i64 a1.1), .v (.int .i64 a1.2.1), .v (.int .i64 a1.2.2.1), .l 247 s246 a1.2.2.2]]
theorem e73 (k : Nat) (a0 : T28) (a1 : T28) : F73 (k + 1) a0 a1 = if (a0.1 != a1.1) = true then some false else if (a0.2.1 != a1.2.1) = true then some false else if (a0.2.2.1 != a1.2.2.1) = true then some false else (F161 k a0.2.2.2 a1.2.2.2).bind fun p1 => if (!p1) = true then some false else some true := by kernel_rfl
/-! loop.example/g00599/laws.eqLaw -/
noncomputable def F74 (k : Nat) (a0 : List Int) (a1 : List Int) : Option (Bool) := den E k 74 [.agg [.l 3 (.i .i64) a0], .agg [.l 3 (.i .i64) a1]]
theorem e74 (k : Nat) (a0 : List Int) (a1 : List Int) : F74 (k + 1) a0 a1 = (F18 k a0 a1).bind fun p1 => if (!p1) = true then some false else some true := by kernel_rfl
/-! loop.example/g00599/laws.eqBattery -/
noncomputable def F162 (k : Nat) (a0 : Int × Int × Int × Int × Int × Int) (a1 : Int × Int × Int × Int × Int × Int) : Option (Bool) := den E k 162 [.agg [.v (.int .i64 a0.1), .v (.int .i64 a0.2.1), .v (.int .i64 a0.2.2.1), .v (.int .i64 a0.2.2.2.1), .v (.int .i64 a0.2.2.2.2.1), .v (.int .i64 a0.2.2.2.2.2)], .agg [.v (.int .i64 a1.1), .v (.int .i64 a1.2.1), .v (.int .i64 a1.2.2.1), .v (.int .i64 a1.2.2.2.1), .v (.int .i64 a1.2.2.2.2.1), .v (.int .i64 a1.2.2.2.2.2)]]
theorem e162 (k : Nat) (a0 : Int × Int × Int × Int × Int × Int) (a1 : Int × Int × Int × Int × Int × Int) : F162 (k + 1) a0 a1 = if (a0.1 != a1.1) = true then some false else if (a0.2.1 != a1.2.1) = true then some false else if (a0.2.2.1 != a1.2.2.1) = true then some false else if (a0.2.2.2.1 != a1.2.2.2.1) = true then some false else if (a0.2.2.2.2.1 != a1.2.2.2.2.1) = true then some false else if (a0.2.2.2.2.2 != a1.2.2.2.2.2) = true then some false else some true := by kernel_rfl
/-! loop.example/g00599/laws.eqBatteryS -/
noncomputable def F75 (k : Nat) (a0 : List (Int × Int × Int × Int × Int × Int)) (a1 : List (Int × Int × Int × Int × Int × Int)) : Option (Bool) := den E k 75 [.c (.l 141 s140 a0), .c (.l 141 s140 a1)]
abbrev C75_0 : Type := (List (Int × Int × Int × Int × Int × Int)) × (List (Int × Int × Int × Int × Int × Int))
abbrev V75_0 : Type := Int
def St75_0 (c0 : C75_0) (v0 : V75_0) : St := ⟨27, 0, [(0, .c (.l 141 s140 c0.1)), (1, .c (.l 141 s140 c0.2)), (5, .c (.v (.int .i64 v0)))], []⟩
noncomputable def B75_0 {R : Type} (k : Nat) (X0 : V75_0 → (Int × Int × Int × Int × Int × Int) → (Int × Int × Int × Int × Int × Int) → Bool → Option R) (X1 : V75_0 → Option R) (c0 : C75_0) (rec : V75_0 → Option R) (v0 : V75_0) : Option R := if (decide (v0 < (c0.1.length : Int))) = true then if 0 ≤ v0 then ix c0.1 v0.toNat fun x1 => if 0 ≤ v0 then ix c0.2 v0.toNat fun x2 => (F162 k x1 x2).bind fun p3 => if (!p3) = true then X0 v0 x1 x2 p3 else rec (IntKind.i64.wrap (v0 + 1)) else none else none else X1 v0
noncomputable def L75_0 {R : Type} (k : Nat) (X0 : V75_0 → (Int × Int × Int × Int × Int × Int) → (Int × Int × Int × Int × Int × Int) → Bool → Option R) (X1 : V75_0 → Option R) (c : C75_0) : Nat → V75_0 → Option R
  | 0, _ => none
  | n + 1, v => B75_0 k X0 X1 c (L75_0 k X0 X1 c n) v
theorem b75_0 {R : Type} (k n : Nat) (K : Ex → St → Option R) (c0 : C75_0) (v : V75_0) : loopRun [0, 0, 1, 5] (run E (den E k) (lv 75) k (nthLoop Tryz.f75 0)) (n + 1) (St75_0 c0 v) K = B75_0 k (fun (v0 : V75_0) (x1 : Int × Int × Int × Int × Int × Int) (x2 : Int × Int × Int × Int × Int × Int) (p3 : Bool) => K .ret ⟨27, 0, [(0, .c (.l 141 s140 c0.1)), (1, .c (.l 141 s140 c0.2)), (4, .c (.v (.bool false))), (5, .c (.v (.int .i64 v0))), (11, .c (.v (.int .i64 v0))), (12, .c (.l 141 s140 c0.1)), (13, .c (.v (.int .i64 (c0.1.length : Int)))), (14, .c (.v (.bool (decide (v0 < (c0.1.length : Int)))))), (17, .c (.l 141 s140 c0.1)), (18, .c (.v (.int .i64 v0))), (19, .c (.at_ [.v (.int .i64 x1.1), .v (.int .i64 x1.2.1), .v (.int .i64 x1.2.2.1), .v (.int .i64 x1.2.2.2.1), .v (.int .i64 x1.2.2.2.2.1), .v (.int .i64 x1.2.2.2.2.2)])), (20, .agg [.v (.int .i64 x1.1), .v (.int .i64 x1.2.1), .v (.int .i64 x1.2.2.1), .v (.int .i64 x1.2.2.2.1), .v (.int .i64 x1.2.2.2.2.1), .v (.int .i64 x1.2.2.2.2.2)]), (21, .c (.l 141 s140 c0.2)), (22, .c (.v (.int .i64 v0))), (23, .c (.at_ [.v (.int .i64 x2.1), .v (.int .i64 x2.2.1), .v (.int .i64 x2.2.2.1), .v (.int .i64 x2.2.2.2.1), .v (.int .i64 x2.2.2.2.2.1), .v (.int .i64 x2.2.2.2.2.2)])), (24, .agg [.v (.int .i64 x2.1), .v (.int .i64 x2.2.1), .v (.int .i64 x2.2.2.1), .v (.int .i64 x2.2.2.2.1), .v (.int .i64 x2.2.2.2.2.1), .v (.int .i64 x2.2.2.2.2.2)]), (25, .c (.v (.bool p3))), (26, .c (.v (.bool (!p3))))], []⟩) (fun (v0 : V75_0) => K (.exit 0) ⟨27, 0, [(0, .c (.l 141 s140 c0.1)), (1, .c (.l 141 s140 c0.2)), (5, .c (.v (.int .i64 v0))), (11, .c (.v (.int .i64 v0))), (12, .c (.l 141 s140 c0.1)), (13, .c (.v (.int .i64 (c0.1.length : Int)))), (14, .c (.v (.bool (decide (v0 < (c0.1.length : Int))))))], []⟩) c0 (fun v => loopRun [0, 0, 1, 5] (run E (den E k) (lv 75) k (nthLoop Tryz.f75 0)) n (St75_0 c0 v) K) v := by kernel_rfl
theorem l75_0 {R : Type} (k : Nat) (K : Ex → St → Option R) (c0 : C75_0) : ∀ (n : Nat) (v : V75_0), loopRun [0, 0, 1, 5] (run E (den E k) (lv 75) k (nthLoop Tryz.f75 0)) n (St75_0 c0 v) K = L75_0 k (fun (v0 : V75_0) (x1 : Int × Int × Int × Int × Int × Int) (x2 : Int × Int × Int × Int × Int × Int) (p3 : Bool) => K .ret ⟨27, 0, [(0, .c (.l 141 s140 c0.1)), (1, .c (.l 141 s140 c0.2)), (4, .c (.v (.bool false))), (5, .c (.v (.int .i64 v0))), (11, .c (.v (.int .i64 v0))), (12, .c (.l 141 s140 c0.1)), (13, .c (.v (.int .i64 (c0.1.length : Int)))), (14, .c (.v (.bool (decide (v0 < (c0.1.length : Int)))))), (17, .c (.l 141 s140 c0.1)), (18, .c (.v (.int .i64 v0))), (19, .c (.at_ [.v (.int .i64 x1.1), .v (.int .i64 x1.2.1), .v (.int .i64 x1.2.2.1), .v (.int .i64 x1.2.2.2.1), .v (.int .i64 x1.2.2.2.2.1), .v (.int .i64 x1.2.2.2.2.2)])), (20, .agg [.v (.int .i64 x1.1), .v (.int .i64 x1.2.1), .v (.int .i64 x1.2.2.1), .v (.int .i64 x1.2.2.2.1), .v (.int .i64 x1.2.2.2.2.1), .v (.int .i64 x1.2.2.2.2.2)]), (21, .c (.l 141 s140 c0.2)), (22, .c (.v (.int .i64 v0))), (23, .c (.at_ [.v (.int .i64 x2.1), .v (.int .i64 x2.2.1), .v (.int .i64 x2.2.2.1), .v (.int .i64 x2.2.2.2.1), .v (.int .i64 x2.2.2.2.2.1), .v (.int .i64 x2.2.2.2.2.2)])), (24, .agg [.v (.int .i64 x2.1), .v (.int .i64 x2.2.1), .v (.int .i64 x2.2.2.1), .v (.int .i64 x2.2.2.2.1), .v (.int .i64 x2.2.2.2.2.1), .v (.int .i64 x2.2.2.2.2.2)]), (25, .c (.v (.bool p3))), (26, .c (.v (.bool (!p3))))], []⟩) (fun (v0 : V75_0) => K (.exit 0) ⟨27, 0, [(0, .c (.l 141 s140 c0.1)), (1, .c (.l 141 s140 c0.2)), (5, .c (.v (.int .i64 v0))), (11, .c (.v (.int .i64 v0))), (12, .c (.l 141 s140 c0.1)), (13, .c (.v (.int .i64 (c0.1.length : Int)))), (14, .c (.v (.bool (decide (v0 < (c0.1.length : Int))))))], []⟩) c0 n v := by
  intro n
  induction n with
  | zero => intro v; rfl
  | succ n ih =>
    intro v
    refine (b75_0 k n K c0 v).trans ?_
    rw [funext ih]
    kernel_rfl
theorem m75_0 (k : Nat) (a0 : List (Int × Int × Int × Int × Int × Int)) (a1 : List (Int × Int × Int × Int × Int × Int)) : F75 (k + 1) a0 a1 = if ((a0.length : Int) != (a1.length : Int)) = true then some false else loopRun (R := Bool) [0, 0, 1, 5] (run E (den E k) (lv 75) k (nthLoop Tryz.f75 0)) k (St75_0 (a0, a1) 0) (kontAt E (den E k) (lv 75) k (bodyOf Tryz.f75) 0 [] (finish E (rs 75) Tryz.f75 : Ex → St → Option (Bool))) := by kernel_rfl
theorem e75 (k : Nat) (a0 : List (Int × Int × Int × Int × Int × Int)) (a1 : List (Int × Int × Int × Int × Int × Int)) : F75 (k + 1) a0 a1 = if ((a0.length : Int) != (a1.length : Int)) = true then some false else L75_0 k (fun (v0 : Int) (x1 : Int × Int × Int × Int × Int × Int) (x2 : Int × Int × Int × Int × Int × Int) (p3 : Bool) => some false) (fun (v0 : Int) => some true) (a0, a1) k 0 := by
  rw [m75_0]
  simp only [l75_0]
  kernel_rfl
/-! loop.example/g00599/laws.eqPacket -/
noncomputable def F167 (k : Nat) (a0 : Int × Int × Int × Int × Int × Int) (a1 : Int × Int × Int × Int × Int × Int) : Option (Bool) := den E k 167 [.agg [.v (.int .i64 a0.1), .v (.int .i64 a0.2.1), .v (.int .i64 a0.2.2.1), .v (.int .i64 a0.2.2.2.1), .v (.int .i64 a0.2.2.2.2.1), .v (.int .i64 a0.2.2.2.2.2)], .agg [.v (.int .i64 a1.1), .v (.int .i64 a1.2.1), .v (.int .i64 a1.2.2.1), .v (.int .i64 a1.2.2.2.1), .v (.int .i64 a1.2.2.2.2.1), .v (.int .i64 a1.2.2.2.2.2)]]
theorem e167 (k : Nat) (a0 : Int × Int × Int × Int × Int × Int) (a1 : Int × Int × Int × Int × Int × Int) : F167 (k + 1) a0 a1 = if (a0.1 != a1.1) = true then some false else if (a0.2.1 != a1.2.1) = true then some false else if (a0.2.2.1 != a1.2.2.1) = true then some false else if (a0.2.2.2.1 != a1.2.2.2.1) = true then some false else if (a0.2.2.2.2.1 != a1.2.2.2.2.1) = true then some false else if (a0.2.2.2.2.2 != a1.2.2.2.2.2) = true then some false else some true := by kernel_rfl
/-! loop.example/g00599/laws.eqPacketS -/
noncomputable def F80 (k : Nat) (a0 : List (Int × Int × Int × Int × Int × Int)) (a1 : List (Int × Int × Int × Int × Int × Int)) : Option (Bool) := den E k 80 [.c (.l 155 s140 a0), .c (.l 155 s140 a1)]
abbrev C80_0 : Type := (List (Int × Int × Int × Int × Int × Int)) × (List (Int × Int × Int × Int × Int × Int))
abbrev V80_0 : Type := Int
def St80_0 (c0 : C80_0) (v0 : V80_0) : St := ⟨27, 0, [(0, .c (.l 155 s140 c0.1)), (1, .c (.l 155 s140 c0.2)), (5, .c (.v (.int .i64 v0)))], []⟩
noncomputable def B80_0 {R : Type} (k : Nat) (X0 : V80_0 → (Int × Int × Int × Int × Int × Int) → (Int × Int × Int × Int × Int × Int) → Bool → Option R) (X1 : V80_0 → Option R) (c0 : C80_0) (rec : V80_0 → Option R) (v0 : V80_0) : Option R := if (decide (v0 < (c0.1.length : Int))) = true then if 0 ≤ v0 then ix c0.1 v0.toNat fun x1 => if 0 ≤ v0 then ix c0.2 v0.toNat fun x2 => (F167 k x1 x2).bind fun p3 => if (!p3) = true then X0 v0 x1 x2 p3 else rec (IntKind.i64.wrap (v0 + 1)) else none else none else X1 v0
noncomputable def L80_0 {R : Type} (k : Nat) (X0 : V80_0 → (Int × Int × Int × Int × Int × Int) → (Int × Int × Int × Int × Int × Int) → Bool → Option R) (X1 : V80_0 → Option R) (c : C80_0) : Nat → V80_0 → Option R
  | 0, _ => none
  | n + 1, v => B80_0 k X0 X1 c (L80_0 k X0 X1 c n) v
theorem b80_0 {R : Type} (k n : Nat) (K : Ex → St → Option R) (c0 : C80_0) (v : V80_0) : loopRun [0, 0, 1, 5] (run E (den E k) (lv 80) k (nthLoop Tryz.f80 0)) (n + 1) (St80_0 c0 v) K = B80_0 k (fun (v0 : V80_0) (x1 : Int × Int × Int × Int × Int × Int) (x2 : Int × Int × Int × Int × Int × Int) (p3 : Bool) => K .ret ⟨27, 0, [(0, .c (.l 155 s140 c0.1)), (1, .c (.l 155 s140 c0.2)), (4, .c (.v (.bool false))), (5, .c (.v (.int .i64 v0))), (11, .c (.v (.int .i64 v0))), (12, .c (.l 155 s140 c0.1)), (13, .c (.v (.int .i64 (c0.1.length : Int)))), (14, .c (.v (.bool (decide (v0 < (c0.1.length : Int)))))), (17, .c (.l 155 s140 c0.1)), (18, .c (.v (.int .i64 v0))), (19, .c (.at_ [.v (.int .i64 x1.1), .v (.int .i64 x1.2.1), .v (.int .i64 x1.2.2.1), .v (.int .i64 x1.2.2.2.1), .v (.int .i64 x1.2.2.2.2.1), .v (.int .i64 x1.2.2.2.2.2)])), (20, .agg [.v (.int .i64 x1.1), .v (.int .i64 x1.2.1), .v (.int .i64 x1.2.2.1), .v (.int .i64 x1.2.2.2.1), .v (.int .i64 x1.2.2.2.2.1), .v (.int .i64 x1.2.2.2.2.2)]), (21, .c (.l 155 s140 c0.2)), (22, .c (.v (.int .i64 v0))), (23, .c (.at_ [.v (.int .i64 x2.1), .v (.int .i64 x2.2.1), .v (.int .i64 x2.2.2.1), .v (.int .i64 x2.2.2.2.1), .v (.int .i64 x2.2.2.2.2.1), .v (.int .i64 x2.2.2.2.2.2)])), (24, .agg [.v (.int .i64 x2.1), .v (.int .i64 x2.2.1), .v (.int .i64 x2.2.2.1), .v (.int .i64 x2.2.2.2.1), .v (.int .i64 x2.2.2.2.2.1), .v (.int .i64 x2.2.2.2.2.2)]), (25, .c (.v (.bool p3))), (26, .c (.v (.bool (!p3))))], []⟩) (fun (v0 : V80_0) => K (.exit 0) ⟨27, 0, [(0, .c (.l 155 s140 c0.1)), (1, .c (.l 155 s140 c0.2)), (5, .c (.v (.int .i64 v0))), (11, .c (.v (.int .i64 v0))), (12, .c (.l 155 s140 c0.1)), (13, .c (.v (.int .i64 (c0.1.length : Int)))), (14, .c (.v (.bool (decide (v0 < (c0.1.length : Int))))))], []⟩) c0 (fun v => loopRun [0, 0, 1, 5] (run E (den E k) (lv 80) k (nthLoop Tryz.f80 0)) n (St80_0 c0 v) K) v := by kernel_rfl
theorem l80_0 {R : Type} (k : Nat) (K : Ex → St → Option R) (c0 : C80_0) : ∀ (n : Nat) (v : V80_0), loopRun [0, 0, 1, 5] (run E (den E k) (lv 80) k (nthLoop Tryz.f80 0)) n (St80_0 c0 v) K = L80_0 k (fun (v0 : V80_0) (x1 : Int × Int × Int × Int × Int × Int) (x2 : Int × Int × Int × Int × Int × Int) (p3 : Bool) => K .ret ⟨27, 0, [(0, .c (.l 155 s140 c0.1)), (1, .c (.l 155 s140 c0.2)), (4, .c (.v (.bool false))), (5, .c (.v (.int .i64 v0))), (11, .c (.v (.int .i64 v0))), (12, .c (.l 155 s140 c0.1)), (13, .c (.v (.int .i64 (c0.1.length : Int)))), (14, .c (.v (.bool (decide (v0 < (c0.1.length : Int)))))), (17, .c (.l 155 s140 c0.1)), (18, .c (.v (.int .i64 v0))), (19, .c (.at_ [.v (.int .i64 x1.1), .v (.int .i64 x1.2.1), .v (.int .i64 x1.2.2.1), .v (.int .i64 x1.2.2.2.1), .v (.int .i64 x1.2.2.2.2.1), .v (.int .i64 x1.2.2.2.2.2)])), (20, .agg [.v (.int .i64 x1.1), .v (.int .i64 x1.2.1), .v (.int .i64 x1.2.2.1), .v (.int .i64 x1.2.2.2.1), .v (.int .i64 x1.2.2.2.2.1), .v (.int .i64 x1.2.2.2.2.2)]), (21, .c (.l 155 s140 c0.2)), (22, .c (.v (.int .i64 v0))), (23, .c (.at_ [.v (.int .i64 x2.1), .v (.int .i64 x2.2.1), .v (.int .i64 x2.2.2.1), .v (.int .i64 x2.2.2.2.1), .v (.int .i64 x2.2.2.2.2.1), .v (.int .i64 x2.2.2.2.2.2)])), (24, .agg [.v (.int .i64 x2.1), .v (.int .i64 x2.2.1), .v (.int .i64 x2.2.2.1), .v (.int .i64 x2.2.2.2.1), .v (.int .i64 x2.2.2.2.2.1), .v (.int .i64 x2.2.2.2.2.2)]), (25, .c (.v (.bool p3))), (26, .c (.v (.bool (!p3))))], []⟩) (fun (v0 : V80_0) => K (.exit 0) ⟨27, 0, [(0, .c (.l 155 s140 c0.1)), (1, .c (.l 155 s140 c0.2)), (5, .c (.v (.int .i64 v0))), (11, .c (.v (.int .i64 v0))), (12, .c (.l 155 s140 c0.1)), (13, .c (.v (.int .i64 (c0.1.length : Int)))), (14, .c (.v (.bool (decide (v0 < (c0.1.length : Int))))))], []⟩) c0 n v := by
  intro n
  induction n with
  | zero => intro v; rfl
  | succ n ih =>
    intro v
    refine (b80_0 k n K c0 v).trans ?_
    rw [funext ih]
    kernel_rfl
theorem m80_0 (k : Nat) (a0 : List (Int × Int × Int × Int × Int × Int)) (a1 : List (Int × Int × Int × Int × Int × Int)) : F80 (k + 1) a0 a1 = if ((a0.length : Int) != (a1.length : Int)) = true then some false else loopRun (R := Bool) [0, 0, 1, 5] (run E (den E k) (lv 80) k (nthLoop Tryz.f80 0)) k (St80_0 (a0, a1) 0) (kontAt E (den E k) (lv 80) k (bodyOf Tryz.f80) 0 [] (finish E (rs 80) Tryz.f80 : Ex → St → Option (Bool))) := by kernel_rfl
theorem e80 (k : Nat) (a0 : List (Int × Int × Int × Int × Int × Int)) (a1 : List (Int × Int × Int × Int × Int × Int)) : F80 (k + 1) a0 a1 = if ((a0.length : Int) != (a1.length : Int)) = true then some false else L80_0 k (fun (v0 : Int) (x1 : Int × Int × Int × Int × Int × Int) (x2 : Int × Int × Int × Int × Int × Int) (p3 : Bool) => some false) (fun (v0 : Int) => some true) (a0, a1) k 0 := by
  rw [m80_0]
  simp only [l80_0]
  kernel_rfl
/-! loop.example/g00599/laws.eqQueue -/
noncomputable def F163 (k : Nat) (a0 : List (Int × Int × Int × Int × Int × Int)) (a1 : List (Int × Int × Int × Int × Int × Int)) : Option (Bool) := den E k 163 [.agg [.l 155 s140 a0], .agg [.l 155 s140 a1]]
theorem e163 (k : Nat) (a0 : List (Int × Int × Int × Int × Int × Int)) (a1 : List (Int × Int × Int × Int × Int × Int)) : F163 (k + 1) a0 a1 = (F80 k a0 a1).bind fun p1 => if (!p1) = true then some false else some true := by kernel_rfl
/-! loop.example/g00599/laws.eqQueueS -/
noncomputable def F76 (k : Nat) (a0 : List (List (Int × Int × Int × Int × Int × Int))) (a1 : List (List (Int × Int × Int × Int × Int × Int))) : Option (Bool) := den E k 76 [.c (.l 158 s157 a0), .c (.l 158 s157 a1)]
abbrev C76_0 : Type := (List (List (Int × Int × Int × Int × Int × Int))) × (List (List (Int × Int × Int × Int × Int × Int)))
abbrev V76_0 : Type := Int
def St76_0 (c0 : C76_0) (v0 : V76_0) : St := ⟨27, 0, [(0, .c (.l 158 s157 c0.1)), (1, .c (.l 158 s157 c0.2)), (5, .c (.v (.int .i64 v0)))], []⟩
noncomputable def B76_0 {R : Type} (k : Nat) (X0 : V76_0 → (List (Int × Int × Int × Int × Int × Int)) → (List (Int × Int × Int × Int × Int × Int)) → Bool → Option R) (X1 : V76_0 → Option R) (c0 : C76_0) (rec : V76_0 → Option R) (v0 : V76_0) : Option R := if (decide (v0 < (c0.1.length : Int))) = true then if 0 ≤ v0 then ix c0.1 v0.toNat fun x1 => if 0 ≤ v0 then ix c0.2 v0.toNat fun x2 => (F163 k x1 x2).bind fun p3 => if (!p3) = true then X0 v0 x1 x2 p3 else rec (IntKind.i64.wrap (v0 + 1)) else none else none else X1 v0
noncomputable def L76_0 {R : Type} (k : Nat) (X0 : V76_0 → (List (Int × Int × Int × Int × Int × Int)) → (List (Int × Int × Int × Int × Int × Int)) → Bool → Option R) (X1 : V76_0 → Option R) (c : C76_0) : Nat → V76_0 → Option R
  | 0, _ => none
  | n + 1, v => B76_0 k X0 X1 c (L76_0 k X0 X1 c n) v
theorem b76_0 {R : Type} (k n : Nat) (K : Ex → St → Option R) (c0 : C76_0) (v : V76_0) : loopRun [0, 0, 1, 5] (run E (den E k) (lv 76) k (nthLoop Tryz.f76 0)) (n + 1) (St76_0 c0 v) K = B76_0 k (fun (v0 : V76_0) (x1 : List (Int × Int × Int × Int × Int × Int)) (x2 : List (Int × Int × Int × Int × Int × Int)) (p3 : Bool) => K .ret ⟨27, 0, [(0, .c (.l 158 s157 c0.1)), (1, .c (.l 158 s157 c0.2)), (4, .c (.v (.bool false))), (5, .c (.v (.int .i64 v0))), (11, .c (.v (.int .i64 v0))), (12, .c (.l 158 s157 c0.1)), (13, .c (.v (.int .i64 (c0.1.length : Int)))), (14, .c (.v (.bool (decide (v0 < (c0.1.length : Int)))))), (17, .c (.l 158 s157 c0.1)), (18, .c (.v (.int .i64 v0))), (19, .c (.at_ [.l 155 s140 x1])), (20, .agg [.l 155 s140 x1]), (21, .c (.l 158 s157 c0.2)), (22, .c (.v (.int .i64 v0))), (23, .c (.at_ [.l 155 s140 x2])), (24, .agg [.l 155 s140 x2]), (25, .c (.v (.bool p3))), (26, .c (.v (.bool (!p3))))], []⟩) (fun (v0 : V76_0) => K (.exit 0) ⟨27, 0, [(0, .c (.l 158 s157 c0.1)), (1, .c (.l 158 s157 c0.2)), (5, .c (.v (.int .i64 v0))), (11, .c (.v (.int .i64 v0))), (12, .c (.l 158 s157 c0.1)), (13, .c (.v (.int .i64 (c0.1.length : Int)))), (14, .c (.v (.bool (decide (v0 < (c0.1.length : Int))))))], []⟩) c0 (fun v => loopRun [0, 0, 1, 5] (run E (den E k) (lv 76) k (nthLoop Tryz.f76 0)) n (St76_0 c0 v) K) v := by kernel_rfl
theorem l76_0 {R : Type} (k : Nat) (K : Ex → St → Option R) (c0 : C76_0) : ∀ (n : Nat) (v : V76_0), loopRun [0, 0, 1, 5] (run E (den E k) (lv 76) k (nthLoop Tryz.f76 0)) n (St76_0 c0 v) K = L76_0 k (fun (v0 : V76_0) (x1 : List (Int × Int × Int × Int × Int × Int)) (x2 : List (Int × Int × Int × Int × Int × Int)) (p3 : Bool) => K .ret ⟨27, 0, [(0, .c (.l 158 s157 c0.1)), (1, .c (.l 158 s157 c0.2)), (4, .c (.v (.bool false))), (5, .c (.v (.int .i64 v0))), (11, .c (.v (.int .i64 v0))), (12, .c (.l 158 s157 c0.1)), (13, .c (.v (.int .i64 (c0.1.length : Int)))), (14, .c (.v (.bool (decide (v0 < (c0.1.length : Int)))))), (17, .c (.l 158 s157 c0.1)), (18, .c (.v (.int .i64 v0))), (19, .c (.at_ [.l 155 s140 x1])), (20, .agg [.l 155 s140 x1]), (21, .c (.l 158 s157 c0.2)), (22, .c (.v (.int .i64 v0))), (23, .c (.at_ [.l 155 s140 x2])), (24, .agg [.l 155 s140 x2]), (25, .c (.v (.bool p3))), (26, .c (.v (.bool (!p3))))], []⟩) (fun (v0 : V76_0) => K (.exit 0) ⟨27, 0, [(0, .c (.l 158 s157 c0.1)), (1, .c (.l 158 s157 c0.2)), (5, .c (.v (.int .i64 v0))), (11, .c (.v (.int .i64 v0))), (12, .c (.l 158 s157 c0.1)), (13, .c (.v (.int .i64 (c0.1.length : Int)))), (14, .c (.v (.bool (decide (v0 < (c0.1.length : Int))))))], []⟩) c0 n v := by
  intro n
  induction n with
  | zero => intro v; rfl
  | succ n ih =>
    intro v
    refine (b76_0 k n K c0 v).trans ?_
    rw [funext ih]
    kernel_rfl
theorem m76_0 (k : Nat) (a0 : List (List (Int × Int × Int × Int × Int × Int))) (a1 : List (List (Int × Int × Int × Int × Int × Int))) : F76 (k + 1) a0 a1 = if ((a0.length : Int) != (a1.length : Int)) = true then some false else loopRun (R := Bool) [0, 0, 1, 5] (run E (den E k) (lv 76) k (nthLoop Tryz.f76 0)) k (St76_0 (a0, a1) 0) (kontAt E (den E k) (lv 76) k (bodyOf Tryz.f76) 0 [] (finish E (rs 76) Tryz.f76 : Ex → St → Option (Bool))) := by kernel_rfl
theorem e76 (k : Nat) (a0 : List (List (Int × Int × Int × Int × Int × Int))) (a1 : List (List (Int × Int × Int × Int × Int × Int))) : F76 (k + 1) a0 a1 = if ((a0.length : Int) != (a1.length : Int)) = true then some false else L76_0 k (fun (v0 : Int) (x1 : List (Int × Int × Int × Int × Int × Int)) (x2 : List (Int × Int × Int × Int × Int × Int)) (p3 : Bool) => some false) (fun (v0 : Int) => some true) (a0, a1) k 0 := by
  rw [m76_0]
  simp only [l76_0]
  kernel_rfl
/-! loop.example/g00599/laws.eqFlow -/
noncomputable def F164 (k : Nat) (a0 : Int × Int × Int × Int) (a1 : Int × Int × Int × Int) : Option (Bool) := den E k 164 [.agg [.v (.int .i64 a0.1), .v (.int .i64 a0.2.1), .v (.int .i64 a0.2.2.1), .v (.int .i64 a0.2.2.2)], .agg [.v (.int .i64 a1.1), .v (.int .i64 a1.2.1), .v (.int .i64 a1.2.2.1), .v (.int .i64 a1.2.2.2)]]
theorem e164 (k : Nat) (a0 : Int × Int × Int × Int) (a1 : Int × Int × Int × Int) : F164 (k + 1) a0 a1 = if (a0.1 != a1.1) = true then some false else if (a0.2.1 != a1.2.1) = true then some false else if (a0.2.2.1 != a1.2.2.1) = true then some false else if (a0.2.2.2 != a1.2.2.2) = true then some false else some true := by kernel_rfl
/-! loop.example/g00599/laws.eqFlowS -/
noncomputable def F77 (k : Nat) (a0 : List (Int × Int × Int × Int)) (a1 : List (Int × Int × Int × Int)) : Option (Bool) := den E k 77 [.c (.l 86 s75 a0), .c (.l 86 s75 a1)]
abbrev C77_0 : Type := (List (Int × Int × Int × Int)) × (List (Int × Int × Int × Int))
abbrev V77_0 : Type := Int
def St77_0 (c0 : C77_0) (v0 : V77_0) : St := ⟨27, 0, [(0, .c (.l 86 s75 c0.1)), (1, .c (.l 86 s75 c0.2)), (5, .c (.v (.int .i64 v0)))], []⟩
noncomputable def B77_0 {R : Type} (k : Nat) (X0 : V77_0 → (Int × Int × Int × Int) → (Int × Int × Int × Int) → Bool → Option R) (X1 : V77_0 → Option R) (c0 : C77_0) (rec : V77_0 → Option R) (v0 : V77_0) : Option R := if (decide (v0 < (c0.1.length : Int))) = true then if 0 ≤ v0 then ix c0.1 v0.toNat fun x1 => if 0 ≤ v0 then ix c0.2 v0.toNat fun x2 => (F164 k x1 x2).bind fun p3 => if (!p3) = true then X0 v0 x1 x2 p3 else rec (IntKind.i64.wrap (v0 + 1)) else none else none else X1 v0
noncomputable def L77_0 {R : Type} (k : Nat) (X0 : V77_0 → (Int × Int × Int × Int) → (Int × Int × Int × Int) → Bool → Option R) (X1 : V77_0 → Option R) (c : C77_0) : Nat → V77_0 → Option R
  | 0, _ => none
  | n + 1, v => B77_0 k X0 X1 c (L77_0 k X0 X1 c n) v
theorem b77_0 {R : Type} (k n : Nat) (K : Ex → St → Option R) (c0 : C77_0) (v : V77_0) : loopRun [0, 0, 1, 5] (run E (den E k) (lv 77) k (nthLoop Tryz.f77 0)) (n + 1) (St77_0 c0 v) K = B77_0 k (fun (v0 : V77_0) (x1 : Int × Int × Int × Int) (x2 : Int × Int × Int × Int) (p3 : Bool) => K .ret ⟨27, 0, [(0, .c (.l 86 s75 c0.1)), (1, .c (.l 86 s75 c0.2)), (4, .c (.v (.bool false))), (5, .c (.v (.int .i64 v0))), (11, .c (.v (.int .i64 v0))), (12, .c (.l 86 s75 c0.1)), (13, .c (.v (.int .i64 (c0.1.length : Int)))), (14, .c (.v (.bool (decide (v0 < (c0.1.length : Int)))))), (17, .c (.l 86 s75 c0.1)), (18, .c (.v (.int .i64 v0))), (19, .c (.at_ [.v (.int .i64 x1.1), .v (.int .i64 x1.2.1), .v (.int .i64 x1.2.2.1), .v (.int .i64 x1.2.2.2)])), (20, .agg [.v (.int .i64 x1.1), .v (.int .i64 x1.2.1), .v (.int .i64 x1.2.2.1), .v (.int .i64 x1.2.2.2)]), (21, .c (.l 86 s75 c0.2)), (22, .c (.v (.int .i64 v0))), (23, .c (.at_ [.v (.int .i64 x2.1), .v (.int .i64 x2.2.1), .v (.int .i64 x2.2.2.1), .v (.int .i64 x2.2.2.2)])), (24, .agg [.v (.int .i64 x2.1), .v (.int .i64 x2.2.1), .v (.int .i64 x2.2.2.1), .v (.int .i64 x2.2.2.2)]), (25, .c (.v (.bool p3))), (26, .c (.v (.bool (!p3))))], []⟩) (fun (v0 : V77_0) => K (.exit 0) ⟨27, 0, [(0, .c (.l 86 s75 c0.1)), (1, .c (.l 86 s75 c0.2)), (5, .c (.v (.int .i64 v0))), (11, .c (.v (.int .i64 v0))), (12, .c (.l 86 s75 c0.1)), (13, .c (.v (.int .i64 (c0.1.length : Int)))), (14, .c (.v (.bool (decide (v0 < (c0.1.length : Int))))))], []⟩) c0 (fun v => loopRun [0, 0, 1, 5] (run E (den E k) (lv 77) k (nthLoop Tryz.f77 0)) n (St77_0 c0 v) K) v := by kernel_rfl
theorem l77_0 {R : Type} (k : Nat) (K : Ex → St → Option R) (c0 : C77_0) : ∀ (n : Nat) (v : V77_0), loopRun [0, 0, 1, 5] (run E (den E k) (lv 77) k (nthLoop Tryz.f77 0)) n (St77_0 c0 v) K = L77_0 k (fun (v0 : V77_0) (x1 : Int × Int × Int × Int) (x2 : Int × Int × Int × Int) (p3 : Bool) => K .ret ⟨27, 0, [(0, .c (.l 86 s75 c0.1)), (1, .c (.l 86 s75 c0.2)), (4, .c (.v (.bool false))), (5, .c (.v (.int .i64 v0))), (11, .c (.v (.int .i64 v0))), (12, .c (.l 86 s75 c0.1)), (13, .c (.v (.int .i64 (c0.1.length : Int)))), (14, .c (.v (.bool (decide (v0 < (c0.1.length : Int)))))), (17, .c (.l 86 s75 c0.1)), (18, .c (.v (.int .i64 v0))), (19, .c (.at_ [.v (.int .i64 x1.1), .v (.int .i64 x1.2.1), .v (.int .i64 x1.2.2.1), .v (.int .i64 x1.2.2.2)])), (20, .agg [.v (.int .i64 x1.1), .v (.int .i64 x1.2.1), .v (.int .i64 x1.2.2.1), .v (.int .i64 x1.2.2.2)]), (21, .c (.l 86 s75 c0.2)), (22, .c (.v (.int .i64 v0))), (23, .c (.at_ [.v (.int .i64 x2.1), .v (.int .i64 x2.2.1), .v (.int .i64 x2.2.2.1), .v (.int .i64 x2.2.2.2)])), (24, .agg [.v (.int .i64 x2.1), .v (.int .i64 x2.2.1), .v (.int .i64 x2.2.2.1), .v (.int .i64 x2.2.2.2)]), (25, .c (.v (.bool p3))), (26, .c (.v (.bool (!p3))))], []⟩) (fun (v0 : V77_0) => K (.exit 0) ⟨27, 0, [(0, .c (.l 86 s75 c0.1)), (1, .c (.l 86 s75 c0.2)), (5, .c (.v (.int .i64 v0))), (11, .c (.v (.int .i64 v0))), (12, .c (.l 86 s75 c0.1)), (13, .c (.v (.int .i64 (c0.1.length : Int)))), (14, .c (.v (.bool (decide (v0 < (c0.1.length : Int))))))], []⟩) c0 n v := by
  intro n
  induction n with
  | zero => intro v; rfl
  | succ n ih =>
    intro v
    refine (b77_0 k n K c0 v).trans ?_
    rw [funext ih]
    kernel_rfl
theorem m77_0 (k : Nat) (a0 : List (Int × Int × Int × Int)) (a1 : List (Int × Int × Int × Int)) : F77 (k + 1) a0 a1 = if ((a0.length : Int) != (a1.length : Int)) = true then some false else loopRun (R := Bool) [0, 0, 1, 5] (run E (den E k) (lv 77) k (nthLoop Tryz.f77 0)) k (St77_0 (a0, a1) 0) (kontAt E (den E k) (lv 77) k (bodyOf Tryz.f77) 0 [] (finish E (rs 77) Tryz.f77 : Ex → St → Option (Bool))) := by kernel_rfl
theorem e77 (k : Nat) (a0 : List (Int × Int × Int × Int)) (a1 : List (Int × Int × Int × Int)) : F77 (k + 1) a0 a1 = if ((a0.length : Int) != (a1.length : Int)) = true then some false else L77_0 k (fun (v0 : Int) (x1 : Int × Int × Int × Int) (x2 : Int × Int × Int × Int) (p3 : Bool) => some false) (fun (v0 : Int) => some true) (a0, a1) k 0 := by
  rw [m77_0]
  simp only [l77_0]
  kernel_rfl
/-! loop.example/g00599/laws.eqStream -/
noncomputable def F165 (k : Nat) (a0 : Int × Int × List Int) (a1 : Int × Int × List Int) : Option (Bool) := den E k 165 [.agg [.v (.int .i64 a0.1), .v (.int .i64 a0.2.1), .l 3 (.i .i64) a0.2.2], .agg [.v (.int .i64 a1.1), .v (.int .i64 a1.2.1), .l 3 (.i .i64) a1.2.2]]
theorem e165 (k : Nat) (a0 : Int × Int × List Int) (a1 : Int × Int × List Int) : F165 (k + 1) a0 a1 = if (a0.1 != a1.1) = true then some false else if (a0.2.1 != a1.2.1) = true then some false else (F18 k a0.2.2 a1.2.2).bind fun p1 => if (!p1) = true then some false else some true := by kernel_rfl
/-! loop.example/g00599/laws.eqStreamS -/
noncomputable def F78 (k : Nat) (a0 : List (Int × Int × List Int)) (a1 : List (Int × Int × List Int)) : Option (Bool) := den E k 78 [.c (.l 166 s165 a0), .c (.l 166 s165 a1)]
abbrev C78_0 : Type := (List (Int × Int × List Int)) × (List (Int × Int × List Int))
abbrev V78_0 : Type := Int
def St78_0 (c0 : C78_0) (v0 : V78_0) : St := ⟨27, 0, [(0, .c (.l 166 s165 c0.1)), (1, .c (.l 166 s165 c0.2)), (5, .c (.v (.int .i64 v0)))], []⟩
noncomputable def B78_0 {R : Type} (k : Nat) (X0 : V78_0 → (Int × Int × List Int) → (Int × Int × List Int) → Bool → Option R) (X1 : V78_0 → Option R) (c0 : C78_0) (rec : V78_0 → Option R) (v0 : V78_0) : Option R := if (decide (v0 < (c0.1.length : Int))) = true then if 0 ≤ v0 then ix c0.1 v0.toNat fun x1 => if 0 ≤ v0 then ix c0.2 v0.toNat fun x2 => (F165 k x1 x2).bind fun p3 => if (!p3) = true then X0 v0 x1 x2 p3 else rec (IntKind.i64.wrap (v0 + 1)) else none else none else X1 v0
noncomputable def L78_0 {R : Type} (k : Nat) (X0 : V78_0 → (Int × Int × List Int) → (Int × Int × List Int) → Bool → Option R) (X1 : V78_0 → Option R) (c : C78_0) : Nat → V78_0 → Option R
  | 0, _ => none
  | n + 1, v => B78_0 k X0 X1 c (L78_0 k X0 X1 c n) v
theorem b78_0 {R : Type} (k n : Nat) (K : Ex → St → Option R) (c0 : C78_0) (v : V78_0) : loopRun [0, 0, 1, 5] (run E (den E k) (lv 78) k (nthLoop Tryz.f78 0)) (n + 1) (St78_0 c0 v) K = B78_0 k (fun (v0 : V78_0) (x1 : Int × Int × List Int) (x2 : Int × Int × List Int) (p3 : Bool) => K .ret ⟨27, 0, [(0, .c (.l 166 s165 c0.1)), (1, .c (.l 166 s165 c0.2)), (4, .c (.v (.bool false))), (5, .c (.v (.int .i64 v0))), (11, .c (.v (.int .i64 v0))), (12, .c (.l 166 s165 c0.1)), (13, .c (.v (.int .i64 (c0.1.length : Int)))), (14, .c (.v (.bool (decide (v0 < (c0.1.length : Int)))))), (17, .c (.l 166 s165 c0.1)), (18, .c (.v (.int .i64 v0))), (19, .c (.at_ [.v (.int .i64 x1.1), .v (.int .i64 x1.2.1), .l 3 (.i .i64) x1.2.2])), (20, .agg [.v (.int .i64 x1.1), .v (.int .i64 x1.2.1), .l 3 (.i .i64) x1.2.2]), (21, .c (.l 166 s165 c0.2)), (22, .c (.v (.int .i64 v0))), (23, .c (.at_ [.v (.int .i64 x2.1), .v (.int .i64 x2.2.1), .l 3 (.i .i64) x2.2.2])), (24, .agg [.v (.int .i64 x2.1), .v (.int .i64 x2.2.1), .l 3 (.i .i64) x2.2.2]), (25, .c (.v (.bool p3))), (26, .c (.v (.bool (!p3))))], []⟩) (fun (v0 : V78_0) => K (.exit 0) ⟨27, 0, [(0, .c (.l 166 s165 c0.1)), (1, .c (.l 166 s165 c0.2)), (5, .c (.v (.int .i64 v0))), (11, .c (.v (.int .i64 v0))), (12, .c (.l 166 s165 c0.1)), (13, .c (.v (.int .i64 (c0.1.length : Int)))), (14, .c (.v (.bool (decide (v0 < (c0.1.length : Int))))))], []⟩) c0 (fun v => loopRun [0, 0, 1, 5] (run E (den E k) (lv 78) k (nthLoop Tryz.f78 0)) n (St78_0 c0 v) K) v := by kernel_rfl
theorem l78_0 {R : Type} (k : Nat) (K : Ex → St → Option R) (c0 : C78_0) : ∀ (n : Nat) (v : V78_0), loopRun [0, 0, 1, 5] (run E (den E k) (lv 78) k (nthLoop Tryz.f78 0)) n (St78_0 c0 v) K = L78_0 k (fun (v0 : V78_0) (x1 : Int × Int × List Int) (x2 : Int × Int × List Int) (p3 : Bool) => K .ret ⟨27, 0, [(0, .c (.l 166 s165 c0.1)), (1, .c (.l 166 s165 c0.2)), (4, .c (.v (.bool false))), (5, .c (.v (.int .i64 v0))), (11, .c (.v (.int .i64 v0))), (12, .c (.l 166 s165 c0.1)), (13, .c (.v (.int .i64 (c0.1.length : Int)))), (14, .c (.v (.bool (decide (v0 < (c0.1.length : Int)))))), (17, .c (.l 166 s165 c0.1)), (18, .c (.v (.int .i64 v0))), (19, .c (.at_ [.v (.int .i64 x1.1), .v (.int .i64 x1.2.1), .l 3 (.i .i64) x1.2.2])), (20, .agg [.v (.int .i64 x1.1), .v (.int .i64 x1.2.1), .l 3 (.i .i64) x1.2.2]), (21, .c (.l 166 s165 c0.2)), (22, .c (.v (.int .i64 v0))), (23, .c (.at_ [.v (.int .i64 x2.1), .v (.int .i64 x2.2.1), .l 3 (.i .i64) x2.2.2])), (24, .agg [.v (.int .i64 x2.1), .v (.int .i64 x2.2.1), .l 3 (.i .i64) x2.2.2]), (25, .c (.v (.bool p3))), (26, .c (.v (.bool (!p3))))], []⟩) (fun (v0 : V78_0) => K (.exit 0) ⟨27, 0, [(0, .c (.l 166 s165 c0.1)), (1, .c (.l 166 s165 c0.2)), (5, .c (.v (.int .i64 v0))), (11, .c (.v (.int .i64 v0))), (12, .c (.l 166 s165 c0.1)), (13, .c (.v (.int .i64 (c0.1.length : Int)))), (14, .c (.v (.bool (decide (v0 < (c0.1.length : Int))))))], []⟩) c0 n v := by
  intro n
  induction n with
  | zero => intro v; rfl
  | succ n ih =>
    intro v
    refine (b78_0 k n K c0 v).trans ?_
    rw [funext ih]
    kernel_rfl
theorem m78_0 (k : Nat) (a0 : List (Int × Int × List Int)) (a1 : List (Int × Int × List Int)) : F78 (k + 1) a0 a1 = if ((a0.length : Int) != (a1.length : Int)) = true then some false else loopRun (R := Bool) [0, 0, 1, 5] (run E (den E k) (lv 78) k (nthLoop Tryz.f78 0)) k (St78_0 (a0, a1) 0) (kontAt E (den E k) (lv 78) k (bodyOf Tryz.f78) 0 [] (finish E (rs 78) Tryz.f78 : Ex → St → Option (Bool))) := by kernel_rfl
theorem e78 (k : Nat) (a0 : List (Int × Int × List Int)) (a1 : List (Int × Int × List Int)) : F78 (k + 1) a0 a1 = if ((a0.length : Int) != (a1.length : Int)) = true then some false else L78_0 k (fun (v0 : Int) (x1 : Int × Int × List Int) (x2 : Int × Int × List Int) (p3 : Bool) => some false) (fun (v0 : Int) => some true) (a0, a1) k 0 := by
  rw [m78_0]
  simp only [l78_0]
  kernel_rfl
/-! loop.example/g00599/laws.eqFault -/
noncomputable def F166 (k : Nat) (a0 : Int × Int × Int × Int) (a1 : Int × Int × Int × Int) : Option (Bool) := den E k 166 [.agg [.v (.int .i64 a0.1), .v (.int .i64 a0.2.1), .v (.int .i64 a0.2.2.1), .v (.int .i64 a0.2.2.2)], .agg [.v (.int .i64 a1.1), .v (.int .i64 a1.2.1), .v (.int .i64 a1.2.2.1), .v (.int .i64 a1.2.2.2)]]
theorem e166 (k : Nat) (a0 : Int × Int × Int × Int) (a1 : Int × Int × Int × Int) : F166 (k + 1) a0 a1 = if (a0.1 != a1.1) = true then some false else if (a0.2.1 != a1.2.1) = true then some false else if (a0.2.2.1 != a1.2.2.1) = true then some false else if (a0.2.2.2 != a1.2.2.2) = true then some false else some true := by kernel_rfl
/-! loop.example/g00599/laws.eqFaultS -/
noncomputable def F79 (k : Nat) (a0 : List (Int × Int × Int × Int)) (a1 : List (Int × Int × Int × Int)) : Option (Bool) := den E k 79 [.c (.l 79 s75 a0), .c (.l 79 s75 a1)]
abbrev C79_0 : Type := (List (Int × Int × Int × Int)) × (List (Int × Int × Int × Int))
abbrev V79_0 : Type := Int
def St79_0 (c0 : C79_0) (v0 : V79_0) : St := ⟨27, 0, [(0, .c (.l 79 s75 c0.1)), (1, .c (.l 79 s75 c0.2)), (5, .c (.v (.int .i64 v0)))], []⟩
noncomputable def B79_0 {R : Type} (k : Nat) (X0 : V79_0 → (Int × Int × Int × Int) → (Int × Int × Int × Int) → Bool → Option R) (X1 : V79_0 → Option R) (c0 : C79_0) (rec : V79_0 → Option R) (v0 : V79_0) : Option R := if (decide (v0 < (c0.1.length : Int))) = true then if 0 ≤ v0 then ix c0.1 v0.toNat fun x1 => if 0 ≤ v0 then ix c0.2 v0.toNat fun x2 => (F166 k x1 x2).bind fun p3 => if (!p3) = true then X0 v0 x1 x2 p3 else rec (IntKind.i64.wrap (v0 + 1)) else none else none else X1 v0
noncomputable def L79_0 {R : Type} (k : Nat) (X0 : V79_0 → (Int × Int × Int × Int) → (Int × Int × Int × Int) → Bool → Option R) (X1 : V79_0 → Option R) (c : C79_0) : Nat → V79_0 → Option R
  | 0, _ => none
  | n + 1, v => B79_0 k X0 X1 c (L79_0 k X0 X1 c n) v
theorem b79_0 {R : Type} (k n : Nat) (K : Ex → St → Option R) (c0 : C79_0) (v : V79_0) : loopRun [0, 0, 1, 5] (run E (den E k) (lv 79) k (nthLoop Tryz.f79 0)) (n + 1) (St79_0 c0 v) K = B79_0 k (fun (v0 : V79_0) (x1 : Int × Int × Int × Int) (x2 : Int × Int × Int × Int) (p3 : Bool) => K .ret ⟨27, 0, [(0, .c (.l 79 s75 c0.1)), (1, .c (.l 79 s75 c0.2)), (4, .c (.v (.bool false))), (5, .c (.v (.int .i64 v0))), (11, .c (.v (.int .i64 v0))), (12, .c (.l 79 s75 c0.1)), (13, .c (.v (.int .i64 (c0.1.length : Int)))), (14, .c (.v (.bool (decide (v0 < (c0.1.length : Int)))))), (17, .c (.l 79 s75 c0.1)), (18, .c (.v (.int .i64 v0))), (19, .c (.at_ [.v (.int .i64 x1.1), .v (.int .i64 x1.2.1), .v (.int .i64 x1.2.2.1), .v (.int .i64 x1.2.2.2)])), (20, .agg [.v (.int .i64 x1.1), .v (.int .i64 x1.2.1), .v (.int .i64 x1.2.2.1), .v (.int .i64 x1.2.2.2)]), (21, .c (.l 79 s75 c0.2)), (22, .c (.v (.int .i64 v0))), (23, .c (.at_ [.v (.int .i64 x2.1), .v (.int .i64 x2.2.1), .v (.int .i64 x2.2.2.1), .v (.int .i64 x2.2.2.2)])), (24, .agg [.v (.int .i64 x2.1), .v (.int .i64 x2.2.1), .v (.int .i64 x2.2.2.1), .v (.int .i64 x2.2.2.2)]), (25, .c (.v (.bool p3))), (26, .c (.v (.bool (!p3))))], []⟩) (fun (v0 : V79_0) => K (.exit 0) ⟨27, 0, [(0, .c (.l 79 s75 c0.1)), (1, .c (.l 79 s75 c0.2)), (5, .c (.v (.int .i64 v0))), (11, .c (.v (.int .i64 v0))), (12, .c (.l 79 s75 c0.1)), (13, .c (.v (.int .i64 (c0.1.length : Int)))), (14, .c (.v (.bool (decide (v0 < (c0.1.length : Int))))))], []⟩) c0 (fun v => loopRun [0, 0, 1, 5] (run E (den E k) (lv 79) k (nthLoop Tryz.f79 0)) n (St79_0 c0 v) K) v := by kernel_rfl
theorem l79_0 {R : Type} (k : Nat) (K : Ex → St → Option R) (c0 : C79_0) : ∀ (n : Nat) (v : V79_0), loopRun [0, 0, 1, 5] (run E (den E k) (lv 79) k (nthLoop Tryz.f79 0)) n (St79_0 c0 v) K = L79_0 k (fun (v0 : V79_0) (x1 : Int × Int × Int × Int) (x2 : Int × Int × Int × Int) (p3 : Bool) => K .ret ⟨27, 0, [(0, .c (.l 79 s75 c0.1)), (1, .c (.l 79 s75 c0.2)), (4, .c (.v (.bool false))), (5, .c (.v (.int .i64 v0))), (11, .c (.v (.int .i64 v0))), (12, .c (.l 79 s75 c0.1)), (13, .c (.v (.int .i64 (c0.1.length : Int)))), (14, .c (.v (.bool (decide (v0 < (c0.1.length : Int)))))), (17, .c (.l 79 s75 c0.1)), (18, .c (.v (.int .i64 v0))), (19, .c (.at_ [.v (.int .i64 x1.1), .v (.int .i64 x1.2.1), .v (.int .i64 x1.2.2.1), .v (.int .i64 x1.2.2.2)])), (20, .agg [.v (.int .i64 x1.1), .v (.int .i64 x1.2.1), .v (.int .i64 x1.2.2.1), .v (.int .i64 x1.2.2.2)]), (21, .c (.l 79 s75 c0.2)), (22, .c (.v (.int .i64 v0))), (23, .c (.at_ [.v (.int .i64 x2.1), .v (.int .i64 x2.2.1), .v (.int .i64 x2.2.2.1), .v (.int .i64 x2.2.2.2)])), (24, .agg [.v (.int .i64 x2.1), .v (.int .i64 x2.2.1), .v (.int .i64 x2.2.2.1), .v (.int .i64 x2.2.2.2)]), (25, .c (.v (.bool p3))), (26, .c (.v (.bool (!p3))))], []⟩) (fun (v0 : V79_0) => K (.exit 0) ⟨27, 0, [(0, .c (.l 79 s75 c0.1)), (1, .c (.l 79 s75 c0.2)), (5, .c (.v (.int .i64 v0))), (11, .c (.v (.int .i64 v0))), (12, .c (.l 79 s75 c0.1)), (13, .c (.v (.int .i64 (c0.1.length : Int)))), (14, .c (.v (.bool (decide (v0 < (c0.1.length : Int))))))], []⟩) c0 n v := by
  intro n
  induction n with
  | zero => intro v; rfl
  | succ n ih =>
    intro v
    refine (b79_0 k n K c0 v).trans ?_
    rw [funext ih]
    kernel_rfl
theorem m79_0 (k : Nat) (a0 : List (Int × Int × Int × Int)) (a1 : List (Int × Int × Int × Int)) : F79 (k + 1) a0 a1 = if ((a0.length : Int) != (a1.length : Int)) = true then some false else loopRun (R := Bool) [0, 0, 1, 5] (run E (den E k) (lv 79) k (nthLoop Tryz.f79 0)) k (St79_0 (a0, a1) 0) (kontAt E (den E k) (lv 79) k (bodyOf Tryz.f79) 0 [] (finish E (rs 79) Tryz.f79 : Ex → St → Option (Bool))) := by kernel_rfl
theorem e79 (k : Nat) (a0 : List (Int × Int × Int × Int)) (a1 : List (Int × Int × Int × Int)) : F79 (k + 1) a0 a1 = if ((a0.length : Int) != (a1.length : Int)) = true then some false else L79_0 k (fun (v0 : Int) (x1 : Int × Int × Int × Int) (x2 : Int × Int × Int × Int) (p3 : Bool) => some false) (fun (v0 : Int) => some true) (a0, a1) k 0 := by
  rw [m79_0]
  simp only [l79_0]
  kernel_rfl
/-! loop.example/g00599/laws.eqSent -/
noncomputable def F168 (k : Nat) (a0 : Int × Int × Int × Int) (a1 : Int × Int × Int × Int) : Option (Bool) := den E k 168 [.agg [.v (.int .i64 a0.1), .v (.int .i64 a0.2.1), .v (.int .i64 a0.2.2.1), .v (.int .i64 a0.2.2.2)], .agg [.v (.int .i64 a1.1), .v (.int .i64 a1.2.1), .v (.int .i64 a1.2.2.1), .v (.int .i64 a1.2.2.2)]]
theorem e168 (k : Nat) (a0 : Int × Int × Int × Int) (a1 : Int × Int × Int × Int) : F168 (k + 1) a0 a1 = if (a0.1 != a1.1) = true then some false else if (a0.2.1 != a1.2.1) = true then some false else if (a0.2.2.1 != a1.2.2.1) = true then some false else if (a0.2.2.2 != a1.2.2.2) = true then some false else some true := by kernel_rfl
/-! loop.example/g00599/laws.eqSentS -/
noncomputable def F81 (k : Nat) (a0 : List (Int × Int × Int × Int)) (a1 : List (Int × Int × Int × Int)) : Option (Bool) := den E k 81 [.c (.l 94 s75 a0), .c (.l 94 s75 a1)]
abbrev C81_0 : Type := (List (Int × Int × Int × Int)) × (List (Int × Int × Int × Int))
abbrev V81_0 : Type := Int
def St81_0 (c0 : C81_0) (v0 : V81_0) : St := ⟨27, 0, [(0, .c (.l 94 s75 c0.1)), (1, .c (.l 94 s75 c0.2)), (5, .c (.v (.int .i64 v0)))], []⟩
noncomputable def B81_0 {R : Type} (k : Nat) (X0 : V81_0 → (Int × Int × Int × Int) → (Int × Int × Int × Int) → Bool → Option R) (X1 : V81_0 → Option R) (c0 : C81_0) (rec : V81_0 → Option R) (v0 : V81_0) : Option R := if (decide (v0 < (c0.1.length : Int))) = true then if 0 ≤ v0 then ix c0.1 v0.toNat fun x1 => if 0 ≤ v0 then ix c0.2 v0.toNat fun x2 => (F168 k x1 x2).bind fun p3 => if (!p3) = true then X0 v0 x1 x2 p3 else rec (IntKind.i64.wrap (v0 + 1)) else none else none else X1 v0
noncomputable def L81_0 {R : Type} (k : Nat) (X0 : V81_0 → (Int × Int × Int × Int) → (Int × Int × Int × Int) → Bool → Option R) (X1 : V81_0 → Option R) (c : C81_0) : Nat → V81_0 → Option R
  | 0, _ => none
  | n + 1, v => B81_0 k X0 X1 c (L81_0 k X0 X1 c n) v
theorem b81_0 {R : Type} (k n : Nat) (K : Ex → St → Option R) (c0 : C81_0) (v : V81_0) : loopRun [0, 0, 1, 5] (run E (den E k) (lv 81) k (nthLoop Tryz.f81 0)) (n + 1) (St81_0 c0 v) K = B81_0 k (fun (v0 : V81_0) (x1 : Int × Int × Int × Int) (x2 : Int × Int × Int × Int) (p3 : Bool) => K .ret ⟨27, 0, [(0, .c (.l 94 s75 c0.1)), (1, .c (.l 94 s75 c0.2)), (4, .c (.v (.bool false))), (5, .c (.v (.int .i64 v0))), (11, .c (.v (.int .i64 v0))), (12, .c (.l 94 s75 c0.1)), (13, .c (.v (.int .i64 (c0.1.length : Int)))), (14, .c (.v (.bool (decide (v0 < (c0.1.length : Int)))))), (17, .c (.l 94 s75 c0.1)), (18, .c (.v (.int .i64 v0))), (19, .c (.at_ [.v (.int .i64 x1.1), .v (.int .i64 x1.2.1), .v (.int .i64 x1.2.2.1), .v (.int .i64 x1.2.2.2)])), (20, .agg [.v (.int .i64 x1.1), .v (.int .i64 x1.2.1), .v (.int .i64 x1.2.2.1), .v (.int .i64 x1.2.2.2)]), (21, .c (.l 94 s75 c0.2)), (22, .c (.v (.int .i64 v0))), (23, .c (.at_ [.v (.int .i64 x2.1), .v (.int .i64 x2.2.1), .v (.int .i64 x2.2.2.1), .v (.int .i64 x2.2.2.2)])), (24, .agg [.v (.int .i64 x2.1), .v (.int .i64 x2.2.1), .v (.int .i64 x2.2.2.1), .v (.int .i64 x2.2.2.2)]), (25, .c (.v (.bool p3))), (26, .c (.v (.bool (!p3))))], []⟩) (fun (v0 : V81_0) => K (.exit 0) ⟨27, 0, [(0, .c (.l 94 s75 c0.1)), (1, .c (.l 94 s75 c0.2)), (5, .c (.v (.int .i64 v0))), (11, .c (.v (.int .i64 v0))), (12, .c (.l 94 s75 c0.1)), (13, .c (.v (.int .i64 (c0.1.length : Int)))), (14, .c (.v (.bool (decide (v0 < (c0.1.length : Int))))))], []⟩) c0 (fun v => loopRun [0, 0, 1, 5] (run E (den E k) (lv 81) k (nthLoop Tryz.f81 0)) n (St81_0 c0 v) K) v := by kernel_rfl
theorem l81_0 {R : Type} (k : Nat) (K : Ex → St → Option R) (c0 : C81_0) : ∀ (n : Nat) (v : V81_0), loopRun [0, 0, 1, 5] (run E (den E k) (lv 81) k (nthLoop Tryz.f81 0)) n (St81_0 c0 v) K = L81_0 k (fun (v0 : V81_0) (x1 : Int × Int × Int × Int) (x2 : Int × Int × Int × Int) (p3 : Bool) => K .ret ⟨27, 0, [(0, .c (.l 94 s75 c0.1)), (1, .c (.l 94 s75 c0.2)), (4, .c (.v (.bool false))), (5, .c (.v (.int .i64 v0))), (11, .c (.v (.int .i64 v0))), (12, .c (.l 94 s75 c0.1)), (13, .c (.v (.int .i64 (c0.1.length : Int)))), (14, .c (.v (.bool (decide (v0 < (c0.1.length : Int)))))), (17, .c (.l 94 s75 c0.1)), (18, .c (.v (.int .i64 v0))), (19, .c (.at_ [.v (.int .i64 x1.1), .v (.int .i64 x1.2.1), .v (.int .i64 x1.2.2.1), .v (.int .i64 x1.2.2.2)])), (20, .agg [.v (.int .i64 x1.1), .v (.int .i64 x1.2.1), .v (.int .i64 x1.2.2.1), .v (.int .i64 x1.2.2.2)]), (21, .c (.l 94 s75 c0.2)), (22, .c (.v (.int .i64 v0))), (23, .c (.at_ [.v (.int .i64 x2.1), .v (.int .i64 x2.2.1), .v (.int .i64 x2.2.2.1), .v (.int .i64 x2.2.2.2)])), (24, .agg [.v (.int .i64 x2.1), .v (.int .i64 x2.2.1), .v (.int .i64 x2.2.2.1), .v (.int .i64 x2.2.2.2)]), (25, .c (.v (.bool p3))), (26, .c (.v (.bool (!p3))))], []⟩) (fun (v0 : V81_0) => K (.exit 0) ⟨27, 0, [(0, .c (.l 94 s75 c0.1)), (1, .c (.l 94 s75 c0.2)), (5, .c (.v (.int .i64 v0))), (11, .c (.v (.int .i64 v0))), (12, .c (.l 94 s75 c0.1)), (13, .c (.v (.int .i64 (c0.1.length : Int)))), (14, .c (.v (.bool (decide (v0 < (c0.1.length : Int))))))], []⟩) c0 n v := by
  intro n
  induction n with
  | zero => intro v; rfl
  | succ n ih =>
    intro v
    refine (b81_0 k n K c0 v).trans ?_
    rw [funext ih]
    kernel_rfl
theorem m81_0 (k : Nat) (a0 : List (Int × Int × Int × Int)) (a1 : List (Int × Int × Int × Int)) : F81 (k + 1) a0 a1 = if ((a0.length : Int) != (a1.length : Int)) = true then some false else loopRun (R := Bool) [0, 0, 1, 5] (run E (den E k) (lv 81) k (nthLoop Tryz.f81 0)) k (St81_0 (a0, a1) 0) (kontAt E (den E k) (lv 81) k (bodyOf Tryz.f81) 0 [] (finish E (rs 81) Tryz.f81 : Ex → St → Option (Bool))) := by kernel_rfl
theorem e81 (k : Nat) (a0 : List (Int × Int × Int × Int)) (a1 : List (Int × Int × Int × Int)) : F81 (k + 1) a0 a1 = if ((a0.length : Int) != (a1.length : Int)) = true then some false else L81_0 k (fun (v0 : Int) (x1 : Int × Int × Int × Int) (x2 : Int × Int × Int × Int) (p3 : Bool) => some false) (fun (v0 : Int) => some true) (a0, a1) k 0 := by
  rw [m81_0]
  simp only [l81_0]
  kernel_rfl
/-! loop.example/g00599/laws.eqWorld -/
noncomputable def F19 (k : Nat) (a0 : T40) (a1 : T40) : Option (Bool) := den E k 19 [.agg [.v (.int .i64 a0.1.1), .l 262 s75 a0.1.2.1, .l 266 s265 a0.1.2.2.1, .v (.int .i64 a0.1.2.2.2.1), .v (.int .i64 a0.1.2.2.2.2.1), .v (.int .i64 a0.1.2.2.2.2.2.1), .v (.int .i64 a0.1.2.2.2.2.2.2.1), .v (.int .i64 a0.1.2.2.2.2.2.2.2.1), .l 272 s271 a0.1.2.2.2.2.2.2.2.2.1, .v (.int .i64 a0.1.2.2.2.2.2.2.2.2.2), .v (.int .i64 a0.2.1.1), .v (.int .i64 a0.2.1.2.1), .v (.int .i64 a0.2.1.2.2.1), .l 247 s246 a0.2.1.2.2.2, .l 3 (.i .i64) a0.2.2.1, .l 3 (.i .i64) a0.2.2.2.1, .l 141 s140 a0.2.2.2.2.1, .l 158 s157 a0.2.2.2.2.2.1, .l 86 s75 a0.2.2.2.2.2.2.1, .l 3 (.i .i64) a0.2.2.2.2.2.2.2.1, .l 166 s165 a0.2.2.2.2.2.2.2.2.1, .l 79 s75 a0.2.2.2.2.2.2.2.2.2.1, .v (.int .i64 a0.2.2.2.2.2.2.2.2.2.2.1), .v (.int .i64 a0.2.2.2.2.2.2.2.2.2.2.2.1), .l 155 s140 a0.2.2.2.2.2.2.2.2.2.2.2.2.1, .l 94 s75 a0.2.2.2.2.2.2.2.2.2.2.2.2.2], .agg [.v (.int .i64 a1.1.1), .l 262 s75 a1.1.2.1, .l 266 s265 a1.1.2.2.1, .v (.int .i64 a1.1.2.2.2.1), .v (.int .i64 a1.1.2.2.2.2.1), .v (.int .i64 a1.1.2.2.2.2.2.1), .v (.int .i64 a1.1.2.2.2.2.2.2.1), .v (.int .i64 a1.1.2.2.2.2.2.2.2.1), .l 272 s271 a1.1.2.2.2.2.2.2.2.2.1, .v (.int .i64 a1.1.2.2.2.2.2.2.2.2.2), .v (.int .i64 a1.2.1.1), .v (.int .i64 a1.2.1.2.1), .v (.int .i64 a1.2.1.2.2.1), .l 247 s246 a1.2.1.2.2.2, .l 3 (.i .i64) a1.2.2.1, .l 3 (.i .i64) a1.2.2.2.1, .l 141 s140 a1.2.2.2.2.1, .l 158 s157 a1.2.2.2.2.2.1, .l 86 s75 a1.2.2.2.2.2.2.1, .l 3 (.i .i64) a1.2.2.2.2.2.2.2.1, .l 166 s165 a1.2.2.2.2.2.2.2.2.1, .l 79 s75 a1.2.2.2.2.2.2.2.2.2.1, .v (.int .i64 a1.2.2.2.2.2.2.2.2.2.2.1), .v (.int .i64 a1.2.2.2.2.2.2.2.2.2.2.2.1), .l 155 s140 a1.2.2.2.2.2.2.2.2.2.2.2.2.1, .l 94 s75 a1.2.2.2.2.2.2.2.2.2.2.2.2.2]]
theorem e19 (k : Nat) (a0 : T40) (a1 : T40) : F19 (k + 1) a0 a1 = (F72 k a0.1 a1.1).bind fun p1 => if (!p1) = true then some false else (F73 k a0.2.1 a1.2.1).bind fun p2 => if (!p2) = true then some false else (F74 k a0.2.2.1 a1.2.2.1).bind fun p3 => if (!p3) = true then some false else (F18 k a0.2.2.2.1 a1.2.2.2.1).bind fun p4 => if (!p4) = true then some false else (F75 k a0.2.2.2.2.1 a1.2.2.2.2.1).bind fun p5 => if (!p5) = true then some false else (F76 k a0.2.2.2.2.2.1 a1.2.2.2.2.2.1).bind fun p6 => if (!p6) = true then some false else (F77 k a0.2.2.2.2.2.2.1 a1.2.2.2.2.2.2.1).bind fun p7 => if (!p7) = true then some false else (F18 k a0.2.2.2.2.2.2.2.1 a1.2.2.2.2.2.2.2.1).bind fun p8 => if (!p8) = true then some false else (F78 k a0.2.2.2.2.2.2.2.2.1 a1.2.2.2.2.2.2.2.2.1).bind fun p9 => if (!p9) = true then some false else (F79 k a0.2.2.2.2.2.2.2.2.2.1 a1.2.2.2.2.2.2.2.2.2.1).bind fun p10 => if (!p10) = true then some false else if (a0.2.2.2.2.2.2.2.2.2.2.1 != a1.2.2.2.2.2.2.2.2.2.2.1) = true then some false else if (a0.2.2.2.2.2.2.2.2.2.2.2.1 != a1.2.2.2.2.2.2.2.2.2.2.2.1) = true then some false else (F80 k a0.2.2.2.2.2.2.2.2.2.2.2.2.1 a1.2.2.2.2.2.2.2.2.2.2.2.2.1).bind fun p11 => if (!p11) = true then some false else (F81 k a0.2.2.2.2.2.2.2.2.2.2.2.2.2 a1.2.2.2.2.2.2.2.2.2.2.2.2.2).bind fun p12 => if (!p12) = true then some false else some true := by kernel_rfl
/-! loop.example/g00599/spec.Max -/
noncomputable def F175 (k : Nat) (a0 : Int) (a1 : Int) : Option (Int) := den E k 175 [.c (.v (.int .i64 a0)), .c (.v (.int .i64 a1))]
theorem e175 (k : Nat) (a0 : Int) (a1 : Int) : F175 (k + 1) a0 a1 = if (decide (a1 > a0)) = true then some a1 else some a0 := by kernel_rfl
/-! loop.example/g00599/spec.Min -/
noncomputable def F98 (k : Nat) (a0 : Int) (a1 : Int) : Option (Int) := den E k 98 [.c (.v (.int .i64 a0)), .c (.v (.int .i64 a1))]
theorem e98 (k : Nat) (a0 : Int) (a1 : Int) : F98 (k + 1) a0 a1 = if (decide (a1 < a0)) = true then some a1 else some a0 := by kernel_rfl
/-! loop.example/g00599/spec.l8Ticks -/
noncomputable def F188 (k : Nat) (a0 : Int) (a1 : Int) : Option (Int × Int) := den E k 188 [.c (.v (.int .i64 a0)), .c (.v (.int .i64 a1))]
theorem e188 (k : Nat) (a0 : Int) (a1 : Int) : F188 (k + 1) a0 a1 = (F175 k 0 a0).bind fun p1 => (F98 k 1000 p1).bind fun p2 => (F98 k 1000 a1).bind fun p3 => (F175 k 0 p3).bind fun p4 => some (p2, p4) := by kernel_rfl
/-! loop.example/g00599/spec.l1In -/
noncomputable def F92 (k : Nat) (a0 : Int) (a1 : Int) (a2 : Int) : Option (Bool) := den E k 92 [.c (.v (.int .i64 a0)), .c (.v (.int .i64 a1)), .c (.v (.int .i64 a2))]
theorem e92 (k : Nat) (a0 : Int) (a1 : Int) (a2 : Int) : F92 (k + 1) a0 a1 a2 = if ((decide (a0 ≥ a1)) == true) = true then some (decide (a0 ≤ a2)) else some false := by kernel_rfl
/-! loop.example/g00599/spec.Mod -/
noncomputable def F340 (k : Nat) (a0 : Int) (a1 : Int) : Option (Int) := den E k 340 [.c (.v (.int .i64 a0)), .c (.v (.int .i64 a1))]
theorem e340 (k : Nat) (a0 : Int) (a1 : Int) : F340 (k + 1) a0 a1 = (F92 k a1 1 1000000000000).bind fun p1 => if (!p1) = true then some 0 else if a1 = 0 then none else if a1 = 0 then none else some (((IntKind.i64.wrap (((a0).tmod a1) + a1))).tmod a1) := by kernel_rfl
/-! loop.example/g00599/spec.AngleOf -/
noncomputable def F314 (k : Nat) (a0 : Int) : Option (Int) := den E k 314 [.c (.v (.int .i64 a0))]
theorem e314 (k : Nat) (a0 : Int) : F314 (k + 1) a0 = (F340 k a0 360).bind fun p1 => some p1 := by kernel_rfl
/-! loop.example/g00599/spec.l6Speed -/
noncomputable def F339 (k : Nat) (a0 : Int) : Option (Int) := den E k 339 [.c (.v (.int .i64 a0))]
theorem e339 (k : Nat) (a0 : Int) : F339 (k + 1) a0 = (F92 k a0 (-60) 60).bind fun p1 => if p1 = true then some a0 else some 0 := by kernel_rfl
/-! loop.example/g00599/spec.PlaceAt -/
noncomputable def F313 (k : Nat) (a0 : Int × Int × Int × Int) (a1 : Int) : Option (Int) := den E k 313 [.agg [.v (.int .i64 a0.1), .v (.int .i64 a0.2.1), .v (.int .i64 a0.2.2.1), .v (.int .i64 a0.2.2.2)], .c (.v (.int .i64 a1))]
theorem e313 (k : Nat) (a0 : Int × Int × Int × Int) (a1 : Int) : F313 (k + 1) a0 a1 = (F92 k a1 0 1000).bind fun p1 => if (!p1) = true then (F314 k a0.2.1).bind fun p2 => (F339 k a0.2.2.1).bind fun p3 => (F314 k (IntKind.i64.wrap (p2 + (IntKind.i64.wrap (p3 * 0))))).bind fun p4 => some p4 else (F314 k a0.2.1).bind fun p5 => (F339 k a0.2.2.1).bind fun p6 => (F314 k (IntKind.i64.wrap (p5 + (IntKind.i64.wrap (p6 * a1))))).bind fun p7 => some p7 := by kernel_rfl
/-! loop.example/g00599/spec.WidenArc -/
noncomputable def F337 (k : Nat) (a0 : Int × Int) (a1 : Int) : Option (Int × Int) := den E k 337 [.agg [.v (.int .i64 a0.1), .v (.int .i64 a0.2)], .c (.v (.int .i64 a1))]
theorem e337 (k : Nat) (a0 : Int × Int) (a1 : Int) : F337 (k + 1) a0 a1 = (F92 k a1 0 360).bind fun p1 => if ((!p1) == false) = true then (F92 k a0.2 0 359).bind fun p2 => if (!p2) = true then (F314 k a0.1).bind fun p3 => some (p3, a0.2) else (F314 k a0.1).bind fun p4 => (F314 k (IntKind.i64.wrap (p4 - a1))).bind fun p5 => (F98 k 359 (IntKind.i64.wrap (a0.2 + (IntKind.i64.wrap (2 * a1))))).bind fun p6 => some (p5, p6) else (F314 k a0.1).bind fun p7 => some (p7, a0.2) := by kernel_rfl
/-! loop.example/g00599/spec.PlacesAt -/
noncomputable def F311 (k : Nat) (a0 : Int × Int × Int × Int) (a1 : Int) : Option (Int × Int) := den E k 311 [.agg [.v (.int .i64 a0.1), .v (.int .i64 a0.2.1), .v (.int .i64 a0.2.2.1), .v (.int .i64 a0.2.2.2)], .c (.v (.int .i64 a1))]
theorem e311 (k : Nat) (a0 : Int × Int × Int × Int) (a1 : Int) : F311 (k + 1) a0 a1 = (F313 k a0 a1).bind fun p1 => (F337 k (p1, 0) a0.2.2.2).bind fun p2 => some p2 := by kernel_rfl
/-! loop.example/g00599/spec.NodesOf -/
noncomputable def F338 (k : Nat) (a0 : T25) : Option (Int) := den E k 338 [.agg [.v (.int .i64 a0.1), .l 262 s75 a0.2.1, .l 266 s265 a0.2.2.1, .v (.int .i64 a0.2.2.2.1), .v (.int .i64 a0.2.2.2.2.1), .v (.int .i64 a0.2.2.2.2.2.1), .v (.int .i64 a0.2.2.2.2.2.2.1), .v (.int .i64 a0.2.2.2.2.2.2.2.1), .l 272 s271 a0.2.2.2.2.2.2.2.2.1, .v (.int .i64 a0.2.2.2.2.2.2.2.2.2)]]
theorem e338 (k : Nat) (a0 : T25) : F338 (k + 1) a0 = some (IntKind.i64.wrap ((a0.2.1.length : Int) + (a0.2.2.1.length : Int))) := by kernel_rfl
/-! loop.example/g00599/spec.IsSite -/
noncomputable def F312 (k : Nat) (a0 : T25) (a1 : Int) : Option (Bool) := den E k 312 [.agg [.v (.int .i64 a0.1), .l 262 s75 a0.2.1, .l 266 s265 a0.2.2.1, .v (.int .i64 a0.2.2.2.1), .v (.int .i64 a0.2.2.2.2.1), .v (.int .i64 a0.2.2.2.2.2.1), .v (.int .i64 a0.2.2.2.2.2.2.1), .v (.int .i64 a0.2.2.2.2.2.2.2.1), .l 272 s271 a0.2.2.2.2.2.2.2.2.1, .v (.int .i64 a0.2.2.2.2.2.2.2.2.2)], .c (.v (.int .i64 a1))]
theorem e312 (k : Nat) (a0 : T25) (a1 : Int) : F312 (k + 1) a0 a1 = (F338 k a0).bind fun p1 => (F92 k a1 (a0.2.1.length : Int) (IntKind.i64.wrap (p1 - 1))).bind fun p2 => some p2 := by kernel_rfl
/-! loop.example/g00599/spec.NodeAt -/
noncomputable def F260 (k : Nat) (a0 : T25) (a1 : Int) (a2 : Int) : Option (Int × Int) := den E k 260 [.agg [.v (.int .i64 a0.1), .l 262 s75 a0.2.1, .l 266 s265 a0.2.2.1, .v (.int .i64 a0.2.2.2.1), .v (.int .i64 a0.2.2.2.2.1), .v (.int .i64 a0.2.2.2.2.2.1), .v (.int .i64 a0.2.2.2.2.2.2.1), .v (.int .i64 a0.2.2.2.2.2.2.2.1), .l 272 s271 a0.2.2.2.2.2.2.2.2.1, .v (.int .i64 a0.2.2.2.2.2.2.2.2.2)], .c (.v (.int .i64 a1)), .c (.v (.int .i64 a2))]
theorem e260 (k : Nat) (a0 : T25) (a1 : Int) (a2 : Int) : F260 (k + 1) a0 a1 a2 = (F92 k a1 0 (IntKind.i64.wrap ((a0.2.1.length : Int) - 1))).bind fun p1 => if p1 = true then if 0 ≤ a1 then ix a0.2.1 a1.toNat fun x2 => (F311 k x2 a2).bind fun p3 => some p3 else none else (F312 k a0 a1).bind fun p4 => if (!p4) = true then some (0, 0) else if 0 ≤ (IntKind.i64.wrap (a1 - (a0.2.1.length : Int))) then ix a0.2.2.1 ((IntKind.i64.wrap (a1 - (a0.2.1.length : Int))).toNat) fun x5 => (F313 k (0, x5.2.1, x5.2.2, 0) a2).bind fun p6 => some (p6, 0) else none := by kernel_rfl
/-! loop.example/g00599/spec.GapOf -/
noncomputable def F261 (k : Nat) (a0 : Int) (a1 : Int) : Option (Int) := den E k 261 [.c (.v (.int .i64 a0)), .c (.v (.int .i64 a1))]
theorem e261 (k : Nat) (a0 : Int) (a1 : Int) : F261 (k + 1) a0 a1 = (F314 k a0).bind fun p1 => (F314 k a1).bind fun p2 => (F314 k (IntKind.i64.wrap (p1 - p2))).bind fun p3 => (F98 k p3 (IntKind.i64.wrap (360 - p3))).bind fun p4 => some p4 := by kernel_rfl
/-! loop.example/g00599/spec.MiddleOf -/
noncomputable def F262 (k : Nat) (a0 : Int × Int) : Option (Int) := den E k 262 [.agg [.v (.int .i64 a0.1), .v (.int .i64 a0.2)]]
theorem e262 (k : Nat) (a0 : Int × Int) : F262 (k + 1) a0 = (F92 k a0.2 0 359).bind fun p1 => if (!p1) = true then (F314 k a0.1).bind fun p2 => some p2 else (F314 k a0.1).bind fun p3 => (F314 k (IntKind.i64.wrap (p3 + (IntKind.i64.wrap ((a0.2).tdiv 2))))).bind fun p4 => some p4 := by kernel_rfl
/-! loop.example/g00599/spec.SunAt -/
noncomputable def F263 (k : Nat) (a0 : T25) (a1 : Int) : Option (Int) := den E k 263 [.agg [.v (.int .i64 a0.1), .l 262 s75 a0.2.1, .l 266 s265 a0.2.2.1, .v (.int .i64 a0.2.2.2.1), .v (.int .i64 a0.2.2.2.2.1), .v (.int .i64 a0.2.2.2.2.2.1), .v (.int .i64 a0.2.2.2.2.2.2.1), .v (.int .i64 a0.2.2.2.2.2.2.2.1), .l 272 s271 a0.2.2.2.2.2.2.2.2.1, .v (.int .i64 a0.2.2.2.2.2.2.2.2.2)], .c (.v (.int .i64 a1))]
theorem e263 (k : Nat) (a0 : T25) (a1 : Int) : F263 (k + 1) a0 a1 = (F313 k (0, 0, a0.2.2.2.2.2.2.1, 0) a1).bind fun p1 => some p1 := by kernel_rfl
/-! loop.example/g00599/spec.ShadowAt -/
noncomputable def F189 (k : Nat) (a0 : T25) (a1 : Int) (a2 : Int) : Option (Int) := den E k 189 [.agg [.v (.int .i64 a0.1), .l 262 s75 a0.2.1, .l 266 s265 a0.2.2.1, .v (.int .i64 a0.2.2.2.1), .v (.int .i64 a0.2.2.2.2.1), .v (.int .i64 a0.2.2.2.2.2.1), .v (.int .i64 a0.2.2.2.2.2.2.1), .v (.int .i64 a0.2.2.2.2.2.2.2.1), .l 272 s271 a0.2.2.2.2.2.2.2.2.1, .v (.int .i64 a0.2.2.2.2.2.2.2.2.2)], .c (.v (.int .i64 a1)), .c (.v (.int .i64 a2))]
theorem e189 (k : Nat) (a0 : T25) (a1 : Int) (a2 : Int) : F189 (k + 1) a0 a1 a2 = (F92 k a1 0 (IntKind.i64.wrap ((a0.2.1.length : Int) - 1))).bind fun p1 => if (!p1) = true then some 0 else (F260 k a0 a1 a2).bind fun p2 => (F262 k p2).bind fun p3 => (F263 k a0 a2).bind fun p4 => (F261 k p3 (IntKind.i64.wrap (p4 + 180))).bind fun p5 => if (decide ((IntKind.i64.wrap (p5 - (IntKind.i64.wrap ((p2.2).tdiv 2)))) > a0.2.2.2.2.2.2.2.1)) = true then some 0 else if (decide ((IntKind.i64.wrap (p5 + (IntKind.i64.wrap ((p2.2).tdiv 2)))) ≤ a0.2.2.2.2.2.2.2.1)) = true then some 2 else some 1 := by kernel_rfl
/-! loop.example/g00599/spec.l4Put -/
noncomputable def F190 (k : Nat) (a0 : List (Int × Int)) (a1 : Int) : Option (List (Int × Int)) := den E k 190 [.c (.l 151 s150 a0), .c (.v (.int .i64 a1))]
theorem e190 (k : Nat) (a0 : List (Int × Int)) (a1 : Int) : F190 (k + 1) a0 a1 = if ((decide ((a0.length : Int) > 0)) == true) = true then if 0 ≤ (IntKind.i64.wrap ((a0.length : Int) - 1)) then if (IntKind.i64.wrap ((a0.length : Int) - 1)) < (a0.length : Int) then ix a0 ((IntKind.i64.wrap ((a0.length : Int) - 1)).toNat) fun x1 => if (x1.2 == a1) = true then if 0 ≤ (IntKind.i64.wrap ((a0.length : Int) - 1)) then if (IntKind.i64.wrap ((a0.length : Int) - 1)) < (a0.length : Int) then ix a0 ((IntKind.i64.wrap ((a0.length : Int) - 1)).toNat) fun y2 => some (a0.set ((IntKind.i64.wrap ((a0.length : Int) - 1)).toNat) (y2.1, (IntKind.i64.wrap (a1 + 1)))) else none else none else if (a0.length + ([(a1, (IntKind.i64.wrap (a1 + 1)))]).length) * 16 ≤ 140737488355328 then some (a0 ++ [(a1, (IntKind.i64.wrap (a1 + 1)))]) else none else none else none else if (a0.length + ([(a1, (IntKind.i64.wrap (a1 + 1)))]).length) * 16 ≤ 140737488355328 then some (a0 ++ [(a1, (IntKind.i64.wrap (a1 + 1)))]) else none := by kernel_rfl
/-! loop.example/g00599/spec.LitSpans -/
noncomputable def F105 (k : Nat) (a0 : T25) (a1 : Int) (a2 : Int) (a3 : Int) : Option (List (Int × Int)) := den E k 105 [.agg [.v (.int .i64 a0.1), .l 262 s75 a0.2.1, .l 266 s265 a0.2.2.1, .v (.int .i64 a0.2.2.2.1), .v (.int .i64 a0.2.2.2.2.1), .v (.int .i64 a0.2.2.2.2.2.1), .v (.int .i64 a0.2.2.2.2.2.2.1), .v (.int .i64 a0.2.2.2.2.2.2.2.1), .l 272 s271 a0.2.2.2.2.2.2.2.2.1, .v (.int .i64 a0.2.2.2.2.2.2.2.2.2)], .c (.v (.int .i64 a1)), .c (.v (.int .i64 a2)), .c (.v (.int .i64 a3))]
abbrev C105_0 : Type := Int × Int × T25
abbrev V105_0 : Type := Int × (List (Int × Int))
def St105_0 (c0 : C105_0) (v0 : V105_0) : St := ⟨35, 2, [(1, .c (.v (.int .i64 c0.1))), (4, .c (.ptr 0 0)), (9, .c (.ref 1)), (11, .c (.v (.int .i64 c0.2.1))), (12, .c (.v (.int .i64 v0.1)))], [(0, .var [.v (.int .i64 c0.2.2.1), .l 262 s75 c0.2.2.2.1, .l 266 s265 c0.2.2.2.2.1, .v (.int .i64 c0.2.2.2.2.2.1), .v (.int .i64 c0.2.2.2.2.2.2.1), .v (.int .i64 c0.2.2.2.2.2.2.2.1), .v (.int .i64 c0.2.2.2.2.2.2.2.2.1), .v (.int .i64 c0.2.2.2.2.2.2.2.2.2.1), .l 272 s271 c0.2.2.2.2.2.2.2.2.2.2.1, .v (.int .i64 c0.2.2.2.2.2.2.2.2.2.2.2)]), (1, .arr 151 s150 v0.2)]⟩
noncomputable def B105_0 {R : Type} (k : Nat) (X0 : V105_0 → Option R) (c0 : C105_0) (rec : V105_0 → Option R) (v0 : V105_0) : Option R := if (decide (v0.1 < c0.2.1)) = true then (F189 k c0.2.2 c0.1 v0.1).bind fun p2 => if (p2 == 0) = true then (F190 k v0.2 v0.1).bind fun p3 => rec ((IntKind.i64.wrap (v0.1 + 1)), p3) else rec ((IntKind.i64.wrap (v0.1 + 1)), v0.2) else X0 v0
noncomputable def L105_0 {R : Type} (k : Nat) (X0 : V105_0 → Option R) (c : C105_0) : Nat → V105_0 → Option R
  | 0, _ => none
  | n + 1, v => B105_0 k X0 c (L105_0 k X0 c n) v
theorem b105_0 {R : Type} (k n : Nat) (K : Ex → St → Option R) (c0 : C105_0) (v : V105_0) : loopRun [0, 1, 4, 9, 11, 12] (run E (den E k) (lv 105) k (nthLoop Tryz.f105 0)) (n + 1) (St105_0 c0 v) K = B105_0 k (fun (v0 : V105_0) => K (.exit 0) ⟨35, 2, [(1, .c (.v (.int .i64 c0.1))), (4, .c (.ptr 0 0)), (9, .c (.ref 1)), (11, .c (.v (.int .i64 c0.2.1))), (12, .c (.v (.int .i64 v0.1))), (21, .c (.v (.int .i64 v0.1))), (22, .c (.v (.int .i64 c0.2.1))), (23, .c (.v (.bool (decide (v0.1 < c0.2.1)))))], [(0, .var [.v (.int .i64 c0.2.2.1), .l 262 s75 c0.2.2.2.1, .l 266 s265 c0.2.2.2.2.1, .v (.int .i64 c0.2.2.2.2.2.1), .v (.int .i64 c0.2.2.2.2.2.2.1), .v (.int .i64 c0.2.2.2.2.2.2.2.1), .v (.int .i64 c0.2.2.2.2.2.2.2.2.1), .v (.int .i64 c0.2.2.2.2.2.2.2.2.2.1), .l 272 s271 c0.2.2.2.2.2.2.2.2.2.2.1, .v (.int .i64 c0.2.2.2.2.2.2.2.2.2.2.2)]), (1, .arr 151 s150 v0.2)]⟩) c0 (fun v => loopRun [0, 1, 4, 9, 11, 12] (run E (den E k) (lv 105) k (nthLoop Tryz.f105 0)) n (St105_0 c0 v) K) v := by kernel_rfl
theorem l105_0 {R : Type} (k : Nat) (K : Ex → St → Option R) (c0 : C105_0) : ∀ (n : Nat) (v : V105_0), loopRun [0, 1, 4, 9, 11, 12] (run E (den E k) (lv 105) k (nthLoop Tryz.f105 0)) n (St105_0 c0 v) K = L105_0 k (fun (v0 : V105_0) => K (.exit 0) ⟨35, 2, [(1, .c (.v (.int .i64 c0.1))), (4, .c (.ptr 0 0)), (9, .c (.ref 1)), (11, .c (.v (.int .i64 c0.2.1))), (12, .c (.v (.int .i64 v0.1))), (21, .c (.v (.int .i64 v0.1))), (22, .c (.v (.int .i64 c0.2.1))), (23, .c (.v (.bool (decide (v0.1 < c0.2.1)))))], [(0, .var [.v (.int .i64 c0.2.2.1), .l 262 s75 c0.2.2.2.1, .l 266 s265 c0.2.2.2.2.1, .v (.int .i64 c0.2.2.2.2.2.1), .v (.int .i64 c0.2.2.2.2.2.2.1), .v (.int .i64 c0.2.2.2.2.2.2.2.1), .v (.int .i64 c0.2.2.2.2.2.2.2.2.1), .v (.int .i64 c0.2.2.2.2.2.2.2.2.2.1), .l 272 s271 c0.2.2.2.2.2.2.2.2.2.2.1, .v (.int .i64 c0.2.2.2.2.2.2.2.2.2.2.2)]), (1, .arr 151 s150 v0.2)]⟩) c0 n v := by
  intro n
  induction n with
  | zero => intro v; rfl
  | succ n ih =>
    intro v
    refine (b105_0 k n K c0 v).trans ?_
    rw [funext ih]
    kernel_rfl
theorem m105_0 (k : Nat) (a0 : T25) (a1 : Int) (a2 : Int) (a3 : Int) : F105 (k + 1) a0 a1 a2 a3 = (F188 k a2 a3).bind fun p1 => loopRun (R := List (Int × Int)) [0, 1, 4, 9, 11, 12] (run E (den E k) (lv 105) k (nthLoop Tryz.f105 0)) k (St105_0 (a1, p1.2, a0) (p1.1, [])) (kontAt E (den E k) (lv 105) k (bodyOf Tryz.f105) 0 [] (finish E (rs 105) Tryz.f105 : Ex → St → Option (List (Int × Int)))) := by kernel_rfl
theorem e105 (k : Nat) (a0 : T25) (a1 : Int) (a2 : Int) (a3 : Int) : F105 (k + 1) a0 a1 a2 a3 = (F188 k a2 a3).bind fun p1 => L105_0 k (fun (v0 : Int × (List (Int × Int))) => some v0.2) (a1, p1.2, a0) k (p1.1, []) := by
  rw [m105_0]
  simp only [l105_0]
  kernel_rfl
/-! loop.example/g00599/spec.LitOf -/
noncomputable def F31 (k : Nat) (a0 : T40) (a1 : Int) : Option (List (Int × Int)) := den E k 31 [.agg [.v (.int .i64 a0.1.1), .l 262 s75 a0.1.2.1, .l 266 s265 a0.1.2.2.1, .v (.int .i64 a0.1.2.2.2.1), .v (.int .i64 a0.1.2.2.2.2.1), .v (.int .i64 a0.1.2.2.2.2.2.1), .v (.int .i64 a0.1.2.2.2.2.2.2.1), .v (.int .i64 a0.1.2.2.2.2.2.2.2.1), .l 272 s271 a0.1.2.2.2.2.2.2.2.2.1, .v (.int .i64 a0.1.2.2.2.2.2.2.2.2.2), .v (.int .i64 a0.2.1.1), .v (.int .i64 a0.2.1.2.1), .v (.int .i64 a0.2.1.2.2.1), .l 247 s246 a0.2.1.2.2.2, .l 3 (.i .i64) a0.2.2.1, .l 3 (.i .i64) a0.2.2.2.1, .l 141 s140 a0.2.2.2.2.1, .l 158 s157 a0.2.2.2.2.2.1, .l 86 s75 a0.2.2.2.2.2.2.1, .l 3 (.i .i64) a0.2.2.2.2.2.2.2.1, .l 166 s165 a0.2.2.2.2.2.2.2.2.1, .l 79 s75 a0.2.2.2.2.2.2.2.2.2.1, .v (.int .i64 a0.2.2.2.2.2.2.2.2.2.2.1), .v (.int .i64 a0.2.2.2.2.2.2.2.2.2.2.2.1), .l 155 s140 a0.2.2.2.2.2.2.2.2.2.2.2.2.1, .l 94 s75 a0.2.2.2.2.2.2.2.2.2.2.2.2.2], .c (.v (.int .i64 a1))]
theorem e31 (k : Nat) (a0 : T40) (a1 : Int) : F31 (k + 1) a0 a1 = (F105 k a0.1 a1 0 a0.2.2.2.2.2.2.2.2.2.2.2.1).bind fun p1 => some p1 := by kernel_rfl
/-! loop.example/g00599/spec.l22Rates -/
noncomputable def F173 (k : Nat) (a0 : Int × Int × Int × Int × Int × Int) : Option (Bool) := den E k 173 [.agg [.v (.int .i64 a0.1), .v (.int .i64 a0.2.1), .v (.int .i64 a0.2.2.1), .v (.int .i64 a0.2.2.2.1), .v (.int .i64 a0.2.2.2.2.1), .v (.int .i64 a0.2.2.2.2.2)]]
theorem e173 (k : Nat) (a0 : Int × Int × Int × Int × Int × Int) : F173 (k + 1) a0 = (F92 k a0.2.2.2.1 0 100).bind fun p1 => if (p1 == true) = true then (F92 k a0.2.2.2.2.2 0 100).bind fun p2 => some p2 else some false := by kernel_rfl
/-! loop.example/g00599/spec.IsSpan -/
noncomputable def F198 (k : Nat) (a0 : Int × Int) : Option (Bool) := den E k 198 [.agg [.v (.int .i64 a0.1), .v (.int .i64 a0.2)]]
theorem e198 (k : Nat) (a0 : Int × Int) : F198 (k + 1) a0 = if ((decide (a0.1 ≥ 0)) == true) = true then if ((decide (a0.2 ≤ 1000)) == true) = true then some (decide (a0.1 < a0.2)) else some false else some false := by kernel_rfl
/-! loop.example/g00599/spec.InSpan -/
noncomputable def F255 (k : Nat) (a0 : Int × Int) (a1 : Int) : Option (Bool) := den E k 255 [.agg [.v (.int .i64 a0.1), .v (.int .i64 a0.2)], .c (.v (.int .i64 a1))]
theorem e255 (k : Nat) (a0 : Int × Int) (a1 : Int) : F255 (k + 1) a0 a1 = (F198 k a0).bind fun p1 => if (p1 == true) = true then if ((decide (a0.1 ≤ a1)) == true) = true then some (decide (a1 < a0.2)) else some false else some false := by kernel_rfl
/-! loop.example/g00599/spec.InSpans -/
noncomputable def F174 (k : Nat) (a0 : List (Int × Int)) (a1 : Int) : Option (Bool) := den E k 174 [.c (.l 151 s150 a0), .c (.v (.int .i64 a1))]
abbrev C174_0 : Type := (List (Int × Int)) × Int
abbrev V174_0 : Type := Int
def St174_0 (c0 : C174_0) (v0 : V174_0) : St := ⟨18, 0, [(0, .c (.l 151 s150 c0.1)), (1, .c (.v (.int .i64 c0.2))), (5, .c (.v (.int .i64 v0)))], []⟩
noncomputable def B174_0 {R : Type} (k : Nat) (X0 : V174_0 → (Int × Int) → Bool → Option R) (X1 : V174_0 → Option R) (c0 : C174_0) (rec : V174_0 → Option R) (v0 : V174_0) : Option R := if (decide (v0 < (c0.1.length : Int))) = true then if 0 ≤ v0 then ix c0.1 v0.toNat fun x1 => (F255 k x1 c0.2).bind fun p2 => if p2 = true then X0 v0 x1 p2 else rec (IntKind.i64.wrap (v0 + 1)) else none else X1 v0
noncomputable def L174_0 {R : Type} (k : Nat) (X0 : V174_0 → (Int × Int) → Bool → Option R) (X1 : V174_0 → Option R) (c : C174_0) : Nat → V174_0 → Option R
  | 0, _ => none
  | n + 1, v => B174_0 k X0 X1 c (L174_0 k X0 X1 c n) v
theorem b174_0 {R : Type} (k n : Nat) (K : Ex → St → Option R) (c0 : C174_0) (v : V174_0) : loopRun [0, 0, 1, 5] (run E (den E k) (lv 174) k (nthLoop Tryz.f174 0)) (n + 1) (St174_0 c0 v) K = B174_0 k (fun (v0 : V174_0) (x1 : Int × Int) (p2 : Bool) => K .ret ⟨18, 0, [(0, .c (.l 151 s150 c0.1)), (1, .c (.v (.int .i64 c0.2))), (4, .c (.v (.bool true))), (5, .c (.v (.int .i64 v0))), (6, .c (.v (.int .i64 v0))), (7, .c (.l 151 s150 c0.1)), (8, .c (.v (.int .i64 (c0.1.length : Int)))), (9, .c (.v (.bool (decide (v0 < (c0.1.length : Int)))))), (12, .c (.l 151 s150 c0.1)), (13, .c (.v (.int .i64 v0))), (14, .c (.at_ [.v (.int .i64 x1.1), .v (.int .i64 x1.2)])), (15, .agg [.v (.int .i64 x1.1), .v (.int .i64 x1.2)]), (16, .c (.v (.int .i64 c0.2))), (17, .c (.v (.bool p2)))], []⟩) (fun (v0 : V174_0) => K (.exit 0) ⟨18, 0, [(0, .c (.l 151 s150 c0.1)), (1, .c (.v (.int .i64 c0.2))), (5, .c (.v (.int .i64 v0))), (6, .c (.v (.int .i64 v0))), (7, .c (.l 151 s150 c0.1)), (8, .c (.v (.int .i64 (c0.1.length : Int)))), (9, .c (.v (.bool (decide (v0 < (c0.1.length : Int))))))], []⟩) c0 (fun v => loopRun [0, 0, 1, 5] (run E (den E k) (lv 174) k (nthLoop Tryz.f174 0)) n (St174_0 c0 v) K) v := by kernel_rfl
theorem l174_0 {R : Type} (k : Nat) (K : Ex → St → Option R) (c0 : C174_0) : ∀ (n : Nat) (v : V174_0), loopRun [0, 0, 1, 5] (run E (den E k) (lv 174) k (nthLoop Tryz.f174 0)) n (St174_0 c0 v) K = L174_0 k (fun (v0 : V174_0) (x1 : Int × Int) (p2 : Bool) => K .ret ⟨18, 0, [(0, .c (.l 151 s150 c0.1)), (1, .c (.v (.int .i64 c0.2))), (4, .c (.v (.bool true))), (5, .c (.v (.int .i64 v0))), (6, .c (.v (.int .i64 v0))), (7, .c (.l 151 s150 c0.1)), (8, .c (.v (.int .i64 (c0.1.length : Int)))), (9, .c (.v (.bool (decide (v0 < (c0.1.length : Int)))))), (12, .c (.l 151 s150 c0.1)), (13, .c (.v (.int .i64 v0))), (14, .c (.at_ [.v (.int .i64 x1.1), .v (.int .i64 x1.2)])), (15, .agg [.v (.int .i64 x1.1), .v (.int .i64 x1.2)]), (16, .c (.v (.int .i64 c0.2))), (17, .c (.v (.bool p2)))], []⟩) (fun (v0 : V174_0) => K (.exit 0) ⟨18, 0, [(0, .c (.l 151 s150 c0.1)), (1, .c (.v (.int .i64 c0.2))), (5, .c (.v (.int .i64 v0))), (6, .c (.v (.int .i64 v0))), (7, .c (.l 151 s150 c0.1)), (8, .c (.v (.int .i64 (c0.1.length : Int)))), (9, .c (.v (.bool (decide (v0 < (c0.1.length : Int))))))], []⟩) c0 n v := by
  intro n
  induction n with
  | zero => intro v; rfl
  | succ n ih =>
    intro v
    refine (b174_0 k n K c0 v).trans ?_
    rw [funext ih]
    kernel_rfl
theorem m174_0 (k : Nat) (a0 : List (Int × Int)) (a1 : Int) : F174 (k + 1) a0 a1 = loopRun (R := Bool) [0, 0, 1, 5] (run E (den E k) (lv 174) k (nthLoop Tryz.f174 0)) k (St174_0 (a0, a1) 0) (kontAt E (den E k) (lv 174) k (bodyOf Tryz.f174) 0 [] (finish E (rs 174) Tryz.f174 : Ex → St → Option (Bool))) := by kernel_rfl
theorem e174 (k : Nat) (a0 : List (Int × Int)) (a1 : Int) : F174 (k + 1) a0 a1 = L174_0 k (fun (v0 : Int) (x1 : Int × Int) (p2 : Bool) => some true) (fun (v0 : Int) => some false) (a0, a1) k 0 := by
  rw [m174_0]
  simp only [l174_0]
  kernel_rfl
/-! loop.example/g00599/spec.NeedAt -/
noncomputable def F93 (k : Nat) (a0 : Int × Int × Int × Int × Int × Int) (a1 : List (Int × Int)) (a2 : Int) (a3 : Int) : Option (Int) := den E k 93 [.agg [.v (.int .i64 a0.1), .v (.int .i64 a0.2.1), .v (.int .i64 a0.2.2.1), .v (.int .i64 a0.2.2.2.1), .v (.int .i64 a0.2.2.2.2.1), .v (.int .i64 a0.2.2.2.2.2)], .c (.l 151 s150 a1), .c (.v (.int .i64 a2)), .c (.v (.int .i64 a3))]
abbrev C93_0 : Type := (List (Int × Int)) × Int × (Int × Int × Int × Int × Int × Int)
abbrev V93_0 : Type := Int × Int
def St93_0 (c0 : C93_0) (v0 : V93_0) : St := ⟨49, 1, [(1, .c (.l 151 s150 c0.1)), (2, .c (.v (.int .i64 c0.2.1))), (4, .c (.ptr 0 0)), (9, .c (.v (.int .i64 v0.1))), (10, .c (.v (.int .i64 v0.2)))], [(0, .var [.v (.int .i64 c0.2.2.1), .v (.int .i64 c0.2.2.2.1), .v (.int .i64 c0.2.2.2.2.1), .v (.int .i64 c0.2.2.2.2.2.1), .v (.int .i64 c0.2.2.2.2.2.2.1), .v (.int .i64 c0.2.2.2.2.2.2.2)])]⟩
noncomputable def B93_0 {R : Type} (k : Nat) (X0 : V93_0 → Option R) (c0 : C93_0) (rec : V93_0 → Option R) (v0 : V93_0) : Option R := if (decide (v0.2 ≥ c0.2.1)) = true then (F174 k c0.1 v0.2).bind fun p2 => if p2 = true then (F175 k 0 (IntKind.i64.wrap ((IntKind.i64.wrap (v0.1 + c0.2.2.2.2.2.1)) - c0.2.2.2.2.2.2.2))).bind fun p3 => rec (p3, (IntKind.i64.wrap (v0.2 - 1))) else (F175 k 0 (IntKind.i64.wrap (v0.1 + c0.2.2.2.2.2.1))).bind fun p4 => rec (p4, (IntKind.i64.wrap (v0.2 - 1))) else X0 v0
noncomputable def L93_0 {R : Type} (k : Nat) (X0 : V93_0 → Option R) (c : C93_0) : Nat → V93_0 → Option R
  | 0, _ => none
  | n + 1, v => B93_0 k X0 c (L93_0 k X0 c n) v
theorem b93_0 {R : Type} (k n : Nat) (K : Ex → St → Option R) (c0 : C93_0) (v : V93_0) : loopRun [0, 1, 2, 4, 9, 10] (run E (den E k) (lv 93) k (nthLoop Tryz.f93 0)) (n + 1) (St93_0 c0 v) K = B93_0 k (fun (v0 : V93_0) => K (.exit 0) ⟨49, 1, [(1, .c (.l 151 s150 c0.1)), (2, .c (.v (.int .i64 c0.2.1))), (4, .c (.ptr 0 0)), (9, .c (.v (.int .i64 v0.1))), (10, .c (.v (.int .i64 v0.2))), (30, .c (.v (.int .i64 v0.2))), (31, .c (.v (.int .i64 c0.2.1))), (32, .c (.v (.bool (decide (v0.2 ≥ c0.2.1)))))], [(0, .var [.v (.int .i64 c0.2.2.1), .v (.int .i64 c0.2.2.2.1), .v (.int .i64 c0.2.2.2.2.1), .v (.int .i64 c0.2.2.2.2.2.1), .v (.int .i64 c0.2.2.2.2.2.2.1), .v (.int .i64 c0.2.2.2.2.2.2.2)])]⟩) c0 (fun v => loopRun [0, 1, 2, 4, 9, 10] (run E (den E k) (lv 93) k (nthLoop Tryz.f93 0)) n (St93_0 c0 v) K) v := by kernel_rfl
theorem l93_0 {R : Type} (k : Nat) (K : Ex → St → Option R) (c0 : C93_0) : ∀ (n : Nat) (v : V93_0), loopRun [0, 1, 2, 4, 9, 10] (run E (den E k) (lv 93) k (nthLoop Tryz.f93 0)) n (St93_0 c0 v) K = L93_0 k (fun (v0 : V93_0) => K (.exit 0) ⟨49, 1, [(1, .c (.l 151 s150 c0.1)), (2, .c (.v (.int .i64 c0.2.1))), (4, .c (.ptr 0 0)), (9, .c (.v (.int .i64 v0.1))), (10, .c (.v (.int .i64 v0.2))), (30, .c (.v (.int .i64 v0.2))), (31, .c (.v (.int .i64 c0.2.1))), (32, .c (.v (.bool (decide (v0.2 ≥ c0.2.1)))))], [(0, .var [.v (.int .i64 c0.2.2.1), .v (.int .i64 c0.2.2.2.1), .v (.int .i64 c0.2.2.2.2.1), .v (.int .i64 c0.2.2.2.2.2.1), .v (.int .i64 c0.2.2.2.2.2.2.1), .v (.int .i64 c0.2.2.2.2.2.2.2)])]⟩) c0 n v := by
  intro n
  induction n with
  | zero => intro v; rfl
  | succ n ih =>
    intro v
    refine (b93_0 k n K c0 v).trans ?_
    rw [funext ih]
    kernel_rfl
theorem m93_0 (k : Nat) (a0 : Int × Int × Int × Int × Int × Int) (a1 : List (Int × Int)) (a2 : Int) (a3 : Int) : F93 (k + 1) a0 a1 a2 a3 = (F173 k a0).bind fun p1 => if ((!p1) == false) = true then if ((decide (a2 < 0)) == false) = true then if ((decide (a3 > 1000)) == false) = true then if (decide (a3 ≤ a2)) = true then some 0 else loopRun (R := Int) [0, 1, 2, 4, 9, 10] (run E (den E k) (lv 93) k (nthLoop Tryz.f93 0)) k (St93_0 (a1, a2, a0) (0, (IntKind.i64.wrap (a3 - 1)))) (kontAt E (den E k) (lv 93) k (bodyOf Tryz.f93) 0 [] (finish E (rs 93) Tryz.f93 : Ex → St → Option (Int))) else some 0 else some 0 else some 0 := by kernel_rfl
theorem e93 (k : Nat) (a0 : Int × Int × Int × Int × Int × Int) (a1 : List (Int × Int)) (a2 : Int) (a3 : Int) : F93 (k + 1) a0 a1 a2 a3 = (F173 k a0).bind fun p1 => if ((!p1) == false) = true then if ((decide (a2 < 0)) == false) = true then if ((decide (a3 > 1000)) == false) = true then if (decide (a3 ≤ a2)) = true then some 0 else L93_0 k (fun (v0 : Int × Int) => some v0.1) (a1, a2, a0) k (0, (IntKind.i64.wrap (a3 - 1))) else some 0 else some 0 else some 0 := by
  rw [m93_0]
  simp only [l93_0]
  kernel_rfl
/-! loop.example/g00599/spec.NeedNow -/
noncomputable def F23 (k : Nat) (a0 : T40) (a1 : Int) : Option (Int) := den E k 23 [.agg [.v (.int .i64 a0.1.1), .l 262 s75 a0.1.2.1, .l 266 s265 a0.1.2.2.1, .v (.int .i64 a0.1.2.2.2.1), .v (.int .i64 a0.1.2.2.2.2.1), .v (.int .i64 a0.1.2.2.2.2.2.1), .v (.int .i64 a0.1.2.2.2.2.2.2.1), .v (.int .i64 a0.1.2.2.2.2.2.2.2.1), .l 272 s271 a0.1.2.2.2.2.2.2.2.2.1, .v (.int .i64 a0.1.2.2.2.2.2.2.2.2.2), .v (.int .i64 a0.2.1.1), .v (.int .i64 a0.2.1.2.1), .v (.int .i64 a0.2.1.2.2.1), .l 247 s246 a0.2.1.2.2.2, .l 3 (.i .i64) a0.2.2.1, .l 3 (.i .i64) a0.2.2.2.1, .l 141 s140 a0.2.2.2.2.1, .l 158 s157 a0.2.2.2.2.2.1, .l 86 s75 a0.2.2.2.2.2.2.1, .l 3 (.i .i64) a0.2.2.2.2.2.2.2.1, .l 166 s165 a0.2.2.2.2.2.2.2.2.1, .l 79 s75 a0.2.2.2.2.2.2.2.2.2.1, .v (.int .i64 a0.2.2.2.2.2.2.2.2.2.2.1), .v (.int .i64 a0.2.2.2.2.2.2.2.2.2.2.2.1), .l 155 s140 a0.2.2.2.2.2.2.2.2.2.2.2.2.1, .l 94 s75 a0.2.2.2.2.2.2.2.2.2.2.2.2.2], .c (.v (.int .i64 a1))]
theorem e23 (k : Nat) (a0 : T40) (a1 : Int) : F23 (k + 1) a0 a1 = (F92 k a1 0 (IntKind.i64.wrap ((a0.2.2.2.2.1.length : Int) - 1))).bind fun p1 => if (!p1) = true then some 0 else if 0 ≤ a1 then ix a0.2.2.2.2.1 a1.toNat fun x2 => (F31 k a0 a1).bind fun p3 => (F93 k x2 p3 a0.2.2.2.2.2.2.2.2.2.2.1 a0.2.2.2.2.2.2.2.2.2.2.2.1).bind fun p4 => some p4 else none := by kernel_rfl
/-! loop.example/g00599/impl.InRange -/
noncomputable def F135 (k : Nat) (a0 : Int) (a1 : Int) (a2 : Int) : Option (Bool) := den E k 135 [.c (.v (.int .i64 a0)), .c (.v (.int .i64 a1)), .c (.v (.int .i64 a2))]
theorem e135 (k : Nat) (a0 : Int) (a1 : Int) (a2 : Int) : F135 (k + 1) a0 a1 a2 = if ((decide (a1 ≤ a0)) == true) = true then some (decide (a0 ≤ a2)) else some false := by kernel_rfl
/-! loop.example/g00599/impl.isSatellite -/
noncomputable def F264 (k : Nat) (a0 : T25) (a1 : Int) : Option (Bool) := den E k 264 [.agg [.v (.int .i64 a0.1), .l 262 s75 a0.2.1, .l 266 s265 a0.2.2.1, .v (.int .i64 a0.2.2.2.1), .v (.int .i64 a0.2.2.2.2.1), .v (.int .i64 a0.2.2.2.2.2.1), .v (.int .i64 a0.2.2.2.2.2.2.1), .v (.int .i64 a0.2.2.2.2.2.2.2.1), .l 272 s271 a0.2.2.2.2.2.2.2.2.1, .v (.int .i64 a0.2.2.2.2.2.2.2.2.2)], .c (.v (.int .i64 a1))]
theorem e264 (k : Nat) (a0 : T25) (a1 : Int) : F264 (k + 1) a0 a1 = (F135 k a1 0 (IntKind.i64.wrap ((a0.2.1.length : Int) - 1))).bind fun p1 => some p1 := by kernel_rfl
/-! loop.example/g00599/impl.Mod -/
noncomputable def F344 (k : Nat) (a0 : Int) (a1 : Int) : Option (Int) := den E k 344 [.c (.v (.int .i64 a0)), .c (.v (.int .i64 a1))]
theorem e344 (k : Nat) (a0 : Int) (a1 : Int) : F344 (k + 1) a0 a1 = (F135 k a1 1 1000000000000).bind fun p1 => if (!p1) = true then some 0 else if a1 = 0 then none else if (decide (((a0).tmod a1) < 0)) = true then some (IntKind.i64.wrap (((a0).tmod a1) + a1)) else some ((a0).tmod a1) := by kernel_rfl
/-! loop.example/g00599/impl.AngleOf -/
noncomputable def F318 (k : Nat) (a0 : Int) : Option (Int) := den E k 318 [.c (.v (.int .i64 a0))]
theorem e318 (k : Nat) (a0 : Int) : F318 (k + 1) a0 = (F344 k a0 360).bind fun p1 => some p1 := by kernel_rfl
/-! loop.example/g00599/impl.speedOf -/
noncomputable def F343 (k : Nat) (a0 : Int × Int × Int × Int) : Option (Int) := den E k 343 [.agg [.v (.int .i64 a0.1), .v (.int .i64 a0.2.1), .v (.int .i64 a0.2.2.1), .v (.int .i64 a0.2.2.2)]]
theorem e343 (k : Nat) (a0 : Int × Int × Int × Int) : F343 (k + 1) a0 = (F135 k a0.2.2.1 (-60) 60).bind fun p1 => if (!p1) = true then some 0 else some a0.2.2.1 := by kernel_rfl
/-! loop.example/g00599/impl.PlaceAt -/
noncomputable def F317 (k : Nat) (a0 : Int × Int × Int × Int) (a1 : Int) : Option (Int) := den E k 317 [.agg [.v (.int .i64 a0.1), .v (.int .i64 a0.2.1), .v (.int .i64 a0.2.2.1), .v (.int .i64 a0.2.2.2)], .c (.v (.int .i64 a1))]
theorem e317 (k : Nat) (a0 : Int × Int × Int × Int) (a1 : Int) : F317 (k + 1) a0 a1 = (F135 k a1 0 1000).bind fun p1 => if (!p1) = true then (F318 k a0.2.1).bind fun p2 => (F343 k a0).bind fun p3 => (F318 k (IntKind.i64.wrap (p2 + (IntKind.i64.wrap (p3 * 0))))).bind fun p4 => some p4 else (F318 k a0.2.1).bind fun p5 => (F343 k a0).bind fun p6 => (F318 k (IntKind.i64.wrap (p5 + (IntKind.i64.wrap (p6 * a1))))).bind fun p7 => some p7 := by kernel_rfl
/-! loop.example/g00599/impl.isWidth -/
noncomputable def F319 (k : Nat) (a0 : Int) : Option (Bool) := den E k 319 [.c (.v (.int .i64 a0))]
theorem e319 (k : Nat) (a0 : Int) : F319 (k + 1) a0 = (F135 k a0 0 359).bind fun p1 => some p1 := by kernel_rfl
/-! loop.example/g00599/impl.WidenArc -/
noncomputable def F341 (k : Nat) (a0 : Int × Int) (a1 : Int) : Option (Int × Int) := den E k 341 [.agg [.v (.int .i64 a0.1), .v (.int .i64 a0.2)], .c (.v (.int .i64 a1))]
theorem e341 (k : Nat) (a0 : Int × Int) (a1 : Int) : F341 (k + 1) a0 a1 = (F318 k a0.1).bind fun p1 => (F135 k a1 0 360).bind fun p2 => if ((!p2) == false) = true then (F319 k a0.2).bind fun p3 => if (!p3) = true then some (p1, a0.2) else (F318 k (IntKind.i64.wrap (p1 - a1))).bind fun p4 => some (p4, (mn (IntKind.i64.wrap (a0.2 + (IntKind.i64.wrap (2 * a1)))) 359)) else some (p1, a0.2) := by kernel_rfl
/-! loop.example/g00599/impl.PlacesAt -/
noncomputable def F315 (k : Nat) (a0 : Int × Int × Int × Int) (a1 : Int) : Option (Int × Int) := den E k 315 [.agg [.v (.int .i64 a0.1), .v (.int .i64 a0.2.1), .v (.int .i64 a0.2.2.1), .v (.int .i64 a0.2.2.2)], .c (.v (.int .i64 a1))]
theorem e315 (k : Nat) (a0 : Int × Int × Int × Int) (a1 : Int) : F315 (k + 1) a0 a1 = (F317 k a0 a1).bind fun p1 => (F341 k (p1, 0) a0.2.2.2).bind fun p2 => some p2 := by kernel_rfl
/-! loop.example/g00599/impl.NodesOf -/
noncomputable def F342 (k : Nat) (a0 : T25) : Option (Int) := den E k 342 [.agg [.v (.int .i64 a0.1), .l 262 s75 a0.2.1, .l 266 s265 a0.2.2.1, .v (.int .i64 a0.2.2.2.1), .v (.int .i64 a0.2.2.2.2.1), .v (.int .i64 a0.2.2.2.2.2.1), .v (.int .i64 a0.2.2.2.2.2.2.1), .v (.int .i64 a0.2.2.2.2.2.2.2.1), .l 272 s271 a0.2.2.2.2.2.2.2.2.1, .v (.int .i64 a0.2.2.2.2.2.2.2.2.2)]]
theorem e342 (k : Nat) (a0 : T25) : F342 (k + 1) a0 = some (IntKind.i64.wrap ((a0.2.1.length : Int) + (a0.2.2.1.length : Int))) := by kernel_rfl
/-! loop.example/g00599/impl.IsSite -/
noncomputable def F316 (k : Nat) (a0 : T25) (a1 : Int) : Option (Bool) := den E k 316 [.agg [.v (.int .i64 a0.1), .l 262 s75 a0.2.1, .l 266 s265 a0.2.2.1, .v (.int .i64 a0.2.2.2.1), .v (.int .i64 a0.2.2.2.2.1), .v (.int .i64 a0.2.2.2.2.2.1), .v (.int .i64 a0.2.2.2.2.2.2.1), .v (.int .i64 a0.2.2.2.2.2.2.2.1), .l 272 s271 a0.2.2.2.2.2.2.2.2.1, .v (.int .i64 a0.2.2.2.2.2.2.2.2.2)], .c (.v (.int .i64 a1))]
theorem e316 (k : Nat) (a0 : T25) (a1 : Int) : F316 (k + 1) a0 a1 = (F342 k a0).bind fun p1 => (F135 k a1 (a0.2.1.length : Int) (IntKind.i64.wrap (p1 - 1))).bind fun p2 => some p2 := by kernel_rfl
/-! loop.example/g00599/impl.NodeAt -/
noncomputable def F265 (k : Nat) (a0 : T25) (a1 : Int) (a2 : Int) : Option (Int × Int) := den E k 265 [.agg [.v (.int .i64 a0.1), .l 262 s75 a0.2.1, .l 266 s265 a0.2.2.1, .v (.int .i64 a0.2.2.2.1), .v (.int .i64 a0.2.2.2.2.1), .v (.int .i64 a0.2.2.2.2.2.1), .v (.int .i64 a0.2.2.2.2.2.2.1), .v (.int .i64 a0.2.2.2.2.2.2.2.1), .l 272 s271 a0.2.2.2.2.2.2.2.2.1, .v (.int .i64 a0.2.2.2.2.2.2.2.2.2)], .c (.v (.int .i64 a1)), .c (.v (.int .i64 a2))]
theorem e265 (k : Nat) (a0 : T25) (a1 : Int) (a2 : Int) : F265 (k + 1) a0 a1 a2 = (F264 k a0 a1).bind fun p1 => if p1 = true then if 0 ≤ a1 then ix a0.2.1 a1.toNat fun x2 => (F315 k x2 a2).bind fun p3 => some p3 else none else (F316 k a0 a1).bind fun p4 => if p4 = true then if 0 ≤ (IntKind.i64.wrap (a1 - (a0.2.1.length : Int))) then ix a0.2.2.1 ((IntKind.i64.wrap (a1 - (a0.2.1.length : Int))).toNat) fun x5 => (F317 k (0, x5.2.1, x5.2.2, 0) a2).bind fun p6 => some (p6, 0) else none else some (0, 0) := by kernel_rfl
/-! loop.example/g00599/impl.GapOf -/
noncomputable def F266 (k : Nat) (a0 : Int) (a1 : Int) : Option (Int) := den E k 266 [.c (.v (.int .i64 a0)), .c (.v (.int .i64 a1))]
theorem e266 (k : Nat) (a0 : Int) (a1 : Int) : F266 (k + 1) a0 a1 = (F318 k a0).bind fun p1 => (F318 k a1).bind fun p2 => (F318 k (IntKind.i64.wrap (p1 - p2))).bind fun p3 => some (mn p3 (IntKind.i64.wrap (360 - p3))) := by kernel_rfl
/-! loop.example/g00599/impl.MiddleOf -/
noncomputable def F267 (k : Nat) (a0 : Int × Int) : Option (Int) := den E k 267 [.agg [.v (.int .i64 a0.1), .v (.int .i64 a0.2)]]
theorem e267 (k : Nat) (a0 : Int × Int) : F267 (k + 1) a0 = (F319 k a0.2).bind fun p1 => if (!p1) = true then (F318 k a0.1).bind fun p2 => some p2 else (F318 k a0.1).bind fun p3 => (F318 k (IntKind.i64.wrap (p3 + (IntKind.i64.wrap ((a0.2).tdiv 2))))).bind fun p4 => some p4 := by kernel_rfl
/-! loop.example/g00599/impl.SunAt -/
noncomputable def F268 (k : Nat) (a0 : T25) (a1 : Int) : Option (Int) := den E k 268 [.agg [.v (.int .i64 a0.1), .l 262 s75 a0.2.1, .l 266 s265 a0.2.2.1, .v (.int .i64 a0.2.2.2.1), .v (.int .i64 a0.2.2.2.2.1), .v (.int .i64 a0.2.2.2.2.2.1), .v (.int .i64 a0.2.2.2.2.2.2.1), .v (.int .i64 a0.2.2.2.2.2.2.2.1), .l 272 s271 a0.2.2.2.2.2.2.2.2.1, .v (.int .i64 a0.2.2.2.2.2.2.2.2.2)], .c (.v (.int .i64 a1))]
theorem e268 (k : Nat) (a0 : T25) (a1 : Int) : F268 (k + 1) a0 a1 = (F317 k (0, 0, a0.2.2.2.2.2.2.1, 0) a1).bind fun p1 => some p1 := by kernel_rfl
/-! loop.example/g00599/impl.ShadowAt -/
noncomputable def F193 (k : Nat) (a0 : T25) (a1 : Int) (a2 : Int) : Option (Int) := den E k 193 [.agg [.v (.int .i64 a0.1), .l 262 s75 a0.2.1, .l 266 s265 a0.2.2.1, .v (.int .i64 a0.2.2.2.1), .v (.int .i64 a0.2.2.2.2.1), .v (.int .i64 a0.2.2.2.2.2.1), .v (.int .i64 a0.2.2.2.2.2.2.1), .v (.int .i64 a0.2.2.2.2.2.2.2.1), .l 272 s271 a0.2.2.2.2.2.2.2.2.1, .v (.int .i64 a0.2.2.2.2.2.2.2.2.2)], .c (.v (.int .i64 a1)), .c (.v (.int .i64 a2))]
theorem e193 (k : Nat) (a0 : T25) (a1 : Int) (a2 : Int) : F193 (k + 1) a0 a1 a2 = (F264 k a0 a1).bind fun p1 => if (!p1) = true then some 0 else (F265 k a0 a1 a2).bind fun p2 => (F267 k p2).bind fun p3 => (F268 k a0 a2).bind fun p4 => (F266 k p3 (IntKind.i64.wrap (p4 + 180))).bind fun p5 => if (decide ((IntKind.i64.wrap (p5 - (IntKind.i64.wrap ((p2.2).tdiv 2)))) > a0.2.2.2.2.2.2.2.1)) = true then some 0 else if (decide ((IntKind.i64.wrap (p5 + (IntKind.i64.wrap ((p2.2).tdiv 2)))) ≤ a0.2.2.2.2.2.2.2.1)) = true then some 2 else some 1 := by kernel_rfl
/-! loop.example/g00599/impl.LitSpans$1 -/
noncomputable def F192v0 (k : Nat) (a0 : Int) (a1 : Int) (a2 : List (Int × Int × Int × Int)) (a3 : List (Int × Int × Int)) (a4 : Int) (a5 : Int) (a6 : Int) (a7 : Int) (a8 : Int) (a9 : List (Int × Int × Int)) (a10 : Int) (a11 : Int) : Option (Bool) := den E k 192 [.c (.v (.int .i64 a0)), .c (.at_ [.v (.int .i64 a1), .l 262 s75 a2, .l 266 s265 a3, .v (.int .i64 a4), .v (.int .i64 a5), .v (.int .i64 a6), .v (.int .i64 a7), .v (.int .i64 a8), .l 272 s271 a9, .v (.int .i64 a10)]), .c (.at_ [.v (.int .i64 a11)])]
theorem e192v0 (k : Nat) (a0 : Int) (a1 : Int) (a2 : List (Int × Int × Int × Int)) (a3 : List (Int × Int × Int)) (a4 : Int) (a5 : Int) (a6 : Int) (a7 : Int) (a8 : Int) (a9 : List (Int × Int × Int)) (a10 : Int) (a11 : Int) : F192v0 (k + 1) a0 a1 a2 a3 a4 a5 a6 a7 a8 a9 a10 a11 = (F193 k (a1, a2, a3, a4, a5, a6, a7, a8, a9, a10) a11 a0).bind fun p1 => some (p1 == 0) := by kernel_rfl
/-! loop.example/g00599/impl.spansWhere -/
noncomputable def F191v0 (k : Nat) (a0 : Int) (a1 : Int) (a2 : Int) (a3 : List (Int × Int × Int × Int)) (a4 : List (Int × Int × Int)) (a5 : Int) (a6 : Int) (a7 : Int) (a8 : Int) (a9 : Int) (a10 : List (Int × Int × Int)) (a11 : Int) (a12 : Int) : Option (List (Int × Int)) := den E k 191 [.c (.v (.int .i64 a0)), .c (.v (.int .i64 a1)), .c (.clo 192 [.at_ [.v (.int .i64 a2), .l 262 s75 a3, .l 266 s265 a4, .v (.int .i64 a5), .v (.int .i64 a6), .v (.int .i64 a7), .v (.int .i64 a8), .v (.int .i64 a9), .l 272 s271 a10, .v (.int .i64 a11)], .at_ [.v (.int .i64 a12)]])]
abbrev C191v0_0 : Type := Int × Int × (List (Int × Int × Int × Int)) × (List (Int × Int × Int)) × Int × Int × Int × Int × Int × (List (Int × Int × Int)) × Int × Int
abbrev V191v0_0 : Type := Int × (List (Int × Int))
def St191v0_0 (c0 : C191v0_0) (v0 : V191v0_0) : St := ⟨53, 1, [(1, .c (.v (.int .i64 c0.1))), (2, .c (.clo 192 [.at_ [.v (.int .i64 c0.2.1), .l 262 s75 c0.2.2.1, .l 266 s265 c0.2.2.2.1, .v (.int .i64 c0.2.2.2.2.1), .v (.int .i64 c0.2.2.2.2.2.1), .v (.int .i64 c0.2.2.2.2.2.2.1), .v (.int .i64 c0.2.2.2.2.2.2.2.1), .v (.int .i64 c0.2.2.2.2.2.2.2.2.1), .l 272 s271 c0.2.2.2.2.2.2.2.2.2.1, .v (.int .i64 c0.2.2.2.2.2.2.2.2.2.2.1)], .at_ [.v (.int .i64 c0.2.2.2.2.2.2.2.2.2.2.2)]])), (7, .c (.ref 0)), (8, .c (.v (.int .i64 v0.1)))], [(0, .arr 151 s150 v0.2)]⟩
noncomputable def B191v0_0 {R : Type} (k : Nat) (X0 : V191v0_0 → Option R) (c0 : C191v0_0) (rec : V191v0_0 → Option R) (v0 : V191v0_0) : Option R := if (decide (v0.1 < (mn c0.1 1000))) = true then (F192v0 k v0.1 c0.2.1 c0.2.2.1 c0.2.2.2.1 c0.2.2.2.2.1 c0.2.2.2.2.2.1 c0.2.2.2.2.2.2.1 c0.2.2.2.2.2.2.2.1 c0.2.2.2.2.2.2.2.2.1 c0.2.2.2.2.2.2.2.2.2.1 c0.2.2.2.2.2.2.2.2.2.2.1 c0.2.2.2.2.2.2.2.2.2.2.2).bind fun p1 => if (!p1) = true then rec ((IntKind.i64.wrap (v0.1 + 1)), v0.2) else if ((decide ((IntKind.i64.wrap ((v0.2.length : Int) - 1)) ≥ 0)) == true) = true then if 0 ≤ (IntKind.i64.wrap ((v0.2.length : Int) - 1)) then if (IntKind.i64.wrap ((v0.2.length : Int) - 1)) < (v0.2.length : Int) then ix v0.2 ((IntKind.i64.wrap ((v0.2.length : Int) - 1)).toNat) fun x2 => if (x2.2 == v0.1) = true then if 0 ≤ (IntKind.i64.wrap ((v0.2.length : Int) - 1)) then if (IntKind.i64.wrap ((v0.2.length : Int) - 1)) < (v0.2.length : Int) then ix v0.2 ((IntKind.i64.wrap ((v0.2.length : Int) - 1)).toNat) fun x3 => if 0 ≤ (IntKind.i64.wrap ((v0.2.length : Int) - 1)) then if (IntKind.i64.wrap ((v0.2.length : Int) - 1)) < (v0.2.length : Int) then ix v0.2 ((IntKind.i64.wrap ((v0.2.length : Int) - 1)).toNat) fun y4 => rec ((IntKind.i64.wrap (v0.1 + 1)), (v0.2.set ((IntKind.i64.wrap ((v0.2.length : Int) - 1)).toNat) (y4.1, (IntKind.i64.wrap (x3.2 + 1))))) else none else none else none else none else if (v0.2.length + ([(v0.1, (IntKind.i64.wrap (v0.1 + 1)))]).length) * 16 ≤ 140737488355328 then rec ((IntKind.i64.wrap (v0.1 + 1)), (v0.2 ++ [(v0.1, (IntKind.i64.wrap (v0.1 + 1)))])) else none else none else none else if (v0.2.length + ([(v0.1, (IntKind.i64.wrap (v0.1 + 1)))]).length) * 16 ≤ 140737488355328 then rec ((IntKind.i64.wrap (v0.1 + 1)), (v0.2 ++ [(v0.1, (IntKind.i64.wrap (v0.1 + 1)))])) else none else X0 v0
noncomputable def L191v0_0 {R : Type} (k : Nat) (X0 : V191v0_0 → Option R) (c : C191v0_0) : Nat → V191v0_0 → Option R
  | 0, _ => none
  | n + 1, v => B191v0_0 k X0 c (L191v0_0 k X0 c n) v
theorem b191v0_0 {R : Type} (k n : Nat) (K : Ex → St → Option R) (c0 : C191v0_0) (v : V191v0_0) : loopRun [0, 1, 2, 7, 8] (run E (den E k) (lv 191) k (nthLoop Tryz.f191 0)) (n + 1) (St191v0_0 c0 v) K = B191v0_0 k (fun (v0 : V191v0_0) => K (.exit 0) ⟨53, 1, [(1, .c (.v (.int .i64 c0.1))), (2, .c (.clo 192 [.at_ [.v (.int .i64 c0.2.1), .l 262 s75 c0.2.2.1, .l 266 s265 c0.2.2.2.1, .v (.int .i64 c0.2.2.2.2.1), .v (.int .i64 c0.2.2.2.2.2.1), .v (.int .i64 c0.2.2.2.2.2.2.1), .v (.int .i64 c0.2.2.2.2.2.2.2.1), .v (.int .i64 c0.2.2.2.2.2.2.2.2.1), .l 272 s271 c0.2.2.2.2.2.2.2.2.2.1, .v (.int .i64 c0.2.2.2.2.2.2.2.2.2.2.1)], .at_ [.v (.int .i64 c0.2.2.2.2.2.2.2.2.2.2.2)]])), (7, .c (.ref 0)), (8, .c (.v (.int .i64 v0.1))), (13, .c (.v (.int .i64 v0.1))), (14, .c (.v (.int .i64 c0.1))), (15, .c (.v (.int .i64 (mn c0.1 1000)))), (16, .c (.v (.bool (decide (v0.1 < (mn c0.1 1000))))))], [(0, .arr 151 s150 v0.2)]⟩) c0 (fun v => loopRun [0, 1, 2, 7, 8] (run E (den E k) (lv 191) k (nthLoop Tryz.f191 0)) n (St191v0_0 c0 v) K) v := by kernel_rfl
theorem l191v0_0 {R : Type} (k : Nat) (K : Ex → St → Option R) (c0 : C191v0_0) : ∀ (n : Nat) (v : V191v0_0), loopRun [0, 1, 2, 7, 8] (run E (den E k) (lv 191) k (nthLoop Tryz.f191 0)) n (St191v0_0 c0 v) K = L191v0_0 k (fun (v0 : V191v0_0) => K (.exit 0) ⟨53, 1, [(1, .c (.v (.int .i64 c0.1))), (2, .c (.clo 192 [.at_ [.v (.int .i64 c0.2.1), .l 262 s75 c0.2.2.1, .l 266 s265 c0.2.2.2.1, .v (.int .i64 c0.2.2.2.2.1), .v (.int .i64 c0.2.2.2.2.2.1), .v (.int .i64 c0.2.2.2.2.2.2.1), .v (.int .i64 c0.2.2.2.2.2.2.2.1), .v (.int .i64 c0.2.2.2.2.2.2.2.2.1), .l 272 s271 c0.2.2.2.2.2.2.2.2.2.1, .v (.int .i64 c0.2.2.2.2.2.2.2.2.2.2.1)], .at_ [.v (.int .i64 c0.2.2.2.2.2.2.2.2.2.2.2)]])), (7, .c (.ref 0)), (8, .c (.v (.int .i64 v0.1))), (13, .c (.v (.int .i64 v0.1))), (14, .c (.v (.int .i64 c0.1))), (15, .c (.v (.int .i64 (mn c0.1 1000)))), (16, .c (.v (.bool (decide (v0.1 < (mn c0.1 1000))))))], [(0, .arr 151 s150 v0.2)]⟩) c0 n v := by
  intro n
  induction n with
  | zero => intro v; rfl
  | succ n ih =>
    intro v
    refine (b191v0_0 k n K c0 v).trans ?_
    rw [funext ih]
    kernel_rfl
theorem m191v0_0 (k : Nat) (a0 : Int) (a1 : Int) (a2 : Int) (a3 : List (Int × Int × Int × Int)) (a4 : List (Int × Int × Int)) (a5 : Int) (a6 : Int) (a7 : Int) (a8 : Int) (a9 : Int) (a10 : List (Int × Int × Int)) (a11 : Int) (a12 : Int) : F191v0 (k + 1) a0 a1 a2 a3 a4 a5 a6 a7 a8 a9 a10 a11 a12 = loopRun (R := List (Int × Int)) [0, 1, 2, 7, 8] (run E (den E k) (lv 191) k (nthLoop Tryz.f191 0)) k (St191v0_0 (a1, a2, a3, a4, a5, a6, a7, a8, a9, a10, a11, a12) ((mx a0 0), [])) (kontAt E (den E k) (lv 191) k (bodyOf Tryz.f191) 0 [] (finish E (rs 191) Tryz.f191 : Ex → St → Option (List (Int × Int)))) := by kernel_rfl
theorem e191v0 (k : Nat) (a0 : Int) (a1 : Int) (a2 : Int) (a3 : List (Int × Int × Int × Int)) (a4 : List (Int × Int × Int)) (a5 : Int) (a6 : Int) (a7 : Int) (a8 : Int) (a9 : Int) (a10 : List (Int × Int × Int)) (a11 : Int) (a12 : Int) : F191v0 (k + 1) a0 a1 a2 a3 a4 a5 a6 a7 a8 a9 a10 a11 a12 = L191v0_0 k (fun (v0 : Int × (List (Int × Int))) => some v0.2) (a1, a2, a3, a4, a5, a6, a7, a8, a9, a10, a11, a12) k ((mx a0 0), []) := by
  rw [m191v0_0]
  simp only [l191v0_0]
  kernel_rfl
/-! loop.example/g00599/impl.LitSpans -/
noncomputable def F106 (k : Nat) (a0 : T25) (a1 : Int) (a2 : Int) (a3 : Int) : Option (List (Int × Int)) := den E k 106 [.agg [.v (.int .i64 a0.1), .l 262 s75 a0.2.1, .l 266 s265 a0.2.2.1, .v (.int .i64 a0.2.2.2.1), .v (.int .i64 a0.2.2.2.2.1), .v (.int .i64 a0.2.2.2.2.2.1), .v (.int .i64 a0.2.2.2.2.2.2.1), .v (.int .i64 a0.2.2.2.2.2.2.2.1), .l 272 s271 a0.2.2.2.2.2.2.2.2.1, .v (.int .i64 a0.2.2.2.2.2.2.2.2.2)], .c (.v (.int .i64 a1)), .c (.v (.int .i64 a2)), .c (.v (.int .i64 a3))]
theorem e106 (k : Nat) (a0 : T25) (a1 : Int) (a2 : Int) (a3 : Int) : F106 (k + 1) a0 a1 a2 a3 = (F191v0 k a2 a3 a0.1 a0.2.1 a0.2.2.1 a0.2.2.2.1 a0.2.2.2.2.1 a0.2.2.2.2.2.1 a0.2.2.2.2.2.2.1 a0.2.2.2.2.2.2.2.1 a0.2.2.2.2.2.2.2.2.1 a0.2.2.2.2.2.2.2.2.2 a1).bind fun p1 => some p1 := by kernel_rfl
/-! loop.example/g00599/impl.LitOf -/
noncomputable def F32 (k : Nat) (a0 : T40) (a1 : Int) : Option (List (Int × Int)) := den E k 32 [.agg [.v (.int .i64 a0.1.1), .l 262 s75 a0.1.2.1, .l 266 s265 a0.1.2.2.1, .v (.int .i64 a0.1.2.2.2.1), .v (.int .i64 a0.1.2.2.2.2.1), .v (.int .i64 a0.1.2.2.2.2.2.1), .v (.int .i64 a0.1.2.2.2.2.2.2.1), .v (.int .i64 a0.1.2.2.2.2.2.2.2.1), .l 272 s271 a0.1.2.2.2.2.2.2.2.2.1, .v (.int .i64 a0.1.2.2.2.2.2.2.2.2.2), .v (.int .i64 a0.2.1.1), .v (.int .i64 a0.2.1.2.1), .v (.int .i64 a0.2.1.2.2.1), .l 247 s246 a0.2.1.2.2.2, .l 3 (.i .i64) a0.2.2.1, .l 3 (.i .i64) a0.2.2.2.1, .l 141 s140 a0.2.2.2.2.1, .l 158 s157 a0.2.2.2.2.2.1, .l 86 s75 a0.2.2.2.2.2.2.1, .l 3 (.i .i64) a0.2.2.2.2.2.2.2.1, .l 166 s165 a0.2.2.2.2.2.2.2.2.1, .l 79 s75 a0.2.2.2.2.2.2.2.2.2.1, .v (.int .i64 a0.2.2.2.2.2.2.2.2.2.2.1), .v (.int .i64 a0.2.2.2.2.2.2.2.2.2.2.2.1), .l 155 s140 a0.2.2.2.2.2.2.2.2.2.2.2.2.1, .l 94 s75 a0.2.2.2.2.2.2.2.2.2.2.2.2.2], .c (.v (.int .i64 a1))]
theorem e32 (k : Nat) (a0 : T40) (a1 : Int) : F32 (k + 1) a0 a1 = (F106 k a0.1 a1 0 a0.2.2.2.2.2.2.2.2.2.2.2.1).bind fun p1 => some p1 := by kernel_rfl
/-! loop.example/g00599/impl.isIndex -/
noncomputable def F94 (k : Nat) (a0 : Int) (a1 : Int) : Option (Bool) := den E k 94 [.c (.v (.int .i64 a0)), .c (.v (.int .i64 a1))]
theorem e94 (k : Nat) (a0 : Int) (a1 : Int) : F94 (k + 1) a0 a1 = if ((decide (a0 ≥ 0)) == true) = true then some (decide (a0 < a1)) else some false := by kernel_rfl
/-! loop.example/g00599/impl.IsSpan -/
noncomputable def F209 (k : Nat) (a0 : Int × Int) : Option (Bool) := den E k 209 [.agg [.v (.int .i64 a0.1), .v (.int .i64 a0.2)]]
theorem e209 (k : Nat) (a0 : Int × Int) : F209 (k + 1) a0 = if ((decide (a0.1 ≥ 0)) == true) = true then if ((decide (a0.2 ≤ 1000)) == true) = true then some (decide (a0.1 < a0.2)) else some false else some false := by kernel_rfl
/-! loop.example/g00599/impl.ticks -/
noncomputable def F256 (k : Nat) (a0 : List (Int × Int)) : Option (List Bool) := den E k 256 [.c (.l 151 s150 a0)]
abbrev C256_1 : Type := (List (Int × Int)) × Int × Int × (Int × Int)
abbrev V256_1 : Type := Int × (List Bool)
def St256_1 (c1 : C256_1) (v1 : V256_1) : St := ⟨29, 2, [(3, .c (.ref 0)), (5, .c (.ptr 1 0)), (6, .c (.v (.int .i64 v1.1))), (8, .c (.l 151 s150 c1.1)), (9, .c (.v (.int .i64 c1.2.1))), (10, .c (.v (.int .i64 c1.2.2.1)))], [(0, .arr 4 .b v1.2), (1, .var [.v (.int .i64 c1.2.2.2.1), .v (.int .i64 c1.2.2.2.2)])]⟩
noncomputable def B256_1 {R : Type} (k : Nat) (X0 : V256_1 → Option R) (c1 : C256_1) (rec : V256_1 → Option R) (v1 : V256_1) : Option R := if (decide (v1.1 < c1.2.2.2.2)) = true then if 0 ≤ v1.1 then if v1.1 < (v1.2.length : Int) then ix v1.2 v1.1.toNat fun y3 => rec ((IntKind.i64.wrap (v1.1 + 1)), (v1.2.set v1.1.toNat true)) else none else none else X0 v1
noncomputable def L256_1 {R : Type} (k : Nat) (X0 : V256_1 → Option R) (c : C256_1) : Nat → V256_1 → Option R
  | 0, _ => none
  | n + 1, v => B256_1 k X0 c (L256_1 k X0 c n) v
theorem b256_1 {R : Type} (k n : Nat) (K : Ex → St → Option R) (c1 : C256_1) (v : V256_1) : loopRun [0, 3, 5, 6, 8, 9, 10] (run E (den E k) (lv 256) k (nthLoop Tryz.f256 1)) (n + 1) (St256_1 c1 v) K = B256_1 k (fun (v1 : V256_1) => K (.exit 2) ⟨29, 2, [(3, .c (.ref 0)), (5, .c (.ptr 1 0)), (6, .c (.v (.int .i64 v1.1))), (8, .c (.l 151 s150 c1.1)), (9, .c (.v (.int .i64 c1.2.1))), (10, .c (.v (.int .i64 c1.2.2.1))), (18, .c (.v (.int .i64 v1.1))), (19, .c (.ptr 1 1)), (20, .c (.v (.int .i64 c1.2.2.2.2))), (21, .c (.v (.bool (decide (v1.1 < c1.2.2.2.2)))))], [(0, .arr 4 .b v1.2), (1, .var [.v (.int .i64 c1.2.2.2.1), .v (.int .i64 c1.2.2.2.2)])]⟩) c1 (fun v => loopRun [0, 3, 5, 6, 8, 9, 10] (run E (den E k) (lv 256) k (nthLoop Tryz.f256 1)) n (St256_1 c1 v) K) v := by kernel_rfl
theorem l256_1 {R : Type} (k : Nat) (K : Ex → St → Option R) (c1 : C256_1) : ∀ (n : Nat) (v : V256_1), loopRun [0, 3, 5, 6, 8, 9, 10] (run E (den E k) (lv 256) k (nthLoop Tryz.f256 1)) n (St256_1 c1 v) K = L256_1 k (fun (v1 : V256_1) => K (.exit 2) ⟨29, 2, [(3, .c (.ref 0)), (5, .c (.ptr 1 0)), (6, .c (.v (.int .i64 v1.1))), (8, .c (.l 151 s150 c1.1)), (9, .c (.v (.int .i64 c1.2.1))), (10, .c (.v (.int .i64 c1.2.2.1))), (18, .c (.v (.int .i64 v1.1))), (19, .c (.ptr 1 1)), (20, .c (.v (.int .i64 c1.2.2.2.2))), (21, .c (.v (.bool (decide (v1.1 < c1.2.2.2.2)))))], [(0, .arr 4 .b v1.2), (1, .var [.v (.int .i64 c1.2.2.2.1), .v (.int .i64 c1.2.2.2.2)])]⟩) c1 n v := by
  intro n
  induction n with
  | zero => intro v; rfl
  | succ n ih =>
    intro v
    refine (b256_1 k n K c1 v).trans ?_
    rw [funext ih]
    kernel_rfl
abbrev C256_0 : Type := (List (Int × Int)) × Int
abbrev V256_0 : Type := Int × (List Bool)
def St256_0 (c0 : C256_0) (v0 : V256_0) : St := ⟨29, 1, [(3, .c (.ref 0)), (8, .c (.l 151 s150 c0.1)), (9, .c (.v (.int .i64 c0.2))), (10, .c (.v (.int .i64 v0.1)))], [(0, .arr 4 .b v0.2)]⟩
noncomputable def B256_0 {R : Type} (k : Nat) (X0 : V256_0 → Option R) (c0 : C256_0) (rec : V256_0 → Option R) (v0 : V256_0) : Option R := if (decide (v0.1 < c0.2)) = true then if 0 ≤ v0.1 then ix c0.1 v0.1.toNat fun x1 => (F209 k x1).bind fun p2 => if p2 = true then L256_1 k (fun (v1 : Int × (List Bool)) => rec ((IntKind.i64.wrap (v0.1 + 1)), v1.2)) (c0.1, c0.2, v0.1, x1) k (x1.1, v0.2) else rec ((IntKind.i64.wrap (v0.1 + 1)), v0.2) else none else X0 v0
noncomputable def L256_0 {R : Type} (k : Nat) (X0 : V256_0 → Option R) (c : C256_0) : Nat → V256_0 → Option R
  | 0, _ => none
  | n + 1, v => B256_0 k X0 c (L256_0 k X0 c n) v
theorem bm256_0_0 {R : Type} (k n : Nat) (K : Ex → St → Option R) (c0 : C256_0) (v0 : V256_0) : loopRun [0, 3, 8, 9, 10] (run E (den E k) (lv 256) k (nthLoop Tryz.f256 0)) (n + 1) (St256_0 c0 v0) K = if (decide (v0.1 < c0.2)) = true then if 0 ≤ v0.1 then ix c0.1 v0.1.toNat fun x1 => (F209 k x1).bind fun p2 => if p2 = true then loopRun [0, 3, 5, 6, 8, 9, 10] (run E (den E k) (lv 256) k (nthLoop Tryz.f256 1)) k (St256_1 (c0.1, c0.2, v0.1, x1) (x1.1, v0.2)) (kontAt E (den E k) (lv 256) k (.loop (nthLoop Tryz.f256 0)) (1 - 0) [(n, [0, 3, 8, 9, 10])] K) else loopRun [0, 3, 8, 9, 10] (run E (den E k) (lv 256) k (nthLoop Tryz.f256 0)) n (St256_0 c0 ((IntKind.i64.wrap (v0.1 + 1)), v0.2)) K else none else K (.exit 0) ⟨29, 1, [(3, .c (.ref 0)), (8, .c (.l 151 s150 c0.1)), (9, .c (.v (.int .i64 c0.2))), (10, .c (.v (.int .i64 v0.1))), (11, .c (.v (.bool (decide (v0.1 < c0.2)))))], [(0, .arr 4 .b v0.2)]⟩ := by kernel_rfl
theorem b256_0 {R : Type} (k n : Nat) (K : Ex → St → Option R) (c0 : C256_0) (v : V256_0) : loopRun [0, 3, 8, 9, 10] (run E (den E k) (lv 256) k (nthLoop Tryz.f256 0)) (n + 1) (St256_0 c0 v) K = B256_0 k (fun (v0 : V256_0) => K (.exit 0) ⟨29, 1, [(3, .c (.ref 0)), (8, .c (.l 151 s150 c0.1)), (9, .c (.v (.int .i64 c0.2))), (10, .c (.v (.int .i64 v0.1))), (11, .c (.v (.bool (decide (v0.1 < c0.2)))))], [(0, .arr 4 .b v0.2)]⟩) c0 (fun v => loopRun [0, 3, 8, 9, 10] (run E (den E k) (lv 256) k (nthLoop Tryz.f256 0)) n (St256_0 c0 v) K) v := by
  rw [bm256_0_0]
  simp only [l256_1]
  kernel_rfl
theorem l256_0 {R : Type} (k : Nat) (K : Ex → St → Option R) (c0 : C256_0) : ∀ (n : Nat) (v : V256_0), loopRun [0, 3, 8, 9, 10] (run E (den E k) (lv 256) k (nthLoop Tryz.f256 0)) n (St256_0 c0 v) K = L256_0 k (fun (v0 : V256_0) => K (.exit 0) ⟨29, 1, [(3, .c (.ref 0)), (8, .c (.l 151 s150 c0.1)), (9, .c (.v (.int .i64 c0.2))), (10, .c (.v (.int .i64 v0.1))), (11, .c (.v (.bool (decide (v0.1 < c0.2)))))], [(0, .arr 4 .b v0.2)]⟩) c0 n v := by
  intro n
  induction n with
  | zero => intro v; rfl
  | succ n ih =>
    intro v
    refine (b256_0 k n K c0 v).trans ?_
    rw [funext ih]
    kernel_rfl
theorem m256_0 (k : Nat) (a0 : List (Int × Int)) : F256 (k + 1) a0 = loopRun (R := List Bool) [0, 3, 8, 9, 10] (run E (den E k) (lv 256) k (nthLoop Tryz.f256 0)) k (St256_0 (a0, (a0.length : Int)) (0, (List.replicate (1000 : Int).toNat (false : Bool)))) (kontAt E (den E k) (lv 256) k (bodyOf Tryz.f256) 0 [] (finish E (rs 256) Tryz.f256 : Ex → St → Option (List Bool))) := by kernel_rfl
theorem e256 (k : Nat) (a0 : List (Int × Int)) : F256 (k + 1) a0 = L256_0 k (fun (v0 : Int × (List Bool)) => some v0.2) (a0, (a0.length : Int)) k (0, (List.replicate (1000 : Int).toNat (false : Bool))) := by
  rw [m256_0]
  simp only [l256_0]
  kernel_rfl
/-! loop.example/g00599/impl.needs -/
noncomputable def F176 (k : Nat) (a0 : Int × Int × Int × Int × Int × Int) (a1 : List (Int × Int)) (a2 : Int) (a3 : Int) : Option (List Int) := den E k 176 [.agg [.v (.int .i64 a0.1), .v (.int .i64 a0.2.1), .v (.int .i64 a0.2.2.1), .v (.int .i64 a0.2.2.2.1), .v (.int .i64 a0.2.2.2.2.1), .v (.int .i64 a0.2.2.2.2.2)], .c (.l 151 s150 a1), .c (.v (.int .i64 a2)), .c (.v (.int .i64 a3))]
abbrev C176_0 : Type := Int × (List Bool) × (Int × Int × Int × Int × Int × Int)
abbrev V176_0 : Type := Int × (List Int)
def St176_0 (c0 : C176_0) (v0 : V176_0) : St := ⟨77, 2, [(2, .c (.v (.int .i64 c0.1))), (4, .c (.ptr 0 0)), (9, .c (.l 4 .b c0.2.1)), (10, .c (.ref 1)), (11, .c (.v (.int .i64 v0.1)))], [(0, .var [.v (.int .i64 c0.2.2.1), .v (.int .i64 c0.2.2.2.1), .v (.int .i64 c0.2.2.2.2.1), .v (.int .i64 c0.2.2.2.2.2.1), .v (.int .i64 c0.2.2.2.2.2.2.1), .v (.int .i64 c0.2.2.2.2.2.2.2)]), (1, .arr 3 (.i .i64) v0.2)]⟩
noncomputable def B176_0 {R : Type} (k : Nat) (X0 : V176_0 → Option R) (c0 : C176_0) (rec : V176_0 → Option R) (v0 : V176_0) : Option R := if (decide (v0.1 ≥ c0.1)) = true then if 0 ≤ (IntKind.i64.wrap ((IntKind.i64.wrap (v0.1 - c0.1)) + 1)) then if (IntKind.i64.wrap ((IntKind.i64.wrap (v0.1 - c0.1)) + 1)) < (v0.2.length : Int) then ix v0.2 ((IntKind.i64.wrap ((IntKind.i64.wrap (v0.1 - c0.1)) + 1)).toNat) fun x4 => if 0 ≤ v0.1 then ix c0.2.1 v0.1.toNat fun x5 => if x5 = true then if 0 ≤ (IntKind.i64.wrap (v0.1 - c0.1)) then if (IntKind.i64.wrap (v0.1 - c0.1)) < (v0.2.length : Int) then ix v0.2 ((IntKind.i64.wrap (v0.1 - c0.1)).toNat) fun y6 => rec ((IntKind.i64.wrap (v0.1 - 1)), (v0.2.set ((IntKind.i64.wrap (v0.1 - c0.1)).toNat) (mx 0 (IntKind.i64.wrap ((IntKind.i64.wrap (x4 + c0.2.2.2.2.2.1)) - c0.2.2.2.2.2.2.2))))) else none else none else if 0 ≤ (IntKind.i64.wrap (v0.1 - c0.1)) then if (IntKind.i64.wrap (v0.1 - c0.1)) < (v0.2.length : Int) then ix v0.2 ((IntKind.i64.wrap (v0.1 - c0.1)).toNat) fun y7 => rec ((IntKind.i64.wrap (v0.1 - 1)), (v0.2.set ((IntKind.i64.wrap (v0.1 - c0.1)).toNat) (mx 0 (IntKind.i64.wrap (x4 + c0.2.2.2.2.2.1))))) else none else none else none else none else none else X0 v0
noncomputable def L176_0 {R : Type} (k : Nat) (X0 : V176_0 → Option R) (c : C176_0) : Nat → V176_0 → Option R
  | 0, _ => none
  | n + 1, v => B176_0 k X0 c (L176_0 k X0 c n) v
theorem b176_0 {R : Type} (k n : Nat) (K : Ex → St → Option R) (c0 : C176_0) (v : V176_0) : loopRun [0, 2, 4, 9, 10, 11] (run E (den E k) (lv 176) k (nthLoop Tryz.f176 0)) (n + 1) (St176_0 c0 v) K = B176_0 k (fun (v0 : V176_0) => K (.exit 0) ⟨77, 2, [(2, .c (.v (.int .i64 c0.1))), (4, .c (.ptr 0 0)), (9, .c (.l 4 .b c0.2.1)), (10, .c (.ref 1)), (11, .c (.v (.int .i64 v0.1))), (46, .c (.v (.int .i64 v0.1))), (47, .c (.v (.int .i64 c0.1))), (48, .c (.v (.bool (decide (v0.1 ≥ c0.1)))))], [(0, .var [.v (.int .i64 c0.2.2.1), .v (.int .i64 c0.2.2.2.1), .v (.int .i64 c0.2.2.2.2.1), .v (.int .i64 c0.2.2.2.2.2.1), .v (.int .i64 c0.2.2.2.2.2.2.1), .v (.int .i64 c0.2.2.2.2.2.2.2)]), (1, .arr 3 (.i .i64) v0.2)]⟩) c0 (fun v => loopRun [0, 2, 4, 9, 10, 11] (run E (den E k) (lv 176) k (nthLoop Tryz.f176 0)) n (St176_0 c0 v) K) v := by kernel_rfl
theorem l176_0 {R : Type} (k : Nat) (K : Ex → St → Option R) (c0 : C176_0) : ∀ (n : Nat) (v : V176_0), loopRun [0, 2, 4, 9, 10, 11] (run E (den E k) (lv 176) k (nthLoop Tryz.f176 0)) n (St176_0 c0 v) K = L176_0 k (fun (v0 : V176_0) => K (.exit 0) ⟨77, 2, [(2, .c (.v (.int .i64 c0.1))), (4, .c (.ptr 0 0)), (9, .c (.l 4 .b c0.2.1)), (10, .c (.ref 1)), (11, .c (.v (.int .i64 v0.1))), (46, .c (.v (.int .i64 v0.1))), (47, .c (.v (.int .i64 c0.1))), (48, .c (.v (.bool (decide (v0.1 ≥ c0.1)))))], [(0, .var [.v (.int .i64 c0.2.2.1), .v (.int .i64 c0.2.2.2.1), .v (.int .i64 c0.2.2.2.2.1), .v (.int .i64 c0.2.2.2.2.2.1), .v (.int .i64 c0.2.2.2.2.2.2.1), .v (.int .i64 c0.2.2.2.2.2.2.2)]), (1, .arr 3 (.i .i64) v0.2)]⟩) c0 n v := by
  intro n
  induction n with
  | zero => intro v; rfl
  | succ n ih =>
    intro v
    refine (b176_0 k n K c0 v).trans ?_
    rw [funext ih]
    kernel_rfl
theorem m176_0 (k : Nat) (a0 : Int × Int × Int × Int × Int × Int) (a1 : List (Int × Int)) (a2 : Int) (a3 : Int) : F176 (k + 1) a0 a1 a2 a3 = (F135 k a0.2.2.2.1 0 100).bind fun p1 => if ((!p1) == false) = true then (F135 k a0.2.2.2.2.2 0 100).bind fun p2 => if ((!p2) == false) = true then if ((decide (a2 < 0)) == false) = true then if ((decide (a3 > 1000)) == false) = true then if (decide (a2 ≥ a3)) = true then some ([0]) else (F256 k a1).bind fun p3 => if (IntKind.i64.wrap ((IntKind.i64.wrap (a3 - a2)) + 1)) = (IntKind.i64.wrap ((IntKind.i64.wrap (a3 - a2)) + 1)) then if 0 ≤ (IntKind.i64.wrap ((IntKind.i64.wrap (a3 - a2)) + 1)) then if 8 * (IntKind.i64.wrap ((IntKind.i64.wrap (a3 - a2)) + 1)).toNat ≤ 281474976710656 then loopRun (R := List Int) [0, 2, 4, 9, 10, 11] (run E (den E k) (lv 176) k (nthLoop Tryz.f176 0)) k (St176_0 (a2, p3, a0) ((IntKind.i64.wrap (a3 - 1)), (List.replicate (IntKind.i64.wrap ((IntKind.i64.wrap (a3 - a2)) + 1)).toNat (0 : Int)))) (kontAt E (den E k) (lv 176) k (bodyOf Tryz.f176) 0 [] (finish E (rs 176) Tryz.f176 : Ex → St → Option (List Int))) else none else none else none else some ([0]) else some ([0]) else some ([0]) else some ([0]) := by kernel_rfl
theorem e176 (k : Nat) (a0 : Int × Int × Int × Int × Int × Int) (a1 : List (Int × Int)) (a2 : Int) (a3 : Int) : F176 (k + 1) a0 a1 a2 a3 = (F135 k a0.2.2.2.1 0 100).bind fun p1 => if ((!p1) == false) = true then (F135 k a0.2.2.2.2.2 0 100).bind fun p2 => if ((!p2) == false) = true then if ((decide (a2 < 0)) == false) = true then if ((decide (a3 > 1000)) == false) = true then if (decide (a2 ≥ a3)) = true then some ([0]) else (F256 k a1).bind fun p3 => if (IntKind.i64.wrap ((IntKind.i64.wrap (a3 - a2)) + 1)) = (IntKind.i64.wrap ((IntKind.i64.wrap (a3 - a2)) + 1)) then if 0 ≤ (IntKind.i64.wrap ((IntKind.i64.wrap (a3 - a2)) + 1)) then if 8 * (IntKind.i64.wrap ((IntKind.i64.wrap (a3 - a2)) + 1)).toNat ≤ 281474976710656 then L176_0 k (fun (v0 : Int × (List Int)) => some v0.2) (a2, p3, a0) k ((IntKind.i64.wrap (a3 - 1)), (List.replicate (IntKind.i64.wrap ((IntKind.i64.wrap (a3 - a2)) + 1)).toNat (0 : Int))) else none else none else none else some ([0]) else some ([0]) else some ([0]) else some ([0]) := by
  rw [m176_0]
  simp only [l176_0]
  kernel_rfl
/-! loop.example/g00599/impl.NeedAt -/
noncomputable def F95 (k : Nat) (a0 : Int × Int × Int × Int × Int × Int) (a1 : List (Int × Int)) (a2 : Int) (a3 : Int) : Option (Int) := den E k 95 [.agg [.v (.int .i64 a0.1), .v (.int .i64 a0.2.1), .v (.int .i64 a0.2.2.1), .v (.int .i64 a0.2.2.2.1), .v (.int .i64 a0.2.2.2.2.1), .v (.int .i64 a0.2.2.2.2.2)], .c (.l 151 s150 a1), .c (.v (.int .i64 a2)), .c (.v (.int .i64 a3))]
theorem e95 (k : Nat) (a0 : Int × Int × Int × Int × Int × Int) (a1 : List (Int × Int)) (a2 : Int) (a3 : Int) : F95 (k + 1) a0 a1 a2 a3 = (F176 k a0 a1 a2 a3).bind fun p1 => if 0 < (p1.length : Int) then ix p1 ((0 : Int).toNat) fun x2 => some x2 else none := by kernel_rfl
/-! loop.example/g00599/impl.NeedNow -/
noncomputable def F24 (k : Nat) (a0 : T40) (a1 : Int) : Option (Int) := den E k 24 [.agg [.v (.int .i64 a0.1.1), .l 262 s75 a0.1.2.1, .l 266 s265 a0.1.2.2.1, .v (.int .i64 a0.1.2.2.2.1), .v (.int .i64 a0.1.2.2.2.2.1), .v (.int .i64 a0.1.2.2.2.2.2.1), .v (.int .i64 a0.1.2.2.2.2.2.2.1), .v (.int .i64 a0.1.2.2.2.2.2.2.2.1), .l 272 s271 a0.1.2.2.2.2.2.2.2.2.1, .v (.int .i64 a0.1.2.2.2.2.2.2.2.2.2), .v (.int .i64 a0.2.1.1), .v (.int .i64 a0.2.1.2.1), .v (.int .i64 a0.2.1.2.2.1), .l 247 s246 a0.2.1.2.2.2, .l 3 (.i .i64) a0.2.2.1, .l 3 (.i .i64) a0.2.2.2.1, .l 141 s140 a0.2.2.2.2.1, .l 158 s157 a0.2.2.2.2.2.1, .l 86 s75 a0.2.2.2.2.2.2.1, .l 3 (.i .i64) a0.2.2.2.2.2.2.2.1, .l 166 s165 a0.2.2.2.2.2.2.2.2.1, .l 79 s75 a0.2.2.2.2.2.2.2.2.2.1, .v (.int .i64 a0.2.2.2.2.2.2.2.2.2.2.1), .v (.int .i64 a0.2.2.2.2.2.2.2.2.2.2.2.1), .l 155 s140 a0.2.2.2.2.2.2.2.2.2.2.2.2.1, .l 94 s75 a0.2.2.2.2.2.2.2.2.2.2.2.2.2], .c (.v (.int .i64 a1))]
theorem e24 (k : Nat) (a0 : T40) (a1 : Int) : F24 (k + 1) a0 a1 = (F94 k a1 (a0.2.2.2.2.1.length : Int)).bind fun p1 => if (!p1) = true then some 0 else if 0 ≤ a1 then ix a0.2.2.2.2.1 a1.toNat fun x2 => (F32 k a0 a1).bind fun p3 => (F95 k x2 p3 a0.2.2.2.2.2.2.2.2.2.2.1 a0.2.2.2.2.2.2.2.2.2.2.2.1).bind fun p4 => some p4 else none := by kernel_rfl
/-! loop.example/g00599/laws.FnExactNeedNow -/
noncomputable def F4 (k : Nat) (a0 : T40) (a1 : Int) : Option (Bool) := den E k 4 [.agg [.v (.int .i64 a0.1.1), .l 264 s75 a0.1.2.1, .l 268 s265 a0.1.2.2.1, .v (.int .i64 a0.1.2.2.2.1), .v (.int .i64 a0.1.2.2.2.2.1), .v (.int .i64 a0.1.2.2.2.2.2.1), .v (.int .i64 a0.1.2.2.2.2.2.2.1), .v (.int .i64 a0.1.2.2.2.2.2.2.2.1), .l 276 s271 a0.1.2.2.2.2.2.2.2.2.1, .v (.int .i64 a0.1.2.2.2.2.2.2.2.2.2), .v (.int .i64 a0.2.1.1), .v (.int .i64 a0.2.1.2.1), .v (.int .i64 a0.2.1.2.2.1), .l 260 s259 a0.2.1.2.2.2, .l 3 (.i .i64) a0.2.2.1, .l 3 (.i .i64) a0.2.2.2.1, .l 188 s140 a0.2.2.2.2.1, .l 180 s179 a0.2.2.2.2.2.1, .l 84 s75 a0.2.2.2.2.2.2.1, .l 3 (.i .i64) a0.2.2.2.2.2.2.2.1, .l 182 s165 a0.2.2.2.2.2.2.2.2.1, .l 76 s75 a0.2.2.2.2.2.2.2.2.2.1, .v (.int .i64 a0.2.2.2.2.2.2.2.2.2.2.1), .v (.int .i64 a0.2.2.2.2.2.2.2.2.2.2.2.1), .l 192 s140 a0.2.2.2.2.2.2.2.2.2.2.2.2.1, .l 92 s75 a0.2.2.2.2.2.2.2.2.2.2.2.2.2], .c (.v (.int .i64 a1))]
theorem e4 (k : Nat) (a0 : T40) (a1 : Int) : F4 (k + 1) a0 a1 = (F14 k a0 1048576).bind fun p1 => if (decide (p1 < 0)) = true then some true else (F16 k a0).bind fun p2 => (F23 k p2 a1).bind fun p3 => (F16 k a0).bind fun p4 => (F24 k p4 a1).bind fun p5 => if (p5 != p3) = true then some false else (F16 k a0).bind fun p6 => (F19 k p4 p6).bind fun p7 => if (!p7) = true then some false else some true := by kernel_rfl
/-! loop.example/g00599/spec.l31Now -/
noncomputable def F184 (k : Nat) (a0 : Int × Int × Int × Int) (a1 : Int) : Option (Bool) := den E k 184 [.agg [.v (.int .i64 a0.1), .v (.int .i64 a0.2.1), .v (.int .i64 a0.2.2.1), .v (.int .i64 a0.2.2.2)], .c (.v (.int .i64 a1))]
theorem e184 (k : Nat) (a0 : Int × Int × Int × Int) (a1 : Int) : F184 (k + 1) a0 a1 = (F255 k a0.2.2 a1).bind fun p1 => some p1 := by kernel_rfl
/-! loop.example/g00599/spec.IsDown -/
noncomputable def F101 (k : Nat) (a0 : List (Int × Int × Int × Int)) (a1 : Int) (a2 : Int) : Option (Bool) := den E k 101 [.c (.l 79 s75 a0), .c (.v (.int .i64 a1)), .c (.v (.int .i64 a2))]
abbrev C101_0 : Type := (List (Int × Int × Int × Int)) × Int × Int
abbrev V101_0 : Type := Int
def St101_0 (c0 : C101_0) (v0 : V101_0) : St := ⟨37, 0, [(0, .c (.l 79 s75 c0.1)), (1, .c (.v (.int .i64 c0.2.1))), (2, .c (.v (.int .i64 c0.2.2))), (7, .c (.v (.int .i64 v0)))], []⟩
noncomputable def B101_0 {R : Type} (k : Nat) (X0 : V101_0 → (Int × Int × Int × Int) → (Int × Int × Int × Int) → (Int × Int × Int × Int) → Bool → Option R) (X1 : V101_0 → Option R) (c0 : C101_0) (rec : V101_0 → Option R) (v0 : V101_0) : Option R := if (decide (v0 < (c0.1.length : Int))) = true then if 0 ≤ v0 then ix c0.1 v0.toNat fun x1 => if ((x1.1 == c0.2.1) == true) = true then if 0 ≤ v0 then ix c0.1 v0.toNat fun x2 => if ((x2.2.1 == -1) == true) = true then if 0 ≤ v0 then ix c0.1 v0.toNat fun x3 => (F184 k x3 c0.2.2).bind fun p4 => if p4 = true then X0 v0 x1 x2 x3 p4 else rec (IntKind.i64.wrap (v0 + 1)) else none else rec (IntKind.i64.wrap (v0 + 1)) else none else rec (IntKind.i64.wrap (v0 + 1)) else none else X1 v0
noncomputable def L101_0 {R : Type} (k : Nat) (X0 : V101_0 → (Int × Int × Int × Int) → (Int × Int × Int × Int) → (Int × Int × Int × Int) → Bool → Option R) (X1 : V101_0 → Option R) (c : C101_0) : Nat → V101_0 → Option R
  | 0, _ => none
  | n + 1, v => B101_0 k X0 X1 c (L101_0 k X0 X1 c n) v
theorem b101_0 {R : Type} (k n : Nat) (K : Ex → St → Option R) (c0 : C101_0) (v : V101_0) : loopRun [0, 0, 1, 2, 7] (run E (den E k) (lv 101) k (nthLoop Tryz.f101 0)) (n + 1) (St101_0 c0 v) K = B101_0 k (fun (v0 : V101_0) (x1 : Int × Int × Int × Int) (x2 : Int × Int × Int × Int) (x3 : Int × Int × Int × Int) (p4 : Bool) => K .ret ⟨37, 0, [(0, .c (.l 79 s75 c0.1)), (1, .c (.v (.int .i64 c0.2.1))), (2, .c (.v (.int .i64 c0.2.2))), (6, .c (.v (.bool true))), (7, .c (.v (.int .i64 v0))), (8, .c (.v (.int .i64 v0))), (9, .c (.l 79 s75 c0.1)), (10, .c (.v (.int .i64 (c0.1.length : Int)))), (11, .c (.v (.bool (decide (v0 < (c0.1.length : Int)))))), (14, .c (.l 79 s75 c0.1)), (15, .c (.v (.int .i64 v0))), (16, .c (.at_ [.v (.int .i64 x1.1), .v (.int .i64 x1.2.1), .v (.int .i64 x1.2.2.1), .v (.int .i64 x1.2.2.2)])), (17, .c (.at_ [.v (.int .i64 x1.1), .v (.int .i64 x1.2.1), .v (.int .i64 x1.2.2.1), .v (.int .i64 x1.2.2.2)])), (18, .c (.v (.int .i64 x1.1))), (19, .c (.v (.int .i64 c0.2.1))), (20, .c (.v (.bool (x1.1 == c0.2.1)))), (21, .c (.v (.bool true))), (22, .c (.l 79 s75 c0.1)), (23, .c (.v (.int .i64 v0))), (24, .c (.at_ [.v (.int .i64 x2.1), .v (.int .i64 x2.2.1), .v (.int .i64 x2.2.2.1), .v (.int .i64 x2.2.2.2)])), (25, .c (.at_ [.v (.int .i64 x2.2.1), .v (.int .i64 x2.2.2.1), .v (.int .i64 x2.2.2.2)])), (26, .c (.v (.int .i64 x2.2.1))), (27, .c (.v (.bool (x2.2.1 == -1)))), (28, .c (.v (.bool (x2.2.1 == -1)))), (29, .c (.v (.bool true))), (30, .c (.l 79 s75 c0.1)), (31, .c (.v (.int .i64 v0))), (32, .c (.at_ [.v (.int .i64 x3.1), .v (.int .i64 x3.2.1), .v (.int .i64 x3.2.2.1), .v (.int .i64 x3.2.2.2)])), (33, .agg [.v (.int .i64 x3.1), .v (.int .i64 x3.2.1), .v (.int .i64 x3.2.2.1), .v (.int .i64 x3.2.2.2)]), (34, .c (.v (.int .i64 c0.2.2))), (35, .c (.v (.bool p4))), (36, .c (.v (.bool p4)))], []⟩) (fun (v0 : V101_0) => K (.exit 0) ⟨37, 0, [(0, .c (.l 79 s75 c0.1)), (1, .c (.v (.int .i64 c0.2.1))), (2, .c (.v (.int .i64 c0.2.2))), (7, .c (.v (.int .i64 v0))), (8, .c (.v (.int .i64 v0))), (9, .c (.l 79 s75 c0.1)), (10, .c (.v (.int .i64 (c0.1.length : Int)))), (11, .c (.v (.bool (decide (v0 < (c0.1.length : Int))))))], []⟩) c0 (fun v => loopRun [0, 0, 1, 2, 7] (run E (den E k) (lv 101) k (nthLoop Tryz.f101 0)) n (St101_0 c0 v) K) v := by kernel_rfl
theorem l101_0 {R : Type} (k : Nat) (K : Ex → St → Option R) (c0 : C101_0) : ∀ (n : Nat) (v : V101_0), loopRun [0, 0, 1, 2, 7] (run E (den E k) (lv 101) k (nthLoop Tryz.f101 0)) n (St101_0 c0 v) K = L101_0 k (fun (v0 : V101_0) (x1 : Int × Int × Int × Int) (x2 : Int × Int × Int × Int) (x3 : Int × Int × Int × Int) (p4 : Bool) => K .ret ⟨37, 0, [(0, .c (.l 79 s75 c0.1)), (1, .c (.v (.int .i64 c0.2.1))), (2, .c (.v (.int .i64 c0.2.2))), (6, .c (.v (.bool true))), (7, .c (.v (.int .i64 v0))), (8, .c (.v (.int .i64 v0))), (9, .c (.l 79 s75 c0.1)), (10, .c (.v (.int .i64 (c0.1.length : Int)))), (11, .c (.v (.bool (decide (v0 < (c0.1.length : Int)))))), (14, .c (.l 79 s75 c0.1)), (15, .c (.v (.int .i64 v0))), (16, .c (.at_ [.v (.int .i64 x1.1), .v (.int .i64 x1.2.1), .v (.int .i64 x1.2.2.1), .v (.int .i64 x1.2.2.2)])), (17, .c (.at_ [.v (.int .i64 x1.1), .v (.int .i64 x1.2.1), .v (.int .i64 x1.2.2.1), .v (.int .i64 x1.2.2.2)])), (18, .c (.v (.int .i64 x1.1))), (19, .c (.v (.int .i64 c0.2.1))), (20, .c (.v (.bool (x1.1 == c0.2.1)))), (21, .c (.v (.bool true))), (22, .c (.l 79 s75 c0.1)), (23, .c (.v (.int .i64 v0))), (24, .c (.at_ [.v (.int .i64 x2.1), .v (.int .i64 x2.2.1), .v (.int .i64 x2.2.2.1), .v (.int .i64 x2.2.2.2)])), (25, .c (.at_ [.v (.int .i64 x2.2.1), .v (.int .i64 x2.2.2.1), .v (.int .i64 x2.2.2.2)])), (26, .c (.v (.int .i64 x2.2.1))), (27, .c (.v (.bool (x2.2.1 == -1)))), (28, .c (.v (.bool (x2.2.1 == -1)))), (29, .c (.v (.bool true))), (30, .c (.l 79 s75 c0.1)), (31, .c (.v (.int .i64 v0))), (32, .c (.at_ [.v (.int .i64 x3.1), .v (.int .i64 x3.2.1), .v (.int .i64 x3.2.2.1), .v (.int .i64 x3.2.2.2)])), (33, .agg [.v (.int .i64 x3.1), .v (.int .i64 x3.2.1), .v (.int .i64 x3.2.2.1), .v (.int .i64 x3.2.2.2)]), (34, .c (.v (.int .i64 c0.2.2))), (35, .c (.v (.bool p4))), (36, .c (.v (.bool p4)))], []⟩) (fun (v0 : V101_0) => K (.exit 0) ⟨37, 0, [(0, .c (.l 79 s75 c0.1)), (1, .c (.v (.int .i64 c0.2.1))), (2, .c (.v (.int .i64 c0.2.2))), (7, .c (.v (.int .i64 v0))), (8, .c (.v (.int .i64 v0))), (9, .c (.l 79 s75 c0.1)), (10, .c (.v (.int .i64 (c0.1.length : Int)))), (11, .c (.v (.bool (decide (v0 < (c0.1.length : Int))))))], []⟩) c0 n v := by
  intro n
  induction n with
  | zero => intro v; rfl
  | succ n ih =>
    intro v
    refine (b101_0 k n K c0 v).trans ?_
    rw [funext ih]
    kernel_rfl
theorem m101_0 (k : Nat) (a0 : List (Int × Int × Int × Int)) (a1 : Int) (a2 : Int) : F101 (k + 1) a0 a1 a2 = loopRun (R := Bool) [0, 0, 1, 2, 7] (run E (den E k) (lv 101) k (nthLoop Tryz.f101 0)) k (St101_0 (a0, a1, a2) 0) (kontAt E (den E k) (lv 101) k (bodyOf Tryz.f101) 0 [] (finish E (rs 101) Tryz.f101 : Ex → St → Option (Bool))) := by kernel_rfl
theorem e101 (k : Nat) (a0 : List (Int × Int × Int × Int)) (a1 : Int) (a2 : Int) : F101 (k + 1) a0 a1 a2 = L101_0 k (fun (v0 : Int) (x1 : Int × Int × Int × Int) (x2 : Int × Int × Int × Int) (x3 : Int × Int × Int × Int) (p4 : Bool) => some true) (fun (v0 : Int) => some false) (a0, a1, a2) k 0 := by
  rw [m101_0]
  simp only [l101_0]
  kernel_rfl
/-! loop.example/g00599/spec.IsBattery -/
noncomputable def F185 (k : Nat) (a0 : Int × Int × Int × Int × Int × Int) : Option (Bool) := den E k 185 [.agg [.v (.int .i64 a0.1), .v (.int .i64 a0.2.1), .v (.int .i64 a0.2.2.1), .v (.int .i64 a0.2.2.2.1), .v (.int .i64 a0.2.2.2.2.1), .v (.int .i64 a0.2.2.2.2.2)]]
theorem e185 (k : Nat) (a0 : Int × Int × Int × Int × Int × Int) : F185 (k + 1) a0 = (F173 k a0).bind fun p1 => if (p1 == true) = true then (F92 k a0.2.2.2.2.1 0 100).bind fun p2 => if (p2 == true) = true then (F92 k a0.2.1 0 10000).bind fun p3 => if (p3 == true) = true then (F92 k a0.2.2.1 0 a0.2.1).bind fun p4 => if (p4 == true) = true then (F92 k a0.1 a0.2.2.1 a0.2.1).bind fun p5 => some p5 else some false else some false else some false else some false := by kernel_rfl
/-! loop.example/g00599/spec.MaySend -/
noncomputable def F102 (k : Nat) (a0 : Int × Int × Int × Int × Int × Int) (a1 : Int) : Option (Bool) := den E k 102 [.agg [.v (.int .i64 a0.1), .v (.int .i64 a0.2.1), .v (.int .i64 a0.2.2.1), .v (.int .i64 a0.2.2.2.1), .v (.int .i64 a0.2.2.2.2.1), .v (.int .i64 a0.2.2.2.2.2)], .c (.v (.int .i64 a1))]
theorem e102 (k : Nat) (a0 : Int × Int × Int × Int × Int × Int) (a1 : Int) : F102 (k + 1) a0 a1 = (F185 k a0).bind fun p1 => if (p1 == true) = true then (F92 k a1 0 10000).bind fun p2 => if (p2 == true) = true then some (decide ((IntKind.i64.wrap (a0.1 - a0.2.2.2.2.1)) ≥ (IntKind.i64.wrap (a0.2.2.1 + a1)))) else some false else some false := by kernel_rfl
/-! loop.example/g00599/spec.CanSend -/
noncomputable def F29 (k : Nat) (a0 : T40) (a1 : Int) : Option (Bool) := den E k 29 [.agg [.v (.int .i64 a0.1.1), .l 262 s75 a0.1.2.1, .l 266 s265 a0.1.2.2.1, .v (.int .i64 a0.1.2.2.2.1), .v (.int .i64 a0.1.2.2.2.2.1), .v (.int .i64 a0.1.2.2.2.2.2.1), .v (.int .i64 a0.1.2.2.2.2.2.2.1), .v (.int .i64 a0.1.2.2.2.2.2.2.2.1), .l 272 s271 a0.1.2.2.2.2.2.2.2.2.1, .v (.int .i64 a0.1.2.2.2.2.2.2.2.2.2), .v (.int .i64 a0.2.1.1), .v (.int .i64 a0.2.1.2.1), .v (.int .i64 a0.2.1.2.2.1), .l 247 s246 a0.2.1.2.2.2, .l 3 (.i .i64) a0.2.2.1, .l 3 (.i .i64) a0.2.2.2.1, .l 141 s140 a0.2.2.2.2.1, .l 158 s157 a0.2.2.2.2.2.1, .l 86 s75 a0.2.2.2.2.2.2.1, .l 3 (.i .i64) a0.2.2.2.2.2.2.2.1, .l 166 s165 a0.2.2.2.2.2.2.2.2.1, .l 79 s75 a0.2.2.2.2.2.2.2.2.2.1, .v (.int .i64 a0.2.2.2.2.2.2.2.2.2.2.1), .v (.int .i64 a0.2.2.2.2.2.2.2.2.2.2.2.1), .l 155 s140 a0.2.2.2.2.2.2.2.2.2.2.2.2.1, .l 94 s75 a0.2.2.2.2.2.2.2.2.2.2.2.2.2], .c (.v (.int .i64 a1))]
theorem e29 (k : Nat) (a0 : T40) (a1 : Int) : F29 (k + 1) a0 a1 = if ((decide (a1 < 0)) == false) = true then if ((decide (a1 ≥ a0.2.1.1)) == false) = true then (F101 k a0.2.2.2.2.2.2.2.2.2.1 a1 a0.2.2.2.2.2.2.2.2.2.2.1).bind fun p1 => if p1 = true then some false else if (decide (a1 ≥ a0.2.1.2.1)) = true then some true else if ((decide (a1 < (a0.2.2.2.2.1.length : Int))) == true) = true then if 0 ≤ a1 then ix a0.2.2.2.2.1 a1.toNat fun x2 => (F23 k a0 a1).bind fun p3 => (F102 k x2 p3).bind fun p4 => some p4 else none else some false else some false else some false := by kernel_rfl
/-! loop.example/g00599/impl.InSpan -/
noncomputable def F186 (k : Nat) (a0 : Int × Int) (a1 : Int) : Option (Bool) := den E k 186 [.agg [.v (.int .i64 a0.1), .v (.int .i64 a0.2)], .c (.v (.int .i64 a1))]
theorem e186 (k : Nat) (a0 : Int × Int) (a1 : Int) : F186 (k + 1) a0 a1 = (F209 k a0).bind fun p1 => if (p1 == true) = true then if ((decide (a0.1 ≤ a1)) == true) = true then some (decide (a1 < a0.2)) else some false else some false := by kernel_rfl
/-! loop.example/g00599/impl.IsDown -/
noncomputable def F103 (k : Nat) (a0 : List (Int × Int × Int × Int)) (a1 : Int) (a2 : Int) : Option (Bool) := den E k 103 [.c (.l 79 s75 a0), .c (.v (.int .i64 a1)), .c (.v (.int .i64 a2))]
abbrev C103_0 : Type := Int × Int × (List (Int × Int × Int × Int)) × Int
abbrev V103_0 : Type := Int
def St103_0 (c0 : C103_0) (v0 : V103_0) : St := ⟨34, 0, [(1, .c (.v (.int .i64 c0.1))), (2, .c (.v (.int .i64 c0.2.1))), (9, .c (.l 79 s75 c0.2.2.1)), (10, .c (.v (.int .i64 c0.2.2.2))), (11, .c (.v (.int .i64 v0)))], []⟩
noncomputable def B103_0 {R : Type} (k : Nat) (X0 : V103_0 → (Int × Int × Int × Int) → Bool → Option R) (X1 : V103_0 → Option R) (c0 : C103_0) (rec : V103_0 → Option R) (v0 : V103_0) : Option R := if (decide (v0 < c0.2.2.2)) = true then if 0 ≤ v0 then ix c0.2.2.1 v0.toNat fun x1 => if ((x1.1 == c0.1) == true) = true then if ((x1.2.1 == -1) == true) = true then (F186 k x1.2.2 c0.2.1).bind fun p2 => if p2 = true then X0 v0 x1 p2 else rec (IntKind.i64.wrap (v0 + 1)) else rec (IntKind.i64.wrap (v0 + 1)) else rec (IntKind.i64.wrap (v0 + 1)) else none else X1 v0
noncomputable def L103_0 {R : Type} (k : Nat) (X0 : V103_0 → (Int × Int × Int × Int) → Bool → Option R) (X1 : V103_0 → Option R) (c : C103_0) : Nat → V103_0 → Option R
  | 0, _ => none
  | n + 1, v => B103_0 k X0 X1 c (L103_0 k X0 X1 c n) v
theorem b103_0 {R : Type} (k n : Nat) (K : Ex → St → Option R) (c0 : C103_0) (v : V103_0) : loopRun [0, 1, 2, 9, 10, 11] (run E (den E k) (lv 103) k (nthLoop Tryz.f103 0)) (n + 1) (St103_0 c0 v) K = B103_0 k (fun (v0 : V103_0) (x1 : Int × Int × Int × Int) (p2 : Bool) => K .ret ⟨34, 1, [(1, .c (.v (.int .i64 c0.1))), (2, .c (.v (.int .i64 c0.2.1))), (6, .c (.v (.bool true))), (8, .c (.ptr 0 0)), (9, .c (.l 79 s75 c0.2.2.1)), (10, .c (.v (.int .i64 c0.2.2.2))), (11, .c (.v (.int .i64 v0))), (12, .c (.v (.bool (decide (v0 < c0.2.2.2))))), (13, .c (.at_ [.v (.int .i64 x1.1), .v (.int .i64 x1.2.1), .v (.int .i64 x1.2.2.1), .v (.int .i64 x1.2.2.2)])), (14, .agg [.v (.int .i64 x1.1), .v (.int .i64 x1.2.1), .v (.int .i64 x1.2.2.1), .v (.int .i64 x1.2.2.2)]), (15, .c (.ptr 0 0)), (16, .c (.v (.int .i64 x1.1))), (17, .c (.v (.int .i64 c0.1))), (18, .c (.v (.bool (x1.1 == c0.1)))), (19, .c (.v (.bool true))), (20, .c (.ptr 0 1)), (21, .c (.v (.int .i64 x1.2.1))), (22, .c (.v (.bool (x1.2.1 == -1)))), (23, .c (.v (.bool (x1.2.1 == -1)))), (24, .c (.v (.bool true))), (25, .c (.ptr 0 2)), (26, .c (.v (.int .i64 x1.2.2.1))), (27, .c (.ptr 0 3)), (28, .c (.v (.int .i64 x1.2.2.2))), (29, .agg [.v (.int .i64 x1.2.2.1), .v (.int .i64 x1.2.2.2)]), (30, .c (.v (.int .i64 c0.2.1))), (31, .c (.v (.bool p2))), (32, .c (.v (.bool p2)))], [(0, .var [.v (.int .i64 x1.1), .v (.int .i64 x1.2.1), .v (.int .i64 x1.2.2.1), .v (.int .i64 x1.2.2.2)])]⟩) (fun (v0 : V103_0) => K (.exit 0) ⟨34, 0, [(1, .c (.v (.int .i64 c0.1))), (2, .c (.v (.int .i64 c0.2.1))), (9, .c (.l 79 s75 c0.2.2.1)), (10, .c (.v (.int .i64 c0.2.2.2))), (11, .c (.v (.int .i64 v0))), (12, .c (.v (.bool (decide (v0 < c0.2.2.2)))))], []⟩) c0 (fun v => loopRun [0, 1, 2, 9, 10, 11] (run E (den E k) (lv 103) k (nthLoop Tryz.f103 0)) n (St103_0 c0 v) K) v := by kernel_rfl
theorem l103_0 {R : Type} (k : Nat) (K : Ex → St → Option R) (c0 : C103_0) : ∀ (n : Nat) (v : V103_0), loopRun [0, 1, 2, 9, 10, 11] (run E (den E k) (lv 103) k (nthLoop Tryz.f103 0)) n (St103_0 c0 v) K = L103_0 k (fun (v0 : V103_0) (x1 : Int × Int × Int × Int) (p2 : Bool) => K .ret ⟨34, 1, [(1, .c (.v (.int .i64 c0.1))), (2, .c (.v (.int .i64 c0.2.1))), (6, .c (.v (.bool true))), (8, .c (.ptr 0 0)), (9, .c (.l 79 s75 c0.2.2.1)), (10, .c (.v (.int .i64 c0.2.2.2))), (11, .c (.v (.int .i64 v0))), (12, .c (.v (.bool (decide (v0 < c0.2.2.2))))), (13, .c (.at_ [.v (.int .i64 x1.1), .v (.int .i64 x1.2.1), .v (.int .i64 x1.2.2.1), .v (.int .i64 x1.2.2.2)])), (14, .agg [.v (.int .i64 x1.1), .v (.int .i64 x1.2.1), .v (.int .i64 x1.2.2.1), .v (.int .i64 x1.2.2.2)]), (15, .c (.ptr 0 0)), (16, .c (.v (.int .i64 x1.1))), (17, .c (.v (.int .i64 c0.1))), (18, .c (.v (.bool (x1.1 == c0.1)))), (19, .c (.v (.bool true))), (20, .c (.ptr 0 1)), (21, .c (.v (.int .i64 x1.2.1))), (22, .c (.v (.bool (x1.2.1 == -1)))), (23, .c (.v (.bool (x1.2.1 == -1)))), (24, .c (.v (.bool true))), (25, .c (.ptr 0 2)), (26, .c (.v (.int .i64 x1.2.2.1))), (27, .c (.ptr 0 3)), (28, .c (.v (.int .i64 x1.2.2.2))), (29, .agg [.v (.int .i64 x1.2.2.1), .v (.int .i64 x1.2.2.2)]), (30, .c (.v (.int .i64 c0.2.1))), (31, .c (.v (.bool p2))), (32, .c (.v (.bool p2)))], [(0, .var [.v (.int .i64 x1.1), .v (.int .i64 x1.2.1), .v (.int .i64 x1.2.2.1), .v (.int .i64 x1.2.2.2)])]⟩) (fun (v0 : V103_0) => K (.exit 0) ⟨34, 0, [(1, .c (.v (.int .i64 c0.1))), (2, .c (.v (.int .i64 c0.2.1))), (9, .c (.l 79 s75 c0.2.2.1)), (10, .c (.v (.int .i64 c0.2.2.2))), (11, .c (.v (.int .i64 v0))), (12, .c (.v (.bool (decide (v0 < c0.2.2.2)))))], []⟩) c0 n v := by
  intro n
  induction n with
  | zero => intro v; rfl
  | succ n ih =>
    intro v
    refine (b103_0 k n K c0 v).trans ?_
    rw [funext ih]
    kernel_rfl
theorem m103_0 (k : Nat) (a0 : List (Int × Int × Int × Int)) (a1 : Int) (a2 : Int) : F103 (k + 1) a0 a1 a2 = loopRun (R := Bool) [0, 1, 2, 9, 10, 11] (run E (den E k) (lv 103) k (nthLoop Tryz.f103 0)) k (St103_0 (a1, a2, a0, (a0.length : Int)) 0) (kontAt E (den E k) (lv 103) k (bodyOf Tryz.f103) 0 [] (finish E (rs 103) Tryz.f103 : Ex → St → Option (Bool))) := by kernel_rfl
theorem e103 (k : Nat) (a0 : List (Int × Int × Int × Int)) (a1 : Int) (a2 : Int) : F103 (k + 1) a0 a1 a2 = L103_0 k (fun (v0 : Int) (x1 : Int × Int × Int × Int) (p2 : Bool) => some true) (fun (v0 : Int) => some false) (a1, a2, a0, (a0.length : Int)) k 0 := by
  rw [m103_0]
  simp only [l103_0]
  kernel_rfl
/-! loop.example/g00599/impl.IsBattery -/
noncomputable def F187 (k : Nat) (a0 : Int × Int × Int × Int × Int × Int) : Option (Bool) := den E k 187 [.agg [.v (.int .i64 a0.1), .v (.int .i64 a0.2.1), .v (.int .i64 a0.2.2.1), .v (.int .i64 a0.2.2.2.1), .v (.int .i64 a0.2.2.2.2.1), .v (.int .i64 a0.2.2.2.2.2)]]
theorem e187 (k : Nat) (a0 : Int × Int × Int × Int × Int × Int) : F187 (k + 1) a0 = (F135 k a0.2.2.2.1 0 100).bind fun p1 => if (p1 == true) = true then (F135 k a0.2.2.2.2.1 0 100).bind fun p2 => if (p2 == true) = true then (F135 k a0.2.2.2.2.2 0 100).bind fun p3 => if (p3 == true) = true then (F135 k a0.2.1 0 10000).bind fun p4 => if (p4 == true) = true then (F135 k a0.2.2.1 0 a0.2.1).bind fun p5 => if (p5 == true) = true then (F135 k a0.1 a0.2.2.1 a0.2.1).bind fun p6 => some p6 else some false else some false else some false else some false else some false := by kernel_rfl
/-! loop.example/g00599/impl.MaySend -/
noncomputable def F104 (k : Nat) (a0 : Int × Int × Int × Int × Int × Int) (a1 : Int) : Option (Bool) := den E k 104 [.agg [.v (.int .i64 a0.1), .v (.int .i64 a0.2.1), .v (.int .i64 a0.2.2.1), .v (.int .i64 a0.2.2.2.1), .v (.int .i64 a0.2.2.2.2.1), .v (.int .i64 a0.2.2.2.2.2)], .c (.v (.int .i64 a1))]
theorem e104 (k : Nat) (a0 : Int × Int × Int × Int × Int × Int) (a1 : Int) : F104 (k + 1) a0 a1 = (F187 k a0).bind fun p1 => if (p1 == true) = true then (F135 k a1 0 10000).bind fun p2 => if (p2 == true) = true then some (decide ((IntKind.i64.wrap (a0.1 - a0.2.2.2.2.1)) ≥ (IntKind.i64.wrap (a0.2.2.1 + a1)))) else some false else some false := by kernel_rfl
end Go.Proofs.YtonfioejmldhcaaGreat.World
