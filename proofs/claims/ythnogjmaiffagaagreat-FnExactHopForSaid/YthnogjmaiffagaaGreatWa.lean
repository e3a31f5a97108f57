/- The equations of the functions that a law reaches, part 1. No condition. -/
import Derived.Test.YthnogjmaiffagaaGreatV4
import Derived.Test.YthnogjmaiffagaaGreatProg
import Derived.KernelRfl
namespace Go.Proofs.YthnogjmaiffagaaGreat.World
open Go Go.V Go.Proofs
set_option linter.unusedVariables false
set_option linter.unusedSimpArgs false
set_option maxRecDepth 100000
set_option maxHeartbeats 4000000
abbrev I6 : Type := Int × Int × Int × Int × Int × Int
abbrev I4 : Type := Int × Int × Int × Int
abbrev I3 : Type := Int × Int × Int
abbrev I2 : Type := Int × Int
abbrev TLPiece : Type := I2 × (List I2) × List (Int × (List Int) × List Int)
abbrev zf : Type := I2 × (List I2) × List (Int × (List Int) × List Int)
abbrev TLProgram : Type := Int × Int × Int × List zf
abbrev j2 : Type := Int × Int × Int × List zf
abbrev TLSky : Type := Int × (List I4) × (List I3) × Int × Int × Int × Int × Int × (List I3) × Int
abbrev TSky : Type := Int × (List I4) × (List I3) × Int × Int × Int × Int × Int × (List I3) × Int
abbrev TLWorld : Type := TSky × j2 × (List Int) × (List Int) × (List I6) × (List (List I6)) × (List I4) × (List Int) × (List (Int × Int × List Int)) × (List I4) × Int × Int × (List I6) × List I4
abbrev zn1 : Type := TSky × j2 × (List Int) × (List Int) × (List I6) × (List (List I6)) × (List I4) × (List Int) × (List (Int × Int × List Int)) × (List I4) × Int × Int × (List I6) × List I4
abbrev sI4 : Sh := (.a [(.i .i64), (.i .i64), (.i .i64), (.i .i64)])
abbrev sI3 : Sh := (.a [(.i .i64), (.i .i64), (.i .i64)])
abbrev sI2 : Sh := (.a [(.i .i64), (.i .i64)])
abbrev sZone : Sh := (.a [(.i .i64), sI2])
abbrev sLSky : Sh := (.a [(.i .i64), (.l 226 sI4), (.l 230 sI3), (.i .i64), (.i .i64), (.i .i64), (.i .i64), (.i .i64), (.l 238 sZone), (.i .i64)])
abbrev j8 : Sh := (.a [(.i .i64), (.l 3 (.i .i64)), (.l 3 (.i .i64))])
abbrev yi : Sh := (.a [sI2, (.l 284 sI2), (.l 280 j8)])
abbrev xw : Sh := (.a [(.i .i64), (.i .i64), (.i .i64), (.l 217 yi)])
abbrev sLaw : Sh := (.a [(.l 3 (.i .i64))])
abbrev sI6 : Sh := (.a [(.i .i64), (.i .i64), (.i .i64), (.i .i64), (.i .i64), (.i .i64)])
abbrev vj : Sh := (.a [(.l 178 sI6)])
abbrev z8 : Sh := (.a [(.i .i64), (.i .i64), (.l 3 (.i .i64))])
abbrev xz : Sh := (.a [sLSky, xw, sLaw, (.l 3 (.i .i64)), (.l 166 sI6), (.l 141 vj), (.l 171 sI4), (.l 3 (.i .i64)), (.l 143 z8), (.l 176 sI4), (.i .i64), (.i .i64), (.l 178 sI6), (.l 66 sI4)])
abbrev sSky : Sh := (.a [(.i .i64), (.l 224 sI4), (.l 228 sI3), (.i .i64), (.i .i64), (.i .i64), (.i .i64), (.i .i64), (.l 234 sZone), (.i .i64)])
abbrev xk : Sh := (.a [sI2, (.l 264 sI2), (.l 147 j8)])
abbrev z7 : Sh := (.a [(.i .i64), (.i .i64), (.i .i64), (.l 157 xk)])
abbrev z51 : Sh := (.a [(.l 115 sI6)])
abbrev zl2 : Sh := (.a [sSky, z7, sLaw, (.l 3 (.i .i64)), (.l 164 sI6), (.l 113 z51), (.l 169 sI4), (.l 3 (.i .i64)), (.l 120 z8), (.l 174 sI4), (.i .i64), (.i .i64), (.l 115 sI6), (.l 69 sI4)])
noncomputable def ty : Nat → Option TyI
 | 3 => some ⟨.one, 1, 8, [(.int .i64 0)], (.i .i64)⟩
 | 4 => some ⟨.one, 1, 1, [(.bool false)], .b⟩
 | 22 => some ⟨.slc 226, 1, 24, [(.slice none 0 0)], (.l 226 sI4)⟩
 | 23 => some ⟨.slc 230, 1, 24, [(.slice none 0 0)], (.l 230 sI3)⟩
 | 24 => some ⟨.slc 238, 1, 24, [(.slice none 0 0)], (.l 238 sZone)⟩
 | 26 => some ⟨.agg [(0, 3), (1, 22), (2, 23), (3, 3), (4, 3), (5, 3), (6, 3), (7, 3), (8, 24), (9, 3)], 10, 128, [(.int .i64 0), (.slice none 0 0), (.slice none 0 0), (.int .i64 0), (.int .i64 0), (.int .i64 0), (.int .i64 0), (.int .i64 0), (.slice none 0 0), (.int .i64 0)], sLSky⟩
 | 27 => some ⟨.slc 217, 1, 24, [(.slice none 0 0)], (.l 217 yi)⟩
 | 29 => some ⟨.agg [(0, 3), (1, 3), (2, 3), (3, 27)], 4, 48, [(.int .i64 0), (.int .i64 0), (.int .i64 0), (.slice none 0 0)], xw⟩
 | 30 => some ⟨.slc 3, 1, 24, [(.slice none 0 0)], (.l 3 (.i .i64))⟩
 | 32 => some ⟨.agg [(0, 30)], 1, 24, [(.slice none 0 0)], sLaw⟩
 | 33 => some ⟨.slc 166, 1, 24, [(.slice none 0 0)], (.l 166 sI6)⟩
 | 34 => some ⟨.slc 141, 1, 24, [(.slice none 0 0)], (.l 141 vj)⟩
 | 35 => some ⟨.slc 171, 1, 24, [(.slice none 0 0)], (.l 171 sI4)⟩
 | 36 => some ⟨.slc 143, 1, 24, [(.slice none 0 0)], (.l 143 z8)⟩
 | 37 => some ⟨.slc 176, 1, 24, [(.slice none 0 0)], (.l 176 sI4)⟩
 | 38 => some ⟨.slc 178, 1, 24, [(.slice none 0 0)], (.l 178 sI6)⟩
 | 39 => some ⟨.slc 66, 1, 24, [(.slice none 0 0)], (.l 66 sI4)⟩
 | 41 => some ⟨.agg [(0, 26), (10, 29), (14, 32), (15, 30), (16, 33), (17, 34), (18, 35), (19, 30), (20, 36), (21, 37), (22, 3), (23, 3), (24, 38), (25, 39)], 26, 432, [(.int .i64 0), (.slice none 0 0), (.slice none 0 0), (.int .i64 0), (.int .i64 0), (.int .i64 0), (.int .i64 0), (.int .i64 0), (.slice none 0 0), (.int .i64 0), (.int .i64 0), (.int .i64 0), (.int .i64 0), (.slice none 0 0), (.slice none 0 0), (.slice none 0 0), (.slice none 0 0), (.slice none 0 0), (.slice none 0 0), (.slice none 0 0), (.slice none 0 0), (.slice none 0 0), (.int .i64 0), (.int .i64 0), (.slice none 0 0), (.slice none 0 0)], xz⟩
 | 44 => some ⟨.slc 224, 1, 24, [(.slice none 0 0)], (.l 224 sI4)⟩
 | 45 => some ⟨.slc 228, 1, 24, [(.slice none 0 0)], (.l 228 sI3)⟩
 | 46 => some ⟨.slc 234, 1, 24, [(.slice none 0 0)], (.l 234 sZone)⟩
 | 48 => some ⟨.agg [(0, 3), (1, 44), (2, 45), (3, 3), (4, 3), (5, 3), (6, 3), (7, 3), (8, 46), (9, 3)], 10, 128, [(.int .i64 0), (.slice none 0 0), (.slice none 0 0), (.int .i64 0), (.int .i64 0), (.int .i64 0), (.int .i64 0), (.int .i64 0), (.slice none 0 0), (.int .i64 0)], sSky⟩
 | 49 => some ⟨.slc 157, 1, 24, [(.slice none 0 0)], (.l 157 xk)⟩
 | 51 => some ⟨.agg [(0, 3), (1, 3), (2, 3), (3, 49)], 4, 48, [(.int .i64 0), (.int .i64 0), (.int .i64 0), (.slice none 0 0)], z7⟩
 | 52 => some ⟨.agg [(0, 30)], 1, 24, [(.slice none 0 0)], sLaw⟩
 | 53 => some ⟨.slc 164, 1, 24, [(.slice none 0 0)], (.l 164 sI6)⟩
 | 54 => some ⟨.slc 113, 1, 24, [(.slice none 0 0)], (.l 113 z51)⟩
 | 55 => some ⟨.slc 169, 1, 24, [(.slice none 0 0)], (.l 169 sI4)⟩
 | 56 => some ⟨.slc 120, 1, 24, [(.slice none 0 0)], (.l 120 z8)⟩
 | 57 => some ⟨.slc 174, 1, 24, [(.slice none 0 0)], (.l 174 sI4)⟩
 | 58 => some ⟨.slc 115, 1, 24, [(.slice none 0 0)], (.l 115 sI6)⟩
 | 59 => some ⟨.slc 69, 1, 24, [(.slice none 0 0)], (.l 69 sI4)⟩
 | 61 => some ⟨.agg [(0, 48), (10, 51), (14, 52), (15, 30), (16, 53), (17, 54), (18, 55), (19, 30), (20, 56), (21, 57), (22, 3), (23, 3), (24, 58), (25, 59)], 26, 432, [(.int .i64 0), (.slice none 0 0), (.slice none 0 0), (.int .i64 0), (.int .i64 0), (.int .i64 0), (.int .i64 0), (.int .i64 0), (.slice none 0 0), (.int .i64 0), (.int .i64 0), (.int .i64 0), (.int .i64 0), (.slice none 0 0), (.slice none 0 0), (.slice none 0 0), (.slice none 0 0), (.slice none 0 0), (.slice none 0 0), (.slice none 0 0), (.slice none 0 0), (.slice none 0 0), (.int .i64 0), (.int .i64 0), (.slice none 0 0), (.slice none 0 0)], zl2⟩
 | 66 => some ⟨.agg [(0, 3), (1, 3), (2, 3), (3, 3)], 4, 32, [(.int .i64 0), (.int .i64 0), (.int .i64 0), (.int .i64 0)], sI4⟩
 | 69 => some ⟨.agg [(0, 3), (1, 3), (2, 3), (3, 3)], 4, 32, [(.int .i64 0), (.int .i64 0), (.int .i64 0), (.int .i64 0)], sI4⟩
 | 113 => some ⟨.agg [(0, 58)], 1, 24, [(.slice none 0 0)], z51⟩
 | 115 => some ⟨.agg [(0, 3), (1, 3), (2, 3), (3, 3), (4, 3), (5, 3)], 6, 48, [(.int .i64 0), (.int .i64 0), (.int .i64 0), (.int .i64 0), (.int .i64 0), (.int .i64 0)], sI6⟩
 | 120 => some ⟨.agg [(0, 3), (1, 3), (2, 30)], 3, 40, [(.int .i64 0), (.int .i64 0), (.slice none 0 0)], z8⟩
 | 141 => some ⟨.agg [(0, 38)], 1, 24, [(.slice none 0 0)], vj⟩
 | 143 => some ⟨.agg [(0, 3), (1, 3), (2, 30)], 3, 40, [(.int .i64 0), (.int .i64 0), (.slice none 0 0)], z8⟩
 | 147 => some ⟨.agg [(0, 3), (1, 30), (2, 30)], 3, 56, [(.int .i64 0), (.slice none 0 0), (.slice none 0 0)], j8⟩
 | 153 => some ⟨.agg [(0, 3), (1, 3)], 2, 16, [(.int .i64 0), (.int .i64 0)], sI2⟩
 | 154 => some ⟨.slc 264, 1, 24, [(.slice none 0 0)], (.l 264 sI2)⟩
 | 155 => some ⟨.slc 147, 1, 24, [(.slice none 0 0)], (.l 147 j8)⟩
 | 157 => some ⟨.agg [(0, 153), (2, 154), (3, 155)], 4, 64, [(.int .i64 0), (.int .i64 0), (.slice none 0 0), (.slice none 0 0)], xk⟩
 | 164 => some ⟨.agg [(0, 3), (1, 3), (2, 3), (3, 3), (4, 3), (5, 3)], 6, 48, [(.int .i64 0), (.int .i64 0), (.int .i64 0), (.int .i64 0), (.int .i64 0), (.int .i64 0)], sI6⟩
 | 166 => some ⟨.agg [(0, 3), (1, 3), (2, 3), (3, 3), (4, 3), (5, 3)], 6, 48, [(.int .i64 0), (.int .i64 0), (.int .i64 0), (.int .i64 0), (.int .i64 0), (.int .i64 0)], sI6⟩
 | 169 => some ⟨.agg [(0, 3), (1, 3), (2, 3), (3, 3)], 4, 32, [(.int .i64 0), (.int .i64 0), (.int .i64 0), (.int .i64 0)], sI4⟩
 | 171 => some ⟨.agg [(0, 3), (1, 3), (2, 3), (3, 3)], 4, 32, [(.int .i64 0), (.int .i64 0), (.int .i64 0), (.int .i64 0)], sI4⟩
 | 174 => some ⟨.agg [(0, 3), (1, 3), (2, 3), (3, 3)], 4, 32, [(.int .i64 0), (.int .i64 0), (.int .i64 0), (.int .i64 0)], sI4⟩
 | 176 => some ⟨.agg [(0, 3), (1, 3), (2, 3), (3, 3)], 4, 32, [(.int .i64 0), (.int .i64 0), (.int .i64 0), (.int .i64 0)], sI4⟩
 | 178 => some ⟨.agg [(0, 3), (1, 3), (2, 3), (3, 3), (4, 3), (5, 3)], 6, 48, [(.int .i64 0), (.int .i64 0), (.int .i64 0), (.int .i64 0), (.int .i64 0), (.int .i64 0)], sI6⟩
 | 213 => some ⟨.agg [(0, 3), (1, 3)], 2, 16, [(.int .i64 0), (.int .i64 0)], sI2⟩
 | 214 => some ⟨.slc 284, 1, 24, [(.slice none 0 0)], (.l 284 sI2)⟩
 | 215 => some ⟨.slc 280, 1, 24, [(.slice none 0 0)], (.l 280 j8)⟩
 | 217 => some ⟨.agg [(0, 213), (2, 214), (3, 215)], 4, 64, [(.int .i64 0), (.int .i64 0), (.slice none 0 0), (.slice none 0 0)], yi⟩
 | 224 => some ⟨.agg [(0, 3), (1, 3), (2, 3), (3, 3)], 4, 32, [(.int .i64 0), (.int .i64 0), (.int .i64 0), (.int .i64 0)], sI4⟩
 | 226 => some ⟨.agg [(0, 3), (1, 3), (2, 3), (3, 3)], 4, 32, [(.int .i64 0), (.int .i64 0), (.int .i64 0), (.int .i64 0)], sI4⟩
 | 228 => some ⟨.agg [(0, 3), (1, 3), (2, 3)], 3, 24, [(.int .i64 0), (.int .i64 0), (.int .i64 0)], sI3⟩
 | 230 => some ⟨.agg [(0, 3), (1, 3), (2, 3)], 3, 24, [(.int .i64 0), (.int .i64 0), (.int .i64 0)], sI3⟩
 | 232 => some ⟨.agg [(0, 3), (1, 3)], 2, 16, [(.int .i64 0), (.int .i64 0)], sI2⟩
 | 234 => some ⟨.agg [(0, 3), (1, 232)], 3, 24, [(.int .i64 0), (.int .i64 0), (.int .i64 0)], sZone⟩
 | 236 => some ⟨.agg [(0, 3), (1, 3)], 2, 16, [(.int .i64 0), (.int .i64 0)], sI2⟩
 | 238 => some ⟨.agg [(0, 3), (1, 236)], 3, 24, [(.int .i64 0), (.int .i64 0), (.int .i64 0)], sZone⟩
 | 254 => some ⟨.one, 1, 8, [(.int .u64 0)], (.i .u64)⟩
 | 260 => some ⟨.slc 30, 1, 24, [(.slice none 0 0)], (.l 30 (.l 3 (.i .i64)))⟩
 | 264 => some ⟨.agg [(0, 3), (1, 3)], 2, 16, [(.int .i64 0), (.int .i64 0)], sI2⟩
 | 280 => some ⟨.agg [(0, 3), (1, 30), (2, 30)], 3, 56, [(.int .i64 0), (.slice none 0 0), (.slice none 0 0)], j8⟩
 | 284 => some ⟨.agg [(0, 3), (1, 3)], 2, 16, [(.int .i64 0), (.int .i64 0)], sI2⟩
 | 286 => some ⟨.slc 4, 1, 24, [(.slice none 0 0)], (.l 4 .b)⟩
 | _ => none
noncomputable def fn0 : Nat → Option Func
 | 3 => some Tryz.f3
 | 5 => some Tryz.f5
 | 6 => some Tryz.f6
 | 7 => some Tryz.f7
 | 8 => some Tryz.f8
 | 9 => some Tryz.f9
 | 11 => some Tryz.f11
 | 15 => some Tryz.f15
 | 16 => some Tryz.f16
 | 17 => some Tryz.f17
 | 18 => some Tryz.f18
 | 19 => some Tryz.f19
 | 20 => some Tryz.f20
 | 21 => some Tryz.f21
 | 22 => some Tryz.f22
 | 23 => some Tryz.f23
 | 24 => some Tryz.f24
 | 25 => some Tryz.f25
 | 26 => some Tryz.f26
 | 27 => some Tryz.f27
 | 28 => some Tryz.f28
 | 29 => some Tryz.f29
 | 30 => some Tryz.f30
 | 31 => some Tryz.f31
 | 32 => some Tryz.f32
 | 33 => some Tryz.f33
 | 34 => some Tryz.f34
 | 35 => some Tryz.f35
 | 36 => some Tryz.f36
 | 37 => some Tryz.f37
 | 38 => some Tryz.f38
 | 39 => some Tryz.f39
 | 40 => some Tryz.f40
 | 41 => some Tryz.f41
 | 42 => some Tryz.f42
 | 43 => some Tryz.f43
 | 44 => some Tryz.f44
 | 45 => some Tryz.f45
 | 46 => some Tryz.f46
 | 47 => some Tryz.f47
 | 48 => some Tryz.f48
 | 49 => some Tryz.f49
 | 50 => some Tryz.f50
 | 51 => some Tryz.f51
 | 52 => some Tryz.f52
 | 53 => some Tryz.f53
 | 54 => some Tryz.f54
 | 55 => some Tryz.f55
 | 56 => some Tryz.f56
 | 91 => some Tryz.f91
 | 92 => some Tryz.f92
 | 93 => some Tryz.f93
 | 94 => some Tryz.f94
 | 95 => some Tryz.f95
 | 96 => some Tryz.f96
 | 97 => some Tryz.f97
 | 98 => some Tryz.f98
 | 99 => some Tryz.f99
 | 100 => some Tryz.f100
 | 101 => some Tryz.f101
 | _ => none
noncomputable def fn1 : Nat → Option Func
 | 102 => some Tryz.f102
 | 103 => some Tryz.f103
 | 104 => some Tryz.f104
 | 105 => some Tryz.f105
 | 106 => some Tryz.f106
 | 107 => some Tryz.f107
 | 108 => some Tryz.f108
 | 109 => some Tryz.f109
 | 110 => some Tryz.f110
 | 111 => some Tryz.f111
 | 112 => some Tryz.f112
 | 113 => some Tryz.f113
 | 114 => some Tryz.f114
 | 115 => some Tryz.f115
 | 116 => some Tryz.f116
 | 117 => some Tryz.f117
 | 118 => some Tryz.f118
 | 119 => some Tryz.f119
 | 120 => some Tryz.f120
 | 121 => some Tryz.f121
 | 122 => some Tryz.f122
 | 123 => some Tryz.f123
 | 124 => some Tryz.f124
 | 125 => some Tryz.f125
 | 126 => some Tryz.f126
 | 127 => some Tryz.f127
 | 128 => some Tryz.f128
 | 129 => some Tryz.f129
 | 130 => some Tryz.f130
 | 131 => some Tryz.f131
 | 132 => some Tryz.f132
 | 133 => some Tryz.f133
 | 134 => some Tryz.f134
 | 142 => some Tryz.f142
 | 166 => some Tryz.f166
 | 167 => some Tryz.f167
 | 168 => some Tryz.f168
 | 169 => some Tryz.f169
 | 170 => some Tryz.f170
 | 171 => some Tryz.f171
 | 172 => some Tryz.f172
 | 173 => some Tryz.f173
 | 174 => some Tryz.f174
 | 175 => some Tryz.f175
 | 176 => some Tryz.f176
 | 177 => some Tryz.f177
 | 178 => some Tryz.f178
 | 179 => some Tryz.f179
 | 180 => some Tryz.f180
 | 181 => some Tryz.f181
 | 182 => some Tryz.f182
 | 183 => some Tryz.f183
 | 184 => some Tryz.f184
 | 185 => some Tryz.f185
 | 186 => some Tryz.f186
 | 187 => some Tryz.f187
 | 188 => some Tryz.f188
 | 189 => some Tryz.f189
 | 190 => some Tryz.f190
 | 191 => some Tryz.f191
 | _ => none
noncomputable def fn2 : Nat → Option Func
 | 192 => some Tryz.f192
 | 193 => some Tryz.f193
 | 194 => some Tryz.f194
 | 195 => some Tryz.f195
 | 196 => some Tryz.f196
 | 197 => some Tryz.f197
 | 210 => some Tryz.f210
 | 211 => some Tryz.f211
 | 212 => some Tryz.f212
 | 213 => some Tryz.f213
 | 214 => some Tryz.f214
 | 215 => some Tryz.f215
 | 216 => some Tryz.f216
 | 217 => some Tryz.f217
 | 218 => some Tryz.f218
 | 219 => some Tryz.f219
 | 220 => some Tryz.f220
 | 221 => some Tryz.f221
 | 224 => some Tryz.f224
 | 225 => some Tryz.f225
 | 226 => some Tryz.f226
 | 227 => some Tryz.f227
 | 228 => some Tryz.f228
 | 229 => some Tryz.f229
 | 230 => some Tryz.f230
 | 231 => some Tryz.f231
 | 232 => some Tryz.f232
 | 235 => some Tryz.f235
 | 236 => some Tryz.f236
 | 237 => some Tryz.f237
 | 238 => some Tryz.f238
 | 239 => some Tryz.f239
 | 242 => some Tryz.f242
 | 243 => some Tryz.f243
 | 244 => some Tryz.f244
 | 245 => some Tryz.f245
 | 246 => some Tryz.f246
 | 248 => some Tryz.f248
 | 259 => some Tryz.f259
 | 265 => some Tryz.f265
 | _ => none
noncomputable def fn (f : Nat) : Option Func := (match fn0 f with
 | some F => some F
 | none => (match fn1 f with
 | some F => some F
 | none => fn2 f))
def lv : Nat → List Nat
 | 20 => [0, 0, 1, 5]
 | 22 => [0, 0, 1, 5]
 | 27 => [0, 4, 15, 16]
 | 29 => [0, 1, 2, 3, 4, 9]
 | 33 => [0, 0, 3, 4]
 | 34 => [0, 0, 3, 4]
 | 35 => [0, 0, 3, 4]
 | 36 => [0, 0, 3, 4]
 | 37 => [0, 0, 3, 4]
 | 38 => [0, 0, 3, 4]
 | 39 => [0, 0, 3, 4]
 | 40 => [0, 0, 3, 4]
 | 43 => [0, 4, 55, 56, 57]
 | 45 => [0, 1, 2, 3, 4, 9]
 | 49 => [0, 0, 1, 5]
 | 50 => [0, 0, 1, 5]
 | 51 => [0, 0, 1, 5]
 | 52 => [0, 0, 1, 5]
 | 53 => [0, 0, 1, 5]
 | 54 => [0, 0, 1, 5]
 | 55 => [0, 0, 1, 5]
 | 56 => [0, 0, 1, 5]
 | 94 => [0, 0, 1, 5]
 | 98 => [0, 0, 1, 5]
 | 99 => [0, 1, 2, 5]
 | 102 => [0, 2, 3, 4, 9, 10, 11, 12, 13]
 | 103 => [0, 0, 1, 2, 3, 9, 10]
 | 105 => [0, 0, 3, 4]
 | 106 => [0, 0, 3, 4]
 | 107 => [0, 0, 3, 4]
 | 108 => [0, 0, 3, 4]
 | 120 => [0, 2, 3, 4, 9, 30, 31, 32]
 | 121 => [0, 0, 1, 2, 9, 16, 17]
 | 124 => [0, 0, 1, 5]
 | 125 => [0, 0, 1, 5]
 | 126 => [0, 0, 1, 5]
 | 127 => [0, 0, 1, 5]
 | 167 => [0, 1, 4, 9, 10, 11]
 | 171 => [0, 1, 2, 3, 7, 8]
 | 172 => [0, 0, 1, 5, 6, 7, 8]
 | 173 => [0, 0, 1, 2, 3, 9]
 | 174 => [0, 2, 3, 9, 10]
 | 180 => [0, 1, 4, 9, 18, 19, 20]
 | 181 => [0, 0, 1, 7, 8]
 | 182 => [0, 1, 2, 7, 12, 13, 14]
 | 183 => [0, 0, 1, 7, 8]
 | 187 => [0, 1, 5, 9, 10, 11]
 | 188 => [1]
 | 192 => [0, 0, 1, 2, 3, 11, 12, 13]
 | 211 => [0, 0, 1, 5]
 | 212 => [0, 0, 3, 4, 5, 6, 7, 8]
 | 215 => [0, 0, 1, 2, 7]
 | 218 => [0, 0, 3, 4]
 | 219 => [0, 0, 3, 4]
 | 220 => [0, 0, 3, 6, 7, 8, 9, 13, 14, 15, 27, 28, 35, 36, 37, 73, 74]
 | 222 => [1]
 | 224 => [1, 0, 1, 2, 6, 7, 8]
 | 226 => [0, 1, 2, 9, 10, 11]
 | 231 => [0, 0, 1, 5]
 | 232 => [0, 0, 1, 5]
 | 236 => [0, 0, 3, 4]
 | 237 => [0, 0, 1, 2, 7, 8]
 | 242 => [1, 0, 1, 2, 3, 8, 9, 2199023284223]
 | 243 => [1, 0, 1, 2, 3, 4, 10, 11, 13, 14, 15, 17, 18, 19, 20, 21, 22, 2199023304703, 2199023353855]
 | 244 => [0, 0, 1, 7, 8]
 | 259 => [1, 0, 2, 4, 10, 11]
 | 265 => [1, 0, 1, 2, 3, 10, 2199023271935]
 | _ => []
def rs : Nat → RSh
 | 3 => ⟨false, [.b], 0⟩
 | 5 => ⟨false, [(.i .i64)], 0⟩
 | 6 => ⟨false, [(.i .i64)], 0⟩
 | 7 => ⟨true, [zl2], 0⟩
 | 8 => ⟨false, [(.i .i64)], 0⟩
 | 9 => ⟨false, [.b], 0⟩
 | 11 => ⟨false, [sI4], 0⟩
 | 15 => ⟨false, [(.i .i64)], 0⟩
 | 16 => ⟨false, [(.i .i64)], 0⟩
 | 17 => ⟨false, [(.i .i64)], 0⟩
 | 18 => ⟨false, [(.i .i64)], 0⟩
 | 19 => ⟨false, [(.i .i64)], 0⟩
 | 20 => ⟨false, [(.i .i64)], 0⟩
 | 21 => ⟨false, [(.i .i64)], 0⟩
 | 22 => ⟨false, [(.i .i64)], 0⟩
 | 23 => ⟨false, [(.i .i64)], 0⟩
 | 24 => ⟨false, [(.i .i64)], 0⟩
 | 25 => ⟨false, [(.i .i64)], 0⟩
 | 26 => ⟨false, [.b], 0⟩
 | 27 => ⟨false, [(.i .i64)], 0⟩
 | 28 => ⟨true, [(.l 3 (.i .i64))], 0⟩
 | 29 => ⟨false, [.b], 0⟩
 | 30 => ⟨true, [sSky], 0⟩
 | 31 => ⟨true, [z7], 0⟩
 | 32 => ⟨true, [sLaw], 0⟩
 | 33 => ⟨true, [(.l 3 (.i .i64))], 0⟩
 | 34 => ⟨true, [(.l 164 sI6)], 0⟩
 | 35 => ⟨true, [(.l 113 z51)], 0⟩
 | 36 => ⟨true, [(.l 169 sI4)], 0⟩
 | 37 => ⟨true, [(.l 120 z8)], 0⟩
 | 38 => ⟨true, [(.l 174 sI4)], 0⟩
 | 39 => ⟨true, [(.l 115 sI6)], 0⟩
 | 40 => ⟨true, [(.l 69 sI4)], 0⟩
 | 41 => ⟨false, [.b], 0⟩
 | 42 => ⟨false, [.b], 0⟩
 | 43 => ⟨false, [(.i .i64)], 0⟩
 | 44 => ⟨true, [(.l 3 (.i .i64))], 0⟩
 | 45 => ⟨false, [.b], 0⟩
 | 46 => ⟨false, [.b], 0⟩
 | 47 => ⟨false, [.b], 0⟩
 | 48 => ⟨false, [.b], 0⟩
 | 49 => ⟨false, [.b], 0⟩
 | 50 => ⟨false, [.b], 0⟩
 | 51 => ⟨false, [.b], 0⟩
 | 52 => ⟨false, [.b], 0⟩
 | 53 => ⟨false, [.b], 0⟩
 | 54 => ⟨false, [.b], 0⟩
 | 55 => ⟨false, [.b], 0⟩
 | 56 => ⟨false, [.b], 0⟩
 | 91 => ⟨false, [(.i .i64)], 0⟩
 | 92 => ⟨false, [(.i .i64)], 0⟩
 | 93 => ⟨false, [(.i .i64)], 0⟩
 | 94 => ⟨false, [(.i .i64)], 0⟩
 | 95 => ⟨false, [(.i .i64)], 0⟩
 | 96 => ⟨false, [(.i .i64)], 0⟩
 | 97 => ⟨false, [(.i .i64)], 0⟩
 | 98 => ⟨false, [.b], 0⟩
 | 99 => ⟨false, [(.i .i64)], 0⟩
 | 100 => ⟨true, [j8, .b], 0⟩
 | 101 => ⟨false, [.b], 0⟩
 | 102 => ⟨true, [(.l 3 (.i .i64))], 0⟩
 | 103 => ⟨true, [(.l 3 (.i .i64))], 0⟩
 | 104 => ⟨false, [.b], 0⟩
 | 105 => ⟨true, [(.l 224 sI4)], 0⟩
 | 106 => ⟨true, [(.l 228 sI3)], 0⟩
 | 107 => ⟨true, [(.l 234 sZone)], 0⟩
 | 108 => ⟨true, [(.l 157 xk)], 0⟩
 | 109 => ⟨false, [sI6], 0⟩
 | 110 => ⟨true, [z51], 0⟩
 | 111 => ⟨false, [sI4], 0⟩
 | 112 => ⟨true, [z8], 0⟩
 | 113 => ⟨false, [sI4], 0⟩
 | 114 => ⟨false, [sI6], 0⟩
 | 115 => ⟨false, [(.i .i64)], 0⟩
 | 116 => ⟨false, [.b], 0⟩
 | 117 => ⟨false, [.b], 0⟩
 | 118 => ⟨false, [(.i .i64)], 0⟩
 | 119 => ⟨true, [j8, .b], 0⟩
 | 120 => ⟨true, [(.l 3 (.i .i64))], 0⟩
 | 121 => ⟨true, [(.l 3 (.i .i64))], 0⟩
 | 122 => ⟨false, [.b], 0⟩
 | 123 => ⟨false, [.b], 0⟩
 | 124 => ⟨false, [.b], 0⟩
 | 125 => ⟨false, [.b], 0⟩
 | 126 => ⟨false, [.b], 0⟩
 | 127 => ⟨false, [.b], 0⟩
 | 128 => ⟨false, [.b], 0⟩
 | 129 => ⟨false, [.b], 0⟩
 | 130 => ⟨false, [.b], 0⟩
 | 131 => ⟨false, [.b], 0⟩
 | 132 => ⟨false, [.b], 0⟩
 | 133 => ⟨false, [.b], 0⟩
 | 134 => ⟨false, [.b], 0⟩
 | 142 => ⟨true, [(.l 3 (.i .i64))], 0⟩
 | 166 => ⟨false, [(.i .i64)], 0⟩
 | 167 => ⟨false, [.b], 0⟩
 | 168 => ⟨false, [(.i .i64)], 0⟩
 | 169 => ⟨false, [.b], 0⟩
 | 170 => ⟨true, [j8], 0⟩
 | 171 => ⟨true, [(.l 3 (.i .i64))], 0⟩
 | 172 => ⟨true, [(.l 3 (.i .i64))], 0⟩
 | 173 => ⟨false, [.b], 0⟩
 | 174 => ⟨false, [.b], 0⟩
 | 175 => ⟨false, [sI4], 0⟩
 | 176 => ⟨false, [sI3], 0⟩
 | 177 => ⟨false, [sZone], 0⟩
 | 178 => ⟨true, [xk], 0⟩
 | 179 => ⟨false, [(.i .i64), .b], 0⟩
 | 180 => ⟨false, [.b], 0⟩
 | 181 => ⟨false, [(.i .i64)], 0⟩
 | 182 => ⟨true, [(.l 3 (.i .i64))], 0⟩
 | 183 => ⟨false, [(.i .i64)], 0⟩
 | 184 => ⟨false, [.b], 0⟩
 | 185 => ⟨false, [.b], 0⟩
 | 186 => ⟨true, [j8], 0⟩
 | 187 => ⟨true, [(.l 3 (.i .i64))], 0⟩
 | 188 => ⟨true, [(.l 3 (.i .i64))], 1⟩
 | 189 => ⟨false, [(.i .i64)], 0⟩
 | 190 => ⟨false, [(.i .i64)], 0⟩
 | 191 => ⟨false, [.b], 0⟩
 | 192 => ⟨false, [.b], 0⟩
 | 193 => ⟨false, [.b], 0⟩
 | 194 => ⟨false, [.b], 0⟩
 | 195 => ⟨false, [.b], 0⟩
 | 196 => ⟨false, [.b], 0⟩
 | 197 => ⟨false, [.b], 0⟩
 | 210 => ⟨false, [(.i .i64)], 0⟩
 | 211 => ⟨false, [(.i .i64)], 0⟩
 | 212 => ⟨false, [.b], 0⟩
 | 213 => ⟨false, [.b], 0⟩
 | 214 => ⟨false, [.b], 0⟩
 | 215 => ⟨false, [.b], 0⟩
 | 216 => ⟨false, [sI2], 0⟩
 | 217 => ⟨false, [sI2], 0⟩
 | 218 => ⟨true, [(.l 264 sI2)], 0⟩
 | 219 => ⟨true, [(.l 147 j8)], 0⟩
 | 220 => ⟨false, [.b], 0⟩
 | 221 => ⟨false, [.b], 0⟩
 | 222 => ⟨true, [(.l 3 (.i .i64))], 1⟩
 | 223 => ⟨true, [(.l 3 (.i .i64))], 0⟩
 | 224 => ⟨true, [(.l 3 (.i .i64))], 1⟩
 | 225 => ⟨false, [.b], 0⟩
 | 226 => ⟨false, [.b], 0⟩
 | 227 => ⟨false, [.b], 0⟩
 | 228 => ⟨false, [.b], 0⟩
 | 229 => ⟨false, [.b], 0⟩
 | 230 => ⟨false, [.b], 0⟩
 | 231 => ⟨false, [.b], 0⟩
 | 232 => ⟨false, [.b], 0⟩
 | 235 => ⟨false, [(.i .i64)], 0⟩
 | 236 => ⟨false, [(.i .i64)], 0⟩
 | 237 => ⟨true, [(.l 3 (.i .i64))], 0⟩
 | 238 => ⟨false, [sI2], 0⟩
 | 239 => ⟨true, [j8], 0⟩
 | 242 => ⟨true, [(.l 3 (.i .i64))], 1⟩
 | 243 => ⟨true, [(.l 3 (.i .i64))], 1⟩
 | 244 => ⟨false, [(.i .i64)], 0⟩
 | 245 => ⟨false, [.b], 0⟩
 | 246 => ⟨false, [.b], 0⟩
 | 248 => ⟨false, [(.i .i64)], 0⟩
 | 259 => ⟨true, [(.l 3 (.i .i64))], 1⟩
 | 265 => ⟨true, [(.l 3 (.i .i64))], 1⟩
 | _ => ⟨false, [], 0⟩
def tk : Nat → List (Option Sh)
 | 188 => [some (.l 3 (.i .i64))]
 | 222 => [some (.l 3 (.i .i64))]
 | 223 => [some (.l 3 (.i .i64))]
 | 224 => [some (.l 3 (.i .i64))]
 | 242 => [some (.l 3 (.i .i64))]
 | 243 => [some (.l 3 (.i .i64))]
 | 259 => [some (.l 3 (.i .i64))]
 | 265 => [some (.l 3 (.i .i64))]
 | _ => []
def ext : (f : Nat) → Option (List AV → Option (RTy (rs f)))
 | 222 => some extSort
 | 223 => some yo2
 | _ => none
noncomputable def E : Env := { P := Tryz.prog, fn := fn, ty := ty, lv := lv, rs := rs, tk := tk, ext := ext }
noncomputable def FiIsSpan (k : Nat) (a0 : I2) : Option (Bool) := den E k 221 [.agg [vI a0.1, vI a0.2]]
theorem eiIsSpan (k : Nat) (a0 : I2) : FiIsSpan (k + 1) a0 = if ((decide (a0.1 ≥ 0)) == true) = true then if ((decide (a0.2 ≤ 1000)) == true) = true then some (decide (a0.1 < a0.2)) else some false else some false := by kernel_rfl
noncomputable def vq2 (k : Nat) (a0 : I2) (a1 : Int) : Option (Bool) := den E k 185 [.agg [vI a0.1, vI a0.2], cI a1]
theorem eiInSpan (k : Nat) (a0 : I2) (a1 : Int) : vq2 (k + 1) a0 a1 = (FiIsSpan k a0).bind fun p1 => if (p1 == true) = true then if ((decide (a0.1 ≤ a1)) == true) = true then some (decide (a1 < a0.2)) else some false else some false := by kernel_rfl
noncomputable def wu3 (k : Nat) (a0 : List I4) (a1 : Int) (a2 : Int) : Option (Bool) := den E k 226 [.c (.l 174 sI4 a0), cI a1, cI a2]
abbrev w92 : Type := Int × Int × (List I4) × Int
abbrev za1 : Type := Int
def StiIsDown_0 (c0 : w92) (v0 : za1) : St := ⟨34, 0, [(1, cI c0.1), (2, cI c0.2.1), (9, .c (.l 174 sI4 c0.2.2.1)), (10, cI c0.2.2.2), (11, cI v0)], []⟩
noncomputable def BiIsDown_0 {R : Type} (k : Nat) (X0 : za1 → I4 → Bool → Option R) (X1 : za1 → Option R) (c0 : w92) (rec : za1 → Option R) (v0 : za1) : Option R := if (decide (v0 < c0.2.2.2)) = true then if 0 ≤ v0 then ix c0.2.2.1 v0.toNat fun x1 => if ((x1.1 == c0.1) == true) = true then if ((x1.2.1 == -1) == true) = true then (vq2 k x1.2.2 c0.2.1).bind fun p2 => if p2 = true then X0 v0 x1 p2 else rec (IntKind.i64.wrap (v0 + 1)) else rec (IntKind.i64.wrap (v0 + 1)) else rec (IntKind.i64.wrap (v0 + 1)) else none else X1 v0
noncomputable def w44 {R : Type} (k : Nat) (X0 : za1 → I4 → Bool → Option R) (X1 : za1 → Option R) (c : w92) : Nat → za1 → Option R
 | 0, _ => none
 | n + 1, v => BiIsDown_0 k X0 X1 c (w44 k X0 X1 c n) v
def YiIsDown_0_0 {R : Type} (K : Ex → St → Option R) (c0 : w92) (v0 : za1) (x1 : I4) (p2 : Bool) : Option R := K .ret ⟨34, 1, [(1, cI c0.1), (2, cI c0.2.1), (6, cB true), (8, cP 0), (9, .c (.l 174 sI4 c0.2.2.1)), (10, cI c0.2.2.2), (11, cI v0), (12, cB (decide (v0 < c0.2.2.2))), (13, .c (.at_ (avs sI4 x1))), (14, .agg (avs sI4 x1)), (15, cP 0), (16, cI x1.1), (17, cI c0.1), (18, cB (x1.1 == c0.1)), (19, cB true), (20, .c (.ptr 0 1)), (21, cI x1.2.1), (22, cB (x1.2.1 == -1)), (23, cB (x1.2.1 == -1)), (24, cB true), (25, .c (.ptr 0 2)), (26, cI x1.2.2.1), (27, .c (.ptr 0 3)), (28, cI x1.2.2.2), (29, .agg [vI x1.2.2.1, vI x1.2.2.2]), (30, cI c0.2.1), (31, cB p2), (32, cB p2)], [(0, .var (avs sI4 x1))]⟩
def YiIsDown_0_1 {R : Type} (K : Ex → St → Option R) (c0 : w92) (v0 : za1) : Option R := K (.exit 0) ⟨34, 0, [(1, cI c0.1), (2, cI c0.2.1), (9, .c (.l 174 sI4 c0.2.2.1)), (10, cI c0.2.2.2), (11, cI v0), (12, cB (decide (v0 < c0.2.2.2)))], []⟩
theorem liIsDown_0 {R : Type} (k : Nat) (K : Ex → St → Option R) (c0 : w92) : ∀ (n : Nat) (v : za1), z2 [0, 1, 2, 9, 10, 11] (run E (den E k) (lv 226) k (j1 Tryz.f226 0)) n (StiIsDown_0 c0 v) K = w44 k (YiIsDown_0_0 K c0) (YiIsDown_0_1 K c0) c0 n v := j5 (B := BiIsDown_0 k (YiIsDown_0_0 K c0) (YiIsDown_0_1 K c0) c0) (fun _ => rfl) (fun n v => by kernel_rfl) (fun _ => rfl) (fun _ _ => rfl)
theorem miIsDown_0 (k : Nat) (a0 : List I4) (a1 : Int) (a2 : Int) : wu3 (k + 1) a0 a1 a2 = z2 (R := Bool) [0, 1, 2, 9, 10, 11] (run E (den E k) (lv 226) k (j1 Tryz.f226 0)) k (StiIsDown_0 (a1, a2, a0, (a0.length : Int)) 0) (wc E (den E k) (lv 226) k (ye Tryz.f226) 0 [] (vd E (rs 226) Tryz.f226 : Ex → St → Option (Bool))) := by kernel_rfl
theorem eiIsDown (k : Nat) (a0 : List I4) (a1 : Int) (a2 : Int) : wu3 (k + 1) a0 a1 a2 = w44 k (fun (v0 : Int) (x1 : I4) (p2 : Bool) => some true) (fun (v0 : Int) => some false) (a1, a2, a0, (a0.length : Int)) k 0 := by
 rw [miIsDown_0]
 simp only [liIsDown_0]
 kernel_rfl
noncomputable def FiIsCut (k : Nat) (a0 : List I4) (a1 : Int) (a2 : Int) (a3 : Int) : Option (Bool) := den E k 192 [.c (.l 174 sI4 a0), cI a1, cI a2, cI a3]
abbrev y22 : Type := (List I4) × Int × Int × Int × (List I4) × Int
abbrev yu : Type := Int
def StiIsCut_0 (c0 : y22) (v0 : yu) : St := ⟨59, 0, [(0, .c (.l 174 sI4 c0.1)), (1, cI c0.2.1), (2, cI c0.2.2.1), (3, cI c0.2.2.2.1), (11, .c (.l 174 sI4 c0.2.2.2.2.1)), (12, cI c0.2.2.2.2.2), (13, cI v0)], []⟩
noncomputable def BiIsCut_0 {R : Type} (k : Nat) (X0 : yu → I4 → Bool → Option R) (X1 : yu → I4 → Bool → Option R) (X2 : yu → I4 → Bool → Option R) (X3 : yu → Option R) (c0 : y22) (rec : yu → Option R) (v0 : yu) : Option R := if (decide (v0 < c0.2.2.2.2.2)) = true then if 0 ≤ v0 then ix c0.2.2.2.2.1 v0.toNat fun x1 => if ((x1.1 == c0.2.1) == true) = true then if ((x1.2.1 == c0.2.2.1) == false) = true then if ((x1.1 == c0.2.2.1) == true) = true then if ((x1.2.1 == c0.2.1) == true) = true then (vq2 k x1.2.2 c0.2.2.2.1).bind fun p2 => if p2 = true then X0 v0 x1 p2 else rec (IntKind.i64.wrap (v0 + 1)) else rec (IntKind.i64.wrap (v0 + 1)) else rec (IntKind.i64.wrap (v0 + 1)) else (vq2 k x1.2.2 c0.2.2.2.1).bind fun p3 => if p3 = true then X1 v0 x1 p3 else rec (IntKind.i64.wrap (v0 + 1)) else if ((x1.1 == c0.2.2.1) == true) = true then if ((x1.2.1 == c0.2.1) == true) = true then (vq2 k x1.2.2 c0.2.2.2.1).bind fun p4 => if p4 = true then X2 v0 x1 p4 else rec (IntKind.i64.wrap (v0 + 1)) else rec (IntKind.i64.wrap (v0 + 1)) else rec (IntKind.i64.wrap (v0 + 1)) else none else X3 v0
noncomputable def LiIsCut_0 {R : Type} (k : Nat) (X0 : yu → I4 → Bool → Option R) (X1 : yu → I4 → Bool → Option R) (X2 : yu → I4 → Bool → Option R) (X3 : yu → Option R) (c : y22) : Nat → yu → Option R
 | 0, _ => none
 | n + 1, v => BiIsCut_0 k X0 X1 X2 X3 c (LiIsCut_0 k X0 X1 X2 X3 c n) v
def YiIsCut_0_0 {R : Type} (K : Ex → St → Option R) (c0 : y22) (v0 : yu) (x1 : I4) (p2 : Bool) : Option R := K .ret ⟨59, 1, [(0, .c (.l 174 sI4 c0.1)), (1, cI c0.2.1), (2, cI c0.2.2.1), (3, cI c0.2.2.2.1), (8, cB true), (10, cP 0), (11, .c (.l 174 sI4 c0.2.2.2.2.1)), (12, cI c0.2.2.2.2.2), (13, cI v0), (14, cB (decide (v0 < c0.2.2.2.2.2))), (15, .c (.at_ (avs sI4 x1))), (16, .agg (avs sI4 x1)), (17, cP 0), (18, cI x1.1), (19, cI c0.2.1), (20, cB (x1.1 == c0.2.1)), (21, cB true), (22, .c (.ptr 0 1)), (23, cI x1.2.1), (24, cI c0.2.2.1), (25, cB (x1.2.1 == c0.2.2.1)), (26, cB (x1.2.1 == c0.2.2.1)), (27, cB false), (28, cP 0), (29, cI x1.1), (30, cI c0.2.2.1), (31, cB (x1.1 == c0.2.2.1)), (32, cB true), (33, .c (.ptr 0 1)), (34, cI x1.2.1), (35, cI c0.2.1), (36, cB (x1.2.1 == c0.2.1)), (37, cB (x1.2.1 == c0.2.1)), (38, cB (x1.2.1 == c0.2.1)), (39, cB true), (40, .c (.ptr 0 2)), (41, cI x1.2.2.1), (42, .c (.ptr 0 3)), (43, cI x1.2.2.2), (44, .agg [vI x1.2.2.1, vI x1.2.2.2]), (45, cI c0.2.2.2.1), (46, cB p2), (47, cB p2)], [(0, .var (avs sI4 x1))]⟩
def YiIsCut_0_1 {R : Type} (K : Ex → St → Option R) (c0 : y22) (v0 : yu) (x1 : I4) (p3 : Bool) : Option R := K .ret ⟨59, 1, [(0, .c (.l 174 sI4 c0.1)), (1, cI c0.2.1), (2, cI c0.2.2.1), (3, cI c0.2.2.2.1), (8, cB true), (10, cP 0), (11, .c (.l 174 sI4 c0.2.2.2.2.1)), (12, cI c0.2.2.2.2.2), (13, cI v0), (14, cB (decide (v0 < c0.2.2.2.2.2))), (15, .c (.at_ (avs sI4 x1))), (16, .agg (avs sI4 x1)), (17, cP 0), (18, cI x1.1), (19, cI c0.2.1), (20, cB (x1.1 == c0.2.1)), (21, cB true), (22, .c (.ptr 0 1)), (23, cI x1.2.1), (24, cI c0.2.2.1), (25, cB (x1.2.1 == c0.2.2.1)), (26, cB (x1.2.1 == c0.2.2.1)), (27, cB true), (28, .tup []), (29, .tup []), (30, .tup []), (31, .tup []), (32, .tup []), (33, .tup []), (34, .tup []), (35, .tup []), (36, .tup []), (37, .tup []), (38, cB true), (39, cB true), (40, .c (.ptr 0 2)), (41, cI x1.2.2.1), (42, .c (.ptr 0 3)), (43, cI x1.2.2.2), (44, .agg [vI x1.2.2.1, vI x1.2.2.2]), (45, cI c0.2.2.2.1), (46, cB p3), (47, cB p3)], [(0, .var (avs sI4 x1))]⟩
def YiIsCut_0_2 {R : Type} (K : Ex → St → Option R) (c0 : y22) (v0 : yu) (x1 : I4) (p4 : Bool) : Option R := K .ret ⟨59, 1, [(0, .c (.l 174 sI4 c0.1)), (1, cI c0.2.1), (2, cI c0.2.2.1), (3, cI c0.2.2.2.1), (8, cB true), (10, cP 0), (11, .c (.l 174 sI4 c0.2.2.2.2.1)), (12, cI c0.2.2.2.2.2), (13, cI v0), (14, cB (decide (v0 < c0.2.2.2.2.2))), (15, .c (.at_ (avs sI4 x1))), (16, .agg (avs sI4 x1)), (17, cP 0), (18, cI x1.1), (19, cI c0.2.1), (20, cB (x1.1 == c0.2.1)), (21, cB false), (22, .tup []), (23, .tup []), (24, .tup []), (25, .tup []), (26, cB false), (27, cB false), (28, cP 0), (29, cI x1.1), (30, cI c0.2.2.1), (31, cB (x1.1 == c0.2.2.1)), (32, cB true), (33, .c (.ptr 0 1)), (34, cI x1.2.1), (35, cI c0.2.1), (36, cB (x1.2.1 == c0.2.1)), (37, cB (x1.2.1 == c0.2.1)), (38, cB (x1.2.1 == c0.2.1)), (39, cB true), (40, .c (.ptr 0 2)), (41, cI x1.2.2.1), (42, .c (.ptr 0 3)), (43, cI x1.2.2.2), (44, .agg [vI x1.2.2.1, vI x1.2.2.2]), (45, cI c0.2.2.2.1), (46, cB p4), (47, cB p4)], [(0, .var (avs sI4 x1))]⟩
def YiIsCut_0_3 {R : Type} (K : Ex → St → Option R) (c0 : y22) (v0 : yu) : Option R := K (.exit 0) ⟨59, 0, [(0, .c (.l 174 sI4 c0.1)), (1, cI c0.2.1), (2, cI c0.2.2.1), (3, cI c0.2.2.2.1), (11, .c (.l 174 sI4 c0.2.2.2.2.1)), (12, cI c0.2.2.2.2.2), (13, cI v0), (14, cB (decide (v0 < c0.2.2.2.2.2)))], []⟩
theorem liIsCut_0 {R : Type} (k : Nat) (K : Ex → St → Option R) (c0 : y22) : ∀ (n : Nat) (v : yu), z2 [0, 0, 1, 2, 3, 11, 12, 13] (run E (den E k) (lv 192) k (j1 Tryz.f192 0)) n (StiIsCut_0 c0 v) K = LiIsCut_0 k (YiIsCut_0_0 K c0) (YiIsCut_0_1 K c0) (YiIsCut_0_2 K c0) (YiIsCut_0_3 K c0) c0 n v := j5 (B := BiIsCut_0 k (YiIsCut_0_0 K c0) (YiIsCut_0_1 K c0) (YiIsCut_0_2 K c0) (YiIsCut_0_3 K c0) c0) (fun _ => rfl) (fun n v => by kernel_rfl) (fun _ => rfl) (fun _ _ => rfl)
theorem miIsCut_0 (k : Nat) (a0 : List I4) (a1 : Int) (a2 : Int) (a3 : Int) : FiIsCut (k + 1) a0 a1 a2 a3 = z2 (R := Bool) [0, 0, 1, 2, 3, 11, 12, 13] (run E (den E k) (lv 192) k (j1 Tryz.f192 0)) k (StiIsCut_0 (a0, a1, a2, a3, a0, (a0.length : Int)) 0) (wc E (den E k) (lv 192) k (ye Tryz.f192) 0 [] (vd E (rs 192) Tryz.f192 : Ex → St → Option (Bool))) := by kernel_rfl
theorem eiIsCut (k : Nat) (a0 : List I4) (a1 : Int) (a2 : Int) (a3 : Int) : FiIsCut (k + 1) a0 a1 a2 a3 = LiIsCut_0 k (fun (v0 : Int) (x1 : I4) (p2 : Bool) => some true) (fun (v0 : Int) (x1 : I4) (p3 : Bool) => some true) (fun (v0 : Int) (x1 : I4) (p4 : Bool) => some true) (fun (v0 : Int) => (wu3 k a0 a1 a3).bind fun p1 => if (p1 == false) = true then (wu3 k a0 a2 a3).bind fun p2 => some p2 else some true) (a0, a1, a2, a3, a0, (a0.length : Int)) k 0 := by
 rw [miIsCut_0]
 simp only [liIsCut_0]
 kernel_rfl
noncomputable def xb2 (k : Nat) (a0 : Int) (a1 : Int) (a2 : Int) : Option (Bool) := den E k 42 [cI a0, cI a1, cI a2]
theorem eiInRange (k : Nat) (a0 : Int) (a1 : Int) (a2 : Int) : xb2 (k + 1) a0 a1 a2 = if ((decide (a1 ≤ a0)) == true) = true then some (decide (a0 ≤ a2)) else some false := by kernel_rfl
noncomputable def w83 (k : Nat) (a0 : Int) : Option (Bool) := den E k 191 [cI a0]
theorem eiisNumber (k : Nat) (a0 : Int) : w83 (k + 1) a0 = (xb2 k a0 1 12).bind fun p1 => some p1 := by kernel_rfl
noncomputable def jt3 (k : Nat) (a0 : List I4) (a1 : Int) (a2 : Int) (a3 : Int) : Option (List Int) := den E k 121 [.c (.l 174 sI4 a0), cI a1, cI a2, cI a3]
abbrev yc2 : Type := (List I4) × Int × Int × Int
abbrev vf1 : Type := Int × (List Int)
def StiDeadFor_0 (c0 : yc2) (v0 : vf1) : St := ⟨36, 1, [(0, .c (.l 174 sI4 c0.1)), (1, cI c0.2.1), (2, cI c0.2.2.1), (9, .c (.ref 0)), (16, cI c0.2.2.2), (17, cI v0.1)], [(0, .arr 3 (.i .i64) v0.2)]⟩
noncomputable def yr2 {R : Type} (k : Nat) (X0 : vf1 → Option R) (c0 : yc2) (rec : vf1 → Option R) (v0 : vf1) : Option R := if (decide (v0.1 < c0.2.2.2)) = true then if ((v0.1 != c0.2.1) == true) = true then (FiIsCut k c0.1 c0.2.1 v0.1 c0.2.2.1).bind fun p2 => if p2 = true then if (v0.2.length + ([v0.1]).length) * 8 ≤ 140737488355328 then rec ((IntKind.i64.wrap (v0.1 + 1)), (v0.2 ++ [v0.1])) else none else rec ((IntKind.i64.wrap (v0.1 + 1)), v0.2) else rec ((IntKind.i64.wrap (v0.1 + 1)), v0.2) else X0 v0
noncomputable def zm3 {R : Type} (k : Nat) (X0 : vf1 → Option R) (c : yc2) : Nat → vf1 → Option R
 | 0, _ => none
 | n + 1, v => yr2 k X0 c (zm3 k X0 c n) v
def yo3 {R : Type} (K : Ex → St → Option R) (c0 : yc2) (v0 : vf1) : Option R := K (.exit 0) ⟨36, 1, [(0, .c (.l 174 sI4 c0.1)), (1, cI c0.2.1), (2, cI c0.2.2.1), (9, .c (.ref 0)), (16, cI c0.2.2.2), (17, cI v0.1), (18, cB (decide (v0.1 < c0.2.2.2)))], [(0, .arr 3 (.i .i64) v0.2)]⟩
theorem liDeadFor_0 {R : Type} (k : Nat) (K : Ex → St → Option R) (c0 : yc2) : ∀ (n : Nat) (v : vf1), z2 [0, 0, 1, 2, 9, 16, 17] (run E (den E k) (lv 121) k (j1 Tryz.f121 0)) n (StiDeadFor_0 c0 v) K = zm3 k (yo3 K c0) c0 n v := j5 (B := yr2 k (yo3 K c0) c0) (fun _ => rfl) (fun n v => by kernel_rfl) (fun _ => rfl) (fun _ _ => rfl)
theorem miDeadFor_0 (k : Nat) (a0 : List I4) (a1 : Int) (a2 : Int) (a3 : Int) : jt3 (k + 1) a0 a1 a2 a3 = (w83 k a3).bind fun p1 => if (!p1) = true then some ([]) else z2 (R := List Int) [0, 0, 1, 2, 9, 16, 17] (run E (den E k) (lv 121) k (j1 Tryz.f121 0)) k (StiDeadFor_0 (a0, a1, a2, a3) (0, [])) (wc E (den E k) (lv 121) k (ye Tryz.f121) 0 [] (vd E (rs 121) Tryz.f121 : Ex → St → Option (List Int))) := by kernel_rfl
theorem eiDeadFor (k : Nat) (a0 : List I4) (a1 : Int) (a2 : Int) (a3 : Int) : jt3 (k + 1) a0 a1 a2 a3 = (w83 k a3).bind fun p1 => if (!p1) = true then some ([]) else zm3 k (fun (v0 : Int × (List Int)) => some v0.2) (a0, a1, a2, a3) k (0, []) := by
 rw [miDeadFor_0]
 simp only [liDeadFor_0]
 kernel_rfl
noncomputable def FiDeadNow (k : Nat) (a0 : zn1) (a1 : Int) : Option (List Int) := den E k 44 [.agg (avs zl2 a0), cI a1]
theorem eiDeadNow (k : Nat) (a0 : zn1) (a1 : Int) : FiDeadNow (k + 1) a0 a1 = (jt3 k a0.2.2.2.2.2.2.2.2.2.1 a1 a0.2.2.2.2.2.2.2.2.2.2.1 a0.2.1.1).bind fun p1 => some p1 := by kernel_rfl
noncomputable def y33 (k : Nat) (a0 : I2) (a1 : Int) (a2 : Int) : Option (Bool) := den E k 228 [.agg [vI a0.1, vI a0.2], .c (.at_ [vI a1]), .c (.at_ [vI a2])]
theorem eiHasLink_1v (k : Nat) (a0 : I2) (a1 : Int) (a2 : Int) : y33 (k + 1) a0 a1 a2 = if ((a0.1 == a1) == true) = true then if ((a0.2 == a2) == false) = true then if ((a0.1 == a2) == true) = true then some (a0.2 == a1) else some false else some true else if ((a0.1 == a2) == true) = true then some (a0.2 == a1) else some false := by kernel_rfl
noncomputable def zx (k : Nat) (a0 : List I2) (a1 : Int) (a2 : Int) : Option (Int) := den E k 244 [.c (.l 264 sI2 a0), .c (.clo 228 [.at_ [vI a1], .at_ [vI a2]])]
abbrev xg : Type := (List I2) × Int × Int × Int
abbrev v7 : Type := Int
def xa1 (c0 : xg) (v0 : v7) : St := ⟨19, 0, [(0, .c (.l 264 sI2 c0.1)), (1, .c (.clo 228 [.at_ [vI c0.2.1], .at_ [vI c0.2.2.1]])), (7, cI c0.2.2.2), (8, cI v0)], []⟩
noncomputable def wb1 {R : Type} (k : Nat) (X0 : v7 → I2 → Bool → Option R) (X1 : v7 → Option R) (c0 : xg) (rec : v7 → Option R) (v0 : v7) : Option R := if (decide (v0 < c0.2.2.2)) = true then if 0 ≤ v0 then ix c0.1 v0.toNat fun x1 => (y33 k x1 c0.2.1 c0.2.2.1).bind fun p2 => if p2 = true then X0 v0 x1 p2 else rec (IntKind.i64.wrap (v0 + 1)) else none else X1 v0
noncomputable def vl {R : Type} (k : Nat) (X0 : v7 → I2 → Bool → Option R) (X1 : v7 → Option R) (c : xg) : Nat → v7 → Option R
 | 0, _ => none
 | n + 1, v => wb1 k X0 X1 c (vl k X0 X1 c n) v
def v71 {R : Type} (K : Ex → St → Option R) (c0 : xg) (v0 : v7) (x1 : I2) (p2 : Bool) : Option R := K .ret ⟨19, 0, [(0, .c (.l 264 sI2 c0.1)), (1, .c (.clo 228 [.at_ [vI c0.2.1], .at_ [vI c0.2.2.1]])), (4, cI v0), (5, cI v0), (7, cI c0.2.2.2), (8, cI v0), (9, cB (decide (v0 < c0.2.2.2))), (10, cI v0), (11, .c (.clo 228 [.at_ [vI c0.2.1], .at_ [vI c0.2.2.1]])), (12, .c (.l 264 sI2 c0.1)), (13, cI v0), (14, .c (.at_ [vI x1.1, vI x1.2])), (15, .agg [vI x1.1, vI x1.2]), (16, cB p2), (17, cI v0)], []⟩
def j71 {R : Type} (K : Ex → St → Option R) (c0 : xg) (v0 : v7) : Option R := K (.exit 0) ⟨19, 0, [(0, .c (.l 264 sI2 c0.1)), (1, .c (.clo 228 [.at_ [vI c0.2.1], .at_ [vI c0.2.2.1]])), (7, cI c0.2.2.2), (8, cI v0), (9, cB (decide (v0 < c0.2.2.2)))], []⟩
theorem v12 {R : Type} (k : Nat) (K : Ex → St → Option R) (c0 : xg) : ∀ (n : Nat) (v : v7), z2 [0, 0, 1, 7, 8] (run E (den E k) (lv 244) k (j1 Tryz.f244 0)) n (xa1 c0 v) K = vl k (v71 K c0) (j71 K c0) c0 n v := j5 (B := wb1 k (v71 K c0) (j71 K c0) c0) (fun _ => rfl) (fun n v => by kernel_rfl) (fun _ => rfl) (fun _ _ => rfl)
theorem x32 (k : Nat) (a0 : List I2) (a1 : Int) (a2 : Int) : zx (k + 1) a0 a1 a2 = z2 (R := Int) [0, 0, 1, 7, 8] (run E (den E k) (lv 244) k (j1 Tryz.f244 0)) k (xa1 (a0, a1, a2, (a0.length : Int)) 0) (wc E (den E k) (lv 244) k (ye Tryz.f244) 0 [] (vd E (rs 244) Tryz.f244 : Ex → St → Option (Int))) := by kernel_rfl
theorem z72 (k : Nat) (a0 : List I2) (a1 : Int) (a2 : Int) : zx (k + 1) a0 a1 a2 = vl k (fun (v0 : Int) (x1 : I2) (p2 : Bool) => some v0) (fun (v0 : Int) => some (-1)) (a0, a1, a2, (a0.length : Int)) k 0 := by
 rw [x32]
 simp only [v12]
 kernel_rfl
noncomputable def yr (k : Nat) (a0 : List I2) (a1 : Int) (a2 : Int) : Option (Bool) := den E k 227 [.c (.l 264 sI2 a0), .c (.clo 228 [.at_ [vI a1], .at_ [vI a2]])]
theorem wx1 (k : Nat) (a0 : List I2) (a1 : Int) (a2 : Int) : yr (k + 1) a0 a1 a2 = (zx k a0 a1 a2).bind fun p1 => some (decide (p1 ≥ 0)) := by kernel_rfl
noncomputable def ww (k : Nat) (a0 : Int) (a1 : Int) : Option (Bool) := den E k 41 [cI a0, cI a1]
theorem eiisIndex (k : Nat) (a0 : Int) (a1 : Int) : ww (k + 1) a0 a1 = if ((decide (a0 ≥ 0)) == true) = true then some (decide (a0 < a1)) else some false := by kernel_rfl
noncomputable def FiHasLink (k : Nat) (a0 : j2) (a1 : Int) (a2 : Int) (a3 : Int) : Option (Bool) := den E k 193 [.agg (avs z7 a0), cI a1, cI a2, cI a3]
theorem eiHasLink (k : Nat) (a0 : j2) (a1 : Int) (a2 : Int) (a3 : Int) : FiHasLink (k + 1) a0 a1 a2 a3 = (ww k a1 (a0.2.2.2.length : Int)).bind fun p1 => if (p1 == true) = true then if 0 ≤ a1 then ix a0.2.2.2 a1.toNat fun x2 => (yr k x2.2.1 a2 a3).bind fun p3 => some p3 else none else some false := by kernel_rfl
noncomputable def FiPieceAt_1v (k : Nat) (a0 : zf) (a1 : Int) : Option (Bool) := den E k 184 [.agg (avs xk a0), .c (.at_ [vI a1])]
theorem eiPieceAt_1v (k : Nat) (a0 : zf) (a1 : Int) : FiPieceAt_1v (k + 1) a0 a1 = (vq2 k a0.1 a1).bind fun p1 => some p1 := by kernel_rfl
noncomputable def vv (k : Nat) (a0 : List zf) (a1 : Int) : Option (Int) := den E k 183 [.c (.l 157 xk a0), .c (.clo 184 [.at_ [vI a1]])]
abbrev zg : Type := (List zf) × Int × Int
abbrev j6 : Type := Int
def j61 (c0 : zg) (v0 : j6) : St := ⟨19, 0, [(0, .c (.l 157 xk c0.1)), (1, .c (.clo 184 [.at_ [vI c0.2.1]])), (7, cI c0.2.2), (8, cI v0)], []⟩
noncomputable def y91 {R : Type} (k : Nat) (X0 : j6 → zf → Bool → Option R) (X1 : j6 → Option R) (c0 : zg) (rec : j6 → Option R) (v0 : j6) : Option R := if (decide (v0 < c0.2.2)) = true then if 0 ≤ v0 then ix c0.1 v0.toNat fun x1 => (FiPieceAt_1v k x1 c0.2.1).bind fun p2 => if p2 = true then X0 v0 x1 p2 else rec (IntKind.i64.wrap (v0 + 1)) else none else X1 v0
noncomputable def wl {R : Type} (k : Nat) (X0 : j6 → zf → Bool → Option R) (X1 : j6 → Option R) (c : zg) : Nat → j6 → Option R
 | 0, _ => none
 | n + 1, v => y91 k X0 X1 c (wl k X0 X1 c n) v
def j41 {R : Type} (K : Ex → St → Option R) (c0 : zg) (v0 : j6) (x1 : zf) (p2 : Bool) : Option R := K .ret ⟨19, 0, [(0, .c (.l 157 xk c0.1)), (1, .c (.clo 184 [.at_ [vI c0.2.1]])), (4, cI v0), (5, cI v0), (7, cI c0.2.2), (8, cI v0), (9, cB (decide (v0 < c0.2.2))), (10, cI v0), (11, .c (.clo 184 [.at_ [vI c0.2.1]])), (12, .c (.l 157 xk c0.1)), (13, cI v0), (14, .c (.at_ (avs xk x1))), (15, .agg (avs xk x1)), (16, cB p2), (17, cI v0)], []⟩
def v51 {R : Type} (K : Ex → St → Option R) (c0 : zg) (v0 : j6) : Option R := K (.exit 0) ⟨19, 0, [(0, .c (.l 157 xk c0.1)), (1, .c (.clo 184 [.at_ [vI c0.2.1]])), (7, cI c0.2.2), (8, cI v0), (9, cB (decide (v0 < c0.2.2)))], []⟩
theorem vw1 {R : Type} (k : Nat) (K : Ex → St → Option R) (c0 : zg) : ∀ (n : Nat) (v : j6), z2 [0, 0, 1, 7, 8] (run E (den E k) (lv 183) k (j1 Tryz.f183 0)) n (j61 c0 v) K = wl k (j41 K c0) (v51 K c0) c0 n v := j5 (B := y91 k (j41 K c0) (v51 K c0) c0) (fun _ => rfl) (fun n v => by kernel_rfl) (fun _ => rfl) (fun _ _ => rfl)
theorem yy1 (k : Nat) (a0 : List zf) (a1 : Int) : vv (k + 1) a0 a1 = z2 (R := Int) [0, 0, 1, 7, 8] (run E (den E k) (lv 183) k (j1 Tryz.f183 0)) k (j61 (a0, a1, (a0.length : Int)) 0) (wc E (den E k) (lv 183) k (ye Tryz.f183) 0 [] (vd E (rs 183) Tryz.f183 : Ex → St → Option (Int))) := by kernel_rfl
theorem v52 (k : Nat) (a0 : List zf) (a1 : Int) : vv (k + 1) a0 a1 = wl k (fun (v0 : Int) (x1 : zf) (p2 : Bool) => some v0) (fun (v0 : Int) => some (-1)) (a0, a1, (a0.length : Int)) k 0 := by
 rw [yy1]
 simp only [vw1]
 kernel_rfl
noncomputable def yp2 (k : Nat) (a0 : j2) (a1 : Int) : Option (Int) := den E k 118 [.agg (avs z7 a0), cI a1]
theorem eiPieceAt (k : Nat) (a0 : j2) (a1 : Int) : yp2 (k + 1) a0 a1 = (vv k a0.2.2.2 a1).bind fun p1 => some p1 := by kernel_rfl
noncomputable def w74 (k : Nat) (a0 : j2) (a1 : Int) (a2 : Int) (a3 : Int) : Option (Bool) := den E k 123 [.agg (avs z7 a0), cI a1, cI a2, cI a3]
theorem eiIsLinked (k : Nat) (a0 : j2) (a1 : Int) (a2 : Int) (a3 : Int) : w74 (k + 1) a0 a1 a2 a3 = (yp2 k a0 a3).bind fun p1 => (FiHasLink k a0 p1 a1 a2).bind fun p2 => some p2 := by kernel_rfl
noncomputable def z92 (k : Nat) (a0 : j2) (a1 : Int) : Option (Bool) := den E k 122 [.agg (avs z7 a0), cI a1]
theorem eiisSkewed (k : Nat) (a0 : j2) (a1 : Int) : z92 (k + 1) a0 a1 = (xb2 k a0.2.2.1 0 5).bind fun p1 => if (p1 == true) = true then (xb2 k a1 0 1000).bind fun p2 => some p2 else some false := by kernel_rfl
noncomputable def FiMayUse (k : Nat) (a0 : j2) (a1 : Int) (a2 : Int) (a3 : Int) : Option (Bool) := den E k 45 [.agg (avs z7 a0), cI a1, cI a2, cI a3]
abbrev xa2 : Type := Int × Int × Int × j2
abbrev x81 : Type := Int
def StiMayUse_0 (c0 : xa2) (v0 : x81) : St := ⟨32, 1, [(1, cI c0.1), (2, cI c0.2.1), (3, cI c0.2.2.1), (4, cP 0), (9, cI v0)], [(0, .var (avs z7 c0.2.2.2))]⟩
noncomputable def BiMayUse_0 {R : Type} (k : Nat) (X0 : x81 → Bool → Option R) (X1 : x81 → Option R) (c0 : xa2) (rec : x81 → Option R) (v0 : x81) : Option R := if (decide (v0 ≤ (IntKind.i64.wrap (c0.2.2.1 + c0.2.2.2.2.2.1)))) = true then (w74 k c0.2.2.2 c0.1 c0.2.1 v0).bind fun p2 => if (!p2) = true then X0 v0 p2 else rec (IntKind.i64.wrap (v0 + 1)) else X1 v0
noncomputable def yb3 {R : Type} (k : Nat) (X0 : x81 → Bool → Option R) (X1 : x81 → Option R) (c : xa2) : Nat → x81 → Option R
 | 0, _ => none
 | n + 1, v => BiMayUse_0 k X0 X1 c (yb3 k X0 X1 c n) v
def YiMayUse_0_0 {R : Type} (K : Ex → St → Option R) (c0 : xa2) (v0 : x81) (p2 : Bool) : Option R := K .ret ⟨32, 1, [(1, cI c0.1), (2, cI c0.2.1), (3, cI c0.2.2.1), (4, cP 0), (8, cB false), (9, cI v0), (18, cI v0), (19, cI c0.2.2.1), (20, .c (.ptr 0 2)), (21, cI c0.2.2.2.2.2.1), (22, cI (IntKind.i64.wrap (c0.2.2.1 + c0.2.2.2.2.2.1))), (23, cB (decide (v0 ≤ (IntKind.i64.wrap (c0.2.2.1 + c0.2.2.2.2.2.1))))), (26, .agg (avs z7 c0.2.2.2)), (27, cI c0.1), (28, cI c0.2.1), (29, cI v0), (30, cB p2), (31, cB (!p2))], [(0, .var (avs z7 c0.2.2.2))]⟩
def YiMayUse_0_1 {R : Type} (K : Ex → St → Option R) (c0 : xa2) (v0 : x81) : Option R := K (.exit 0) ⟨32, 1, [(1, cI c0.1), (2, cI c0.2.1), (3, cI c0.2.2.1), (4, cP 0), (9, cI v0), (18, cI v0), (19, cI c0.2.2.1), (20, .c (.ptr 0 2)), (21, cI c0.2.2.2.2.2.1), (22, cI (IntKind.i64.wrap (c0.2.2.1 + c0.2.2.2.2.2.1))), (23, cB (decide (v0 ≤ (IntKind.i64.wrap (c0.2.2.1 + c0.2.2.2.2.2.1)))))], [(0, .var (avs z7 c0.2.2.2))]⟩
theorem liMayUse_0 {R : Type} (k : Nat) (K : Ex → St → Option R) (c0 : xa2) : ∀ (n : Nat) (v : x81), z2 [0, 1, 2, 3, 4, 9] (run E (den E k) (lv 45) k (j1 Tryz.f45 0)) n (StiMayUse_0 c0 v) K = yb3 k (YiMayUse_0_0 K c0) (YiMayUse_0_1 K c0) c0 n v := j5 (B := BiMayUse_0 k (YiMayUse_0_0 K c0) (YiMayUse_0_1 K c0) c0) (fun _ => rfl) (fun n v => by kernel_rfl) (fun _ => rfl) (fun _ _ => rfl)
theorem miMayUse_0 (k : Nat) (a0 : j2) (a1 : Int) (a2 : Int) (a3 : Int) : FiMayUse (k + 1) a0 a1 a2 a3 = (z92 k a0 a3).bind fun p1 => if (!p1) = true then some false else z2 (R := Bool) [0, 1, 2, 3, 4, 9] (run E (den E k) (lv 45) k (j1 Tryz.f45 0)) k (StiMayUse_0 (a1, a2, a3, a0) (IntKind.i64.wrap (a3 - a0.2.2.1))) (wc E (den E k) (lv 45) k (ye Tryz.f45) 0 [] (vd E (rs 45) Tryz.f45 : Ex → St → Option (Bool))) := by kernel_rfl
theorem eiMayUse (k : Nat) (a0 : j2) (a1 : Int) (a2 : Int) (a3 : Int) : FiMayUse (k + 1) a0 a1 a2 a3 = (z92 k a0 a3).bind fun p1 => if (!p1) = true then some false else yb3 k (fun (v0 : Int) (p2 : Bool) => some false) (fun (v0 : Int) => some true) (a1, a2, a3, a0) k (IntKind.i64.wrap (a3 - a0.2.2.1)) := by
 rw [miMayUse_0]
 simp only [liMayUse_0]
 kernel_rfl
noncomputable def jl3 (k : Nat) (a0 : List Int) (a1 : Int) : Option (Int) := den E k 181 [.c (.l 3 (.i .i64) a0), cI a1]
abbrev yj1 : Type := (List Int) × Int × Int
abbrev vp : Type := Int
def zf3 (c0 : yj1) (v0 : vp) : St := ⟨19, 0, [(0, .c (.l 3 (.i .i64) c0.1)), (1, cI c0.2.1), (7, cI c0.2.2), (8, cI v0)], []⟩
noncomputable def wy3 {R : Type} (k : Nat) (X0 : vp → Int → Option R) (X1 : vp → Option R) (c0 : yj1) (rec : vp → Option R) (v0 : vp) : Option R := if (decide (v0 < c0.2.2)) = true then if 0 ≤ v0 then ix c0.1 v0.toNat fun x1 => if (c0.2.1 == x1) = true then X0 v0 x1 else rec (IntKind.i64.wrap (v0 + 1)) else none else X1 v0
noncomputable def j62 {R : Type} (k : Nat) (X0 : vp → Int → Option R) (X1 : vp → Option R) (c : yj1) : Nat → vp → Option R
 | 0, _ => none
 | n + 1, v => wy3 k X0 X1 c (j62 k X0 X1 c n) v
def v03 {R : Type} (K : Ex → St → Option R) (c0 : yj1) (v0 : vp) (x1 : Int) : Option R := K .ret ⟨19, 0, [(0, .c (.l 3 (.i .i64) c0.1)), (1, cI c0.2.1), (4, cI v0), (5, cI v0), (7, cI c0.2.2), (8, cI v0), (9, cB (decide (v0 < c0.2.2))), (10, cI v0), (11, cI c0.2.1), (12, .c (.l 3 (.i .i64) c0.1)), (13, cI v0), (14, .c (.at_ [vI x1])), (15, cI x1), (16, cB (c0.2.1 == x1)), (17, cI v0)], []⟩
def v73 {R : Type} (K : Ex → St → Option R) (c0 : yj1) (v0 : vp) : Option R := K (.exit 0) ⟨19, 0, [(0, .c (.l 3 (.i .i64) c0.1)), (1, cI c0.2.1), (7, cI c0.2.2), (8, cI v0), (9, cB (decide (v0 < c0.2.2)))], []⟩
theorem lgIndex_int_0 {R : Type} (k : Nat) (K : Ex → St → Option R) (c0 : yj1) : ∀ (n : Nat) (v : vp), z2 [0, 0, 1, 7, 8] (run E (den E k) (lv 181) k (j1 Tryz.f181 0)) n (zf3 c0 v) K = j62 k (v03 K c0) (v73 K c0) c0 n v := j5 (B := wy3 k (v03 K c0) (v73 K c0) c0) (fun _ => rfl) (fun n v => by kernel_rfl) (fun _ => rfl) (fun _ _ => rfl)
theorem mgIndex_int_0 (k : Nat) (a0 : List Int) (a1 : Int) : jl3 (k + 1) a0 a1 = z2 (R := Int) [0, 0, 1, 7, 8] (run E (den E k) (lv 181) k (j1 Tryz.f181 0)) k (zf3 (a0, a1, (a0.length : Int)) 0) (wc E (den E k) (lv 181) k (ye Tryz.f181) 0 [] (vd E (rs 181) Tryz.f181 : Ex → St → Option (Int))) := by kernel_rfl
theorem egIndex_int (k : Nat) (a0 : List Int) (a1 : Int) : jl3 (k + 1) a0 a1 = j62 k (fun (v0 : Int) (x1 : Int) => some v0) (fun (v0 : Int) => some (-1)) (a0, a1, (a0.length : Int)) k 0 := by
 rw [mgIndex_int_0]
 simp only [lgIndex_int_0]
 kernel_rfl
noncomputable def ze1 (k : Nat) (a0 : List Int) (a1 : Int) : Option (Bool) := den E k 116 [.c (.l 3 (.i .i64) a0), cI a1]
theorem egContains_int (k : Nat) (a0 : List Int) (a1 : Int) : ze1 (k + 1) a0 a1 = (jl3 k a0 a1).bind fun p1 => some (decide (p1 ≥ 0)) := by kernel_rfl
noncomputable def wb2 (k : Nat) (a0 : Int) : Option (Bool) := den E k 225 [cI a0]
theorem zy2 (k : Nat) (a0 : Int) : wb2 (k + 1) a0 = some (a0 != a0) := by kernel_rfl
noncomputable def xv3 (k : Nat) (a0 : Int) (a1 : Int) : Option (Int) := den E k 190 [cI a0, cI a1]
theorem egCompare_int (k : Nat) (a0 : Int) (a1 : Int) : xv3 (k + 1) a0 a1 = (wb2 k a0).bind fun p1 => (wb2 k a1).bind fun p2 => if p1 = true then if p2 = true then some 0 else some (-1) else if p2 = true then some 1 else if (decide (a0 < a1)) = true then some (-1) else if (decide (a0 > a1)) = true then some 1 else some 0 := by kernel_rfl
noncomputable def vx1 (k : Nat) (a0 : Int) (a1 : Int) (a2 : Int) (a3 : List Int) (a4 : List Int) : Option (Int) := den E k 189 [cI a0, cI a1, .c (.at_ [vI a2, .l 3 (.i .i64) a3, .l 3 (.i .i64) a4])]
theorem eiAltsOf_1v (k : Nat) (a0 : Int) (a1 : Int) (a2 : Int) (a3 : List Int) (a4 : List Int) : vx1 (k + 1) a0 a1 a2 a3 a4 = if 0 ≤ a0 then ix a3 a0.toNat fun x1 => if 0 ≤ a1 then ix a3 a1.toNat fun x2 => (xv3 k x1 x2).bind fun p3 => some p3 else none else none := by kernel_rfl
noncomputable def ja (k : Nat) (a0 : List Int) (a1 : Int) (a2 : Int) (a3 : Int) (a4 : List Int) (a5 : List Int) : Option (List Int) := den E k 242 [.c (.l 3 (.i .i64) a0), cI a1, cI a2, .c (.clo 189 [.at_ [vI a3, .l 3 (.i .i64) a4, .l 3 (.i .i64) a5]])]
abbrev jc : Type := Int × Int × Int × (List Int) × (List Int) × Int
abbrev j3 : Type := Int × (List Int)
def jr (c1 : jc) (v1 : j3) : St := ⟨53, 1, [(0, .c (.ref 0)), (1, cI c1.1), (2, cI c1.2.1), (3, .c (.clo 189 [.at_ [vI c1.2.2.1, .l 3 (.i .i64) c1.2.2.2.1, .l 3 (.i .i64) c1.2.2.2.2.1]])), (8, cI c1.2.2.2.2.2), (9, cI v1.1)], [(0, .arr 3 (.i .i64) v1.2)]⟩
noncomputable def wt {R : Type} (k : Nat) (X0 : j3 → Int → Int → Int → Option R) (X1 : j3 → Option R) (c1 : jc) (rec : j3 → Option R) (v1 : j3) : Option R := if ((decide (v1.1 > c1.1)) == true) = true then if 0 ≤ v1.1 then if v1.1 < (v1.2.length : Int) then ix v1.2 v1.1.toNat fun x1 => if 0 ≤ (IntKind.i64.wrap (v1.1 - 1)) then if (IntKind.i64.wrap (v1.1 - 1)) < (v1.2.length : Int) then ix v1.2 ((IntKind.i64.wrap (v1.1 - 1)).toNat) fun x2 => (vx1 k x1 x2 c1.2.2.1 c1.2.2.2.1 c1.2.2.2.2.1).bind fun p3 => if (decide (p3 < 0)) = true then if 0 ≤ (IntKind.i64.wrap (v1.1 - 1)) then if (IntKind.i64.wrap (v1.1 - 1)) < (v1.2.length : Int) then ix v1.2 ((IntKind.i64.wrap (v1.1 - 1)).toNat) fun x4 => if 0 ≤ v1.1 then if v1.1 < (v1.2.length : Int) then ix v1.2 v1.1.toNat fun x5 => if 0 ≤ v1.1 then if v1.1 < (v1.2.length : Int) then ix v1.2 v1.1.toNat fun y6 => if 0 ≤ (IntKind.i64.wrap (v1.1 - 1)) then if (IntKind.i64.wrap (v1.1 - 1)) < ((v1.2.set v1.1.toNat x4).length : Int) then ix (v1.2.set v1.1.toNat x4) ((IntKind.i64.wrap (v1.1 - 1)).toNat) fun y7 => rec ((IntKind.i64.wrap (v1.1 - 1)), ((v1.2.set v1.1.toNat x4).set ((IntKind.i64.wrap (v1.1 - 1)).toNat) x5)) else none else none else none else none else none else none else none else none else X0 v1 x1 x2 p3 else none else none else none else none else X1 v1
noncomputable def je {R : Type} (k : Nat) (X0 : j3 → Int → Int → Int → Option R) (X1 : j3 → Option R) (c : jc) : Nat → j3 → Option R
 | 0, _ => none
 | n + 1, v => wt k X0 X1 c (je k X0 X1 c n) v
def zr {R : Type} (K : Ex → St → Option R) (c1 : jc) (v1 : j3) (x1 : Int) (x2 : Int) (p3 : Int) : Option R := K (.exit 2) ⟨53, 1, [(0, .c (.ref 0)), (1, cI c1.1), (2, cI c1.2.1), (3, .c (.clo 189 [.at_ [vI c1.2.2.1, .l 3 (.i .i64) c1.2.2.2.1, .l 3 (.i .i64) c1.2.2.2.2.1]])), (8, cI c1.2.2.2.2.2), (9, cI v1.1), (18, cI v1.1), (19, cI c1.1), (20, cB (decide (v1.1 > c1.1))), (21, cB true), (22, .c (.clo 189 [.at_ [vI c1.2.2.1, .l 3 (.i .i64) c1.2.2.2.1, .l 3 (.i .i64) c1.2.2.2.2.1]])), (23, .c (.ref 0)), (24, cI v1.1), (25, .c (.el 0 1 v1.1.toNat 0)), (26, cI x1), (27, .c (.ref 0)), (28, cI v1.1), (29, cI (IntKind.i64.wrap (v1.1 - 1))), (30, .c (.el 0 1 ((IntKind.i64.wrap (v1.1 - 1)).toNat) 0)), (31, cI x2), (32, cI p3), (33, cB (decide (p3 < 0))), (34, cB (decide (p3 < 0)))], [(0, .arr 3 (.i .i64) v1.2)]⟩
def jq {R : Type} (K : Ex → St → Option R) (c1 : jc) (v1 : j3) : Option R := K (.exit 2) ⟨53, 1, [(0, .c (.ref 0)), (1, cI c1.1), (2, cI c1.2.1), (3, .c (.clo 189 [.at_ [vI c1.2.2.1, .l 3 (.i .i64) c1.2.2.2.1, .l 3 (.i .i64) c1.2.2.2.2.1]])), (8, cI c1.2.2.2.2.2), (9, cI v1.1), (18, cI v1.1), (19, cI c1.1), (20, cB (decide (v1.1 > c1.1))), (21, cB false), (22, .tup []), (23, .tup []), (24, .tup []), (25, .tup []), (26, .tup []), (27, .tup []), (28, .tup []), (29, .tup []), (30, .tup []), (31, .tup []), (32, .tup []), (33, .tup []), (34, cB false)], [(0, .arr 3 (.i .i64) v1.2)]⟩
theorem yf1 {R : Type} (k : Nat) (K : Ex → St → Option R) (c1 : jc) : ∀ (n : Nat) (v : j3), z2 [1, 0, 1, 2, 3, 8, 9] (run E (den E k) (lv 242) k (j1 Tryz.f242 1)) n (jr c1 v) K = je k (zr K c1) (jq K c1) c1 n v := j5 (B := wt k (zr K c1) (jq K c1) c1) (fun _ => rfl) (fun n v => by kernel_rfl) (fun _ => rfl) (fun _ _ => rfl)
abbrev xc : Type := Int × Int × Int × (List Int) × (List Int)
abbrev y5 : Type := Int × (List Int)
def ze (c0 : xc) (v0 : y5) : St := ⟨53, 1, [(0, .c (.ref 0)), (1, cI c0.1), (2, cI c0.2.1), (3, .c (.clo 189 [.at_ (avs j8 c0.2.2)])), (8, cI v0.1)], [(0, .arr 3 (.i .i64) v0.2)]⟩
noncomputable def yl {R : Type} (k : Nat) (X0 : y5 → Option R) (c0 : xc) (rec : y5 → Option R) (v0 : y5) : Option R := if (decide (v0.1 < c0.2.1)) = true then je k (fun (v1 : Int × (List Int)) (x1 : Int) (x2 : Int) (p3 : Int) => rec ((IntKind.i64.wrap (v0.1 + 1)), v1.2)) (fun (v1 : Int × (List Int)) => rec ((IntKind.i64.wrap (v0.1 + 1)), v1.2)) (c0.1, c0.2.1, c0.2.2.1, c0.2.2.2.1, c0.2.2.2.2, v0.1) k v0 else X0 v0
noncomputable def yc {R : Type} (k : Nat) (X0 : y5 → Option R) (c : xc) : Nat → y5 → Option R
 | 0, _ => none
 | n + 1, v => yl k X0 c (yc k X0 c n) v
def vk {R : Type} (K : Ex → St → Option R) (c0 : xc) (v0 : y5) : Option R := K (.exit 0) ⟨53, 1, [(0, .c (.ref 0)), (1, cI c0.1), (2, cI c0.2.1), (3, .c (.clo 189 [.at_ (avs j8 c0.2.2)])), (8, cI v0.1), (12, cI v0.1), (13, cI c0.2.1), (14, cB (decide (v0.1 < c0.2.1)))], [(0, .arr 3 (.i .i64) v0.2)]⟩
theorem zd1 {R : Type} (k n : Nat) (K : Ex → St → Option R) (c0 : xc) (v0 : y5) : z2 [1, 0, 1, 2, 3, 8] (run E (den E k) (lv 242) k (j1 Tryz.f242 0)) (n + 1) (ze c0 v0) K = if (decide (v0.1 < c0.2.1)) = true then z2 [1, 0, 1, 2, 3, 8, 9] (run E (den E k) (lv 242) k (j1 Tryz.f242 1)) k (jr (c0.1, c0.2.1, c0.2.2.1, c0.2.2.2.1, c0.2.2.2.2, v0.1) v0) (wc E (den E k) (lv 242) k (.loop (j1 Tryz.f242 0)) (1 - 0) [(n, [1, 0, 1, 2, 3, 8])] K) else K (.exit 0) ⟨53, 1, [(0, .c (.ref 0)), (1, cI c0.1), (2, cI c0.2.1), (3, .c (.clo 189 [.at_ (avs j8 c0.2.2)])), (8, cI v0.1), (12, cI v0.1), (13, cI c0.2.1), (14, cB (decide (v0.1 < c0.2.1)))], [(0, .arr 3 (.i .i64) v0.2)]⟩ := by kernel_rfl
theorem yh1 {R : Type} (k n : Nat) (K : Ex → St → Option R) (c0 : xc) (v : y5) : z2 [1, 0, 1, 2, 3, 8] (run E (den E k) (lv 242) k (j1 Tryz.f242 0)) (n + 1) (ze c0 v) K = yl k (vk K c0) c0 (fun v => z2 [1, 0, 1, 2, 3, 8] (run E (den E k) (lv 242) k (j1 Tryz.f242 0)) n (ze c0 v) K) v := by
 rw [zd1]
 simp only [yf1]
 kernel_rfl
theorem wf1 {R : Type} (k : Nat) (K : Ex → St → Option R) (c0 : xc) : ∀ (n : Nat) (v : y5), z2 [1, 0, 1, 2, 3, 8] (run E (den E k) (lv 242) k (j1 Tryz.f242 0)) n (ze c0 v) K = yc k (vk K c0) c0 n v := j5 (B := yl k (vk K c0) c0) (fun _ => rfl) (fun n v => yh1 k n K c0 v) (fun _ => rfl) (fun _ _ => rfl)
theorem zg1 (k : Nat) (a0 : List Int) (a1 : Int) (a2 : Int) (a3 : Int) (a4 : List Int) (a5 : List Int) : ja (k + 1) a0 a1 a2 a3 a4 a5 = z2 (R := List Int) [1, 0, 1, 2, 3, 8] (run E (den E k) (lv 242) k (j1 Tryz.f242 0)) k (ze (a1, a2, a3, a4, a5) ((IntKind.i64.wrap (a1 + 1)), a0)) (wc E (den E k) (lv 242) k (ye Tryz.f242) 0 [] (vd E (rs 242) Tryz.f242 : Ex → St → Option (List Int))) := by kernel_rfl
theorem jj1 (k : Nat) (a0 : List Int) (a1 : Int) (a2 : Int) (a3 : Int) (a4 : List Int) (a5 : List Int) : ja (k + 1) a0 a1 a2 a3 a4 a5 = yc k (fun (v0 : Int × (List Int)) => some v0.2) (a1, a2, a3, a4, a5) k ((IntKind.i64.wrap (a1 + 1)), a0) := by
 rw [zg1]
 simp only [wf1]
 kernel_rfl
noncomputable def xd (k : Nat) (a0 : List Int) (a1 : Int) (a2 : Int) (a3 : Int) (a4 : Int) (a5 : List Int) (a6 : List Int) : Option (List Int) := den E k 265 [.c (.l 3 (.i .i64) a0), cI a1, cI a2, cI a3, .c (.clo 189 [.at_ [vI a4, .l 3 (.i .i64) a5, .l 3 (.i .i64) a6]])]
abbrev yg : Type := Int × Int × Int
abbrev j7 : Type := Int × (List Int)
def xx (c0 : yg) (v0 : j7) : St := ⟨38, 1, [(0, .c (.ref 0)), (1, cI c0.1), (2, cI c0.2.1), (3, cI c0.2.2), (10, cI v0.1)], [(0, .arr 3 (.i .i64) v0.2)]⟩
noncomputable def z01 {R : Type} (k : Nat) (X0 : j7 → Option R) (c0 : yg) (rec : j7 → Option R) (v0 : j7) : Option R := if (decide (v0.1 < c0.2.2)) = true then if 0 ≤ (IntKind.i64.wrap (c0.2.1 + v0.1)) then if (IntKind.i64.wrap (c0.2.1 + v0.1)) < (v0.2.length : Int) then ix v0.2 ((IntKind.i64.wrap (c0.2.1 + v0.1)).toNat) fun x1 => if 0 ≤ (IntKind.i64.wrap (c0.1 + v0.1)) then if (IntKind.i64.wrap (c0.1 + v0.1)) < (v0.2.length : Int) then ix v0.2 ((IntKind.i64.wrap (c0.1 + v0.1)).toNat) fun x2 => if 0 ≤ (IntKind.i64.wrap (c0.1 + v0.1)) then if (IntKind.i64.wrap (c0.1 + v0.1)) < (v0.2.length : Int) then ix v0.2 ((IntKind.i64.wrap (c0.1 + v0.1)).toNat) fun y3 => if 0 ≤ (IntKind.i64.wrap (c0.2.1 + v0.1)) then if (IntKind.i64.wrap (c0.2.1 + v0.1)) < ((v0.2.set ((IntKind.i64.wrap (c0.1 + v0.1)).toNat) x1).length : Int) then ix (v0.2.set ((IntKind.i64.wrap (c0.1 + v0.1)).toNat) x1) ((IntKind.i64.wrap (c0.2.1 + v0.1)).toNat) fun y4 => rec ((IntKind.i64.wrap (v0.1 + 1)), ((v0.2.set ((IntKind.i64.wrap (c0.1 + v0.1)).toNat) x1).set ((IntKind.i64.wrap (c0.2.1 + v0.1)).toNat) x2)) else none else none else none else none else none else none else none else none else X0 v0
noncomputable def zk {R : Type} (k : Nat) (X0 : j7 → Option R) (c : yg) : Nat → j7 → Option R
 | 0, _ => none
 | n + 1, v => z01 k X0 c (zk k X0 c n) v
def vw {R : Type} (K : Ex → St → Option R) (c0 : yg) (v0 : j7) : Option R := K (.exit 0) ⟨38, 1, [(0, .c (.ref 0)), (1, cI c0.1), (2, cI c0.2.1), (3, cI c0.2.2), (10, cI v0.1), (11, cI v0.1), (12, cI c0.2.2), (13, cB (decide (v0.1 < c0.2.2)))], [(0, .arr 3 (.i .i64) v0.2)]⟩
theorem ym1 {R : Type} (k : Nat) (K : Ex → St → Option R) (c0 : yg) : ∀ (n : Nat) (v : j7), z2 [1, 0, 1, 2, 3, 10] (run E (den E k) (lv 265) k (j1 Tryz.f265 0)) n (xx c0 v) K = zk k (vw K c0) c0 n v := j5 (B := z01 k (vw K c0) c0) (fun _ => rfl) (fun n v => by kernel_rfl) (fun _ => rfl) (fun _ _ => rfl)
theorem vl1 (k : Nat) (a0 : List Int) (a1 : Int) (a2 : Int) (a3 : Int) (a4 : Int) (a5 : List Int) (a6 : List Int) : xd (k + 1) a0 a1 a2 a3 a4 a5 a6 = z2 (R := List Int) [1, 0, 1, 2, 3, 10] (run E (den E k) (lv 265) k (j1 Tryz.f265 0)) k (xx (a1, a2, a3) (0, a0)) (wc E (den E k) (lv 265) k (ye Tryz.f265) 0 [] (vd E (rs 265) Tryz.f265 : Ex → St → Option (List Int))) := by kernel_rfl
theorem js1 (k : Nat) (a0 : List Int) (a1 : Int) (a2 : Int) (a3 : Int) (a4 : Int) (a5 : List Int) (a6 : List Int) : xd (k + 1) a0 a1 a2 a3 a4 a5 a6 = zk k (fun (v0 : Int × (List Int)) => some v0.2) (a1, a2, a3) k (0, a0) := by
 rw [vl1]
 simp only [ym1]
 kernel_rfl
noncomputable def yd (k : Nat) (a0 : List Int) (a1 : Int) (a2 : Int) (a3 : Int) (a4 : Int) (a5 : List Int) (a6 : List Int) : Option (List Int) := den E k 259 [.c (.l 3 (.i .i64) a0), cI a1, cI a2, cI a3, .c (.clo 189 [.at_ [vI a4, .l 3 (.i .i64) a5, .l 3 (.i .i64) a6]])]
abbrev zj : Type := Int × Int × (List Int) × (List Int)
abbrev xb : Type := Int × Int × (List Int)
def w61 (c0 : zj) (v0 : xb) : St := ⟨58, 1, [(0, .c (.ref 0)), (2, cI c0.1), (4, .c (.clo 189 [.at_ (avs j8 c0.2)])), (10, cI v0.1), (11, cI v0.2.1)], [(0, .arr 3 (.i .i64) v0.2.2)]⟩
noncomputable def y71 {R : Type} (k : Nat) (X0 : xb → Option R) (c0 : zj) (rec : xb → Option R) (v0 : xb) : Option R := if (v0.1 != v0.2.1) = true then if (decide (v0.1 > v0.2.1)) = true then (xd k v0.2.2 (IntKind.i64.wrap (c0.1 - v0.1)) c0.1 v0.2.1 c0.2.1 c0.2.2.1 c0.2.2.2).bind fun p1 => rec ((IntKind.i64.wrap (v0.1 - v0.2.1)), v0.2.1, p1) else (xd k v0.2.2 (IntKind.i64.wrap (c0.1 - v0.1)) (IntKind.i64.wrap ((IntKind.i64.wrap (c0.1 + v0.2.1)) - v0.1)) v0.1 c0.2.1 c0.2.2.1 c0.2.2.2).bind fun p2 => rec (v0.1, (IntKind.i64.wrap (v0.2.1 - v0.1)), p2) else X0 v0
noncomputable def zl {R : Type} (k : Nat) (X0 : xb → Option R) (c : zj) : Nat → xb → Option R
 | 0, _ => none
 | n + 1, v => y71 k X0 c (zl k X0 c n) v
def x31 {R : Type} (K : Ex → St → Option R) (c0 : zj) (v0 : xb) : Option R := K (.exit 0) ⟨58, 1, [(0, .c (.ref 0)), (2, cI c0.1), (4, .c (.clo 189 [.at_ (avs j8 c0.2)])), (10, cI v0.1), (11, cI v0.2.1), (18, cI v0.1), (19, cI v0.2.1), (20, cB (v0.1 != v0.2.1))], [(0, .arr 3 (.i .i64) v0.2.2)]⟩
theorem wu1 {R : Type} (k : Nat) (K : Ex → St → Option R) (c0 : zj) : ∀ (n : Nat) (v : xb), z2 [1, 0, 2, 4, 10, 11] (run E (den E k) (lv 259) k (j1 Tryz.f259 0)) n (w61 c0 v) K = zl k (x31 K c0) c0 n v := j5 (B := y71 k (x31 K c0) c0) (fun _ => rfl) (fun n v => by kernel_rfl) (fun _ => rfl) (fun _ _ => rfl)
theorem zv1 (k : Nat) (a0 : List Int) (a1 : Int) (a2 : Int) (a3 : Int) (a4 : Int) (a5 : List Int) (a6 : List Int) : yd (k + 1) a0 a1 a2 a3 a4 a5 a6 = z2 (R := List Int) [1, 0, 2, 4, 10, 11] (run E (den E k) (lv 259) k (j1 Tryz.f259 0)) k (w61 (a2, a4, a5, a6) ((IntKind.i64.wrap (a2 - a1)), (IntKind.i64.wrap (a3 - a2)), a0)) (wc E (den E k) (lv 259) k (ye Tryz.f259) 0 [] (vd E (rs 259) Tryz.f259 : Ex → St → Option (List Int))) := by kernel_rfl
theorem x22 (k : Nat) (a0 : List Int) (a1 : Int) (a2 : Int) (a3 : Int) (a4 : Int) (a5 : List Int) (a6 : List Int) : yd (k + 1) a0 a1 a2 a3 a4 a5 a6 = zl k (fun (v0 : Int × Int × (List Int)) => (xd k v0.2.2 (IntKind.i64.wrap (a2 - v0.1)) a2 v0.1 a4 a5 a6).bind fun p1 => some p1) (a2, a4, a5, a6) k ((IntKind.i64.wrap (a2 - a1)), (IntKind.i64.wrap (a3 - a2)), a0) := by
 rw [zv1]
 simp only [wu1]
 kernel_rfl
noncomputable def j0 (k : Nat) (a0 : List Int) (a1 : Int) (a2 : Int) (a3 : Int) (a4 : Int) (a5 : List Int) (a6 : List Int) : Option (List Int) := den E k 243 [.c (.l 3 (.i .i64) a0), cI a1, cI a2, cI a3, .c (.clo 189 [.at_ [vI a4, .l 3 (.i .i64) a5, .l 3 (.i .i64) a6]])]
abbrev xh : Type := Int × Int × Int × Int × (List Int) × (List Int) × Int × Int × Int × (List Int)
abbrev xa : Type := Int × Int
def yn (c4 : xh) (v4 : xa) : St := ⟨220, 1, [(0, .c (.ref 0)), (1, cI c4.1), (2, cI c4.2.1), (3, cI c4.2.2.1), (4, .c (.clo 189 [.at_ [vI c4.2.2.2.1, .l 3 (.i .i64) c4.2.2.2.2.1, .l 3 (.i .i64) c4.2.2.2.2.2.1]])), (18, cI c4.2.2.2.2.2.2.1), (19, cI c4.2.2.2.2.2.2.2.1), (20, cI v4.1), (21, cI v4.2), (22, cI c4.2.2.2.2.2.2.2.2.1)], [(0, .arr 3 (.i .i64) c4.2.2.2.2.2.2.2.2.2)]⟩
noncomputable def z31 {R : Type} (k : Nat) (X0 : xa → Option R) (c4 : xh) (rec : xa → Option R) (v4 : xa) : Option R := if (decide (v4.1 < v4.2)) = true then if 0 ≤ (IntKind.i64.wrap (c4.2.2.2.2.2.2.2.2.1 - (IntKind.i64.wrap (((IntKind.u64.wrap (IntKind.i64.wrap (v4.1 + v4.2)))).fdiv (2 ^ (min (1 : Int).toNat IntKind.u64.bits)))))) then if (IntKind.i64.wrap (c4.2.2.2.2.2.2.2.2.1 - (IntKind.i64.wrap (((IntKind.u64.wrap (IntKind.i64.wrap (v4.1 + v4.2)))).fdiv (2 ^ (min (1 : Int).toNat IntKind.u64.bits)))))) < (c4.2.2.2.2.2.2.2.2.2.length : Int) then ix c4.2.2.2.2.2.2.2.2.2 ((IntKind.i64.wrap (c4.2.2.2.2.2.2.2.2.1 - (IntKind.i64.wrap (((IntKind.u64.wrap (IntKind.i64.wrap (v4.1 + v4.2)))).fdiv (2 ^ (min (1 : Int).toNat IntKind.u64.bits)))))).toNat) fun x7 => if 0 ≤ (IntKind.i64.wrap (((IntKind.u64.wrap (IntKind.i64.wrap (v4.1 + v4.2)))).fdiv (2 ^ (min (1 : Int).toNat IntKind.u64.bits)))) then if (IntKind.i64.wrap (((IntKind.u64.wrap (IntKind.i64.wrap (v4.1 + v4.2)))).fdiv (2 ^ (min (1 : Int).toNat IntKind.u64.bits)))) < (c4.2.2.2.2.2.2.2.2.2.length : Int) then ix c4.2.2.2.2.2.2.2.2.2 ((IntKind.i64.wrap (((IntKind.u64.wrap (IntKind.i64.wrap (v4.1 + v4.2)))).fdiv (2 ^ (min (1 : Int).toNat IntKind.u64.bits)))).toNat) fun x8 => (vx1 k x7 x8 c4.2.2.2.1 c4.2.2.2.2.1 c4.2.2.2.2.2.1).bind fun p9 => if (!(decide (p9 < 0))) = true then rec ((IntKind.i64.wrap ((IntKind.i64.wrap (((IntKind.u64.wrap (IntKind.i64.wrap (v4.1 + v4.2)))).fdiv (2 ^ (min (1 : Int).toNat IntKind.u64.bits)))) + 1)), v4.2) else rec (v4.1, (IntKind.i64.wrap (((IntKind.u64.wrap (IntKind.i64.wrap (v4.1 + v4.2)))).fdiv (2 ^ (min (1 : Int).toNat IntKind.u64.bits))))) else none else none else none else none else X0 v4
noncomputable def v6 {R : Type} (k : Nat) (X0 : xa → Option R) (c : xh) : Nat → xa → Option R
 | 0, _ => none
 | n + 1, v => z31 k X0 c (v6 k X0 c n) v
def vx {R : Type} (K : Ex → St → Option R) (c4 : xh) (v4 : xa) : Option R := K (.exit 8) ⟨220, 1, [(0, .c (.ref 0)), (1, cI c4.1), (2, cI c4.2.1), (3, cI c4.2.2.1), (4, .c (.clo 189 [.at_ [vI c4.2.2.2.1, .l 3 (.i .i64) c4.2.2.2.2.1, .l 3 (.i .i64) c4.2.2.2.2.2.1]])), (18, cI c4.2.2.2.2.2.2.1), (19, cI c4.2.2.2.2.2.2.2.1), (20, cI v4.1), (21, cI v4.2), (22, cI c4.2.2.2.2.2.2.2.2.1), (149, cI v4.1), (150, cI v4.2), (151, cB (decide (v4.1 < v4.2)))], [(0, .arr 3 (.i .i64) c4.2.2.2.2.2.2.2.2.2)]⟩
theorem vq1 {R : Type} (k : Nat) (K : Ex → St → Option R) (c4 : xh) : ∀ (n : Nat) (v : xa), z2 [1, 0, 1, 2, 3, 4, 18, 19, 20, 21, 22] (run E (den E k) (lv 243) k (j1 Tryz.f243 4)) n (yn c4 v) K = v6 k (vx K c4) c4 n v := j5 (B := z31 k (vx K c4) c4) (fun _ => rfl) (fun n v => by kernel_rfl) (fun _ => rfl) (fun _ _ => rfl)
abbrev zh : Type := Int × Int × Int × Int × (List Int) × (List Int) × Int × Int
abbrev za : Type := Int × (List Int)
def y21 (c3 : zh) (v3 : za) : St := ⟨220, 1, [(0, .c (.ref 0)), (1, cI c3.1), (2, cI c3.2.1), (3, cI c3.2.2.1), (4, .c (.clo 189 [.at_ [vI c3.2.2.2.1, .l 3 (.i .i64) c3.2.2.2.2.1, .l 3 (.i .i64) c3.2.2.2.2.2.1]])), (14, cI c3.2.2.2.2.2.2.1), (15, cI c3.2.2.2.2.2.2.2), (17, cI v3.1)], [(0, .arr 3 (.i .i64) v3.2)]⟩
noncomputable def v31 {R : Type} (k : Nat) (X0 : za → Option R) (c3 : zh) (rec : za → Option R) (v3 : za) : Option R := if (decide (v3.1 > c3.2.2.2.2.2.2.1)) = true then if 0 ≤ (IntKind.i64.wrap (v3.1 - 1)) then if (IntKind.i64.wrap (v3.1 - 1)) < (v3.2.length : Int) then ix v3.2 ((IntKind.i64.wrap (v3.1 - 1)).toNat) fun x5 => if 0 ≤ v3.1 then if v3.1 < (v3.2.length : Int) then ix v3.2 v3.1.toNat fun x6 => if 0 ≤ v3.1 then if v3.1 < (v3.2.length : Int) then ix v3.2 v3.1.toNat fun y7 => if 0 ≤ (IntKind.i64.wrap (v3.1 - 1)) then if (IntKind.i64.wrap (v3.1 - 1)) < ((v3.2.set v3.1.toNat x5).length : Int) then ix (v3.2.set v3.1.toNat x5) ((IntKind.i64.wrap (v3.1 - 1)).toNat) fun y8 => rec ((IntKind.i64.wrap (v3.1 - 1)), ((v3.2.set v3.1.toNat x5).set ((IntKind.i64.wrap (v3.1 - 1)).toNat) x6)) else none else none else none else none else none else none else none else none else X0 v3
noncomputable def vg {R : Type} (k : Nat) (X0 : za → Option R) (c : zh) : Nat → za → Option R
 | 0, _ => none
 | n + 1, v => v31 k X0 c (vg k X0 c n) v
def xy {R : Type} (K : Ex → St → Option R) (c3 : zh) (v3 : za) : Option R := K (.exit 6) ⟨220, 1, [(0, .c (.ref 0)), (1, cI c3.1), (2, cI c3.2.1), (3, cI c3.2.2.1), (4, .c (.clo 189 [.at_ [vI c3.2.2.2.1, .l 3 (.i .i64) c3.2.2.2.2.1, .l 3 (.i .i64) c3.2.2.2.2.2.1]])), (14, cI c3.2.2.2.2.2.2.1), (15, cI c3.2.2.2.2.2.2.2), (17, cI v3.1), (108, cI v3.1), (109, cI c3.2.2.2.2.2.2.1), (110, cB (decide (v3.1 > c3.2.2.2.2.2.2.1)))], [(0, .arr 3 (.i .i64) v3.2)]⟩
theorem vp1 {R : Type} (k : Nat) (K : Ex → St → Option R) (c3 : zh) : ∀ (n : Nat) (v : za), z2 [1, 0, 1, 2, 3, 4, 14, 15, 17] (run E (den E k) (lv 243) k (j1 Tryz.f243 3)) n (y21 c3 v) K = vg k (xy K c3) c3 n v := j5 (B := v31 k (xy K c3) c3) (fun _ => rfl) (fun n v => by kernel_rfl) (fun _ => rfl) (fun _ _ => rfl)
abbrev yh : Type := Int × Int × Int × Int × (List Int) × (List Int) × (List Int)
abbrev ya : Type := Int × Int
def w01 (c2 : yh) (v2 : ya) : St := ⟨220, 1, [(0, .c (.ref 0)), (1, cI c2.1), (2, cI c2.2.1), (3, cI c2.2.2.1), (4, .c (.clo 189 [.at_ [vI c2.2.2.2.1, .l 3 (.i .i64) c2.2.2.2.2.1, .l 3 (.i .i64) c2.2.2.2.2.2.1]])), (14, cI v2.1), (15, cI v2.2)], [(0, .arr 3 (.i .i64) c2.2.2.2.2.2.2)]⟩
noncomputable def y31 {R : Type} (k : Nat) (X0 : ya → Option R) (c2 : yh) (rec : ya → Option R) (v2 : ya) : Option R := if (decide (v2.1 < v2.2)) = true then if 0 ≤ c2.2.1 then if c2.2.1 < (c2.2.2.2.2.2.2.length : Int) then ix c2.2.2.2.2.2.2 c2.2.1.toNat fun x4 => if 0 ≤ (IntKind.i64.wrap (((IntKind.u64.wrap (IntKind.i64.wrap (v2.1 + v2.2)))).fdiv (2 ^ (min (1 : Int).toNat IntKind.u64.bits)))) then if (IntKind.i64.wrap (((IntKind.u64.wrap (IntKind.i64.wrap (v2.1 + v2.2)))).fdiv (2 ^ (min (1 : Int).toNat IntKind.u64.bits)))) < (c2.2.2.2.2.2.2.length : Int) then ix c2.2.2.2.2.2.2 ((IntKind.i64.wrap (((IntKind.u64.wrap (IntKind.i64.wrap (v2.1 + v2.2)))).fdiv (2 ^ (min (1 : Int).toNat IntKind.u64.bits)))).toNat) fun x5 => (vx1 k x4 x5 c2.2.2.2.1 c2.2.2.2.2.1 c2.2.2.2.2.2.1).bind fun p6 => if (!(decide (p6 < 0))) = true then rec ((IntKind.i64.wrap ((IntKind.i64.wrap (((IntKind.u64.wrap (IntKind.i64.wrap (v2.1 + v2.2)))).fdiv (2 ^ (min (1 : Int).toNat IntKind.u64.bits)))) + 1)), v2.2) else rec (v2.1, (IntKind.i64.wrap (((IntKind.u64.wrap (IntKind.i64.wrap (v2.1 + v2.2)))).fdiv (2 ^ (min (1 : Int).toNat IntKind.u64.bits))))) else none else none else none else none else X0 v2
noncomputable def ve {R : Type} (k : Nat) (X0 : ya → Option R) (c : yh) : Nat → ya → Option R
 | 0, _ => none
 | n + 1, v => y31 k X0 c (ve k X0 c n) v
def jx {R : Type} (K : Ex → St → Option R) (c2 : yh) (v2 : ya) : Option R := K (.exit 4) ⟨220, 1, [(0, .c (.ref 0)), (1, cI c2.1), (2, cI c2.2.1), (3, cI c2.2.2.1), (4, .c (.clo 189 [.at_ [vI c2.2.2.2.1, .l 3 (.i .i64) c2.2.2.2.2.1, .l 3 (.i .i64) c2.2.2.2.2.2.1]])), (14, cI v2.1), (15, cI v2.2), (83, cI v2.1), (84, cI v2.2), (85, cB (decide (v2.1 < v2.2)))], [(0, .arr 3 (.i .i64) c2.2.2.2.2.2.2)]⟩
theorem xq1 {R : Type} (k : Nat) (K : Ex → St → Option R) (c2 : yh) : ∀ (n : Nat) (v : ya), z2 [1, 0, 1, 2, 3, 4, 14, 15] (run E (den E k) (lv 243) k (j1 Tryz.f243 2)) n (w01 c2 v) K = ve k (jx K c2) c2 n v := j5 (B := y31 k (jx K c2) c2) (fun _ => rfl) (fun n v => by kernel_rfl) (fun _ => rfl) (fun _ _ => rfl)
abbrev wg : Type := Int × Int × Int × Int × (List Int) × (List Int) × Int × Int
abbrev y9 : Type := Int × (List Int)
def z11 (c1 : wg) (v1 : y9) : St := ⟨220, 1, [(0, .c (.ref 0)), (1, cI c1.1), (2, cI c1.2.1), (3, cI c1.2.2.1), (4, .c (.clo 189 [.at_ [vI c1.2.2.2.1, .l 3 (.i .i64) c1.2.2.2.2.1, .l 3 (.i .i64) c1.2.2.2.2.2.1]])), (10, cI c1.2.2.2.2.2.2.1), (11, cI c1.2.2.2.2.2.2.2), (13, cI v1.1)], [(0, .arr 3 (.i .i64) v1.2)]⟩
noncomputable def j21 {R : Type} (k : Nat) (X0 : y9 → Option R) (c1 : wg) (rec : y9 → Option R) (v1 : y9) : Option R := if (decide (v1.1 < (IntKind.i64.wrap (c1.2.2.2.2.2.2.1 - 1)))) = true then if 0 ≤ (IntKind.i64.wrap (v1.1 + 1)) then if (IntKind.i64.wrap (v1.1 + 1)) < (v1.2.length : Int) then ix v1.2 ((IntKind.i64.wrap (v1.1 + 1)).toNat) fun x1 => if 0 ≤ v1.1 then if v1.1 < (v1.2.length : Int) then ix v1.2 v1.1.toNat fun x2 => if 0 ≤ v1.1 then if v1.1 < (v1.2.length : Int) then ix v1.2 v1.1.toNat fun y3 => if 0 ≤ (IntKind.i64.wrap (v1.1 + 1)) then if (IntKind.i64.wrap (v1.1 + 1)) < ((v1.2.set v1.1.toNat x1).length : Int) then ix (v1.2.set v1.1.toNat x1) ((IntKind.i64.wrap (v1.1 + 1)).toNat) fun y4 => rec ((IntKind.i64.wrap (v1.1 + 1)), ((v1.2.set v1.1.toNat x1).set ((IntKind.i64.wrap (v1.1 + 1)).toNat) x2)) else none else none else none else none else none else none else none else none else X0 v1
noncomputable def jg {R : Type} (k : Nat) (X0 : y9 → Option R) (c : wg) : Nat → y9 → Option R
 | 0, _ => none
 | n + 1, v => j21 k X0 c (jg k X0 c n) v
def wx {R : Type} (K : Ex → St → Option R) (c1 : wg) (v1 : y9) : Option R := K (.exit 2) ⟨220, 1, [(0, .c (.ref 0)), (1, cI c1.1), (2, cI c1.2.1), (3, cI c1.2.2.1), (4, .c (.clo 189 [.at_ [vI c1.2.2.2.1, .l 3 (.i .i64) c1.2.2.2.2.1, .l 3 (.i .i64) c1.2.2.2.2.2.1]])), (10, cI c1.2.2.2.2.2.2.1), (11, cI c1.2.2.2.2.2.2.2), (13, cI v1.1), (55, cI v1.1), (56, cI c1.2.2.2.2.2.2.1), (57, cI (IntKind.i64.wrap (c1.2.2.2.2.2.2.1 - 1))), (58, cB (decide (v1.1 < (IntKind.i64.wrap (c1.2.2.2.2.2.2.1 - 1)))))], [(0, .arr 3 (.i .i64) v1.2)]⟩
theorem wq1 {R : Type} (k : Nat) (K : Ex → St → Option R) (c1 : wg) : ∀ (n : Nat) (v : y9), z2 [1, 0, 1, 2, 3, 4, 10, 11, 13] (run E (den E k) (lv 243) k (j1 Tryz.f243 1)) n (z11 c1 v) K = jg k (wx K c1) c1 n v := j5 (B := j21 k (wx K c1) c1) (fun _ => rfl) (fun n v => by kernel_rfl) (fun _ => rfl) (fun _ _ => rfl)
abbrev wh : Type := Int × Int × Int × Int × (List Int) × (List Int) × (List Int)
abbrev j9 : Type := Int × Int
def x01 (c0 : wh) (v0 : j9) : St := ⟨220, 1, [(0, .c (.ref 0)), (1, cI c0.1), (2, cI c0.2.1), (3, cI c0.2.2.1), (4, .c (.clo 189 [.at_ [vI c0.2.2.2.1, .l 3 (.i .i64) c0.2.2.2.2.1, .l 3 (.i .i64) c0.2.2.2.2.2.1]])), (10, cI v0.1), (11, cI v0.2)], [(0, .arr 3 (.i .i64) c0.2.2.2.2.2.2)]⟩
noncomputable def w21 {R : Type} (k : Nat) (X0 : j9 → Option R) (c0 : wh) (rec : j9 → Option R) (v0 : j9) : Option R := if (decide (v0.1 < v0.2)) = true then if 0 ≤ (IntKind.i64.wrap (((IntKind.u64.wrap (IntKind.i64.wrap (v0.1 + v0.2)))).fdiv (2 ^ (min (1 : Int).toNat IntKind.u64.bits)))) then if (IntKind.i64.wrap (((IntKind.u64.wrap (IntKind.i64.wrap (v0.1 + v0.2)))).fdiv (2 ^ (min (1 : Int).toNat IntKind.u64.bits)))) < (c0.2.2.2.2.2.2.length : Int) then ix c0.2.2.2.2.2.2 ((IntKind.i64.wrap (((IntKind.u64.wrap (IntKind.i64.wrap (v0.1 + v0.2)))).fdiv (2 ^ (min (1 : Int).toNat IntKind.u64.bits)))).toNat) fun x1 => if 0 ≤ c0.1 then if c0.1 < (c0.2.2.2.2.2.2.length : Int) then ix c0.2.2.2.2.2.2 c0.1.toNat fun x2 => (vx1 k x1 x2 c0.2.2.2.1 c0.2.2.2.2.1 c0.2.2.2.2.2.1).bind fun p3 => if (decide (p3 < 0)) = true then rec ((IntKind.i64.wrap ((IntKind.i64.wrap (((IntKind.u64.wrap (IntKind.i64.wrap (v0.1 + v0.2)))).fdiv (2 ^ (min (1 : Int).toNat IntKind.u64.bits)))) + 1)), v0.2) else rec (v0.1, (IntKind.i64.wrap (((IntKind.u64.wrap (IntKind.i64.wrap (v0.1 + v0.2)))).fdiv (2 ^ (min (1 : Int).toNat IntKind.u64.bits))))) else none else none else none else none else X0 v0
noncomputable def we {R : Type} (k : Nat) (X0 : j9 → Option R) (c : wh) : Nat → j9 → Option R
 | 0, _ => none
 | n + 1, v => w21 k X0 c (we k X0 c n) v
def yy {R : Type} (K : Ex → St → Option R) (c0 : wh) (v0 : j9) : Option R := K (.exit 0) ⟨220, 1, [(0, .c (.ref 0)), (1, cI c0.1), (2, cI c0.2.1), (3, cI c0.2.2.1), (4, .c (.clo 189 [.at_ [vI c0.2.2.2.1, .l 3 (.i .i64) c0.2.2.2.2.1, .l 3 (.i .i64) c0.2.2.2.2.2.1]])), (10, cI v0.1), (11, cI v0.2), (31, cI v0.1), (32, cI v0.2), (33, cB (decide (v0.1 < v0.2)))], [(0, .arr 3 (.i .i64) c0.2.2.2.2.2.2)]⟩
theorem zq1 {R : Type} (k : Nat) (K : Ex → St → Option R) (c0 : wh) : ∀ (n : Nat) (v : j9), z2 [1, 0, 1, 2, 3, 4, 10, 11] (run E (den E k) (lv 243) k (j1 Tryz.f243 0)) n (x01 c0 v) K = we k (yy K c0) c0 n v := j5 (B := w21 k (yy K c0) c0) (fun _ => rfl) (fun n v => by kernel_rfl) (fun _ => rfl) (fun _ _ => rfl)
theorem jp1 (k : Nat) (a0 : List Int) (a1 : Int) (a2 : Int) (a3 : Int) (a4 : Int) (a5 : List Int) (a6 : List Int) : j0 (k + 1) a0 a1 a2 a3 a4 a5 a6 = if ((IntKind.i64.wrap (a2 - a1)) == 1) = true then z2 (R := List Int) [1, 0, 1, 2, 3, 4, 10, 11] (run E (den E k) (lv 243) k (j1 Tryz.f243 0)) k (x01 (a1, a2, a3, a4, a5, a6, a0) (a2, a3)) (wc E (den E k) (lv 243) k (ye Tryz.f243) 0 [] (vd E (rs 243) Tryz.f243 : Ex → St → Option (List Int))) else if ((IntKind.i64.wrap (a3 - a2)) == 1) = true then z2 (R := List Int) [1, 0, 1, 2, 3, 4, 14, 15] (run E (den E k) (lv 243) k (j1 Tryz.f243 2)) k (w01 (a1, a2, a3, a4, a5, a6, a0) (a1, a2)) (wc E (den E k) (lv 243) k (ye Tryz.f243) 2 [] (vd E (rs 243) Tryz.f243 : Ex → St → Option (List Int))) else if (decide (a2 > (IntKind.i64.wrap (((IntKind.u64.wrap (IntKind.i64.wrap (a1 + a3)))).fdiv (2 ^ (min (1 : Int).toNat IntKind.u64.bits)))))) = true then z2 (R := List Int) [1, 0, 1, 2, 3, 4, 18, 19, 20, 21, 22] (run E (den E k) (lv 243) k (j1 Tryz.f243 4)) k (yn (a1, a2, a3, a4, a5, a6, (IntKind.i64.wrap (((IntKind.u64.wrap (IntKind.i64.wrap (a1 + a3)))).fdiv (2 ^ (min (1 : Int).toNat IntKind.u64.bits)))), (IntKind.i64.wrap ((IntKind.i64.wrap (((IntKind.u64.wrap (IntKind.i64.wrap (a1 + a3)))).fdiv (2 ^ (min (1 : Int).toNat IntKind.u64.bits)))) + a2)), (IntKind.i64.wrap ((IntKind.i64.wrap ((IntKind.i64.wrap (((IntKind.u64.wrap (IntKind.i64.wrap (a1 + a3)))).fdiv (2 ^ (min (1 : Int).toNat IntKind.u64.bits)))) + a2)) - 1)), a0) ((IntKind.i64.wrap ((IntKind.i64.wrap ((IntKind.i64.wrap (((IntKind.u64.wrap (IntKind.i64.wrap (a1 + a3)))).fdiv (2 ^ (min (1 : Int).toNat IntKind.u64.bits)))) + a2)) - a3)), (IntKind.i64.wrap (((IntKind.u64.wrap (IntKind.i64.wrap (a1 + a3)))).fdiv (2 ^ (min (1 : Int).toNat IntKind.u64.bits)))))) (wc E (den E k) (lv 243) k (ye Tryz.f243) 4 [] (vd E (rs 243) Tryz.f243 : Ex → St → Option (List Int))) else z2 (R := List Int) [1, 0, 1, 2, 3, 4, 18, 19, 20, 21, 22] (run E (den E k) (lv 243) k (j1 Tryz.f243 4)) k (yn (a1, a2, a3, a4, a5, a6, (IntKind.i64.wrap (((IntKind.u64.wrap (IntKind.i64.wrap (a1 + a3)))).fdiv (2 ^ (min (1 : Int).toNat IntKind.u64.bits)))), (IntKind.i64.wrap ((IntKind.i64.wrap (((IntKind.u64.wrap (IntKind.i64.wrap (a1 + a3)))).fdiv (2 ^ (min (1 : Int).toNat IntKind.u64.bits)))) + a2)), (IntKind.i64.wrap ((IntKind.i64.wrap ((IntKind.i64.wrap (((IntKind.u64.wrap (IntKind.i64.wrap (a1 + a3)))).fdiv (2 ^ (min (1 : Int).toNat IntKind.u64.bits)))) + a2)) - 1)), a0) (a1, a2)) (wc E (den E k) (lv 243) k (ye Tryz.f243) 4 [] (vd E (rs 243) Tryz.f243 : Ex → St → Option (List Int))) := by kernel_rfl
theorem yq1 (k : Nat) (a0 : List Int) (a1 : Int) (a2 : Int) (a3 : Int) (a4 : Int) (a5 : List Int) (a6 : List Int) : j0 (k + 1) a0 a1 a2 a3 a4 a5 a6 = if ((IntKind.i64.wrap (a2 - a1)) == 1) = true then we k (fun (v0 : I2) => z2 (R := List Int) [1, 0, 1, 2, 3, 4, 10, 11, 13] (run E (den E k) (lv 243) k (j1 Tryz.f243 1)) k (z11 (a1, a2, a3, a4, a5, a6, v0.1, v0.2) (a1, a0)) (wc E (den E k) (lv 243) k (ye Tryz.f243) 1 [] (vd E (rs 243) Tryz.f243 : Ex → St → Option (List Int)))) (a1, a2, a3, a4, a5, a6, a0) k (a2, a3) else if ((IntKind.i64.wrap (a3 - a2)) == 1) = true then ve k (fun (v2 : I2) => z2 (R := List Int) [1, 0, 1, 2, 3, 4, 14, 15, 17] (run E (den E k) (lv 243) k (j1 Tryz.f243 3)) k (y21 (a1, a2, a3, a4, a5, a6, v2.1, v2.2) (a2, a0)) (wc E (den E k) (lv 243) k (ye Tryz.f243) 3 [] (vd E (rs 243) Tryz.f243 : Ex → St → Option (List Int)))) (a1, a2, a3, a4, a5, a6, a0) k (a1, a2) else if (decide (a2 > (IntKind.i64.wrap (((IntKind.u64.wrap (IntKind.i64.wrap (a1 + a3)))).fdiv (2 ^ (min (1 : Int).toNat IntKind.u64.bits)))))) = true then v6 k (fun (v4 : I2) => if ((decide (v4.1 < a2)) == true) = true then if (decide (a2 < (IntKind.i64.wrap ((IntKind.i64.wrap ((IntKind.i64.wrap (((IntKind.u64.wrap (IntKind.i64.wrap (a1 + a3)))).fdiv (2 ^ (min (1 : Int).toNat IntKind.u64.bits)))) + a2)) - v4.1)))) = true then (yd k a0 v4.1 a2 (IntKind.i64.wrap ((IntKind.i64.wrap ((IntKind.i64.wrap (((IntKind.u64.wrap (IntKind.i64.wrap (a1 + a3)))).fdiv (2 ^ (min (1 : Int).toNat IntKind.u64.bits)))) + a2)) - v4.1)) a4 a5 a6).bind fun p9 => if ((decide (a1 < v4.1)) == true) = true then if (decide (v4.1 < (IntKind.i64.wrap (((IntKind.u64.wrap (IntKind.i64.wrap (a1 + a3)))).fdiv (2 ^ (min (1 : Int).toNat IntKind.u64.bits)))))) = true then (j0 k p9 a1 v4.1 (IntKind.i64.wrap (((IntKind.u64.wrap (IntKind.i64.wrap (a1 + a3)))).fdiv (2 ^ (min (1 : Int).toNat IntKind.u64.bits)))) a4 a5 a6).bind fun p10 => if ((decide ((IntKind.i64.wrap (((IntKind.u64.wrap (IntKind.i64.wrap (a1 + a3)))).fdiv (2 ^ (min (1 : Int).toNat IntKind.u64.bits)))) < (IntKind.i64.wrap ((IntKind.i64.wrap ((IntKind.i64.wrap (((IntKind.u64.wrap (IntKind.i64.wrap (a1 + a3)))).fdiv (2 ^ (min (1 : Int).toNat IntKind.u64.bits)))) + a2)) - v4.1)))) == true) = true then if (decide ((IntKind.i64.wrap ((IntKind.i64.wrap ((IntKind.i64.wrap (((IntKind.u64.wrap (IntKind.i64.wrap (a1 + a3)))).fdiv (2 ^ (min (1 : Int).toNat IntKind.u64.bits)))) + a2)) - v4.1)) < a3)) = true then (j0 k p10 (IntKind.i64.wrap (((IntKind.u64.wrap (IntKind.i64.wrap (a1 + a3)))).fdiv (2 ^ (min (1 : Int).toNat IntKind.u64.bits)))) (IntKind.i64.wrap ((IntKind.i64.wrap ((IntKind.i64.wrap (((IntKind.u64.wrap (IntKind.i64.wrap (a1 + a3)))).fdiv (2 ^ (min (1 : Int).toNat IntKind.u64.bits)))) + a2)) - v4.1)) a3 a4 a5 a6).bind fun p11 => some p11 else some p10 else some p10 else if ((decide ((IntKind.i64.wrap (((IntKind.u64.wrap (IntKind.i64.wrap (a1 + a3)))).fdiv (2 ^ (min (1 : Int).toNat IntKind.u64.bits)))) < (IntKind.i64.wrap ((IntKind.i64.wrap ((IntKind.i64.wrap (((IntKind.u64.wrap (IntKind.i64.wrap (a1 + a3)))).fdiv (2 ^ (min (1 : Int).toNat IntKind.u64.bits)))) + a2)) - v4.1)))) == true) = true then if (decide ((IntKind.i64.wrap ((IntKind.i64.wrap ((IntKind.i64.wrap (((IntKind.u64.wrap (IntKind.i64.wrap (a1 + a3)))).fdiv (2 ^ (min (1 : Int).toNat IntKind.u64.bits)))) + a2)) - v4.1)) < a3)) = true then (j0 k p9 (IntKind.i64.wrap (((IntKind.u64.wrap (IntKind.i64.wrap (a1 + a3)))).fdiv (2 ^ (min (1 : Int).toNat IntKind.u64.bits)))) (IntKind.i64.wrap ((IntKind.i64.wrap ((IntKind.i64.wrap (((IntKind.u64.wrap (IntKind.i64.wrap (a1 + a3)))).fdiv (2 ^ (min (1 : Int).toNat IntKind.u64.bits)))) + a2)) - v4.1)) a3 a4 a5 a6).bind fun p12 => some p12 else some p9 else some p9 else if ((decide ((IntKind.i64.wrap (((IntKind.u64.wrap (IntKind.i64.wrap (a1 + a3)))).fdiv (2 ^ (min (1 : Int).toNat IntKind.u64.bits)))) < (IntKind.i64.wrap ((IntKind.i64.wrap ((IntKind.i64.wrap (((IntKind.u64.wrap (IntKind.i64.wrap (a1 + a3)))).fdiv (2 ^ (min (1 : Int).toNat IntKind.u64.bits)))) + a2)) - v4.1)))) == true) = true then if (decide ((IntKind.i64.wrap ((IntKind.i64.wrap ((IntKind.i64.wrap (((IntKind.u64.wrap (IntKind.i64.wrap (a1 + a3)))).fdiv (2 ^ (min (1 : Int).toNat IntKind.u64.bits)))) + a2)) - v4.1)) < a3)) = true then (j0 k p9 (IntKind.i64.wrap (((IntKind.u64.wrap (IntKind.i64.wrap (a1 + a3)))).fdiv (2 ^ (min (1 : Int).toNat IntKind.u64.bits)))) (IntKind.i64.wrap ((IntKind.i64.wrap ((IntKind.i64.wrap (((IntKind.u64.wrap (IntKind.i64.wrap (a1 + a3)))).fdiv (2 ^ (min (1 : Int).toNat IntKind.u64.bits)))) + a2)) - v4.1)) a3 a4 a5 a6).bind fun p13 => some p13 else some p9 else some p9 else if ((decide (a1 < v4.1)) == true) = true then if (decide (v4.1 < (IntKind.i64.wrap (((IntKind.u64.wrap (IntKind.i64.wrap (a1 + a3)))).fdiv (2 ^ (min (1 : Int).toNat IntKind.u64.bits)))))) = true then (j0 k a0 a1 v4.1 (IntKind.i64.wrap (((IntKind.u64.wrap (IntKind.i64.wrap (a1 + a3)))).fdiv (2 ^ (min (1 : Int).toNat IntKind.u64.bits)))) a4 a5 a6).bind fun p14 => if ((decide ((IntKind.i64.wrap (((IntKind.u64.wrap (IntKind.i64.wrap (a1 + a3)))).fdiv (2 ^ (min (1 : Int).toNat IntKind.u64.bits)))) < (IntKind.i64.wrap ((IntKind.i64.wrap ((IntKind.i64.wrap (((IntKind.u64.wrap (IntKind.i64.wrap (a1 + a3)))).fdiv (2 ^ (min (1 : Int).toNat IntKind.u64.bits)))) + a2)) - v4.1)))) == true) = true then if (decide ((IntKind.i64.wrap ((IntKind.i64.wrap ((IntKind.i64.wrap (((IntKind.u64.wrap (IntKind.i64.wrap (a1 + a3)))).fdiv (2 ^ (min (1 : Int).toNat IntKind.u64.bits)))) + a2)) - v4.1)) < a3)) = true then (j0 k p14 (IntKind.i64.wrap (((IntKind.u64.wrap (IntKind.i64.wrap (a1 + a3)))).fdiv (2 ^ (min (1 : Int).toNat IntKind.u64.bits)))) (IntKind.i64.wrap ((IntKind.i64.wrap ((IntKind.i64.wrap (((IntKind.u64.wrap (IntKind.i64.wrap (a1 + a3)))).fdiv (2 ^ (min (1 : Int).toNat IntKind.u64.bits)))) + a2)) - v4.1)) a3 a4 a5 a6).bind fun p15 => some p15 else some p14 else some p14 else if ((decide ((IntKind.i64.wrap (((IntKind.u64.wrap (IntKind.i64.wrap (a1 + a3)))).fdiv (2 ^ (min (1 : Int).toNat IntKind.u64.bits)))) < (IntKind.i64.wrap ((IntKind.i64.wrap ((IntKind.i64.wrap (((IntKind.u64.wrap (IntKind.i64.wrap (a1 + a3)))).fdiv (2 ^ (min (1 : Int).toNat IntKind.u64.bits)))) + a2)) - v4.1)))) == true) = true then if (decide ((IntKind.i64.wrap ((IntKind.i64.wrap ((IntKind.i64.wrap (((IntKind.u64.wrap (IntKind.i64.wrap (a1 + a3)))).fdiv (2 ^ (min (1 : Int).toNat IntKind.u64.bits)))) + a2)) - v4.1)) < a3)) = true then (j0 k a0 (IntKind.i64.wrap (((IntKind.u64.wrap (IntKind.i64.wrap (a1 + a3)))).fdiv (2 ^ (min (1 : Int).toNat IntKind.u64.bits)))) (IntKind.i64.wrap ((IntKind.i64.wrap ((IntKind.i64.wrap (((IntKind.u64.wrap (IntKind.i64.wrap (a1 + a3)))).fdiv (2 ^ (min (1 : Int).toNat IntKind.u64.bits)))) + a2)) - v4.1)) a3 a4 a5 a6).bind fun p16 => some p16 else some a0 else some a0 else if ((decide ((IntKind.i64.wrap (((IntKind.u64.wrap (IntKind.i64.wrap (a1 + a3)))).fdiv (2 ^ (min (1 : Int).toNat IntKind.u64.bits)))) < (IntKind.i64.wrap ((IntKind.i64.wrap ((IntKind.i64.wrap (((IntKind.u64.wrap (IntKind.i64.wrap (a1 + a3)))).fdiv (2 ^ (min (1 : Int).toNat IntKind.u64.bits)))) + a2)) - v4.1)))) == true) = true then if (decide ((IntKind.i64.wrap ((IntKind.i64.wrap ((IntKind.i64.wrap (((IntKind.u64.wrap (IntKind.i64.wrap (a1 + a3)))).fdiv (2 ^ (min (1 : Int).toNat IntKind.u64.bits)))) + a2)) - v4.1)) < a3)) = true then (j0 k a0 (IntKind.i64.wrap (((IntKind.u64.wrap (IntKind.i64.wrap (a1 + a3)))).fdiv (2 ^ (min (1 : Int).toNat IntKind.u64.bits)))) (IntKind.i64.wrap ((IntKind.i64.wrap ((IntKind.i64.wrap (((IntKind.u64.wrap (IntKind.i64.wrap (a1 + a3)))).fdiv (2 ^ (min (1 : Int).toNat IntKind.u64.bits)))) + a2)) - v4.1)) a3 a4 a5 a6).bind fun p17 => some p17 else some a0 else some a0 else if ((decide (a1 < v4.1)) == true) = true then if (decide (v4.1 < (IntKind.i64.wrap (((IntKind.u64.wrap (IntKind.i64.wrap (a1 + a3)))).fdiv (2 ^ (min (1 : Int).toNat IntKind.u64.bits)))))) = true then (j0 k a0 a1 v4.1 (IntKind.i64.wrap (((IntKind.u64.wrap (IntKind.i64.wrap (a1 + a3)))).fdiv (2 ^ (min (1 : Int).toNat IntKind.u64.bits)))) a4 a5 a6).bind fun p18 => if ((decide ((IntKind.i64.wrap (((IntKind.u64.wrap (IntKind.i64.wrap (a1 + a3)))).fdiv (2 ^ (min (1 : Int).toNat IntKind.u64.bits)))) < (IntKind.i64.wrap ((IntKind.i64.wrap ((IntKind.i64.wrap (((IntKind.u64.wrap (IntKind.i64.wrap (a1 + a3)))).fdiv (2 ^ (min (1 : Int).toNat IntKind.u64.bits)))) + a2)) - v4.1)))) == true) = true then if (decide ((IntKind.i64.wrap ((IntKind.i64.wrap ((IntKind.i64.wrap (((IntKind.u64.wrap (IntKind.i64.wrap (a1 + a3)))).fdiv (2 ^ (min (1 : Int).toNat IntKind.u64.bits)))) + a2)) - v4.1)) < a3)) = true then (j0 k p18 (IntKind.i64.wrap (((IntKind.u64.wrap (IntKind.i64.wrap (a1 + a3)))).fdiv (2 ^ (min (1 : Int).toNat IntKind.u64.bits)))) (IntKind.i64.wrap ((IntKind.i64.wrap ((IntKind.i64.wrap (((IntKind.u64.wrap (IntKind.i64.wrap (a1 + a3)))).fdiv (2 ^ (min (1 : Int).toNat IntKind.u64.bits)))) + a2)) - v4.1)) a3 a4 a5 a6).bind fun p19 => some p19 else some p18 else some p18 else if ((decide ((IntKind.i64.wrap (((IntKind.u64.wrap (IntKind.i64.wrap (a1 + a3)))).fdiv (2 ^ (min (1 : Int).toNat IntKind.u64.bits)))) < (IntKind.i64.wrap ((IntKind.i64.wrap ((IntKind.i64.wrap (((IntKind.u64.wrap (IntKind.i64.wrap (a1 + a3)))).fdiv (2 ^ (min (1 : Int).toNat IntKind.u64.bits)))) + a2)) - v4.1)))) == true) = true then if (decide ((IntKind.i64.wrap ((IntKind.i64.wrap ((IntKind.i64.wrap (((IntKind.u64.wrap (IntKind.i64.wrap (a1 + a3)))).fdiv (2 ^ (min (1 : Int).toNat IntKind.u64.bits)))) + a2)) - v4.1)) < a3)) = true then (j0 k a0 (IntKind.i64.wrap (((IntKind.u64.wrap (IntKind.i64.wrap (a1 + a3)))).fdiv (2 ^ (min (1 : Int).toNat IntKind.u64.bits)))) (IntKind.i64.wrap ((IntKind.i64.wrap ((IntKind.i64.wrap (((IntKind.u64.wrap (IntKind.i64.wrap (a1 + a3)))).fdiv (2 ^ (min (1 : Int).toNat IntKind.u64.bits)))) + a2)) - v4.1)) a3 a4 a5 a6).bind fun p20 => some p20 else some a0 else some a0 else if ((decide ((IntKind.i64.wrap (((IntKind.u64.wrap (IntKind.i64.wrap (a1 + a3)))).fdiv (2 ^ (min (1 : Int).toNat IntKind.u64.bits)))) < (IntKind.i64.wrap ((IntKind.i64.wrap ((IntKind.i64.wrap (((IntKind.u64.wrap (IntKind.i64.wrap (a1 + a3)))).fdiv (2 ^ (min (1 : Int).toNat IntKind.u64.bits)))) + a2)) - v4.1)))) == true) = true then if (decide ((IntKind.i64.wrap ((IntKind.i64.wrap ((IntKind.i64.wrap (((IntKind.u64.wrap (IntKind.i64.wrap (a1 + a3)))).fdiv (2 ^ (min (1 : Int).toNat IntKind.u64.bits)))) + a2)) - v4.1)) < a3)) = true then (j0 k a0 (IntKind.i64.wrap (((IntKind.u64.wrap (IntKind.i64.wrap (a1 + a3)))).fdiv (2 ^ (min (1 : Int).toNat IntKind.u64.bits)))) (IntKind.i64.wrap ((IntKind.i64.wrap ((IntKind.i64.wrap (((IntKind.u64.wrap (IntKind.i64.wrap (a1 + a3)))).fdiv (2 ^ (min (1 : Int).toNat IntKind.u64.bits)))) + a2)) - v4.1)) a3 a4 a5 a6).bind fun p21 => some p21 else some a0 else some a0) (a1, a2, a3, a4, a5, a6, (IntKind.i64.wrap (((IntKind.u64.wrap (IntKind.i64.wrap (a1 + a3)))).fdiv (2 ^ (min (1 : Int).toNat IntKind.u64.bits)))), (IntKind.i64.wrap ((IntKind.i64.wrap (((IntKind.u64.wrap (IntKind.i64.wrap (a1 + a3)))).fdiv (2 ^ (min (1 : Int).toNat IntKind.u64.bits)))) + a2)), (IntKind.i64.wrap ((IntKind.i64.wrap ((IntKind.i64.wrap (((IntKind.u64.wrap (IntKind.i64.wrap (a1 + a3)))).fdiv (2 ^ (min (1 : Int).toNat IntKind.u64.bits)))) + a2)) - 1)), a0) k ((IntKind.i64.wrap ((IntKind.i64.wrap ((IntKind.i64.wrap (((IntKind.u64.wrap (IntKind.i64.wrap (a1 + a3)))).fdiv (2 ^ (min (1 : Int).toNat IntKind.u64.bits)))) + a2)) - a3)), (IntKind.i64.wrap (((IntKind.u64.wrap (IntKind.i64.wrap (a1 + a3)))).fdiv (2 ^ (min (1 : Int).toNat IntKind.u64.bits))))) else v6 k (fun (v4 : I2) => if ((decide (v4.1 < a2)) == true) = true then if (decide (a2 < (IntKind.i64.wrap ((IntKind.i64.wrap ((IntKind.i64.wrap (((IntKind.u64.wrap (IntKind.i64.wrap (a1 + a3)))).fdiv (2 ^ (min (1 : Int).toNat IntKind.u64.bits)))) + a2)) - v4.1)))) = true then (yd k a0 v4.1 a2 (IntKind.i64.wrap ((IntKind.i64.wrap ((IntKind.i64.wrap (((IntKind.u64.wrap (IntKind.i64.wrap (a1 + a3)))).fdiv (2 ^ (min (1 : Int).toNat IntKind.u64.bits)))) + a2)) - v4.1)) a4 a5 a6).bind fun p22 => if ((decide (a1 < v4.1)) == true) = true then if (decide (v4.1 < (IntKind.i64.wrap (((IntKind.u64.wrap (IntKind.i64.wrap (a1 + a3)))).fdiv (2 ^ (min (1 : Int).toNat IntKind.u64.bits)))))) = true then (j0 k p22 a1 v4.1 (IntKind.i64.wrap (((IntKind.u64.wrap (IntKind.i64.wrap (a1 + a3)))).fdiv (2 ^ (min (1 : Int).toNat IntKind.u64.bits)))) a4 a5 a6).bind fun p23 => if ((decide ((IntKind.i64.wrap (((IntKind.u64.wrap (IntKind.i64.wrap (a1 + a3)))).fdiv (2 ^ (min (1 : Int).toNat IntKind.u64.bits)))) < (IntKind.i64.wrap ((IntKind.i64.wrap ((IntKind.i64.wrap (((IntKind.u64.wrap (IntKind.i64.wrap (a1 + a3)))).fdiv (2 ^ (min (1 : Int).toNat IntKind.u64.bits)))) + a2)) - v4.1)))) == true) = true then if (decide ((IntKind.i64.wrap ((IntKind.i64.wrap ((IntKind.i64.wrap (((IntKind.u64.wrap (IntKind.i64.wrap (a1 + a3)))).fdiv (2 ^ (min (1 : Int).toNat IntKind.u64.bits)))) + a2)) - v4.1)) < a3)) = true then (j0 k p23 (IntKind.i64.wrap (((IntKind.u64.wrap (IntKind.i64.wrap (a1 + a3)))).fdiv (2 ^ (min (1 : Int).toNat IntKind.u64.bits)))) (IntKind.i64.wrap ((IntKind.i64.wrap ((IntKind.i64.wrap (((IntKind.u64.wrap (IntKind.i64.wrap (a1 + a3)))).fdiv (2 ^ (min (1 : Int).toNat IntKind.u64.bits)))) + a2)) - v4.1)) a3 a4 a5 a6).bind fun p24 => some p24 else some p23 else some p23 else if ((decide ((IntKind.i64.wrap (((IntKind.u64.wrap (IntKind.i64.wrap (a1 + a3)))).fdiv (2 ^ (min (1 : Int).toNat IntKind.u64.bits)))) < (IntKind.i64.wrap ((IntKind.i64.wrap ((IntKind.i64.wrap (((IntKind.u64.wrap (IntKind.i64.wrap (a1 + a3)))).fdiv (2 ^ (min (1 : Int).toNat IntKind.u64.bits)))) + a2)) - v4.1)))) == true) = true then if (decide ((IntKind.i64.wrap ((IntKind.i64.wrap ((IntKind.i64.wrap (((IntKind.u64.wrap (IntKind.i64.wrap (a1 + a3)))).fdiv (2 ^ (min (1 : Int).toNat IntKind.u64.bits)))) + a2)) - v4.1)) < a3)) = true then (j0 k p22 (IntKind.i64.wrap (((IntKind.u64.wrap (IntKind.i64.wrap (a1 + a3)))).fdiv (2 ^ (min (1 : Int).toNat IntKind.u64.bits)))) (IntKind.i64.wrap ((IntKind.i64.wrap ((IntKind.i64.wrap (((IntKind.u64.wrap (IntKind.i64.wrap (a1 + a3)))).fdiv (2 ^ (min (1 : Int).toNat IntKind.u64.bits)))) + a2)) - v4.1)) a3 a4 a5 a6).bind fun p25 => some p25 else some p22 else some p22 else if ((decide ((IntKind.i64.wrap (((IntKind.u64.wrap (IntKind.i64.wrap (a1 + a3)))).fdiv (2 ^ (min (1 : Int).toNat IntKind.u64.bits)))) < (IntKind.i64.wrap ((IntKind.i64.wrap ((IntKind.i64.wrap (((IntKind.u64.wrap (IntKind.i64.wrap (a1 + a3)))).fdiv (2 ^ (min (1 : Int).toNat IntKind.u64.bits)))) + a2)) - v4.1)))) == true) = true then if (decide ((IntKind.i64.wrap ((IntKind.i64.wrap ((IntKind.i64.wrap (((IntKind.u64.wrap (IntKind.i64.wrap (a1 + a3)))).fdiv (2 ^ (min (1 : Int).toNat IntKind.u64.bits)))) + a2)) - v4.1)) < a3)) = true then (j0 k p22 (IntKind.i64.wrap (((IntKind.u64.wrap (IntKind.i64.wrap (a1 + a3)))).fdiv (2 ^ (min (1 : Int).toNat IntKind.u64.bits)))) (IntKind.i64.wrap ((IntKind.i64.wrap ((IntKind.i64.wrap (((IntKind.u64.wrap (IntKind.i64.wrap (a1 + a3)))).fdiv (2 ^ (min (1 : Int).toNat IntKind.u64.bits)))) + a2)) - v4.1)) a3 a4 a5 a6).bind fun p26 => some p26 else some p22 else some p22 else if ((decide (a1 < v4.1)) == true) = true then if (decide (v4.1 < (IntKind.i64.wrap (((IntKind.u64.wrap (IntKind.i64.wrap (a1 + a3)))).fdiv (2 ^ (min (1 : Int).toNat IntKind.u64.bits)))))) = true then (j0 k a0 a1 v4.1 (IntKind.i64.wrap (((IntKind.u64.wrap (IntKind.i64.wrap (a1 + a3)))).fdiv (2 ^ (min (1 : Int).toNat IntKind.u64.bits)))) a4 a5 a6).bind fun p27 => if ((decide ((IntKind.i64.wrap (((IntKind.u64.wrap (IntKind.i64.wrap (a1 + a3)))).fdiv (2 ^ (min (1 : Int).toNat IntKind.u64.bits)))) < (IntKind.i64.wrap ((IntKind.i64.wrap ((IntKind.i64.wrap (((IntKind.u64.wrap (IntKind.i64.wrap (a1 + a3)))).fdiv (2 ^ (min (1 : Int).toNat IntKind.u64.bits)))) + a2)) - v4.1)))) == true) = true then if (decide ((IntKind.i64.wrap ((IntKind.i64.wrap ((IntKind.i64.wrap (((IntKind.u64.wrap (IntKind.i64.wrap (a1 + a3)))).fdiv (2 ^ (min (1 : Int).toNat IntKind.u64.bits)))) + a2)) - v4.1)) < a3)) = true then (j0 k p27 (IntKind.i64.wrap (((IntKind.u64.wrap (IntKind.i64.wrap (a1 + a3)))).fdiv (2 ^ (min (1 : Int).toNat IntKind.u64.bits)))) (IntKind.i64.wrap ((IntKind.i64.wrap ((IntKind.i64.wrap (((IntKind.u64.wrap (IntKind.i64.wrap (a1 + a3)))).fdiv (2 ^ (min (1 : Int).toNat IntKind.u64.bits)))) + a2)) - v4.1)) a3 a4 a5 a6).bind fun p28 => some p28 else some p27 else some p27 else if ((decide ((IntKind.i64.wrap (((IntKind.u64.wrap (IntKind.i64.wrap (a1 + a3)))).fdiv (2 ^ (min (1 : Int).toNat IntKind.u64.bits)))) < (IntKind.i64.wrap ((IntKind.i64.wrap ((IntKind.i64.wrap (((IntKind.u64.wrap (IntKind.i64.wrap (a1 + a3)))).fdiv (2 ^ (min (1 : Int).toNat IntKind.u64.bits)))) + a2)) - v4.1)))) == true) = true then if (decide ((IntKind.i64.wrap ((IntKind.i64.wrap ((IntKind.i64.wrap (((IntKind.u64.wrap (IntKind.i64.wrap (a1 + a3)))).fdiv (2 ^ (min (1 : Int).toNat IntKind.u64.bits)))) + a2)) - v4.1)) < a3)) = true then (j0 k a0 (IntKind.i64.wrap (((IntKind.u64.wrap (IntKind.i64.wrap (a1 + a3)))).fdiv (2 ^ (min (1 : Int).toNat IntKind.u64.bits)))) (IntKind.i64.wrap ((IntKind.i64.wrap ((IntKind.i64.wrap (((IntKind.u64.wrap (IntKind.i64.wrap (a1 + a3)))).fdiv (2 ^ (min (1 : Int).toNat IntKind.u64.bits)))) + a2)) - v4.1)) a3 a4 a5 a6).bind fun p29 => some p29 else some a0 else some a0 else if ((decide ((IntKind.i64.wrap (((IntKind.u64.wrap (IntKind.i64.wrap (a1 + a3)))).fdiv (2 ^ (min (1 : Int).toNat IntKind.u64.bits)))) < (IntKind.i64.wrap ((IntKind.i64.wrap ((IntKind.i64.wrap (((IntKind.u64.wrap (IntKind.i64.wrap (a1 + a3)))).fdiv (2 ^ (min (1 : Int).toNat IntKind.u64.bits)))) + a2)) - v4.1)))) == true) = true then if (decide ((IntKind.i64.wrap ((IntKind.i64.wrap ((IntKind.i64.wrap (((IntKind.u64.wrap (IntKind.i64.wrap (a1 + a3)))).fdiv (2 ^ (min (1 : Int).toNat IntKind.u64.bits)))) + a2)) - v4.1)) < a3)) = true then (j0 k a0 (IntKind.i64.wrap (((IntKind.u64.wrap (IntKind.i64.wrap (a1 + a3)))).fdiv (2 ^ (min (1 : Int).toNat IntKind.u64.bits)))) (IntKind.i64.wrap ((IntKind.i64.wrap ((IntKind.i64.wrap (((IntKind.u64.wrap (IntKind.i64.wrap (a1 + a3)))).fdiv (2 ^ (min (1 : Int).toNat IntKind.u64.bits)))) + a2)) - v4.1)) a3 a4 a5 a6).bind fun p30 => some p30 else some a0 else some a0 else if ((decide (a1 < v4.1)) == true) = true then if (decide (v4.1 < (IntKind.i64.wrap (((IntKind.u64.wrap (IntKind.i64.wrap (a1 + a3)))).fdiv (2 ^ (min (1 : Int).toNat IntKind.u64.bits)))))) = true then (j0 k a0 a1 v4.1 (IntKind.i64.wrap (((IntKind.u64.wrap (IntKind.i64.wrap (a1 + a3)))).fdiv (2 ^ (min (1 : Int).toNat IntKind.u64.bits)))) a4 a5 a6).bind fun p31 => if ((decide ((IntKind.i64.wrap (((IntKind.u64.wrap (IntKind.i64.wrap (a1 + a3)))).fdiv (2 ^ (min (1 : Int).toNat IntKind.u64.bits)))) < (IntKind.i64.wrap ((IntKind.i64.wrap ((IntKind.i64.wrap (((IntKind.u64.wrap (IntKind.i64.wrap (a1 + a3)))).fdiv (2 ^ (min (1 : Int).toNat IntKind.u64.bits)))) + a2)) - v4.1)))) == true) = true then if (decide ((IntKind.i64.wrap ((IntKind.i64.wrap ((IntKind.i64.wrap (((IntKind.u64.wrap (IntKind.i64.wrap (a1 + a3)))).fdiv (2 ^ (min (1 : Int).toNat IntKind.u64.bits)))) + a2)) - v4.1)) < a3)) = true then (j0 k p31 (IntKind.i64.wrap (((IntKind.u64.wrap (IntKind.i64.wrap (a1 + a3)))).fdiv (2 ^ (min (1 : Int).toNat IntKind.u64.bits)))) (IntKind.i64.wrap ((IntKind.i64.wrap ((IntKind.i64.wrap (((IntKind.u64.wrap (IntKind.i64.wrap (a1 + a3)))).fdiv (2 ^ (min (1 : Int).toNat IntKind.u64.bits)))) + a2)) - v4.1)) a3 a4 a5 a6).bind fun p32 => some p32 else some p31 else some p31 else if ((decide ((IntKind.i64.wrap (((IntKind.u64.wrap (IntKind.i64.wrap (a1 + a3)))).fdiv (2 ^ (min (1 : Int).toNat IntKind.u64.bits)))) < (IntKind.i64.wrap ((IntKind.i64.wrap ((IntKind.i64.wrap (((IntKind.u64.wrap (IntKind.i64.wrap (a1 + a3)))).fdiv (2 ^ (min (1 : Int).toNat IntKind.u64.bits)))) + a2)) - v4.1)))) == true) = true then if (decide ((IntKind.i64.wrap ((IntKind.i64.wrap ((IntKind.i64.wrap (((IntKind.u64.wrap (IntKind.i64.wrap (a1 + a3)))).fdiv (2 ^ (min (1 : Int).toNat IntKind.u64.bits)))) + a2)) - v4.1)) < a3)) = true then (j0 k a0 (IntKind.i64.wrap (((IntKind.u64.wrap (IntKind.i64.wrap (a1 + a3)))).fdiv (2 ^ (min (1 : Int).toNat IntKind.u64.bits)))) (IntKind.i64.wrap ((IntKind.i64.wrap ((IntKind.i64.wrap (((IntKind.u64.wrap (IntKind.i64.wrap (a1 + a3)))).fdiv (2 ^ (min (1 : Int).toNat IntKind.u64.bits)))) + a2)) - v4.1)) a3 a4 a5 a6).bind fun p33 => some p33 else some a0 else some a0 else if ((decide ((IntKind.i64.wrap (((IntKind.u64.wrap (IntKind.i64.wrap (a1 + a3)))).fdiv (2 ^ (min (1 : Int).toNat IntKind.u64.bits)))) < (IntKind.i64.wrap ((IntKind.i64.wrap ((IntKind.i64.wrap (((IntKind.u64.wrap (IntKind.i64.wrap (a1 + a3)))).fdiv (2 ^ (min (1 : Int).toNat IntKind.u64.bits)))) + a2)) - v4.1)))) == true) = true then if (decide ((IntKind.i64.wrap ((IntKind.i64.wrap ((IntKind.i64.wrap (((IntKind.u64.wrap (IntKind.i64.wrap (a1 + a3)))).fdiv (2 ^ (min (1 : Int).toNat IntKind.u64.bits)))) + a2)) - v4.1)) < a3)) = true then (j0 k a0 (IntKind.i64.wrap (((IntKind.u64.wrap (IntKind.i64.wrap (a1 + a3)))).fdiv (2 ^ (min (1 : Int).toNat IntKind.u64.bits)))) (IntKind.i64.wrap ((IntKind.i64.wrap ((IntKind.i64.wrap (((IntKind.u64.wrap (IntKind.i64.wrap (a1 + a3)))).fdiv (2 ^ (min (1 : Int).toNat IntKind.u64.bits)))) + a2)) - v4.1)) a3 a4 a5 a6).bind fun p34 => some p34 else some a0 else some a0) (a1, a2, a3, a4, a5, a6, (IntKind.i64.wrap (((IntKind.u64.wrap (IntKind.i64.wrap (a1 + a3)))).fdiv (2 ^ (min (1 : Int).toNat IntKind.u64.bits)))), (IntKind.i64.wrap ((IntKind.i64.wrap (((IntKind.u64.wrap (IntKind.i64.wrap (a1 + a3)))).fdiv (2 ^ (min (1 : Int).toNat IntKind.u64.bits)))) + a2)), (IntKind.i64.wrap ((IntKind.i64.wrap ((IntKind.i64.wrap (((IntKind.u64.wrap (IntKind.i64.wrap (a1 + a3)))).fdiv (2 ^ (min (1 : Int).toNat IntKind.u64.bits)))) + a2)) - 1)), a0) k (a1, a2) := by 
 rw [jp1]
 simp only [zq1, xq1, vq1]
 kernel_rfl
theorem vq (k : Nat) (a0 : List Int) (a1 : Int) (a2 : Int) (a3 : Int) (a4 : Int) (a5 : List Int) (a6 : List Int) : j0 (k + 1) a0 a1 a2 a3 a4 a5 a6 = if ((IntKind.i64.wrap (a2 - a1)) == 1) = true then we k (fun (v0 : I2) => jg k (fun (v1 : Int × (List Int)) => some v1.2) (a1, a2, a3, a4, a5, a6, v0.1, v0.2) k (a1, a0)) (a1, a2, a3, a4, a5, a6, a0) k (a2, a3) else if ((IntKind.i64.wrap (a3 - a2)) == 1) = true then ve k (fun (v2 : I2) => vg k (fun (v3 : Int × (List Int)) => some v3.2) (a1, a2, a3, a4, a5, a6, v2.1, v2.2) k (a2, a0)) (a1, a2, a3, a4, a5, a6, a0) k (a1, a2) else if (decide (a2 > (IntKind.i64.wrap (((IntKind.u64.wrap (IntKind.i64.wrap (a1 + a3)))).fdiv (2 ^ (min (1 : Int).toNat IntKind.u64.bits)))))) = true then v6 k (fun (v4 : I2) => if ((decide (v4.1 < a2)) == true) = true then if (decide (a2 < (IntKind.i64.wrap ((IntKind.i64.wrap ((IntKind.i64.wrap (((IntKind.u64.wrap (IntKind.i64.wrap (a1 + a3)))).fdiv (2 ^ (min (1 : Int).toNat IntKind.u64.bits)))) + a2)) - v4.1)))) = true then (yd k a0 v4.1 a2 (IntKind.i64.wrap ((IntKind.i64.wrap ((IntKind.i64.wrap (((IntKind.u64.wrap (IntKind.i64.wrap (a1 + a3)))).fdiv (2 ^ (min (1 : Int).toNat IntKind.u64.bits)))) + a2)) - v4.1)) a4 a5 a6).bind fun p1 => if ((decide (a1 < v4.1)) == true) = true then if (decide (v4.1 < (IntKind.i64.wrap (((IntKind.u64.wrap (IntKind.i64.wrap (a1 + a3)))).fdiv (2 ^ (min (1 : Int).toNat IntKind.u64.bits)))))) = true then (j0 k p1 a1 v4.1 (IntKind.i64.wrap (((IntKind.u64.wrap (IntKind.i64.wrap (a1 + a3)))).fdiv (2 ^ (min (1 : Int).toNat IntKind.u64.bits)))) a4 a5 a6).bind fun p2 => if ((decide ((IntKind.i64.wrap (((IntKind.u64.wrap (IntKind.i64.wrap (a1 + a3)))).fdiv (2 ^ (min (1 : Int).toNat IntKind.u64.bits)))) < (IntKind.i64.wrap ((IntKind.i64.wrap ((IntKind.i64.wrap (((IntKind.u64.wrap (IntKind.i64.wrap (a1 + a3)))).fdiv (2 ^ (min (1 : Int).toNat IntKind.u64.bits)))) + a2)) - v4.1)))) == true) = true then if (decide ((IntKind.i64.wrap ((IntKind.i64.wrap ((IntKind.i64.wrap (((IntKind.u64.wrap (IntKind.i64.wrap (a1 + a3)))).fdiv (2 ^ (min (1 : Int).toNat IntKind.u64.bits)))) + a2)) - v4.1)) < a3)) = true then (j0 k p2 (IntKind.i64.wrap (((IntKind.u64.wrap (IntKind.i64.wrap (a1 + a3)))).fdiv (2 ^ (min (1 : Int).toNat IntKind.u64.bits)))) (IntKind.i64.wrap ((IntKind.i64.wrap ((IntKind.i64.wrap (((IntKind.u64.wrap (IntKind.i64.wrap (a1 + a3)))).fdiv (2 ^ (min (1 : Int).toNat IntKind.u64.bits)))) + a2)) - v4.1)) a3 a4 a5 a6).bind fun p3 => some p3 else some p2 else some p2 else if ((decide ((IntKind.i64.wrap (((IntKind.u64.wrap (IntKind.i64.wrap (a1 + a3)))).fdiv (2 ^ (min (1 : Int).toNat IntKind.u64.bits)))) < (IntKind.i64.wrap ((IntKind.i64.wrap ((IntKind.i64.wrap (((IntKind.u64.wrap (IntKind.i64.wrap (a1 + a3)))).fdiv (2 ^ (min (1 : Int).toNat IntKind.u64.bits)))) + a2)) - v4.1)))) == true) = true then if (decide ((IntKind.i64.wrap ((IntKind.i64.wrap ((IntKind.i64.wrap (((IntKind.u64.wrap (IntKind.i64.wrap (a1 + a3)))).fdiv (2 ^ (min (1 : Int).toNat IntKind.u64.bits)))) + a2)) - v4.1)) < a3)) = true then (j0 k p1 (IntKind.i64.wrap (((IntKind.u64.wrap (IntKind.i64.wrap (a1 + a3)))).fdiv (2 ^ (min (1 : Int).toNat IntKind.u64.bits)))) (IntKind.i64.wrap ((IntKind.i64.wrap ((IntKind.i64.wrap (((IntKind.u64.wrap (IntKind.i64.wrap (a1 + a3)))).fdiv (2 ^ (min (1 : Int).toNat IntKind.u64.bits)))) + a2)) - v4.1)) a3 a4 a5 a6).bind fun p4 => some p4 else some p1 else some p1 else if ((decide ((IntKind.i64.wrap (((IntKind.u64.wrap (IntKind.i64.wrap (a1 + a3)))).fdiv (2 ^ (min (1 : Int).toNat IntKind.u64.bits)))) < (IntKind.i64.wrap ((IntKind.i64.wrap ((IntKind.i64.wrap (((IntKind.u64.wrap (IntKind.i64.wrap (a1 + a3)))).fdiv (2 ^ (min (1 : Int).toNat IntKind.u64.bits)))) + a2)) - v4.1)))) == true) = true then if (decide ((IntKind.i64.wrap ((IntKind.i64.wrap ((IntKind.i64.wrap (((IntKind.u64.wrap (IntKind.i64.wrap (a1 + a3)))).fdiv (2 ^ (min (1 : Int).toNat IntKind.u64.bits)))) + a2)) - v4.1)) < a3)) = true then (j0 k p1 (IntKind.i64.wrap (((IntKind.u64.wrap (IntKind.i64.wrap (a1 + a3)))).fdiv (2 ^ (min (1 : Int).toNat IntKind.u64.bits)))) (IntKind.i64.wrap ((IntKind.i64.wrap ((IntKind.i64.wrap (((IntKind.u64.wrap (IntKind.i64.wrap (a1 + a3)))).fdiv (2 ^ (min (1 : Int).toNat IntKind.u64.bits)))) + a2)) - v4.1)) a3 a4 a5 a6).bind fun p5 => some p5 else some p1 else some p1 else if ((decide (a1 < v4.1)) == true) = true then if (decide (v4.1 < (IntKind.i64.wrap (((IntKind.u64.wrap (IntKind.i64.wrap (a1 + a3)))).fdiv (2 ^ (min (1 : Int).toNat IntKind.u64.bits)))))) = true then (j0 k a0 a1 v4.1 (IntKind.i64.wrap (((IntKind.u64.wrap (IntKind.i64.wrap (a1 + a3)))).fdiv (2 ^ (min (1 : Int).toNat IntKind.u64.bits)))) a4 a5 a6).bind fun p6 => if ((decide ((IntKind.i64.wrap (((IntKind.u64.wrap (IntKind.i64.wrap (a1 + a3)))).fdiv (2 ^ (min (1 : Int).toNat IntKind.u64.bits)))) < (IntKind.i64.wrap ((IntKind.i64.wrap ((IntKind.i64.wrap (((IntKind.u64.wrap (IntKind.i64.wrap (a1 + a3)))).fdiv (2 ^ (min (1 : Int).toNat IntKind.u64.bits)))) + a2)) - v4.1)))) == true) = true then if (decide ((IntKind.i64.wrap ((IntKind.i64.wrap ((IntKind.i64.wrap (((IntKind.u64.wrap (IntKind.i64.wrap (a1 + a3)))).fdiv (2 ^ (min (1 : Int).toNat IntKind.u64.bits)))) + a2)) - v4.1)) < a3)) = true then (j0 k p6 (IntKind.i64.wrap (((IntKind.u64.wrap (IntKind.i64.wrap (a1 + a3)))).fdiv (2 ^ (min (1 : Int).toNat IntKind.u64.bits)))) (IntKind.i64.wrap ((IntKind.i64.wrap ((IntKind.i64.wrap (((IntKind.u64.wrap (IntKind.i64.wrap (a1 + a3)))).fdiv (2 ^ (min (1 : Int).toNat IntKind.u64.bits)))) + a2)) - v4.1)) a3 a4 a5 a6).bind fun p7 => some p7 else some p6 else some p6 else if ((decide ((IntKind.i64.wrap (((IntKind.u64.wrap (IntKind.i64.wrap (a1 + a3)))).fdiv (2 ^ (min (1 : Int).toNat IntKind.u64.bits)))) < (IntKind.i64.wrap ((IntKind.i64.wrap ((IntKind.i64.wrap (((IntKind.u64.wrap (IntKind.i64.wrap (a1 + a3)))).fdiv (2 ^ (min (1 : Int).toNat IntKind.u64.bits)))) + a2)) - v4.1)))) == true) = true then if (decide ((IntKind.i64.wrap ((IntKind.i64.wrap ((IntKind.i64.wrap (((IntKind.u64.wrap (IntKind.i64.wrap (a1 + a3)))).fdiv (2 ^ (min (1 : Int).toNat IntKind.u64.bits)))) + a2)) - v4.1)) < a3)) = true then (j0 k a0 (IntKind.i64.wrap (((IntKind.u64.wrap (IntKind.i64.wrap (a1 + a3)))).fdiv (2 ^ (min (1 : Int).toNat IntKind.u64.bits)))) (IntKind.i64.wrap ((IntKind.i64.wrap ((IntKind.i64.wrap (((IntKind.u64.wrap (IntKind.i64.wrap (a1 + a3)))).fdiv (2 ^ (min (1 : Int).toNat IntKind.u64.bits)))) + a2)) - v4.1)) a3 a4 a5 a6).bind fun p8 => some p8 else some a0 else some a0 else if ((decide ((IntKind.i64.wrap (((IntKind.u64.wrap (IntKind.i64.wrap (a1 + a3)))).fdiv (2 ^ (min (1 : Int).toNat IntKind.u64.bits)))) < (IntKind.i64.wrap ((IntKind.i64.wrap ((IntKind.i64.wrap (((IntKind.u64.wrap (IntKind.i64.wrap (a1 + a3)))).fdiv (2 ^ (min (1 : Int).toNat IntKind.u64.bits)))) + a2)) - v4.1)))) == true) = true then if (decide ((IntKind.i64.wrap ((IntKind.i64.wrap ((IntKind.i64.wrap (((IntKind.u64.wrap (IntKind.i64.wrap (a1 + a3)))).fdiv (2 ^ (min (1 : Int).toNat IntKind.u64.bits)))) + a2)) - v4.1)) < a3)) = true then (j0 k a0 (IntKind.i64.wrap (((IntKind.u64.wrap (IntKind.i64.wrap (a1 + a3)))).fdiv (2 ^ (min (1 : Int).toNat IntKind.u64.bits)))) (IntKind.i64.wrap ((IntKind.i64.wrap ((IntKind.i64.wrap (((IntKind.u64.wrap (IntKind.i64.wrap (a1 + a3)))).fdiv (2 ^ (min (1 : Int).toNat IntKind.u64.bits)))) + a2)) - v4.1)) a3 a4 a5 a6).bind fun p9 => some p9 else some a0 else some a0 else if ((decide (a1 < v4.1)) == true) = true then if (decide (v4.1 < (IntKind.i64.wrap (((IntKind.u64.wrap (IntKind.i64.wrap (a1 + a3)))).fdiv (2 ^ (min (1 : Int).toNat IntKind.u64.bits)))))) = true then (j0 k a0 a1 v4.1 (IntKind.i64.wrap (((IntKind.u64.wrap (IntKind.i64.wrap (a1 + a3)))).fdiv (2 ^ (min (1 : Int).toNat IntKind.u64.bits)))) a4 a5 a6).bind fun p10 => if ((decide ((IntKind.i64.wrap (((IntKind.u64.wrap (IntKind.i64.wrap (a1 + a3)))).fdiv (2 ^ (min (1 : Int).toNat IntKind.u64.bits)))) < (IntKind.i64.wrap ((IntKind.i64.wrap ((IntKind.i64.wrap (((IntKind.u64.wrap (IntKind.i64.wrap (a1 + a3)))).fdiv (2 ^ (min (1 : Int).toNat IntKind.u64.bits)))) + a2)) - v4.1)))) == true) = true then if (decide ((IntKind.i64.wrap ((IntKind.i64.wrap ((IntKind.i64.wrap (((IntKind.u64.wrap (IntKind.i64.wrap (a1 + a3)))).fdiv (2 ^ (min (1 : Int).toNat IntKind.u64.bits)))) + a2)) - v4.1)) < a3)) = true then (j0 k p10 (IntKind.i64.wrap (((IntKind.u64.wrap (IntKind.i64.wrap (a1 + a3)))).fdiv (2 ^ (min (1 : Int).toNat IntKind.u64.bits)))) (IntKind.i64.wrap ((IntKind.i64.wrap ((IntKind.i64.wrap (((IntKind.u64.wrap (IntKind.i64.wrap (a1 + a3)))).fdiv (2 ^ (min (1 : Int).toNat IntKind.u64.bits)))) + a2)) - v4.1)) a3 a4 a5 a6).bind fun p11 => some p11 else some p10 else some p10 else if ((decide ((IntKind.i64.wrap (((IntKind.u64.wrap (IntKind.i64.wrap (a1 + a3)))).fdiv (2 ^ (min (1 : Int).toNat IntKind.u64.bits)))) < (IntKind.i64.wrap ((IntKind.i64.wrap ((IntKind.i64.wrap (((IntKind.u64.wrap (IntKind.i64.wrap (a1 + a3)))).fdiv (2 ^ (min (1 : Int).toNat IntKind.u64.bits)))) + a2)) - v4.1)))) == true) = true then if (decide ((IntKind.i64.wrap ((IntKind.i64.wrap ((IntKind.i64.wrap (((IntKind.u64.wrap (IntKind.i64.wrap (a1 + a3)))).fdiv (2 ^ (min (1 : Int).toNat IntKind.u64.bits)))) + a2)) - v4.1)) < a3)) = true then (j0 k a0 (IntKind.i64.wrap (((IntKind.u64.wrap (IntKind.i64.wrap (a1 + a3)))).fdiv (2 ^ (min (1 : Int).toNat IntKind.u64.bits)))) (IntKind.i64.wrap ((IntKind.i64.wrap ((IntKind.i64.wrap (((IntKind.u64.wrap (IntKind.i64.wrap (a1 + a3)))).fdiv (2 ^ (min (1 : Int).toNat IntKind.u64.bits)))) + a2)) - v4.1)) a3 a4 a5 a6).bind fun p12 => some p12 else some a0 else some a0 else if ((decide ((IntKind.i64.wrap (((IntKind.u64.wrap (IntKind.i64.wrap (a1 + a3)))).fdiv (2 ^ (min (1 : Int).toNat IntKind.u64.bits)))) < (IntKind.i64.wrap ((IntKind.i64.wrap ((IntKind.i64.wrap (((IntKind.u64.wrap (IntKind.i64.wrap (a1 + a3)))).fdiv (2 ^ (min (1 : Int).toNat IntKind.u64.bits)))) + a2)) - v4.1)))) == true) = true then if (decide ((IntKind.i64.wrap ((IntKind.i64.wrap ((IntKind.i64.wrap (((IntKind.u64.wrap (IntKind.i64.wrap (a1 + a3)))).fdiv (2 ^ (min (1 : Int).toNat IntKind.u64.bits)))) + a2)) - v4.1)) < a3)) = true then (j0 k a0 (IntKind.i64.wrap (((IntKind.u64.wrap (IntKind.i64.wrap (a1 + a3)))).fdiv (2 ^ (min (1 : Int).toNat IntKind.u64.bits)))) (IntKind.i64.wrap ((IntKind.i64.wrap ((IntKind.i64.wrap (((IntKind.u64.wrap (IntKind.i64.wrap (a1 + a3)))).fdiv (2 ^ (min (1 : Int).toNat IntKind.u64.bits)))) + a2)) - v4.1)) a3 a4 a5 a6).bind fun p13 => some p13 else some a0 else some a0) (a1, a2, a3, a4, a5, a6, (IntKind.i64.wrap (((IntKind.u64.wrap (IntKind.i64.wrap (a1 + a3)))).fdiv (2 ^ (min (1 : Int).toNat IntKind.u64.bits)))), (IntKind.i64.wrap ((IntKind.i64.wrap (((IntKind.u64.wrap (IntKind.i64.wrap (a1 + a3)))).fdiv (2 ^ (min (1 : Int).toNat IntKind.u64.bits)))) + a2)), (IntKind.i64.wrap ((IntKind.i64.wrap ((IntKind.i64.wrap (((IntKind.u64.wrap (IntKind.i64.wrap (a1 + a3)))).fdiv (2 ^ (min (1 : Int).toNat IntKind.u64.bits)))) + a2)) - 1)), a0) k ((IntKind.i64.wrap ((IntKind.i64.wrap ((IntKind.i64.wrap (((IntKind.u64.wrap (IntKind.i64.wrap (a1 + a3)))).fdiv (2 ^ (min (1 : Int).toNat IntKind.u64.bits)))) + a2)) - a3)), (IntKind.i64.wrap (((IntKind.u64.wrap (IntKind.i64.wrap (a1 + a3)))).fdiv (2 ^ (min (1 : Int).toNat IntKind.u64.bits))))) else v6 k (fun (v4 : I2) => if ((decide (v4.1 < a2)) == true) = true then if (decide (a2 < (IntKind.i64.wrap ((IntKind.i64.wrap ((IntKind.i64.wrap (((IntKind.u64.wrap (IntKind.i64.wrap (a1 + a3)))).fdiv (2 ^ (min (1 : Int).toNat IntKind.u64.bits)))) + a2)) - v4.1)))) = true then (yd k a0 v4.1 a2 (IntKind.i64.wrap ((IntKind.i64.wrap ((IntKind.i64.wrap (((IntKind.u64.wrap (IntKind.i64.wrap (a1 + a3)))).fdiv (2 ^ (min (1 : Int).toNat IntKind.u64.bits)))) + a2)) - v4.1)) a4 a5 a6).bind fun p14 => if ((decide (a1 < v4.1)) == true) = true then if (decide (v4.1 < (IntKind.i64.wrap (((IntKind.u64.wrap (IntKind.i64.wrap (a1 + a3)))).fdiv (2 ^ (min (1 : Int).toNat IntKind.u64.bits)))))) = true then (j0 k p14 a1 v4.1 (IntKind.i64.wrap (((IntKind.u64.wrap (IntKind.i64.wrap (a1 + a3)))).fdiv (2 ^ (min (1 : Int).toNat IntKind.u64.bits)))) a4 a5 a6).bind fun p15 => if ((decide ((IntKind.i64.wrap (((IntKind.u64.wrap (IntKind.i64.wrap (a1 + a3)))).fdiv (2 ^ (min (1 : Int).toNat IntKind.u64.bits)))) < (IntKind.i64.wrap ((IntKind.i64.wrap ((IntKind.i64.wrap (((IntKind.u64.wrap (IntKind.i64.wrap (a1 + a3)))).fdiv (2 ^ (min (1 : Int).toNat IntKind.u64.bits)))) + a2)) - v4.1)))) == true) = true then if (decide ((IntKind.i64.wrap ((IntKind.i64.wrap ((IntKind.i64.wrap (((IntKind.u64.wrap (IntKind.i64.wrap (a1 + a3)))).fdiv (2 ^ (min (1 : Int).toNat IntKind.u64.bits)))) + a2)) - v4.1)) < a3)) = true then (j0 k p15 (IntKind.i64.wrap (((IntKind.u64.wrap (IntKind.i64.wrap (a1 + a3)))).fdiv (2 ^ (min (1 : Int).toNat IntKind.u64.bits)))) (IntKind.i64.wrap ((IntKind.i64.wrap ((IntKind.i64.wrap (((IntKind.u64.wrap (IntKind.i64.wrap (a1 + a3)))).fdiv (2 ^ (min (1 : Int).toNat IntKind.u64.bits)))) + a2)) - v4.1)) a3 a4 a5 a6).bind fun p16 => some p16 else some p15 else some p15 else if ((decide ((IntKind.i64.wrap (((IntKind.u64.wrap (IntKind.i64.wrap (a1 + a3)))).fdiv (2 ^ (min (1 : Int).toNat IntKind.u64.bits)))) < (IntKind.i64.wrap ((IntKind.i64.wrap ((IntKind.i64.wrap (((IntKind.u64.wrap (IntKind.i64.wrap (a1 + a3)))).fdiv (2 ^ (min (1 : Int).toNat IntKind.u64.bits)))) + a2)) - v4.1)))) == true) = true then if (decide ((IntKind.i64.wrap ((IntKind.i64.wrap ((IntKind.i64.wrap (((IntKind.u64.wrap (IntKind.i64.wrap (a1 + a3)))).fdiv (2 ^ (min (1 : Int).toNat IntKind.u64.bits)))) + a2)) - v4.1)) < a3)) = true then (j0 k p14 (IntKind.i64.wrap (((IntKind.u64.wrap (IntKind.i64.wrap (a1 + a3)))).fdiv (2 ^ (min (1 : Int).toNat IntKind.u64.bits)))) (IntKind.i64.wrap ((IntKind.i64.wrap ((IntKind.i64.wrap (((IntKind.u64.wrap (IntKind.i64.wrap (a1 + a3)))).fdiv (2 ^ (min (1 : Int).toNat IntKind.u64.bits)))) + a2)) - v4.1)) a3 a4 a5 a6).bind fun p17 => some p17 else some p14 else some p14 else if ((decide ((IntKind.i64.wrap (((IntKind.u64.wrap (IntKind.i64.wrap (a1 + a3)))).fdiv (2 ^ (min (1 : Int).toNat IntKind.u64.bits)))) < (IntKind.i64.wrap ((IntKind.i64.wrap ((IntKind.i64.wrap (((IntKind.u64.wrap (IntKind.i64.wrap (a1 + a3)))).fdiv (2 ^ (min (1 : Int).toNat IntKind.u64.bits)))) + a2)) - v4.1)))) == true) = true then if (decide ((IntKind.i64.wrap ((IntKind.i64.wrap ((IntKind.i64.wrap (((IntKind.u64.wrap (IntKind.i64.wrap (a1 + a3)))).fdiv (2 ^ (min (1 : Int).toNat IntKind.u64.bits)))) + a2)) - v4.1)) < a3)) = true then (j0 k p14 (IntKind.i64.wrap (((IntKind.u64.wrap (IntKind.i64.wrap (a1 + a3)))).fdiv (2 ^ (min (1 : Int).toNat IntKind.u64.bits)))) (IntKind.i64.wrap ((IntKind.i64.wrap ((IntKind.i64.wrap (((IntKind.u64.wrap (IntKind.i64.wrap (a1 + a3)))).fdiv (2 ^ (min (1 : Int).toNat IntKind.u64.bits)))) + a2)) - v4.1)) a3 a4 a5 a6).bind fun p18 => some p18 else some p14 else some p14 else if ((decide (a1 < v4.1)) == true) = true then if (decide (v4.1 < (IntKind.i64.wrap (((IntKind.u64.wrap (IntKind.i64.wrap (a1 + a3)))).fdiv (2 ^ (min (1 : Int).toNat IntKind.u64.bits)))))) = true then (j0 k a0 a1 v4.1 (IntKind.i64.wrap (((IntKind.u64.wrap (IntKind.i64.wrap (a1 + a3)))).fdiv (2 ^ (min (1 : Int).toNat IntKind.u64.bits)))) a4 a5 a6).bind fun p19 => if ((decide ((IntKind.i64.wrap (((IntKind.u64.wrap (IntKind.i64.wrap (a1 + a3)))).fdiv (2 ^ (min (1 : Int).toNat IntKind.u64.bits)))) < (IntKind.i64.wrap ((IntKind.i64.wrap ((IntKind.i64.wrap (((IntKind.u64.wrap (IntKind.i64.wrap (a1 + a3)))).fdiv (2 ^ (min (1 : Int).toNat IntKind.u64.bits)))) + a2)) - v4.1)))) == true) = true then if (decide ((IntKind.i64.wrap ((IntKind.i64.wrap ((IntKind.i64.wrap (((IntKind.u64.wrap (IntKind.i64.wrap (a1 + a3)))).fdiv (2 ^ (min (1 : Int).toNat IntKind.u64.bits)))) + a2)) - v4.1)) < a3)) = true then (j0 k p19 (IntKind.i64.wrap (((IntKind.u64.wrap (IntKind.i64.wrap (a1 + a3)))).fdiv (2 ^ (min (1 : Int).toNat IntKind.u64.bits)))) (IntKind.i64.wrap ((IntKind.i64.wrap ((IntKind.i64.wrap (((IntKind.u64.wrap (IntKind.i64.wrap (a1 + a3)))).fdiv (2 ^ (min (1 : Int).toNat IntKind.u64.bits)))) + a2)) - v4.1)) a3 a4 a5 a6).bind fun p20 => some p20 else some p19 else some p19 else if ((decide ((IntKind.i64.wrap (((IntKind.u64.wrap (IntKind.i64.wrap (a1 + a3)))).fdiv (2 ^ (min (1 : Int).toNat IntKind.u64.bits)))) < (IntKind.i64.wrap ((IntKind.i64.wrap ((IntKind.i64.wrap (((IntKind.u64.wrap (IntKind.i64.wrap (a1 + a3)))).fdiv (2 ^ (min (1 : Int).toNat IntKind.u64.bits)))) + a2)) - v4.1)))) == true) = true then if (decide ((IntKind.i64.wrap ((IntKind.i64.wrap ((IntKind.i64.wrap (((IntKind.u64.wrap (IntKind.i64.wrap (a1 + a3)))).fdiv (2 ^ (min (1 : Int).toNat IntKind.u64.bits)))) + a2)) - v4.1)) < a3)) = true then (j0 k a0 (IntKind.i64.wrap (((IntKind.u64.wrap (IntKind.i64.wrap (a1 + a3)))).fdiv (2 ^ (min (1 : Int).toNat IntKind.u64.bits)))) (IntKind.i64.wrap ((IntKind.i64.wrap ((IntKind.i64.wrap (((IntKind.u64.wrap (IntKind.i64.wrap (a1 + a3)))).fdiv (2 ^ (min (1 : Int).toNat IntKind.u64.bits)))) + a2)) - v4.1)) a3 a4 a5 a6).bind fun p21 => some p21 else some a0 else some a0 else if ((decide ((IntKind.i64.wrap (((IntKind.u64.wrap (IntKind.i64.wrap (a1 + a3)))).fdiv (2 ^ (min (1 : Int).toNat IntKind.u64.bits)))) < (IntKind.i64.wrap ((IntKind.i64.wrap ((IntKind.i64.wrap (((IntKind.u64.wrap (IntKind.i64.wrap (a1 + a3)))).fdiv (2 ^ (min (1 : Int).toNat IntKind.u64.bits)))) + a2)) - v4.1)))) == true) = true then if (decide ((IntKind.i64.wrap ((IntKind.i64.wrap ((IntKind.i64.wrap (((IntKind.u64.wrap (IntKind.i64.wrap (a1 + a3)))).fdiv (2 ^ (min (1 : Int).toNat IntKind.u64.bits)))) + a2)) - v4.1)) < a3)) = true then (j0 k a0 (IntKind.i64.wrap (((IntKind.u64.wrap (IntKind.i64.wrap (a1 + a3)))).fdiv (2 ^ (min (1 : Int).toNat IntKind.u64.bits)))) (IntKind.i64.wrap ((IntKind.i64.wrap ((IntKind.i64.wrap (((IntKind.u64.wrap (IntKind.i64.wrap (a1 + a3)))).fdiv (2 ^ (min (1 : Int).toNat IntKind.u64.bits)))) + a2)) - v4.1)) a3 a4 a5 a6).bind fun p22 => some p22 else some a0 else some a0 else if ((decide (a1 < v4.1)) == true) = true then if (decide (v4.1 < (IntKind.i64.wrap (((IntKind.u64.wrap (IntKind.i64.wrap (a1 + a3)))).fdiv (2 ^ (min (1 : Int).toNat IntKind.u64.bits)))))) = true then (j0 k a0 a1 v4.1 (IntKind.i64.wrap (((IntKind.u64.wrap (IntKind.i64.wrap (a1 + a3)))).fdiv (2 ^ (min (1 : Int).toNat IntKind.u64.bits)))) a4 a5 a6).bind fun p23 => if ((decide ((IntKind.i64.wrap (((IntKind.u64.wrap (IntKind.i64.wrap (a1 + a3)))).fdiv (2 ^ (min (1 : Int).toNat IntKind.u64.bits)))) < (IntKind.i64.wrap ((IntKind.i64.wrap ((IntKind.i64.wrap (((IntKind.u64.wrap (IntKind.i64.wrap (a1 + a3)))).fdiv (2 ^ (min (1 : Int).toNat IntKind.u64.bits)))) + a2)) - v4.1)))) == true) = true then if (decide ((IntKind.i64.wrap ((IntKind.i64.wrap ((IntKind.i64.wrap (((IntKind.u64.wrap (IntKind.i64.wrap (a1 + a3)))).fdiv (2 ^ (min (1 : Int).toNat IntKind.u64.bits)))) + a2)) - v4.1)) < a3)) = true then (j0 k p23 (IntKind.i64.wrap (((IntKind.u64.wrap (IntKind.i64.wrap (a1 + a3)))).fdiv (2 ^ (min (1 : Int).toNat IntKind.u64.bits)))) (IntKind.i64.wrap ((IntKind.i64.wrap ((IntKind.i64.wrap (((IntKind.u64.wrap (IntKind.i64.wrap (a1 + a3)))).fdiv (2 ^ (min (1 : Int).toNat IntKind.u64.bits)))) + a2)) - v4.1)) a3 a4 a5 a6).bind fun p24 => some p24 else some p23 else some p23 else if ((decide ((IntKind.i64.wrap (((IntKind.u64.wrap (IntKind.i64.wrap (a1 + a3)))).fdiv (2 ^ (min (1 : Int).toNat IntKind.u64.bits)))) < (IntKind.i64.wrap ((IntKind.i64.wrap ((IntKind.i64.wrap (((IntKind.u64.wrap (IntKind.i64.wrap (a1 + a3)))).fdiv (2 ^ (min (1 : Int).toNat IntKind.u64.bits)))) + a2)) - v4.1)))) == true) = true then if (decide ((IntKind.i64.wrap ((IntKind.i64.wrap ((IntKind.i64.wrap (((IntKind.u64.wrap (IntKind.i64.wrap (a1 + a3)))).fdiv (2 ^ (min (1 : Int).toNat IntKind.u64.bits)))) + a2)) - v4.1)) < a3)) = true then (j0 k a0 (IntKind.i64.wrap (((IntKind.u64.wrap (IntKind.i64.wrap (a1 + a3)))).fdiv (2 ^ (min (1 : Int).toNat IntKind.u64.bits)))) (IntKind.i64.wrap ((IntKind.i64.wrap ((IntKind.i64.wrap (((IntKind.u64.wrap (IntKind.i64.wrap (a1 + a3)))).fdiv (2 ^ (min (1 : Int).toNat IntKind.u64.bits)))) + a2)) - v4.1)) a3 a4 a5 a6).bind fun p25 => some p25 else some a0 else some a0 else if ((decide ((IntKind.i64.wrap (((IntKind.u64.wrap (IntKind.i64.wrap (a1 + a3)))).fdiv (2 ^ (min (1 : Int).toNat IntKind.u64.bits)))) < (IntKind.i64.wrap ((IntKind.i64.wrap ((IntKind.i64.wrap (((IntKind.u64.wrap (IntKind.i64.wrap (a1 + a3)))).fdiv (2 ^ (min (1 : Int).toNat IntKind.u64.bits)))) + a2)) - v4.1)))) == true) = true then if (decide ((IntKind.i64.wrap ((IntKind.i64.wrap ((IntKind.i64.wrap (((IntKind.u64.wrap (IntKind.i64.wrap (a1 + a3)))).fdiv (2 ^ (min (1 : Int).toNat IntKind.u64.bits)))) + a2)) - v4.1)) < a3)) = true then (j0 k a0 (IntKind.i64.wrap (((IntKind.u64.wrap (IntKind.i64.wrap (a1 + a3)))).fdiv (2 ^ (min (1 : Int).toNat IntKind.u64.bits)))) (IntKind.i64.wrap ((IntKind.i64.wrap ((IntKind.i64.wrap (((IntKind.u64.wrap (IntKind.i64.wrap (a1 + a3)))).fdiv (2 ^ (min (1 : Int).toNat IntKind.u64.bits)))) + a2)) - v4.1)) a3 a4 a5 a6).bind fun p26 => some p26 else some a0 else some a0) (a1, a2, a3, a4, a5, a6, (IntKind.i64.wrap (((IntKind.u64.wrap (IntKind.i64.wrap (a1 + a3)))).fdiv (2 ^ (min (1 : Int).toNat IntKind.u64.bits)))), (IntKind.i64.wrap ((IntKind.i64.wrap (((IntKind.u64.wrap (IntKind.i64.wrap (a1 + a3)))).fdiv (2 ^ (min (1 : Int).toNat IntKind.u64.bits)))) + a2)), (IntKind.i64.wrap ((IntKind.i64.wrap ((IntKind.i64.wrap (((IntKind.u64.wrap (IntKind.i64.wrap (a1 + a3)))).fdiv (2 ^ (min (1 : Int).toNat IntKind.u64.bits)))) + a2)) - 1)), a0) k (a1, a2) := by
 rw [yq1]
 simp only [wq1, vp1]
 kernel_rfl
noncomputable def jl (k : Nat) (a0 : List Int) (a1 : Int) (a2 : Int) (a3 : List Int) (a4 : List Int) : Option (List Int) := den E k 224 [.c (.l 3 (.i .i64) a0), cI a1, .c (.clo 189 [.at_ [vI a2, .l 3 (.i .i64) a3, .l 3 (.i .i64) a4]])]
abbrev vi : Type := Int × Int × (List Int) × (List Int) × Int
abbrev yb : Type := Int × Int × (List Int)
def x61 (c2 : vi) (v2 : yb) : St := ⟨63, 1, [(0, .c (.ref 0)), (1, cI c2.1), (2, .c (.clo 189 [.at_ [vI c2.2.1, .l 3 (.i .i64) c2.2.2.1, .l 3 (.i .i64) c2.2.2.2.1]])), (6, cI c2.2.2.2.2), (7, cI v2.1), (8, cI v2.2.1)], [(0, .arr 3 (.i .i64) v2.2.2)]⟩
noncomputable def x71 {R : Type} (k : Nat) (X0 : yb → Option R) (c2 : vi) (rec : yb → Option R) (v2 : yb) : Option R := if (decide (v2.2.1 ≤ c2.1)) = true then (j0 k v2.2.2 v2.1 (IntKind.i64.wrap (v2.1 + c2.2.2.2.2)) v2.2.1 c2.2.1 c2.2.2.1 c2.2.2.2.1).bind fun p2 => rec (v2.2.1, (IntKind.i64.wrap (v2.2.1 + (IntKind.i64.wrap (2 * c2.2.2.2.2)))), p2) else X0 v2
noncomputable def jk {R : Type} (k : Nat) (X0 : yb → Option R) (c : vi) : Nat → yb → Option R
 | 0, _ => none
 | n + 1, v => x71 k X0 c (jk k X0 c n) v
def w31 {R : Type} (K : Ex → St → Option R) (c2 : vi) (v2 : yb) : Option R := K (.exit 4) ⟨63, 1, [(0, .c (.ref 0)), (1, cI c2.1), (2, .c (.clo 189 [.at_ [vI c2.2.1, .l 3 (.i .i64) c2.2.2.1, .l 3 (.i .i64) c2.2.2.2.1]])), (6, cI c2.2.2.2.2), (7, cI v2.1), (8, cI v2.2.1), (33, cI v2.2.1), (34, cI c2.1), (35, cB (decide (v2.2.1 ≤ c2.1)))], [(0, .arr 3 (.i .i64) v2.2.2)]⟩
theorem vv1 {R : Type} (k : Nat) (K : Ex → St → Option R) (c2 : vi) : ∀ (n : Nat) (v : yb), z2 [1, 0, 1, 2, 6, 7, 8] (run E (den E k) (lv 224) k (j1 Tryz.f224 2)) n (x61 c2 v) K = jk k (w31 K c2) c2 n v := j5 (B := x71 k (w31 K c2) c2) (fun _ => rfl) (fun n v => by kernel_rfl) (fun _ => rfl) (fun _ _ => rfl)
abbrev jd : Type := Int × Int × (List Int) × (List Int)
abbrev v8 : Type := Int × Int × Int × (List Int)
def xi (c1 : jd) (v1 : v8) : St := ⟨63, 1, [(0, .c (.ref 0)), (1, cI c1.1), (2, .c (.clo 189 [.at_ (avs j8 c1.2)])), (6, cI v1.1), (7, cI v1.2.1), (8, cI v1.2.2.1)], [(0, .arr 3 (.i .i64) v1.2.2.2)]⟩
noncomputable def wq {R : Type} (k : Nat) (X0 : v8 → Option R) (c1 : jd) (rec : v8 → Option R) (v1 : v8) : Option R := if (decide (v1.1 < c1.1)) = true then jk k (fun (v2 : Int × Int × (List Int)) => if (decide ((IntKind.i64.wrap (v2.1 + v1.1)) < c1.1)) = true then (j0 k v2.2.2 v2.1 (IntKind.i64.wrap (v2.1 + v1.1)) c1.1 c1.2.1 c1.2.2.1 c1.2.2.2).bind fun p2 => rec ((IntKind.i64.wrap (v1.1 * 2)), v2.1, v2.2.1, p2) else rec ((IntKind.i64.wrap (v1.1 * 2)), v2.1, v2.2.1, v2.2.2)) (c1.1, c1.2.1, c1.2.2.1, c1.2.2.2, v1.1) k (0, (IntKind.i64.wrap (2 * v1.1)), v1.2.2.2) else X0 v1
noncomputable def jb {R : Type} (k : Nat) (X0 : v8 → Option R) (c : jd) : Nat → v8 → Option R
 | 0, _ => none
 | n + 1, v => wq k X0 c (jb k X0 c n) v
def vn {R : Type} (K : Ex → St → Option R) (c1 : jd) (v1 : v8) : Option R := K (.exit 2) ⟨63, 1, [(0, .c (.ref 0)), (1, cI c1.1), (2, .c (.clo 189 [.at_ (avs j8 c1.2)])), (6, cI v1.1), (7, cI v1.2.1), (8, cI v1.2.2.1), (28, cI v1.1), (29, cI c1.1), (30, cB (decide (v1.1 < c1.1)))], [(0, .arr 3 (.i .i64) v1.2.2.2)]⟩
theorem xl1 {R : Type} (k n : Nat) (K : Ex → St → Option R) (c1 : jd) (v1 : v8) : z2 [1, 0, 1, 2, 6, 7, 8] (run E (den E k) (lv 224) k (j1 Tryz.f224 1)) (n + 1) (xi c1 v1) K = if (decide (v1.1 < c1.1)) = true then z2 [1, 0, 1, 2, 6, 7, 8] (run E (den E k) (lv 224) k (j1 Tryz.f224 2)) k (x61 (c1.1, c1.2.1, c1.2.2.1, c1.2.2.2, v1.1) (0, (IntKind.i64.wrap (2 * v1.1)), v1.2.2.2)) (wc E (den E k) (lv 224) k (.loop (j1 Tryz.f224 1)) (2 - 1) [(n, [1, 0, 1, 2, 6, 7, 8])] K) else K (.exit 2) ⟨63, 1, [(0, .c (.ref 0)), (1, cI c1.1), (2, .c (.clo 189 [.at_ (avs j8 c1.2)])), (6, cI v1.1), (7, cI v1.2.1), (8, cI v1.2.2.1), (28, cI v1.1), (29, cI c1.1), (30, cB (decide (v1.1 < c1.1)))], [(0, .arr 3 (.i .i64) v1.2.2.2)]⟩ := by kernel_rfl
theorem xv1 {R : Type} (k n : Nat) (K : Ex → St → Option R) (c1 : jd) (v : v8) : z2 [1, 0, 1, 2, 6, 7, 8] (run E (den E k) (lv 224) k (j1 Tryz.f224 1)) (n + 1) (xi c1 v) K = wq k (vn K c1) c1 (fun v => z2 [1, 0, 1, 2, 6, 7, 8] (run E (den E k) (lv 224) k (j1 Tryz.f224 1)) n (xi c1 v) K) v := by
 rw [xl1]
 simp only [vv1]
 kernel_rfl
theorem yv1 {R : Type} (k : Nat) (K : Ex → St → Option R) (c1 : jd) : ∀ (n : Nat) (v : v8), z2 [1, 0, 1, 2, 6, 7, 8] (run E (den E k) (lv 224) k (j1 Tryz.f224 1)) n (xi c1 v) K = jb k (vn K c1) c1 n v := j5 (B := wq k (vn K c1) c1) (fun _ => rfl) (fun n v => xv1 k n K c1 v) (fun _ => rfl) (fun _ _ => rfl)
abbrev ji : Type := Int × Int × (List Int) × (List Int) × Int
abbrev zc : Type := Int × Int × (List Int)
def x51 (c0 : ji) (v0 : zc) : St := ⟨63, 1, [(0, .c (.ref 0)), (1, cI c0.1), (2, .c (.clo 189 [.at_ [vI c0.2.1, .l 3 (.i .i64) c0.2.2.1, .l 3 (.i .i64) c0.2.2.2.1]])), (6, cI c0.2.2.2.2), (7, cI v0.1), (8, cI v0.2.1)], [(0, .arr 3 (.i .i64) v0.2.2)]⟩
noncomputable def z71 {R : Type} (k : Nat) (X0 : zc → Option R) (c0 : ji) (rec : zc → Option R) (v0 : zc) : Option R := if (decide (v0.2.1 ≤ c0.1)) = true then (ja k v0.2.2 v0.1 v0.2.1 c0.2.1 c0.2.2.1 c0.2.2.2.1).bind fun p1 => rec (v0.2.1, (IntKind.i64.wrap (v0.2.1 + c0.2.2.2.2)), p1) else X0 v0
noncomputable def yj {R : Type} (k : Nat) (X0 : zc → Option R) (c : ji) : Nat → zc → Option R
 | 0, _ => none
 | n + 1, v => z71 k X0 c (yj k X0 c n) v
def v21 {R : Type} (K : Ex → St → Option R) (c0 : ji) (v0 : zc) : Option R := K (.exit 0) ⟨63, 1, [(0, .c (.ref 0)), (1, cI c0.1), (2, .c (.clo 189 [.at_ [vI c0.2.1, .l 3 (.i .i64) c0.2.2.1, .l 3 (.i .i64) c0.2.2.2.1]])), (6, cI c0.2.2.2.2), (7, cI v0.1), (8, cI v0.2.1), (11, cI v0.2.1), (12, cI c0.1), (13, cB (decide (v0.2.1 ≤ c0.1)))], [(0, .arr 3 (.i .i64) v0.2.2)]⟩
theorem wv1 {R : Type} (k : Nat) (K : Ex → St → Option R) (c0 : ji) : ∀ (n : Nat) (v : zc), z2 [1, 0, 1, 2, 6, 7, 8] (run E (den E k) (lv 224) k (j1 Tryz.f224 0)) n (x51 c0 v) K = yj k (v21 K c0) c0 n v := j5 (B := z71 k (v21 K c0) c0) (fun _ => rfl) (fun n v => by kernel_rfl) (fun _ => rfl) (fun _ _ => rfl)
theorem vu1 (k : Nat) (a0 : List Int) (a1 : Int) (a2 : Int) (a3 : List Int) (a4 : List Int) : jl (k + 1) a0 a1 a2 a3 a4 = z2 (R := List Int) [1, 0, 1, 2, 6, 7, 8] (run E (den E k) (lv 224) k (j1 Tryz.f224 0)) k (x51 (a1, a2, a3, a4, 20) (0, 20, a0)) (wc E (den E k) (lv 224) k (ye Tryz.f224) 0 [] (vd E (rs 224) Tryz.f224 : Ex → St → Option (List Int))) := by kernel_rfl
theorem ju1 (k : Nat) (a0 : List Int) (a1 : Int) (a2 : Int) (a3 : List Int) (a4 : List Int) : jl (k + 1) a0 a1 a2 a3 a4 = yj k (fun (v0 : Int × Int × (List Int)) => (ja k v0.2.2 v0.1 a1 a2 a3 a4).bind fun p1 => z2 (R := List Int) [1, 0, 1, 2, 6, 7, 8] (run E (den E k) (lv 224) k (j1 Tryz.f224 1)) k (xi (a1, a2, a3, a4) (20, v0.1, v0.2.1, p1)) (wc E (den E k) (lv 224) k (ye Tryz.f224) 1 [] (vd E (rs 224) Tryz.f224 : Ex → St → Option (List Int)))) (a1, a2, a3, a4, 20) k (0, 20, a0) := by 
 rw [vu1]
 simp only [wv1]
 kernel_rfl
theorem v02 (k : Nat) (a0 : List Int) (a1 : Int) (a2 : Int) (a3 : List Int) (a4 : List Int) : jl (k + 1) a0 a1 a2 a3 a4 = yj k (fun (v0 : Int × Int × (List Int)) => (ja k v0.2.2 v0.1 a1 a2 a3 a4).bind fun p1 => jb k (fun (v1 : Int × Int × Int × (List Int)) => some v1.2.2.2) (a1, a2, a3, a4) k (20, v0.1, v0.2.1, p1)) (a1, a2, a3, a4, 20) k (0, 20, a0) := by
 rw [ju1]
 simp only [yv1]
 kernel_rfl
noncomputable def j4 (k : Nat) (a0 : List Int) (a1 : Int) (a2 : List Int) (a3 : List Int) : Option (List Int) := den E k 188 [.c (.l 3 (.i .i64) a0), .c (.clo 189 [.at_ [vI a1, .l 3 (.i .i64) a2, .l 3 (.i .i64) a3]])]
theorem jw1 (k : Nat) (a0 : List Int) (a1 : Int) (a2 : List Int) (a3 : List Int) : j4 (k + 1) a0 a1 a2 a3 = (jl k a0 (a0.length : Int) a1 a2 a3).bind fun p1 => some p1 := by kernel_rfl
noncomputable def zr1 (k : Nat) (a0 : List Int) : Option (List Int) := den E k 223 [.c (.l 3 (.i .i64) a0)]
theorem egCompact_int (k : Nat) (a0 : List Int) : zr1 (k + 1) a0 = some (y82 a0) := by kernel_rfl
noncomputable def wl2 (k : Nat) (a0 : List Int) : Option (List Int) := den E k 222 [.c (.l 3 (.i .i64) a0)]
theorem egSort_int (k : Nat) (a0 : List Int) : wl2 (k + 1) a0 = if a0.length ≤ 1099511627776 then some (sortB a0) else none := by kernel_rfl
noncomputable def yu1 (k : Nat) (a0 : List I2) (a1 : Int) : Option (List Int) := den E k 187 [.c (.l 264 sI2 a0), cI a1]
abbrev vg1 : Type := Int × (List I2) × Int
abbrev yt : Type := Int × (List Int)
def yw2 (c0 : vg1) (v0 : yt) : St := ⟨38, 1, [(1, cI c0.1), (5, .c (.ref 0)), (9, .c (.l 264 sI2 c0.2.1)), (10, cI c0.2.2), (11, cI v0.1)], [(0, .arr 3 (.i .i64) v0.2)]⟩
noncomputable def wy2 {R : Type} (k : Nat) (X0 : yt → Option R) (c0 : vg1) (rec : yt → Option R) (v0 : yt) : Option R := if (decide (v0.1 < c0.2.2)) = true then if 0 ≤ v0.1 then ix c0.2.1 v0.1.toNat fun x1 => if (x1.1 == c0.1) = true then if (v0.2.length + ([x1.2]).length) * 8 ≤ 140737488355328 then if (x1.2 == c0.1) = true then if ((v0.2 ++ [x1.2]).length + ([x1.1]).length) * 8 ≤ 140737488355328 then rec ((IntKind.i64.wrap (v0.1 + 1)), ((v0.2 ++ [x1.2]) ++ [x1.1])) else none else rec ((IntKind.i64.wrap (v0.1 + 1)), (v0.2 ++ [x1.2])) else none else if (x1.2 == c0.1) = true then if (v0.2.length + ([x1.1]).length) * 8 ≤ 140737488355328 then rec ((IntKind.i64.wrap (v0.1 + 1)), (v0.2 ++ [x1.1])) else none else rec ((IntKind.i64.wrap (v0.1 + 1)), v0.2) else none else X0 v0
noncomputable def zt1 {R : Type} (k : Nat) (X0 : yt → Option R) (c : vg1) : Nat → yt → Option R
 | 0, _ => none
 | n + 1, v => wy2 k X0 c (zt1 k X0 c n) v
def vo2 {R : Type} (K : Ex → St → Option R) (c0 : vg1) (v0 : yt) : Option R := K (.exit 0) ⟨38, 1, [(1, cI c0.1), (5, .c (.ref 0)), (9, .c (.l 264 sI2 c0.2.1)), (10, cI c0.2.2), (11, cI v0.1), (12, cB (decide (v0.1 < c0.2.2)))], [(0, .arr 3 (.i .i64) v0.2)]⟩
theorem liNeighborsIn_0 {R : Type} (k : Nat) (K : Ex → St → Option R) (c0 : vg1) : ∀ (n : Nat) (v : yt), z2 [0, 1, 5, 9, 10, 11] (run E (den E k) (lv 187) k (j1 Tryz.f187 0)) n (yw2 c0 v) K = zt1 k (vo2 K c0) c0 n v := j5 (B := wy2 k (vo2 K c0) c0) (fun _ => rfl) (fun n v => by kernel_rfl) (fun _ => rfl) (fun _ _ => rfl)
theorem miNeighborsIn_0 (k : Nat) (a0 : List I2) (a1 : Int) : yu1 (k + 1) a0 a1 = z2 (R := List Int) [0, 1, 5, 9, 10, 11] (run E (den E k) (lv 187) k (j1 Tryz.f187 0)) k (yw2 (a1, a0, (a0.length : Int)) (0, [])) (wc E (den E k) (lv 187) k (ye Tryz.f187) 0 [] (vd E (rs 187) Tryz.f187 : Ex → St → Option (List Int))) := by kernel_rfl
theorem eiNeighborsIn (k : Nat) (a0 : List I2) (a1 : Int) : yu1 (k + 1) a0 a1 = zt1 k (fun (v0 : Int × (List Int)) => (wl2 k v0.2).bind fun p1 => (zr1 k p1).bind fun p2 => some p2) (a1, a0, (a0.length : Int)) k (0, []) := by
 rw [miNeighborsIn_0]
 simp only [liNeighborsIn_0]
 kernel_rfl
noncomputable def vq3 (k : Nat) (a0 : Int × (List Int) × List Int) (a1 : List I2) (a2 : Int) (a3 : Int) : Option (List Int) := den E k 120 [.agg (avs j8 a0), .c (.l 264 sI2 a1), cI a2, cI a3]
abbrev vn2 : Type := Int × Int × Int × (Int × (List Int) × List Int) × (List Int)
abbrev jn1 : Type := Int × (List Int)
def StiAltsOf_0 (c0 : vn2) (v0 : jn1) : St := ⟨91, 3, [(2, cI c0.1), (3, cI c0.2.1), (4, cP 0), (9, .c (.ref 1)), (30, .c (.ref 2)), (31, cI c0.2.2.1), (32, cI v0.1)], [(0, .var (avs j8 c0.2.2.2.1)), (1, .arr 3 (.i .i64) v0.2), (2, .arr 3 (.i .i64) c0.2.2.2.2)]⟩
noncomputable def BiAltsOf_0 {R : Type} (k : Nat) (X0 : jn1 → Option R) (c0 : vn2) (rec : jn1 → Option R) (v0 : jn1) : Option R := if (decide (v0.1 < c0.2.2.1)) = true then if 0 ≤ v0.1 then if v0.1 < (c0.2.2.2.2.length : Int) then ix c0.2.2.2.2 v0.1.toNat fun x4 => if 0 ≤ c0.2.1 then ix c0.2.2.2.1.2.2 c0.2.1.toNat fun x5 => if ((x4 != x5) == true) = true then if ((decide (x4 < c0.1)) == false) = true then if ((x4 == c0.2.2.2.1.1) == true) = true then (ww k x4 (c0.2.2.2.1.2.1.length : Int)).bind fun p6 => if (p6 == true) = true then if 0 ≤ x4 then ix c0.2.2.2.1.2.1 x4.toNat fun x7 => if ((decide (x7 ≥ 0)) == true) = true then if 0 ≤ x4 then ix c0.2.2.2.1.2.1 x4.toNat fun x8 => if 0 ≤ c0.2.1 then ix c0.2.2.2.1.2.1 c0.2.1.toNat fun x9 => if (decide (x8 < x9)) = true then if (v0.2.length + ([x4]).length) * 8 ≤ 140737488355328 then rec ((IntKind.i64.wrap (v0.1 + 1)), (v0.2 ++ [x4])) else none else rec ((IntKind.i64.wrap (v0.1 + 1)), v0.2) else none else none else rec ((IntKind.i64.wrap (v0.1 + 1)), v0.2) else none else rec ((IntKind.i64.wrap (v0.1 + 1)), v0.2) else rec ((IntKind.i64.wrap (v0.1 + 1)), v0.2) else (ww k x4 (c0.2.2.2.1.2.1.length : Int)).bind fun p10 => if (p10 == true) = true then if 0 ≤ x4 then ix c0.2.2.2.1.2.1 x4.toNat fun x11 => if ((decide (x11 ≥ 0)) == true) = true then if 0 ≤ x4 then ix c0.2.2.2.1.2.1 x4.toNat fun x12 => if 0 ≤ c0.2.1 then ix c0.2.2.2.1.2.1 c0.2.1.toNat fun x13 => if (decide (x12 < x13)) = true then if (v0.2.length + ([x4]).length) * 8 ≤ 140737488355328 then rec ((IntKind.i64.wrap (v0.1 + 1)), (v0.2 ++ [x4])) else none else rec ((IntKind.i64.wrap (v0.1 + 1)), v0.2) else none else none else rec ((IntKind.i64.wrap (v0.1 + 1)), v0.2) else none else rec ((IntKind.i64.wrap (v0.1 + 1)), v0.2) else rec ((IntKind.i64.wrap (v0.1 + 1)), v0.2) else none else none else none else X0 v0
noncomputable def yi1 {R : Type} (k : Nat) (X0 : jn1 → Option R) (c : vn2) : Nat → jn1 → Option R
 | 0, _ => none
 | n + 1, v => BiAltsOf_0 k X0 c (yi1 k X0 c n) v
def YiAltsOf_0_0 {R : Type} (K : Ex → St → Option R) (c0 : vn2) (v0 : jn1) : Option R := K (.exit 0) ⟨91, 3, [(2, cI c0.1), (3, cI c0.2.1), (4, cP 0), (9, .c (.ref 1)), (30, .c (.ref 2)), (31, cI c0.2.2.1), (32, cI v0.1), (33, cB (decide (v0.1 < c0.2.2.1)))], [(0, .var (avs j8 c0.2.2.2.1)), (1, .arr 3 (.i .i64) v0.2), (2, .arr 3 (.i .i64) c0.2.2.2.2)]⟩
theorem liAltsOf_0 {R : Type} (k : Nat) (K : Ex → St → Option R) (c0 : vn2) : ∀ (n : Nat) (v : jn1), z2 [0, 2, 3, 4, 9, 30, 31, 32] (run E (den E k) (lv 120) k (j1 Tryz.f120 0)) n (StiAltsOf_0 c0 v) K = yi1 k (YiAltsOf_0_0 K c0) c0 n v := j5 (B := BiAltsOf_0 k (YiAltsOf_0_0 K c0) c0) (fun _ => rfl) (fun n v => by kernel_rfl) (fun _ => rfl) (fun _ _ => rfl)
theorem miAltsOf_0 (k : Nat) (a0 : Int × (List Int) × List Int) (a1 : List I2) (a2 : Int) (a3 : Int) : vq3 (k + 1) a0 a1 a2 a3 = (ww k a3 (a0.2.1.length : Int)).bind fun p1 => if ((!p1) == false) = true then (ww k a3 (a0.2.2.length : Int)).bind fun p2 => if (!p2) = true then some ([]) else (yu1 k a1 a3).bind fun p3 => z2 (R := List Int) [0, 2, 3, 4, 9, 30, 31, 32] (run E (den E k) (lv 120) k (j1 Tryz.f120 0)) k (StiAltsOf_0 (a2, a3, (p3.length : Int), a0, p3) (0, [])) (wc E (den E k) (lv 120) k (ye Tryz.f120) 0 [] (vd E (rs 120) Tryz.f120 : Ex → St → Option (List Int))) else some ([]) := by kernel_rfl
theorem eiAltsOf (k : Nat) (a0 : Int × (List Int) × List Int) (a1 : List I2) (a2 : Int) (a3 : Int) : vq3 (k + 1) a0 a1 a2 a3 = (ww k a3 (a0.2.1.length : Int)).bind fun p1 => if ((!p1) == false) = true then (ww k a3 (a0.2.2.length : Int)).bind fun p2 => if (!p2) = true then some ([]) else (yu1 k a1 a3).bind fun p3 => yi1 k (fun (v0 : Int × (List Int)) => (j4 k v0.2 a0.1 a0.2.1 a0.2.2).bind fun p4 => some p4) (a2, a3, (p3.length : Int), a0, p3) k (0, []) else some ([]) := by
 rw [miAltsOf_0]
 simp only [liAltsOf_0]
 kernel_rfl
noncomputable def va2 (k : Nat) (a0 : j2) (a1 : Int) (a2 : Int) : Option (List Int) := den E k 182 [.agg (avs z7 a0), cI a1, cI a2]
abbrev x02 : Type := Int × Int × (List zf) × Int
abbrev xb1 : Type := Int × (List Int)
def vn3 (c0 : x02) (v0 : xb1) : St := ⟨47, 1, [(1, cI c0.1), (2, cI c0.2.1), (7, .c (.ref 0)), (12, .c (.l 157 xk c0.2.2.1)), (13, cI c0.2.2.2), (14, cI v0.1)], [(0, .arr 3 (.i .i64) v0.2)]⟩
noncomputable def BiPiecesIn_0 {R : Type} (k : Nat) (X0 : xb1 → Option R) (c0 : x02) (rec : xb1 → Option R) (v0 : xb1) : Option R := if (decide (v0.1 < c0.2.2.2)) = true then if 0 ≤ v0.1 then ix c0.2.2.1 v0.1.toNat fun x1 => (FiIsSpan k x1.1).bind fun p2 => if (p2 == true) = true then if ((decide (c0.1 ≤ c0.2.1)) == true) = true then if ((decide (x1.1.1 ≤ c0.2.1)) == true) = true then if (decide (x1.1.2 > c0.1)) = true then if (v0.2.length + ([v0.1]).length) * 8 ≤ 140737488355328 then rec ((IntKind.i64.wrap (v0.1 + 1)), (v0.2 ++ [v0.1])) else none else rec ((IntKind.i64.wrap (v0.1 + 1)), v0.2) else rec ((IntKind.i64.wrap (v0.1 + 1)), v0.2) else rec ((IntKind.i64.wrap (v0.1 + 1)), v0.2) else rec ((IntKind.i64.wrap (v0.1 + 1)), v0.2) else none else X0 v0
noncomputable def yf2 {R : Type} (k : Nat) (X0 : xb1 → Option R) (c : x02) : Nat → xb1 → Option R
 | 0, _ => none
 | n + 1, v => BiPiecesIn_0 k X0 c (yf2 k X0 c n) v
def xd3 {R : Type} (K : Ex → St → Option R) (c0 : x02) (v0 : xb1) : Option R := K (.exit 0) ⟨47, 1, [(1, cI c0.1), (2, cI c0.2.1), (7, .c (.ref 0)), (12, .c (.l 157 xk c0.2.2.1)), (13, cI c0.2.2.2), (14, cI v0.1), (15, cB (decide (v0.1 < c0.2.2.2)))], [(0, .arr 3 (.i .i64) v0.2)]⟩
theorem liPiecesIn_0 {R : Type} (k : Nat) (K : Ex → St → Option R) (c0 : x02) : ∀ (n : Nat) (v : xb1), z2 [0, 1, 2, 7, 12, 13, 14] (run E (den E k) (lv 182) k (j1 Tryz.f182 0)) n (vn3 c0 v) K = yf2 k (xd3 K c0) c0 n v := j5 (B := BiPiecesIn_0 k (xd3 K c0) c0) (fun _ => rfl) (fun n v => by kernel_rfl) (fun _ => rfl) (fun _ _ => rfl)
theorem miPiecesIn_0 (k : Nat) (a0 : j2) (a1 : Int) (a2 : Int) : va2 (k + 1) a0 a1 a2 = z2 (R := List Int) [0, 1, 2, 7, 12, 13, 14] (run E (den E k) (lv 182) k (j1 Tryz.f182 0)) k (vn3 (a1, a2, a0.2.2.2, (a0.2.2.2.length : Int)) (0, [])) (wc E (den E k) (lv 182) k (ye Tryz.f182) 0 [] (vd E (rs 182) Tryz.f182 : Ex → St → Option (List Int))) := by kernel_rfl
theorem eiPiecesIn (k : Nat) (a0 : j2) (a1 : Int) (a2 : Int) : va2 (k + 1) a0 a1 a2 = yf2 k (fun (v0 : Int × (List Int)) => some v0.2) (a1, a2, a0.2.2.2, (a0.2.2.2.length : Int)) k (0, []) := by
 rw [miPiecesIn_0]
 simp only [liPiecesIn_0]
 kernel_rfl
noncomputable def jt2 (k : Nat) (a0 : List Int) : Option (List Int) := den E k 142 [.c (.l 3 (.i .i64) a0)]
theorem egClone_int (k : Nat) (a0 : List Int) : jt2 (k + 1) a0 = agree (a0.isEmpty) (some ([])) (if (0 + a0.length) * 8 ≤ 140737488355328 then some a0 else none) := by kernel_rfl
noncomputable def x73 (k : Nat) (a0 : Int × (List Int) × List Int) : Option (Int × (List Int) × List Int) := den E k 186 [.agg (avs j8 a0)]
theorem eicloneTable (k : Nat) (a0 : Int × (List Int) × List Int) : x73 (k + 1) a0 = (jt2 k a0.2.1).bind fun p1 => (jt2 k a0.2.2).bind fun p2 => some (a0.1, p1, p2) := by kernel_rfl
noncomputable def xo2 (k : Nat) (a0 : j2) (a1 : Int) (a2 : Int) : Option ((Int × (List Int) × List Int) × Bool) := den E k 119 [.agg (avs z7 a0), cI a1, cI a2]
theorem eiTableIn (k : Nat) (a0 : j2) (a1 : Int) (a2 : Int) : xo2 (k + 1) a0 a1 a2 = (ww k a1 (a0.2.2.2.length : Int)).bind fun p1 => if ((!p1) == false) = true then if 0 ≤ a1 then ix a0.2.2.2 a1.toNat fun x2 => (ww k a2 (x2.2.2.length : Int)).bind fun p3 => if (!p3) = true then some ((0, [], []), false) else if 0 ≤ a1 then ix a0.2.2.2 a1.toNat fun x4 => if 0 ≤ a2 then ix x4.2.2 a2.toNat fun x5 => (x73 k x5).bind fun p6 => some (p6, true) else none else none else none else some ((0, [], []), false) := by kernel_rfl
noncomputable def jn (k : Nat) (a0 : List (List Int)) : Option (Bool) := den E k 220 [.c (.l 30 (.l 3 (.i .i64)) a0)]
abbrev jv : Type := (List (List Int)) × Int × Bool × (List (List Int)) × Int × Int × Int × (List Bool)
abbrev yk : Type := Int
def wm2 (c4 : jv) (v4 : yk) : St := ⟨83, 1, [(0, .c (.l 30 (.l 3 (.i .i64)) c4.1)), (3, cI c4.2.1), (6, .c (.ref 0)), (7, cB c4.2.2.1), (13, .c (.l 30 (.l 3 (.i .i64)) c4.2.2.2.1)), (14, cI c4.2.2.2.2.1), (15, cI c4.2.2.2.2.2.1), (73, cI c4.2.2.2.2.2.2.1), (74, cI v4)], [(0, .arr 4 .b c4.2.2.2.2.2.2.2)]⟩
noncomputable def xk1 {R : Type} (k : Nat) (X0 : yk → Bool → Option R) (X1 : yk → Option R) (c4 : jv) (rec : yk → Option R) (v4 : yk) : Option R := if (decide (v4 < c4.2.2.2.2.2.2.1)) = true then if 0 ≤ v4 then if v4 < (c4.2.2.2.2.2.2.2.length : Int) then ix c4.2.2.2.2.2.2.2 v4.toNat fun x1 => if (!x1) = true then X0 v4 x1 else rec (IntKind.i64.wrap (v4 + 1)) else none else none else X1 v4
noncomputable def xv {R : Type} (k : Nat) (X0 : yk → Bool → Option R) (X1 : yk → Option R) (c : jv) : Nat → yk → Option R
 | 0, _ => none
 | n + 1, v => xk1 k X0 X1 c (xv k X0 X1 c n) v
def wf2 {R : Type} (K : Ex → St → Option R) (c4 : jv) (v4 : yk) (x1 : Bool) : Option R := K .ret ⟨83, 1, [(0, .c (.l 30 (.l 3 (.i .i64)) c4.1)), (2, cB true), (3, cI c4.2.1), (6, .c (.ref 0)), (7, cB c4.2.2.1), (12, cI v4), (13, .c (.l 30 (.l 3 (.i .i64)) c4.2.2.2.1)), (14, cI c4.2.2.2.2.1), (15, cI c4.2.2.2.2.2.1), (73, cI c4.2.2.2.2.2.2.1), (74, cI v4), (75, cB (decide (v4 < c4.2.2.2.2.2.2.1))), (76, cI v4), (77, .c (.ref 0)), (78, cI v4), (79, .c (.el 0 1 v4.toNat 0)), (80, cB x1), (81, cB (!x1))], [(0, .arr 4 .b c4.2.2.2.2.2.2.2)]⟩
def vf2 {R : Type} (K : Ex → St → Option R) (c4 : jv) (v4 : yk) : Option R := K (.exit 8) ⟨83, 1, [(0, .c (.l 30 (.l 3 (.i .i64)) c4.1)), (3, cI c4.2.1), (6, .c (.ref 0)), (7, cB c4.2.2.1), (13, .c (.l 30 (.l 3 (.i .i64)) c4.2.2.2.1)), (14, cI c4.2.2.2.2.1), (15, cI c4.2.2.2.2.2.1), (73, cI c4.2.2.2.2.2.2.1), (74, cI v4), (75, cB (decide (v4 < c4.2.2.2.2.2.2.1)))], [(0, .arr 4 .b c4.2.2.2.2.2.2.2)]⟩
theorem liUnionHasLoop_4 {R : Type} (k : Nat) (K : Ex → St → Option R) (c4 : jv) : ∀ (n : Nat) (v : yk), z2 [0, 0, 3, 6, 7, 13, 14, 15, 73, 74] (run E (den E k) (lv 220) k (j1 Tryz.f220 4)) n (wm2 c4 v) K = xv k (wf2 K c4) (vf2 K c4) c4 n v := j5 (B := xk1 k (wf2 K c4) (vf2 K c4) c4) (fun _ => rfl) (fun n v => by kernel_rfl) (fun _ => rfl) (fun _ _ => rfl)
abbrev w41 : Type := (List (List Int)) × Int × Bool × Int × (List (List Int)) × Int × Int × Int × Int × (List (List Int)) × Int × (List Bool)
abbrev zn : Type := Bool × Int
def wo2 (c3 : w41) (v3 : zn) : St := ⟨83, 1, [(0, .c (.l 30 (.l 3 (.i .i64)) c3.1)), (3, cI c3.2.1), (6, .c (.ref 0)), (7, cB c3.2.2.1), (8, cI c3.2.2.2.1), (9, cB v3.1), (13, .c (.l 30 (.l 3 (.i .i64)) c3.2.2.2.2.1)), (14, cI c3.2.2.2.2.2.1), (15, cI c3.2.2.2.2.2.2.1), (27, cI c3.2.2.2.2.2.2.2.1), (28, cI c3.2.2.2.2.2.2.2.2.1), (35, .c (.l 30 (.l 3 (.i .i64)) c3.2.2.2.2.2.2.2.2.2.1)), (36, cI c3.2.2.2.2.2.2.2.2.2.2.1), (37, cI v3.2)], [(0, .arr 4 .b c3.2.2.2.2.2.2.2.2.2.2.2)]⟩
noncomputable def jw2 {R : Type} (k : Nat) (X0 : zn → Option R) (c3 : w41) (rec : zn → Option R) (v3 : zn) : Option R := if (decide (v3.2 < c3.2.2.2.2.2.2.2.2.2.2.1)) = true then if 0 ≤ v3.2 then ix c3.2.2.2.2.2.2.2.2.2.1 v3.2.toNat fun x2 => if (v3.1 == false) = true then if ((decide (c3.2.2.2.1 < (x2.length : Int))) == true) = true then if 0 ≤ c3.2.2.2.1 then ix x2 c3.2.2.2.1.toNat fun x3 => (ww k x3 c3.2.1).bind fun p4 => if (p4 == true) = true then if 0 ≤ c3.2.2.2.1 then ix x2 c3.2.2.2.1.toNat fun x5 => if 0 ≤ x5 then if x5 < (c3.2.2.2.2.2.2.2.2.2.2.2.length : Int) then ix c3.2.2.2.2.2.2.2.2.2.2.2 x5.toNat fun x6 => rec ((!x6), (IntKind.i64.wrap (v3.2 + 1))) else none else none else none else rec (false, (IntKind.i64.wrap (v3.2 + 1))) else none else rec (false, (IntKind.i64.wrap (v3.2 + 1))) else rec (true, (IntKind.i64.wrap (v3.2 + 1))) else none else X0 v3
noncomputable def vm {R : Type} (k : Nat) (X0 : zn → Option R) (c : w41) : Nat → zn → Option R
 | 0, _ => none
 | n + 1, v => jw2 k X0 c (vm k X0 c n) v
def wh2 {R : Type} (K : Ex → St → Option R) (c3 : w41) (v3 : zn) : Option R := K (.exit 6) ⟨83, 1, [(0, .c (.l 30 (.l 3 (.i .i64)) c3.1)), (3, cI c3.2.1), (6, .c (.ref 0)), (7, cB c3.2.2.1), (8, cI c3.2.2.2.1), (9, cB v3.1), (13, .c (.l 30 (.l 3 (.i .i64)) c3.2.2.2.2.1)), (14, cI c3.2.2.2.2.2.1), (15, cI c3.2.2.2.2.2.2.1), (27, cI c3.2.2.2.2.2.2.2.1), (28, cI c3.2.2.2.2.2.2.2.2.1), (35, .c (.l 30 (.l 3 (.i .i64)) c3.2.2.2.2.2.2.2.2.2.1)), (36, cI c3.2.2.2.2.2.2.2.2.2.2.1), (37, cI v3.2), (38, cB (decide (v3.2 < c3.2.2.2.2.2.2.2.2.2.2.1)))], [(0, .arr 4 .b c3.2.2.2.2.2.2.2.2.2.2.2)]⟩
theorem liUnionHasLoop_3 {R : Type} (k : Nat) (K : Ex → St → Option R) (c3 : w41) : ∀ (n : Nat) (v : zn), z2 [0, 0, 3, 6, 7, 8, 9, 13, 14, 15, 27, 28, 35, 36, 37] (run E (den E k) (lv 220) k (j1 Tryz.f220 3)) n (wo2 c3 v) K = vm k (wh2 K c3) c3 n v := j5 (B := jw2 k (wh2 K c3) c3) (fun _ => rfl) (fun n v => by kernel_rfl) (fun _ => rfl) (fun _ _ => rfl)
abbrev yq : Type := (List (List Int)) × Int × (List (List Int)) × Int × Int × Int
abbrev wk : Type := Bool × Int × (List Bool)
def wy (c2 : yq) (v2 : wk) : St := ⟨83, 1, [(0, .c (.l 30 (.l 3 (.i .i64)) c2.1)), (3, cI c2.2.1), (6, .c (.ref 0)), (7, cB v2.1), (13, .c (.l 30 (.l 3 (.i .i64)) c2.2.2.1)), (14, cI c2.2.2.2.1), (15, cI c2.2.2.2.2.1), (27, cI c2.2.2.2.2.2), (28, cI v2.2.1)], [(0, .arr 4 .b v2.2.2)]⟩
noncomputable def z52 {R : Type} (k : Nat) (X0 : wk → Option R) (c2 : yq) (rec : wk → Option R) (v2 : wk) : Option R := if (decide (v2.2.1 < c2.2.2.2.2.2)) = true then if 0 ≤ v2.2.1 then if v2.2.1 < (v2.2.2.length : Int) then ix v2.2.2 v2.2.1.toNat fun x1 => if x1 = true then rec (v2.1, (IntKind.i64.wrap (v2.2.1 + 1)), v2.2.2) else vm k (fun (v3 : Bool × Int) => if (!v3.1) = true then if 0 ≤ v2.2.1 then if v2.2.1 < (v2.2.2.length : Int) then ix v2.2.2 v2.2.1.toNat fun y2 => rec (true, (IntKind.i64.wrap (v2.2.1 + 1)), (v2.2.2.set v2.2.1.toNat true)) else none else none else rec (v2.1, (IntKind.i64.wrap (v2.2.1 + 1)), v2.2.2)) (c2.1, c2.2.1, v2.1, v2.2.1, c2.2.2.1, c2.2.2.2.1, c2.2.2.2.2.1, c2.2.2.2.2.2, v2.2.1, c2.1, (c2.1.length : Int), v2.2.2) k (false, 0) else none else none else X0 v2
noncomputable def xd1 {R : Type} (k : Nat) (X0 : wk → Option R) (c : yq) : Nat → wk → Option R
 | 0, _ => none
 | n + 1, v => z52 k X0 c (xd1 k X0 c n) v
def xt1 {R : Type} (K : Ex → St → Option R) (c2 : yq) (v2 : wk) : Option R := K (.exit 4) ⟨83, 1, [(0, .c (.l 30 (.l 3 (.i .i64)) c2.1)), (3, cI c2.2.1), (6, .c (.ref 0)), (7, cB v2.1), (13, .c (.l 30 (.l 3 (.i .i64)) c2.2.2.1)), (14, cI c2.2.2.2.1), (15, cI c2.2.2.2.2.1), (27, cI c2.2.2.2.2.2), (28, cI v2.2.1), (29, cB (decide (v2.2.1 < c2.2.2.2.2.2)))], [(0, .arr 4 .b v2.2.2)]⟩
theorem jj3 {R : Type} (k n : Nat) (K : Ex → St → Option R) (c2 : yq) (v2 : wk) : z2 [0, 0, 3, 6, 7, 13, 14, 15, 27, 28] (run E (den E k) (lv 220) k (j1 Tryz.f220 2)) (n + 1) (wy c2 v2) K = if (decide (v2.2.1 < c2.2.2.2.2.2)) = true then if 0 ≤ v2.2.1 then if v2.2.1 < (v2.2.2.length : Int) then ix v2.2.2 v2.2.1.toNat fun x1 => if x1 = true then z2 [0, 0, 3, 6, 7, 13, 14, 15, 27, 28] (run E (den E k) (lv 220) k (j1 Tryz.f220 2)) n (wy c2 (v2.1, (IntKind.i64.wrap (v2.2.1 + 1)), v2.2.2)) K else z2 [0, 0, 3, 6, 7, 8, 9, 13, 14, 15, 27, 28, 35, 36, 37] (run E (den E k) (lv 220) k (j1 Tryz.f220 3)) k (wo2 (c2.1, c2.2.1, v2.1, v2.2.1, c2.2.2.1, c2.2.2.2.1, c2.2.2.2.2.1, c2.2.2.2.2.2, v2.2.1, c2.1, (c2.1.length : Int), v2.2.2) (false, 0)) (wc E (den E k) (lv 220) k (.loop (j1 Tryz.f220 2)) (3 - 2) [(n, [0, 0, 3, 6, 7, 13, 14, 15, 27, 28])] K) else none else none else K (.exit 4) ⟨83, 1, [(0, .c (.l 30 (.l 3 (.i .i64)) c2.1)), (3, cI c2.2.1), (6, .c (.ref 0)), (7, cB v2.1), (13, .c (.l 30 (.l 3 (.i .i64)) c2.2.2.1)), (14, cI c2.2.2.2.1), (15, cI c2.2.2.2.2.1), (27, cI c2.2.2.2.2.2), (28, cI v2.2.1), (29, cB (decide (v2.2.1 < c2.2.2.2.2.2)))], [(0, .arr 4 .b v2.2.2)]⟩ := by kernel_rfl
theorem biUnionHasLoop_2 {R : Type} (k n : Nat) (K : Ex → St → Option R) (c2 : yq) (v : wk) : z2 [0, 0, 3, 6, 7, 13, 14, 15, 27, 28] (run E (den E k) (lv 220) k (j1 Tryz.f220 2)) (n + 1) (wy c2 v) K = z52 k (xt1 K c2) c2 (fun v => z2 [0, 0, 3, 6, 7, 13, 14, 15, 27, 28] (run E (den E k) (lv 220) k (j1 Tryz.f220 2)) n (wy c2 v) K) v := by
 rw [jj3]
 simp only [liUnionHasLoop_3]
 kernel_rfl
theorem liUnionHasLoop_2 {R : Type} (k : Nat) (K : Ex → St → Option R) (c2 : yq) : ∀ (n : Nat) (v : wk), z2 [0, 0, 3, 6, 7, 13, 14, 15, 27, 28] (run E (den E k) (lv 220) k (j1 Tryz.f220 2)) n (wy c2 v) K = xd1 k (xt1 K c2) c2 n v := j5 (B := z52 k (xt1 K c2) c2) (fun _ => rfl) (fun n v => biUnionHasLoop_2 k n K c2 v) (fun _ => rfl) (fun _ _ => rfl)
abbrev xl : Type := (List (List Int)) × Int × (List (List Int)) × Int × Int
abbrev zi : Type := Bool × (List Bool)
def w91 (c1 : xl) (v1 : zi) : St := ⟨83, 1, [(0, .c (.l 30 (.l 3 (.i .i64)) c1.1)), (3, cI c1.2.1), (6, .c (.ref 0)), (7, cB v1.1), (13, .c (.l 30 (.l 3 (.i .i64)) c1.2.2.1)), (14, cI c1.2.2.2.1), (15, cI c1.2.2.2.2)], [(0, .arr 4 .b v1.2)]⟩
noncomputable def wv {R : Type} (k : Nat) (X0 : zi → Option R) (c1 : xl) (rec : zi → Option R) (v1 : zi) : Option R := if v1.1 = true then xd1 k (fun (v2 : Bool × Int × (List Bool)) => rec (v2.1, v2.2.2)) (c1.1, c1.2.1, c1.2.2.1, c1.2.2.2.1, c1.2.2.2.2, c1.2.1) k (false, 0, v1.2) else X0 v1
noncomputable def xf {R : Type} (k : Nat) (X0 : zi → Option R) (c : xl) : Nat → zi → Option R
 | 0, _ => none
 | n + 1, v => wv k X0 c (xf k X0 c n) v
def vr1 {R : Type} (K : Ex → St → Option R) (c1 : xl) (v1 : zi) : Option R := K (.exit 2) ⟨83, 1, [(0, .c (.l 30 (.l 3 (.i .i64)) c1.1)), (3, cI c1.2.1), (6, .c (.ref 0)), (7, cB v1.1), (13, .c (.l 30 (.l 3 (.i .i64)) c1.2.2.1)), (14, cI c1.2.2.2.1), (15, cI c1.2.2.2.2), (26, cB v1.1)], [(0, .arr 4 .b v1.2)]⟩
theorem wl3 {R : Type} (k n : Nat) (K : Ex → St → Option R) (c1 : xl) (v1 : zi) : z2 [0, 0, 3, 6, 7, 13, 14, 15] (run E (den E k) (lv 220) k (j1 Tryz.f220 1)) (n + 1) (w91 c1 v1) K = if v1.1 = true then z2 [0, 0, 3, 6, 7, 13, 14, 15, 27, 28] (run E (den E k) (lv 220) k (j1 Tryz.f220 2)) k (wy (c1.1, c1.2.1, c1.2.2.1, c1.2.2.2.1, c1.2.2.2.2, c1.2.1) (false, 0, v1.2)) (wc E (den E k) (lv 220) k (.loop (j1 Tryz.f220 1)) (2 - 1) [(n, [0, 0, 3, 6, 7, 13, 14, 15])] K) else K (.exit 2) ⟨83, 1, [(0, .c (.l 30 (.l 3 (.i .i64)) c1.1)), (3, cI c1.2.1), (6, .c (.ref 0)), (7, cB v1.1), (13, .c (.l 30 (.l 3 (.i .i64)) c1.2.2.1)), (14, cI c1.2.2.2.1), (15, cI c1.2.2.2.2), (26, cB v1.1)], [(0, .arr 4 .b v1.2)]⟩ := by kernel_rfl
theorem biUnionHasLoop_1 {R : Type} (k n : Nat) (K : Ex → St → Option R) (c1 : xl) (v : zi) : z2 [0, 0, 3, 6, 7, 13, 14, 15] (run E (den E k) (lv 220) k (j1 Tryz.f220 1)) (n + 1) (w91 c1 v) K = wv k (vr1 K c1) c1 (fun v => z2 [0, 0, 3, 6, 7, 13, 14, 15] (run E (den E k) (lv 220) k (j1 Tryz.f220 1)) n (w91 c1 v) K) v := by
 rw [wl3]
 simp only [liUnionHasLoop_2]
 kernel_rfl
theorem liUnionHasLoop_1 {R : Type} (k : Nat) (K : Ex → St → Option R) (c1 : xl) : ∀ (n : Nat) (v : zi), z2 [0, 0, 3, 6, 7, 13, 14, 15] (run E (den E k) (lv 220) k (j1 Tryz.f220 1)) n (w91 c1 v) K = xf k (vr1 K c1) c1 n v := j5 (B := wv k (vr1 K c1) c1) (fun _ => rfl) (fun n v => biUnionHasLoop_1 k n K c1 v) (fun _ => rfl) (fun _ _ => rfl)
abbrev yd1 : Type := (List (List Int)) × (List (List Int)) × Int
abbrev jm : Type := Int × Int
def zn2 (c0 : yd1) (v0 : jm) : St := ⟨83, 0, [(0, .c (.l 30 (.l 3 (.i .i64)) c0.1)), (3, cI v0.1), (13, .c (.l 30 (.l 3 (.i .i64)) c0.2.1)), (14, cI c0.2.2), (15, cI v0.2)], []⟩
noncomputable def wx2 {R : Type} (k : Nat) (X0 : jm → Option R) (c0 : yd1) (rec : jm → Option R) (v0 : jm) : Option R := if (decide (v0.2 < c0.2.2)) = true then if 0 ≤ v0.2 then ix c0.2.1 v0.2.toNat fun x1 => rec ((mx v0.1 (x1.length : Int)), (IntKind.i64.wrap (v0.2 + 1))) else none else X0 v0
noncomputable def zw {R : Type} (k : Nat) (X0 : jm → Option R) (c : yd1) : Nat → jm → Option R
 | 0, _ => none
 | n + 1, v => wx2 k X0 c (zw k X0 c n) v
def yg2 {R : Type} (K : Ex → St → Option R) (c0 : yd1) (v0 : jm) : Option R := K (.exit 0) ⟨83, 0, [(0, .c (.l 30 (.l 3 (.i .i64)) c0.1)), (3, cI v0.1), (13, .c (.l 30 (.l 3 (.i .i64)) c0.2.1)), (14, cI c0.2.2), (15, cI v0.2), (16, cB (decide (v0.2 < c0.2.2)))], []⟩
theorem liUnionHasLoop_0 {R : Type} (k : Nat) (K : Ex → St → Option R) (c0 : yd1) : ∀ (n : Nat) (v : jm), z2 [0, 0, 3, 13, 14, 15] (run E (den E k) (lv 220) k (j1 Tryz.f220 0)) n (zn2 c0 v) K = zw k (yg2 K c0) c0 n v := j5 (B := wx2 k (yg2 K c0) c0) (fun _ => rfl) (fun n v => by kernel_rfl) (fun _ => rfl) (fun _ _ => rfl)
theorem miUnionHasLoop_0 (k : Nat) (a0 : List (List Int)) : jn (k + 1) a0 = z2 (R := Bool) [0, 0, 3, 13, 14, 15] (run E (den E k) (lv 220) k (j1 Tryz.f220 0)) k (zn2 (a0, a0, (a0.length : Int)) (0, 0)) (wc E (den E k) (lv 220) k (ye Tryz.f220) 0 [] (vd E (rs 220) Tryz.f220 : Ex → St → Option (Bool))) := by kernel_rfl
theorem miUnionHasLoop_1 (k : Nat) (a0 : List (List Int)) : jn (k + 1) a0 = zw k (fun (v0 : I2) => if (v0.1 == v0.1) = true then if 0 ≤ v0.1 then if 1 * v0.1.toNat ≤ 281474976710656 then z2 (R := Bool) [0, 0, 3, 6, 7, 13, 14, 15] (run E (den E k) (lv 220) k (j1 Tryz.f220 1)) k (w91 (a0, v0.1, a0, (a0.length : Int), v0.2) (true, (List.replicate v0.1.toNat (false : Bool)))) (wc E (den E k) (lv 220) k (ye Tryz.f220) 1 [] (vd E (rs 220) Tryz.f220 : Ex → St → Option (Bool))) else none else none else none) (a0, a0, (a0.length : Int)) k (0, 0) := by 
 rw [miUnionHasLoop_0]
 simp only [liUnionHasLoop_0]
 kernel_rfl
theorem miUnionHasLoop_2 (k : Nat) (a0 : List (List Int)) : jn (k + 1) a0 = zw k (fun (v0 : I2) => if (v0.1 == v0.1) = true then if 0 ≤ v0.1 then if 1 * v0.1.toNat ≤ 281474976710656 then xf k (fun (v1 : Bool × (List Bool)) => z2 (R := Bool) [0, 0, 3, 6, 7, 13, 14, 15, 73, 74] (run E (den E k) (lv 220) k (j1 Tryz.f220 4)) k (wm2 (a0, v0.1, v1.1, a0, (a0.length : Int), v0.2, v0.1, v1.2) 0) (wc E (den E k) (lv 220) k (ye Tryz.f220) 4 [] (vd E (rs 220) Tryz.f220 : Ex → St → Option (Bool)))) (a0, v0.1, a0, (a0.length : Int), v0.2) k (true, (List.replicate v0.1.toNat (false : Bool))) else none else none else none) (a0, a0, (a0.length : Int)) k (0, 0) := by 
 rw [miUnionHasLoop_1]
 simp only [liUnionHasLoop_1]
 kernel_rfl
theorem eiUnionHasLoop (k : Nat) (a0 : List (List Int)) : jn (k + 1) a0 = zw k (fun (v0 : I2) => if (v0.1 == v0.1) = true then if 0 ≤ v0.1 then if 1 * v0.1.toNat ≤ 281474976710656 then xf k (fun (v1 : Bool × (List Bool)) => xv k (fun (v4 : Int) (x1 : Bool) => some true) (fun (v4 : Int) => some false) (a0, v0.1, v1.1, a0, (a0.length : Int), v0.2, v0.1, v1.2) k 0) (a0, v0.1, a0, (a0.length : Int), v0.2) k (true, (List.replicate v0.1.toNat (false : Bool))) else none else none else none) (a0, a0, (a0.length : Int)) k (0, 0) := by
 rw [miUnionHasLoop_2]
 simp only [liUnionHasLoop_4]
 kernel_rfl
noncomputable def wc2 (k : Nat) (a0 : j2) (a1 : Int) (a2 : Int) (a3 : Int) : Option (Bool) := den E k 180 [.agg (avs z7 a0), cI a1, cI a2, cI a3]
abbrev zs1 : Type := Int × Int × j2 × (List Int)
abbrev y51 : Type := Int × (List (List Int))
def vh3 (c0 : zs1) (v0 : y51) : St := ⟨40, 3, [(1, cI c0.1), (4, cP 0), (9, .c (.ref 1)), (18, .c (.ref 2)), (19, cI c0.2.1), (20, cI v0.1)], [(0, .var (avs z7 c0.2.2.1)), (1, .arr 30 (.l 3 (.i .i64)) v0.2), (2, .arr 3 (.i .i64) c0.2.2.2)]⟩
noncomputable def z34 {R : Type} (k : Nat) (X0 : y51 → Option R) (c0 : zs1) (rec : y51 → Option R) (v0 : y51) : Option R := if (decide (v0.1 < c0.2.1)) = true then if 0 ≤ v0.1 then if v0.1 < (c0.2.2.2.length : Int) then ix c0.2.2.2 v0.1.toNat fun x2 => (xo2 k c0.2.2.1 x2 c0.1).bind fun p3 => if (v0.2.length + ([p3.1.2.2]).length) * 24 ≤ 140737488355328 then rec ((IntKind.i64.wrap (v0.1 + 1)), (v0.2 ++ [p3.1.2.2])) else none else none else none else X0 v0
noncomputable def x72 {R : Type} (k : Nat) (X0 : y51 → Option R) (c : zs1) : Nat → y51 → Option R
 | 0, _ => none
 | n + 1, v => z34 k X0 c (x72 k X0 c n) v
def x33 {R : Type} (K : Ex → St → Option R) (c0 : zs1) (v0 : y51) : Option R := K (.exit 0) ⟨40, 3, [(1, cI c0.1), (4, cP 0), (9, .c (.ref 1)), (18, .c (.ref 2)), (19, cI c0.2.1), (20, cI v0.1), (21, cB (decide (v0.1 < c0.2.1)))], [(0, .var (avs z7 c0.2.2.1)), (1, .arr 30 (.l 3 (.i .i64)) v0.2), (2, .arr 3 (.i .i64) c0.2.2.2)]⟩
theorem liIsSafeMix_0 {R : Type} (k : Nat) (K : Ex → St → Option R) (c0 : zs1) : ∀ (n : Nat) (v : y51), z2 [0, 1, 4, 9, 18, 19, 20] (run E (den E k) (lv 180) k (j1 Tryz.f180 0)) n (vh3 c0 v) K = x72 k (x33 K c0) c0 n v := j5 (B := z34 k (x33 K c0) c0) (fun _ => rfl) (fun n v => by kernel_rfl) (fun _ => rfl) (fun _ _ => rfl)
theorem miIsSafeMix_0 (k : Nat) (a0 : j2) (a1 : Int) (a2 : Int) (a3 : Int) : wc2 (k + 1) a0 a1 a2 a3 = (va2 k a0 a2 a3).bind fun p1 => z2 (R := Bool) [0, 1, 4, 9, 18, 19, 20] (run E (den E k) (lv 180) k (j1 Tryz.f180 0)) k (vh3 (a1, (p1.length : Int), a0, p1) (0, [])) (wc E (den E k) (lv 180) k (ye Tryz.f180) 0 [] (vd E (rs 180) Tryz.f180 : Ex → St → Option (Bool))) := by kernel_rfl
theorem eiIsSafeMix (k : Nat) (a0 : j2) (a1 : Int) (a2 : Int) (a3 : Int) : wc2 (k + 1) a0 a1 a2 a3 = (va2 k a0 a2 a3).bind fun p1 => x72 k (fun (v0 : Int × (List (List Int))) => (jn k v0.2).bind fun p2 => some (!p2)) (a1, (p1.length : Int), a0, p1) k (0, []) := by
 rw [miIsSafeMix_0]
 simp only [liIsSafeMix_0]
 kernel_rfl
noncomputable def FinextIn (k : Nat) (a0 : j2) (a1 : Int) (a2 : Int) (a3 : Int) : Option (Int × Bool) := den E k 179 [.agg (avs z7 a0), cI a1, cI a2, cI a3]
theorem einextIn (k : Nat) (a0 : j2) (a1 : Int) (a2 : Int) (a3 : Int) : FinextIn (k + 1) a0 a1 a2 a3 = (xo2 k a0 a1 a2).bind fun p1 => if ((!p1.2) == false) = true then (ww k a3 (p1.1.2.2.length : Int)).bind fun p2 => if (!p2) = true then some (-1, false) else if 0 ≤ a3 then if a3 < (p1.1.2.2.length : Int) then ix p1.1.2.2 a3.toNat fun x3 => some (x3, true) else none else none else some (-1, false) := by kernel_rfl
noncomputable def FiHopAt (k : Nat) (a0 : j2) (a1 : Int) (a2 : Int) (a3 : Int) : Option (Int) := den E k 115 [.agg (avs z7 a0), cI a1, cI a2, cI a3]
theorem eiHopAt (k : Nat) (a0 : j2) (a1 : Int) (a2 : Int) (a3 : Int) : FiHopAt (k + 1) a0 a1 a2 a3 = (yp2 k a0 a3).bind fun p1 => (FinextIn k a0 p1 a2 a1).bind fun p2 => if ((!p2.2) == false) = true then (z92 k a0 a3).bind fun p3 => if ((!p3) == false) = true then (wc2 k a0 a2 (IntKind.i64.wrap (a3 - (IntKind.i64.wrap (2 * a0.2.2.1)))) (IntKind.i64.wrap (a3 + (IntKind.i64.wrap (2 * a0.2.2.1))))).bind fun p4 => if (!p4) = true then some (-1) else some p2.1 else some (-1) else some (-1) := by kernel_rfl
noncomputable def FiIsCalm (k : Nat) (a0 : j2) (a1 : Int) : Option (Bool) := den E k 117 [.agg (avs z7 a0), cI a1]
theorem eiIsCalm (k : Nat) (a0 : j2) (a1 : Int) : FiIsCalm (k + 1) a0 a1 = (z92 k a0 a1).bind fun p1 => if (p1 == true) = true then (va2 k a0 (IntKind.i64.wrap (a1 - (IntKind.i64.wrap (2 * a0.2.2.1)))) (IntKind.i64.wrap (a1 + (IntKind.i64.wrap (2 * a0.2.2.1))))).bind fun p2 => some ((p2.length : Int) == 1) else some false := by kernel_rfl
noncomputable def vv2 (k : Nat) (a0 : j2) (a1 : Int) (a2 : Int) (a3 : Int) (a4 : List Int) : Option (Int) := den E k 43 [.agg (avs z7 a0), cI a1, cI a2, cI a3, .c (.l 3 (.i .i64) a4)]
abbrev vi1 : Type := (List Int) × (List Int) × Int
abbrev vo : Type := Int
def vj3 (c0 : vi1) (v0 : vo) : St := ⟨67, 0, [(4, .c (.l 3 (.i .i64) c0.1)), (55, .c (.l 3 (.i .i64) c0.2.1)), (56, cI c0.2.2), (57, cI v0)], []⟩
noncomputable def zy3 {R : Type} (k : Nat) (X0 : vo → Int → Bool → Option R) (X1 : vo → Option R) (c0 : vi1) (rec : vo → Option R) (v0 : vo) : Option R := if (decide (v0 < c0.2.2)) = true then if 0 ≤ v0 then ix c0.2.1 v0.toNat fun x8 => (ze1 k c0.1 x8).bind fun p9 => if (!p9) = true then X0 v0 x8 p9 else rec (IntKind.i64.wrap (v0 + 1)) else none else X1 v0
noncomputable def zj1 {R : Type} (k : Nat) (X0 : vo → Int → Bool → Option R) (X1 : vo → Option R) (c : vi1) : Nat → vo → Option R
 | 0, _ => none
 | n + 1, v => zy3 k X0 X1 c (zj1 k X0 X1 c n) v
def y43 {R : Type} (K : Ex → St → Option R) (c0 : vi1) (v0 : vo) (x8 : Int) (p9 : Bool) : Option R := K .ret ⟨67, 0, [(4, .c (.l 3 (.i .i64) c0.1)), (10, cI x8), (16, cI x8), (55, .c (.l 3 (.i .i64) c0.2.1)), (56, cI c0.2.2), (57, cI v0), (58, cB (decide (v0 < c0.2.2))), (59, .c (.at_ [vI x8])), (60, cI x8), (61, .c (.l 3 (.i .i64) c0.1)), (62, cI x8), (63, cB p9), (64, cB (!p9)), (65, cI x8)], []⟩
def y63 {R : Type} (K : Ex → St → Option R) (c0 : vi1) (v0 : vo) : Option R := K (.exit 0) ⟨67, 0, [(4, .c (.l 3 (.i .i64) c0.1)), (55, .c (.l 3 (.i .i64) c0.2.1)), (56, cI c0.2.2), (57, cI v0), (58, cB (decide (v0 < c0.2.2)))], []⟩
theorem liRepairHop_0 {R : Type} (k : Nat) (K : Ex → St → Option R) (c0 : vi1) : ∀ (n : Nat) (v : vo), z2 [0, 4, 55, 56, 57] (run E (den E k) (lv 43) k (j1 Tryz.f43 0)) n (vj3 c0 v) K = zj1 k (y43 K c0) (y63 K c0) c0 n v := j5 (B := zy3 k (y43 K c0) (y63 K c0) c0) (fun _ => rfl) (fun n v => by kernel_rfl) (fun _ => rfl) (fun _ _ => rfl)
theorem miRepairHop_0 (k : Nat) (a0 : j2) (a1 : Int) (a2 : Int) (a3 : Int) (a4 : List Int) : vv2 (k + 1) a0 a1 a2 a3 a4 = (FiHopAt k a0 a1 a2 a3).bind fun p1 => (ze1 k a4 p1).bind fun p2 => if (!p2) = true then some p1 else if ((decide (p1 < 0)) == false) = true then (FiIsCalm k a0 a3).bind fun p3 => if (!p3) = true then some (-1) else (yp2 k a0 a3).bind fun p4 => (xo2 k a0 p4 a2).bind fun p5 => if 0 ≤ p4 then ix a0.2.2.2 p4.toNat fun x6 => (vq3 k p5.1 x6.2.1 a0.2.1 a1).bind fun p7 => z2 (R := Int) [0, 4, 55, 56, 57] (run E (den E k) (lv 43) k (j1 Tryz.f43 0)) k (vj3 (a4, p7, (p7.length : Int)) 0) (wc E (den E k) (lv 43) k (ye Tryz.f43) 0 [] (vd E (rs 43) Tryz.f43 : Ex → St → Option (Int))) else none else some (-1) := by kernel_rfl
theorem eiRepairHop (k : Nat) (a0 : j2) (a1 : Int) (a2 : Int) (a3 : Int) (a4 : List Int) : vv2 (k + 1) a0 a1 a2 a3 a4 = (FiHopAt k a0 a1 a2 a3).bind fun p1 => (ze1 k a4 p1).bind fun p2 => if (!p2) = true then some p1 else if ((decide (p1 < 0)) == false) = true then (FiIsCalm k a0 a3).bind fun p3 => if (!p3) = true then some (-1) else (yp2 k a0 a3).bind fun p4 => (xo2 k a0 p4 a2).bind fun p5 => if 0 ≤ p4 then ix a0.2.2.2 p4.toNat fun x6 => (vq3 k p5.1 x6.2.1 a0.2.1 a1).bind fun p7 => zj1 k (fun (v0 : Int) (x8 : Int) (p9 : Bool) => some x8) (fun (v0 : Int) => some (-1)) (a4, p7, (p7.length : Int)) k 0 else none else some (-1) := by
 rw [miRepairHop_0]
 simp only [liRepairHop_0]
 kernel_rfl
noncomputable def FiHopFor (k : Nat) (a0 : zn1) (a1 : Int) (a2 : Int) : Option (Int) := den E k 8 [.agg (avs zl2 a0), cI a1, cI a2]
theorem eiHopFor (k : Nat) (a0 : zn1) (a1 : Int) (a2 : Int) : FiHopFor (k + 1) a0 a1 a2 = (ww k a1 (a0.2.2.2.1.length : Int)).bind fun p1 => if ((!p1) == false) = true then (xb2 k a0.2.2.2.2.2.2.2.2.2.2.1 0 1000).bind fun p2 => if ((!p2) == false) = true then if 0 ≤ a1 then ix a0.2.2.2.1 a1.toNat fun x3 => (xb2 k x3 (-5) 5).bind fun p4 => if (!p4) = true then some (-1) else if 0 ≤ a1 then ix a0.2.2.2.1 a1.toNat fun x5 => (FiDeadNow k a0 a1).bind fun p6 => (vv2 k a0.2.1 a1 a2 (IntKind.i64.wrap (a0.2.2.2.2.2.2.2.2.2.2.1 + x5)) p6).bind fun p7 => if ((decide (p7 < 0)) == false) = true then (FiMayUse k a0.2.1 a1 p7 (IntKind.i64.wrap (a0.2.2.2.2.2.2.2.2.2.2.1 + x5))).bind fun p8 => if (!p8) = true then some (-1) else some p7 else some (-1) else none else none else some (-1) else some (-1) := by kernel_rfl
noncomputable def zu2 (k : Nat) (a0 : I6) (a1 : I6) : Option (Bool) := den E k 128 [.agg (avs sI6 a0), .agg (avs sI6 a1)]
theorem eleqBattery (k : Nat) (a0 : I6) (a1 : I6) : zu2 (k + 1) a0 a1 = if (a0.1 != a1.1) = true then some false else if (a0.2.1 != a1.2.1) = true then some false else if (a0.2.2.1 != a1.2.2.1) = true then some false else if (a0.2.2.2.1 != a1.2.2.2.1) = true then some false else if (a0.2.2.2.2.1 != a1.2.2.2.2.1) = true then some false else if (a0.2.2.2.2.2 != a1.2.2.2.2.2) = true then some false else some true := by kernel_rfl
noncomputable def j02 (k : Nat) (a0 : List I6) (a1 : List I6) : Option (Bool) := den E k 50 [.c (.l 164 sI6 a0), .c (.l 164 sI6 a1)]
abbrev ye1 : Type := (List I6) × (List I6)
abbrev ym : Type := Int
def j53 (c0 : ye1) (v0 : ym) : St := ⟨27, 0, [(0, .c (.l 164 sI6 c0.1)), (1, .c (.l 164 sI6 c0.2)), (5, cI v0)], []⟩
noncomputable def zd3 {R : Type} (k : Nat) (X0 : ym → I6 → I6 → Bool → Option R) (X1 : ym → Option R) (c0 : ye1) (rec : ym → Option R) (v0 : ym) : Option R := if (decide (v0 < (c0.1.length : Int))) = true then if 0 ≤ v0 then ix c0.1 v0.toNat fun x1 => if 0 ≤ v0 then ix c0.2 v0.toNat fun x2 => (zu2 k x1 x2).bind fun p3 => if (!p3) = true then X0 v0 x1 x2 p3 else rec (IntKind.i64.wrap (v0 + 1)) else none else none else X1 v0
noncomputable def xz1 {R : Type} (k : Nat) (X0 : ym → I6 → I6 → Bool → Option R) (X1 : ym → Option R) (c : ye1) : Nat → ym → Option R
 | 0, _ => none
 | n + 1, v => zd3 k X0 X1 c (xz1 k X0 X1 c n) v
def ww2 {R : Type} (K : Ex → St → Option R) (c0 : ye1) (v0 : ym) (x1 : I6) (x2 : I6) (p3 : Bool) : Option R := K .ret ⟨27, 0, [(0, .c (.l 164 sI6 c0.1)), (1, .c (.l 164 sI6 c0.2)), (4, cB false), (5, cI v0), (11, cI v0), (12, .c (.l 164 sI6 c0.1)), (13, cI (c0.1.length : Int)), (14, cB (decide (v0 < (c0.1.length : Int)))), (17, .c (.l 164 sI6 c0.1)), (18, cI v0), (19, .c (.at_ (avs sI6 x1))), (20, .agg (avs sI6 x1)), (21, .c (.l 164 sI6 c0.2)), (22, cI v0), (23, .c (.at_ (avs sI6 x2))), (24, .agg (avs sI6 x2)), (25, cB p3), (26, cB (!p3))], []⟩
def jx2 {R : Type} (K : Ex → St → Option R) (c0 : ye1) (v0 : ym) : Option R := K (.exit 0) ⟨27, 0, [(0, .c (.l 164 sI6 c0.1)), (1, .c (.l 164 sI6 c0.2)), (5, cI v0), (11, cI v0), (12, .c (.l 164 sI6 c0.1)), (13, cI (c0.1.length : Int)), (14, cB (decide (v0 < (c0.1.length : Int))))], []⟩
theorem lleqBatteryS_0 {R : Type} (k : Nat) (K : Ex → St → Option R) (c0 : ye1) : ∀ (n : Nat) (v : ym), z2 [0, 0, 1, 5] (run E (den E k) (lv 50) k (j1 Tryz.f50 0)) n (j53 c0 v) K = xz1 k (ww2 K c0) (jx2 K c0) c0 n v := j5 (B := zd3 k (ww2 K c0) (jx2 K c0) c0) (fun _ => rfl) (fun n v => by kernel_rfl) (fun _ => rfl) (fun _ _ => rfl)
theorem mleqBatteryS_0 (k : Nat) (a0 : List I6) (a1 : List I6) : j02 (k + 1) a0 a1 = if ((a0.length : Int) != (a1.length : Int)) = true then some false else z2 (R := Bool) [0, 0, 1, 5] (run E (den E k) (lv 50) k (j1 Tryz.f50 0)) k (j53 (a0, a1) 0) (wc E (den E k) (lv 50) k (ye Tryz.f50) 0 [] (vd E (rs 50) Tryz.f50 : Ex → St → Option (Bool))) := by kernel_rfl
theorem eleqBatteryS (k : Nat) (a0 : List I6) (a1 : List I6) : j02 (k + 1) a0 a1 = if ((a0.length : Int) != (a1.length : Int)) = true then some false else xz1 k (fun (v0 : Int) (x1 : I6) (x2 : I6) (p3 : Bool) => some false) (fun (v0 : Int) => some true) (a0, a1) k 0 := by
 rw [mleqBatteryS_0]
 simp only [lleqBatteryS_0]
 kernel_rfl
noncomputable def yw3 (k : Nat) (a0 : I4) (a1 : I4) : Option (Bool) := den E k 132 [.agg (avs sI4 a0), .agg (avs sI4 a1)]
theorem eleqFault (k : Nat) (a0 : I4) (a1 : I4) : yw3 (k + 1) a0 a1 = if (a0.1 != a1.1) = true then some false else if (a0.2.1 != a1.2.1) = true then some false else if (a0.2.2.1 != a1.2.2.1) = true then some false else if (a0.2.2.2 != a1.2.2.2) = true then some false else some true := by kernel_rfl
noncomputable def zo2 (k : Nat) (a0 : List I4) (a1 : List I4) : Option (Bool) := den E k 54 [.c (.l 174 sI4 a0), .c (.l 174 sI4 a1)]
abbrev vn1 : Type := (List I4) × (List I4)
abbrev vu : Type := Int
def j14 (c0 : vn1) (v0 : vu) : St := ⟨27, 0, [(0, .c (.l 174 sI4 c0.1)), (1, .c (.l 174 sI4 c0.2)), (5, cI v0)], []⟩
noncomputable def BleqFaultS_0 {R : Type} (k : Nat) (X0 : vu → I4 → I4 → Bool → Option R) (X1 : vu → Option R) (c0 : vn1) (rec : vu → Option R) (v0 : vu) : Option R := if (decide (v0 < (c0.1.length : Int))) = true then if 0 ≤ v0 then ix c0.1 v0.toNat fun x1 => if 0 ≤ v0 then ix c0.2 v0.toNat fun x2 => (yw3 k x1 x2).bind fun p3 => if (!p3) = true then X0 v0 x1 x2 p3 else rec (IntKind.i64.wrap (v0 + 1)) else none else none else X1 v0
noncomputable def xi2 {R : Type} (k : Nat) (X0 : vu → I4 → I4 → Bool → Option R) (X1 : vu → Option R) (c : vn1) : Nat → vu → Option R
 | 0, _ => none
 | n + 1, v => BleqFaultS_0 k X0 X1 c (xi2 k X0 X1 c n) v
def wi3 {R : Type} (K : Ex → St → Option R) (c0 : vn1) (v0 : vu) (x1 : I4) (x2 : I4) (p3 : Bool) : Option R := K .ret ⟨27, 0, [(0, .c (.l 174 sI4 c0.1)), (1, .c (.l 174 sI4 c0.2)), (4, cB false), (5, cI v0), (11, cI v0), (12, .c (.l 174 sI4 c0.1)), (13, cI (c0.1.length : Int)), (14, cB (decide (v0 < (c0.1.length : Int)))), (17, .c (.l 174 sI4 c0.1)), (18, cI v0), (19, .c (.at_ (avs sI4 x1))), (20, .agg (avs sI4 x1)), (21, .c (.l 174 sI4 c0.2)), (22, cI v0), (23, .c (.at_ (avs sI4 x2))), (24, .agg (avs sI4 x2)), (25, cB p3), (26, cB (!p3))], []⟩
def zj3 {R : Type} (K : Ex → St → Option R) (c0 : vn1) (v0 : vu) : Option R := K (.exit 0) ⟨27, 0, [(0, .c (.l 174 sI4 c0.1)), (1, .c (.l 174 sI4 c0.2)), (5, cI v0), (11, cI v0), (12, .c (.l 174 sI4 c0.1)), (13, cI (c0.1.length : Int)), (14, cB (decide (v0 < (c0.1.length : Int))))], []⟩
theorem lleqFaultS_0 {R : Type} (k : Nat) (K : Ex → St → Option R) (c0 : vn1) : ∀ (n : Nat) (v : vu), z2 [0, 0, 1, 5] (run E (den E k) (lv 54) k (j1 Tryz.f54 0)) n (j14 c0 v) K = xi2 k (wi3 K c0) (zj3 K c0) c0 n v := j5 (B := BleqFaultS_0 k (wi3 K c0) (zj3 K c0) c0) (fun _ => rfl) (fun n v => by kernel_rfl) (fun _ => rfl) (fun _ _ => rfl)
theorem mleqFaultS_0 (k : Nat) (a0 : List I4) (a1 : List I4) : zo2 (k + 1) a0 a1 = if ((a0.length : Int) != (a1.length : Int)) = true then some false else z2 (R := Bool) [0, 0, 1, 5] (run E (den E k) (lv 54) k (j1 Tryz.f54 0)) k (j14 (a0, a1) 0) (wc E (den E k) (lv 54) k (ye Tryz.f54) 0 [] (vd E (rs 54) Tryz.f54 : Ex → St → Option (Bool))) := by kernel_rfl
theorem eleqFaultS (k : Nat) (a0 : List I4) (a1 : List I4) : zo2 (k + 1) a0 a1 = if ((a0.length : Int) != (a1.length : Int)) = true then some false else xi2 k (fun (v0 : Int) (x1 : I4) (x2 : I4) (p3 : Bool) => some false) (fun (v0 : Int) => some true) (a0, a1) k 0 := by
 rw [mleqFaultS_0]
 simp only [lleqFaultS_0]
 kernel_rfl
noncomputable def FleqFlow (k : Nat) (a0 : I4) (a1 : I4) : Option (Bool) := den E k 130 [.agg (avs sI4 a0), .agg (avs sI4 a1)]
theorem eleqFlow (k : Nat) (a0 : I4) (a1 : I4) : FleqFlow (k + 1) a0 a1 = if (a0.1 != a1.1) = true then some false else if (a0.2.1 != a1.2.1) = true then some false else if (a0.2.2.1 != a1.2.2.1) = true then some false else if (a0.2.2.2 != a1.2.2.2) = true then some false else some true := by kernel_rfl
noncomputable def y23 (k : Nat) (a0 : List I4) (a1 : List I4) : Option (Bool) := den E k 52 [.c (.l 169 sI4 a0), .c (.l 169 sI4 a1)]
abbrev ww1 : Type := (List I4) × (List I4)
abbrev j01 : Type := Int
def StleqFlowS_0 (c0 : ww1) (v0 : j01) : St := ⟨27, 0, [(0, .c (.l 169 sI4 c0.1)), (1, .c (.l 169 sI4 c0.2)), (5, cI v0)], []⟩
noncomputable def BleqFlowS_0 {R : Type} (k : Nat) (X0 : j01 → I4 → I4 → Bool → Option R) (X1 : j01 → Option R) (c0 : ww1) (rec : j01 → Option R) (v0 : j01) : Option R := if (decide (v0 < (c0.1.length : Int))) = true then if 0 ≤ v0 then ix c0.1 v0.toNat fun x1 => if 0 ≤ v0 then ix c0.2 v0.toNat fun x2 => (FleqFlow k x1 x2).bind fun p3 => if (!p3) = true then X0 v0 x1 x2 p3 else rec (IntKind.i64.wrap (v0 + 1)) else none else none else X1 v0
noncomputable def vp2 {R : Type} (k : Nat) (X0 : j01 → I4 → I4 → Bool → Option R) (X1 : j01 → Option R) (c : ww1) : Nat → j01 → Option R
 | 0, _ => none
 | n + 1, v => BleqFlowS_0 k X0 X1 c (vp2 k X0 X1 c n) v
def zt3 {R : Type} (K : Ex → St → Option R) (c0 : ww1) (v0 : j01) (x1 : I4) (x2 : I4) (p3 : Bool) : Option R := K .ret ⟨27, 0, [(0, .c (.l 169 sI4 c0.1)), (1, .c (.l 169 sI4 c0.2)), (4, cB false), (5, cI v0), (11, cI v0), (12, .c (.l 169 sI4 c0.1)), (13, cI (c0.1.length : Int)), (14, cB (decide (v0 < (c0.1.length : Int)))), (17, .c (.l 169 sI4 c0.1)), (18, cI v0), (19, .c (.at_ (avs sI4 x1))), (20, .agg (avs sI4 x1)), (21, .c (.l 169 sI4 c0.2)), (22, cI v0), (23, .c (.at_ (avs sI4 x2))), (24, .agg (avs sI4 x2)), (25, cB p3), (26, cB (!p3))], []⟩
def jy3 {R : Type} (K : Ex → St → Option R) (c0 : ww1) (v0 : j01) : Option R := K (.exit 0) ⟨27, 0, [(0, .c (.l 169 sI4 c0.1)), (1, .c (.l 169 sI4 c0.2)), (5, cI v0), (11, cI v0), (12, .c (.l 169 sI4 c0.1)), (13, cI (c0.1.length : Int)), (14, cB (decide (v0 < (c0.1.length : Int))))], []⟩
theorem lleqFlowS_0 {R : Type} (k : Nat) (K : Ex → St → Option R) (c0 : ww1) : ∀ (n : Nat) (v : j01), z2 [0, 0, 1, 5] (run E (den E k) (lv 52) k (j1 Tryz.f52 0)) n (StleqFlowS_0 c0 v) K = vp2 k (zt3 K c0) (jy3 K c0) c0 n v := j5 (B := BleqFlowS_0 k (zt3 K c0) (jy3 K c0) c0) (fun _ => rfl) (fun n v => by kernel_rfl) (fun _ => rfl) (fun _ _ => rfl)
theorem mleqFlowS_0 (k : Nat) (a0 : List I4) (a1 : List I4) : y23 (k + 1) a0 a1 = if ((a0.length : Int) != (a1.length : Int)) = true then some false else z2 (R := Bool) [0, 0, 1, 5] (run E (den E k) (lv 52) k (j1 Tryz.f52 0)) k (StleqFlowS_0 (a0, a1) 0) (wc E (den E k) (lv 52) k (ye Tryz.f52) 0 [] (vd E (rs 52) Tryz.f52 : Ex → St → Option (Bool))) := by kernel_rfl
theorem eleqFlowS (k : Nat) (a0 : List I4) (a1 : List I4) : y23 (k + 1) a0 a1 = if ((a0.length : Int) != (a1.length : Int)) = true then some false else vp2 k (fun (v0 : Int) (x1 : I4) (x2 : I4) (p3 : Bool) => some false) (fun (v0 : Int) => some true) (a0, a1) k 0 := by
 rw [mleqFlowS_0]
 simp only [lleqFlowS_0]
 kernel_rfl
noncomputable def vc1 (k : Nat) (a0 : List Int) (a1 : List Int) : Option (Bool) := den E k 49 [.c (.l 3 (.i .i64) a0), .c (.l 3 (.i .i64) a1)]
abbrev ya2 : Type := (List Int) × (List Int)
abbrev z81 : Type := Int
def StleqIntS_0 (c0 : ya2) (v0 : z81) : St := ⟨26, 0, [(0, .c (.l 3 (.i .i64) c0.1)), (1, .c (.l 3 (.i .i64) c0.2)), (5, cI v0)], []⟩
noncomputable def BleqIntS_0 {R : Type} (k : Nat) (X0 : z81 → Int → Int → Option R) (X1 : z81 → Option R) (c0 : ya2) (rec : z81 → Option R) (v0 : z81) : Option R := if (decide (v0 < (c0.1.length : Int))) = true then if 0 ≤ v0 then ix c0.1 v0.toNat fun x1 => if 0 ≤ v0 then ix c0.2 v0.toNat fun x2 => if (x1 != x2) = true then X0 v0 x1 x2 else rec (IntKind.i64.wrap (v0 + 1)) else none else none else X1 v0
noncomputable def v93 {R : Type} (k : Nat) (X0 : z81 → Int → Int → Option R) (X1 : z81 → Option R) (c : ya2) : Nat → z81 → Option R
 | 0, _ => none
 | n + 1, v => BleqIntS_0 k X0 X1 c (v93 k X0 X1 c n) v
def YleqIntS_0_0 {R : Type} (K : Ex → St → Option R) (c0 : ya2) (v0 : z81) (x1 : Int) (x2 : Int) : Option R := K .ret ⟨26, 0, [(0, .c (.l 3 (.i .i64) c0.1)), (1, .c (.l 3 (.i .i64) c0.2)), (4, cB false), (5, cI v0), (11, cI v0), (12, .c (.l 3 (.i .i64) c0.1)), (13, cI (c0.1.length : Int)), (14, cB (decide (v0 < (c0.1.length : Int)))), (17, .c (.l 3 (.i .i64) c0.1)), (18, cI v0), (19, .c (.at_ [vI x1])), (20, cI x1), (21, .c (.l 3 (.i .i64) c0.2)), (22, cI v0), (23, .c (.at_ [vI x2])), (24, cI x2), (25, cB (x1 != x2))], []⟩
def YleqIntS_0_1 {R : Type} (K : Ex → St → Option R) (c0 : ya2) (v0 : z81) : Option R := K (.exit 0) ⟨26, 0, [(0, .c (.l 3 (.i .i64) c0.1)), (1, .c (.l 3 (.i .i64) c0.2)), (5, cI v0), (11, cI v0), (12, .c (.l 3 (.i .i64) c0.1)), (13, cI (c0.1.length : Int)), (14, cB (decide (v0 < (c0.1.length : Int))))], []⟩
theorem lleqIntS_0 {R : Type} (k : Nat) (K : Ex → St → Option R) (c0 : ya2) : ∀ (n : Nat) (v : z81), z2 [0, 0, 1, 5] (run E (den E k) (lv 49) k (j1 Tryz.f49 0)) n (StleqIntS_0 c0 v) K = v93 k (YleqIntS_0_0 K c0) (YleqIntS_0_1 K c0) c0 n v := j5 (B := BleqIntS_0 k (YleqIntS_0_0 K c0) (YleqIntS_0_1 K c0) c0) (fun _ => rfl) (fun n v => by kernel_rfl) (fun _ => rfl) (fun _ _ => rfl)
theorem mleqIntS_0 (k : Nat) (a0 : List Int) (a1 : List Int) : vc1 (k + 1) a0 a1 = if ((a0.length : Int) != (a1.length : Int)) = true then some false else z2 (R := Bool) [0, 0, 1, 5] (run E (den E k) (lv 49) k (j1 Tryz.f49 0)) k (StleqIntS_0 (a0, a1) 0) (wc E (den E k) (lv 49) k (ye Tryz.f49) 0 [] (vd E (rs 49) Tryz.f49 : Ex → St → Option (Bool))) := by kernel_rfl
theorem eleqIntS (k : Nat) (a0 : List Int) (a1 : List Int) : vc1 (k + 1) a0 a1 = if ((a0.length : Int) != (a1.length : Int)) = true then some false else v93 k (fun (v0 : Int) (x1 : Int) (x2 : Int) => some false) (fun (v0 : Int) => some true) (a0, a1) k 0 := by
 rw [mleqIntS_0]
 simp only [lleqIntS_0]
 kernel_rfl
noncomputable def FleqLaw (k : Nat) (a0 : List Int) (a1 : List Int) : Option (Bool) := den E k 48 [.agg [.l 3 (.i .i64) a0], .agg [.l 3 (.i .i64) a1]]
theorem eleqLaw (k : Nat) (a0 : List Int) (a1 : List Int) : FleqLaw (k + 1) a0 a1 = (vc1 k a0 a1).bind fun p1 => if (!p1) = true then some false else some true := by kernel_rfl
noncomputable def j83 (k : Nat) (a0 : I6) (a1 : I6) : Option (Bool) := den E k 133 [.agg (avs sI6 a0), .agg (avs sI6 a1)]
theorem eleqPacket (k : Nat) (a0 : I6) (a1 : I6) : j83 (k + 1) a0 a1 = if (a0.1 != a1.1) = true then some false else if (a0.2.1 != a1.2.1) = true then some false else if (a0.2.2.1 != a1.2.2.1) = true then some false else if (a0.2.2.2.1 != a1.2.2.2.1) = true then some false else if (a0.2.2.2.2.1 != a1.2.2.2.2.1) = true then some false else if (a0.2.2.2.2.2 != a1.2.2.2.2.2) = true then some false else some true := by kernel_rfl
noncomputable def wm1 (k : Nat) (a0 : List I6) (a1 : List I6) : Option (Bool) := den E k 55 [.c (.l 115 sI6 a0), .c (.l 115 sI6 a1)]
abbrev wh1 : Type := (List I6) × (List I6)
abbrev zp : Type := Int
def we3 (c0 : wh1) (v0 : zp) : St := ⟨27, 0, [(0, .c (.l 115 sI6 c0.1)), (1, .c (.l 115 sI6 c0.2)), (5, cI v0)], []⟩
noncomputable def yt3 {R : Type} (k : Nat) (X0 : zp → I6 → I6 → Bool → Option R) (X1 : zp → Option R) (c0 : wh1) (rec : zp → Option R) (v0 : zp) : Option R := if (decide (v0 < (c0.1.length : Int))) = true then if 0 ≤ v0 then ix c0.1 v0.toNat fun x1 => if 0 ≤ v0 then ix c0.2 v0.toNat fun x2 => (j83 k x1 x2).bind fun p3 => if (!p3) = true then X0 v0 x1 x2 p3 else rec (IntKind.i64.wrap (v0 + 1)) else none else none else X1 v0
noncomputable def v62 {R : Type} (k : Nat) (X0 : zp → I6 → I6 → Bool → Option R) (X1 : zp → Option R) (c : wh1) : Nat → zp → Option R
 | 0, _ => none
 | n + 1, v => yt3 k X0 X1 c (v62 k X0 X1 c n) v
def x53 {R : Type} (K : Ex → St → Option R) (c0 : wh1) (v0 : zp) (x1 : I6) (x2 : I6) (p3 : Bool) : Option R := K .ret ⟨27, 0, [(0, .c (.l 115 sI6 c0.1)), (1, .c (.l 115 sI6 c0.2)), (4, cB false), (5, cI v0), (11, cI v0), (12, .c (.l 115 sI6 c0.1)), (13, cI (c0.1.length : Int)), (14, cB (decide (v0 < (c0.1.length : Int)))), (17, .c (.l 115 sI6 c0.1)), (18, cI v0), (19, .c (.at_ (avs sI6 x1))), (20, .agg (avs sI6 x1)), (21, .c (.l 115 sI6 c0.2)), (22, cI v0), (23, .c (.at_ (avs sI6 x2))), (24, .agg (avs sI6 x2)), (25, cB p3), (26, cB (!p3))], []⟩
def v33 {R : Type} (K : Ex → St → Option R) (c0 : wh1) (v0 : zp) : Option R := K (.exit 0) ⟨27, 0, [(0, .c (.l 115 sI6 c0.1)), (1, .c (.l 115 sI6 c0.2)), (5, cI v0), (11, cI v0), (12, .c (.l 115 sI6 c0.1)), (13, cI (c0.1.length : Int)), (14, cB (decide (v0 < (c0.1.length : Int))))], []⟩
theorem lleqPacketS_0 {R : Type} (k : Nat) (K : Ex → St → Option R) (c0 : wh1) : ∀ (n : Nat) (v : zp), z2 [0, 0, 1, 5] (run E (den E k) (lv 55) k (j1 Tryz.f55 0)) n (we3 c0 v) K = v62 k (x53 K c0) (v33 K c0) c0 n v := j5 (B := yt3 k (x53 K c0) (v33 K c0) c0) (fun _ => rfl) (fun n v => by kernel_rfl) (fun _ => rfl) (fun _ _ => rfl)
theorem mleqPacketS_0 (k : Nat) (a0 : List I6) (a1 : List I6) : wm1 (k + 1) a0 a1 = if ((a0.length : Int) != (a1.length : Int)) = true then some false else z2 (R := Bool) [0, 0, 1, 5] (run E (den E k) (lv 55) k (j1 Tryz.f55 0)) k (we3 (a0, a1) 0) (wc E (den E k) (lv 55) k (ye Tryz.f55) 0 [] (vd E (rs 55) Tryz.f55 : Ex → St → Option (Bool))) := by kernel_rfl
theorem eleqPacketS (k : Nat) (a0 : List I6) (a1 : List I6) : wm1 (k + 1) a0 a1 = if ((a0.length : Int) != (a1.length : Int)) = true then some false else v62 k (fun (v0 : Int) (x1 : I6) (x2 : I6) (p3 : Bool) => some false) (fun (v0 : Int) => some true) (a0, a1) k 0 := by
 rw [mleqPacketS_0]
 simp only [lleqPacketS_0]
 kernel_rfl
noncomputable def FleqLink (k : Nat) (a0 : I2) (a1 : I2) : Option (Bool) := den E k 245 [.agg [vI a0.1, vI a0.2], .agg [vI a1.1, vI a1.2]]
theorem eleqLink (k : Nat) (a0 : I2) (a1 : I2) : FleqLink (k + 1) a0 a1 = if (a0.1 != a1.1) = true then some false else if (a0.2 != a1.2) = true then some false else some true := by kernel_rfl
noncomputable def w13 (k : Nat) (a0 : List I2) (a1 : List I2) : Option (Bool) := den E k 231 [.c (.l 264 sI2 a0), .c (.l 264 sI2 a1)]
abbrev xw1 : Type := (List I2) × (List I2)
abbrev y01 : Type := Int
def StleqLinkS_0 (c0 : xw1) (v0 : y01) : St := ⟨27, 0, [(0, .c (.l 264 sI2 c0.1)), (1, .c (.l 264 sI2 c0.2)), (5, cI v0)], []⟩
noncomputable def BleqLinkS_0 {R : Type} (k : Nat) (X0 : y01 → I2 → I2 → Bool → Option R) (X1 : y01 → Option R) (c0 : xw1) (rec : y01 → Option R) (v0 : y01) : Option R := if (decide (v0 < (c0.1.length : Int))) = true then if 0 ≤ v0 then ix c0.1 v0.toNat fun x1 => if 0 ≤ v0 then ix c0.2 v0.toNat fun x2 => (FleqLink k x1 x2).bind fun p3 => if (!p3) = true then X0 v0 x1 x2 p3 else rec (IntKind.i64.wrap (v0 + 1)) else none else none else X1 v0
noncomputable def xr2 {R : Type} (k : Nat) (X0 : y01 → I2 → I2 → Bool → Option R) (X1 : y01 → Option R) (c : xw1) : Nat → y01 → Option R
 | 0, _ => none
 | n + 1, v => BleqLinkS_0 k X0 X1 c (xr2 k X0 X1 c n) v
def yq3 {R : Type} (K : Ex → St → Option R) (c0 : xw1) (v0 : y01) (x1 : I2) (x2 : I2) (p3 : Bool) : Option R := K .ret ⟨27, 0, [(0, .c (.l 264 sI2 c0.1)), (1, .c (.l 264 sI2 c0.2)), (4, cB false), (5, cI v0), (11, cI v0), (12, .c (.l 264 sI2 c0.1)), (13, cI (c0.1.length : Int)), (14, cB (decide (v0 < (c0.1.length : Int)))), (17, .c (.l 264 sI2 c0.1)), (18, cI v0), (19, .c (.at_ [vI x1.1, vI x1.2])), (20, .agg [vI x1.1, vI x1.2]), (21, .c (.l 264 sI2 c0.2)), (22, cI v0), (23, .c (.at_ [vI x2.1, vI x2.2])), (24, .agg [vI x2.1, vI x2.2]), (25, cB p3), (26, cB (!p3))], []⟩
def ww3 {R : Type} (K : Ex → St → Option R) (c0 : xw1) (v0 : y01) : Option R := K (.exit 0) ⟨27, 0, [(0, .c (.l 264 sI2 c0.1)), (1, .c (.l 264 sI2 c0.2)), (5, cI v0), (11, cI v0), (12, .c (.l 264 sI2 c0.1)), (13, cI (c0.1.length : Int)), (14, cB (decide (v0 < (c0.1.length : Int))))], []⟩
theorem lleqLinkS_0 {R : Type} (k : Nat) (K : Ex → St → Option R) (c0 : xw1) : ∀ (n : Nat) (v : y01), z2 [0, 0, 1, 5] (run E (den E k) (lv 231) k (j1 Tryz.f231 0)) n (StleqLinkS_0 c0 v) K = xr2 k (yq3 K c0) (ww3 K c0) c0 n v := j5 (B := BleqLinkS_0 k (yq3 K c0) (ww3 K c0) c0) (fun _ => rfl) (fun n v => by kernel_rfl) (fun _ => rfl) (fun _ _ => rfl)
theorem mleqLinkS_0 (k : Nat) (a0 : List I2) (a1 : List I2) : w13 (k + 1) a0 a1 = if ((a0.length : Int) != (a1.length : Int)) = true then some false else z2 (R := Bool) [0, 0, 1, 5] (run E (den E k) (lv 231) k (j1 Tryz.f231 0)) k (StleqLinkS_0 (a0, a1) 0) (wc E (den E k) (lv 231) k (ye Tryz.f231) 0 [] (vd E (rs 231) Tryz.f231 : Ex → St → Option (Bool))) := by kernel_rfl
theorem eleqLinkS (k : Nat) (a0 : List I2) (a1 : List I2) : w13 (k + 1) a0 a1 = if ((a0.length : Int) != (a1.length : Int)) = true then some false else xr2 k (fun (v0 : Int) (x1 : I2) (x2 : I2) (p3 : Bool) => some false) (fun (v0 : Int) => some true) (a0, a1) k 0 := by
 rw [mleqLinkS_0]
 simp only [lleqLinkS_0]
 kernel_rfl
noncomputable def FleqSpan (k : Nat) (a0 : I2) (a1 : I2) : Option (Bool) := den E k 230 [.agg [vI a0.1, vI a0.2], .agg [vI a1.1, vI a1.2]]
theorem eleqSpan (k : Nat) (a0 : I2) (a1 : I2) : FleqSpan (k + 1) a0 a1 = if (a0.1 != a1.1) = true then some false else if (a0.2 != a1.2) = true then some false else some true := by kernel_rfl
noncomputable def wt3 (k : Nat) (a0 : Int × (List Int) × List Int) (a1 : Int × (List Int) × List Int) : Option (Bool) := den E k 246 [.agg (avs j8 a0), .agg (avs j8 a1)]
theorem eleqTable (k : Nat) (a0 : Int × (List Int) × List Int) (a1 : Int × (List Int) × List Int) : wt3 (k + 1) a0 a1 = if (a0.1 != a1.1) = true then some false else (vc1 k a0.2.1 a1.2.1).bind fun p1 => if (!p1) = true then some false else (vc1 k a0.2.2 a1.2.2).bind fun p2 => if (!p2) = true then some false else some true := by kernel_rfl
noncomputable def yn2 (k : Nat) (a0 : List (Int × (List Int) × List Int)) (a1 : List (Int × (List Int) × List Int)) : Option (Bool) := den E k 232 [.c (.l 147 j8 a0), .c (.l 147 j8 a1)]
abbrev wn1 : Type := (List (Int × (List Int) × List Int)) × (List (Int × (List Int) × List Int))
abbrev zt : Type := Int
def y24 (c0 : wn1) (v0 : zt) : St := ⟨27, 0, [(0, .c (.l 147 j8 c0.1)), (1, .c (.l 147 j8 c0.2)), (5, cI v0)], []⟩
noncomputable def BleqTableS_0 {R : Type} (k : Nat) (X0 : zt → (Int × (List Int) × List Int) → (Int × (List Int) × List Int) → Bool → Option R) (X1 : zt → Option R) (c0 : wn1) (rec : zt → Option R) (v0 : zt) : Option R := if (decide (v0 < (c0.1.length : Int))) = true then if 0 ≤ v0 then ix c0.1 v0.toNat fun x1 => if 0 ≤ v0 then ix c0.2 v0.toNat fun x2 => (wt3 k x1 x2).bind fun p3 => if (!p3) = true then X0 v0 x1 x2 p3 else rec (IntKind.i64.wrap (v0 + 1)) else none else none else X1 v0
noncomputable def zf2 {R : Type} (k : Nat) (X0 : zt → (Int × (List Int) × List Int) → (Int × (List Int) × List Int) → Bool → Option R) (X1 : zt → Option R) (c : wn1) : Nat → zt → Option R
 | 0, _ => none
 | n + 1, v => BleqTableS_0 k X0 X1 c (zf2 k X0 X1 c n) v
def xi3 {R : Type} (K : Ex → St → Option R) (c0 : wn1) (v0 : zt) (x1 : Int × (List Int) × List Int) (x2 : Int × (List Int) × List Int) (p3 : Bool) : Option R := K .ret ⟨27, 0, [(0, .c (.l 147 j8 c0.1)), (1, .c (.l 147 j8 c0.2)), (4, cB false), (5, cI v0), (11, cI v0), (12, .c (.l 147 j8 c0.1)), (13, cI (c0.1.length : Int)), (14, cB (decide (v0 < (c0.1.length : Int)))), (17, .c (.l 147 j8 c0.1)), (18, cI v0), (19, .c (.at_ (avs j8 x1))), (20, .agg (avs j8 x1)), (21, .c (.l 147 j8 c0.2)), (22, cI v0), (23, .c (.at_ (avs j8 x2))), (24, .agg (avs j8 x2)), (25, cB p3), (26, cB (!p3))], []⟩
def yg3 {R : Type} (K : Ex → St → Option R) (c0 : wn1) (v0 : zt) : Option R := K (.exit 0) ⟨27, 0, [(0, .c (.l 147 j8 c0.1)), (1, .c (.l 147 j8 c0.2)), (5, cI v0), (11, cI v0), (12, .c (.l 147 j8 c0.1)), (13, cI (c0.1.length : Int)), (14, cB (decide (v0 < (c0.1.length : Int))))], []⟩
theorem lleqTableS_0 {R : Type} (k : Nat) (K : Ex → St → Option R) (c0 : wn1) : ∀ (n : Nat) (v : zt), z2 [0, 0, 1, 5] (run E (den E k) (lv 232) k (j1 Tryz.f232 0)) n (y24 c0 v) K = zf2 k (xi3 K c0) (yg3 K c0) c0 n v := j5 (B := BleqTableS_0 k (xi3 K c0) (yg3 K c0) c0) (fun _ => rfl) (fun n v => by kernel_rfl) (fun _ => rfl) (fun _ _ => rfl)
theorem mleqTableS_0 (k : Nat) (a0 : List (Int × (List Int) × List Int)) (a1 : List (Int × (List Int) × List Int)) : yn2 (k + 1) a0 a1 = if ((a0.length : Int) != (a1.length : Int)) = true then some false else z2 (R := Bool) [0, 0, 1, 5] (run E (den E k) (lv 232) k (j1 Tryz.f232 0)) k (y24 (a0, a1) 0) (wc E (den E k) (lv 232) k (ye Tryz.f232) 0 [] (vd E (rs 232) Tryz.f232 : Ex → St → Option (Bool))) := by kernel_rfl
theorem eleqTableS (k : Nat) (a0 : List (Int × (List Int) × List Int)) (a1 : List (Int × (List Int) × List Int)) : yn2 (k + 1) a0 a1 = if ((a0.length : Int) != (a1.length : Int)) = true then some false else zf2 k (fun (v0 : Int) (x1 : Int × (List Int) × List Int) (x2 : Int × (List Int) × List Int) (p3 : Bool) => some false) (fun (v0 : Int) => some true) (a0, a1) k 0 := by
 rw [mleqTableS_0]
 simp only [lleqTableS_0]
 kernel_rfl
noncomputable def jz3 (k : Nat) (a0 : zf) (a1 : zf) : Option (Bool) := den E k 197 [.agg (avs xk a0), .agg (avs xk a1)]
theorem eleqPiece (k : Nat) (a0 : zf) (a1 : zf) : jz3 (k + 1) a0 a1 = (FleqSpan k a0.1 a1.1).bind fun p1 => if (!p1) = true then some false else (w13 k a0.2.1 a1.2.1).bind fun p2 => if (!p2) = true then some false else (yn2 k a0.2.2 a1.2.2).bind fun p3 => if (!p3) = true then some false else some true := by kernel_rfl
noncomputable def zk2 (k : Nat) (a0 : List zf) (a1 : List zf) : Option (Bool) := den E k 127 [.c (.l 157 xk a0), .c (.l 157 xk a1)]
abbrev zo1 : Type := (List zf) × (List zf)
abbrev xu : Type := Int
def zp3 (c0 : zo1) (v0 : xu) : St := ⟨27, 0, [(0, .c (.l 157 xk c0.1)), (1, .c (.l 157 xk c0.2)), (5, cI v0)], []⟩
noncomputable def BleqPieceS_0 {R : Type} (k : Nat) (X0 : xu → zf → zf → Bool → Option R) (X1 : xu → Option R) (c0 : zo1) (rec : xu → Option R) (v0 : xu) : Option R := if (decide (v0 < (c0.1.length : Int))) = true then if 0 ≤ v0 then ix c0.1 v0.toNat fun x1 => if 0 ≤ v0 then ix c0.2 v0.toNat fun x2 => (jz3 k x1 x2).bind fun p3 => if (!p3) = true then X0 v0 x1 x2 p3 else rec (IntKind.i64.wrap (v0 + 1)) else none else none else X1 v0
noncomputable def jg2 {R : Type} (k : Nat) (X0 : xu → zf → zf → Bool → Option R) (X1 : xu → Option R) (c : zo1) : Nat → xu → Option R
 | 0, _ => none
 | n + 1, v => BleqPieceS_0 k X0 X1 c (jg2 k X0 X1 c n) v
def yj3 {R : Type} (K : Ex → St → Option R) (c0 : zo1) (v0 : xu) (x1 : zf) (x2 : zf) (p3 : Bool) : Option R := K .ret ⟨27, 0, [(0, .c (.l 157 xk c0.1)), (1, .c (.l 157 xk c0.2)), (4, cB false), (5, cI v0), (11, cI v0), (12, .c (.l 157 xk c0.1)), (13, cI (c0.1.length : Int)), (14, cB (decide (v0 < (c0.1.length : Int)))), (17, .c (.l 157 xk c0.1)), (18, cI v0), (19, .c (.at_ (avs xk x1))), (20, .agg (avs xk x1)), (21, .c (.l 157 xk c0.2)), (22, cI v0), (23, .c (.at_ (avs xk x2))), (24, .agg (avs xk x2)), (25, cB p3), (26, cB (!p3))], []⟩
def zg3 {R : Type} (K : Ex → St → Option R) (c0 : zo1) (v0 : xu) : Option R := K (.exit 0) ⟨27, 0, [(0, .c (.l 157 xk c0.1)), (1, .c (.l 157 xk c0.2)), (5, cI v0), (11, cI v0), (12, .c (.l 157 xk c0.1)), (13, cI (c0.1.length : Int)), (14, cB (decide (v0 < (c0.1.length : Int))))], []⟩
theorem lleqPieceS_0 {R : Type} (k : Nat) (K : Ex → St → Option R) (c0 : zo1) : ∀ (n : Nat) (v : xu), z2 [0, 0, 1, 5] (run E (den E k) (lv 127) k (j1 Tryz.f127 0)) n (zp3 c0 v) K = jg2 k (yj3 K c0) (zg3 K c0) c0 n v := j5 (B := BleqPieceS_0 k (yj3 K c0) (zg3 K c0) c0) (fun _ => rfl) (fun n v => by kernel_rfl) (fun _ => rfl) (fun _ _ => rfl)
theorem mleqPieceS_0 (k : Nat) (a0 : List zf) (a1 : List zf) : zk2 (k + 1) a0 a1 = if ((a0.length : Int) != (a1.length : Int)) = true then some false else z2 (R := Bool) [0, 0, 1, 5] (run E (den E k) (lv 127) k (j1 Tryz.f127 0)) k (zp3 (a0, a1) 0) (wc E (den E k) (lv 127) k (ye Tryz.f127) 0 [] (vd E (rs 127) Tryz.f127 : Ex → St → Option (Bool))) := by kernel_rfl
theorem eleqPieceS (k : Nat) (a0 : List zf) (a1 : List zf) : zk2 (k + 1) a0 a1 = if ((a0.length : Int) != (a1.length : Int)) = true then some false else jg2 k (fun (v0 : Int) (x1 : zf) (x2 : zf) (p3 : Bool) => some false) (fun (v0 : Int) => some true) (a0, a1) k 0 := by
 rw [mleqPieceS_0]
 simp only [lleqPieceS_0]
 kernel_rfl
noncomputable def yv2 (k : Nat) (a0 : j2) (a1 : j2) : Option (Bool) := den E k 47 [.agg (avs z7 a0), .agg (avs z7 a1)]
theorem eleqProgram (k : Nat) (a0 : j2) (a1 : j2) : yv2 (k + 1) a0 a1 = if (a0.1 != a1.1) = true then some false else if (a0.2.1 != a1.2.1) = true then some false else if (a0.2.2.1 != a1.2.2.1) = true then some false else (zk2 k a0.2.2.2 a1.2.2.2).bind fun p1 => if (!p1) = true then some false else some true := by kernel_rfl
noncomputable def zv3 (k : Nat) (a0 : List I6) (a1 : List I6) : Option (Bool) := den E k 129 [.agg [.l 115 sI6 a0], .agg [.l 115 sI6 a1]]
theorem eleqQueue (k : Nat) (a0 : List I6) (a1 : List I6) : zv3 (k + 1) a0 a1 = (wm1 k a0 a1).bind fun p1 => if (!p1) = true then some false else some true := by kernel_rfl
noncomputable def zm2 (k : Nat) (a0 : List (List I6)) (a1 : List (List I6)) : Option (Bool) := den E k 51 [.c (.l 113 z51 a0), .c (.l 113 z51 a1)]
abbrev yp1 : Type := (List (List I6)) × (List (List I6))
abbrev vt : Type := Int
def wr3 (c0 : yp1) (v0 : vt) : St := ⟨27, 0, [(0, .c (.l 113 z51 c0.1)), (1, .c (.l 113 z51 c0.2)), (5, cI v0)], []⟩
noncomputable def BleqQueueS_0 {R : Type} (k : Nat) (X0 : vt → (List I6) → (List I6) → Bool → Option R) (X1 : vt → Option R) (c0 : yp1) (rec : vt → Option R) (v0 : vt) : Option R := if (decide (v0 < (c0.1.length : Int))) = true then if 0 ≤ v0 then ix c0.1 v0.toNat fun x1 => if 0 ≤ v0 then ix c0.2 v0.toNat fun x2 => (zv3 k x1 x2).bind fun p3 => if (!p3) = true then X0 v0 x1 x2 p3 else rec (IntKind.i64.wrap (v0 + 1)) else none else none else X1 v0
noncomputable def xh2 {R : Type} (k : Nat) (X0 : vt → (List I6) → (List I6) → Bool → Option R) (X1 : vt → Option R) (c : yp1) : Nat → vt → Option R
 | 0, _ => none
 | n + 1, v => BleqQueueS_0 k X0 X1 c (xh2 k X0 X1 c n) v
def zi3 {R : Type} (K : Ex → St → Option R) (c0 : yp1) (v0 : vt) (x1 : List I6) (x2 : List I6) (p3 : Bool) : Option R := K .ret ⟨27, 0, [(0, .c (.l 113 z51 c0.1)), (1, .c (.l 113 z51 c0.2)), (4, cB false), (5, cI v0), (11, cI v0), (12, .c (.l 113 z51 c0.1)), (13, cI (c0.1.length : Int)), (14, cB (decide (v0 < (c0.1.length : Int)))), (17, .c (.l 113 z51 c0.1)), (18, cI v0), (19, .c (.at_ [.l 115 sI6 x1])), (20, .agg [.l 115 sI6 x1]), (21, .c (.l 113 z51 c0.2)), (22, cI v0), (23, .c (.at_ [.l 115 sI6 x2])), (24, .agg [.l 115 sI6 x2]), (25, cB p3), (26, cB (!p3))], []⟩
def xe3 {R : Type} (K : Ex → St → Option R) (c0 : yp1) (v0 : vt) : Option R := K (.exit 0) ⟨27, 0, [(0, .c (.l 113 z51 c0.1)), (1, .c (.l 113 z51 c0.2)), (5, cI v0), (11, cI v0), (12, .c (.l 113 z51 c0.1)), (13, cI (c0.1.length : Int)), (14, cB (decide (v0 < (c0.1.length : Int))))], []⟩
theorem lleqQueueS_0 {R : Type} (k : Nat) (K : Ex → St → Option R) (c0 : yp1) : ∀ (n : Nat) (v : vt), z2 [0, 0, 1, 5] (run E (den E k) (lv 51) k (j1 Tryz.f51 0)) n (wr3 c0 v) K = xh2 k (zi3 K c0) (xe3 K c0) c0 n v := j5 (B := BleqQueueS_0 k (zi3 K c0) (xe3 K c0) c0) (fun _ => rfl) (fun n v => by kernel_rfl) (fun _ => rfl) (fun _ _ => rfl)
theorem mleqQueueS_0 (k : Nat) (a0 : List (List I6)) (a1 : List (List I6)) : zm2 (k + 1) a0 a1 = if ((a0.length : Int) != (a1.length : Int)) = true then some false else z2 (R := Bool) [0, 0, 1, 5] (run E (den E k) (lv 51) k (j1 Tryz.f51 0)) k (wr3 (a0, a1) 0) (wc E (den E k) (lv 51) k (ye Tryz.f51) 0 [] (vd E (rs 51) Tryz.f51 : Ex → St → Option (Bool))) := by kernel_rfl
theorem eleqQueueS (k : Nat) (a0 : List (List I6)) (a1 : List (List I6)) : zm2 (k + 1) a0 a1 = if ((a0.length : Int) != (a1.length : Int)) = true then some false else xh2 k (fun (v0 : Int) (x1 : List I6) (x2 : List I6) (p3 : Bool) => some false) (fun (v0 : Int) => some true) (a0, a1) k 0 := by
 rw [mleqQueueS_0]
 simp only [lleqQueueS_0]
 kernel_rfl
noncomputable def FleqSent (k : Nat) (a0 : I4) (a1 : I4) : Option (Bool) := den E k 134 [.agg (avs sI4 a0), .agg (avs sI4 a1)]
theorem eleqSent (k : Nat) (a0 : I4) (a1 : I4) : FleqSent (k + 1) a0 a1 = if (a0.1 != a1.1) = true then some false else if (a0.2.1 != a1.2.1) = true then some false else if (a0.2.2.1 != a1.2.2.1) = true then some false else if (a0.2.2.2 != a1.2.2.2) = true then some false else some true := by kernel_rfl
noncomputable def w63 (k : Nat) (a0 : List I4) (a1 : List I4) : Option (Bool) := den E k 56 [.c (.l 69 sI4 a0), .c (.l 69 sI4 a1)]
abbrev zz1 : Type := (List I4) × (List I4)
abbrev j11 : Type := Int
def StleqSentS_0 (c0 : zz1) (v0 : j11) : St := ⟨27, 0, [(0, .c (.l 69 sI4 c0.1)), (1, .c (.l 69 sI4 c0.2)), (5, cI v0)], []⟩
noncomputable def BleqSentS_0 {R : Type} (k : Nat) (X0 : j11 → I4 → I4 → Bool → Option R) (X1 : j11 → Option R) (c0 : zz1) (rec : j11 → Option R) (v0 : j11) : Option R := if (decide (v0 < (c0.1.length : Int))) = true then if 0 ≤ v0 then ix c0.1 v0.toNat fun x1 => if 0 ≤ v0 then ix c0.2 v0.toNat fun x2 => (FleqSent k x1 x2).bind fun p3 => if (!p3) = true then X0 v0 x1 x2 p3 else rec (IntKind.i64.wrap (v0 + 1)) else none else none else X1 v0
noncomputable def ys2 {R : Type} (k : Nat) (X0 : j11 → I4 → I4 → Bool → Option R) (X1 : j11 → Option R) (c : zz1) : Nat → j11 → Option R
 | 0, _ => none
 | n + 1, v => BleqSentS_0 k X0 X1 c (ys2 k X0 X1 c n) v
def ju3 {R : Type} (K : Ex → St → Option R) (c0 : zz1) (v0 : j11) (x1 : I4) (x2 : I4) (p3 : Bool) : Option R := K .ret ⟨27, 0, [(0, .c (.l 69 sI4 c0.1)), (1, .c (.l 69 sI4 c0.2)), (4, cB false), (5, cI v0), (11, cI v0), (12, .c (.l 69 sI4 c0.1)), (13, cI (c0.1.length : Int)), (14, cB (decide (v0 < (c0.1.length : Int)))), (17, .c (.l 69 sI4 c0.1)), (18, cI v0), (19, .c (.at_ (avs sI4 x1))), (20, .agg (avs sI4 x1)), (21, .c (.l 69 sI4 c0.2)), (22, cI v0), (23, .c (.at_ (avs sI4 x2))), (24, .agg (avs sI4 x2)), (25, cB p3), (26, cB (!p3))], []⟩
def xx3 {R : Type} (K : Ex → St → Option R) (c0 : zz1) (v0 : j11) : Option R := K (.exit 0) ⟨27, 0, [(0, .c (.l 69 sI4 c0.1)), (1, .c (.l 69 sI4 c0.2)), (5, cI v0), (11, cI v0), (12, .c (.l 69 sI4 c0.1)), (13, cI (c0.1.length : Int)), (14, cB (decide (v0 < (c0.1.length : Int))))], []⟩
theorem lleqSentS_0 {R : Type} (k : Nat) (K : Ex → St → Option R) (c0 : zz1) : ∀ (n : Nat) (v : j11), z2 [0, 0, 1, 5] (run E (den E k) (lv 56) k (j1 Tryz.f56 0)) n (StleqSentS_0 c0 v) K = ys2 k (ju3 K c0) (xx3 K c0) c0 n v := j5 (B := BleqSentS_0 k (ju3 K c0) (xx3 K c0) c0) (fun _ => rfl) (fun n v => by kernel_rfl) (fun _ => rfl) (fun _ _ => rfl)
theorem mleqSentS_0 (k : Nat) (a0 : List I4) (a1 : List I4) : w63 (k + 1) a0 a1 = if ((a0.length : Int) != (a1.length : Int)) = true then some false else z2 (R := Bool) [0, 0, 1, 5] (run E (den E k) (lv 56) k (j1 Tryz.f56 0)) k (StleqSentS_0 (a0, a1) 0) (wc E (den E k) (lv 56) k (ye Tryz.f56) 0 [] (vd E (rs 56) Tryz.f56 : Ex → St → Option (Bool))) := by kernel_rfl
theorem eleqSentS (k : Nat) (a0 : List I4) (a1 : List I4) : w63 (k + 1) a0 a1 = if ((a0.length : Int) != (a1.length : Int)) = true then some false else ys2 k (fun (v0 : Int) (x1 : I4) (x2 : I4) (p3 : Bool) => some false) (fun (v0 : Int) => some true) (a0, a1) k 0 := by
 rw [mleqSentS_0]
 simp only [lleqSentS_0]
 kernel_rfl
noncomputable def FleqSat (k : Nat) (a0 : I4) (a1 : I4) : Option (Bool) := den E k 194 [.agg (avs sI4 a0), .agg (avs sI4 a1)]
theorem eleqSat (k : Nat) (a0 : I4) (a1 : I4) : FleqSat (k + 1) a0 a1 = if (a0.1 != a1.1) = true then some false else if (a0.2.1 != a1.2.1) = true then some false else if (a0.2.2.1 != a1.2.2.1) = true then some false else if (a0.2.2.2 != a1.2.2.2) = true then some false else some true := by kernel_rfl
noncomputable def ws3 (k : Nat) (a0 : List I4) (a1 : List I4) : Option (Bool) := den E k 124 [.c (.l 224 sI4 a0), .c (.l 224 sI4 a1)]
abbrev x92 : Type := (List I4) × (List I4)
abbrev ya1 : Type := Int
def StleqSatS_0 (c0 : x92) (v0 : ya1) : St := ⟨27, 0, [(0, .c (.l 224 sI4 c0.1)), (1, .c (.l 224 sI4 c0.2)), (5, cI v0)], []⟩
noncomputable def BleqSatS_0 {R : Type} (k : Nat) (X0 : ya1 → I4 → I4 → Bool → Option R) (X1 : ya1 → Option R) (c0 : x92) (rec : ya1 → Option R) (v0 : ya1) : Option R := if (decide (v0 < (c0.1.length : Int))) = true then if 0 ≤ v0 then ix c0.1 v0.toNat fun x1 => if 0 ≤ v0 then ix c0.2 v0.toNat fun x2 => (FleqSat k x1 x2).bind fun p3 => if (!p3) = true then X0 v0 x1 x2 p3 else rec (IntKind.i64.wrap (v0 + 1)) else none else none else X1 v0
noncomputable def z83 {R : Type} (k : Nat) (X0 : ya1 → I4 → I4 → Bool → Option R) (X1 : ya1 → Option R) (c : x92) : Nat → ya1 → Option R
 | 0, _ => none
 | n + 1, v => BleqSatS_0 k X0 X1 c (z83 k X0 X1 c n) v
def YleqSatS_0_0 {R : Type} (K : Ex → St → Option R) (c0 : x92) (v0 : ya1) (x1 : I4) (x2 : I4) (p3 : Bool) : Option R := K .ret ⟨27, 0, [(0, .c (.l 224 sI4 c0.1)), (1, .c (.l 224 sI4 c0.2)), (4, cB false), (5, cI v0), (11, cI v0), (12, .c (.l 224 sI4 c0.1)), (13, cI (c0.1.length : Int)), (14, cB (decide (v0 < (c0.1.length : Int)))), (17, .c (.l 224 sI4 c0.1)), (18, cI v0), (19, .c (.at_ (avs sI4 x1))), (20, .agg (avs sI4 x1)), (21, .c (.l 224 sI4 c0.2)), (22, cI v0), (23, .c (.at_ (avs sI4 x2))), (24, .agg (avs sI4 x2)), (25, cB p3), (26, cB (!p3))], []⟩
def YleqSatS_0_1 {R : Type} (K : Ex → St → Option R) (c0 : x92) (v0 : ya1) : Option R := K (.exit 0) ⟨27, 0, [(0, .c (.l 224 sI4 c0.1)), (1, .c (.l 224 sI4 c0.2)), (5, cI v0), (11, cI v0), (12, .c (.l 224 sI4 c0.1)), (13, cI (c0.1.length : Int)), (14, cB (decide (v0 < (c0.1.length : Int))))], []⟩
theorem lleqSatS_0 {R : Type} (k : Nat) (K : Ex → St → Option R) (c0 : x92) : ∀ (n : Nat) (v : ya1), z2 [0, 0, 1, 5] (run E (den E k) (lv 124) k (j1 Tryz.f124 0)) n (StleqSatS_0 c0 v) K = z83 k (YleqSatS_0_0 K c0) (YleqSatS_0_1 K c0) c0 n v := j5 (B := BleqSatS_0 k (YleqSatS_0_0 K c0) (YleqSatS_0_1 K c0) c0) (fun _ => rfl) (fun n v => by kernel_rfl) (fun _ => rfl) (fun _ _ => rfl)
theorem mleqSatS_0 (k : Nat) (a0 : List I4) (a1 : List I4) : ws3 (k + 1) a0 a1 = if ((a0.length : Int) != (a1.length : Int)) = true then some false else z2 (R := Bool) [0, 0, 1, 5] (run E (den E k) (lv 124) k (j1 Tryz.f124 0)) k (StleqSatS_0 (a0, a1) 0) (wc E (den E k) (lv 124) k (ye Tryz.f124) 0 [] (vd E (rs 124) Tryz.f124 : Ex → St → Option (Bool))) := by kernel_rfl
theorem eleqSatS (k : Nat) (a0 : List I4) (a1 : List I4) : ws3 (k + 1) a0 a1 = if ((a0.length : Int) != (a1.length : Int)) = true then some false else z83 k (fun (v0 : Int) (x1 : I4) (x2 : I4) (p3 : Bool) => some false) (fun (v0 : Int) => some true) (a0, a1) k 0 := by
 rw [mleqSatS_0]
 simp only [lleqSatS_0]
 kernel_rfl
noncomputable def FleqSite (k : Nat) (a0 : I3) (a1 : I3) : Option (Bool) := den E k 195 [.agg (avs sI3 a0), .agg (avs sI3 a1)]
theorem eleqSite (k : Nat) (a0 : I3) (a1 : I3) : FleqSite (k + 1) a0 a1 = if (a0.1 != a1.1) = true then some false else if (a0.2.1 != a1.2.1) = true then some false else if (a0.2.2 != a1.2.2) = true then some false else some true := by kernel_rfl
noncomputable def vy2 (k : Nat) (a0 : List I3) (a1 : List I3) : Option (Bool) := den E k 125 [.c (.l 228 sI3 a0), .c (.l 228 sI3 a1)]
abbrev xx1 : Type := (List I3) × (List I3)
abbrev y11 : Type := Int
def StleqSiteS_0 (c0 : xx1) (v0 : y11) : St := ⟨27, 0, [(0, .c (.l 228 sI3 c0.1)), (1, .c (.l 228 sI3 c0.2)), (5, cI v0)], []⟩
noncomputable def BleqSiteS_0 {R : Type} (k : Nat) (X0 : y11 → I3 → I3 → Bool → Option R) (X1 : y11 → Option R) (c0 : xx1) (rec : y11 → Option R) (v0 : y11) : Option R := if (decide (v0 < (c0.1.length : Int))) = true then if 0 ≤ v0 then ix c0.1 v0.toNat fun x1 => if 0 ≤ v0 then ix c0.2 v0.toNat fun x2 => (FleqSite k x1 x2).bind fun p3 => if (!p3) = true then X0 v0 x1 x2 p3 else rec (IntKind.i64.wrap (v0 + 1)) else none else none else X1 v0
noncomputable def zw2 {R : Type} (k : Nat) (X0 : y11 → I3 → I3 → Bool → Option R) (X1 : y11 → Option R) (c : xx1) : Nat → y11 → Option R
 | 0, _ => none
 | n + 1, v => BleqSiteS_0 k X0 X1 c (zw2 k X0 X1 c n) v
def z04 {R : Type} (K : Ex → St → Option R) (c0 : xx1) (v0 : y11) (x1 : I3) (x2 : I3) (p3 : Bool) : Option R := K .ret ⟨27, 0, [(0, .c (.l 228 sI3 c0.1)), (1, .c (.l 228 sI3 c0.2)), (4, cB false), (5, cI v0), (11, cI v0), (12, .c (.l 228 sI3 c0.1)), (13, cI (c0.1.length : Int)), (14, cB (decide (v0 < (c0.1.length : Int)))), (17, .c (.l 228 sI3 c0.1)), (18, cI v0), (19, .c (.at_ (avs sI3 x1))), (20, .agg (avs sI3 x1)), (21, .c (.l 228 sI3 c0.2)), (22, cI v0), (23, .c (.at_ (avs sI3 x2))), (24, .agg (avs sI3 x2)), (25, cB p3), (26, cB (!p3))], []⟩
def xp3 {R : Type} (K : Ex → St → Option R) (c0 : xx1) (v0 : y11) : Option R := K (.exit 0) ⟨27, 0, [(0, .c (.l 228 sI3 c0.1)), (1, .c (.l 228 sI3 c0.2)), (5, cI v0), (11, cI v0), (12, .c (.l 228 sI3 c0.1)), (13, cI (c0.1.length : Int)), (14, cB (decide (v0 < (c0.1.length : Int))))], []⟩
theorem lleqSiteS_0 {R : Type} (k : Nat) (K : Ex → St → Option R) (c0 : xx1) : ∀ (n : Nat) (v : y11), z2 [0, 0, 1, 5] (run E (den E k) (lv 125) k (j1 Tryz.f125 0)) n (StleqSiteS_0 c0 v) K = zw2 k (z04 K c0) (xp3 K c0) c0 n v := j5 (B := BleqSiteS_0 k (z04 K c0) (xp3 K c0) c0) (fun _ => rfl) (fun n v => by kernel_rfl) (fun _ => rfl) (fun _ _ => rfl)
theorem mleqSiteS_0 (k : Nat) (a0 : List I3) (a1 : List I3) : vy2 (k + 1) a0 a1 = if ((a0.length : Int) != (a1.length : Int)) = true then some false else z2 (R := Bool) [0, 0, 1, 5] (run E (den E k) (lv 125) k (j1 Tryz.f125 0)) k (StleqSiteS_0 (a0, a1) 0) (wc E (den E k) (lv 125) k (ye Tryz.f125) 0 [] (vd E (rs 125) Tryz.f125 : Ex → St → Option (Bool))) := by kernel_rfl
theorem eleqSiteS (k : Nat) (a0 : List I3) (a1 : List I3) : vy2 (k + 1) a0 a1 = if ((a0.length : Int) != (a1.length : Int)) = true then some false else zw2 k (fun (v0 : Int) (x1 : I3) (x2 : I3) (p3 : Bool) => some false) (fun (v0 : Int) => some true) (a0, a1) k 0 := by
 rw [mleqSiteS_0]
 simp only [lleqSiteS_0]
 kernel_rfl
noncomputable def FleqArc (k : Nat) (a0 : I2) (a1 : I2) : Option (Bool) := den E k 229 [.agg [vI a0.1, vI a0.2], .agg [vI a1.1, vI a1.2]]
theorem eleqArc (k : Nat) (a0 : I2) (a1 : I2) : FleqArc (k + 1) a0 a1 = if (a0.1 != a1.1) = true then some false else if (a0.2 != a1.2) = true then some false else some true := by kernel_rfl
noncomputable def FleqZone (k : Nat) (a0 : I3) (a1 : I3) : Option (Bool) := den E k 196 [.agg (avs sI3 a0), .agg (avs sI3 a1)]
theorem eleqZone (k : Nat) (a0 : I3) (a1 : I3) : FleqZone (k + 1) a0 a1 = if (a0.1 != a1.1) = true then some false else (FleqArc k a0.2 a1.2).bind fun p1 => if (!p1) = true then some false else some true := by kernel_rfl
noncomputable def jy2 (k : Nat) (a0 : List I3) (a1 : List I3) : Option (Bool) := den E k 126 [.c (.l 234 sZone a0), .c (.l 234 sZone a1)]
abbrev jy1 : Type := (List I3) × (List I3)
abbrev jz : Type := Int
def StleqZoneS_0 (c0 : jy1) (v0 : jz) : St := ⟨27, 0, [(0, .c (.l 234 sZone c0.1)), (1, .c (.l 234 sZone c0.2)), (5, cI v0)], []⟩
noncomputable def BleqZoneS_0 {R : Type} (k : Nat) (X0 : jz → I3 → I3 → Bool → Option R) (X1 : jz → Option R) (c0 : jy1) (rec : jz → Option R) (v0 : jz) : Option R := if (decide (v0 < (c0.1.length : Int))) = true then if 0 ≤ v0 then ix c0.1 v0.toNat fun x1 => if 0 ≤ v0 then ix c0.2 v0.toNat fun x2 => (FleqZone k x1 x2).bind fun p3 => if (!p3) = true then X0 v0 x1 x2 p3 else rec (IntKind.i64.wrap (v0 + 1)) else none else none else X1 v0
noncomputable def wr2 {R : Type} (k : Nat) (X0 : jz → I3 → I3 → Bool → Option R) (X1 : jz → Option R) (c : jy1) : Nat → jz → Option R
 | 0, _ => none
 | n + 1, v => BleqZoneS_0 k X0 X1 c (wr2 k X0 X1 c n) v
def j24 {R : Type} (K : Ex → St → Option R) (c0 : jy1) (v0 : jz) (x1 : I3) (x2 : I3) (p3 : Bool) : Option R := K .ret ⟨27, 0, [(0, .c (.l 234 sZone c0.1)), (1, .c (.l 234 sZone c0.2)), (4, cB false), (5, cI v0), (11, cI v0), (12, .c (.l 234 sZone c0.1)), (13, cI (c0.1.length : Int)), (14, cB (decide (v0 < (c0.1.length : Int)))), (17, .c (.l 234 sZone c0.1)), (18, cI v0), (19, .c (.at_ (avs sI3 x1))), (20, .agg (avs sI3 x1)), (21, .c (.l 234 sZone c0.2)), (22, cI v0), (23, .c (.at_ (avs sI3 x2))), (24, .agg (avs sI3 x2)), (25, cB p3), (26, cB (!p3))], []⟩
def j34 {R : Type} (K : Ex → St → Option R) (c0 : jy1) (v0 : jz) : Option R := K (.exit 0) ⟨27, 0, [(0, .c (.l 234 sZone c0.1)), (1, .c (.l 234 sZone c0.2)), (5, cI v0), (11, cI v0), (12, .c (.l 234 sZone c0.1)), (13, cI (c0.1.length : Int)), (14, cB (decide (v0 < (c0.1.length : Int))))], []⟩
theorem lleqZoneS_0 {R : Type} (k : Nat) (K : Ex → St → Option R) (c0 : jy1) : ∀ (n : Nat) (v : jz), z2 [0, 0, 1, 5] (run E (den E k) (lv 126) k (j1 Tryz.f126 0)) n (StleqZoneS_0 c0 v) K = wr2 k (j24 K c0) (j34 K c0) c0 n v := j5 (B := BleqZoneS_0 k (j24 K c0) (j34 K c0) c0) (fun _ => rfl) (fun n v => by kernel_rfl) (fun _ => rfl) (fun _ _ => rfl)
theorem mleqZoneS_0 (k : Nat) (a0 : List I3) (a1 : List I3) : jy2 (k + 1) a0 a1 = if ((a0.length : Int) != (a1.length : Int)) = true then some false else z2 (R := Bool) [0, 0, 1, 5] (run E (den E k) (lv 126) k (j1 Tryz.f126 0)) k (StleqZoneS_0 (a0, a1) 0) (wc E (den E k) (lv 126) k (ye Tryz.f126) 0 [] (vd E (rs 126) Tryz.f126 : Ex → St → Option (Bool))) := by kernel_rfl
theorem eleqZoneS (k : Nat) (a0 : List I3) (a1 : List I3) : jy2 (k + 1) a0 a1 = if ((a0.length : Int) != (a1.length : Int)) = true then some false else wr2 k (fun (v0 : Int) (x1 : I3) (x2 : I3) (p3 : Bool) => some false) (fun (v0 : Int) => some true) (a0, a1) k 0 := by
 rw [mleqZoneS_0]
 simp only [lleqZoneS_0]
 kernel_rfl
noncomputable def FleqSky (k : Nat) (a0 : TSky) (a1 : TSky) : Option (Bool) := den E k 46 [.agg (avs sSky a0), .agg (avs sSky a1)]
theorem eleqSky (k : Nat) (a0 : TSky) (a1 : TSky) : FleqSky (k + 1) a0 a1 = if (a0.1 != a1.1) = true then some false else (ws3 k a0.2.1 a1.2.1).bind fun p1 => if (!p1) = true then some false else (vy2 k a0.2.2.1 a1.2.2.1).bind fun p2 => if (!p2) = true then some false else if (a0.2.2.2.1 != a1.2.2.2.1) = true then some false else if (a0.2.2.2.2.1 != a1.2.2.2.2.1) = true then some false else if (a0.2.2.2.2.2.1 != a1.2.2.2.2.2.1) = true then some false else if (a0.2.2.2.2.2.2.1 != a1.2.2.2.2.2.2.1) = true then some false else if (a0.2.2.2.2.2.2.2.1 != a1.2.2.2.2.2.2.2.1) = true then some false else (jy2 k a0.2.2.2.2.2.2.2.2.1 a1.2.2.2.2.2.2.2.2.1).bind fun p3 => if (!p3) = true then some false else if (a0.2.2.2.2.2.2.2.2.2 != a1.2.2.2.2.2.2.2.2.2) = true then some false else some true := by kernel_rfl
noncomputable def v83 (k : Nat) (a0 : Int × Int × List Int) (a1 : Int × Int × List Int) : Option (Bool) := den E k 131 [.agg (avs z8 a0), .agg (avs z8 a1)]
theorem eleqStream (k : Nat) (a0 : Int × Int × List Int) (a1 : Int × Int × List Int) : v83 (k + 1) a0 a1 = if (a0.1 != a1.1) = true then some false else if (a0.2.1 != a1.2.1) = true then some false else (vc1 k a0.2.2 a1.2.2).bind fun p1 => if (!p1) = true then some false else some true := by kernel_rfl
noncomputable def zd2 (k : Nat) (a0 : List (Int × Int × List Int)) (a1 : List (Int × Int × List Int)) : Option (Bool) := den E k 53 [.c (.l 120 z8 a0), .c (.l 120 z8 a1)]
abbrev wi1 : Type := (List (Int × Int × List Int)) × (List (Int × Int × List Int))
abbrev wo : Type := Int
def ji3 (c0 : wi1) (v0 : wo) : St := ⟨27, 0, [(0, .c (.l 120 z8 c0.1)), (1, .c (.l 120 z8 c0.2)), (5, cI v0)], []⟩
noncomputable def zx3 {R : Type} (k : Nat) (X0 : wo → (Int × Int × List Int) → (Int × Int × List Int) → Bool → Option R) (X1 : wo → Option R) (c0 : wi1) (rec : wo → Option R) (v0 : wo) : Option R := if (decide (v0 < (c0.1.length : Int))) = true then if 0 ≤ v0 then ix c0.1 v0.toNat fun x1 => if 0 ≤ v0 then ix c0.2 v0.toNat fun x2 => (v83 k x1 x2).bind fun p3 => if (!p3) = true then X0 v0 x1 x2 p3 else rec (IntKind.i64.wrap (v0 + 1)) else none else none else X1 v0
noncomputable def j72 {R : Type} (k : Nat) (X0 : wo → (Int × Int × List Int) → (Int × Int × List Int) → Bool → Option R) (X1 : wo → Option R) (c : wi1) : Nat → wo → Option R
 | 0, _ => none
 | n + 1, v => zx3 k X0 X1 c (j72 k X0 X1 c n) v
def x03 {R : Type} (K : Ex → St → Option R) (c0 : wi1) (v0 : wo) (x1 : Int × Int × List Int) (x2 : Int × Int × List Int) (p3 : Bool) : Option R := K .ret ⟨27, 0, [(0, .c (.l 120 z8 c0.1)), (1, .c (.l 120 z8 c0.2)), (4, cB false), (5, cI v0), (11, cI v0), (12, .c (.l 120 z8 c0.1)), (13, cI (c0.1.length : Int)), (14, cB (decide (v0 < (c0.1.length : Int)))), (17, .c (.l 120 z8 c0.1)), (18, cI v0), (19, .c (.at_ (avs z8 x1))), (20, .agg (avs z8 x1)), (21, .c (.l 120 z8 c0.2)), (22, cI v0), (23, .c (.at_ (avs z8 x2))), (24, .agg (avs z8 x2)), (25, cB p3), (26, cB (!p3))], []⟩
def yy2 {R : Type} (K : Ex → St → Option R) (c0 : wi1) (v0 : wo) : Option R := K (.exit 0) ⟨27, 0, [(0, .c (.l 120 z8 c0.1)), (1, .c (.l 120 z8 c0.2)), (5, cI v0), (11, cI v0), (12, .c (.l 120 z8 c0.1)), (13, cI (c0.1.length : Int)), (14, cB (decide (v0 < (c0.1.length : Int))))], []⟩
theorem lleqStreamS_0 {R : Type} (k : Nat) (K : Ex → St → Option R) (c0 : wi1) : ∀ (n : Nat) (v : wo), z2 [0, 0, 1, 5] (run E (den E k) (lv 53) k (j1 Tryz.f53 0)) n (ji3 c0 v) K = j72 k (x03 K c0) (yy2 K c0) c0 n v := j5 (B := zx3 k (x03 K c0) (yy2 K c0) c0) (fun _ => rfl) (fun n v => by kernel_rfl) (fun _ => rfl) (fun _ _ => rfl)
theorem mleqStreamS_0 (k : Nat) (a0 : List (Int × Int × List Int)) (a1 : List (Int × Int × List Int)) : zd2 (k + 1) a0 a1 = if ((a0.length : Int) != (a1.length : Int)) = true then some false else z2 (R := Bool) [0, 0, 1, 5] (run E (den E k) (lv 53) k (j1 Tryz.f53 0)) k (ji3 (a0, a1) 0) (wc E (den E k) (lv 53) k (ye Tryz.f53) 0 [] (vd E (rs 53) Tryz.f53 : Ex → St → Option (Bool))) := by kernel_rfl
theorem eleqStreamS (k : Nat) (a0 : List (Int × Int × List Int)) (a1 : List (Int × Int × List Int)) : zd2 (k + 1) a0 a1 = if ((a0.length : Int) != (a1.length : Int)) = true then some false else j72 k (fun (v0 : Int) (x1 : Int × Int × List Int) (x2 : Int × Int × List Int) (p3 : Bool) => some false) (fun (v0 : Int) => some true) (a0, a1) k 0 := by
 rw [mleqStreamS_0]
 simp only [lleqStreamS_0]
 kernel_rfl
noncomputable def FleqWorld (k : Nat) (a0 : zn1) (a1 : zn1) : Option (Bool) := den E k 9 [.agg (avs zl2 a0), .agg (avs zl2 a1)]
theorem eleqWorld (k : Nat) (a0 : zn1) (a1 : zn1) : FleqWorld (k + 1) a0 a1 = (FleqSky k a0.1 a1.1).bind fun p1 => if (!p1) = true then some false else (yv2 k a0.2.1 a1.2.1).bind fun p2 => if (!p2) = true then some false else (FleqLaw k a0.2.2.1 a1.2.2.1).bind fun p3 => if (!p3) = true then some false else (vc1 k a0.2.2.2.1 a1.2.2.2.1).bind fun p4 => if (!p4) = true then some false else (j02 k a0.2.2.2.2.1 a1.2.2.2.2.1).bind fun p5 => if (!p5) = true then some false else (zm2 k a0.2.2.2.2.2.1 a1.2.2.2.2.2.1).bind fun p6 => if (!p6) = true then some false else (y23 k a0.2.2.2.2.2.2.1 a1.2.2.2.2.2.2.1).bind fun p7 => if (!p7) = true then some false else (vc1 k a0.2.2.2.2.2.2.2.1 a1.2.2.2.2.2.2.2.1).bind fun p8 => if (!p8) = true then some false else (zd2 k a0.2.2.2.2.2.2.2.2.1 a1.2.2.2.2.2.2.2.2.1).bind fun p9 => if (!p9) = true then some false else (zo2 k a0.2.2.2.2.2.2.2.2.2.1 a1.2.2.2.2.2.2.2.2.2.1).bind fun p10 => if (!p10) = true then some false else if (a0.2.2.2.2.2.2.2.2.2.2.1 != a1.2.2.2.2.2.2.2.2.2.2.1) = true then some false else if (a0.2.2.2.2.2.2.2.2.2.2.2.1 != a1.2.2.2.2.2.2.2.2.2.2.2.1) = true then some false else (wm1 k a0.2.2.2.2.2.2.2.2.2.2.2.2.1 a1.2.2.2.2.2.2.2.2.2.2.2.2.1).bind fun p11 => if (!p11) = true then some false else (w63 k a0.2.2.2.2.2.2.2.2.2.2.2.2.2 a1.2.2.2.2.2.2.2.2.2.2.2.2.2).bind fun p12 => if (!p12) = true then some false else some true := by kernel_rfl
noncomputable def w03 (k : Nat) (a0 : List I6) (a1 : Int) : Option (Int) := den E k 19 [.c (.l 166 sI6 a0), cI a1]
theorem elszBatteryS (k : Nat) (a0 : List I6) (a1 : Int) : w03 (k + 1) a0 a1 = if (decide ((IntKind.i64.wrap (a1 - (a0.length : Int))) < 0)) = true then some (-1) else some (IntKind.i64.wrap (a1 - (a0.length : Int))) := by kernel_rfl
noncomputable def FlszFaultS (k : Nat) (a0 : List I4) (a1 : Int) : Option (Int) := den E k 23 [.c (.l 176 sI4 a0), cI a1]
theorem elszFaultS (k : Nat) (a0 : List I4) (a1 : Int) : FlszFaultS (k + 1) a0 a1 = if (decide ((IntKind.i64.wrap (a1 - (a0.length : Int))) < 0)) = true then some (-1) else some (IntKind.i64.wrap (a1 - (a0.length : Int))) := by kernel_rfl
noncomputable def FlszFlowS (k : Nat) (a0 : List I4) (a1 : Int) : Option (Int) := den E k 21 [.c (.l 171 sI4 a0), cI a1]
theorem elszFlowS (k : Nat) (a0 : List I4) (a1 : Int) : FlszFlowS (k + 1) a0 a1 = if (decide ((IntKind.i64.wrap (a1 - (a0.length : Int))) < 0)) = true then some (-1) else some (IntKind.i64.wrap (a1 - (a0.length : Int))) := by kernel_rfl
noncomputable def zi2 (k : Nat) (a0 : List Int) (a1 : Int) : Option (Int) := den E k 18 [.c (.l 3 (.i .i64) a0), cI a1]
theorem elszIntS (k : Nat) (a0 : List Int) (a1 : Int) : zi2 (k + 1) a0 a1 = if (decide ((IntKind.i64.wrap (a1 - (a0.length : Int))) < 0)) = true then some (-1) else some (IntKind.i64.wrap (a1 - (a0.length : Int))) := by kernel_rfl
noncomputable def FlszLaw (k : Nat) (a0 : List Int) (a1 : Int) : Option (Int) := den E k 17 [.agg [.l 3 (.i .i64) a0], cI a1]
theorem elszLaw (k : Nat) (a0 : List Int) (a1 : Int) : FlszLaw (k + 1) a0 a1 = (zi2 k a0 a1).bind fun p1 => if (decide (p1 < 0)) = true then some (-1) else some p1 := by kernel_rfl
noncomputable def xs2 (k : Nat) (a0 : List I6) (a1 : Int) : Option (Int) := den E k 24 [.c (.l 178 sI6 a0), cI a1]
theorem elszPacketS (k : Nat) (a0 : List I6) (a1 : Int) : xs2 (k + 1) a0 a1 = if (decide ((IntKind.i64.wrap (a1 - (a0.length : Int))) < 0)) = true then some (-1) else some (IntKind.i64.wrap (a1 - (a0.length : Int))) := by kernel_rfl
noncomputable def FlszLinkS (k : Nat) (a0 : List I2) (a1 : Int) : Option (Int) := den E k 210 [.c (.l 284 sI2 a0), cI a1]
theorem elszLinkS (k : Nat) (a0 : List I2) (a1 : Int) : FlszLinkS (k + 1) a0 a1 = if (decide ((IntKind.i64.wrap (a1 - (a0.length : Int))) < 0)) = true then some (-1) else some (IntKind.i64.wrap (a1 - (a0.length : Int))) := by kernel_rfl
noncomputable def jr3 (k : Nat) (a0 : Int × (List Int) × List Int) (a1 : Int) : Option (Int) := den E k 235 [.agg (avs j8 a0), cI a1]
theorem elszTable (k : Nat) (a0 : Int × (List Int) × List Int) (a1 : Int) : jr3 (k + 1) a0 a1 = (zi2 k a0.2.1 a1).bind fun p1 => if (decide (p1 < 0)) = true then some (-1) else (zi2 k a0.2.2 p1).bind fun p2 => if (decide (p2 < 0)) = true then some (-1) else some p2 := by kernel_rfl
noncomputable def z93 (k : Nat) (a0 : List (Int × (List Int) × List Int)) (a1 : Int) : Option (Int) := den E k 211 [.c (.l 280 j8 a0), cI a1]
abbrev wo1 : Type := (List (Int × (List Int) × List Int))
abbrev xt : Type := Int × Int
def js3 (c0 : wo1) (v0 : xt) : St := ⟨27, 0, [(0, .c (.l 280 j8 c0)), (1, cI v0.1), (5, cI v0.2)], []⟩
noncomputable def BlszTableS_0 {R : Type} (k : Nat) (X0 : xt → (Int × (List Int) × List Int) → Int → Option R) (X1 : xt → Option R) (c0 : wo1) (rec : xt → Option R) (v0 : xt) : Option R := if (decide (v0.2 < (c0.length : Int))) = true then if 0 ≤ v0.2 then ix c0 v0.2.toNat fun x1 => (jr3 k x1 v0.1).bind fun p2 => if (decide (p2 < 0)) = true then X0 v0 x1 p2 else rec (p2, (IntKind.i64.wrap (v0.2 + 1))) else none else X1 v0
noncomputable def vg2 {R : Type} (k : Nat) (X0 : xt → (Int × (List Int) × List Int) → Int → Option R) (X1 : xt → Option R) (c : wo1) : Nat → xt → Option R
 | 0, _ => none
 | n + 1, v => BlszTableS_0 k X0 X1 c (vg2 k X0 X1 c n) v
def yh3 {R : Type} (K : Ex → St → Option R) (c0 : wo1) (v0 : xt) (x1 : Int × (List Int) × List Int) (p2 : Int) : Option R := K .ret ⟨27, 0, [(0, .c (.l 280 j8 c0)), (1, cI p2), (4, cI (-1)), (5, cI v0.2), (12, cI v0.2), (13, .c (.l 280 j8 c0)), (14, cI (c0.length : Int)), (15, cB (decide (v0.2 < (c0.length : Int)))), (18, .c (.l 280 j8 c0)), (19, cI v0.2), (20, .c (.at_ (avs j8 x1))), (21, .agg (avs j8 x1)), (22, cI v0.1), (23, cI p2), (24, cI p2), (25, cB (decide (p2 < 0)))], []⟩
def wg3 {R : Type} (K : Ex → St → Option R) (c0 : wo1) (v0 : xt) : Option R := K (.exit 0) ⟨27, 0, [(0, .c (.l 280 j8 c0)), (1, cI v0.1), (5, cI v0.2), (12, cI v0.2), (13, .c (.l 280 j8 c0)), (14, cI (c0.length : Int)), (15, cB (decide (v0.2 < (c0.length : Int))))], []⟩
theorem llszTableS_0 {R : Type} (k : Nat) (K : Ex → St → Option R) (c0 : wo1) : ∀ (n : Nat) (v : xt), z2 [0, 0, 1, 5] (run E (den E k) (lv 211) k (j1 Tryz.f211 0)) n (js3 c0 v) K = vg2 k (yh3 K c0) (wg3 K c0) c0 n v := j5 (B := BlszTableS_0 k (yh3 K c0) (wg3 K c0) c0) (fun _ => rfl) (fun n v => by kernel_rfl) (fun _ => rfl) (fun _ _ => rfl)
theorem mlszTableS_0 (k : Nat) (a0 : List (Int × (List Int) × List Int)) (a1 : Int) : z93 (k + 1) a0 a1 = if (decide ((IntKind.i64.wrap (a1 - (a0.length : Int))) < 0)) = true then some (-1) else z2 (R := Int) [0, 0, 1, 5] (run E (den E k) (lv 211) k (j1 Tryz.f211 0)) k (js3 a0 ((IntKind.i64.wrap (a1 - (a0.length : Int))), 0)) (wc E (den E k) (lv 211) k (ye Tryz.f211) 0 [] (vd E (rs 211) Tryz.f211 : Ex → St → Option (Int))) := by kernel_rfl
theorem elszTableS (k : Nat) (a0 : List (Int × (List Int) × List Int)) (a1 : Int) : z93 (k + 1) a0 a1 = if (decide ((IntKind.i64.wrap (a1 - (a0.length : Int))) < 0)) = true then some (-1) else vg2 k (fun (v0 : I2) (x1 : Int × (List Int) × List Int) (p2 : Int) => some (-1)) (fun (v0 : I2) => some v0.1) a0 k ((IntKind.i64.wrap (a1 - (a0.length : Int))), 0) := by
 rw [mlszTableS_0]
 simp only [llszTableS_0]
 kernel_rfl
noncomputable def v24 (k : Nat) (a0 : zf) (a1 : Int) : Option (Int) := den E k 166 [.agg (avs yi a0), cI a1]
theorem elszPiece (k : Nat) (a0 : zf) (a1 : Int) : v24 (k + 1) a0 a1 = (FlszLinkS k a0.2.1 a1).bind fun p1 => if (decide (p1 < 0)) = true then some (-1) else (z93 k a0.2.2 p1).bind fun p2 => if (decide (p2 < 0)) = true then some (-1) else some p2 := by kernel_rfl
noncomputable def x83 (k : Nat) (a0 : List zf) (a1 : Int) : Option (Int) := den E k 94 [.c (.l 217 yi a0), cI a1]
abbrev vo1 : Type := (List zf)
abbrev wu : Type := Int × Int
def zo3 (c0 : vo1) (v0 : wu) : St := ⟨27, 0, [(0, .c (.l 217 yi c0)), (1, cI v0.1), (5, cI v0.2)], []⟩
noncomputable def BlszPieceS_0 {R : Type} (k : Nat) (X0 : wu → zf → Int → Option R) (X1 : wu → Option R) (c0 : vo1) (rec : wu → Option R) (v0 : wu) : Option R := if (decide (v0.2 < (c0.length : Int))) = true then if 0 ≤ v0.2 then ix c0 v0.2.toNat fun x1 => (v24 k x1 v0.1).bind fun p2 => if (decide (p2 < 0)) = true then X0 v0 x1 p2 else rec (p2, (IntKind.i64.wrap (v0.2 + 1))) else none else X1 v0
noncomputable def jf2 {R : Type} (k : Nat) (X0 : wu → zf → Int → Option R) (X1 : wu → Option R) (c : vo1) : Nat → wu → Option R
 | 0, _ => none
 | n + 1, v => BlszPieceS_0 k X0 X1 c (jf2 k X0 X1 c n) v
def jf3 {R : Type} (K : Ex → St → Option R) (c0 : vo1) (v0 : wu) (x1 : zf) (p2 : Int) : Option R := K .ret ⟨27, 0, [(0, .c (.l 217 yi c0)), (1, cI p2), (4, cI (-1)), (5, cI v0.2), (12, cI v0.2), (13, .c (.l 217 yi c0)), (14, cI (c0.length : Int)), (15, cB (decide (v0.2 < (c0.length : Int)))), (18, .c (.l 217 yi c0)), (19, cI v0.2), (20, .c (.at_ (avs yi x1))), (21, .agg (avs yi x1)), (22, cI v0.1), (23, cI p2), (24, cI p2), (25, cB (decide (p2 < 0)))], []⟩
def zh3 {R : Type} (K : Ex → St → Option R) (c0 : vo1) (v0 : wu) : Option R := K (.exit 0) ⟨27, 0, [(0, .c (.l 217 yi c0)), (1, cI v0.1), (5, cI v0.2), (12, cI v0.2), (13, .c (.l 217 yi c0)), (14, cI (c0.length : Int)), (15, cB (decide (v0.2 < (c0.length : Int))))], []⟩
theorem llszPieceS_0 {R : Type} (k : Nat) (K : Ex → St → Option R) (c0 : vo1) : ∀ (n : Nat) (v : wu), z2 [0, 0, 1, 5] (run E (den E k) (lv 94) k (j1 Tryz.f94 0)) n (zo3 c0 v) K = jf2 k (jf3 K c0) (zh3 K c0) c0 n v := j5 (B := BlszPieceS_0 k (jf3 K c0) (zh3 K c0) c0) (fun _ => rfl) (fun n v => by kernel_rfl) (fun _ => rfl) (fun _ _ => rfl)
theorem mlszPieceS_0 (k : Nat) (a0 : List zf) (a1 : Int) : x83 (k + 1) a0 a1 = if (decide ((IntKind.i64.wrap (a1 - (a0.length : Int))) < 0)) = true then some (-1) else z2 (R := Int) [0, 0, 1, 5] (run E (den E k) (lv 94) k (j1 Tryz.f94 0)) k (zo3 a0 ((IntKind.i64.wrap (a1 - (a0.length : Int))), 0)) (wc E (den E k) (lv 94) k (ye Tryz.f94) 0 [] (vd E (rs 94) Tryz.f94 : Ex → St → Option (Int))) := by kernel_rfl
theorem elszPieceS (k : Nat) (a0 : List zf) (a1 : Int) : x83 (k + 1) a0 a1 = if (decide ((IntKind.i64.wrap (a1 - (a0.length : Int))) < 0)) = true then some (-1) else jf2 k (fun (v0 : I2) (x1 : zf) (p2 : Int) => some (-1)) (fun (v0 : I2) => some v0.1) a0 k ((IntKind.i64.wrap (a1 - (a0.length : Int))), 0) := by
 rw [mlszPieceS_0]
 simp only [llszPieceS_0]
 kernel_rfl
noncomputable def xn3 (k : Nat) (a0 : j2) (a1 : Int) : Option (Int) := den E k 16 [.agg (avs xw a0), cI a1]
theorem elszProgram (k : Nat) (a0 : j2) (a1 : Int) : xn3 (k + 1) a0 a1 = (x83 k a0.2.2.2 a1).bind fun p1 => if (decide (p1 < 0)) = true then some (-1) else some p1 := by kernel_rfl
noncomputable def zs3 (k : Nat) (a0 : List I6) (a1 : Int) : Option (Int) := den E k 95 [.agg [.l 178 sI6 a0], cI a1]
theorem elszQueue (k : Nat) (a0 : List I6) (a1 : Int) : zs3 (k + 1) a0 a1 = (xs2 k a0 a1).bind fun p1 => if (decide (p1 < 0)) = true then some (-1) else some p1 := by kernel_rfl
noncomputable def ja3 (k : Nat) (a0 : List (List I6)) (a1 : Int) : Option (Int) := den E k 20 [.c (.l 141 vj a0), cI a1]
abbrev zp1 : Type := (List (List I6))
abbrev jt : Type := Int × Int
def vo3 (c0 : zp1) (v0 : jt) : St := ⟨27, 0, [(0, .c (.l 141 vj c0)), (1, cI v0.1), (5, cI v0.2)], []⟩
noncomputable def BlszQueueS_0 {R : Type} (k : Nat) (X0 : jt → (List I6) → Int → Option R) (X1 : jt → Option R) (c0 : zp1) (rec : jt → Option R) (v0 : jt) : Option R := if (decide (v0.2 < (c0.length : Int))) = true then if 0 ≤ v0.2 then ix c0 v0.2.toNat fun x1 => (zs3 k x1 v0.1).bind fun p2 => if (decide (p2 < 0)) = true then X0 v0 x1 p2 else rec (p2, (IntKind.i64.wrap (v0.2 + 1))) else none else X1 v0
noncomputable def jh2 {R : Type} (k : Nat) (X0 : jt → (List I6) → Int → Option R) (X1 : jt → Option R) (c : zp1) : Nat → jt → Option R
 | 0, _ => none
 | n + 1, v => BlszQueueS_0 k X0 X1 c (jh2 k X0 X1 c n) v
def jd3 {R : Type} (K : Ex → St → Option R) (c0 : zp1) (v0 : jt) (x1 : List I6) (p2 : Int) : Option R := K .ret ⟨27, 0, [(0, .c (.l 141 vj c0)), (1, cI p2), (4, cI (-1)), (5, cI v0.2), (12, cI v0.2), (13, .c (.l 141 vj c0)), (14, cI (c0.length : Int)), (15, cB (decide (v0.2 < (c0.length : Int)))), (18, .c (.l 141 vj c0)), (19, cI v0.2), (20, .c (.at_ [.l 178 sI6 x1])), (21, .agg [.l 178 sI6 x1]), (22, cI v0.1), (23, cI p2), (24, cI p2), (25, cB (decide (p2 < 0)))], []⟩
def ve3 {R : Type} (K : Ex → St → Option R) (c0 : zp1) (v0 : jt) : Option R := K (.exit 0) ⟨27, 0, [(0, .c (.l 141 vj c0)), (1, cI v0.1), (5, cI v0.2), (12, cI v0.2), (13, .c (.l 141 vj c0)), (14, cI (c0.length : Int)), (15, cB (decide (v0.2 < (c0.length : Int))))], []⟩
theorem llszQueueS_0 {R : Type} (k : Nat) (K : Ex → St → Option R) (c0 : zp1) : ∀ (n : Nat) (v : jt), z2 [0, 0, 1, 5] (run E (den E k) (lv 20) k (j1 Tryz.f20 0)) n (vo3 c0 v) K = jh2 k (jd3 K c0) (ve3 K c0) c0 n v := j5 (B := BlszQueueS_0 k (jd3 K c0) (ve3 K c0) c0) (fun _ => rfl) (fun n v => by kernel_rfl) (fun _ => rfl) (fun _ _ => rfl)
theorem mlszQueueS_0 (k : Nat) (a0 : List (List I6)) (a1 : Int) : ja3 (k + 1) a0 a1 = if (decide ((IntKind.i64.wrap (a1 - (a0.length : Int))) < 0)) = true then some (-1) else z2 (R := Int) [0, 0, 1, 5] (run E (den E k) (lv 20) k (j1 Tryz.f20 0)) k (vo3 a0 ((IntKind.i64.wrap (a1 - (a0.length : Int))), 0)) (wc E (den E k) (lv 20) k (ye Tryz.f20) 0 [] (vd E (rs 20) Tryz.f20 : Ex → St → Option (Int))) := by kernel_rfl
theorem elszQueueS (k : Nat) (a0 : List (List I6)) (a1 : Int) : ja3 (k + 1) a0 a1 = if (decide ((IntKind.i64.wrap (a1 - (a0.length : Int))) < 0)) = true then some (-1) else jh2 k (fun (v0 : I2) (x1 : List I6) (p2 : Int) => some (-1)) (fun (v0 : I2) => some v0.1) a0 k ((IntKind.i64.wrap (a1 - (a0.length : Int))), 0) := by
 rw [mlszQueueS_0]
 simp only [llszQueueS_0]
 kernel_rfl
noncomputable def FlszSentS (k : Nat) (a0 : List I4) (a1 : Int) : Option (Int) := den E k 25 [.c (.l 66 sI4 a0), cI a1]
theorem elszSentS (k : Nat) (a0 : List I4) (a1 : Int) : FlszSentS (k + 1) a0 a1 = if (decide ((IntKind.i64.wrap (a1 - (a0.length : Int))) < 0)) = true then some (-1) else some (IntKind.i64.wrap (a1 - (a0.length : Int))) := by kernel_rfl
noncomputable def FlszSatS (k : Nat) (a0 : List I4) (a1 : Int) : Option (Int) := den E k 91 [.c (.l 226 sI4 a0), cI a1]
theorem elszSatS (k : Nat) (a0 : List I4) (a1 : Int) : FlszSatS (k + 1) a0 a1 = if (decide ((IntKind.i64.wrap (a1 - (a0.length : Int))) < 0)) = true then some (-1) else some (IntKind.i64.wrap (a1 - (a0.length : Int))) := by kernel_rfl
noncomputable def FlszSiteS (k : Nat) (a0 : List I3) (a1 : Int) : Option (Int) := den E k 92 [.c (.l 230 sI3 a0), cI a1]
theorem elszSiteS (k : Nat) (a0 : List I3) (a1 : Int) : FlszSiteS (k + 1) a0 a1 = if (decide ((IntKind.i64.wrap (a1 - (a0.length : Int))) < 0)) = true then some (-1) else some (IntKind.i64.wrap (a1 - (a0.length : Int))) := by kernel_rfl
noncomputable def FlszZoneS (k : Nat) (a0 : List I3) (a1 : Int) : Option (Int) := den E k 93 [.c (.l 238 sZone a0), cI a1]
theorem elszZoneS (k : Nat) (a0 : List I3) (a1 : Int) : FlszZoneS (k + 1) a0 a1 = if (decide ((IntKind.i64.wrap (a1 - (a0.length : Int))) < 0)) = true then some (-1) else some (IntKind.i64.wrap (a1 - (a0.length : Int))) := by kernel_rfl
noncomputable def FlszSky (k : Nat) (a0 : TSky) (a1 : Int) : Option (Int) := den E k 15 [.agg (avs sLSky a0), cI a1]
theorem elszSky (k : Nat) (a0 : TSky) (a1 : Int) : FlszSky (k + 1) a0 a1 = (FlszSatS k a0.2.1 a1).bind fun p1 => if (decide (p1 < 0)) = true then some (-1) else (FlszSiteS k a0.2.2.1 p1).bind fun p2 => if (decide (p2 < 0)) = true then some (-1) else (FlszZoneS k a0.2.2.2.2.2.2.2.2.1 p2).bind fun p3 => if (decide (p3 < 0)) = true then some (-1) else some p3 := by kernel_rfl
noncomputable def zb3 (k : Nat) (a0 : Int × Int × List Int) (a1 : Int) : Option (Int) := den E k 96 [.agg (avs z8 a0), cI a1]
theorem elszStream (k : Nat) (a0 : Int × Int × List Int) (a1 : Int) : zb3 (k + 1) a0 a1 = (zi2 k a0.2.2 a1).bind fun p1 => if (decide (p1 < 0)) = true then some (-1) else some p1 := by kernel_rfl
end Go.Proofs.YthnogjmaiffagaaGreat.World
