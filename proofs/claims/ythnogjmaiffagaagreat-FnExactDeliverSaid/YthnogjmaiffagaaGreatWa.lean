/- The equations of the functions that a law reaches, part 1. No condition. -/
import Derived.Test.YthnogjmaiffagaaGreatV4
import Derived.Test.YthnogjmaiffagaaGreatProg
import Derived.KernelRfl
namespace Go.Proofs.YthnogjmaiffagaaGreat.World
open Go Go.V Go.Proofs
set_option linter.unusedVariables false
set_option linter.unusedSimpArgs false
set_option maxRecDepth 100000
set_option maxHeartbeats 4000000
abbrev I6 : Type := Int × Int × Int × Int × Int × Int
abbrev I4 : Type := Int × Int × Int × Int
abbrev I3 : Type := Int × Int × Int
abbrev I2 : Type := Int × Int
abbrev TLPiece : Type := I2 × (List I2) × List (Int × (List Int) × List Int)
abbrev v7 : Type := I2 × (List I2) × List (Int × (List Int) × List Int)
abbrev TLProgram : Type := Int × Int × Int × List v7
abbrev xd : Type := Int × Int × Int × List v7
abbrev TLSky : Type := Int × (List I4) × (List I3) × Int × Int × Int × Int × Int × (List I3) × Int
abbrev TSky : Type := Int × (List I4) × (List I3) × Int × Int × Int × Int × Int × (List I3) × Int
abbrev TLWorld : Type := TSky × xd × (List Int) × (List Int) × (List I6) × (List (List I6)) × (List I4) × (List Int) × (List (Int × Int × List Int)) × (List I4) × Int × Int × (List I6) × List I4
abbrev wg : Type := TSky × xd × (List Int) × (List Int) × (List I6) × (List (List I6)) × (List I4) × (List Int) × (List (Int × Int × List Int)) × (List I4) × Int × Int × (List I6) × List I4
abbrev sI4 : Sh := (.a [(.i .i64), (.i .i64), (.i .i64), (.i .i64)])
abbrev sI3 : Sh := (.a [(.i .i64), (.i .i64), (.i .i64)])
abbrev sI2 : Sh := (.a [(.i .i64), (.i .i64)])
abbrev sZone : Sh := (.a [(.i .i64), sI2])
abbrev sLSky : Sh := (.a [(.i .i64), (.l 226 sI4), (.l 230 sI3), (.i .i64), (.i .i64), (.i .i64), (.i .i64), (.i .i64), (.l 238 sZone), (.i .i64)])
abbrev j2 : Sh := (.a [(.i .i64), (.l 3 (.i .i64)), (.l 3 (.i .i64))])
abbrev wd : Sh := (.a [sI2, (.l 284 sI2), (.l 280 j2)])
abbrev jn : Sh := (.a [(.i .i64), (.i .i64), (.i .i64), (.l 217 wd)])
abbrev sLaw : Sh := (.a [(.l 3 (.i .i64))])
abbrev sI6 : Sh := (.a [(.i .i64), (.i .i64), (.i .i64), (.i .i64), (.i .i64), (.i .i64)])
abbrev we : Sh := (.a [(.l 178 sI6)])
abbrev z1 : Sh := (.a [(.i .i64), (.i .i64), (.l 3 (.i .i64))])
abbrev yk : Sh := (.a [sLSky, jn, sLaw, (.l 3 (.i .i64)), (.l 166 sI6), (.l 141 we), (.l 171 sI4), (.l 3 (.i .i64)), (.l 143 z1), (.l 176 sI4), (.i .i64), (.i .i64), (.l 178 sI6), (.l 66 sI4)])
abbrev sSky : Sh := (.a [(.i .i64), (.l 224 sI4), (.l 228 sI3), (.i .i64), (.i .i64), (.i .i64), (.i .i64), (.i .i64), (.l 234 sZone), (.i .i64)])
abbrev j4 : Sh := (.a [sI2, (.l 264 sI2), (.l 147 j2)])
abbrev j3 : Sh := (.a [(.i .i64), (.i .i64), (.i .i64), (.l 157 j4)])
abbrev j5 : Sh := (.a [(.l 115 sI6)])
abbrev xb : Sh := (.a [sSky, j3, sLaw, (.l 3 (.i .i64)), (.l 164 sI6), (.l 113 j5), (.l 169 sI4), (.l 3 (.i .i64)), (.l 120 z1), (.l 174 sI4), (.i .i64), (.i .i64), (.l 115 sI6), (.l 69 sI4)])
noncomputable def ty : Nat → Option TyI
 | 3 => some ⟨.one, 1, 8, [(.int .i64 0)], (.i .i64)⟩
 | 4 => some ⟨.one, 1, 1, [(.bool false)], .b⟩
 | 22 => some ⟨.slc 226, 1, 24, [(.slice none 0 0)], (.l 226 sI4)⟩
 | 23 => some ⟨.slc 230, 1, 24, [(.slice none 0 0)], (.l 230 sI3)⟩
 | 24 => some ⟨.slc 238, 1, 24, [(.slice none 0 0)], (.l 238 sZone)⟩
 | 26 => some ⟨.agg [(0, 3), (1, 22), (2, 23), (3, 3), (4, 3), (5, 3), (6, 3), (7, 3), (8, 24), (9, 3)], 10, 128, [(.int .i64 0), (.slice none 0 0), (.slice none 0 0), (.int .i64 0), (.int .i64 0), (.int .i64 0), (.int .i64 0), (.int .i64 0), (.slice none 0 0), (.int .i64 0)], sLSky⟩
 | 27 => some ⟨.slc 217, 1, 24, [(.slice none 0 0)], (.l 217 wd)⟩
 | 29 => some ⟨.agg [(0, 3), (1, 3), (2, 3), (3, 27)], 4, 48, [(.int .i64 0), (.int .i64 0), (.int .i64 0), (.slice none 0 0)], jn⟩
 | 30 => some ⟨.slc 3, 1, 24, [(.slice none 0 0)], (.l 3 (.i .i64))⟩
 | 32 => some ⟨.agg [(0, 30)], 1, 24, [(.slice none 0 0)], sLaw⟩
 | 33 => some ⟨.slc 166, 1, 24, [(.slice none 0 0)], (.l 166 sI6)⟩
 | 34 => some ⟨.slc 141, 1, 24, [(.slice none 0 0)], (.l 141 we)⟩
 | 35 => some ⟨.slc 171, 1, 24, [(.slice none 0 0)], (.l 171 sI4)⟩
 | 36 => some ⟨.slc 143, 1, 24, [(.slice none 0 0)], (.l 143 z1)⟩
 | 37 => some ⟨.slc 176, 1, 24, [(.slice none 0 0)], (.l 176 sI4)⟩
 | 38 => some ⟨.slc 178, 1, 24, [(.slice none 0 0)], (.l 178 sI6)⟩
 | 39 => some ⟨.slc 66, 1, 24, [(.slice none 0 0)], (.l 66 sI4)⟩
 | 41 => some ⟨.agg [(0, 26), (10, 29), (14, 32), (15, 30), (16, 33), (17, 34), (18, 35), (19, 30), (20, 36), (21, 37), (22, 3), (23, 3), (24, 38), (25, 39)], 26, 432, [(.int .i64 0), (.slice none 0 0), (.slice none 0 0), (.int .i64 0), (.int .i64 0), (.int .i64 0), (.int .i64 0), (.int .i64 0), (.slice none 0 0), (.int .i64 0), (.int .i64 0), (.int .i64 0), (.int .i64 0), (.slice none 0 0), (.slice none 0 0), (.slice none 0 0), (.slice none 0 0), (.slice none 0 0), (.slice none 0 0), (.slice none 0 0), (.slice none 0 0), (.slice none 0 0), (.int .i64 0), (.int .i64 0), (.slice none 0 0), (.slice none 0 0)], yk⟩
 | 44 => some ⟨.slc 224, 1, 24, [(.slice none 0 0)], (.l 224 sI4)⟩
 | 45 => some ⟨.slc 228, 1, 24, [(.slice none 0 0)], (.l 228 sI3)⟩
 | 46 => some ⟨.slc 234, 1, 24, [(.slice none 0 0)], (.l 234 sZone)⟩
 | 48 => some ⟨.agg [(0, 3), (1, 44), (2, 45), (3, 3), (4, 3), (5, 3), (6, 3), (7, 3), (8, 46), (9, 3)], 10, 128, [(.int .i64 0), (.slice none 0 0), (.slice none 0 0), (.int .i64 0), (.int .i64 0), (.int .i64 0), (.int .i64 0), (.int .i64 0), (.slice none 0 0), (.int .i64 0)], sSky⟩
 | 49 => some ⟨.slc 157, 1, 24, [(.slice none 0 0)], (.l 157 j4)⟩
 | 51 => some ⟨.agg [(0, 3), (1, 3), (2, 3), (3, 49)], 4, 48, [(.int .i64 0), (.int .i64 0), (.int .i64 0), (.slice none 0 0)], j3⟩
 | 52 => some ⟨.agg [(0, 30)], 1, 24, [(.slice none 0 0)], sLaw⟩
 | 53 => some ⟨.slc 164, 1, 24, [(.slice none 0 0)], (.l 164 sI6)⟩
 | 54 => some ⟨.slc 113, 1, 24, [(.slice none 0 0)], (.l 113 j5)⟩
 | 55 => some ⟨.slc 169, 1, 24, [(.slice none 0 0)], (.l 169 sI4)⟩
 | 56 => some ⟨.slc 120, 1, 24, [(.slice none 0 0)], (.l 120 z1)⟩
 | 57 => some ⟨.slc 174, 1, 24, [(.slice none 0 0)], (.l 174 sI4)⟩
 | 58 => some ⟨.slc 115, 1, 24, [(.slice none 0 0)], (.l 115 sI6)⟩
 | 59 => some ⟨.slc 69, 1, 24, [(.slice none 0 0)], (.l 69 sI4)⟩
 | 61 => some ⟨.agg [(0, 48), (10, 51), (14, 52), (15, 30), (16, 53), (17, 54), (18, 55), (19, 30), (20, 56), (21, 57), (22, 3), (23, 3), (24, 58), (25, 59)], 26, 432, [(.int .i64 0), (.slice none 0 0), (.slice none 0 0), (.int .i64 0), (.int .i64 0), (.int .i64 0), (.int .i64 0), (.int .i64 0), (.slice none 0 0), (.int .i64 0), (.int .i64 0), (.int .i64 0), (.int .i64 0), (.slice none 0 0), (.slice none 0 0), (.slice none 0 0), (.slice none 0 0), (.slice none 0 0), (.slice none 0 0), (.slice none 0 0), (.slice none 0 0), (.slice none 0 0), (.int .i64 0), (.int .i64 0), (.slice none 0 0), (.slice none 0 0)], xb⟩
 | 66 => some ⟨.agg [(0, 3), (1, 3), (2, 3), (3, 3)], 4, 32, [(.int .i64 0), (.int .i64 0), (.int .i64 0), (.int .i64 0)], sI4⟩
 | 69 => some ⟨.agg [(0, 3), (1, 3), (2, 3), (3, 3)], 4, 32, [(.int .i64 0), (.int .i64 0), (.int .i64 0), (.int .i64 0)], sI4⟩
 | 113 => some ⟨.agg [(0, 58)], 1, 24, [(.slice none 0 0)], j5⟩
 | 115 => some ⟨.agg [(0, 3), (1, 3), (2, 3), (3, 3), (4, 3), (5, 3)], 6, 48, [(.int .i64 0), (.int .i64 0), (.int .i64 0), (.int .i64 0), (.int .i64 0), (.int .i64 0)], sI6⟩
 | 120 => some ⟨.agg [(0, 3), (1, 3), (2, 30)], 3, 40, [(.int .i64 0), (.int .i64 0), (.slice none 0 0)], z1⟩
 | 141 => some ⟨.agg [(0, 38)], 1, 24, [(.slice none 0 0)], we⟩
 | 143 => some ⟨.agg [(0, 3), (1, 3), (2, 30)], 3, 40, [(.int .i64 0), (.int .i64 0), (.slice none 0 0)], z1⟩
 | 147 => some ⟨.agg [(0, 3), (1, 30), (2, 30)], 3, 56, [(.int .i64 0), (.slice none 0 0), (.slice none 0 0)], j2⟩
 | 153 => some ⟨.agg [(0, 3), (1, 3)], 2, 16, [(.int .i64 0), (.int .i64 0)], sI2⟩
 | 154 => some ⟨.slc 264, 1, 24, [(.slice none 0 0)], (.l 264 sI2)⟩
 | 155 => some ⟨.slc 147, 1, 24, [(.slice none 0 0)], (.l 147 j2)⟩
 | 157 => some ⟨.agg [(0, 153), (2, 154), (3, 155)], 4, 64, [(.int .i64 0), (.int .i64 0), (.slice none 0 0), (.slice none 0 0)], j4⟩
 | 164 => some ⟨.agg [(0, 3), (1, 3), (2, 3), (3, 3), (4, 3), (5, 3)], 6, 48, [(.int .i64 0), (.int .i64 0), (.int .i64 0), (.int .i64 0), (.int .i64 0), (.int .i64 0)], sI6⟩
 | 166 => some ⟨.agg [(0, 3), (1, 3), (2, 3), (3, 3), (4, 3), (5, 3)], 6, 48, [(.int .i64 0), (.int .i64 0), (.int .i64 0), (.int .i64 0), (.int .i64 0), (.int .i64 0)], sI6⟩
 | 169 => some ⟨.agg [(0, 3), (1, 3), (2, 3), (3, 3)], 4, 32, [(.int .i64 0), (.int .i64 0), (.int .i64 0), (.int .i64 0)], sI4⟩
 | 171 => some ⟨.agg [(0, 3), (1, 3), (2, 3), (3, 3)], 4, 32, [(.int .i64 0), (.int .i64 0), (.int .i64 0), (.int .i64 0)], sI4⟩
 | 174 => some ⟨.agg [(0, 3), (1, 3), (2, 3), (3, 3)], 4, 32, [(.int .i64 0), (.int .i64 0), (.int .i64 0), (.int .i64 0)], sI4⟩
 | 176 => some ⟨.agg [(0, 3), (1, 3), (2, 3), (3, 3)], 4, 32, [(.int .i64 0), (.int .i64 0), (.int .i64 0), (.int .i64 0)], sI4⟩
 | 178 => some ⟨.agg [(0, 3), (1, 3), (2, 3), (3, 3), (4, 3), (5, 3)], 6, 48, [(.int .i64 0), (.int .i64 0), (.int .i64 0), (.int .i64 0), (.int .i64 0), (.int .i64 0)], sI6⟩
 | 213 => some ⟨.agg [(0, 3), (1, 3)], 2, 16, [(.int .i64 0), (.int .i64 0)], sI2⟩
 | 214 => some ⟨.slc 284, 1, 24, [(.slice none 0 0)], (.l 284 sI2)⟩
 | 215 => some ⟨.slc 280, 1, 24, [(.slice none 0 0)], (.l 280 j2)⟩
 | 217 => some ⟨.agg [(0, 213), (2, 214), (3, 215)], 4, 64, [(.int .i64 0), (.int .i64 0), (.slice none 0 0), (.slice none 0 0)], wd⟩
 | 224 => some ⟨.agg [(0, 3), (1, 3), (2, 3), (3, 3)], 4, 32, [(.int .i64 0), (.int .i64 0), (.int .i64 0), (.int .i64 0)], sI4⟩
 | 226 => some ⟨.agg [(0, 3), (1, 3), (2, 3), (3, 3)], 4, 32, [(.int .i64 0), (.int .i64 0), (.int .i64 0), (.int .i64 0)], sI4⟩
 | 228 => some ⟨.agg [(0, 3), (1, 3), (2, 3)], 3, 24, [(.int .i64 0), (.int .i64 0), (.int .i64 0)], sI3⟩
 | 230 => some ⟨.agg [(0, 3), (1, 3), (2, 3)], 3, 24, [(.int .i64 0), (.int .i64 0), (.int .i64 0)], sI3⟩
 | 232 => some ⟨.agg [(0, 3), (1, 3)], 2, 16, [(.int .i64 0), (.int .i64 0)], sI2⟩
 | 234 => some ⟨.agg [(0, 3), (1, 232)], 3, 24, [(.int .i64 0), (.int .i64 0), (.int .i64 0)], sZone⟩
 | 236 => some ⟨.agg [(0, 3), (1, 3)], 2, 16, [(.int .i64 0), (.int .i64 0)], sI2⟩
 | 238 => some ⟨.agg [(0, 3), (1, 236)], 3, 24, [(.int .i64 0), (.int .i64 0), (.int .i64 0)], sZone⟩
 | 254 => some ⟨.one, 1, 8, [(.int .u64 0)], (.i .u64)⟩
 | 264 => some ⟨.agg [(0, 3), (1, 3)], 2, 16, [(.int .i64 0), (.int .i64 0)], sI2⟩
 | 280 => some ⟨.agg [(0, 3), (1, 30), (2, 30)], 3, 56, [(.int .i64 0), (.slice none 0 0), (.slice none 0 0)], j2⟩
 | 284 => some ⟨.agg [(0, 3), (1, 3)], 2, 16, [(.int .i64 0), (.int .i64 0)], sI2⟩
 | _ => none
noncomputable def fn0 : Nat → Option Func
 | 4 => some Tryz.f4
 | 5 => some Tryz.f5
 | 7 => some Tryz.f7
 | 9 => some Tryz.f9
 | 10 => some Tryz.f10
 | 11 => some Tryz.f11
 | 12 => some Tryz.f12
 | 13 => some Tryz.f13
 | 14 => some Tryz.f14
 | 15 => some Tryz.f15
 | 16 => some Tryz.f16
 | 17 => some Tryz.f17
 | 18 => some Tryz.f18
 | 19 => some Tryz.f19
 | 20 => some Tryz.f20
 | 21 => some Tryz.f21
 | 22 => some Tryz.f22
 | 23 => some Tryz.f23
 | 24 => some Tryz.f24
 | 25 => some Tryz.f25
 | 26 => some Tryz.f26
 | 30 => some Tryz.f30
 | 31 => some Tryz.f31
 | 32 => some Tryz.f32
 | 33 => some Tryz.f33
 | 34 => some Tryz.f34
 | 35 => some Tryz.f35
 | 36 => some Tryz.f36
 | 37 => some Tryz.f37
 | 38 => some Tryz.f38
 | 39 => some Tryz.f39
 | 40 => some Tryz.f40
 | 41 => some Tryz.f41
 | 42 => some Tryz.f42
 | 46 => some Tryz.f46
 | 47 => some Tryz.f47
 | 48 => some Tryz.f48
 | 49 => some Tryz.f49
 | 50 => some Tryz.f50
 | 51 => some Tryz.f51
 | 52 => some Tryz.f52
 | 53 => some Tryz.f53
 | 54 => some Tryz.f54
 | 55 => some Tryz.f55
 | 56 => some Tryz.f56
 | 57 => some Tryz.f57
 | 58 => some Tryz.f58
 | 59 => some Tryz.f59
 | 60 => some Tryz.f60
 | 61 => some Tryz.f61
 | 62 => some Tryz.f62
 | 63 => some Tryz.f63
 | 64 => some Tryz.f64
 | 65 => some Tryz.f65
 | 66 => some Tryz.f66
 | 67 => some Tryz.f67
 | 68 => some Tryz.f68
 | 69 => some Tryz.f69
 | 70 => some Tryz.f70
 | 71 => some Tryz.f71
 | _ => none
noncomputable def fn1 : Nat → Option Func
 | 72 => some Tryz.f72
 | 73 => some Tryz.f73
 | 74 => some Tryz.f74
 | 75 => some Tryz.f75
 | 76 => some Tryz.f76
 | 77 => some Tryz.f77
 | 78 => some Tryz.f78
 | 79 => some Tryz.f79
 | 80 => some Tryz.f80
 | 81 => some Tryz.f81
 | 82 => some Tryz.f82
 | 83 => some Tryz.f83
 | 84 => some Tryz.f84
 | 85 => some Tryz.f85
 | 86 => some Tryz.f86
 | 87 => some Tryz.f87
 | 88 => some Tryz.f88
 | 89 => some Tryz.f89
 | 90 => some Tryz.f90
 | 91 => some Tryz.f91
 | 92 => some Tryz.f92
 | 93 => some Tryz.f93
 | 94 => some Tryz.f94
 | 95 => some Tryz.f95
 | 96 => some Tryz.f96
 | 98 => some Tryz.f98
 | 105 => some Tryz.f105
 | 106 => some Tryz.f106
 | 107 => some Tryz.f107
 | 108 => some Tryz.f108
 | 109 => some Tryz.f109
 | 110 => some Tryz.f110
 | 111 => some Tryz.f111
 | 112 => some Tryz.f112
 | 113 => some Tryz.f113
 | 114 => some Tryz.f114
 | 116 => some Tryz.f116
 | 124 => some Tryz.f124
 | 125 => some Tryz.f125
 | 126 => some Tryz.f126
 | 127 => some Tryz.f127
 | 128 => some Tryz.f128
 | 129 => some Tryz.f129
 | 130 => some Tryz.f130
 | 131 => some Tryz.f131
 | 132 => some Tryz.f132
 | 133 => some Tryz.f133
 | 134 => some Tryz.f134
 | 135 => some Tryz.f135
 | 136 => some Tryz.f136
 | 137 => some Tryz.f137
 | 138 => some Tryz.f138
 | 139 => some Tryz.f139
 | 140 => some Tryz.f140
 | 141 => some Tryz.f141
 | 142 => some Tryz.f142
 | 143 => some Tryz.f143
 | 144 => some Tryz.f144
 | 145 => some Tryz.f145
 | 146 => some Tryz.f146
 | _ => none
noncomputable def fn2 : Nat → Option Func
 | 147 => some Tryz.f147
 | 148 => some Tryz.f148
 | 149 => some Tryz.f149
 | 151 => some Tryz.f151
 | 152 => some Tryz.f152
 | 153 => some Tryz.f153
 | 154 => some Tryz.f154
 | 155 => some Tryz.f155
 | 156 => some Tryz.f156
 | 158 => some Tryz.f158
 | 159 => some Tryz.f159
 | 160 => some Tryz.f160
 | 161 => some Tryz.f161
 | 162 => some Tryz.f162
 | 163 => some Tryz.f163
 | 164 => some Tryz.f164
 | 165 => some Tryz.f165
 | 166 => some Tryz.f166
 | 170 => some Tryz.f170
 | 175 => some Tryz.f175
 | 176 => some Tryz.f176
 | 177 => some Tryz.f177
 | 178 => some Tryz.f178
 | 181 => some Tryz.f181
 | 186 => some Tryz.f186
 | 194 => some Tryz.f194
 | 195 => some Tryz.f195
 | 196 => some Tryz.f196
 | 197 => some Tryz.f197
 | 198 => some Tryz.f198
 | 199 => some Tryz.f199
 | 200 => some Tryz.f200
 | 201 => some Tryz.f201
 | 202 => some Tryz.f202
 | 203 => some Tryz.f203
 | 206 => some Tryz.f206
 | 207 => some Tryz.f207
 | 208 => some Tryz.f208
 | 209 => some Tryz.f209
 | 210 => some Tryz.f210
 | 211 => some Tryz.f211
 | 216 => some Tryz.f216
 | 217 => some Tryz.f217
 | 218 => some Tryz.f218
 | 219 => some Tryz.f219
 | 225 => some Tryz.f225
 | 229 => some Tryz.f229
 | 230 => some Tryz.f230
 | 231 => some Tryz.f231
 | 232 => some Tryz.f232
 | 233 => some Tryz.f233
 | 235 => some Tryz.f235
 | 238 => some Tryz.f238
 | 239 => some Tryz.f239
 | 245 => some Tryz.f245
 | 246 => some Tryz.f246
 | _ => none
noncomputable def fn (f : Nat) : Option Func := (match fn0 f with
 | some F => some F
 | none => (match fn1 f with
 | some F => some F
 | none => fn2 f))
def lv : Nat → List Nat
 | 12 => [0, 1099511627778, 1099511627779, 2199023300617, 2199023304714]
 | 13 => [14]
 | 20 => [0, 0, 1, 5]
 | 22 => [0, 0, 1, 5]
 | 33 => [0, 0, 3, 4]
 | 34 => [0, 0, 3, 4]
 | 35 => [0, 0, 3, 4]
 | 36 => [0, 0, 3, 4]
 | 37 => [0, 0, 3, 4]
 | 38 => [0, 0, 3, 4]
 | 39 => [0, 0, 3, 4]
 | 40 => [0, 0, 3, 4]
 | 49 => [0, 0, 1, 5]
 | 50 => [0, 0, 1, 5]
 | 51 => [0, 0, 1, 5]
 | 52 => [0, 0, 1, 5]
 | 53 => [0, 0, 1, 5]
 | 54 => [0, 0, 1, 5]
 | 55 => [0, 0, 1, 5]
 | 56 => [0, 0, 1, 5]
 | 57 => [0, 1, 2, 3, 4, 5, 14745713, 14942328, 1099511627777, 2199023263743]
 | 58 => [0, 1099511627778, 2199023271935]
 | 59 => [0, 1, 2, 5]
 | 60 => [0, 1, 2, 5]
 | 61 => [0, 1, 2, 4, 7, 8, 9]
 | 63 => [0, 1, 2, 3, 54, 55, 56, 69, 70, 71, 14745713, 14942328, 1099511627777, 2199023267839]
 | 64 => [0, 1099511627778, 2199023276032]
 | 67 => [0, 2, 4, 7, 8]
 | 69 => [3]
 | 70 => [1]
 | 71 => [1]
 | 72 => [1, 0, 1, 5]
 | 73 => [1, 0, 1, 5]
 | 74 => [1, 0, 1, 5]
 | 75 => [1, 0, 1, 5]
 | 76 => [1, 0, 1, 5]
 | 77 => [1, 0, 1, 5]
 | 78 => [1, 0, 1, 5]
 | 79 => [1, 0, 1, 5]
 | 83 => [0, 0, 1, 5]
 | 84 => [0, 0, 1, 5]
 | 85 => [0, 0, 1, 5]
 | 86 => [0, 0, 1, 5]
 | 87 => [0, 0, 1, 5]
 | 88 => [0, 0, 1, 5]
 | 89 => [0, 0, 1, 5]
 | 90 => [0, 0, 1, 5]
 | 94 => [0, 0, 1, 5]
 | 98 => [0, 0, 1, 5]
 | 105 => [0, 0, 3, 4]
 | 106 => [0, 0, 3, 4]
 | 107 => [0, 0, 3, 4]
 | 108 => [0, 0, 3, 4]
 | 124 => [0, 0, 1, 5]
 | 125 => [0, 0, 1, 5]
 | 126 => [0, 0, 1, 5]
 | 127 => [0, 0, 1, 5]
 | 136 => [0, 1, 2, 3, 4, 5, 6, 13828253, 22216851]
 | 139 => [0, 1, 3]
 | 141 => [0, 1, 2, 3, 6, 11, 12, 13, 24, 25, 26, 26411155]
 | 151 => [0, 0, 1, 7, 8]
 | 153 => [0, 0, 1, 7, 8]
 | 155 => [0, 1, 22, 23, 24]
 | 156 => [0, 0, 1, 6, 7, 8]
 | 158 => [1, 0, 1, 5]
 | 159 => [1, 0, 1, 5]
 | 160 => [1, 0, 1, 5]
 | 161 => [1, 0, 1, 5]
 | 162 => [0, 0, 1, 5]
 | 163 => [0, 0, 1, 5]
 | 164 => [0, 0, 1, 5]
 | 165 => [0, 0, 1, 5]
 | 181 => [0, 0, 1, 7, 8]
 | 206 => [1, 0, 1, 5]
 | 207 => [1, 0, 1, 5]
 | 208 => [0, 0, 1, 5]
 | 209 => [0, 0, 1, 5]
 | 211 => [0, 0, 1, 5]
 | 218 => [0, 0, 3, 4]
 | 219 => [0, 0, 3, 4]
 | 231 => [0, 0, 1, 5]
 | 232 => [0, 0, 1, 5]
 | _ => []
def rs : Nat → RSh
 | 4 => ⟨false, [.b], 0⟩
 | 5 => ⟨false, [(.i .i64)], 0⟩
 | 7 => ⟨true, [xb], 0⟩
 | 9 => ⟨false, [.b], 0⟩
 | 10 => ⟨true, [xb, .b], 0⟩
 | 11 => ⟨false, [sI4], 0⟩
 | 12 => ⟨true, [xb, .b], 0⟩
 | 13 => ⟨true, [(.i .i64), (.l 224 sI4), (.l 228 sI3), (.l 234 sZone), (.l 157 j4), (.l 3 (.i .i64)), (.l 3 (.i .i64)), (.l 164 sI6), (.l 113 j5), (.l 169 sI4), (.l 3 (.i .i64)), (.l 120 z1), (.l 174 sI4), (.l 115 sI6), (.l 69 sI4)], 14⟩
 | 14 => ⟨false, [(.i .i64)], 0⟩
 | 15 => ⟨false, [(.i .i64)], 0⟩
 | 16 => ⟨false, [(.i .i64)], 0⟩
 | 17 => ⟨false, [(.i .i64)], 0⟩
 | 18 => ⟨false, [(.i .i64)], 0⟩
 | 19 => ⟨false, [(.i .i64)], 0⟩
 | 20 => ⟨false, [(.i .i64)], 0⟩
 | 21 => ⟨false, [(.i .i64)], 0⟩
 | 22 => ⟨false, [(.i .i64)], 0⟩
 | 23 => ⟨false, [(.i .i64)], 0⟩
 | 24 => ⟨false, [(.i .i64)], 0⟩
 | 25 => ⟨false, [(.i .i64)], 0⟩
 | 26 => ⟨false, [.b], 0⟩
 | 30 => ⟨true, [sSky], 0⟩
 | 31 => ⟨true, [j3], 0⟩
 | 32 => ⟨true, [sLaw], 0⟩
 | 33 => ⟨true, [(.l 3 (.i .i64))], 0⟩
 | 34 => ⟨true, [(.l 164 sI6)], 0⟩
 | 35 => ⟨true, [(.l 113 j5)], 0⟩
 | 36 => ⟨true, [(.l 169 sI4)], 0⟩
 | 37 => ⟨true, [(.l 120 z1)], 0⟩
 | 38 => ⟨true, [(.l 174 sI4)], 0⟩
 | 39 => ⟨true, [(.l 115 sI6)], 0⟩
 | 40 => ⟨true, [(.l 69 sI4)], 0⟩
 | 41 => ⟨false, [.b], 0⟩
 | 42 => ⟨false, [.b], 0⟩
 | 46 => ⟨false, [.b], 0⟩
 | 47 => ⟨false, [.b], 0⟩
 | 48 => ⟨false, [.b], 0⟩
 | 49 => ⟨false, [.b], 0⟩
 | 50 => ⟨false, [.b], 0⟩
 | 51 => ⟨false, [.b], 0⟩
 | 52 => ⟨false, [.b], 0⟩
 | 53 => ⟨false, [.b], 0⟩
 | 54 => ⟨false, [.b], 0⟩
 | 55 => ⟨false, [.b], 0⟩
 | 56 => ⟨false, [.b], 0⟩
 | 57 => ⟨true, [xb], 0⟩
 | 58 => ⟨true, [j5, sI6, .b], 0⟩
 | 59 => ⟨false, [(.i .i64)], 0⟩
 | 60 => ⟨false, [(.i .i64)], 0⟩
 | 61 => ⟨true, [z1, (.l 3 (.i .i64)), .b], 0⟩
 | 62 => ⟨true, [j5, .b], 0⟩
 | 63 => ⟨true, [xb], 0⟩
 | 64 => ⟨true, [j5, sI6, .b], 0⟩
 | 65 => ⟨false, [(.i .i64)], 0⟩
 | 66 => ⟨false, [(.i .i64)], 0⟩
 | 67 => ⟨true, [z1, (.l 3 (.i .i64)), .b], 0⟩
 | 68 => ⟨true, [j5, .b], 0⟩
 | 69 => ⟨true, [(.i .i64), (.l 224 sI4), (.l 228 sI3), (.l 234 sZone)], 3⟩
 | 70 => ⟨true, [(.i .i64), (.l 157 j4)], 1⟩
 | 71 => ⟨true, [(.i .i64), (.l 3 (.i .i64))], 1⟩
 | 72 => ⟨true, [(.i .i64), (.l 3 (.i .i64))], 1⟩
 | 73 => ⟨true, [(.i .i64), (.l 164 sI6)], 1⟩
 | 74 => ⟨true, [(.i .i64), (.l 113 j5)], 1⟩
 | 75 => ⟨true, [(.i .i64), (.l 169 sI4)], 1⟩
 | 76 => ⟨true, [(.i .i64), (.l 120 z1)], 1⟩
 | 77 => ⟨true, [(.i .i64), (.l 174 sI4)], 1⟩
 | 78 => ⟨true, [(.i .i64), (.l 115 sI6)], 1⟩
 | 79 => ⟨true, [(.i .i64), (.l 69 sI4)], 1⟩
 | 80 => ⟨false, [(.i .i64)], 0⟩
 | 81 => ⟨false, [(.i .i64)], 0⟩
 | 82 => ⟨false, [(.i .i64)], 0⟩
 | 83 => ⟨false, [(.i .i64)], 0⟩
 | 84 => ⟨false, [(.i .i64)], 0⟩
 | 85 => ⟨false, [(.i .i64)], 0⟩
 | 86 => ⟨false, [(.i .i64)], 0⟩
 | 87 => ⟨false, [(.i .i64)], 0⟩
 | 88 => ⟨false, [(.i .i64)], 0⟩
 | 89 => ⟨false, [(.i .i64)], 0⟩
 | 90 => ⟨false, [(.i .i64)], 0⟩
 | 91 => ⟨false, [(.i .i64)], 0⟩
 | 92 => ⟨false, [(.i .i64)], 0⟩
 | 93 => ⟨false, [(.i .i64)], 0⟩
 | 94 => ⟨false, [(.i .i64)], 0⟩
 | 95 => ⟨false, [(.i .i64)], 0⟩
 | 96 => ⟨false, [(.i .i64)], 0⟩
 | 98 => ⟨false, [.b], 0⟩
 | 105 => ⟨true, [(.l 224 sI4)], 0⟩
 | 106 => ⟨true, [(.l 228 sI3)], 0⟩
 | 107 => ⟨true, [(.l 234 sZone)], 0⟩
 | 108 => ⟨true, [(.l 157 j4)], 0⟩
 | 109 => ⟨false, [sI6], 0⟩
 | 110 => ⟨true, [j5], 0⟩
 | 111 => ⟨false, [sI4], 0⟩
 | 112 => ⟨true, [z1], 0⟩
 | 113 => ⟨false, [sI4], 0⟩
 | 114 => ⟨false, [sI6], 0⟩
 | 116 => ⟨false, [.b], 0⟩
 | 124 => ⟨false, [.b], 0⟩
 | 125 => ⟨false, [.b], 0⟩
 | 126 => ⟨false, [.b], 0⟩
 | 127 => ⟨false, [.b], 0⟩
 | 128 => ⟨false, [.b], 0⟩
 | 129 => ⟨false, [.b], 0⟩
 | 130 => ⟨false, [.b], 0⟩
 | 131 => ⟨false, [.b], 0⟩
 | 132 => ⟨false, [.b], 0⟩
 | 133 => ⟨false, [.b], 0⟩
 | 134 => ⟨false, [.b], 0⟩
 | 135 => ⟨true, [sSky], 0⟩
 | 136 => ⟨true, [j3], 0⟩
 | 137 => ⟨true, [j5], 0⟩
 | 138 => ⟨true, [z1], 0⟩
 | 139 => ⟨false, [.b], 0⟩
 | 140 => ⟨true, [sSky], 0⟩
 | 141 => ⟨true, [j3], 0⟩
 | 142 => ⟨true, [(.l 3 (.i .i64))], 0⟩
 | 143 => ⟨true, [(.l 164 sI6)], 0⟩
 | 144 => ⟨true, [(.l 169 sI4)], 0⟩
 | 145 => ⟨true, [(.l 174 sI4)], 0⟩
 | 146 => ⟨true, [(.l 115 sI6)], 0⟩
 | 147 => ⟨true, [(.l 69 sI4)], 0⟩
 | 148 => ⟨true, [j5], 0⟩
 | 149 => ⟨true, [z1], 0⟩
 | 150 => ⟨true, [(.l 115 sI6)], 0⟩
 | 151 => ⟨false, [(.i .i64)], 0⟩
 | 152 => ⟨false, [.b], 0⟩
 | 153 => ⟨false, [(.i .i64)], 0⟩
 | 154 => ⟨false, [.b], 0⟩
 | 155 => ⟨false, [.b], 0⟩
 | 156 => ⟨false, [(.i .i64), .b], 0⟩
 | 157 => ⟨true, [(.l 3 (.i .i64))], 0⟩
 | 158 => ⟨true, [(.i .i64), (.l 224 sI4)], 1⟩
 | 159 => ⟨true, [(.i .i64), (.l 228 sI3)], 1⟩
 | 160 => ⟨true, [(.i .i64), (.l 234 sZone)], 1⟩
 | 161 => ⟨true, [(.i .i64), (.l 157 j4)], 1⟩
 | 162 => ⟨false, [(.i .i64)], 0⟩
 | 163 => ⟨false, [(.i .i64)], 0⟩
 | 164 => ⟨false, [(.i .i64)], 0⟩
 | 165 => ⟨false, [(.i .i64)], 0⟩
 | 166 => ⟨false, [(.i .i64)], 0⟩
 | 170 => ⟨true, [j2], 0⟩
 | 175 => ⟨false, [sI4], 0⟩
 | 176 => ⟨false, [sI3], 0⟩
 | 177 => ⟨false, [sZone], 0⟩
 | 178 => ⟨true, [j4], 0⟩
 | 181 => ⟨false, [(.i .i64)], 0⟩
 | 186 => ⟨true, [j2], 0⟩
 | 194 => ⟨false, [.b], 0⟩
 | 195 => ⟨false, [.b], 0⟩
 | 196 => ⟨false, [.b], 0⟩
 | 197 => ⟨false, [.b], 0⟩
 | 198 => ⟨true, [(.l 224 sI4)], 0⟩
 | 199 => ⟨true, [(.l 228 sI3)], 0⟩
 | 200 => ⟨true, [(.l 234 sZone)], 0⟩
 | 201 => ⟨true, [(.l 264 sI2)], 0⟩
 | 202 => ⟨false, [.b], 0⟩
 | 203 => ⟨false, [.b], 0⟩
 | 206 => ⟨true, [(.i .i64), (.l 264 sI2)], 1⟩
 | 207 => ⟨true, [(.i .i64), (.l 147 j2)], 1⟩
 | 208 => ⟨false, [(.i .i64)], 0⟩
 | 209 => ⟨false, [(.i .i64)], 0⟩
 | 210 => ⟨false, [(.i .i64)], 0⟩
 | 211 => ⟨false, [(.i .i64)], 0⟩
 | 216 => ⟨false, [sI2], 0⟩
 | 217 => ⟨false, [sI2], 0⟩
 | 218 => ⟨true, [(.l 264 sI2)], 0⟩
 | 219 => ⟨true, [(.l 147 j2)], 0⟩
 | 225 => ⟨false, [.b], 0⟩
 | 229 => ⟨false, [.b], 0⟩
 | 230 => ⟨false, [.b], 0⟩
 | 231 => ⟨false, [.b], 0⟩
 | 232 => ⟨false, [.b], 0⟩
 | 233 => ⟨true, [(.l 264 sI2)], 0⟩
 | 235 => ⟨false, [(.i .i64)], 0⟩
 | 238 => ⟨false, [sI2], 0⟩
 | 239 => ⟨true, [j2], 0⟩
 | 245 => ⟨false, [.b], 0⟩
 | 246 => ⟨false, [.b], 0⟩
 | _ => ⟨false, [], 0⟩
def tk : Nat → List (Option Sh)
 | 13 => [some xb]
 | 69 => [some sSky]
 | 70 => [some j3]
 | 71 => [some sLaw]
 | 72 => [some (.l 3 (.i .i64))]
 | 73 => [some (.l 164 sI6)]
 | 74 => [some (.l 113 j5)]
 | 75 => [some (.l 169 sI4)]
 | 76 => [some (.l 120 z1)]
 | 77 => [some (.l 174 sI4)]
 | 78 => [some (.l 115 sI6)]
 | 79 => [some (.l 69 sI4)]
 | 150 => [some (.l 115 sI6)]
 | 157 => [some (.l 3 (.i .i64)), none, some (.l 3 (.i .i64))]
 | 158 => [some (.l 224 sI4)]
 | 159 => [some (.l 228 sI3)]
 | 160 => [some (.l 234 sZone)]
 | 161 => [some (.l 157 j4)]
 | 206 => [some (.l 264 sI2)]
 | 207 => [some (.l 147 j2)]
 | _ => []
def ext : (f : Nat) → Option (List AV → Option (RTy (rs f)))
 | 150 => some (vg3 (sh := .a [.i .i64, .i .i64, .i .i64, .i .i64, .i .i64, .i .i64]))
 | 157 => some w53
 | _ => none
noncomputable def E : Env := { P := Tryz.prog, fn := fn, ty := ty, lv := lv, rs := rs, tk := tk, ext := ext }
noncomputable def w62 (k : Nat) (a0 : Int) : Option (Bool) := den E k 225 [cI a0]
theorem egisNaN_int_225 (k : Nat) (a0 : Int) : w62 (k + 1) a0 = some (a0 != a0) := by kernel_rfl
noncomputable def FgLess_int (k : Nat) (a0 : Int) (a1 : Int) : Option (Bool) := den E k 202 [cI a0, cI a1]
theorem egLess_int (k : Nat) (a0 : Int) (a1 : Int) : FgLess_int (k + 1) a0 a1 = (w62 k a0).bind fun p1 => if (p1 == true) = true then (w62 k a1).bind fun p2 => if ((!p2) == false) = true then some (decide (a0 < a1)) else some true else some (decide (a0 < a1)) := by kernel_rfl
noncomputable def z04 (k : Nat) (a0 : Int) : Option (Bool) := den E k 203 [cI a0]
theorem egisNaN_int (k : Nat) (a0 : Int) : z04 (k + 1) a0 = some (a0 != a0) := by kernel_rfl
noncomputable def ww (k : Nat) (a0 : List Int) (a1 : Int) : Option (Int × Bool) := den E k 156 [.c (.l 3 (.i .i64) a0), cI a1]
abbrev vj : Type := (List Int) × Int × Int
abbrev xe : Type := Int × Int
def wx1 (c0 : vj) (v0 : xe) : St := ⟨54, 0, [(0, .c (.l 3 (.i .i64) c0.1)), (1, cI c0.2.1), (6, cI c0.2.2), (7, cI v0.1), (8, cI v0.2)], []⟩
noncomputable def zz1 {R : Type} (k : Nat) (X0 : xe → Option R) (c0 : vj) (rec : xe → Option R) (v0 : xe) : Option R := if (decide (v0.1 < v0.2)) = true then if 0 ≤ (IntKind.i64.wrap (((IntKind.u64.wrap (IntKind.i64.wrap (v0.1 + v0.2)))).fdiv (2 ^ (min (1 : Int).toNat IntKind.u64.bits)))) then ix c0.1 ((IntKind.i64.wrap (((IntKind.u64.wrap (IntKind.i64.wrap (v0.1 + v0.2)))).fdiv (2 ^ (min (1 : Int).toNat IntKind.u64.bits)))).toNat) fun x1 => (FgLess_int k x1 c0.2.1).bind fun p2 => if p2 = true then rec ((IntKind.i64.wrap ((IntKind.i64.wrap (((IntKind.u64.wrap (IntKind.i64.wrap (v0.1 + v0.2)))).fdiv (2 ^ (min (1 : Int).toNat IntKind.u64.bits)))) + 1)), v0.2) else rec (v0.1, (IntKind.i64.wrap (((IntKind.u64.wrap (IntKind.i64.wrap (v0.1 + v0.2)))).fdiv (2 ^ (min (1 : Int).toNat IntKind.u64.bits))))) else none else X0 v0
noncomputable def yx {R : Type} (k : Nat) (X0 : xe → Option R) (c : vj) : Nat → xe → Option R
 | 0, _ => none
 | n + 1, v => zz1 k X0 c (yx k X0 c n) v
def jn1 {R : Type} (K : Ex → St → Option R) (c0 : vj) (v0 : xe) : Option R := K (.exit 0) ⟨54, 0, [(0, .c (.l 3 (.i .i64) c0.1)), (1, cI c0.2.1), (6, cI c0.2.2), (7, cI v0.1), (8, cI v0.2), (13, cI v0.1), (14, cI v0.2), (15, cB (decide (v0.1 < v0.2)))], []⟩
theorem vn3 {R : Type} (k : Nat) (K : Ex → St → Option R) (c0 : vj) : ∀ (n : Nat) (v : xe), j1 [0, 0, 1, 6, 7, 8] (run E (den E k) (lv 156) k (z2 Tryz.f156 0)) n (wx1 c0 v) K = yx k (jn1 K c0) c0 n v := j6 (B := zz1 k (jn1 K c0) c0) (fun _ => rfl) (fun n v => by kernel_rfl) (fun _ => rfl) (fun _ _ => rfl)
theorem jn3 (k : Nat) (a0 : List Int) (a1 : Int) : ww (k + 1) a0 a1 = j1 (R := Int × Bool) [0, 0, 1, 6, 7, 8] (run E (den E k) (lv 156) k (z2 Tryz.f156 0)) k (wx1 (a0, a1, (a0.length : Int)) (0, (a0.length : Int))) (y9 E (den E k) (lv 156) k (za Tryz.f156) 0 [] (j9 E (rs 156) Tryz.f156 : Ex → St → Option (Int × Bool))) := by kernel_rfl
theorem v34 (k : Nat) (a0 : List Int) (a1 : Int) : ww (k + 1) a0 a1 = yx k (fun (v0 : I2) => if ((decide (v0.1 < (a0.length : Int))) == true) = true then if 0 ≤ v0.1 then ix a0 v0.1.toNat fun x1 => if ((x1 == a1) == false) = true then if 0 ≤ v0.1 then ix a0 v0.1.toNat fun x2 => (z04 k x2).bind fun p3 => if (p3 == true) = true then (z04 k a1).bind fun p4 => some (v0.1, p4) else some (v0.1, false) else none else some (v0.1, true) else none else some (v0.1, false)) (a0, a1, (a0.length : Int)) k (0, (a0.length : Int)) := by
 rw [jn3]
 simp only [vn3]
 kernel_rfl
noncomputable def vz3 (k : Nat) (a0 : List Int) (a1 : Int) : Option (Int) := den E k 181 [.c (.l 3 (.i .i64) a0), cI a1]
abbrev vb1 : Type := (List Int) × Int × Int
abbrev wj : Type := Int
def vs3 (c0 : vb1) (v0 : wj) : St := ⟨19, 0, [(0, .c (.l 3 (.i .i64) c0.1)), (1, cI c0.2.1), (7, cI c0.2.2), (8, cI v0)], []⟩
noncomputable def y64 {R : Type} (k : Nat) (X0 : wj → Int → Option R) (X1 : wj → Option R) (c0 : vb1) (rec : wj → Option R) (v0 : wj) : Option R := if (decide (v0 < c0.2.2)) = true then if 0 ≤ v0 then ix c0.1 v0.toNat fun x1 => if (c0.2.1 == x1) = true then X0 v0 x1 else rec (IntKind.i64.wrap (v0 + 1)) else none else X1 v0
noncomputable def vz1 {R : Type} (k : Nat) (X0 : wj → Int → Option R) (X1 : wj → Option R) (c : vb1) : Nat → wj → Option R
 | 0, _ => none
 | n + 1, v => y64 k X0 X1 c (vz1 k X0 X1 c n) v
def z33 {R : Type} (K : Ex → St → Option R) (c0 : vb1) (v0 : wj) (x1 : Int) : Option R := K .ret ⟨19, 0, [(0, .c (.l 3 (.i .i64) c0.1)), (1, cI c0.2.1), (4, cI v0), (5, cI v0), (7, cI c0.2.2), (8, cI v0), (9, cB (decide (v0 < c0.2.2))), (10, cI v0), (11, cI c0.2.1), (12, .c (.l 3 (.i .i64) c0.1)), (13, cI v0), (14, .c (.at_ [vI x1])), (15, cI x1), (16, cB (c0.2.1 == x1)), (17, cI v0)], []⟩
def wc3 {R : Type} (K : Ex → St → Option R) (c0 : vb1) (v0 : wj) : Option R := K (.exit 0) ⟨19, 0, [(0, .c (.l 3 (.i .i64) c0.1)), (1, cI c0.2.1), (7, cI c0.2.2), (8, cI v0), (9, cB (decide (v0 < c0.2.2)))], []⟩
theorem lgIndex_int_0 {R : Type} (k : Nat) (K : Ex → St → Option R) (c0 : vb1) : ∀ (n : Nat) (v : wj), j1 [0, 0, 1, 7, 8] (run E (den E k) (lv 181) k (z2 Tryz.f181 0)) n (vs3 c0 v) K = vz1 k (z33 K c0) (wc3 K c0) c0 n v := j6 (B := y64 k (z33 K c0) (wc3 K c0) c0) (fun _ => rfl) (fun n v => by kernel_rfl) (fun _ => rfl) (fun _ _ => rfl)
theorem mgIndex_int_0 (k : Nat) (a0 : List Int) (a1 : Int) : vz3 (k + 1) a0 a1 = j1 (R := Int) [0, 0, 1, 7, 8] (run E (den E k) (lv 181) k (z2 Tryz.f181 0)) k (vs3 (a0, a1, (a0.length : Int)) 0) (y9 E (den E k) (lv 181) k (za Tryz.f181) 0 [] (j9 E (rs 181) Tryz.f181 : Ex → St → Option (Int))) := by kernel_rfl
theorem egIndex_int (k : Nat) (a0 : List Int) (a1 : Int) : vz3 (k + 1) a0 a1 = vz1 k (fun (v0 : Int) (x1 : Int) => some v0) (fun (v0 : Int) => some (-1)) (a0, a1, (a0.length : Int)) k 0 := by
 rw [mgIndex_int_0]
 simp only [lgIndex_int_0]
 kernel_rfl
noncomputable def wr1 (k : Nat) (a0 : List Int) (a1 : Int) : Option (Bool) := den E k 116 [.c (.l 3 (.i .i64) a0), cI a1]
theorem egContains_int (k : Nat) (a0 : List Int) (a1 : Int) : wr1 (k + 1) a0 a1 = (vz3 k a0 a1).bind fun p1 => some (decide (p1 ≥ 0)) := by kernel_rfl
noncomputable def zb2 (k : Nat) (a0 : List Int) (a1 : Int) (a2 : List Int) : Option (List Int) := den E k 157 [.c (.l 3 (.i .i64) a0), cI a1, .c (.l 3 (.i .i64) a2)]
theorem egInsert_int (k : Nat) (a0 : List Int) (a1 : Int) (a2 : List Int) : zb2 (k + 1) a0 a1 a2 = match a2 with | [x] => if 0 ≤ a1 then if a1 ≤ (a0.length : Int) then if (a0.length + 1) * 8 ≤ 140737488355328 then some (insB a0 a1.toNat x) else none else none else none | _ => none := by kernel_rfl
noncomputable def yx1 (k : Nat) (a0 : Int) (a1 : Int) (a2 : Int) : Option (Bool) := den E k 42 [cI a0, cI a1, cI a2]
theorem eiInRange (k : Nat) (a0 : Int) (a1 : Int) (a2 : Int) : yx1 (k + 1) a0 a1 a2 = if ((decide (a1 ≤ a0)) == true) = true then some (decide (a0 ≤ a2)) else some false := by kernel_rfl
noncomputable def jo1 (k : Nat) (a0 : Int × Int × List Int) : Option (Bool) := den E k 155 [.agg (avs z1 a0)]
abbrev z01 : Type := (List Int) × Int × (Int × Int × List Int)
abbrev ve : Type := Int
def z54 (c0 : z01) (v0 : ve) : St := ⟨52, 1, [(1, cP 0), (22, .c (.l 3 (.i .i64) c0.1)), (23, cI c0.2.1), (24, cI v0)], [(0, .var (avs z1 c0.2.2))]⟩
noncomputable def BiIsStream_0 {R : Type} (k : Nat) (X0 : ve → Int → Int → Option R) (X1 : ve → Int → Option R) (X2 : ve → Int → Option R) (X3 : ve → Option R) (c0 : z01) (rec : ve → Option R) (v0 : ve) : Option R := if (decide (v0 < c0.2.1)) = true then if 0 ≤ v0 then ix c0.1 v0.toNat fun x3 => if ((decide (x3 ≤ c0.2.2.2.1)) == false) = true then if ((decide (x3 > 9999)) == false) = true then if ((decide (v0 > 0)) == true) = true then if 0 ≤ (IntKind.i64.wrap (v0 - 1)) then ix c0.2.2.2.2 ((IntKind.i64.wrap (v0 - 1)).toNat) fun x4 => if (decide (x3 ≤ x4)) = true then X0 v0 x3 x4 else rec (IntKind.i64.wrap (v0 + 1)) else none else rec (IntKind.i64.wrap (v0 + 1)) else X1 v0 x3 else X2 v0 x3 else none else X3 v0
noncomputable def je2 {R : Type} (k : Nat) (X0 : ve → Int → Int → Option R) (X1 : ve → Int → Option R) (X2 : ve → Int → Option R) (X3 : ve → Option R) (c : z01) : Nat → ve → Option R
 | 0, _ => none
 | n + 1, v => BiIsStream_0 k X0 X1 X2 X3 c (je2 k X0 X1 X2 X3 c n) v
def ju3 {R : Type} (K : Ex → St → Option R) (c0 : z01) (v0 : ve) (x3 : Int) (x4 : Int) : Option R := K .ret ⟨52, 1, [(1, cP 0), (2, cB false), (3, cI v0), (4, cI x3), (22, .c (.l 3 (.i .i64) c0.1)), (23, cI c0.2.1), (24, cI v0), (25, cB (decide (v0 < c0.2.1))), (26, cI v0), (27, .c (.at_ [vI x3])), (28, cI x3), (29, cI x3), (30, .c (.ptr 0 1)), (31, cI c0.2.2.2.1), (32, cB (decide (x3 ≤ c0.2.2.2.1))), (33, cB false), (34, cI x3), (35, cB (decide (x3 > 9999))), (36, cB (decide (x3 > 9999))), (37, cB false), (38, cI v0), (39, cB (decide (v0 > 0))), (40, cB true), (41, cI x3), (42, .c (.ptr 0 2)), (43, .c (.l 3 (.i .i64) c0.2.2.2.2)), (44, cI v0), (45, cI (IntKind.i64.wrap (v0 - 1))), (46, .c (.at_ [vI x4])), (47, cI x4), (48, cB (decide (x3 ≤ x4))), (49, cB (decide (x3 ≤ x4))), (50, cB (decide (x3 ≤ x4)))], [(0, .var (avs z1 c0.2.2))]⟩
def xp3 {R : Type} (K : Ex → St → Option R) (c0 : z01) (v0 : ve) (x3 : Int) : Option R := K .ret ⟨52, 1, [(1, cP 0), (2, cB false), (3, cI v0), (4, cI x3), (22, .c (.l 3 (.i .i64) c0.1)), (23, cI c0.2.1), (24, cI v0), (25, cB (decide (v0 < c0.2.1))), (26, cI v0), (27, .c (.at_ [vI x3])), (28, cI x3), (29, cI x3), (30, .c (.ptr 0 1)), (31, cI c0.2.2.2.1), (32, cB (decide (x3 ≤ c0.2.2.2.1))), (33, cB false), (34, cI x3), (35, cB (decide (x3 > 9999))), (36, cB (decide (x3 > 9999))), (37, cB true), (38, .tup []), (39, .tup []), (40, .tup []), (41, .tup []), (42, .tup []), (43, .tup []), (44, .tup []), (45, .tup []), (46, .tup []), (47, .tup []), (48, .tup []), (49, .tup []), (50, cB true)], [(0, .var (avs z1 c0.2.2))]⟩
def jx3 {R : Type} (K : Ex → St → Option R) (c0 : z01) (v0 : ve) (x3 : Int) : Option R := K .ret ⟨52, 1, [(1, cP 0), (2, cB false), (3, cI v0), (4, cI x3), (22, .c (.l 3 (.i .i64) c0.1)), (23, cI c0.2.1), (24, cI v0), (25, cB (decide (v0 < c0.2.1))), (26, cI v0), (27, .c (.at_ [vI x3])), (28, cI x3), (29, cI x3), (30, .c (.ptr 0 1)), (31, cI c0.2.2.2.1), (32, cB (decide (x3 ≤ c0.2.2.2.1))), (33, cB true), (34, .tup []), (35, .tup []), (36, cB true), (37, cB true), (38, .tup []), (39, .tup []), (40, .tup []), (41, .tup []), (42, .tup []), (43, .tup []), (44, .tup []), (45, .tup []), (46, .tup []), (47, .tup []), (48, .tup []), (49, .tup []), (50, cB true)], [(0, .var (avs z1 c0.2.2))]⟩
def jq3 {R : Type} (K : Ex → St → Option R) (c0 : z01) (v0 : ve) : Option R := K (.exit 0) ⟨52, 1, [(1, cP 0), (22, .c (.l 3 (.i .i64) c0.1)), (23, cI c0.2.1), (24, cI v0), (25, cB (decide (v0 < c0.2.1)))], [(0, .var (avs z1 c0.2.2))]⟩
theorem liIsStream_0 {R : Type} (k : Nat) (K : Ex → St → Option R) (c0 : z01) : ∀ (n : Nat) (v : ve), j1 [0, 1, 22, 23, 24] (run E (den E k) (lv 155) k (z2 Tryz.f155 0)) n (z54 c0 v) K = je2 k (ju3 K c0) (xp3 K c0) (jx3 K c0) (jq3 K c0) c0 n v := j6 (B := BiIsStream_0 k (ju3 K c0) (xp3 K c0) (jx3 K c0) (jq3 K c0) c0) (fun _ => rfl) (fun n v => by kernel_rfl) (fun _ => rfl) (fun _ _ => rfl)
theorem miIsStream_0 (k : Nat) (a0 : Int × Int × List Int) : jo1 (k + 1) a0 = (yx1 k a0.1 0 10000).bind fun p1 => if ((!p1) == false) = true then (yx1 k a0.2.1 0 10000).bind fun p2 => if ((!p2) == false) = true then if (decide ((a0.2.2.length : Int) > 20)) = true then some false else j1 (R := Bool) [0, 1, 22, 23, 24] (run E (den E k) (lv 155) k (z2 Tryz.f155 0)) k (z54 (a0.2.2, (a0.2.2.length : Int), a0) 0) (y9 E (den E k) (lv 155) k (za Tryz.f155) 0 [] (j9 E (rs 155) Tryz.f155 : Ex → St → Option (Bool))) else some false else some false := by kernel_rfl
theorem eiIsStream (k : Nat) (a0 : Int × Int × List Int) : jo1 (k + 1) a0 = (yx1 k a0.1 0 10000).bind fun p1 => if ((!p1) == false) = true then (yx1 k a0.2.1 0 10000).bind fun p2 => if ((!p2) == false) = true then if (decide ((a0.2.2.length : Int) > 20)) = true then some false else je2 k (fun (v0 : Int) (x3 : Int) (x4 : Int) => some false) (fun (v0 : Int) (x3 : Int) => some false) (fun (v0 : Int) (x3 : Int) => some false) (fun (v0 : Int) => some true) (a0.2.2, (a0.2.2.length : Int), a0) k 0 else some false else some false := by
 rw [miIsStream_0]
 simp only [liIsStream_0]
 kernel_rfl
noncomputable def vi (k : Nat) (a0 : List Int) : Option (List Int) := den E k 142 [.c (.l 3 (.i .i64) a0)]
theorem egClone_int (k : Nat) (a0 : List Int) : vi (k + 1) a0 = agree (a0.isEmpty) (some ([])) (if (0 + a0.length) * 8 ≤ 140737488355328 then some a0 else none) := by kernel_rfl
noncomputable def ji (k : Nat) (a0 : Int × Int × List Int) : Option (Int × Int × List Int) := den E k 149 [.agg (avs z1 a0)]
theorem eicloneStream (k : Nat) (a0 : Int × Int × List Int) : ji (k + 1) a0 = (vi k a0.2.2).bind fun p1 => some (a0.1, a0.2.1, p1) := by kernel_rfl
noncomputable def xo2 (k : Nat) (a0 : Int × Int × List Int) (a1 : Int) : Option ((Int × Int × List Int) × (List Int) × Bool) := den E k 67 [.agg (avs z1 a0), cI a1]
abbrev y31 : Type := (Int × Int × List Int) × Int × Int × Int
abbrev vg : Type := Int × (List Int) × (List Int)
def zq3 (c0 : y31) (v0 : vg) : St := ⟨85, 5, [(2, cP 0), (4, cP 1), (7, cP 2), (8, .c (.ref 3))], [(0, .var (avs z1 c0.1)), (1, .var [vI c0.2.1, vI c0.2.2.1, .v (.slice none 0 0)]), (2, .var [vI c0.2.2.2, vI v0.1, .ref 4]), (3, .arr 3 (.i .i64) v0.2.1), (4, .arr 3 (.i .i64) v0.2.2)]⟩
noncomputable def jn2 {R : Type} (k : Nat) (X0 : vg → Int → Option R) (X1 : vg → Option R) (c0 : y31) (rec : vg → Option R) (v0 : vg) : Option R := if ((decide ((v0.2.2.length : Int) > 0)) == true) = true then if 0 < (v0.2.2.length : Int) then ix v0.2.2 ((0 : Int).toNat) fun x8 => if (x8 == v0.1) = true then if (v0.2.1.length + ([v0.1]).length) * 8 ≤ 140737488355328 then if 1 ≤ (v0.2.2.length : Int) then if (v0.2.2.length : Int) ≤ (v0.2.2.length : Int) then rec ((IntKind.i64.wrap (v0.1 + 1)), (v0.2.1 ++ [v0.1]), ((v0.2.2.take ((v0.2.2.length : Int).toNat)).drop ((1 : Int).toNat))) else none else none else none else X0 v0 x8 else none else X1 v0
noncomputable def xa1 {R : Type} (k : Nat) (X0 : vg → Int → Option R) (X1 : vg → Option R) (c : y31) : Nat → vg → Option R
 | 0, _ => none
 | n + 1, v => jn2 k X0 X1 c (xa1 k X0 X1 c n) v
def y93 {R : Type} (K : Ex → St → Option R) (c0 : y31) (v0 : vg) (x8 : Int) : Option R := K (.exit 0) ⟨85, 5, [(2, cP 0), (4, cP 1), (7, cP 2), (8, .c (.ref 3)), (51, .c (.ptr 2 2)), (52, .c (.ref 4)), (53, cI (v0.2.2.length : Int)), (54, cB (decide ((v0.2.2.length : Int) > 0))), (55, cB true), (56, .c (.ptr 2 2)), (57, .c (.ref 4)), (58, .c (.el 4 1 ((0 : Int).toNat) 0)), (59, cI x8), (60, .c (.ptr 2 1)), (61, cI v0.1), (62, cB (x8 == v0.1)), (63, cB (x8 == v0.1))], [(0, .var (avs z1 c0.1)), (1, .var [vI c0.2.1, vI c0.2.2.1, .v (.slice none 0 0)]), (2, .var [vI c0.2.2.2, vI v0.1, .ref 4]), (3, .arr 3 (.i .i64) v0.2.1), (4, .arr 3 (.i .i64) v0.2.2)]⟩
def zh3 {R : Type} (K : Ex → St → Option R) (c0 : y31) (v0 : vg) : Option R := K (.exit 0) ⟨85, 5, [(2, cP 0), (4, cP 1), (7, cP 2), (8, .c (.ref 3)), (51, .c (.ptr 2 2)), (52, .c (.ref 4)), (53, cI (v0.2.2.length : Int)), (54, cB (decide ((v0.2.2.length : Int) > 0))), (55, cB false), (56, .tup []), (57, .tup []), (58, .tup []), (59, .tup []), (60, .tup []), (61, .tup []), (62, .tup []), (63, cB false)], [(0, .var (avs z1 c0.1)), (1, .var [vI c0.2.1, vI c0.2.2.1, .v (.slice none 0 0)]), (2, .var [vI c0.2.2.2, vI v0.1, .ref 4]), (3, .arr 3 (.i .i64) v0.2.1), (4, .arr 3 (.i .i64) v0.2.2)]⟩
theorem liAcceptSeq_0 {R : Type} (k : Nat) (K : Ex → St → Option R) (c0 : y31) : ∀ (n : Nat) (v : vg), j1 [0, 2, 4, 7, 8] (run E (den E k) (lv 67) k (z2 Tryz.f67 0)) n (zq3 c0 v) K = xa1 k (y93 K c0) (zh3 K c0) c0 n v := j6 (B := jn2 k (y93 K c0) (zh3 K c0) c0) (fun _ => rfl) (fun n v => by kernel_rfl) (fun _ => rfl) (fun _ _ => rfl)
theorem miAcceptSeq_0 (k : Nat) (a0 : Int × Int × List Int) (a1 : Int) : xo2 (k + 1) a0 a1 = (jo1 k a0).bind fun p1 => if ((!p1) == false) = true then (yx1 k a1 0 9999).bind fun p2 => if (!p2) = true then (ji k a0).bind fun p3 => some (p3, [], false) else (ji k a0).bind fun p4 => if ((decide (a1 < a0.2.1)) == false) = true then (wr1 k a0.2.2 a1).bind fun p5 => if p5 = true then some (p4, [], true) else (ww k p4.2.2 a1).bind fun p6 => (zb2 k p4.2.2 p6.1 [a1]).bind fun p7 => j1 (R := (Int × Int × List Int) × (List Int) × Bool) [0, 2, 4, 7, 8] (run E (den E k) (lv 67) k (z2 Tryz.f67 0)) k (zq3 (a0, 0, 0, p4.1) (p4.2.1, [], p7)) (y9 E (den E k) (lv 67) k (za Tryz.f67) 0 [] (j9 E (rs 67) Tryz.f67 : Ex → St → Option ((Int × Int × List Int) × (List Int) × Bool))) else some (p4, [], true) else (ji k a0).bind fun p9 => some (p9, [], false) := by kernel_rfl
theorem eiAcceptSeq (k : Nat) (a0 : Int × Int × List Int) (a1 : Int) : xo2 (k + 1) a0 a1 = (jo1 k a0).bind fun p1 => if ((!p1) == false) = true then (yx1 k a1 0 9999).bind fun p2 => if (!p2) = true then (ji k a0).bind fun p3 => some (p3, [], false) else (ji k a0).bind fun p4 => if ((decide (a1 < a0.2.1)) == false) = true then (wr1 k a0.2.2 a1).bind fun p5 => if p5 = true then some (p4, [], true) else (ww k p4.2.2 a1).bind fun p6 => (zb2 k p4.2.2 p6.1 [a1]).bind fun p7 => xa1 k (fun (v0 : Int × (List Int) × (List Int)) (x8 : Int) => (jo1 k (p4.1, v0.1, v0.2.2)).bind fun p8 => if (!p8) = true then (ji k a0).bind fun p9 => some (p9, [], false) else some ((p4.1, v0.1, v0.2.2), v0.2.1, true)) (fun (v0 : Int × (List Int) × (List Int)) => (jo1 k (p4.1, v0.1, v0.2.2)).bind fun p10 => if (!p10) = true then (ji k a0).bind fun p11 => some (p11, [], false) else some ((p4.1, v0.1, v0.2.2), v0.2.1, true)) (a0, 0, 0, p4.1) k (p4.2.1, [], p7) else some (p4, [], true) else (ji k a0).bind fun p12 => some (p12, [], false) := by
 rw [miAcceptSeq_0]
 simp only [liAcceptSeq_0]
 kernel_rfl
noncomputable def zf3 (k : Nat) (a0 : I6) (a1 : Int) : Option (Bool) := den E k 152 [.agg (avs sI6 a0), .c (.at_ [vI a1])]
theorem eiFindPacket_1v (k : Nat) (a0 : I6) (a1 : Int) : zf3 (k + 1) a0 a1 = some (a0.1 == a1) := by kernel_rfl
noncomputable def zj (k : Nat) (a0 : List I6) (a1 : Int) : Option (Int) := den E k 151 [.c (.l 115 sI6 a0), .c (.clo 152 [.at_ [vI a1]])]
abbrev wa : Type := (List I6) × Int × Int
abbrev z7 : Type := Int
def zp (c0 : wa) (v0 : z7) : St := ⟨19, 0, [(0, .c (.l 115 sI6 c0.1)), (1, .c (.clo 152 [.at_ [vI c0.2.1]])), (7, cI c0.2.2), (8, cI v0)], []⟩
noncomputable def yt {R : Type} (k : Nat) (X0 : z7 → I6 → Bool → Option R) (X1 : z7 → Option R) (c0 : wa) (rec : z7 → Option R) (v0 : z7) : Option R := if (decide (v0 < c0.2.2)) = true then if 0 ≤ v0 then ix c0.1 v0.toNat fun x1 => (zf3 k x1 c0.2.1).bind fun p2 => if p2 = true then X0 v0 x1 p2 else rec (IntKind.i64.wrap (v0 + 1)) else none else X1 v0
noncomputable def yf {R : Type} (k : Nat) (X0 : z7 → I6 → Bool → Option R) (X1 : z7 → Option R) (c : wa) : Nat → z7 → Option R
 | 0, _ => none
 | n + 1, v => yt k X0 X1 c (yf k X0 X1 c n) v
def zo {R : Type} (K : Ex → St → Option R) (c0 : wa) (v0 : z7) (x1 : I6) (p2 : Bool) : Option R := K .ret ⟨19, 0, [(0, .c (.l 115 sI6 c0.1)), (1, .c (.clo 152 [.at_ [vI c0.2.1]])), (4, cI v0), (5, cI v0), (7, cI c0.2.2), (8, cI v0), (9, cB (decide (v0 < c0.2.2))), (10, cI v0), (11, .c (.clo 152 [.at_ [vI c0.2.1]])), (12, .c (.l 115 sI6 c0.1)), (13, cI v0), (14, .c (.at_ (avs sI6 x1))), (15, .agg (avs sI6 x1)), (16, cB p2), (17, cI v0)], []⟩
def vn {R : Type} (K : Ex → St → Option R) (c0 : wa) (v0 : z7) : Option R := K (.exit 0) ⟨19, 0, [(0, .c (.l 115 sI6 c0.1)), (1, .c (.clo 152 [.at_ [vI c0.2.1]])), (7, cI c0.2.2), (8, cI v0), (9, cB (decide (v0 < c0.2.2)))], []⟩
theorem zh1 {R : Type} (k : Nat) (K : Ex → St → Option R) (c0 : wa) : ∀ (n : Nat) (v : z7), j1 [0, 0, 1, 7, 8] (run E (den E k) (lv 151) k (z2 Tryz.f151 0)) n (zp c0 v) K = yf k (zo K c0) (vn K c0) c0 n v := j6 (B := yt k (zo K c0) (vn K c0) c0) (fun _ => rfl) (fun n v => by kernel_rfl) (fun _ => rfl) (fun _ _ => rfl)
theorem jg1 (k : Nat) (a0 : List I6) (a1 : Int) : zj (k + 1) a0 a1 = j1 (R := Int) [0, 0, 1, 7, 8] (run E (den E k) (lv 151) k (z2 Tryz.f151 0)) k (zp (a0, a1, (a0.length : Int)) 0) (y9 E (den E k) (lv 151) k (za Tryz.f151) 0 [] (j9 E (rs 151) Tryz.f151 : Ex → St → Option (Int))) := by kernel_rfl
theorem xn1 (k : Nat) (a0 : List I6) (a1 : Int) : zj (k + 1) a0 a1 = yf k (fun (v0 : Int) (x1 : I6) (p2 : Bool) => some v0) (fun (v0 : Int) => some (-1)) (a0, a1, (a0.length : Int)) k 0 := by
 rw [jg1]
 simp only [zh1]
 kernel_rfl
noncomputable def zd2 (k : Nat) (a0 : List I6) (a1 : Int) : Option (Int) := den E k 65 [.agg [.l 115 sI6 a0], cI a1]
theorem eiFindPacket (k : Nat) (a0 : List I6) (a1 : Int) : zd2 (k + 1) a0 a1 = (zj k a0 a1).bind fun p1 => some p1 := by kernel_rfl
noncomputable def z61 (k : Nat) (a0 : List I6) : Option (List I6) := den E k 146 [.c (.l 115 sI6 a0)]
theorem egClone_Packet (k : Nat) (a0 : List I6) : z61 (k + 1) a0 = agree (a0.isEmpty) (some ([])) (if (0 + a0.length) * 48 ≤ 140737488355328 then some a0 else none) := by kernel_rfl
noncomputable def vx1 (k : Nat) (a0 : List I6) : Option (List I6) := den E k 148 [.agg [.l 115 sI6 a0]]
theorem eicloneQueue (k : Nat) (a0 : List I6) : vx1 (k + 1) a0 = (z61 k a0).bind fun p1 => some p1 := by kernel_rfl
noncomputable def yg3 (k : Nat) (a0 : List I6) (a1 : I6) : Option ((List I6) × Bool) := den E k 68 [.agg [.l 115 sI6 a0], .agg (avs sI6 a1)]
theorem eiPushPacket (k : Nat) (a0 : List I6) (a1 : I6) : yg3 (k + 1) a0 a1 = (vx1 k a0).bind fun p1 => if ((decide ((a0.length : Int) ≥ 12)) == false) = true then (zd2 k a0 a1.1).bind fun p2 => if (decide (p2 ≥ 0)) = true then some (p1, false) else if (p1.length + ([a1]).length) * 48 ≤ 140737488355328 then some ((p1 ++ [a1]), true) else none else some (p1, false) := by kernel_rfl
noncomputable def j72 (k : Nat) (a0 : List I6) (a1 : Int) (a2 : Int) : Option (List I6) := den E k 150 [.c (.l 115 sI6 a0), cI a1, cI a2]
theorem egDelete_Packet (k : Nat) (a0 : List I6) (a1 : Int) (a2 : Int) : j72 (k + 1) a0 a1 a2 = if 0 ≤ a1 then if a1 < a2 then if a2 ≤ (a0.length : Int) then some (a0.take a1.toNat ++ a0.drop a2.toNat) else none else none else none := by kernel_rfl
noncomputable def y63 (k : Nat) (a0 : Int) (a1 : Int) : Option (Bool) := den E k 41 [cI a0, cI a1]
theorem eiisIndex (k : Nat) (a0 : Int) (a1 : Int) : y63 (k + 1) a0 a1 = if ((decide (a0 ≥ 0)) == true) = true then some (decide (a0 < a1)) else some false := by kernel_rfl
noncomputable def jf3 (k : Nat) (a0 : List I6) (a1 : Int) : Option ((List I6) × I6 × Bool) := den E k 64 [.agg [.l 115 sI6 a0], cI a1]
theorem eiTakePacket (k : Nat) (a0 : List I6) (a1 : Int) : jf3 (k + 1) a0 a1 = (vx1 k a0).bind fun p1 => (y63 k a1 (a0.length : Int)).bind fun p2 => if (!p2) = true then some (p1, (0, 0, 0, 0, 0, 0), false) else (j72 k p1 a1 (IntKind.i64.wrap (a1 + 1))).bind fun p3 => if 0 ≤ a1 then ix a0 a1.toNat fun x4 => some (p3, x4, true) else none := by kernel_rfl
noncomputable def x71 (k : Nat) (a0 : List I6) : Option (List I6) := den E k 143 [.c (.l 164 sI6 a0)]
theorem egClone_Battery (k : Nat) (a0 : List I6) : x71 (k + 1) a0 = agree (a0.isEmpty) (some ([])) (if (0 + a0.length) * 48 ≤ 140737488355328 then some a0 else none) := by kernel_rfl
noncomputable def vn1 (k : Nat) (a0 : List I4) : Option (List I4) := den E k 145 [.c (.l 174 sI4 a0)]
theorem egClone_Fault (k : Nat) (a0 : List I4) : vn1 (k + 1) a0 = agree (a0.isEmpty) (some ([])) (if (0 + a0.length) * 32 ≤ 140737488355328 then some a0 else none) := by kernel_rfl
noncomputable def yv1 (k : Nat) (a0 : List I4) : Option (List I4) := den E k 144 [.c (.l 169 sI4 a0)]
theorem egClone_Flow (k : Nat) (a0 : List I4) : yv1 (k + 1) a0 = agree (a0.isEmpty) (some ([])) (if (0 + a0.length) * 32 ≤ 140737488355328 then some a0 else none) := by kernel_rfl
noncomputable def jw1 (k : Nat) (a0 : List I4) : Option (List I4) := den E k 147 [.c (.l 69 sI4 a0)]
theorem egClone_Sent (k : Nat) (a0 : List I4) : jw1 (k + 1) a0 = agree (a0.isEmpty) (some ([])) (if (0 + a0.length) * 32 ≤ 140737488355328 then some a0 else none) := by kernel_rfl
noncomputable def vc3 (k : Nat) (a0 : List I2) : Option (List I2) := den E k 233 [.c (.l 264 sI2 a0)]
theorem egClone_Link (k : Nat) (a0 : List I2) : vc3 (k + 1) a0 = agree (a0.isEmpty) (some ([])) (if (0 + a0.length) * 16 ≤ 140737488355328 then some a0 else none) := by kernel_rfl
noncomputable def yg2 (k : Nat) (a0 : List I2) : Option (List I2) := den E k 201 [.c (.l 264 sI2 a0)]
theorem eicloneLinks (k : Nat) (a0 : List I2) : yg2 (k + 1) a0 = (vc3 k a0).bind fun p1 => some p1 := by kernel_rfl
noncomputable def v43 (k : Nat) (a0 : Int × (List Int) × List Int) : Option (Int × (List Int) × List Int) := den E k 186 [.agg (avs j2 a0)]
theorem eicloneTable (k : Nat) (a0 : Int × (List Int) × List Int) : v43 (k + 1) a0 = (vi k a0.2.1).bind fun p1 => (vi k a0.2.2).bind fun p2 => some (a0.1, p1, p2) := by kernel_rfl
noncomputable def x61 (k : Nat) (a0 : xd) : Option xd := den E k 141 [.agg (avs j3 a0)]
abbrev j31 : Type := (List v7) × Int × Int × (List (Int × (List Int) × List Int)) × Int × xd × Int × Int × Int × (List v7) × I2 × (List I2)
abbrev zk : Type := Int × (List (Int × (List Int) × List Int))
def zm2 (c1 : j31) (v1 : zk) : St := ⟨46, 6, [(1, cP 0), (2, cP 1), (3, .c (.ref 2)), (6, cP 3), (11, .c (.l 157 j4 c1.1)), (12, cI c1.2.1), (13, cI c1.2.2.1), (24, .c (.l 147 j2 c1.2.2.2.1)), (25, cI c1.2.2.2.2.1), (26, cI v1.1)], [(0, .var (avs j3 c1.2.2.2.2.2.1)), (1, .var [vI c1.2.2.2.2.2.2.1, vI c1.2.2.2.2.2.2.2.1, vI c1.2.2.2.2.2.2.2.2.1, .v (.slice none 0 0)]), (2, .arr 157 j4 c1.2.2.2.2.2.2.2.2.2.1), (3, .var [vI c1.2.2.2.2.2.2.2.2.2.2.1.1, vI c1.2.2.2.2.2.2.2.2.2.2.1.2, .ref 4, .ref 5]), (4, .arr 264 sI2 c1.2.2.2.2.2.2.2.2.2.2.2), (5, .arr 147 j2 v1.2)]⟩
noncomputable def vw2 {R : Type} (k : Nat) (X0 : zk → Option R) (c1 : j31) (rec : zk → Option R) (v1 : zk) : Option R := if (decide (v1.1 < c1.2.2.2.2.1)) = true then if 0 ≤ v1.1 then ix c1.2.2.2.1 v1.1.toNat fun x3 => (v43 k x3).bind fun p4 => if (v1.2.length + ([p4]).length) * 56 ≤ 140737488355328 then rec ((IntKind.i64.wrap (v1.1 + 1)), (v1.2 ++ [p4])) else none else none else X0 v1
noncomputable def ve1 {R : Type} (k : Nat) (X0 : zk → Option R) (c : j31) : Nat → zk → Option R
 | 0, _ => none
 | n + 1, v => vw2 k X0 c (ve1 k X0 c n) v
def v92 {R : Type} (K : Ex → St → Option R) (c1 : j31) (v1 : zk) : Option R := K (.exit 2) ⟨46, 6, [(1, cP 0), (2, cP 1), (3, .c (.ref 2)), (6, cP 3), (11, .c (.l 157 j4 c1.1)), (12, cI c1.2.1), (13, cI c1.2.2.1), (24, .c (.l 147 j2 c1.2.2.2.1)), (25, cI c1.2.2.2.2.1), (26, cI v1.1), (27, cB (decide (v1.1 < c1.2.2.2.2.1)))], [(0, .var (avs j3 c1.2.2.2.2.2.1)), (1, .var [vI c1.2.2.2.2.2.2.1, vI c1.2.2.2.2.2.2.2.1, vI c1.2.2.2.2.2.2.2.2.1, .v (.slice none 0 0)]), (2, .arr 157 j4 c1.2.2.2.2.2.2.2.2.2.1), (3, .var [vI c1.2.2.2.2.2.2.2.2.2.2.1.1, vI c1.2.2.2.2.2.2.2.2.2.2.1.2, .ref 4, .ref 5]), (4, .arr 264 sI2 c1.2.2.2.2.2.2.2.2.2.2.2), (5, .arr 147 j2 v1.2)]⟩
theorem licloneProgram_1 {R : Type} (k : Nat) (K : Ex → St → Option R) (c1 : j31) : ∀ (n : Nat) (v : zk), j1 [0, 1, 2, 3, 6, 11, 12, 13, 24, 25, 26] (run E (den E k) (lv 141) k (z2 Tryz.f141 1)) n (zm2 c1 v) K = ve1 k (v92 K c1) c1 n v := j6 (B := vw2 k (v92 K c1) c1) (fun _ => rfl) (fun n v => by kernel_rfl) (fun _ => rfl) (fun _ _ => rfl)
abbrev wn : Type := (List v7) × Int × xd × Int × Int × Int
abbrev xg : Type := Int × (List v7)
def wx (c0 : wn) (v0 : xg) : St := ⟨46, 3, [(1, cP 0), (2, cP 1), (3, .c (.ref 2)), (11, .c (.l 157 j4 c0.1)), (12, cI c0.2.1), (13, cI v0.1)], [(0, .var (avs j3 c0.2.2.1)), (1, .var [vI c0.2.2.2.1, vI c0.2.2.2.2.1, vI c0.2.2.2.2.2, .v (.slice none 0 0)]), (2, .arr 157 j4 v0.2)]⟩
noncomputable def xy1 {R : Type} (k : Nat) (X0 : xg → Option R) (c0 : wn) (rec : xg → Option R) (v0 : xg) : Option R := if (decide (v0.1 < c0.2.1)) = true then if 0 ≤ v0.1 then ix c0.1 v0.1.toNat fun x1 => (yg2 k x1.2.1).bind fun p2 => ve1 k (fun (v1 : Int × (List (Int × (List Int) × List Int))) => if (v0.2.length + ([(x1.1, p2, v1.2)]).length) * 64 ≤ 140737488355328 then rec ((IntKind.i64.wrap (v0.1 + 1)), (v0.2 ++ [(x1.1, p2, v1.2)])) else none) (c0.1, c0.2.1, v0.1, x1.2.2, (x1.2.2.length : Int), c0.2.2.1, c0.2.2.2.1, c0.2.2.2.2.1, c0.2.2.2.2.2, v0.2, x1.1, p2) k (0, []) else none else X0 v0
noncomputable def xf1 {R : Type} (k : Nat) (X0 : xg → Option R) (c : wn) : Nat → xg → Option R
 | 0, _ => none
 | n + 1, v => xy1 k X0 c (xf1 k X0 c n) v
def zn1 {R : Type} (K : Ex → St → Option R) (c0 : wn) (v0 : xg) : Option R := K (.exit 0) ⟨46, 3, [(1, cP 0), (2, cP 1), (3, .c (.ref 2)), (11, .c (.l 157 j4 c0.1)), (12, cI c0.2.1), (13, cI v0.1), (14, cB (decide (v0.1 < c0.2.1)))], [(0, .var (avs j3 c0.2.2.1)), (1, .var [vI c0.2.2.2.1, vI c0.2.2.2.2.1, vI c0.2.2.2.2.2, .v (.slice none 0 0)]), (2, .arr 157 j4 v0.2)]⟩
theorem z24 {R : Type} (k n : Nat) (K : Ex → St → Option R) (c0 : wn) (v0 : xg) : j1 [0, 1, 2, 3, 11, 12, 13] (run E (den E k) (lv 141) k (z2 Tryz.f141 0)) (n + 1) (wx c0 v0) K = if (decide (v0.1 < c0.2.1)) = true then if 0 ≤ v0.1 then ix c0.1 v0.1.toNat fun x1 => (yg2 k x1.2.1).bind fun p2 => j1 [0, 1, 2, 3, 6, 11, 12, 13, 24, 25, 26] (run E (den E k) (lv 141) k (z2 Tryz.f141 1)) k (zm2 (c0.1, c0.2.1, v0.1, x1.2.2, (x1.2.2.length : Int), c0.2.2.1, c0.2.2.2.1, c0.2.2.2.2.1, c0.2.2.2.2.2, v0.2, x1.1, p2) (0, [])) (y9 E (den E k) (lv 141) k (.loop (z2 Tryz.f141 0)) (1 - 0) [(n, [0, 1, 2, 3, 11, 12, 13])] K) else none else K (.exit 0) ⟨46, 3, [(1, cP 0), (2, cP 1), (3, .c (.ref 2)), (11, .c (.l 157 j4 c0.1)), (12, cI c0.2.1), (13, cI v0.1), (14, cB (decide (v0.1 < c0.2.1)))], [(0, .var (avs j3 c0.2.2.1)), (1, .var [vI c0.2.2.2.1, vI c0.2.2.2.2.1, vI c0.2.2.2.2.2, .v (.slice none 0 0)]), (2, .arr 157 j4 v0.2)]⟩ := by kernel_rfl
theorem bicloneProgram_0 {R : Type} (k n : Nat) (K : Ex → St → Option R) (c0 : wn) (v : xg) : j1 [0, 1, 2, 3, 11, 12, 13] (run E (den E k) (lv 141) k (z2 Tryz.f141 0)) (n + 1) (wx c0 v) K = xy1 k (zn1 K c0) c0 (fun v => j1 [0, 1, 2, 3, 11, 12, 13] (run E (den E k) (lv 141) k (z2 Tryz.f141 0)) n (wx c0 v) K) v := by
 rw [z24]
 simp only [licloneProgram_1]
 kernel_rfl
theorem licloneProgram_0 {R : Type} (k : Nat) (K : Ex → St → Option R) (c0 : wn) : ∀ (n : Nat) (v : xg), j1 [0, 1, 2, 3, 11, 12, 13] (run E (den E k) (lv 141) k (z2 Tryz.f141 0)) n (wx c0 v) K = xf1 k (zn1 K c0) c0 n v := j6 (B := xy1 k (zn1 K c0) c0) (fun _ => rfl) (fun n v => bicloneProgram_0 k n K c0 v) (fun _ => rfl) (fun _ _ => rfl)
theorem micloneProgram_0 (k : Nat) (a0 : xd) : x61 (k + 1) a0 = j1 (R := Int × Int × Int × List v7) [0, 1, 2, 3, 11, 12, 13] (run E (den E k) (lv 141) k (z2 Tryz.f141 0)) k (wx (a0.2.2.2, (a0.2.2.2.length : Int), a0, 0, 0, 0) (0, [])) (y9 E (den E k) (lv 141) k (za Tryz.f141) 0 [] (j9 E (rs 141) Tryz.f141 : Ex → St → Option xd)) := by kernel_rfl
theorem eicloneProgram (k : Nat) (a0 : xd) : x61 (k + 1) a0 = xf1 k (fun (v0 : Int × (List v7)) => some (a0.1, a0.2.1, a0.2.2.1, v0.2)) (a0.2.2.2, (a0.2.2.2.length : Int), a0, 0, 0, 0) k (0, []) := by
 rw [micloneProgram_0]
 simp only [licloneProgram_0]
 kernel_rfl
noncomputable def x04 (k : Nat) (a0 : List I4) : Option (List I4) := den E k 198 [.c (.l 224 sI4 a0)]
theorem egClone_Sat (k : Nat) (a0 : List I4) : x04 (k + 1) a0 = agree (a0.isEmpty) (some ([])) (if (0 + a0.length) * 32 ≤ 140737488355328 then some a0 else none) := by kernel_rfl
noncomputable def x93 (k : Nat) (a0 : List I3) : Option (List I3) := den E k 199 [.c (.l 228 sI3 a0)]
theorem egClone_Site (k : Nat) (a0 : List I3) : x93 (k + 1) a0 = agree (a0.isEmpty) (some ([])) (if (0 + a0.length) * 24 ≤ 140737488355328 then some a0 else none) := by kernel_rfl
noncomputable def wf3 (k : Nat) (a0 : List I3) : Option (List I3) := den E k 200 [.c (.l 234 sZone a0)]
theorem egClone_Zone (k : Nat) (a0 : List I3) : wf3 (k + 1) a0 = agree (a0.isEmpty) (some ([])) (if (0 + a0.length) * 24 ≤ 140737488355328 then some a0 else none) := by kernel_rfl
noncomputable def wj2 (k : Nat) (a0 : TSky) : Option TSky := den E k 140 [.agg (avs sSky a0)]
theorem eicloneSky (k : Nat) (a0 : TSky) : wj2 (k + 1) a0 = (x04 k a0.2.1).bind fun p1 => (x93 k a0.2.2.1).bind fun p2 => (wf3 k a0.2.2.2.2.2.2.2.2.1).bind fun p3 => some (a0.1, p1, p2, a0.2.2.2.1, a0.2.2.2.2.1, a0.2.2.2.2.2.1, a0.2.2.2.2.2.2.1, a0.2.2.2.2.2.2.2.1, p3, a0.2.2.2.2.2.2.2.2.2) := by kernel_rfl
noncomputable def yh (k : Nat) (a0 : wg) : Option wg := den E k 63 [.agg (avs xb a0)]
abbrev ze1 : Type := wg × (List (List I6)) × Int × Int × (List (Int × Int × List Int)) × Int × Int × Int × Int × Int × Int × Int × Int × Int × Int × Int × Int × Int × Int × Int × Int × Int × Int × Int × Int × Int × Int × Int × Int × Int × (List I4) × (List I3) × (List I3) × (List v7) × (List Int) × (List Int) × (List I6) × (List (List I6)) × (List I4) × (List Int) × (List I4) × (List I6) × (List I4)
abbrev vp : Type := Int × (List (Int × Int × List Int))
def jb3 (c1 : ze1) (v1 : vp) : St := ⟨84, 16, [(1, .c (.at_ (avs xb c1.1))), (2, cP 0), (3, cP 1), (54, .c (.l 113 j5 c1.2.1)), (55, cI c1.2.2.1), (56, cI c1.2.2.2.1), (69, .c (.l 120 z1 c1.2.2.2.2.1)), (70, cI c1.2.2.2.2.2.1), (71, cI v1.1)], [(0, .var [vI c1.2.2.2.2.2.2.1, .v (.slice none 0 0), .v (.slice none 0 0), vI c1.2.2.2.2.2.2.2.1, vI c1.2.2.2.2.2.2.2.2.1, vI c1.2.2.2.2.2.2.2.2.2.1, vI c1.2.2.2.2.2.2.2.2.2.2.1, vI c1.2.2.2.2.2.2.2.2.2.2.2.1, .v (.slice none 0 0), vI c1.2.2.2.2.2.2.2.2.2.2.2.2.1, vI c1.2.2.2.2.2.2.2.2.2.2.2.2.2.1, vI c1.2.2.2.2.2.2.2.2.2.2.2.2.2.2.1, vI c1.2.2.2.2.2.2.2.2.2.2.2.2.2.2.2.1, .v (.slice none 0 0), .v (.slice none 0 0), .v (.slice none 0 0), .v (.slice none 0 0), .v (.slice none 0 0), .v (.slice none 0 0), .v (.slice none 0 0), .v (.slice none 0 0), .v (.slice none 0 0), vI c1.2.2.2.2.2.2.2.2.2.2.2.2.2.2.2.2.1, vI c1.2.2.2.2.2.2.2.2.2.2.2.2.2.2.2.2.2.1, .v (.slice none 0 0), .v (.slice none 0 0)]), (1, .var [vI c1.2.2.2.2.2.2.2.2.2.2.2.2.2.2.2.2.2.2.1, .ref 2, .ref 3, vI c1.2.2.2.2.2.2.2.2.2.2.2.2.2.2.2.2.2.2.2.1, vI c1.2.2.2.2.2.2.2.2.2.2.2.2.2.2.2.2.2.2.2.2.1, vI c1.2.2.2.2.2.2.2.2.2.2.2.2.2.2.2.2.2.2.2.2.2.1, vI c1.2.2.2.2.2.2.2.2.2.2.2.2.2.2.2.2.2.2.2.2.2.2.1, vI c1.2.2.2.2.2.2.2.2.2.2.2.2.2.2.2.2.2.2.2.2.2.2.2.1, .ref 4, vI c1.2.2.2.2.2.2.2.2.2.2.2.2.2.2.2.2.2.2.2.2.2.2.2.2.1, vI c1.2.2.2.2.2.2.2.2.2.2.2.2.2.2.2.2.2.2.2.2.2.2.2.2.2.1, vI c1.2.2.2.2.2.2.2.2.2.2.2.2.2.2.2.2.2.2.2.2.2.2.2.2.2.2.1, vI c1.2.2.2.2.2.2.2.2.2.2.2.2.2.2.2.2.2.2.2.2.2.2.2.2.2.2.2.1, .ref 5, .ref 6, .ref 7, .ref 8, .ref 9, .ref 10, .ref 11, .ref 12, .ref 13, vI c1.2.2.2.2.2.2.2.2.2.2.2.2.2.2.2.2.2.2.2.2.2.2.2.2.2.2.2.2.1, vI c1.2.2.2.2.2.2.2.2.2.2.2.2.2.2.2.2.2.2.2.2.2.2.2.2.2.2.2.2.2.1, .ref 14, .ref 15]), (2, .arr 224 sI4 c1.2.2.2.2.2.2.2.2.2.2.2.2.2.2.2.2.2.2.2.2.2.2.2.2.2.2.2.2.2.2.1), (3, .arr 228 sI3 c1.2.2.2.2.2.2.2.2.2.2.2.2.2.2.2.2.2.2.2.2.2.2.2.2.2.2.2.2.2.2.2.1), (4, .arr 234 sZone c1.2.2.2.2.2.2.2.2.2.2.2.2.2.2.2.2.2.2.2.2.2.2.2.2.2.2.2.2.2.2.2.2.1), (5, .arr 157 j4 c1.2.2.2.2.2.2.2.2.2.2.2.2.2.2.2.2.2.2.2.2.2.2.2.2.2.2.2.2.2.2.2.2.2.1), (6, .arr 3 (.i .i64) c1.2.2.2.2.2.2.2.2.2.2.2.2.2.2.2.2.2.2.2.2.2.2.2.2.2.2.2.2.2.2.2.2.2.2.1), (7, .arr 3 (.i .i64) c1.2.2.2.2.2.2.2.2.2.2.2.2.2.2.2.2.2.2.2.2.2.2.2.2.2.2.2.2.2.2.2.2.2.2.2.1), (8, .arr 164 sI6 c1.2.2.2.2.2.2.2.2.2.2.2.2.2.2.2.2.2.2.2.2.2.2.2.2.2.2.2.2.2.2.2.2.2.2.2.2.1), (9, .arr 113 j5 c1.2.2.2.2.2.2.2.2.2.2.2.2.2.2.2.2.2.2.2.2.2.2.2.2.2.2.2.2.2.2.2.2.2.2.2.2.2.1), (10, .arr 169 sI4 c1.2.2.2.2.2.2.2.2.2.2.2.2.2.2.2.2.2.2.2.2.2.2.2.2.2.2.2.2.2.2.2.2.2.2.2.2.2.2.1), (11, .arr 3 (.i .i64) c1.2.2.2.2.2.2.2.2.2.2.2.2.2.2.2.2.2.2.2.2.2.2.2.2.2.2.2.2.2.2.2.2.2.2.2.2.2.2.2.1), (12, .arr 120 z1 v1.2), (13, .arr 174 sI4 c1.2.2.2.2.2.2.2.2.2.2.2.2.2.2.2.2.2.2.2.2.2.2.2.2.2.2.2.2.2.2.2.2.2.2.2.2.2.2.2.2.1), (14, .arr 115 sI6 c1.2.2.2.2.2.2.2.2.2.2.2.2.2.2.2.2.2.2.2.2.2.2.2.2.2.2.2.2.2.2.2.2.2.2.2.2.2.2.2.2.2.1), (15, .arr 69 sI4 c1.2.2.2.2.2.2.2.2.2.2.2.2.2.2.2.2.2.2.2.2.2.2.2.2.2.2.2.2.2.2.2.2.2.2.2.2.2.2.2.2.2.2)]⟩
noncomputable def vr3 {R : Type} (k : Nat) (X0 : vp → Option R) (c1 : ze1) (rec : vp → Option R) (v1 : vp) : Option R := if (decide (v1.1 < c1.2.2.2.2.2.1)) = true then if 0 ≤ v1.1 then ix c1.2.2.2.2.1 v1.1.toNat fun x11 => (ji k x11).bind fun p12 => if (v1.2.length + ([p12]).length) * 40 ≤ 140737488355328 then rec ((IntKind.i64.wrap (v1.1 + 1)), (v1.2 ++ [p12])) else none else none else X0 v1
noncomputable def jq1 {R : Type} (k : Nat) (X0 : vp → Option R) (c : ze1) : Nat → vp → Option R
 | 0, _ => none
 | n + 1, v => vr3 k X0 c (jq1 k X0 c n) v
def zy2 {R : Type} (K : Ex → St → Option R) (c1 : ze1) (v1 : vp) : Option R := K (.exit 2) ⟨84, 16, [(1, .c (.at_ (avs xb c1.1))), (2, cP 0), (3, cP 1), (54, .c (.l 113 j5 c1.2.1)), (55, cI c1.2.2.1), (56, cI c1.2.2.2.1), (69, .c (.l 120 z1 c1.2.2.2.2.1)), (70, cI c1.2.2.2.2.2.1), (71, cI v1.1), (72, cB (decide (v1.1 < c1.2.2.2.2.2.1)))], [(0, .var [vI c1.2.2.2.2.2.2.1, .v (.slice none 0 0), .v (.slice none 0 0), vI c1.2.2.2.2.2.2.2.1, vI c1.2.2.2.2.2.2.2.2.1, vI c1.2.2.2.2.2.2.2.2.2.1, vI c1.2.2.2.2.2.2.2.2.2.2.1, vI c1.2.2.2.2.2.2.2.2.2.2.2.1, .v (.slice none 0 0), vI c1.2.2.2.2.2.2.2.2.2.2.2.2.1, vI c1.2.2.2.2.2.2.2.2.2.2.2.2.2.1, vI c1.2.2.2.2.2.2.2.2.2.2.2.2.2.2.1, vI c1.2.2.2.2.2.2.2.2.2.2.2.2.2.2.2.1, .v (.slice none 0 0), .v (.slice none 0 0), .v (.slice none 0 0), .v (.slice none 0 0), .v (.slice none 0 0), .v (.slice none 0 0), .v (.slice none 0 0), .v (.slice none 0 0), .v (.slice none 0 0), vI c1.2.2.2.2.2.2.2.2.2.2.2.2.2.2.2.2.1, vI c1.2.2.2.2.2.2.2.2.2.2.2.2.2.2.2.2.2.1, .v (.slice none 0 0), .v (.slice none 0 0)]), (1, .var [vI c1.2.2.2.2.2.2.2.2.2.2.2.2.2.2.2.2.2.2.1, .ref 2, .ref 3, vI c1.2.2.2.2.2.2.2.2.2.2.2.2.2.2.2.2.2.2.2.1, vI c1.2.2.2.2.2.2.2.2.2.2.2.2.2.2.2.2.2.2.2.2.1, vI c1.2.2.2.2.2.2.2.2.2.2.2.2.2.2.2.2.2.2.2.2.2.1, vI c1.2.2.2.2.2.2.2.2.2.2.2.2.2.2.2.2.2.2.2.2.2.2.1, vI c1.2.2.2.2.2.2.2.2.2.2.2.2.2.2.2.2.2.2.2.2.2.2.2.1, .ref 4, vI c1.2.2.2.2.2.2.2.2.2.2.2.2.2.2.2.2.2.2.2.2.2.2.2.2.1, vI c1.2.2.2.2.2.2.2.2.2.2.2.2.2.2.2.2.2.2.2.2.2.2.2.2.2.1, vI c1.2.2.2.2.2.2.2.2.2.2.2.2.2.2.2.2.2.2.2.2.2.2.2.2.2.2.1, vI c1.2.2.2.2.2.2.2.2.2.2.2.2.2.2.2.2.2.2.2.2.2.2.2.2.2.2.2.1, .ref 5, .ref 6, .ref 7, .ref 8, .ref 9, .ref 10, .ref 11, .ref 12, .ref 13, vI c1.2.2.2.2.2.2.2.2.2.2.2.2.2.2.2.2.2.2.2.2.2.2.2.2.2.2.2.2.1, vI c1.2.2.2.2.2.2.2.2.2.2.2.2.2.2.2.2.2.2.2.2.2.2.2.2.2.2.2.2.2.1, .ref 14, .ref 15]), (2, .arr 224 sI4 c1.2.2.2.2.2.2.2.2.2.2.2.2.2.2.2.2.2.2.2.2.2.2.2.2.2.2.2.2.2.2.1), (3, .arr 228 sI3 c1.2.2.2.2.2.2.2.2.2.2.2.2.2.2.2.2.2.2.2.2.2.2.2.2.2.2.2.2.2.2.2.1), (4, .arr 234 sZone c1.2.2.2.2.2.2.2.2.2.2.2.2.2.2.2.2.2.2.2.2.2.2.2.2.2.2.2.2.2.2.2.2.1), (5, .arr 157 j4 c1.2.2.2.2.2.2.2.2.2.2.2.2.2.2.2.2.2.2.2.2.2.2.2.2.2.2.2.2.2.2.2.2.2.1), (6, .arr 3 (.i .i64) c1.2.2.2.2.2.2.2.2.2.2.2.2.2.2.2.2.2.2.2.2.2.2.2.2.2.2.2.2.2.2.2.2.2.2.1), (7, .arr 3 (.i .i64) c1.2.2.2.2.2.2.2.2.2.2.2.2.2.2.2.2.2.2.2.2.2.2.2.2.2.2.2.2.2.2.2.2.2.2.2.1), (8, .arr 164 sI6 c1.2.2.2.2.2.2.2.2.2.2.2.2.2.2.2.2.2.2.2.2.2.2.2.2.2.2.2.2.2.2.2.2.2.2.2.2.1), (9, .arr 113 j5 c1.2.2.2.2.2.2.2.2.2.2.2.2.2.2.2.2.2.2.2.2.2.2.2.2.2.2.2.2.2.2.2.2.2.2.2.2.2.1), (10, .arr 169 sI4 c1.2.2.2.2.2.2.2.2.2.2.2.2.2.2.2.2.2.2.2.2.2.2.2.2.2.2.2.2.2.2.2.2.2.2.2.2.2.2.1), (11, .arr 3 (.i .i64) c1.2.2.2.2.2.2.2.2.2.2.2.2.2.2.2.2.2.2.2.2.2.2.2.2.2.2.2.2.2.2.2.2.2.2.2.2.2.2.2.1), (12, .arr 120 z1 v1.2), (13, .arr 174 sI4 c1.2.2.2.2.2.2.2.2.2.2.2.2.2.2.2.2.2.2.2.2.2.2.2.2.2.2.2.2.2.2.2.2.2.2.2.2.2.2.2.2.1), (14, .arr 115 sI6 c1.2.2.2.2.2.2.2.2.2.2.2.2.2.2.2.2.2.2.2.2.2.2.2.2.2.2.2.2.2.2.2.2.2.2.2.2.2.2.2.2.2.1), (15, .arr 69 sI4 c1.2.2.2.2.2.2.2.2.2.2.2.2.2.2.2.2.2.2.2.2.2.2.2.2.2.2.2.2.2.2.2.2.2.2.2.2.2.2.2.2.2.2)]⟩
theorem licloneWorld_1 {R : Type} (k : Nat) (K : Ex → St → Option R) (c1 : ze1) : ∀ (n : Nat) (v : vp), j1 [0, 1, 2, 3, 54, 55, 56, 69, 70, 71] (run E (den E k) (lv 63) k (z2 Tryz.f63 1)) n (jb3 c1 v) K = jq1 k (zy2 K c1) c1 n v := j6 (B := vr3 k (zy2 K c1) c1) (fun _ => rfl) (fun n v => by kernel_rfl) (fun _ => rfl) (fun _ _ => rfl)
abbrev jd1 : Type := wg × (List (List I6)) × Int × Int × Int × Int × Int × Int × Int × Int × Int × Int × Int × Int × Int × Int × Int × Int × Int × Int × Int × Int × Int × Int × Int × Int × Int × (List I4) × (List I3) × (List I3) × (List v7) × (List Int) × (List Int) × (List I6) × (List I4) × (List Int) × (List (Int × Int × List Int)) × (List I4) × (List I6) × (List I4)
abbrev wq : Type := Int × (List (List I6))
def yd3 (c0 : jd1) (v0 : wq) : St := ⟨84, 16, [(1, .c (.at_ (avs xb c0.1))), (2, cP 0), (3, cP 1), (54, .c (.l 113 j5 c0.2.1)), (55, cI c0.2.2.1), (56, cI v0.1)], [(0, .var [vI c0.2.2.2.1, .v (.slice none 0 0), .v (.slice none 0 0), vI c0.2.2.2.2.1, vI c0.2.2.2.2.2.1, vI c0.2.2.2.2.2.2.1, vI c0.2.2.2.2.2.2.2.1, vI c0.2.2.2.2.2.2.2.2.1, .v (.slice none 0 0), vI c0.2.2.2.2.2.2.2.2.2.1, vI c0.2.2.2.2.2.2.2.2.2.2.1, vI c0.2.2.2.2.2.2.2.2.2.2.2.1, vI c0.2.2.2.2.2.2.2.2.2.2.2.2.1, .v (.slice none 0 0), .v (.slice none 0 0), .v (.slice none 0 0), .v (.slice none 0 0), .v (.slice none 0 0), .v (.slice none 0 0), .v (.slice none 0 0), .v (.slice none 0 0), .v (.slice none 0 0), vI c0.2.2.2.2.2.2.2.2.2.2.2.2.2.1, vI c0.2.2.2.2.2.2.2.2.2.2.2.2.2.2.1, .v (.slice none 0 0), .v (.slice none 0 0)]), (1, .var [vI c0.2.2.2.2.2.2.2.2.2.2.2.2.2.2.2.1, .ref 2, .ref 3, vI c0.2.2.2.2.2.2.2.2.2.2.2.2.2.2.2.2.1, vI c0.2.2.2.2.2.2.2.2.2.2.2.2.2.2.2.2.2.1, vI c0.2.2.2.2.2.2.2.2.2.2.2.2.2.2.2.2.2.2.1, vI c0.2.2.2.2.2.2.2.2.2.2.2.2.2.2.2.2.2.2.2.1, vI c0.2.2.2.2.2.2.2.2.2.2.2.2.2.2.2.2.2.2.2.2.1, .ref 4, vI c0.2.2.2.2.2.2.2.2.2.2.2.2.2.2.2.2.2.2.2.2.2.1, vI c0.2.2.2.2.2.2.2.2.2.2.2.2.2.2.2.2.2.2.2.2.2.2.1, vI c0.2.2.2.2.2.2.2.2.2.2.2.2.2.2.2.2.2.2.2.2.2.2.2.1, vI c0.2.2.2.2.2.2.2.2.2.2.2.2.2.2.2.2.2.2.2.2.2.2.2.2.1, .ref 5, .ref 6, .ref 7, .ref 8, .ref 9, .ref 10, .ref 11, .ref 12, .ref 13, vI c0.2.2.2.2.2.2.2.2.2.2.2.2.2.2.2.2.2.2.2.2.2.2.2.2.2.1, vI c0.2.2.2.2.2.2.2.2.2.2.2.2.2.2.2.2.2.2.2.2.2.2.2.2.2.2.1, .ref 14, .ref 15]), (2, .arr 224 sI4 c0.2.2.2.2.2.2.2.2.2.2.2.2.2.2.2.2.2.2.2.2.2.2.2.2.2.2.2.1), (3, .arr 228 sI3 c0.2.2.2.2.2.2.2.2.2.2.2.2.2.2.2.2.2.2.2.2.2.2.2.2.2.2.2.2.1), (4, .arr 234 sZone c0.2.2.2.2.2.2.2.2.2.2.2.2.2.2.2.2.2.2.2.2.2.2.2.2.2.2.2.2.2.1), (5, .arr 157 j4 c0.2.2.2.2.2.2.2.2.2.2.2.2.2.2.2.2.2.2.2.2.2.2.2.2.2.2.2.2.2.2.1), (6, .arr 3 (.i .i64) c0.2.2.2.2.2.2.2.2.2.2.2.2.2.2.2.2.2.2.2.2.2.2.2.2.2.2.2.2.2.2.2.1), (7, .arr 3 (.i .i64) c0.2.2.2.2.2.2.2.2.2.2.2.2.2.2.2.2.2.2.2.2.2.2.2.2.2.2.2.2.2.2.2.2.1), (8, .arr 164 sI6 c0.2.2.2.2.2.2.2.2.2.2.2.2.2.2.2.2.2.2.2.2.2.2.2.2.2.2.2.2.2.2.2.2.2.1), (9, .arr 113 j5 v0.2), (10, .arr 169 sI4 c0.2.2.2.2.2.2.2.2.2.2.2.2.2.2.2.2.2.2.2.2.2.2.2.2.2.2.2.2.2.2.2.2.2.2.1), (11, .arr 3 (.i .i64) c0.2.2.2.2.2.2.2.2.2.2.2.2.2.2.2.2.2.2.2.2.2.2.2.2.2.2.2.2.2.2.2.2.2.2.2.1), (12, .arr 120 z1 c0.2.2.2.2.2.2.2.2.2.2.2.2.2.2.2.2.2.2.2.2.2.2.2.2.2.2.2.2.2.2.2.2.2.2.2.2.1), (13, .arr 174 sI4 c0.2.2.2.2.2.2.2.2.2.2.2.2.2.2.2.2.2.2.2.2.2.2.2.2.2.2.2.2.2.2.2.2.2.2.2.2.2.1), (14, .arr 115 sI6 c0.2.2.2.2.2.2.2.2.2.2.2.2.2.2.2.2.2.2.2.2.2.2.2.2.2.2.2.2.2.2.2.2.2.2.2.2.2.2.1), (15, .arr 69 sI4 c0.2.2.2.2.2.2.2.2.2.2.2.2.2.2.2.2.2.2.2.2.2.2.2.2.2.2.2.2.2.2.2.2.2.2.2.2.2.2.2)]⟩
noncomputable def vp3 {R : Type} (k : Nat) (X0 : wq → Option R) (c0 : jd1) (rec : wq → Option R) (v0 : wq) : Option R := if (decide (v0.1 < c0.2.2.1)) = true then if 0 ≤ v0.1 then ix c0.2.1 v0.1.toNat fun x11 => (vx1 k x11).bind fun p12 => if (v0.2.length + ([p12]).length) * 24 ≤ 140737488355328 then rec ((IntKind.i64.wrap (v0.1 + 1)), (v0.2 ++ [p12])) else none else none else X0 v0
noncomputable def xe1 {R : Type} (k : Nat) (X0 : wq → Option R) (c : jd1) : Nat → wq → Option R
 | 0, _ => none
 | n + 1, v => vp3 k X0 c (xe1 k X0 c n) v
def x03 {R : Type} (K : Ex → St → Option R) (c0 : jd1) (v0 : wq) : Option R := K (.exit 0) ⟨84, 16, [(1, .c (.at_ (avs xb c0.1))), (2, cP 0), (3, cP 1), (54, .c (.l 113 j5 c0.2.1)), (55, cI c0.2.2.1), (56, cI v0.1), (57, cB (decide (v0.1 < c0.2.2.1)))], [(0, .var [vI c0.2.2.2.1, .v (.slice none 0 0), .v (.slice none 0 0), vI c0.2.2.2.2.1, vI c0.2.2.2.2.2.1, vI c0.2.2.2.2.2.2.1, vI c0.2.2.2.2.2.2.2.1, vI c0.2.2.2.2.2.2.2.2.1, .v (.slice none 0 0), vI c0.2.2.2.2.2.2.2.2.2.1, vI c0.2.2.2.2.2.2.2.2.2.2.1, vI c0.2.2.2.2.2.2.2.2.2.2.2.1, vI c0.2.2.2.2.2.2.2.2.2.2.2.2.1, .v (.slice none 0 0), .v (.slice none 0 0), .v (.slice none 0 0), .v (.slice none 0 0), .v (.slice none 0 0), .v (.slice none 0 0), .v (.slice none 0 0), .v (.slice none 0 0), .v (.slice none 0 0), vI c0.2.2.2.2.2.2.2.2.2.2.2.2.2.1, vI c0.2.2.2.2.2.2.2.2.2.2.2.2.2.2.1, .v (.slice none 0 0), .v (.slice none 0 0)]), (1, .var [vI c0.2.2.2.2.2.2.2.2.2.2.2.2.2.2.2.1, .ref 2, .ref 3, vI c0.2.2.2.2.2.2.2.2.2.2.2.2.2.2.2.2.1, vI c0.2.2.2.2.2.2.2.2.2.2.2.2.2.2.2.2.2.1, vI c0.2.2.2.2.2.2.2.2.2.2.2.2.2.2.2.2.2.2.1, vI c0.2.2.2.2.2.2.2.2.2.2.2.2.2.2.2.2.2.2.2.1, vI c0.2.2.2.2.2.2.2.2.2.2.2.2.2.2.2.2.2.2.2.2.1, .ref 4, vI c0.2.2.2.2.2.2.2.2.2.2.2.2.2.2.2.2.2.2.2.2.2.1, vI c0.2.2.2.2.2.2.2.2.2.2.2.2.2.2.2.2.2.2.2.2.2.2.1, vI c0.2.2.2.2.2.2.2.2.2.2.2.2.2.2.2.2.2.2.2.2.2.2.2.1, vI c0.2.2.2.2.2.2.2.2.2.2.2.2.2.2.2.2.2.2.2.2.2.2.2.2.1, .ref 5, .ref 6, .ref 7, .ref 8, .ref 9, .ref 10, .ref 11, .ref 12, .ref 13, vI c0.2.2.2.2.2.2.2.2.2.2.2.2.2.2.2.2.2.2.2.2.2.2.2.2.2.1, vI c0.2.2.2.2.2.2.2.2.2.2.2.2.2.2.2.2.2.2.2.2.2.2.2.2.2.2.1, .ref 14, .ref 15]), (2, .arr 224 sI4 c0.2.2.2.2.2.2.2.2.2.2.2.2.2.2.2.2.2.2.2.2.2.2.2.2.2.2.2.1), (3, .arr 228 sI3 c0.2.2.2.2.2.2.2.2.2.2.2.2.2.2.2.2.2.2.2.2.2.2.2.2.2.2.2.2.1), (4, .arr 234 sZone c0.2.2.2.2.2.2.2.2.2.2.2.2.2.2.2.2.2.2.2.2.2.2.2.2.2.2.2.2.2.1), (5, .arr 157 j4 c0.2.2.2.2.2.2.2.2.2.2.2.2.2.2.2.2.2.2.2.2.2.2.2.2.2.2.2.2.2.2.1), (6, .arr 3 (.i .i64) c0.2.2.2.2.2.2.2.2.2.2.2.2.2.2.2.2.2.2.2.2.2.2.2.2.2.2.2.2.2.2.2.1), (7, .arr 3 (.i .i64) c0.2.2.2.2.2.2.2.2.2.2.2.2.2.2.2.2.2.2.2.2.2.2.2.2.2.2.2.2.2.2.2.2.1), (8, .arr 164 sI6 c0.2.2.2.2.2.2.2.2.2.2.2.2.2.2.2.2.2.2.2.2.2.2.2.2.2.2.2.2.2.2.2.2.2.1), (9, .arr 113 j5 v0.2), (10, .arr 169 sI4 c0.2.2.2.2.2.2.2.2.2.2.2.2.2.2.2.2.2.2.2.2.2.2.2.2.2.2.2.2.2.2.2.2.2.2.1), (11, .arr 3 (.i .i64) c0.2.2.2.2.2.2.2.2.2.2.2.2.2.2.2.2.2.2.2.2.2.2.2.2.2.2.2.2.2.2.2.2.2.2.2.1), (12, .arr 120 z1 c0.2.2.2.2.2.2.2.2.2.2.2.2.2.2.2.2.2.2.2.2.2.2.2.2.2.2.2.2.2.2.2.2.2.2.2.2.1), (13, .arr 174 sI4 c0.2.2.2.2.2.2.2.2.2.2.2.2.2.2.2.2.2.2.2.2.2.2.2.2.2.2.2.2.2.2.2.2.2.2.2.2.2.1), (14, .arr 115 sI6 c0.2.2.2.2.2.2.2.2.2.2.2.2.2.2.2.2.2.2.2.2.2.2.2.2.2.2.2.2.2.2.2.2.2.2.2.2.2.2.1), (15, .arr 69 sI4 c0.2.2.2.2.2.2.2.2.2.2.2.2.2.2.2.2.2.2.2.2.2.2.2.2.2.2.2.2.2.2.2.2.2.2.2.2.2.2.2)]⟩
theorem licloneWorld_0 {R : Type} (k : Nat) (K : Ex → St → Option R) (c0 : jd1) : ∀ (n : Nat) (v : wq), j1 [0, 1, 2, 3, 54, 55, 56] (run E (den E k) (lv 63) k (z2 Tryz.f63 0)) n (yd3 c0 v) K = xe1 k (x03 K c0) c0 n v := j6 (B := vp3 k (x03 K c0) c0) (fun _ => rfl) (fun n v => by kernel_rfl) (fun _ => rfl) (fun _ _ => rfl)
theorem micloneWorld_0 (k : Nat) (a0 : wg) : yh (k + 1) a0 = (wj2 k a0.1).bind fun p1 => (x61 k a0.2.1).bind fun p2 => (vi k a0.2.2.1).bind fun p3 => (vi k a0.2.2.2.1).bind fun p4 => (x71 k a0.2.2.2.2.1).bind fun p5 => (yv1 k a0.2.2.2.2.2.2.1).bind fun p6 => (vi k a0.2.2.2.2.2.2.2.1).bind fun p7 => (vn1 k a0.2.2.2.2.2.2.2.2.2.1).bind fun p8 => (z61 k a0.2.2.2.2.2.2.2.2.2.2.2.2.1).bind fun p9 => (jw1 k a0.2.2.2.2.2.2.2.2.2.2.2.2.2).bind fun p10 => j1 (R := TSky × xd × (List Int) × (List Int) × (List I6) × (List (List I6)) × (List I4) × (List Int) × (List (Int × Int × List Int)) × (List I4) × Int × Int × (List I6) × List I4) [0, 1, 2, 3, 54, 55, 56] (run E (den E k) (lv 63) k (z2 Tryz.f63 0)) k (yd3 (a0, a0.2.2.2.2.2.1, (a0.2.2.2.2.2.1.length : Int), 0, 0, 0, 0, 0, 0, 0, 0, 0, 0, 0, 0, p1.1, p1.2.2.2.1, p1.2.2.2.2.1, p1.2.2.2.2.2.1, p1.2.2.2.2.2.2.1, p1.2.2.2.2.2.2.2.1, p1.2.2.2.2.2.2.2.2.2, p2.1, p2.2.1, p2.2.2.1, a0.2.2.2.2.2.2.2.2.2.2.1, a0.2.2.2.2.2.2.2.2.2.2.2.1, p1.2.1, p1.2.2.1, p1.2.2.2.2.2.2.2.2.1, p2.2.2.2, p3, p4, p5, p6, p7, [], p8, p9, p10) (0, [])) (y9 E (den E k) (lv 63) k (za Tryz.f63) 0 [] (j9 E (rs 63) Tryz.f63 : Ex → St → Option wg)) := by kernel_rfl
theorem micloneWorld_1 (k : Nat) (a0 : wg) : yh (k + 1) a0 = (wj2 k a0.1).bind fun p1 => (x61 k a0.2.1).bind fun p2 => (vi k a0.2.2.1).bind fun p3 => (vi k a0.2.2.2.1).bind fun p4 => (x71 k a0.2.2.2.2.1).bind fun p5 => (yv1 k a0.2.2.2.2.2.2.1).bind fun p6 => (vi k a0.2.2.2.2.2.2.2.1).bind fun p7 => (vn1 k a0.2.2.2.2.2.2.2.2.2.1).bind fun p8 => (z61 k a0.2.2.2.2.2.2.2.2.2.2.2.2.1).bind fun p9 => (jw1 k a0.2.2.2.2.2.2.2.2.2.2.2.2.2).bind fun p10 => xe1 k (fun (v0 : Int × (List (List I6))) => j1 (R := TSky × xd × (List Int) × (List Int) × (List I6) × (List (List I6)) × (List I4) × (List Int) × (List (Int × Int × List Int)) × (List I4) × Int × Int × (List I6) × List I4) [0, 1, 2, 3, 54, 55, 56, 69, 70, 71] (run E (den E k) (lv 63) k (z2 Tryz.f63 1)) k (jb3 (a0, a0.2.2.2.2.2.1, (a0.2.2.2.2.2.1.length : Int), v0.1, a0.2.2.2.2.2.2.2.2.1, (a0.2.2.2.2.2.2.2.2.1.length : Int), 0, 0, 0, 0, 0, 0, 0, 0, 0, 0, 0, 0, p1.1, p1.2.2.2.1, p1.2.2.2.2.1, p1.2.2.2.2.2.1, p1.2.2.2.2.2.2.1, p1.2.2.2.2.2.2.2.1, p1.2.2.2.2.2.2.2.2.2, p2.1, p2.2.1, p2.2.2.1, a0.2.2.2.2.2.2.2.2.2.2.1, a0.2.2.2.2.2.2.2.2.2.2.2.1, p1.2.1, p1.2.2.1, p1.2.2.2.2.2.2.2.2.1, p2.2.2.2, p3, p4, p5, v0.2, p6, p7, p8, p9, p10) (0, ([]))) (y9 E (den E k) (lv 63) k (za Tryz.f63) 1 [] (j9 E (rs 63) Tryz.f63 : Ex → St → Option wg))) (a0, a0.2.2.2.2.2.1, (a0.2.2.2.2.2.1.length : Int), 0, 0, 0, 0, 0, 0, 0, 0, 0, 0, 0, 0, p1.1, p1.2.2.2.1, p1.2.2.2.2.1, p1.2.2.2.2.2.1, p1.2.2.2.2.2.2.1, p1.2.2.2.2.2.2.2.1, p1.2.2.2.2.2.2.2.2.2, p2.1, p2.2.1, p2.2.2.1, a0.2.2.2.2.2.2.2.2.2.2.1, a0.2.2.2.2.2.2.2.2.2.2.2.1, p1.2.1, p1.2.2.1, p1.2.2.2.2.2.2.2.2.1, p2.2.2.2, p3, p4, p5, p6, p7, [], p8, p9, p10) k (0, []) := by 
 rw [micloneWorld_0]
 simp only [licloneWorld_0]
 kernel_rfl
theorem eicloneWorld (k : Nat) (a0 : wg) : yh (k + 1) a0 = (wj2 k a0.1).bind fun p1 => (x61 k a0.2.1).bind fun p2 => (vi k a0.2.2.1).bind fun p3 => (vi k a0.2.2.2.1).bind fun p4 => (x71 k a0.2.2.2.2.1).bind fun p5 => (yv1 k a0.2.2.2.2.2.2.1).bind fun p6 => (vi k a0.2.2.2.2.2.2.2.1).bind fun p7 => (vn1 k a0.2.2.2.2.2.2.2.2.2.1).bind fun p8 => (z61 k a0.2.2.2.2.2.2.2.2.2.2.2.2.1).bind fun p9 => (jw1 k a0.2.2.2.2.2.2.2.2.2.2.2.2.2).bind fun p10 => xe1 k (fun (v0 : Int × (List (List I6))) => jq1 k (fun (v1 : Int × (List (Int × Int × List Int))) => some (p1, p2, p3, p4, p5, v0.2, p6, p7, v1.2, p8, a0.2.2.2.2.2.2.2.2.2.2.1, a0.2.2.2.2.2.2.2.2.2.2.2.1, p9, p10)) (a0, a0.2.2.2.2.2.1, (a0.2.2.2.2.2.1.length : Int), v0.1, a0.2.2.2.2.2.2.2.2.1, (a0.2.2.2.2.2.2.2.2.1.length : Int), 0, 0, 0, 0, 0, 0, 0, 0, 0, 0, 0, 0, p1.1, p1.2.2.2.1, p1.2.2.2.2.1, p1.2.2.2.2.2.1, p1.2.2.2.2.2.2.1, p1.2.2.2.2.2.2.2.1, p1.2.2.2.2.2.2.2.2.2, p2.1, p2.2.1, p2.2.2.1, a0.2.2.2.2.2.2.2.2.2.2.1, a0.2.2.2.2.2.2.2.2.2.2.2.1, p1.2.1, p1.2.2.1, p1.2.2.2.2.2.2.2.2.1, p2.2.2.2, p3, p4, p5, v0.2, p6, p7, p8, p9, p10) k (0, ([]))) (a0, a0.2.2.2.2.2.1, (a0.2.2.2.2.2.1.length : Int), 0, 0, 0, 0, 0, 0, 0, 0, 0, 0, 0, 0, p1.1, p1.2.2.2.1, p1.2.2.2.2.1, p1.2.2.2.2.2.1, p1.2.2.2.2.2.2.1, p1.2.2.2.2.2.2.2.1, p1.2.2.2.2.2.2.2.2.2, p2.1, p2.2.1, p2.2.2.1, a0.2.2.2.2.2.2.2.2.2.2.1, a0.2.2.2.2.2.2.2.2.2.2.2.1, p1.2.1, p1.2.2.1, p1.2.2.2.2.2.2.2.2.1, p2.2.2.2, p3, p4, p5, p6, p7, [], p8, p9, p10) k (0, []) := by
 rw [micloneWorld_1]
 simp only [licloneWorld_1]
 kernel_rfl
noncomputable def FiflowAt_1v (k : Nat) (a0 : I4) (a1 : Int) : Option (Bool) := den E k 154 [.agg (avs sI4 a0), .c (.at_ [vI a1])]
theorem eiflowAt_1v (k : Nat) (a0 : I4) (a1 : Int) : FiflowAt_1v (k + 1) a0 a1 = some (a0.1 == a1) := by kernel_rfl
noncomputable def wr (k : Nat) (a0 : List I4) (a1 : Int) : Option (Int) := den E k 153 [.c (.l 169 sI4 a0), .c (.clo 154 [.at_ [vI a1]])]
abbrev yd : Type := (List I4) × Int × Int
abbrev v8 : Type := Int
def jz (c0 : yd) (v0 : v8) : St := ⟨19, 0, [(0, .c (.l 169 sI4 c0.1)), (1, .c (.clo 154 [.at_ [vI c0.2.1]])), (7, cI c0.2.2), (8, cI v0)], []⟩
noncomputable def v31 {R : Type} (k : Nat) (X0 : v8 → I4 → Bool → Option R) (X1 : v8 → Option R) (c0 : yd) (rec : v8 → Option R) (v0 : v8) : Option R := if (decide (v0 < c0.2.2)) = true then if 0 ≤ v0 then ix c0.1 v0.toNat fun x1 => (FiflowAt_1v k x1 c0.2.1).bind fun p2 => if p2 = true then X0 v0 x1 p2 else rec (IntKind.i64.wrap (v0 + 1)) else none else X1 v0
noncomputable def jh {R : Type} (k : Nat) (X0 : v8 → I4 → Bool → Option R) (X1 : v8 → Option R) (c : yd) : Nat → v8 → Option R
 | 0, _ => none
 | n + 1, v => v31 k X0 X1 c (jh k X0 X1 c n) v
def xz {R : Type} (K : Ex → St → Option R) (c0 : yd) (v0 : v8) (x1 : I4) (p2 : Bool) : Option R := K .ret ⟨19, 0, [(0, .c (.l 169 sI4 c0.1)), (1, .c (.clo 154 [.at_ [vI c0.2.1]])), (4, cI v0), (5, cI v0), (7, cI c0.2.2), (8, cI v0), (9, cB (decide (v0 < c0.2.2))), (10, cI v0), (11, .c (.clo 154 [.at_ [vI c0.2.1]])), (12, .c (.l 169 sI4 c0.1)), (13, cI v0), (14, .c (.at_ (avs sI4 x1))), (15, .agg (avs sI4 x1)), (16, cB p2), (17, cI v0)], []⟩
def jx {R : Type} (K : Ex → St → Option R) (c0 : yd) (v0 : v8) : Option R := K (.exit 0) ⟨19, 0, [(0, .c (.l 169 sI4 c0.1)), (1, .c (.clo 154 [.at_ [vI c0.2.1]])), (7, cI c0.2.2), (8, cI v0), (9, cB (decide (v0 < c0.2.2)))], []⟩
theorem yy1 {R : Type} (k : Nat) (K : Ex → St → Option R) (c0 : yd) : ∀ (n : Nat) (v : v8), j1 [0, 0, 1, 7, 8] (run E (den E k) (lv 153) k (z2 Tryz.f153 0)) n (jz c0 v) K = jh k (xz K c0) (jx K c0) c0 n v := j6 (B := v31 k (xz K c0) (jx K c0) c0) (fun _ => rfl) (fun n v => by kernel_rfl) (fun _ => rfl) (fun _ _ => rfl)
theorem jy1 (k : Nat) (a0 : List I4) (a1 : Int) : wr (k + 1) a0 a1 = j1 (R := Int) [0, 0, 1, 7, 8] (run E (den E k) (lv 153) k (z2 Tryz.f153 0)) k (jz (a0, a1, (a0.length : Int)) 0) (y9 E (den E k) (lv 153) k (za Tryz.f153) 0 [] (j9 E (rs 153) Tryz.f153 : Ex → St → Option (Int))) := by kernel_rfl
theorem w82 (k : Nat) (a0 : List I4) (a1 : Int) : wr (k + 1) a0 a1 = jh k (fun (v0 : Int) (x1 : I4) (p2 : Bool) => some v0) (fun (v0 : Int) => some (-1)) (a0, a1, (a0.length : Int)) k 0 := by
 rw [jy1]
 simp only [yy1]
 kernel_rfl
noncomputable def FiflowAt (k : Nat) (a0 : wg) (a1 : Int) : Option (Int) := den E k 66 [.agg (avs xb a0), cI a1]
theorem eiflowAt (k : Nat) (a0 : wg) (a1 : Int) : FiflowAt (k + 1) a0 a1 = (wr k a0.2.2.2.2.2.2.1 a1).bind fun p1 => some p1 := by kernel_rfl
noncomputable def jc4 (k : Nat) (a0 : wg) (a1 : I4) : Option (wg × Bool) := den E k 12 [.agg (avs xb a0), .agg (avs sI4 a1)]
theorem eiDeliver (k : Nat) (a0 : wg) (a1 : I4) : jc4 (k + 1) a0 a1 = (y63 k a1.2.1 (a0.2.2.2.2.2.1.length : Int)).bind fun p1 => if ((!p1) == false) = true then (y63 k a1.2.2.1 (a0.2.2.2.2.2.1.length : Int)).bind fun p2 => if ((!p2) == false) = true then if (a1.2.1 == a1.2.2.1) = true then (yh k a0).bind fun p3 => some (p3, false) else (yh k a0).bind fun p4 => if 0 ≤ a1.2.1 then ix a0.2.2.2.2.2.1 a1.2.1.toNat fun x5 => if 0 ≤ a1.2.1 then ix a0.2.2.2.2.2.1 a1.2.1.toNat fun x6 => (zd2 k x6 a1.2.2.2).bind fun p7 => (jf3 k x5 p7).bind fun p8 => (FiflowAt k a0 p8.2.1.2.1).bind fun p9 => if ((!p8.2.2) == false) = true then if ((decide (p9 < 0)) == false) = true then if (decide (p9 ≥ (a0.2.2.2.2.2.2.2.2.1.length : Int))) = true then (yh k a0).bind fun p10 => some (p10, false) else if 0 ≤ a1.2.1 then if a1.2.1 < (p4.2.2.2.2.2.1.length : Int) then ix p4.2.2.2.2.2.1 a1.2.1.toNat fun y11 => if (a1.2.2.1 == p8.2.1.2.2.2.2.1) = true then if (p4.2.2.2.2.2.2.2.2.2.2.2.2.1.length + ([p8.2.1]).length) * 48 ≤ 140737488355328 then if 0 ≤ p9 then ix a0.2.2.2.2.2.2.2.2.1 p9.toNat fun x12 => (xo2 k x12 p8.2.1.2.2.1).bind fun p13 => if 0 ≤ p9 then if p9 < (p4.2.2.2.2.2.2.2.2.1.length : Int) then ix p4.2.2.2.2.2.2.2.2.1 p9.toNat fun y14 => if (!p13.2.2) = true then (yh k a0).bind fun p15 => some (p15, false) else if (p4.2.2.2.2.2.2.2.2.2.2.2.2.2.length + ([a1]).length) * 32 ≤ 140737488355328 then some ((p4.1, p4.2.1, p4.2.2.1, p4.2.2.2.1, p4.2.2.2.2.1, (p4.2.2.2.2.2.1.set a1.2.1.toNat p8.1), p4.2.2.2.2.2.2.1, p4.2.2.2.2.2.2.2.1, (p4.2.2.2.2.2.2.2.2.1.set p9.toNat p13.1), p4.2.2.2.2.2.2.2.2.2.1, p4.2.2.2.2.2.2.2.2.2.2.1, p4.2.2.2.2.2.2.2.2.2.2.2.1, (p4.2.2.2.2.2.2.2.2.2.2.2.2.1 ++ [p8.2.1]), (p4.2.2.2.2.2.2.2.2.2.2.2.2.2 ++ [a1])), true) else none else none else none else none else none else if 0 ≤ a1.2.2.1 then ix a0.2.2.2.2.2.1 a1.2.2.1.toNat fun x16 => (yg3 k x16 p8.2.1).bind fun p17 => if 0 ≤ a1.2.2.1 then if a1.2.2.1 < ((p4.2.2.2.2.2.1.set a1.2.1.toNat p8.1).length : Int) then ix (p4.2.2.2.2.2.1.set a1.2.1.toNat p8.1) a1.2.2.1.toNat fun y18 => if (!p17.2) = true then (yh k a0).bind fun p19 => some (p19, false) else if (p4.2.2.2.2.2.2.2.2.2.2.2.2.2.length + ([a1]).length) * 32 ≤ 140737488355328 then some ((p4.1, p4.2.1, p4.2.2.1, p4.2.2.2.1, p4.2.2.2.2.1, ((p4.2.2.2.2.2.1.set a1.2.1.toNat p8.1).set a1.2.2.1.toNat p17.1), p4.2.2.2.2.2.2.1, p4.2.2.2.2.2.2.2.1, p4.2.2.2.2.2.2.2.2.1, p4.2.2.2.2.2.2.2.2.2.1, p4.2.2.2.2.2.2.2.2.2.2.1, p4.2.2.2.2.2.2.2.2.2.2.2.1, p4.2.2.2.2.2.2.2.2.2.2.2.2.1, (p4.2.2.2.2.2.2.2.2.2.2.2.2.2 ++ [a1])), true) else none else none else none else none else none else none else (yh k a0).bind fun p20 => some (p20, false) else (yh k a0).bind fun p21 => some (p21, false) else none else none else (yh k a0).bind fun p22 => some (p22, false) else (yh k a0).bind fun p23 => some (p23, false) := by kernel_rfl
noncomputable def yq2 (k : Nat) (a0 : I6) (a1 : I6) : Option (Bool) := den E k 128 [.agg (avs sI6 a0), .agg (avs sI6 a1)]
theorem eleqBattery (k : Nat) (a0 : I6) (a1 : I6) : yq2 (k + 1) a0 a1 = if (a0.1 != a1.1) = true then some false else if (a0.2.1 != a1.2.1) = true then some false else if (a0.2.2.1 != a1.2.2.1) = true then some false else if (a0.2.2.2.1 != a1.2.2.2.1) = true then some false else if (a0.2.2.2.2.1 != a1.2.2.2.2.1) = true then some false else if (a0.2.2.2.2.2 != a1.2.2.2.2.2) = true then some false else some true := by kernel_rfl
noncomputable def zv1 (k : Nat) (a0 : List I6) (a1 : List I6) : Option (Bool) := den E k 50 [.c (.l 164 sI6 a0), .c (.l 164 sI6 a1)]
abbrev y61 : Type := (List I6) × (List I6)
abbrev vh : Type := Int
def yb3 (c0 : y61) (v0 : vh) : St := ⟨27, 0, [(0, .c (.l 164 sI6 c0.1)), (1, .c (.l 164 sI6 c0.2)), (5, cI v0)], []⟩
noncomputable def zw3 {R : Type} (k : Nat) (X0 : vh → I6 → I6 → Bool → Option R) (X1 : vh → Option R) (c0 : y61) (rec : vh → Option R) (v0 : vh) : Option R := if (decide (v0 < (c0.1.length : Int))) = true then if 0 ≤ v0 then ix c0.1 v0.toNat fun x1 => if 0 ≤ v0 then ix c0.2 v0.toNat fun x2 => (yq2 k x1 x2).bind fun p3 => if (!p3) = true then X0 v0 x1 x2 p3 else rec (IntKind.i64.wrap (v0 + 1)) else none else none else X1 v0
noncomputable def zu1 {R : Type} (k : Nat) (X0 : vh → I6 → I6 → Bool → Option R) (X1 : vh → Option R) (c : y61) : Nat → vh → Option R
 | 0, _ => none
 | n + 1, v => zw3 k X0 X1 c (zu1 k X0 X1 c n) v
def jw2 {R : Type} (K : Ex → St → Option R) (c0 : y61) (v0 : vh) (x1 : I6) (x2 : I6) (p3 : Bool) : Option R := K .ret ⟨27, 0, [(0, .c (.l 164 sI6 c0.1)), (1, .c (.l 164 sI6 c0.2)), (4, cB false), (5, cI v0), (11, cI v0), (12, .c (.l 164 sI6 c0.1)), (13, cI (c0.1.length : Int)), (14, cB (decide (v0 < (c0.1.length : Int)))), (17, .c (.l 164 sI6 c0.1)), (18, cI v0), (19, .c (.at_ (avs sI6 x1))), (20, .agg (avs sI6 x1)), (21, .c (.l 164 sI6 c0.2)), (22, cI v0), (23, .c (.at_ (avs sI6 x2))), (24, .agg (avs sI6 x2)), (25, cB p3), (26, cB (!p3))], []⟩
def jv2 {R : Type} (K : Ex → St → Option R) (c0 : y61) (v0 : vh) : Option R := K (.exit 0) ⟨27, 0, [(0, .c (.l 164 sI6 c0.1)), (1, .c (.l 164 sI6 c0.2)), (5, cI v0), (11, cI v0), (12, .c (.l 164 sI6 c0.1)), (13, cI (c0.1.length : Int)), (14, cB (decide (v0 < (c0.1.length : Int))))], []⟩
theorem lleqBatteryS_0 {R : Type} (k : Nat) (K : Ex → St → Option R) (c0 : y61) : ∀ (n : Nat) (v : vh), j1 [0, 0, 1, 5] (run E (den E k) (lv 50) k (z2 Tryz.f50 0)) n (yb3 c0 v) K = zu1 k (jw2 K c0) (jv2 K c0) c0 n v := j6 (B := zw3 k (jw2 K c0) (jv2 K c0) c0) (fun _ => rfl) (fun n v => by kernel_rfl) (fun _ => rfl) (fun _ _ => rfl)
theorem mleqBatteryS_0 (k : Nat) (a0 : List I6) (a1 : List I6) : zv1 (k + 1) a0 a1 = if ((a0.length : Int) != (a1.length : Int)) = true then some false else j1 (R := Bool) [0, 0, 1, 5] (run E (den E k) (lv 50) k (z2 Tryz.f50 0)) k (yb3 (a0, a1) 0) (y9 E (den E k) (lv 50) k (za Tryz.f50) 0 [] (j9 E (rs 50) Tryz.f50 : Ex → St → Option (Bool))) := by kernel_rfl
theorem eleqBatteryS (k : Nat) (a0 : List I6) (a1 : List I6) : zv1 (k + 1) a0 a1 = if ((a0.length : Int) != (a1.length : Int)) = true then some false else zu1 k (fun (v0 : Int) (x1 : I6) (x2 : I6) (p3 : Bool) => some false) (fun (v0 : Int) => some true) (a0, a1) k 0 := by
 rw [mleqBatteryS_0]
 simp only [lleqBatteryS_0]
 kernel_rfl
noncomputable def jb4 (k : Nat) (a0 : I4) (a1 : I4) : Option (Bool) := den E k 132 [.agg (avs sI4 a0), .agg (avs sI4 a1)]
theorem eleqFault (k : Nat) (a0 : I4) (a1 : I4) : jb4 (k + 1) a0 a1 = if (a0.1 != a1.1) = true then some false else if (a0.2.1 != a1.2.1) = true then some false else if (a0.2.2.1 != a1.2.2.1) = true then some false else if (a0.2.2.2 != a1.2.2.2) = true then some false else some true := by kernel_rfl
noncomputable def wm2 (k : Nat) (a0 : List I4) (a1 : List I4) : Option (Bool) := den E k 54 [.c (.l 174 sI4 a0), .c (.l 174 sI4 a1)]
abbrev xh1 : Type := (List I4) × (List I4)
abbrev jk : Type := Int
def va4 (c0 : xh1) (v0 : jk) : St := ⟨27, 0, [(0, .c (.l 174 sI4 c0.1)), (1, .c (.l 174 sI4 c0.2)), (5, cI v0)], []⟩
noncomputable def BleqFaultS_0 {R : Type} (k : Nat) (X0 : jk → I4 → I4 → Bool → Option R) (X1 : jk → Option R) (c0 : xh1) (rec : jk → Option R) (v0 : jk) : Option R := if (decide (v0 < (c0.1.length : Int))) = true then if 0 ≤ v0 then ix c0.1 v0.toNat fun x1 => if 0 ≤ v0 then ix c0.2 v0.toNat fun x2 => (jb4 k x1 x2).bind fun p3 => if (!p3) = true then X0 v0 x1 x2 p3 else rec (IntKind.i64.wrap (v0 + 1)) else none else none else X1 v0
noncomputable def wd2 {R : Type} (k : Nat) (X0 : jk → I4 → I4 → Bool → Option R) (X1 : jk → Option R) (c : xh1) : Nat → jk → Option R
 | 0, _ => none
 | n + 1, v => BleqFaultS_0 k X0 X1 c (wd2 k X0 X1 c n) v
def xu3 {R : Type} (K : Ex → St → Option R) (c0 : xh1) (v0 : jk) (x1 : I4) (x2 : I4) (p3 : Bool) : Option R := K .ret ⟨27, 0, [(0, .c (.l 174 sI4 c0.1)), (1, .c (.l 174 sI4 c0.2)), (4, cB false), (5, cI v0), (11, cI v0), (12, .c (.l 174 sI4 c0.1)), (13, cI (c0.1.length : Int)), (14, cB (decide (v0 < (c0.1.length : Int)))), (17, .c (.l 174 sI4 c0.1)), (18, cI v0), (19, .c (.at_ (avs sI4 x1))), (20, .agg (avs sI4 x1)), (21, .c (.l 174 sI4 c0.2)), (22, cI v0), (23, .c (.at_ (avs sI4 x2))), (24, .agg (avs sI4 x2)), (25, cB p3), (26, cB (!p3))], []⟩
def ww3 {R : Type} (K : Ex → St → Option R) (c0 : xh1) (v0 : jk) : Option R := K (.exit 0) ⟨27, 0, [(0, .c (.l 174 sI4 c0.1)), (1, .c (.l 174 sI4 c0.2)), (5, cI v0), (11, cI v0), (12, .c (.l 174 sI4 c0.1)), (13, cI (c0.1.length : Int)), (14, cB (decide (v0 < (c0.1.length : Int))))], []⟩
theorem lleqFaultS_0 {R : Type} (k : Nat) (K : Ex → St → Option R) (c0 : xh1) : ∀ (n : Nat) (v : jk), j1 [0, 0, 1, 5] (run E (den E k) (lv 54) k (z2 Tryz.f54 0)) n (va4 c0 v) K = wd2 k (xu3 K c0) (ww3 K c0) c0 n v := j6 (B := BleqFaultS_0 k (xu3 K c0) (ww3 K c0) c0) (fun _ => rfl) (fun n v => by kernel_rfl) (fun _ => rfl) (fun _ _ => rfl)
theorem mleqFaultS_0 (k : Nat) (a0 : List I4) (a1 : List I4) : wm2 (k + 1) a0 a1 = if ((a0.length : Int) != (a1.length : Int)) = true then some false else j1 (R := Bool) [0, 0, 1, 5] (run E (den E k) (lv 54) k (z2 Tryz.f54 0)) k (va4 (a0, a1) 0) (y9 E (den E k) (lv 54) k (za Tryz.f54) 0 [] (j9 E (rs 54) Tryz.f54 : Ex → St → Option (Bool))) := by kernel_rfl
theorem eleqFaultS (k : Nat) (a0 : List I4) (a1 : List I4) : wm2 (k + 1) a0 a1 = if ((a0.length : Int) != (a1.length : Int)) = true then some false else wd2 k (fun (v0 : Int) (x1 : I4) (x2 : I4) (p3 : Bool) => some false) (fun (v0 : Int) => some true) (a0, a1) k 0 := by
 rw [mleqFaultS_0]
 simp only [lleqFaultS_0]
 kernel_rfl
noncomputable def FleqFlow (k : Nat) (a0 : I4) (a1 : I4) : Option (Bool) := den E k 130 [.agg (avs sI4 a0), .agg (avs sI4 a1)]
theorem eleqFlow (k : Nat) (a0 : I4) (a1 : I4) : FleqFlow (k + 1) a0 a1 = if (a0.1 != a1.1) = true then some false else if (a0.2.1 != a1.2.1) = true then some false else if (a0.2.2.1 != a1.2.2.1) = true then some false else if (a0.2.2.2 != a1.2.2.2) = true then some false else some true := by kernel_rfl
noncomputable def xe3 (k : Nat) (a0 : List I4) (a1 : List I4) : Option (Bool) := den E k 52 [.c (.l 169 sI4 a0), .c (.l 169 sI4 a1)]
abbrev yo1 : Type := (List I4) × (List I4)
abbrev jr : Type := Int
def StleqFlowS_0 (c0 : yo1) (v0 : jr) : St := ⟨27, 0, [(0, .c (.l 169 sI4 c0.1)), (1, .c (.l 169 sI4 c0.2)), (5, cI v0)], []⟩
noncomputable def BleqFlowS_0 {R : Type} (k : Nat) (X0 : jr → I4 → I4 → Bool → Option R) (X1 : jr → Option R) (c0 : yo1) (rec : jr → Option R) (v0 : jr) : Option R := if (decide (v0 < (c0.1.length : Int))) = true then if 0 ≤ v0 then ix c0.1 v0.toNat fun x1 => if 0 ≤ v0 then ix c0.2 v0.toNat fun x2 => (FleqFlow k x1 x2).bind fun p3 => if (!p3) = true then X0 v0 x1 x2 p3 else rec (IntKind.i64.wrap (v0 + 1)) else none else none else X1 v0
noncomputable def zv2 {R : Type} (k : Nat) (X0 : jr → I4 → I4 → Bool → Option R) (X1 : jr → Option R) (c : yo1) : Nat → jr → Option R
 | 0, _ => none
 | n + 1, v => BleqFlowS_0 k X0 X1 c (zv2 k X0 X1 c n) v
def w34 {R : Type} (K : Ex → St → Option R) (c0 : yo1) (v0 : jr) (x1 : I4) (x2 : I4) (p3 : Bool) : Option R := K .ret ⟨27, 0, [(0, .c (.l 169 sI4 c0.1)), (1, .c (.l 169 sI4 c0.2)), (4, cB false), (5, cI v0), (11, cI v0), (12, .c (.l 169 sI4 c0.1)), (13, cI (c0.1.length : Int)), (14, cB (decide (v0 < (c0.1.length : Int)))), (17, .c (.l 169 sI4 c0.1)), (18, cI v0), (19, .c (.at_ (avs sI4 x1))), (20, .agg (avs sI4 x1)), (21, .c (.l 169 sI4 c0.2)), (22, cI v0), (23, .c (.at_ (avs sI4 x2))), (24, .agg (avs sI4 x2)), (25, cB p3), (26, cB (!p3))], []⟩
def YleqFlowS_0_1 {R : Type} (K : Ex → St → Option R) (c0 : yo1) (v0 : jr) : Option R := K (.exit 0) ⟨27, 0, [(0, .c (.l 169 sI4 c0.1)), (1, .c (.l 169 sI4 c0.2)), (5, cI v0), (11, cI v0), (12, .c (.l 169 sI4 c0.1)), (13, cI (c0.1.length : Int)), (14, cB (decide (v0 < (c0.1.length : Int))))], []⟩
theorem lleqFlowS_0 {R : Type} (k : Nat) (K : Ex → St → Option R) (c0 : yo1) : ∀ (n : Nat) (v : jr), j1 [0, 0, 1, 5] (run E (den E k) (lv 52) k (z2 Tryz.f52 0)) n (StleqFlowS_0 c0 v) K = zv2 k (w34 K c0) (YleqFlowS_0_1 K c0) c0 n v := j6 (B := BleqFlowS_0 k (w34 K c0) (YleqFlowS_0_1 K c0) c0) (fun _ => rfl) (fun n v => by kernel_rfl) (fun _ => rfl) (fun _ _ => rfl)
theorem mleqFlowS_0 (k : Nat) (a0 : List I4) (a1 : List I4) : xe3 (k + 1) a0 a1 = if ((a0.length : Int) != (a1.length : Int)) = true then some false else j1 (R := Bool) [0, 0, 1, 5] (run E (den E k) (lv 52) k (z2 Tryz.f52 0)) k (StleqFlowS_0 (a0, a1) 0) (y9 E (den E k) (lv 52) k (za Tryz.f52) 0 [] (j9 E (rs 52) Tryz.f52 : Ex → St → Option (Bool))) := by kernel_rfl
theorem eleqFlowS (k : Nat) (a0 : List I4) (a1 : List I4) : xe3 (k + 1) a0 a1 = if ((a0.length : Int) != (a1.length : Int)) = true then some false else zv2 k (fun (v0 : Int) (x1 : I4) (x2 : I4) (p3 : Bool) => some false) (fun (v0 : Int) => some true) (a0, a1) k 0 := by
 rw [mleqFlowS_0]
 simp only [lleqFlowS_0]
 kernel_rfl
noncomputable def v21 (k : Nat) (a0 : List Int) (a1 : List Int) : Option (Bool) := den E k 49 [.c (.l 3 (.i .i64) a0), .c (.l 3 (.i .i64) a1)]
abbrev y52 : Type := (List Int) × (List Int)
abbrev wz : Type := Int
def StleqIntS_0 (c0 : y52) (v0 : wz) : St := ⟨26, 0, [(0, .c (.l 3 (.i .i64) c0.1)), (1, .c (.l 3 (.i .i64) c0.2)), (5, cI v0)], []⟩
noncomputable def BleqIntS_0 {R : Type} (k : Nat) (X0 : wz → Int → Int → Option R) (X1 : wz → Option R) (c0 : y52) (rec : wz → Option R) (v0 : wz) : Option R := if (decide (v0 < (c0.1.length : Int))) = true then if 0 ≤ v0 then ix c0.1 v0.toNat fun x1 => if 0 ≤ v0 then ix c0.2 v0.toNat fun x2 => if (x1 != x2) = true then X0 v0 x1 x2 else rec (IntKind.i64.wrap (v0 + 1)) else none else none else X1 v0
noncomputable def yl3 {R : Type} (k : Nat) (X0 : wz → Int → Int → Option R) (X1 : wz → Option R) (c : y52) : Nat → wz → Option R
 | 0, _ => none
 | n + 1, v => BleqIntS_0 k X0 X1 c (yl3 k X0 X1 c n) v
def YleqIntS_0_0 {R : Type} (K : Ex → St → Option R) (c0 : y52) (v0 : wz) (x1 : Int) (x2 : Int) : Option R := K .ret ⟨26, 0, [(0, .c (.l 3 (.i .i64) c0.1)), (1, .c (.l 3 (.i .i64) c0.2)), (4, cB false), (5, cI v0), (11, cI v0), (12, .c (.l 3 (.i .i64) c0.1)), (13, cI (c0.1.length : Int)), (14, cB (decide (v0 < (c0.1.length : Int)))), (17, .c (.l 3 (.i .i64) c0.1)), (18, cI v0), (19, .c (.at_ [vI x1])), (20, cI x1), (21, .c (.l 3 (.i .i64) c0.2)), (22, cI v0), (23, .c (.at_ [vI x2])), (24, cI x2), (25, cB (x1 != x2))], []⟩
def YleqIntS_0_1 {R : Type} (K : Ex → St → Option R) (c0 : y52) (v0 : wz) : Option R := K (.exit 0) ⟨26, 0, [(0, .c (.l 3 (.i .i64) c0.1)), (1, .c (.l 3 (.i .i64) c0.2)), (5, cI v0), (11, cI v0), (12, .c (.l 3 (.i .i64) c0.1)), (13, cI (c0.1.length : Int)), (14, cB (decide (v0 < (c0.1.length : Int))))], []⟩
theorem lleqIntS_0 {R : Type} (k : Nat) (K : Ex → St → Option R) (c0 : y52) : ∀ (n : Nat) (v : wz), j1 [0, 0, 1, 5] (run E (den E k) (lv 49) k (z2 Tryz.f49 0)) n (StleqIntS_0 c0 v) K = yl3 k (YleqIntS_0_0 K c0) (YleqIntS_0_1 K c0) c0 n v := j6 (B := BleqIntS_0 k (YleqIntS_0_0 K c0) (YleqIntS_0_1 K c0) c0) (fun _ => rfl) (fun n v => by kernel_rfl) (fun _ => rfl) (fun _ _ => rfl)
theorem mleqIntS_0 (k : Nat) (a0 : List Int) (a1 : List Int) : v21 (k + 1) a0 a1 = if ((a0.length : Int) != (a1.length : Int)) = true then some false else j1 (R := Bool) [0, 0, 1, 5] (run E (den E k) (lv 49) k (z2 Tryz.f49 0)) k (StleqIntS_0 (a0, a1) 0) (y9 E (den E k) (lv 49) k (za Tryz.f49) 0 [] (j9 E (rs 49) Tryz.f49 : Ex → St → Option (Bool))) := by kernel_rfl
theorem eleqIntS (k : Nat) (a0 : List Int) (a1 : List Int) : v21 (k + 1) a0 a1 = if ((a0.length : Int) != (a1.length : Int)) = true then some false else yl3 k (fun (v0 : Int) (x1 : Int) (x2 : Int) => some false) (fun (v0 : Int) => some true) (a0, a1) k 0 := by
 rw [mleqIntS_0]
 simp only [lleqIntS_0]
 kernel_rfl
noncomputable def FleqLaw (k : Nat) (a0 : List Int) (a1 : List Int) : Option (Bool) := den E k 48 [.agg [.l 3 (.i .i64) a0], .agg [.l 3 (.i .i64) a1]]
theorem eleqLaw (k : Nat) (a0 : List Int) (a1 : List Int) : FleqLaw (k + 1) a0 a1 = (v21 k a0 a1).bind fun p1 => if (!p1) = true then some false else some true := by kernel_rfl
noncomputable def vj3 (k : Nat) (a0 : I6) (a1 : I6) : Option (Bool) := den E k 133 [.agg (avs sI6 a0), .agg (avs sI6 a1)]
theorem eleqPacket (k : Nat) (a0 : I6) (a1 : I6) : vj3 (k + 1) a0 a1 = if (a0.1 != a1.1) = true then some false else if (a0.2.1 != a1.2.1) = true then some false else if (a0.2.2.1 != a1.2.2.1) = true then some false else if (a0.2.2.2.1 != a1.2.2.2.1) = true then some false else if (a0.2.2.2.2.1 != a1.2.2.2.2.1) = true then some false else if (a0.2.2.2.2.2 != a1.2.2.2.2.2) = true then some false else some true := by kernel_rfl
noncomputable def zg1 (k : Nat) (a0 : List I6) (a1 : List I6) : Option (Bool) := den E k 55 [.c (.l 115 sI6 a0), .c (.l 115 sI6 a1)]
abbrev wa1 : Type := (List I6) × (List I6)
abbrev wi : Type := Int
def zv3 (c0 : wa1) (v0 : wi) : St := ⟨27, 0, [(0, .c (.l 115 sI6 c0.1)), (1, .c (.l 115 sI6 c0.2)), (5, cI v0)], []⟩
noncomputable def BleqPacketS_0 {R : Type} (k : Nat) (X0 : wi → I6 → I6 → Bool → Option R) (X1 : wi → Option R) (c0 : wa1) (rec : wi → Option R) (v0 : wi) : Option R := if (decide (v0 < (c0.1.length : Int))) = true then if 0 ≤ v0 then ix c0.1 v0.toNat fun x1 => if 0 ≤ v0 then ix c0.2 v0.toNat fun x2 => (vj3 k x1 x2).bind fun p3 => if (!p3) = true then X0 v0 x1 x2 p3 else rec (IntKind.i64.wrap (v0 + 1)) else none else none else X1 v0
noncomputable def x32 {R : Type} (k : Nat) (X0 : wi → I6 → I6 → Bool → Option R) (X1 : wi → Option R) (c : wa1) : Nat → wi → Option R
 | 0, _ => none
 | n + 1, v => BleqPacketS_0 k X0 X1 c (x32 k X0 X1 c n) v
def jg3 {R : Type} (K : Ex → St → Option R) (c0 : wa1) (v0 : wi) (x1 : I6) (x2 : I6) (p3 : Bool) : Option R := K .ret ⟨27, 0, [(0, .c (.l 115 sI6 c0.1)), (1, .c (.l 115 sI6 c0.2)), (4, cB false), (5, cI v0), (11, cI v0), (12, .c (.l 115 sI6 c0.1)), (13, cI (c0.1.length : Int)), (14, cB (decide (v0 < (c0.1.length : Int)))), (17, .c (.l 115 sI6 c0.1)), (18, cI v0), (19, .c (.at_ (avs sI6 x1))), (20, .agg (avs sI6 x1)), (21, .c (.l 115 sI6 c0.2)), (22, cI v0), (23, .c (.at_ (avs sI6 x2))), (24, .agg (avs sI6 x2)), (25, cB p3), (26, cB (!p3))], []⟩
def ze3 {R : Type} (K : Ex → St → Option R) (c0 : wa1) (v0 : wi) : Option R := K (.exit 0) ⟨27, 0, [(0, .c (.l 115 sI6 c0.1)), (1, .c (.l 115 sI6 c0.2)), (5, cI v0), (11, cI v0), (12, .c (.l 115 sI6 c0.1)), (13, cI (c0.1.length : Int)), (14, cB (decide (v0 < (c0.1.length : Int))))], []⟩
theorem lleqPacketS_0 {R : Type} (k : Nat) (K : Ex → St → Option R) (c0 : wa1) : ∀ (n : Nat) (v : wi), j1 [0, 0, 1, 5] (run E (den E k) (lv 55) k (z2 Tryz.f55 0)) n (zv3 c0 v) K = x32 k (jg3 K c0) (ze3 K c0) c0 n v := j6 (B := BleqPacketS_0 k (jg3 K c0) (ze3 K c0) c0) (fun _ => rfl) (fun n v => by kernel_rfl) (fun _ => rfl) (fun _ _ => rfl)
theorem mleqPacketS_0 (k : Nat) (a0 : List I6) (a1 : List I6) : zg1 (k + 1) a0 a1 = if ((a0.length : Int) != (a1.length : Int)) = true then some false else j1 (R := Bool) [0, 0, 1, 5] (run E (den E k) (lv 55) k (z2 Tryz.f55 0)) k (zv3 (a0, a1) 0) (y9 E (den E k) (lv 55) k (za Tryz.f55) 0 [] (j9 E (rs 55) Tryz.f55 : Ex → St → Option (Bool))) := by kernel_rfl
theorem eleqPacketS (k : Nat) (a0 : List I6) (a1 : List I6) : zg1 (k + 1) a0 a1 = if ((a0.length : Int) != (a1.length : Int)) = true then some false else x32 k (fun (v0 : Int) (x1 : I6) (x2 : I6) (p3 : Bool) => some false) (fun (v0 : Int) => some true) (a0, a1) k 0 := by
 rw [mleqPacketS_0]
 simp only [lleqPacketS_0]
 kernel_rfl
noncomputable def FleqLink (k : Nat) (a0 : I2) (a1 : I2) : Option (Bool) := den E k 245 [.agg [vI a0.1, vI a0.2], .agg [vI a1.1, vI a1.2]]
theorem eleqLink (k : Nat) (a0 : I2) (a1 : I2) : FleqLink (k + 1) a0 a1 = if (a0.1 != a1.1) = true then some false else if (a0.2 != a1.2) = true then some false else some true := by kernel_rfl
noncomputable def xb3 (k : Nat) (a0 : List I2) (a1 : List I2) : Option (Bool) := den E k 231 [.c (.l 264 sI2 a0), .c (.l 264 sI2 a1)]
abbrev wp1 : Type := (List I2) × (List I2)
abbrev js : Type := Int
def StleqLinkS_0 (c0 : wp1) (v0 : js) : St := ⟨27, 0, [(0, .c (.l 264 sI2 c0.1)), (1, .c (.l 264 sI2 c0.2)), (5, cI v0)], []⟩
noncomputable def BleqLinkS_0 {R : Type} (k : Nat) (X0 : js → I2 → I2 → Bool → Option R) (X1 : js → Option R) (c0 : wp1) (rec : js → Option R) (v0 : js) : Option R := if (decide (v0 < (c0.1.length : Int))) = true then if 0 ≤ v0 then ix c0.1 v0.toNat fun x1 => if 0 ≤ v0 then ix c0.2 v0.toNat fun x2 => (FleqLink k x1 x2).bind fun p3 => if (!p3) = true then X0 v0 x1 x2 p3 else rec (IntKind.i64.wrap (v0 + 1)) else none else none else X1 v0
noncomputable def wv2 {R : Type} (k : Nat) (X0 : js → I2 → I2 → Bool → Option R) (X1 : js → Option R) (c : wp1) : Nat → js → Option R
 | 0, _ => none
 | n + 1, v => BleqLinkS_0 k X0 X1 c (wv2 k X0 X1 c n) v
def y84 {R : Type} (K : Ex → St → Option R) (c0 : wp1) (v0 : js) (x1 : I2) (x2 : I2) (p3 : Bool) : Option R := K .ret ⟨27, 0, [(0, .c (.l 264 sI2 c0.1)), (1, .c (.l 264 sI2 c0.2)), (4, cB false), (5, cI v0), (11, cI v0), (12, .c (.l 264 sI2 c0.1)), (13, cI (c0.1.length : Int)), (14, cB (decide (v0 < (c0.1.length : Int)))), (17, .c (.l 264 sI2 c0.1)), (18, cI v0), (19, .c (.at_ [vI x1.1, vI x1.2])), (20, .agg [vI x1.1, vI x1.2]), (21, .c (.l 264 sI2 c0.2)), (22, cI v0), (23, .c (.at_ [vI x2.1, vI x2.2])), (24, .agg [vI x2.1, vI x2.2]), (25, cB p3), (26, cB (!p3))], []⟩
def YleqLinkS_0_1 {R : Type} (K : Ex → St → Option R) (c0 : wp1) (v0 : js) : Option R := K (.exit 0) ⟨27, 0, [(0, .c (.l 264 sI2 c0.1)), (1, .c (.l 264 sI2 c0.2)), (5, cI v0), (11, cI v0), (12, .c (.l 264 sI2 c0.1)), (13, cI (c0.1.length : Int)), (14, cB (decide (v0 < (c0.1.length : Int))))], []⟩
theorem lleqLinkS_0 {R : Type} (k : Nat) (K : Ex → St → Option R) (c0 : wp1) : ∀ (n : Nat) (v : js), j1 [0, 0, 1, 5] (run E (den E k) (lv 231) k (z2 Tryz.f231 0)) n (StleqLinkS_0 c0 v) K = wv2 k (y84 K c0) (YleqLinkS_0_1 K c0) c0 n v := j6 (B := BleqLinkS_0 k (y84 K c0) (YleqLinkS_0_1 K c0) c0) (fun _ => rfl) (fun n v => by kernel_rfl) (fun _ => rfl) (fun _ _ => rfl)
theorem mleqLinkS_0 (k : Nat) (a0 : List I2) (a1 : List I2) : xb3 (k + 1) a0 a1 = if ((a0.length : Int) != (a1.length : Int)) = true then some false else j1 (R := Bool) [0, 0, 1, 5] (run E (den E k) (lv 231) k (z2 Tryz.f231 0)) k (StleqLinkS_0 (a0, a1) 0) (y9 E (den E k) (lv 231) k (za Tryz.f231) 0 [] (j9 E (rs 231) Tryz.f231 : Ex → St → Option (Bool))) := by kernel_rfl
theorem eleqLinkS (k : Nat) (a0 : List I2) (a1 : List I2) : xb3 (k + 1) a0 a1 = if ((a0.length : Int) != (a1.length : Int)) = true then some false else wv2 k (fun (v0 : Int) (x1 : I2) (x2 : I2) (p3 : Bool) => some false) (fun (v0 : Int) => some true) (a0, a1) k 0 := by
 rw [mleqLinkS_0]
 simp only [lleqLinkS_0]
 kernel_rfl
noncomputable def FleqSpan (k : Nat) (a0 : I2) (a1 : I2) : Option (Bool) := den E k 230 [.agg [vI a0.1, vI a0.2], .agg [vI a1.1, vI a1.2]]
theorem eleqSpan (k : Nat) (a0 : I2) (a1 : I2) : FleqSpan (k + 1) a0 a1 = if (a0.1 != a1.1) = true then some false else if (a0.2 != a1.2) = true then some false else some true := by kernel_rfl
noncomputable def vc4 (k : Nat) (a0 : Int × (List Int) × List Int) (a1 : Int × (List Int) × List Int) : Option (Bool) := den E k 246 [.agg (avs j2 a0), .agg (avs j2 a1)]
theorem eleqTable (k : Nat) (a0 : Int × (List Int) × List Int) (a1 : Int × (List Int) × List Int) : vc4 (k + 1) a0 a1 = if (a0.1 != a1.1) = true then some false else (v21 k a0.2.1 a1.2.1).bind fun p1 => if (!p1) = true then some false else (v21 k a0.2.2 a1.2.2).bind fun p2 => if (!p2) = true then some false else some true := by kernel_rfl
noncomputable def yk2 (k : Nat) (a0 : List (Int × (List Int) × List Int)) (a1 : List (Int × (List Int) × List Int)) : Option (Bool) := den E k 232 [.c (.l 147 j2 a0), .c (.l 147 j2 a1)]
abbrev jj1 : Type := (List (Int × (List Int) × List Int)) × (List (Int × (List Int) × List Int))
abbrev zl : Type := Int
def yc4 (c0 : jj1) (v0 : zl) : St := ⟨27, 0, [(0, .c (.l 147 j2 c0.1)), (1, .c (.l 147 j2 c0.2)), (5, cI v0)], []⟩
noncomputable def BleqTableS_0 {R : Type} (k : Nat) (X0 : zl → (Int × (List Int) × List Int) → (Int × (List Int) × List Int) → Bool → Option R) (X1 : zl → Option R) (c0 : jj1) (rec : zl → Option R) (v0 : zl) : Option R := if (decide (v0 < (c0.1.length : Int))) = true then if 0 ≤ v0 then ix c0.1 v0.toNat fun x1 => if 0 ≤ v0 then ix c0.2 v0.toNat fun x2 => (vc4 k x1 x2).bind fun p3 => if (!p3) = true then X0 v0 x1 x2 p3 else rec (IntKind.i64.wrap (v0 + 1)) else none else none else X1 v0
noncomputable def vc2 {R : Type} (k : Nat) (X0 : zl → (Int × (List Int) × List Int) → (Int × (List Int) × List Int) → Bool → Option R) (X1 : zl → Option R) (c : jj1) : Nat → zl → Option R
 | 0, _ => none
 | n + 1, v => BleqTableS_0 k X0 X1 c (vc2 k X0 X1 c n) v
def wq3 {R : Type} (K : Ex → St → Option R) (c0 : jj1) (v0 : zl) (x1 : Int × (List Int) × List Int) (x2 : Int × (List Int) × List Int) (p3 : Bool) : Option R := K .ret ⟨27, 0, [(0, .c (.l 147 j2 c0.1)), (1, .c (.l 147 j2 c0.2)), (4, cB false), (5, cI v0), (11, cI v0), (12, .c (.l 147 j2 c0.1)), (13, cI (c0.1.length : Int)), (14, cB (decide (v0 < (c0.1.length : Int)))), (17, .c (.l 147 j2 c0.1)), (18, cI v0), (19, .c (.at_ (avs j2 x1))), (20, .agg (avs j2 x1)), (21, .c (.l 147 j2 c0.2)), (22, cI v0), (23, .c (.at_ (avs j2 x2))), (24, .agg (avs j2 x2)), (25, cB p3), (26, cB (!p3))], []⟩
def zt3 {R : Type} (K : Ex → St → Option R) (c0 : jj1) (v0 : zl) : Option R := K (.exit 0) ⟨27, 0, [(0, .c (.l 147 j2 c0.1)), (1, .c (.l 147 j2 c0.2)), (5, cI v0), (11, cI v0), (12, .c (.l 147 j2 c0.1)), (13, cI (c0.1.length : Int)), (14, cB (decide (v0 < (c0.1.length : Int))))], []⟩
theorem lleqTableS_0 {R : Type} (k : Nat) (K : Ex → St → Option R) (c0 : jj1) : ∀ (n : Nat) (v : zl), j1 [0, 0, 1, 5] (run E (den E k) (lv 232) k (z2 Tryz.f232 0)) n (yc4 c0 v) K = vc2 k (wq3 K c0) (zt3 K c0) c0 n v := j6 (B := BleqTableS_0 k (wq3 K c0) (zt3 K c0) c0) (fun _ => rfl) (fun n v => by kernel_rfl) (fun _ => rfl) (fun _ _ => rfl)
theorem mleqTableS_0 (k : Nat) (a0 : List (Int × (List Int) × List Int)) (a1 : List (Int × (List Int) × List Int)) : yk2 (k + 1) a0 a1 = if ((a0.length : Int) != (a1.length : Int)) = true then some false else j1 (R := Bool) [0, 0, 1, 5] (run E (den E k) (lv 232) k (z2 Tryz.f232 0)) k (yc4 (a0, a1) 0) (y9 E (den E k) (lv 232) k (za Tryz.f232) 0 [] (j9 E (rs 232) Tryz.f232 : Ex → St → Option (Bool))) := by kernel_rfl
theorem eleqTableS (k : Nat) (a0 : List (Int × (List Int) × List Int)) (a1 : List (Int × (List Int) × List Int)) : yk2 (k + 1) a0 a1 = if ((a0.length : Int) != (a1.length : Int)) = true then some false else vc2 k (fun (v0 : Int) (x1 : Int × (List Int) × List Int) (x2 : Int × (List Int) × List Int) (p3 : Bool) => some false) (fun (v0 : Int) => some true) (a0, a1) k 0 := by
 rw [mleqTableS_0]
 simp only [lleqTableS_0]
 kernel_rfl
noncomputable def z84 (k : Nat) (a0 : v7) (a1 : v7) : Option (Bool) := den E k 197 [.agg (avs j4 a0), .agg (avs j4 a1)]
theorem eleqPiece (k : Nat) (a0 : v7) (a1 : v7) : z84 (k + 1) a0 a1 = (FleqSpan k a0.1 a1.1).bind fun p1 => if (!p1) = true then some false else (xb3 k a0.2.1 a1.2.1).bind fun p2 => if (!p2) = true then some false else (yk2 k a0.2.2 a1.2.2).bind fun p3 => if (!p3) = true then some false else some true := by kernel_rfl
noncomputable def zk2 (k : Nat) (a0 : List v7) (a1 : List v7) : Option (Bool) := den E k 127 [.c (.l 157 j4 a0), .c (.l 157 j4 a1)]
abbrev jh1 : Type := (List v7) × (List v7)
abbrev zm : Type := Int
def StleqPieceS_0 (c0 : jh1) (v0 : zm) : St := ⟨27, 0, [(0, .c (.l 157 j4 c0.1)), (1, .c (.l 157 j4 c0.2)), (5, cI v0)], []⟩
noncomputable def BleqPieceS_0 {R : Type} (k : Nat) (X0 : zm → v7 → v7 → Bool → Option R) (X1 : zm → Option R) (c0 : jh1) (rec : zm → Option R) (v0 : zm) : Option R := if (decide (v0 < (c0.1.length : Int))) = true then if 0 ≤ v0 then ix c0.1 v0.toNat fun x1 => if 0 ≤ v0 then ix c0.2 v0.toNat fun x2 => (z84 k x1 x2).bind fun p3 => if (!p3) = true then X0 v0 x1 x2 p3 else rec (IntKind.i64.wrap (v0 + 1)) else none else none else X1 v0
noncomputable def x92 {R : Type} (k : Nat) (X0 : zm → v7 → v7 → Bool → Option R) (X1 : zm → Option R) (c : jh1) : Nat → zm → Option R
 | 0, _ => none
 | n + 1, v => BleqPieceS_0 k X0 X1 c (x92 k X0 X1 c n) v
def yu3 {R : Type} (K : Ex → St → Option R) (c0 : jh1) (v0 : zm) (x1 : v7) (x2 : v7) (p3 : Bool) : Option R := K .ret ⟨27, 0, [(0, .c (.l 157 j4 c0.1)), (1, .c (.l 157 j4 c0.2)), (4, cB false), (5, cI v0), (11, cI v0), (12, .c (.l 157 j4 c0.1)), (13, cI (c0.1.length : Int)), (14, cB (decide (v0 < (c0.1.length : Int)))), (17, .c (.l 157 j4 c0.1)), (18, cI v0), (19, .c (.at_ (avs j4 x1))), (20, .agg (avs j4 x1)), (21, .c (.l 157 j4 c0.2)), (22, cI v0), (23, .c (.at_ (avs j4 x2))), (24, .agg (avs j4 x2)), (25, cB p3), (26, cB (!p3))], []⟩
def jt3 {R : Type} (K : Ex → St → Option R) (c0 : jh1) (v0 : zm) : Option R := K (.exit 0) ⟨27, 0, [(0, .c (.l 157 j4 c0.1)), (1, .c (.l 157 j4 c0.2)), (5, cI v0), (11, cI v0), (12, .c (.l 157 j4 c0.1)), (13, cI (c0.1.length : Int)), (14, cB (decide (v0 < (c0.1.length : Int))))], []⟩
theorem lleqPieceS_0 {R : Type} (k : Nat) (K : Ex → St → Option R) (c0 : jh1) : ∀ (n : Nat) (v : zm), j1 [0, 0, 1, 5] (run E (den E k) (lv 127) k (z2 Tryz.f127 0)) n (StleqPieceS_0 c0 v) K = x92 k (yu3 K c0) (jt3 K c0) c0 n v := j6 (B := BleqPieceS_0 k (yu3 K c0) (jt3 K c0) c0) (fun _ => rfl) (fun n v => by kernel_rfl) (fun _ => rfl) (fun _ _ => rfl)
theorem mleqPieceS_0 (k : Nat) (a0 : List v7) (a1 : List v7) : zk2 (k + 1) a0 a1 = if ((a0.length : Int) != (a1.length : Int)) = true then some false else j1 (R := Bool) [0, 0, 1, 5] (run E (den E k) (lv 127) k (z2 Tryz.f127 0)) k (StleqPieceS_0 (a0, a1) 0) (y9 E (den E k) (lv 127) k (za Tryz.f127) 0 [] (j9 E (rs 127) Tryz.f127 : Ex → St → Option (Bool))) := by kernel_rfl
theorem eleqPieceS (k : Nat) (a0 : List v7) (a1 : List v7) : zk2 (k + 1) a0 a1 = if ((a0.length : Int) != (a1.length : Int)) = true then some false else x92 k (fun (v0 : Int) (x1 : v7) (x2 : v7) (p3 : Bool) => some false) (fun (v0 : Int) => some true) (a0, a1) k 0 := by
 rw [mleqPieceS_0]
 simp only [lleqPieceS_0]
 kernel_rfl
noncomputable def jr2 (k : Nat) (a0 : xd) (a1 : xd) : Option (Bool) := den E k 47 [.agg (avs j3 a0), .agg (avs j3 a1)]
theorem eleqProgram (k : Nat) (a0 : xd) (a1 : xd) : jr2 (k + 1) a0 a1 = if (a0.1 != a1.1) = true then some false else if (a0.2.1 != a1.2.1) = true then some false else if (a0.2.2.1 != a1.2.2.1) = true then some false else (zk2 k a0.2.2.2 a1.2.2.2).bind fun p1 => if (!p1) = true then some false else some true := by kernel_rfl
noncomputable def FleqQueue (k : Nat) (a0 : List I6) (a1 : List I6) : Option (Bool) := den E k 129 [.agg [.l 115 sI6 a0], .agg [.l 115 sI6 a1]]
theorem eleqQueue (k : Nat) (a0 : List I6) (a1 : List I6) : FleqQueue (k + 1) a0 a1 = (zg1 k a0 a1).bind fun p1 => if (!p1) = true then some false else some true := by kernel_rfl
noncomputable def vk2 (k : Nat) (a0 : List (List I6)) (a1 : List (List I6)) : Option (Bool) := den E k 51 [.c (.l 113 j5 a0), .c (.l 113 j5 a1)]
abbrev zk1 : Type := (List (List I6)) × (List (List I6))
abbrev wm : Type := Int
def xa4 (c0 : zk1) (v0 : wm) : St := ⟨27, 0, [(0, .c (.l 113 j5 c0.1)), (1, .c (.l 113 j5 c0.2)), (5, cI v0)], []⟩
noncomputable def BleqQueueS_0 {R : Type} (k : Nat) (X0 : wm → (List I6) → (List I6) → Bool → Option R) (X1 : wm → Option R) (c0 : zk1) (rec : wm → Option R) (v0 : wm) : Option R := if (decide (v0 < (c0.1.length : Int))) = true then if 0 ≤ v0 then ix c0.1 v0.toNat fun x1 => if 0 ≤ v0 then ix c0.2 v0.toNat fun x2 => (FleqQueue k x1 x2).bind fun p3 => if (!p3) = true then X0 v0 x1 x2 p3 else rec (IntKind.i64.wrap (v0 + 1)) else none else none else X1 v0
noncomputable def va2 {R : Type} (k : Nat) (X0 : wm → (List I6) → (List I6) → Bool → Option R) (X1 : wm → Option R) (c : zk1) : Nat → wm → Option R
 | 0, _ => none
 | n + 1, v => BleqQueueS_0 k X0 X1 c (va2 k X0 X1 c n) v
def vo3 {R : Type} (K : Ex → St → Option R) (c0 : zk1) (v0 : wm) (x1 : List I6) (x2 : List I6) (p3 : Bool) : Option R := K .ret ⟨27, 0, [(0, .c (.l 113 j5 c0.1)), (1, .c (.l 113 j5 c0.2)), (4, cB false), (5, cI v0), (11, cI v0), (12, .c (.l 113 j5 c0.1)), (13, cI (c0.1.length : Int)), (14, cB (decide (v0 < (c0.1.length : Int)))), (17, .c (.l 113 j5 c0.1)), (18, cI v0), (19, .c (.at_ [.l 115 sI6 x1])), (20, .agg [.l 115 sI6 x1]), (21, .c (.l 113 j5 c0.2)), (22, cI v0), (23, .c (.at_ [.l 115 sI6 x2])), (24, .agg [.l 115 sI6 x2]), (25, cB p3), (26, cB (!p3))], []⟩
def xt3 {R : Type} (K : Ex → St → Option R) (c0 : zk1) (v0 : wm) : Option R := K (.exit 0) ⟨27, 0, [(0, .c (.l 113 j5 c0.1)), (1, .c (.l 113 j5 c0.2)), (5, cI v0), (11, cI v0), (12, .c (.l 113 j5 c0.1)), (13, cI (c0.1.length : Int)), (14, cB (decide (v0 < (c0.1.length : Int))))], []⟩
theorem lleqQueueS_0 {R : Type} (k : Nat) (K : Ex → St → Option R) (c0 : zk1) : ∀ (n : Nat) (v : wm), j1 [0, 0, 1, 5] (run E (den E k) (lv 51) k (z2 Tryz.f51 0)) n (xa4 c0 v) K = va2 k (vo3 K c0) (xt3 K c0) c0 n v := j6 (B := BleqQueueS_0 k (vo3 K c0) (xt3 K c0) c0) (fun _ => rfl) (fun n v => by kernel_rfl) (fun _ => rfl) (fun _ _ => rfl)
theorem mleqQueueS_0 (k : Nat) (a0 : List (List I6)) (a1 : List (List I6)) : vk2 (k + 1) a0 a1 = if ((a0.length : Int) != (a1.length : Int)) = true then some false else j1 (R := Bool) [0, 0, 1, 5] (run E (den E k) (lv 51) k (z2 Tryz.f51 0)) k (xa4 (a0, a1) 0) (y9 E (den E k) (lv 51) k (za Tryz.f51) 0 [] (j9 E (rs 51) Tryz.f51 : Ex → St → Option (Bool))) := by kernel_rfl
theorem eleqQueueS (k : Nat) (a0 : List (List I6)) (a1 : List (List I6)) : vk2 (k + 1) a0 a1 = if ((a0.length : Int) != (a1.length : Int)) = true then some false else va2 k (fun (v0 : Int) (x1 : List I6) (x2 : List I6) (p3 : Bool) => some false) (fun (v0 : Int) => some true) (a0, a1) k 0 := by
 rw [mleqQueueS_0]
 simp only [lleqQueueS_0]
 kernel_rfl
noncomputable def FleqSent (k : Nat) (a0 : I4) (a1 : I4) : Option (Bool) := den E k 134 [.agg (avs sI4 a0), .agg (avs sI4 a1)]
theorem eleqSent (k : Nat) (a0 : I4) (a1 : I4) : FleqSent (k + 1) a0 a1 = if (a0.1 != a1.1) = true then some false else if (a0.2.1 != a1.2.1) = true then some false else if (a0.2.2.1 != a1.2.2.1) = true then some false else if (a0.2.2.2 != a1.2.2.2) = true then some false else some true := by kernel_rfl
noncomputable def xi3 (k : Nat) (a0 : List I4) (a1 : List I4) : Option (Bool) := den E k 56 [.c (.l 69 sI4 a0), .c (.l 69 sI4 a1)]
abbrev vo1 : Type := (List I4) × (List I4)
abbrev yr : Type := Int
def StleqSentS_0 (c0 : vo1) (v0 : yr) : St := ⟨27, 0, [(0, .c (.l 69 sI4 c0.1)), (1, .c (.l 69 sI4 c0.2)), (5, cI v0)], []⟩
noncomputable def BleqSentS_0 {R : Type} (k : Nat) (X0 : yr → I4 → I4 → Bool → Option R) (X1 : yr → Option R) (c0 : vo1) (rec : yr → Option R) (v0 : yr) : Option R := if (decide (v0 < (c0.1.length : Int))) = true then if 0 ≤ v0 then ix c0.1 v0.toNat fun x1 => if 0 ≤ v0 then ix c0.2 v0.toNat fun x2 => (FleqSent k x1 x2).bind fun p3 => if (!p3) = true then X0 v0 x1 x2 p3 else rec (IntKind.i64.wrap (v0 + 1)) else none else none else X1 v0
noncomputable def ju2 {R : Type} (k : Nat) (X0 : yr → I4 → I4 → Bool → Option R) (X1 : yr → Option R) (c : vo1) : Nat → yr → Option R
 | 0, _ => none
 | n + 1, v => BleqSentS_0 k X0 X1 c (ju2 k X0 X1 c n) v
def y34 {R : Type} (K : Ex → St → Option R) (c0 : vo1) (v0 : yr) (x1 : I4) (x2 : I4) (p3 : Bool) : Option R := K .ret ⟨27, 0, [(0, .c (.l 69 sI4 c0.1)), (1, .c (.l 69 sI4 c0.2)), (4, cB false), (5, cI v0), (11, cI v0), (12, .c (.l 69 sI4 c0.1)), (13, cI (c0.1.length : Int)), (14, cB (decide (v0 < (c0.1.length : Int)))), (17, .c (.l 69 sI4 c0.1)), (18, cI v0), (19, .c (.at_ (avs sI4 x1))), (20, .agg (avs sI4 x1)), (21, .c (.l 69 sI4 c0.2)), (22, cI v0), (23, .c (.at_ (avs sI4 x2))), (24, .agg (avs sI4 x2)), (25, cB p3), (26, cB (!p3))], []⟩
def w84 {R : Type} (K : Ex → St → Option R) (c0 : vo1) (v0 : yr) : Option R := K (.exit 0) ⟨27, 0, [(0, .c (.l 69 sI4 c0.1)), (1, .c (.l 69 sI4 c0.2)), (5, cI v0), (11, cI v0), (12, .c (.l 69 sI4 c0.1)), (13, cI (c0.1.length : Int)), (14, cB (decide (v0 < (c0.1.length : Int))))], []⟩
theorem lleqSentS_0 {R : Type} (k : Nat) (K : Ex → St → Option R) (c0 : vo1) : ∀ (n : Nat) (v : yr), j1 [0, 0, 1, 5] (run E (den E k) (lv 56) k (z2 Tryz.f56 0)) n (StleqSentS_0 c0 v) K = ju2 k (y34 K c0) (w84 K c0) c0 n v := j6 (B := BleqSentS_0 k (y34 K c0) (w84 K c0) c0) (fun _ => rfl) (fun n v => by kernel_rfl) (fun _ => rfl) (fun _ _ => rfl)
theorem mleqSentS_0 (k : Nat) (a0 : List I4) (a1 : List I4) : xi3 (k + 1) a0 a1 = if ((a0.length : Int) != (a1.length : Int)) = true then some false else j1 (R := Bool) [0, 0, 1, 5] (run E (den E k) (lv 56) k (z2 Tryz.f56 0)) k (StleqSentS_0 (a0, a1) 0) (y9 E (den E k) (lv 56) k (za Tryz.f56) 0 [] (j9 E (rs 56) Tryz.f56 : Ex → St → Option (Bool))) := by kernel_rfl
theorem eleqSentS (k : Nat) (a0 : List I4) (a1 : List I4) : xi3 (k + 1) a0 a1 = if ((a0.length : Int) != (a1.length : Int)) = true then some false else ju2 k (fun (v0 : Int) (x1 : I4) (x2 : I4) (p3 : Bool) => some false) (fun (v0 : Int) => some true) (a0, a1) k 0 := by
 rw [mleqSentS_0]
 simp only [lleqSentS_0]
 kernel_rfl
noncomputable def FleqSat (k : Nat) (a0 : I4) (a1 : I4) : Option (Bool) := den E k 194 [.agg (avs sI4 a0), .agg (avs sI4 a1)]
theorem eleqSat (k : Nat) (a0 : I4) (a1 : I4) : FleqSat (k + 1) a0 a1 = if (a0.1 != a1.1) = true then some false else if (a0.2.1 != a1.2.1) = true then some false else if (a0.2.2.1 != a1.2.2.1) = true then some false else if (a0.2.2.2 != a1.2.2.2) = true then some false else some true := by kernel_rfl
noncomputable def y54 (k : Nat) (a0 : List I4) (a1 : List I4) : Option (Bool) := den E k 124 [.c (.l 224 sI4 a0), .c (.l 224 sI4 a1)]
abbrev y42 : Type := (List I4) × (List I4)
abbrev yz : Type := Int
def StleqSatS_0 (c0 : y42) (v0 : yz) : St := ⟨27, 0, [(0, .c (.l 224 sI4 c0.1)), (1, .c (.l 224 sI4 c0.2)), (5, cI v0)], []⟩
noncomputable def BleqSatS_0 {R : Type} (k : Nat) (X0 : yz → I4 → I4 → Bool → Option R) (X1 : yz → Option R) (c0 : y42) (rec : yz → Option R) (v0 : yz) : Option R := if (decide (v0 < (c0.1.length : Int))) = true then if 0 ≤ v0 then ix c0.1 v0.toNat fun x1 => if 0 ≤ v0 then ix c0.2 v0.toNat fun x2 => (FleqSat k x1 x2).bind fun p3 => if (!p3) = true then X0 v0 x1 x2 p3 else rec (IntKind.i64.wrap (v0 + 1)) else none else none else X1 v0
noncomputable def jl3 {R : Type} (k : Nat) (X0 : yz → I4 → I4 → Bool → Option R) (X1 : yz → Option R) (c : y42) : Nat → yz → Option R
 | 0, _ => none
 | n + 1, v => BleqSatS_0 k X0 X1 c (jl3 k X0 X1 c n) v
def YleqSatS_0_0 {R : Type} (K : Ex → St → Option R) (c0 : y42) (v0 : yz) (x1 : I4) (x2 : I4) (p3 : Bool) : Option R := K .ret ⟨27, 0, [(0, .c (.l 224 sI4 c0.1)), (1, .c (.l 224 sI4 c0.2)), (4, cB false), (5, cI v0), (11, cI v0), (12, .c (.l 224 sI4 c0.1)), (13, cI (c0.1.length : Int)), (14, cB (decide (v0 < (c0.1.length : Int)))), (17, .c (.l 224 sI4 c0.1)), (18, cI v0), (19, .c (.at_ (avs sI4 x1))), (20, .agg (avs sI4 x1)), (21, .c (.l 224 sI4 c0.2)), (22, cI v0), (23, .c (.at_ (avs sI4 x2))), (24, .agg (avs sI4 x2)), (25, cB p3), (26, cB (!p3))], []⟩
def YleqSatS_0_1 {R : Type} (K : Ex → St → Option R) (c0 : y42) (v0 : yz) : Option R := K (.exit 0) ⟨27, 0, [(0, .c (.l 224 sI4 c0.1)), (1, .c (.l 224 sI4 c0.2)), (5, cI v0), (11, cI v0), (12, .c (.l 224 sI4 c0.1)), (13, cI (c0.1.length : Int)), (14, cB (decide (v0 < (c0.1.length : Int))))], []⟩
theorem lleqSatS_0 {R : Type} (k : Nat) (K : Ex → St → Option R) (c0 : y42) : ∀ (n : Nat) (v : yz), j1 [0, 0, 1, 5] (run E (den E k) (lv 124) k (z2 Tryz.f124 0)) n (StleqSatS_0 c0 v) K = jl3 k (YleqSatS_0_0 K c0) (YleqSatS_0_1 K c0) c0 n v := j6 (B := BleqSatS_0 k (YleqSatS_0_0 K c0) (YleqSatS_0_1 K c0) c0) (fun _ => rfl) (fun n v => by kernel_rfl) (fun _ => rfl) (fun _ _ => rfl)
theorem mleqSatS_0 (k : Nat) (a0 : List I4) (a1 : List I4) : y54 (k + 1) a0 a1 = if ((a0.length : Int) != (a1.length : Int)) = true then some false else j1 (R := Bool) [0, 0, 1, 5] (run E (den E k) (lv 124) k (z2 Tryz.f124 0)) k (StleqSatS_0 (a0, a1) 0) (y9 E (den E k) (lv 124) k (za Tryz.f124) 0 [] (j9 E (rs 124) Tryz.f124 : Ex → St → Option (Bool))) := by kernel_rfl
theorem eleqSatS (k : Nat) (a0 : List I4) (a1 : List I4) : y54 (k + 1) a0 a1 = if ((a0.length : Int) != (a1.length : Int)) = true then some false else jl3 k (fun (v0 : Int) (x1 : I4) (x2 : I4) (p3 : Bool) => some false) (fun (v0 : Int) => some true) (a0, a1) k 0 := by
 rw [mleqSatS_0]
 simp only [lleqSatS_0]
 kernel_rfl
noncomputable def FleqSite (k : Nat) (a0 : I3) (a1 : I3) : Option (Bool) := den E k 195 [.agg (avs sI3 a0), .agg (avs sI3 a1)]
theorem eleqSite (k : Nat) (a0 : I3) (a1 : I3) : FleqSite (k + 1) a0 a1 = if (a0.1 != a1.1) = true then some false else if (a0.2.1 != a1.2.1) = true then some false else if (a0.2.2 != a1.2.2) = true then some false else some true := by kernel_rfl
noncomputable def wd3 (k : Nat) (a0 : List I3) (a1 : List I3) : Option (Bool) := den E k 125 [.c (.l 228 sI3 a0), .c (.l 228 sI3 a1)]
abbrev wo1 : Type := (List I3) × (List I3)
abbrev jq : Type := Int
def StleqSiteS_0 (c0 : wo1) (v0 : jq) : St := ⟨27, 0, [(0, .c (.l 228 sI3 c0.1)), (1, .c (.l 228 sI3 c0.2)), (5, cI v0)], []⟩
noncomputable def BleqSiteS_0 {R : Type} (k : Nat) (X0 : jq → I3 → I3 → Bool → Option R) (X1 : jq → Option R) (c0 : wo1) (rec : jq → Option R) (v0 : jq) : Option R := if (decide (v0 < (c0.1.length : Int))) = true then if 0 ≤ v0 then ix c0.1 v0.toNat fun x1 => if 0 ≤ v0 then ix c0.2 v0.toNat fun x2 => (FleqSite k x1 x2).bind fun p3 => if (!p3) = true then X0 v0 x1 x2 p3 else rec (IntKind.i64.wrap (v0 + 1)) else none else none else X1 v0
noncomputable def wn2 {R : Type} (k : Nat) (X0 : jq → I3 → I3 → Bool → Option R) (X1 : jq → Option R) (c : wo1) : Nat → jq → Option R
 | 0, _ => none
 | n + 1, v => BleqSiteS_0 k X0 X1 c (wn2 k X0 X1 c n) v
def zc4 {R : Type} (K : Ex → St → Option R) (c0 : wo1) (v0 : jq) (x1 : I3) (x2 : I3) (p3 : Bool) : Option R := K .ret ⟨27, 0, [(0, .c (.l 228 sI3 c0.1)), (1, .c (.l 228 sI3 c0.2)), (4, cB false), (5, cI v0), (11, cI v0), (12, .c (.l 228 sI3 c0.1)), (13, cI (c0.1.length : Int)), (14, cB (decide (v0 < (c0.1.length : Int)))), (17, .c (.l 228 sI3 c0.1)), (18, cI v0), (19, .c (.at_ (avs sI3 x1))), (20, .agg (avs sI3 x1)), (21, .c (.l 228 sI3 c0.2)), (22, cI v0), (23, .c (.at_ (avs sI3 x2))), (24, .agg (avs sI3 x2)), (25, cB p3), (26, cB (!p3))], []⟩
def YleqSiteS_0_1 {R : Type} (K : Ex → St → Option R) (c0 : wo1) (v0 : jq) : Option R := K (.exit 0) ⟨27, 0, [(0, .c (.l 228 sI3 c0.1)), (1, .c (.l 228 sI3 c0.2)), (5, cI v0), (11, cI v0), (12, .c (.l 228 sI3 c0.1)), (13, cI (c0.1.length : Int)), (14, cB (decide (v0 < (c0.1.length : Int))))], []⟩
theorem lleqSiteS_0 {R : Type} (k : Nat) (K : Ex → St → Option R) (c0 : wo1) : ∀ (n : Nat) (v : jq), j1 [0, 0, 1, 5] (run E (den E k) (lv 125) k (z2 Tryz.f125 0)) n (StleqSiteS_0 c0 v) K = wn2 k (zc4 K c0) (YleqSiteS_0_1 K c0) c0 n v := j6 (B := BleqSiteS_0 k (zc4 K c0) (YleqSiteS_0_1 K c0) c0) (fun _ => rfl) (fun n v => by kernel_rfl) (fun _ => rfl) (fun _ _ => rfl)
theorem mleqSiteS_0 (k : Nat) (a0 : List I3) (a1 : List I3) : wd3 (k + 1) a0 a1 = if ((a0.length : Int) != (a1.length : Int)) = true then some false else j1 (R := Bool) [0, 0, 1, 5] (run E (den E k) (lv 125) k (z2 Tryz.f125 0)) k (StleqSiteS_0 (a0, a1) 0) (y9 E (den E k) (lv 125) k (za Tryz.f125) 0 [] (j9 E (rs 125) Tryz.f125 : Ex → St → Option (Bool))) := by kernel_rfl
theorem eleqSiteS (k : Nat) (a0 : List I3) (a1 : List I3) : wd3 (k + 1) a0 a1 = if ((a0.length : Int) != (a1.length : Int)) = true then some false else wn2 k (fun (v0 : Int) (x1 : I3) (x2 : I3) (p3 : Bool) => some false) (fun (v0 : Int) => some true) (a0, a1) k 0 := by
 rw [mleqSiteS_0]
 simp only [lleqSiteS_0]
 kernel_rfl
noncomputable def FleqArc (k : Nat) (a0 : I2) (a1 : I2) : Option (Bool) := den E k 229 [.agg [vI a0.1, vI a0.2], .agg [vI a1.1, vI a1.2]]
theorem eleqArc (k : Nat) (a0 : I2) (a1 : I2) : FleqArc (k + 1) a0 a1 = if (a0.1 != a1.1) = true then some false else if (a0.2 != a1.2) = true then some false else some true := by kernel_rfl
noncomputable def FleqZone (k : Nat) (a0 : I3) (a1 : I3) : Option (Bool) := den E k 196 [.agg (avs sI3 a0), .agg (avs sI3 a1)]
theorem eleqZone (k : Nat) (a0 : I3) (a1 : I3) : FleqZone (k + 1) a0 a1 = if (a0.1 != a1.1) = true then some false else (FleqArc k a0.2 a1.2).bind fun p1 => if (!p1) = true then some false else some true := by kernel_rfl
noncomputable def w73 (k : Nat) (a0 : List I3) (a1 : List I3) : Option (Bool) := den E k 126 [.c (.l 234 sZone a0), .c (.l 234 sZone a1)]
abbrev yq1 : Type := (List I3) × (List I3)
abbrev xt : Type := Int
def StleqZoneS_0 (c0 : yq1) (v0 : xt) : St := ⟨27, 0, [(0, .c (.l 234 sZone c0.1)), (1, .c (.l 234 sZone c0.2)), (5, cI v0)], []⟩
noncomputable def BleqZoneS_0 {R : Type} (k : Nat) (X0 : xt → I3 → I3 → Bool → Option R) (X1 : xt → Option R) (c0 : yq1) (rec : xt → Option R) (v0 : xt) : Option R := if (decide (v0 < (c0.1.length : Int))) = true then if 0 ≤ v0 then ix c0.1 v0.toNat fun x1 => if 0 ≤ v0 then ix c0.2 v0.toNat fun x2 => (FleqZone k x1 x2).bind fun p3 => if (!p3) = true then X0 v0 x1 x2 p3 else rec (IntKind.i64.wrap (v0 + 1)) else none else none else X1 v0
noncomputable def vp2 {R : Type} (k : Nat) (X0 : xt → I3 → I3 → Bool → Option R) (X1 : xt → Option R) (c : yq1) : Nat → xt → Option R
 | 0, _ => none
 | n + 1, v => BleqZoneS_0 k X0 X1 c (vp2 k X0 X1 c n) v
def y94 {R : Type} (K : Ex → St → Option R) (c0 : yq1) (v0 : xt) (x1 : I3) (x2 : I3) (p3 : Bool) : Option R := K .ret ⟨27, 0, [(0, .c (.l 234 sZone c0.1)), (1, .c (.l 234 sZone c0.2)), (4, cB false), (5, cI v0), (11, cI v0), (12, .c (.l 234 sZone c0.1)), (13, cI (c0.1.length : Int)), (14, cB (decide (v0 < (c0.1.length : Int)))), (17, .c (.l 234 sZone c0.1)), (18, cI v0), (19, .c (.at_ (avs sI3 x1))), (20, .agg (avs sI3 x1)), (21, .c (.l 234 sZone c0.2)), (22, cI v0), (23, .c (.at_ (avs sI3 x2))), (24, .agg (avs sI3 x2)), (25, cB p3), (26, cB (!p3))], []⟩
def z94 {R : Type} (K : Ex → St → Option R) (c0 : yq1) (v0 : xt) : Option R := K (.exit 0) ⟨27, 0, [(0, .c (.l 234 sZone c0.1)), (1, .c (.l 234 sZone c0.2)), (5, cI v0), (11, cI v0), (12, .c (.l 234 sZone c0.1)), (13, cI (c0.1.length : Int)), (14, cB (decide (v0 < (c0.1.length : Int))))], []⟩
theorem lleqZoneS_0 {R : Type} (k : Nat) (K : Ex → St → Option R) (c0 : yq1) : ∀ (n : Nat) (v : xt), j1 [0, 0, 1, 5] (run E (den E k) (lv 126) k (z2 Tryz.f126 0)) n (StleqZoneS_0 c0 v) K = vp2 k (y94 K c0) (z94 K c0) c0 n v := j6 (B := BleqZoneS_0 k (y94 K c0) (z94 K c0) c0) (fun _ => rfl) (fun n v => by kernel_rfl) (fun _ => rfl) (fun _ _ => rfl)
theorem mleqZoneS_0 (k : Nat) (a0 : List I3) (a1 : List I3) : w73 (k + 1) a0 a1 = if ((a0.length : Int) != (a1.length : Int)) = true then some false else j1 (R := Bool) [0, 0, 1, 5] (run E (den E k) (lv 126) k (z2 Tryz.f126 0)) k (StleqZoneS_0 (a0, a1) 0) (y9 E (den E k) (lv 126) k (za Tryz.f126) 0 [] (j9 E (rs 126) Tryz.f126 : Ex → St → Option (Bool))) := by kernel_rfl
theorem eleqZoneS (k : Nat) (a0 : List I3) (a1 : List I3) : w73 (k + 1) a0 a1 = if ((a0.length : Int) != (a1.length : Int)) = true then some false else vp2 k (fun (v0 : Int) (x1 : I3) (x2 : I3) (p3 : Bool) => some false) (fun (v0 : Int) => some true) (a0, a1) k 0 := by
 rw [mleqZoneS_0]
 simp only [lleqZoneS_0]
 kernel_rfl
noncomputable def FleqSky (k : Nat) (a0 : TSky) (a1 : TSky) : Option (Bool) := den E k 46 [.agg (avs sSky a0), .agg (avs sSky a1)]
theorem eleqSky (k : Nat) (a0 : TSky) (a1 : TSky) : FleqSky (k + 1) a0 a1 = if (a0.1 != a1.1) = true then some false else (y54 k a0.2.1 a1.2.1).bind fun p1 => if (!p1) = true then some false else (wd3 k a0.2.2.1 a1.2.2.1).bind fun p2 => if (!p2) = true then some false else if (a0.2.2.2.1 != a1.2.2.2.1) = true then some false else if (a0.2.2.2.2.1 != a1.2.2.2.2.1) = true then some false else if (a0.2.2.2.2.2.1 != a1.2.2.2.2.2.1) = true then some false else if (a0.2.2.2.2.2.2.1 != a1.2.2.2.2.2.2.1) = true then some false else if (a0.2.2.2.2.2.2.2.1 != a1.2.2.2.2.2.2.2.1) = true then some false else (w73 k a0.2.2.2.2.2.2.2.2.1 a1.2.2.2.2.2.2.2.2.1).bind fun p3 => if (!p3) = true then some false else if (a0.2.2.2.2.2.2.2.2.2 != a1.2.2.2.2.2.2.2.2.2) = true then some false else some true := by kernel_rfl
noncomputable def yk3 (k : Nat) (a0 : Int × Int × List Int) (a1 : Int × Int × List Int) : Option (Bool) := den E k 131 [.agg (avs z1 a0), .agg (avs z1 a1)]
theorem eleqStream (k : Nat) (a0 : Int × Int × List Int) (a1 : Int × Int × List Int) : yk3 (k + 1) a0 a1 = if (a0.1 != a1.1) = true then some false else if (a0.2.1 != a1.2.1) = true then some false else (v21 k a0.2.2 a1.2.2).bind fun p1 => if (!p1) = true then some false else some true := by kernel_rfl
noncomputable def z62 (k : Nat) (a0 : List (Int × Int × List Int)) (a1 : List (Int × Int × List Int)) : Option (Bool) := den E k 53 [.c (.l 120 z1 a0), .c (.l 120 z1 a1)]
abbrev jb1 : Type := (List (Int × Int × List Int)) × (List (Int × Int × List Int))
abbrev xj : Type := Int
def wx3 (c0 : jb1) (v0 : xj) : St := ⟨27, 0, [(0, .c (.l 120 z1 c0.1)), (1, .c (.l 120 z1 c0.2)), (5, cI v0)], []⟩
noncomputable def w44 {R : Type} (k : Nat) (X0 : xj → (Int × Int × List Int) → (Int × Int × List Int) → Bool → Option R) (X1 : xj → Option R) (c0 : jb1) (rec : xj → Option R) (v0 : xj) : Option R := if (decide (v0 < (c0.1.length : Int))) = true then if 0 ≤ v0 then ix c0.1 v0.toNat fun x1 => if 0 ≤ v0 then ix c0.2 v0.toNat fun x2 => (yk3 k x1 x2).bind fun p3 => if (!p3) = true then X0 v0 x1 x2 p3 else rec (IntKind.i64.wrap (v0 + 1)) else none else none else X1 v0
noncomputable def xz1 {R : Type} (k : Nat) (X0 : xj → (Int × Int × List Int) → (Int × Int × List Int) → Bool → Option R) (X1 : xj → Option R) (c : jb1) : Nat → xj → Option R
 | 0, _ => none
 | n + 1, v => w44 k X0 X1 c (xz1 k X0 X1 c n) v
def vd3 {R : Type} (K : Ex → St → Option R) (c0 : jb1) (v0 : xj) (x1 : Int × Int × List Int) (x2 : Int × Int × List Int) (p3 : Bool) : Option R := K .ret ⟨27, 0, [(0, .c (.l 120 z1 c0.1)), (1, .c (.l 120 z1 c0.2)), (4, cB false), (5, cI v0), (11, cI v0), (12, .c (.l 120 z1 c0.1)), (13, cI (c0.1.length : Int)), (14, cB (decide (v0 < (c0.1.length : Int)))), (17, .c (.l 120 z1 c0.1)), (18, cI v0), (19, .c (.at_ (avs z1 x1))), (20, .agg (avs z1 x1)), (21, .c (.l 120 z1 c0.2)), (22, cI v0), (23, .c (.at_ (avs z1 x2))), (24, .agg (avs z1 x2)), (25, cB p3), (26, cB (!p3))], []⟩
def wi3 {R : Type} (K : Ex → St → Option R) (c0 : jb1) (v0 : xj) : Option R := K (.exit 0) ⟨27, 0, [(0, .c (.l 120 z1 c0.1)), (1, .c (.l 120 z1 c0.2)), (5, cI v0), (11, cI v0), (12, .c (.l 120 z1 c0.1)), (13, cI (c0.1.length : Int)), (14, cB (decide (v0 < (c0.1.length : Int))))], []⟩
theorem lleqStreamS_0 {R : Type} (k : Nat) (K : Ex → St → Option R) (c0 : jb1) : ∀ (n : Nat) (v : xj), j1 [0, 0, 1, 5] (run E (den E k) (lv 53) k (z2 Tryz.f53 0)) n (wx3 c0 v) K = xz1 k (vd3 K c0) (wi3 K c0) c0 n v := j6 (B := w44 k (vd3 K c0) (wi3 K c0) c0) (fun _ => rfl) (fun n v => by kernel_rfl) (fun _ => rfl) (fun _ _ => rfl)
theorem mleqStreamS_0 (k : Nat) (a0 : List (Int × Int × List Int)) (a1 : List (Int × Int × List Int)) : z62 (k + 1) a0 a1 = if ((a0.length : Int) != (a1.length : Int)) = true then some false else j1 (R := Bool) [0, 0, 1, 5] (run E (den E k) (lv 53) k (z2 Tryz.f53 0)) k (wx3 (a0, a1) 0) (y9 E (den E k) (lv 53) k (za Tryz.f53) 0 [] (j9 E (rs 53) Tryz.f53 : Ex → St → Option (Bool))) := by kernel_rfl
theorem eleqStreamS (k : Nat) (a0 : List (Int × Int × List Int)) (a1 : List (Int × Int × List Int)) : z62 (k + 1) a0 a1 = if ((a0.length : Int) != (a1.length : Int)) = true then some false else xz1 k (fun (v0 : Int) (x1 : Int × Int × List Int) (x2 : Int × Int × List Int) (p3 : Bool) => some false) (fun (v0 : Int) => some true) (a0, a1) k 0 := by
 rw [mleqStreamS_0]
 simp only [lleqStreamS_0]
 kernel_rfl
noncomputable def ym2 (k : Nat) (a0 : wg) (a1 : wg) : Option (Bool) := den E k 9 [.agg (avs xb a0), .agg (avs xb a1)]
theorem eleqWorld (k : Nat) (a0 : wg) (a1 : wg) : ym2 (k + 1) a0 a1 = (FleqSky k a0.1 a1.1).bind fun p1 => if (!p1) = true then some false else (jr2 k a0.2.1 a1.2.1).bind fun p2 => if (!p2) = true then some false else (FleqLaw k a0.2.2.1 a1.2.2.1).bind fun p3 => if (!p3) = true then some false else (v21 k a0.2.2.2.1 a1.2.2.2.1).bind fun p4 => if (!p4) = true then some false else (zv1 k a0.2.2.2.2.1 a1.2.2.2.2.1).bind fun p5 => if (!p5) = true then some false else (vk2 k a0.2.2.2.2.2.1 a1.2.2.2.2.2.1).bind fun p6 => if (!p6) = true then some false else (xe3 k a0.2.2.2.2.2.2.1 a1.2.2.2.2.2.2.1).bind fun p7 => if (!p7) = true then some false else (v21 k a0.2.2.2.2.2.2.2.1 a1.2.2.2.2.2.2.2.1).bind fun p8 => if (!p8) = true then some false else (z62 k a0.2.2.2.2.2.2.2.2.1 a1.2.2.2.2.2.2.2.2.1).bind fun p9 => if (!p9) = true then some false else (wm2 k a0.2.2.2.2.2.2.2.2.2.1 a1.2.2.2.2.2.2.2.2.2.1).bind fun p10 => if (!p10) = true then some false else if (a0.2.2.2.2.2.2.2.2.2.2.1 != a1.2.2.2.2.2.2.2.2.2.2.1) = true then some false else if (a0.2.2.2.2.2.2.2.2.2.2.2.1 != a1.2.2.2.2.2.2.2.2.2.2.2.1) = true then some false else (zg1 k a0.2.2.2.2.2.2.2.2.2.2.2.2.1 a1.2.2.2.2.2.2.2.2.2.2.2.2.1).bind fun p11 => if (!p11) = true then some false else (xi3 k a0.2.2.2.2.2.2.2.2.2.2.2.2.2 a1.2.2.2.2.2.2.2.2.2.2.2.2.2).bind fun p12 => if (!p12) = true then some false else some true := by kernel_rfl
noncomputable def vt1 (k : Nat) (a0 : List I6) (a1 : Int) : Option (Int) := den E k 84 [.c (.l 164 sI6 a0), cI a1]
abbrev xf : Type := (List I6)
abbrev j7 : Type := Int × Int
def wk2 (c0 : xf) (v0 : j7) : St := ⟨67, 0, [(0, .c (.l 164 sI6 c0)), (1, cI v0.1), (5, cI v0.2)], []⟩
noncomputable def zu {R : Type} (k : Nat) (X0 : j7 → I6 → Option R) (X1 : j7 → I6 → I6 → Option R) (X2 : j7 → I6 → I6 → I6 → Option R) (X3 : j7 → I6 → I6 → I6 → I6 → Option R) (X4 : j7 → I6 → I6 → I6 → I6 → I6 → Option R) (X5 : j7 → I6 → I6 → I6 → I6 → I6 → I6 → Option R) (X6 : j7 → Option R) (c0 : xf) (rec : j7 → Option R) (v0 : j7) : Option R := if (decide (v0.2 < (c0.length : Int))) = true then if 0 ≤ v0.2 then ix c0 v0.2.toNat fun x1 => if (x1.1 != v0.1) = true then X0 v0 x1 else if 0 ≤ v0.2 then ix c0 v0.2.toNat fun x2 => if (x2.2.1 != (IntKind.i64.wrap (v0.1 + 1))) = true then X1 v0 x1 x2 else if 0 ≤ v0.2 then ix c0 v0.2.toNat fun x3 => if (x3.2.2.1 != (IntKind.i64.wrap ((IntKind.i64.wrap (v0.1 + 1)) + 1))) = true then X2 v0 x1 x2 x3 else if 0 ≤ v0.2 then ix c0 v0.2.toNat fun x4 => if (x4.2.2.2.1 != (IntKind.i64.wrap ((IntKind.i64.wrap ((IntKind.i64.wrap (v0.1 + 1)) + 1)) + 1))) = true then X3 v0 x1 x2 x3 x4 else if 0 ≤ v0.2 then ix c0 v0.2.toNat fun x5 => if (x5.2.2.2.2.1 != (IntKind.i64.wrap ((IntKind.i64.wrap ((IntKind.i64.wrap ((IntKind.i64.wrap (v0.1 + 1)) + 1)) + 1)) + 1))) = true then X4 v0 x1 x2 x3 x4 x5 else if 0 ≤ v0.2 then ix c0 v0.2.toNat fun x6 => if (x6.2.2.2.2.2 != (IntKind.i64.wrap ((IntKind.i64.wrap ((IntKind.i64.wrap ((IntKind.i64.wrap ((IntKind.i64.wrap (v0.1 + 1)) + 1)) + 1)) + 1)) + 1))) = true then X5 v0 x1 x2 x3 x4 x5 x6 else rec ((IntKind.i64.wrap ((IntKind.i64.wrap ((IntKind.i64.wrap ((IntKind.i64.wrap ((IntKind.i64.wrap ((IntKind.i64.wrap (v0.1 + 1)) + 1)) + 1)) + 1)) + 1)) + 1)), (IntKind.i64.wrap (v0.2 + 1))) else none else none else none else none else none else none else X6 v0
noncomputable def zf1 {R : Type} (k : Nat) (X0 : j7 → I6 → Option R) (X1 : j7 → I6 → I6 → Option R) (X2 : j7 → I6 → I6 → I6 → Option R) (X3 : j7 → I6 → I6 → I6 → I6 → Option R) (X4 : j7 → I6 → I6 → I6 → I6 → I6 → Option R) (X5 : j7 → I6 → I6 → I6 → I6 → I6 → I6 → Option R) (X6 : j7 → Option R) (c : xf) : Nat → j7 → Option R
 | 0, _ => none
 | n + 1, v => zu k X0 X1 X2 X3 X4 X5 X6 c (zf1 k X0 X1 X2 X3 X4 X5 X6 c n) v
def wc2 {R : Type} (K : Ex → St → Option R) (c0 : xf) (v0 : j7) (x1 : I6) : Option R := K .ret ⟨67, 0, [(0, .c (.l 164 sI6 c0)), (1, cI v0.1), (4, cI (-1)), (5, cI v0.2), (6, cI v0.2), (7, .c (.l 164 sI6 c0)), (8, cI (c0.length : Int)), (9, cB (decide (v0.2 < (c0.length : Int)))), (12, .c (.l 164 sI6 c0)), (13, cI v0.2), (14, .c (.at_ (avs sI6 x1))), (15, .c (.at_ (avs sI6 x1))), (16, cI x1.1), (17, cI v0.1), (18, cB (x1.1 != v0.1))], []⟩
def ze2 {R : Type} (K : Ex → St → Option R) (c0 : xf) (v0 : j7) (x1 : I6) (x2 : I6) : Option R := K .ret ⟨67, 0, [(0, .c (.l 164 sI6 c0)), (1, cI (IntKind.i64.wrap (v0.1 + 1))), (4, cI (-1)), (5, cI v0.2), (6, cI v0.2), (7, .c (.l 164 sI6 c0)), (8, cI (c0.length : Int)), (9, cB (decide (v0.2 < (c0.length : Int)))), (12, .c (.l 164 sI6 c0)), (13, cI v0.2), (14, .c (.at_ (avs sI6 x1))), (15, .c (.at_ (avs sI6 x1))), (16, cI x1.1), (17, cI v0.1), (18, cB (x1.1 != v0.1)), (19, cI v0.1), (20, cI (IntKind.i64.wrap (v0.1 + 1))), (21, .c (.l 164 sI6 c0)), (22, cI v0.2), (23, .c (.at_ (avs sI6 x2))), (24, .c (.at_ [vI x2.2.1, vI x2.2.2.1, vI x2.2.2.2.1, vI x2.2.2.2.2.1, vI x2.2.2.2.2.2])), (25, cI x2.2.1), (26, cI (IntKind.i64.wrap (v0.1 + 1))), (27, cB (x2.2.1 != (IntKind.i64.wrap (v0.1 + 1))))], []⟩
def xe2 {R : Type} (K : Ex → St → Option R) (c0 : xf) (v0 : j7) (x1 : I6) (x2 : I6) (x3 : I6) : Option R := K .ret ⟨67, 0, [(0, .c (.l 164 sI6 c0)), (1, cI (IntKind.i64.wrap ((IntKind.i64.wrap (v0.1 + 1)) + 1))), (4, cI (-1)), (5, cI v0.2), (6, cI v0.2), (7, .c (.l 164 sI6 c0)), (8, cI (c0.length : Int)), (9, cB (decide (v0.2 < (c0.length : Int)))), (12, .c (.l 164 sI6 c0)), (13, cI v0.2), (14, .c (.at_ (avs sI6 x1))), (15, .c (.at_ (avs sI6 x1))), (16, cI x1.1), (17, cI v0.1), (18, cB (x1.1 != v0.1)), (19, cI v0.1), (20, cI (IntKind.i64.wrap (v0.1 + 1))), (21, .c (.l 164 sI6 c0)), (22, cI v0.2), (23, .c (.at_ (avs sI6 x2))), (24, .c (.at_ [vI x2.2.1, vI x2.2.2.1, vI x2.2.2.2.1, vI x2.2.2.2.2.1, vI x2.2.2.2.2.2])), (25, cI x2.2.1), (26, cI (IntKind.i64.wrap (v0.1 + 1))), (27, cB (x2.2.1 != (IntKind.i64.wrap (v0.1 + 1)))), (28, cI (IntKind.i64.wrap (v0.1 + 1))), (29, cI (IntKind.i64.wrap ((IntKind.i64.wrap (v0.1 + 1)) + 1))), (30, .c (.l 164 sI6 c0)), (31, cI v0.2), (32, .c (.at_ (avs sI6 x3))), (33, .c (.at_ (avs sI4 x3.2.2))), (34, cI x3.2.2.1), (35, cI (IntKind.i64.wrap ((IntKind.i64.wrap (v0.1 + 1)) + 1))), (36, cB (x3.2.2.1 != (IntKind.i64.wrap ((IntKind.i64.wrap (v0.1 + 1)) + 1))))], []⟩
def vd2 {R : Type} (K : Ex → St → Option R) (c0 : xf) (v0 : j7) (x1 : I6) (x2 : I6) (x3 : I6) (x4 : I6) : Option R := K .ret ⟨67, 0, [(0, .c (.l 164 sI6 c0)), (1, cI (IntKind.i64.wrap ((IntKind.i64.wrap ((IntKind.i64.wrap (v0.1 + 1)) + 1)) + 1))), (4, cI (-1)), (5, cI v0.2), (6, cI v0.2), (7, .c (.l 164 sI6 c0)), (8, cI (c0.length : Int)), (9, cB (decide (v0.2 < (c0.length : Int)))), (12, .c (.l 164 sI6 c0)), (13, cI v0.2), (14, .c (.at_ (avs sI6 x1))), (15, .c (.at_ (avs sI6 x1))), (16, cI x1.1), (17, cI v0.1), (18, cB (x1.1 != v0.1)), (19, cI v0.1), (20, cI (IntKind.i64.wrap (v0.1 + 1))), (21, .c (.l 164 sI6 c0)), (22, cI v0.2), (23, .c (.at_ (avs sI6 x2))), (24, .c (.at_ [vI x2.2.1, vI x2.2.2.1, vI x2.2.2.2.1, vI x2.2.2.2.2.1, vI x2.2.2.2.2.2])), (25, cI x2.2.1), (26, cI (IntKind.i64.wrap (v0.1 + 1))), (27, cB (x2.2.1 != (IntKind.i64.wrap (v0.1 + 1)))), (28, cI (IntKind.i64.wrap (v0.1 + 1))), (29, cI (IntKind.i64.wrap ((IntKind.i64.wrap (v0.1 + 1)) + 1))), (30, .c (.l 164 sI6 c0)), (31, cI v0.2), (32, .c (.at_ (avs sI6 x3))), (33, .c (.at_ (avs sI4 x3.2.2))), (34, cI x3.2.2.1), (35, cI (IntKind.i64.wrap ((IntKind.i64.wrap (v0.1 + 1)) + 1))), (36, cB (x3.2.2.1 != (IntKind.i64.wrap ((IntKind.i64.wrap (v0.1 + 1)) + 1)))), (37, cI (IntKind.i64.wrap ((IntKind.i64.wrap (v0.1 + 1)) + 1))), (38, cI (IntKind.i64.wrap ((IntKind.i64.wrap ((IntKind.i64.wrap (v0.1 + 1)) + 1)) + 1))), (39, .c (.l 164 sI6 c0)), (40, cI v0.2), (41, .c (.at_ (avs sI6 x4))), (42, .c (.at_ (avs sI3 x4.2.2.2))), (43, cI x4.2.2.2.1), (44, cI (IntKind.i64.wrap ((IntKind.i64.wrap ((IntKind.i64.wrap (v0.1 + 1)) + 1)) + 1))), (45, cB (x4.2.2.2.1 != (IntKind.i64.wrap ((IntKind.i64.wrap ((IntKind.i64.wrap (v0.1 + 1)) + 1)) + 1))))], []⟩
def ja2 {R : Type} (K : Ex → St → Option R) (c0 : xf) (v0 : j7) (x1 : I6) (x2 : I6) (x3 : I6) (x4 : I6) (x5 : I6) : Option R := K .ret ⟨67, 0, [(0, .c (.l 164 sI6 c0)), (1, cI (IntKind.i64.wrap ((IntKind.i64.wrap ((IntKind.i64.wrap ((IntKind.i64.wrap (v0.1 + 1)) + 1)) + 1)) + 1))), (4, cI (-1)), (5, cI v0.2), (6, cI v0.2), (7, .c (.l 164 sI6 c0)), (8, cI (c0.length : Int)), (9, cB (decide (v0.2 < (c0.length : Int)))), (12, .c (.l 164 sI6 c0)), (13, cI v0.2), (14, .c (.at_ (avs sI6 x1))), (15, .c (.at_ (avs sI6 x1))), (16, cI x1.1), (17, cI v0.1), (18, cB (x1.1 != v0.1)), (19, cI v0.1), (20, cI (IntKind.i64.wrap (v0.1 + 1))), (21, .c (.l 164 sI6 c0)), (22, cI v0.2), (23, .c (.at_ (avs sI6 x2))), (24, .c (.at_ [vI x2.2.1, vI x2.2.2.1, vI x2.2.2.2.1, vI x2.2.2.2.2.1, vI x2.2.2.2.2.2])), (25, cI x2.2.1), (26, cI (IntKind.i64.wrap (v0.1 + 1))), (27, cB (x2.2.1 != (IntKind.i64.wrap (v0.1 + 1)))), (28, cI (IntKind.i64.wrap (v0.1 + 1))), (29, cI (IntKind.i64.wrap ((IntKind.i64.wrap (v0.1 + 1)) + 1))), (30, .c (.l 164 sI6 c0)), (31, cI v0.2), (32, .c (.at_ (avs sI6 x3))), (33, .c (.at_ (avs sI4 x3.2.2))), (34, cI x3.2.2.1), (35, cI (IntKind.i64.wrap ((IntKind.i64.wrap (v0.1 + 1)) + 1))), (36, cB (x3.2.2.1 != (IntKind.i64.wrap ((IntKind.i64.wrap (v0.1 + 1)) + 1)))), (37, cI (IntKind.i64.wrap ((IntKind.i64.wrap (v0.1 + 1)) + 1))), (38, cI (IntKind.i64.wrap ((IntKind.i64.wrap ((IntKind.i64.wrap (v0.1 + 1)) + 1)) + 1))), (39, .c (.l 164 sI6 c0)), (40, cI v0.2), (41, .c (.at_ (avs sI6 x4))), (42, .c (.at_ (avs sI3 x4.2.2.2))), (43, cI x4.2.2.2.1), (44, cI (IntKind.i64.wrap ((IntKind.i64.wrap ((IntKind.i64.wrap (v0.1 + 1)) + 1)) + 1))), (45, cB (x4.2.2.2.1 != (IntKind.i64.wrap ((IntKind.i64.wrap ((IntKind.i64.wrap (v0.1 + 1)) + 1)) + 1)))), (46, cI (IntKind.i64.wrap ((IntKind.i64.wrap ((IntKind.i64.wrap (v0.1 + 1)) + 1)) + 1))), (47, cI (IntKind.i64.wrap ((IntKind.i64.wrap ((IntKind.i64.wrap ((IntKind.i64.wrap (v0.1 + 1)) + 1)) + 1)) + 1))), (48, .c (.l 164 sI6 c0)), (49, cI v0.2), (50, .c (.at_ (avs sI6 x5))), (51, .c (.at_ [vI x5.2.2.2.2.1, vI x5.2.2.2.2.2])), (52, cI x5.2.2.2.2.1), (53, cI (IntKind.i64.wrap ((IntKind.i64.wrap ((IntKind.i64.wrap ((IntKind.i64.wrap (v0.1 + 1)) + 1)) + 1)) + 1))), (54, cB (x5.2.2.2.2.1 != (IntKind.i64.wrap ((IntKind.i64.wrap ((IntKind.i64.wrap ((IntKind.i64.wrap (v0.1 + 1)) + 1)) + 1)) + 1))))], []⟩
def wa2 {R : Type} (K : Ex → St → Option R) (c0 : xf) (v0 : j7) (x1 : I6) (x2 : I6) (x3 : I6) (x4 : I6) (x5 : I6) (x6 : I6) : Option R := K .ret ⟨67, 0, [(0, .c (.l 164 sI6 c0)), (1, cI (IntKind.i64.wrap ((IntKind.i64.wrap ((IntKind.i64.wrap ((IntKind.i64.wrap ((IntKind.i64.wrap (v0.1 + 1)) + 1)) + 1)) + 1)) + 1))), (4, cI (-1)), (5, cI v0.2), (6, cI v0.2), (7, .c (.l 164 sI6 c0)), (8, cI (c0.length : Int)), (9, cB (decide (v0.2 < (c0.length : Int)))), (12, .c (.l 164 sI6 c0)), (13, cI v0.2), (14, .c (.at_ (avs sI6 x1))), (15, .c (.at_ (avs sI6 x1))), (16, cI x1.1), (17, cI v0.1), (18, cB (x1.1 != v0.1)), (19, cI v0.1), (20, cI (IntKind.i64.wrap (v0.1 + 1))), (21, .c (.l 164 sI6 c0)), (22, cI v0.2), (23, .c (.at_ (avs sI6 x2))), (24, .c (.at_ [vI x2.2.1, vI x2.2.2.1, vI x2.2.2.2.1, vI x2.2.2.2.2.1, vI x2.2.2.2.2.2])), (25, cI x2.2.1), (26, cI (IntKind.i64.wrap (v0.1 + 1))), (27, cB (x2.2.1 != (IntKind.i64.wrap (v0.1 + 1)))), (28, cI (IntKind.i64.wrap (v0.1 + 1))), (29, cI (IntKind.i64.wrap ((IntKind.i64.wrap (v0.1 + 1)) + 1))), (30, .c (.l 164 sI6 c0)), (31, cI v0.2), (32, .c (.at_ (avs sI6 x3))), (33, .c (.at_ (avs sI4 x3.2.2))), (34, cI x3.2.2.1), (35, cI (IntKind.i64.wrap ((IntKind.i64.wrap (v0.1 + 1)) + 1))), (36, cB (x3.2.2.1 != (IntKind.i64.wrap ((IntKind.i64.wrap (v0.1 + 1)) + 1)))), (37, cI (IntKind.i64.wrap ((IntKind.i64.wrap (v0.1 + 1)) + 1))), (38, cI (IntKind.i64.wrap ((IntKind.i64.wrap ((IntKind.i64.wrap (v0.1 + 1)) + 1)) + 1))), (39, .c (.l 164 sI6 c0)), (40, cI v0.2), (41, .c (.at_ (avs sI6 x4))), (42, .c (.at_ (avs sI3 x4.2.2.2))), (43, cI x4.2.2.2.1), (44, cI (IntKind.i64.wrap ((IntKind.i64.wrap ((IntKind.i64.wrap (v0.1 + 1)) + 1)) + 1))), (45, cB (x4.2.2.2.1 != (IntKind.i64.wrap ((IntKind.i64.wrap ((IntKind.i64.wrap (v0.1 + 1)) + 1)) + 1)))), (46, cI (IntKind.i64.wrap ((IntKind.i64.wrap ((IntKind.i64.wrap (v0.1 + 1)) + 1)) + 1))), (47, cI (IntKind.i64.wrap ((IntKind.i64.wrap ((IntKind.i64.wrap ((IntKind.i64.wrap (v0.1 + 1)) + 1)) + 1)) + 1))), (48, .c (.l 164 sI6 c0)), (49, cI v0.2), (50, .c (.at_ (avs sI6 x5))), (51, .c (.at_ [vI x5.2.2.2.2.1, vI x5.2.2.2.2.2])), (52, cI x5.2.2.2.2.1), (53, cI (IntKind.i64.wrap ((IntKind.i64.wrap ((IntKind.i64.wrap ((IntKind.i64.wrap (v0.1 + 1)) + 1)) + 1)) + 1))), (54, cB (x5.2.2.2.2.1 != (IntKind.i64.wrap ((IntKind.i64.wrap ((IntKind.i64.wrap ((IntKind.i64.wrap (v0.1 + 1)) + 1)) + 1)) + 1)))), (55, cI (IntKind.i64.wrap ((IntKind.i64.wrap ((IntKind.i64.wrap ((IntKind.i64.wrap (v0.1 + 1)) + 1)) + 1)) + 1))), (56, cI (IntKind.i64.wrap ((IntKind.i64.wrap ((IntKind.i64.wrap ((IntKind.i64.wrap ((IntKind.i64.wrap (v0.1 + 1)) + 1)) + 1)) + 1)) + 1))), (57, .c (.l 164 sI6 c0)), (58, cI v0.2), (59, .c (.at_ (avs sI6 x6))), (60, .c (.at_ [vI x6.2.2.2.2.2])), (61, cI x6.2.2.2.2.2), (62, cI (IntKind.i64.wrap ((IntKind.i64.wrap ((IntKind.i64.wrap ((IntKind.i64.wrap ((IntKind.i64.wrap (v0.1 + 1)) + 1)) + 1)) + 1)) + 1))), (63, cB (x6.2.2.2.2.2 != (IntKind.i64.wrap ((IntKind.i64.wrap ((IntKind.i64.wrap ((IntKind.i64.wrap ((IntKind.i64.wrap (v0.1 + 1)) + 1)) + 1)) + 1)) + 1))))], []⟩
def we2 {R : Type} (K : Ex → St → Option R) (c0 : xf) (v0 : j7) : Option R := K (.exit 0) ⟨67, 0, [(0, .c (.l 164 sI6 c0)), (1, cI v0.1), (5, cI v0.2), (6, cI v0.2), (7, .c (.l 164 sI6 c0)), (8, cI (c0.length : Int)), (9, cB (decide (v0.2 < (c0.length : Int))))], []⟩
theorem llheldBatteryS_0 {R : Type} (k : Nat) (K : Ex → St → Option R) (c0 : xf) : ∀ (n : Nat) (v : j7), j1 [0, 0, 1, 5] (run E (den E k) (lv 84) k (z2 Tryz.f84 0)) n (wk2 c0 v) K = zf1 k (wc2 K c0) (ze2 K c0) (xe2 K c0) (vd2 K c0) (ja2 K c0) (wa2 K c0) (we2 K c0) c0 n v := j6 (B := zu k (wc2 K c0) (ze2 K c0) (xe2 K c0) (vd2 K c0) (ja2 K c0) (wa2 K c0) (we2 K c0) c0) (fun _ => rfl) (fun n v => by kernel_rfl) (fun _ => rfl) (fun _ _ => rfl)
theorem mlheldBatteryS_0 (k : Nat) (a0 : List I6) (a1 : Int) : vt1 (k + 1) a0 a1 = j1 (R := Int) [0, 0, 1, 5] (run E (den E k) (lv 84) k (z2 Tryz.f84 0)) k (wk2 a0 (a1, 0)) (y9 E (den E k) (lv 84) k (za Tryz.f84) 0 [] (j9 E (rs 84) Tryz.f84 : Ex → St → Option (Int))) := by kernel_rfl
theorem elheldBatteryS (k : Nat) (a0 : List I6) (a1 : Int) : vt1 (k + 1) a0 a1 = zf1 k (fun (v0 : I2) (x1 : I6) => some (-1)) (fun (v0 : I2) (x1 : I6) (x2 : I6) => some (-1)) (fun (v0 : I2) (x1 : I6) (x2 : I6) (x3 : I6) => some (-1)) (fun (v0 : I2) (x1 : I6) (x2 : I6) (x3 : I6) (x4 : I6) => some (-1)) (fun (v0 : I2) (x1 : I6) (x2 : I6) (x3 : I6) (x4 : I6) (x5 : I6) => some (-1)) (fun (v0 : I2) (x1 : I6) (x2 : I6) (x3 : I6) (x4 : I6) (x5 : I6) (x6 : I6) => some (-1)) (fun (v0 : I2) => some v0.1) a0 k (a1, 0) := by
 rw [mlheldBatteryS_0]
 simp only [llheldBatteryS_0]
 kernel_rfl
noncomputable def vb2 (k : Nat) (a0 : List I4) (a1 : Int) : Option (Int) := den E k 88 [.c (.l 174 sI4 a0), cI a1]
abbrev vk : Type := (List I4)
abbrev ya : Type := Int × Int
def va3 (c0 : vk) (v0 : ya) : St := ⟨49, 0, [(0, .c (.l 174 sI4 c0)), (1, cI v0.1), (5, cI v0.2)], []⟩
noncomputable def v61 {R : Type} (k : Nat) (X0 : ya → I4 → Option R) (X1 : ya → I4 → I4 → Option R) (X2 : ya → I4 → I4 → I4 → Option R) (X3 : ya → I4 → I4 → I4 → I4 → Option R) (X4 : ya → Option R) (c0 : vk) (rec : ya → Option R) (v0 : ya) : Option R := if (decide (v0.2 < (c0.length : Int))) = true then if 0 ≤ v0.2 then ix c0 v0.2.toNat fun x1 => if (x1.1 != v0.1) = true then X0 v0 x1 else if 0 ≤ v0.2 then ix c0 v0.2.toNat fun x2 => if (x2.2.1 != (IntKind.i64.wrap (v0.1 + 1))) = true then X1 v0 x1 x2 else if 0 ≤ v0.2 then ix c0 v0.2.toNat fun x3 => if (x3.2.2.1 != (IntKind.i64.wrap ((IntKind.i64.wrap (v0.1 + 1)) + 1))) = true then X2 v0 x1 x2 x3 else if 0 ≤ v0.2 then ix c0 v0.2.toNat fun x4 => if (x4.2.2.2 != (IntKind.i64.wrap ((IntKind.i64.wrap ((IntKind.i64.wrap (v0.1 + 1)) + 1)) + 1))) = true then X3 v0 x1 x2 x3 x4 else rec ((IntKind.i64.wrap ((IntKind.i64.wrap ((IntKind.i64.wrap ((IntKind.i64.wrap (v0.1 + 1)) + 1)) + 1)) + 1)), (IntKind.i64.wrap (v0.2 + 1))) else none else none else none else none else X4 v0
noncomputable def js1 {R : Type} (k : Nat) (X0 : ya → I4 → Option R) (X1 : ya → I4 → I4 → Option R) (X2 : ya → I4 → I4 → I4 → Option R) (X3 : ya → I4 → I4 → I4 → I4 → Option R) (X4 : ya → Option R) (c : vk) : Nat → ya → Option R
 | 0, _ => none
 | n + 1, v => v61 k X0 X1 X2 X3 X4 c (js1 k X0 X1 X2 X3 X4 c n) v
def wz2 {R : Type} (K : Ex → St → Option R) (c0 : vk) (v0 : ya) (x1 : I4) : Option R := K .ret ⟨49, 0, [(0, .c (.l 174 sI4 c0)), (1, cI v0.1), (4, cI (-1)), (5, cI v0.2), (6, cI v0.2), (7, .c (.l 174 sI4 c0)), (8, cI (c0.length : Int)), (9, cB (decide (v0.2 < (c0.length : Int)))), (12, .c (.l 174 sI4 c0)), (13, cI v0.2), (14, .c (.at_ (avs sI4 x1))), (15, .c (.at_ (avs sI4 x1))), (16, cI x1.1), (17, cI v0.1), (18, cB (x1.1 != v0.1))], []⟩
def jz2 {R : Type} (K : Ex → St → Option R) (c0 : vk) (v0 : ya) (x1 : I4) (x2 : I4) : Option R := K .ret ⟨49, 0, [(0, .c (.l 174 sI4 c0)), (1, cI (IntKind.i64.wrap (v0.1 + 1))), (4, cI (-1)), (5, cI v0.2), (6, cI v0.2), (7, .c (.l 174 sI4 c0)), (8, cI (c0.length : Int)), (9, cB (decide (v0.2 < (c0.length : Int)))), (12, .c (.l 174 sI4 c0)), (13, cI v0.2), (14, .c (.at_ (avs sI4 x1))), (15, .c (.at_ (avs sI4 x1))), (16, cI x1.1), (17, cI v0.1), (18, cB (x1.1 != v0.1)), (19, cI v0.1), (20, cI (IntKind.i64.wrap (v0.1 + 1))), (21, .c (.l 174 sI4 c0)), (22, cI v0.2), (23, .c (.at_ (avs sI4 x2))), (24, .c (.at_ (avs sI3 x2.2))), (25, cI x2.2.1), (26, cI (IntKind.i64.wrap (v0.1 + 1))), (27, cB (x2.2.1 != (IntKind.i64.wrap (v0.1 + 1))))], []⟩
def vz2 {R : Type} (K : Ex → St → Option R) (c0 : vk) (v0 : ya) (x1 : I4) (x2 : I4) (x3 : I4) : Option R := K .ret ⟨49, 0, [(0, .c (.l 174 sI4 c0)), (1, cI (IntKind.i64.wrap ((IntKind.i64.wrap (v0.1 + 1)) + 1))), (4, cI (-1)), (5, cI v0.2), (6, cI v0.2), (7, .c (.l 174 sI4 c0)), (8, cI (c0.length : Int)), (9, cB (decide (v0.2 < (c0.length : Int)))), (12, .c (.l 174 sI4 c0)), (13, cI v0.2), (14, .c (.at_ (avs sI4 x1))), (15, .c (.at_ (avs sI4 x1))), (16, cI x1.1), (17, cI v0.1), (18, cB (x1.1 != v0.1)), (19, cI v0.1), (20, cI (IntKind.i64.wrap (v0.1 + 1))), (21, .c (.l 174 sI4 c0)), (22, cI v0.2), (23, .c (.at_ (avs sI4 x2))), (24, .c (.at_ (avs sI3 x2.2))), (25, cI x2.2.1), (26, cI (IntKind.i64.wrap (v0.1 + 1))), (27, cB (x2.2.1 != (IntKind.i64.wrap (v0.1 + 1)))), (28, cI (IntKind.i64.wrap (v0.1 + 1))), (29, cI (IntKind.i64.wrap ((IntKind.i64.wrap (v0.1 + 1)) + 1))), (30, .c (.l 174 sI4 c0)), (31, cI v0.2), (32, .c (.at_ (avs sI4 x3))), (33, .c (.at_ [vI x3.2.2.1, vI x3.2.2.2])), (34, cI x3.2.2.1), (35, cI (IntKind.i64.wrap ((IntKind.i64.wrap (v0.1 + 1)) + 1))), (36, cB (x3.2.2.1 != (IntKind.i64.wrap ((IntKind.i64.wrap (v0.1 + 1)) + 1))))], []⟩
def xz2 {R : Type} (K : Ex → St → Option R) (c0 : vk) (v0 : ya) (x1 : I4) (x2 : I4) (x3 : I4) (x4 : I4) : Option R := K .ret ⟨49, 0, [(0, .c (.l 174 sI4 c0)), (1, cI (IntKind.i64.wrap ((IntKind.i64.wrap ((IntKind.i64.wrap (v0.1 + 1)) + 1)) + 1))), (4, cI (-1)), (5, cI v0.2), (6, cI v0.2), (7, .c (.l 174 sI4 c0)), (8, cI (c0.length : Int)), (9, cB (decide (v0.2 < (c0.length : Int)))), (12, .c (.l 174 sI4 c0)), (13, cI v0.2), (14, .c (.at_ (avs sI4 x1))), (15, .c (.at_ (avs sI4 x1))), (16, cI x1.1), (17, cI v0.1), (18, cB (x1.1 != v0.1)), (19, cI v0.1), (20, cI (IntKind.i64.wrap (v0.1 + 1))), (21, .c (.l 174 sI4 c0)), (22, cI v0.2), (23, .c (.at_ (avs sI4 x2))), (24, .c (.at_ (avs sI3 x2.2))), (25, cI x2.2.1), (26, cI (IntKind.i64.wrap (v0.1 + 1))), (27, cB (x2.2.1 != (IntKind.i64.wrap (v0.1 + 1)))), (28, cI (IntKind.i64.wrap (v0.1 + 1))), (29, cI (IntKind.i64.wrap ((IntKind.i64.wrap (v0.1 + 1)) + 1))), (30, .c (.l 174 sI4 c0)), (31, cI v0.2), (32, .c (.at_ (avs sI4 x3))), (33, .c (.at_ [vI x3.2.2.1, vI x3.2.2.2])), (34, cI x3.2.2.1), (35, cI (IntKind.i64.wrap ((IntKind.i64.wrap (v0.1 + 1)) + 1))), (36, cB (x3.2.2.1 != (IntKind.i64.wrap ((IntKind.i64.wrap (v0.1 + 1)) + 1)))), (37, cI (IntKind.i64.wrap ((IntKind.i64.wrap (v0.1 + 1)) + 1))), (38, cI (IntKind.i64.wrap ((IntKind.i64.wrap ((IntKind.i64.wrap (v0.1 + 1)) + 1)) + 1))), (39, .c (.l 174 sI4 c0)), (40, cI v0.2), (41, .c (.at_ (avs sI4 x4))), (42, .c (.at_ [vI x4.2.2.2])), (43, cI x4.2.2.2), (44, cI (IntKind.i64.wrap ((IntKind.i64.wrap ((IntKind.i64.wrap (v0.1 + 1)) + 1)) + 1))), (45, cB (x4.2.2.2 != (IntKind.i64.wrap ((IntKind.i64.wrap ((IntKind.i64.wrap (v0.1 + 1)) + 1)) + 1))))], []⟩
def zz2 {R : Type} (K : Ex → St → Option R) (c0 : vk) (v0 : ya) : Option R := K (.exit 0) ⟨49, 0, [(0, .c (.l 174 sI4 c0)), (1, cI v0.1), (5, cI v0.2), (6, cI v0.2), (7, .c (.l 174 sI4 c0)), (8, cI (c0.length : Int)), (9, cB (decide (v0.2 < (c0.length : Int))))], []⟩
theorem llheldFaultS_0 {R : Type} (k : Nat) (K : Ex → St → Option R) (c0 : vk) : ∀ (n : Nat) (v : ya), j1 [0, 0, 1, 5] (run E (den E k) (lv 88) k (z2 Tryz.f88 0)) n (va3 c0 v) K = js1 k (wz2 K c0) (jz2 K c0) (vz2 K c0) (xz2 K c0) (zz2 K c0) c0 n v := j6 (B := v61 k (wz2 K c0) (jz2 K c0) (vz2 K c0) (xz2 K c0) (zz2 K c0) c0) (fun _ => rfl) (fun n v => by kernel_rfl) (fun _ => rfl) (fun _ _ => rfl)
theorem mlheldFaultS_0 (k : Nat) (a0 : List I4) (a1 : Int) : vb2 (k + 1) a0 a1 = j1 (R := Int) [0, 0, 1, 5] (run E (den E k) (lv 88) k (z2 Tryz.f88 0)) k (va3 a0 (a1, 0)) (y9 E (den E k) (lv 88) k (za Tryz.f88) 0 [] (j9 E (rs 88) Tryz.f88 : Ex → St → Option (Int))) := by kernel_rfl
theorem elheldFaultS (k : Nat) (a0 : List I4) (a1 : Int) : vb2 (k + 1) a0 a1 = js1 k (fun (v0 : I2) (x1 : I4) => some (-1)) (fun (v0 : I2) (x1 : I4) (x2 : I4) => some (-1)) (fun (v0 : I2) (x1 : I4) (x2 : I4) (x3 : I4) => some (-1)) (fun (v0 : I2) (x1 : I4) (x2 : I4) (x3 : I4) (x4 : I4) => some (-1)) (fun (v0 : I2) => some v0.1) a0 k (a1, 0) := by
 rw [mlheldFaultS_0]
 simp only [llheldFaultS_0]
 kernel_rfl
noncomputable def jo2 (k : Nat) (a0 : List I4) (a1 : Int) : Option (Int) := den E k 86 [.c (.l 169 sI4 a0), cI a1]
abbrev jo : Type := (List I4)
abbrev yb : Type := Int × Int
def ys3 (c0 : jo) (v0 : yb) : St := ⟨49, 0, [(0, .c (.l 169 sI4 c0)), (1, cI v0.1), (5, cI v0.2)], []⟩
noncomputable def wb1 {R : Type} (k : Nat) (X0 : yb → I4 → Option R) (X1 : yb → I4 → I4 → Option R) (X2 : yb → I4 → I4 → I4 → Option R) (X3 : yb → I4 → I4 → I4 → I4 → Option R) (X4 : yb → Option R) (c0 : jo) (rec : yb → Option R) (v0 : yb) : Option R := if (decide (v0.2 < (c0.length : Int))) = true then if 0 ≤ v0.2 then ix c0 v0.2.toNat fun x1 => if (x1.1 != v0.1) = true then X0 v0 x1 else if 0 ≤ v0.2 then ix c0 v0.2.toNat fun x2 => if (x2.2.1 != (IntKind.i64.wrap (v0.1 + 1))) = true then X1 v0 x1 x2 else if 0 ≤ v0.2 then ix c0 v0.2.toNat fun x3 => if (x3.2.2.1 != (IntKind.i64.wrap ((IntKind.i64.wrap (v0.1 + 1)) + 1))) = true then X2 v0 x1 x2 x3 else if 0 ≤ v0.2 then ix c0 v0.2.toNat fun x4 => if (x4.2.2.2 != (IntKind.i64.wrap ((IntKind.i64.wrap ((IntKind.i64.wrap (v0.1 + 1)) + 1)) + 1))) = true then X3 v0 x1 x2 x3 x4 else rec ((IntKind.i64.wrap ((IntKind.i64.wrap ((IntKind.i64.wrap ((IntKind.i64.wrap (v0.1 + 1)) + 1)) + 1)) + 1)), (IntKind.i64.wrap (v0.2 + 1))) else none else none else none else none else X4 v0
noncomputable def y02 {R : Type} (k : Nat) (X0 : yb → I4 → Option R) (X1 : yb → I4 → I4 → Option R) (X2 : yb → I4 → I4 → I4 → Option R) (X3 : yb → I4 → I4 → I4 → I4 → Option R) (X4 : yb → Option R) (c : jo) : Nat → yb → Option R
 | 0, _ => none
 | n + 1, v => wb1 k X0 X1 X2 X3 X4 c (y02 k X0 X1 X2 X3 X4 c n) v
def xd3 {R : Type} (K : Ex → St → Option R) (c0 : jo) (v0 : yb) (x1 : I4) : Option R := K .ret ⟨49, 0, [(0, .c (.l 169 sI4 c0)), (1, cI v0.1), (4, cI (-1)), (5, cI v0.2), (6, cI v0.2), (7, .c (.l 169 sI4 c0)), (8, cI (c0.length : Int)), (9, cB (decide (v0.2 < (c0.length : Int)))), (12, .c (.l 169 sI4 c0)), (13, cI v0.2), (14, .c (.at_ (avs sI4 x1))), (15, .c (.at_ (avs sI4 x1))), (16, cI x1.1), (17, cI v0.1), (18, cB (x1.1 != v0.1))], []⟩
def w43 {R : Type} (K : Ex → St → Option R) (c0 : jo) (v0 : yb) (x1 : I4) (x2 : I4) : Option R := K .ret ⟨49, 0, [(0, .c (.l 169 sI4 c0)), (1, cI (IntKind.i64.wrap (v0.1 + 1))), (4, cI (-1)), (5, cI v0.2), (6, cI v0.2), (7, .c (.l 169 sI4 c0)), (8, cI (c0.length : Int)), (9, cB (decide (v0.2 < (c0.length : Int)))), (12, .c (.l 169 sI4 c0)), (13, cI v0.2), (14, .c (.at_ (avs sI4 x1))), (15, .c (.at_ (avs sI4 x1))), (16, cI x1.1), (17, cI v0.1), (18, cB (x1.1 != v0.1)), (19, cI v0.1), (20, cI (IntKind.i64.wrap (v0.1 + 1))), (21, .c (.l 169 sI4 c0)), (22, cI v0.2), (23, .c (.at_ (avs sI4 x2))), (24, .c (.at_ (avs sI3 x2.2))), (25, cI x2.2.1), (26, cI (IntKind.i64.wrap (v0.1 + 1))), (27, cB (x2.2.1 != (IntKind.i64.wrap (v0.1 + 1))))], []⟩
def zi3 {R : Type} (K : Ex → St → Option R) (c0 : jo) (v0 : yb) (x1 : I4) (x2 : I4) (x3 : I4) : Option R := K .ret ⟨49, 0, [(0, .c (.l 169 sI4 c0)), (1, cI (IntKind.i64.wrap ((IntKind.i64.wrap (v0.1 + 1)) + 1))), (4, cI (-1)), (5, cI v0.2), (6, cI v0.2), (7, .c (.l 169 sI4 c0)), (8, cI (c0.length : Int)), (9, cB (decide (v0.2 < (c0.length : Int)))), (12, .c (.l 169 sI4 c0)), (13, cI v0.2), (14, .c (.at_ (avs sI4 x1))), (15, .c (.at_ (avs sI4 x1))), (16, cI x1.1), (17, cI v0.1), (18, cB (x1.1 != v0.1)), (19, cI v0.1), (20, cI (IntKind.i64.wrap (v0.1 + 1))), (21, .c (.l 169 sI4 c0)), (22, cI v0.2), (23, .c (.at_ (avs sI4 x2))), (24, .c (.at_ (avs sI3 x2.2))), (25, cI x2.2.1), (26, cI (IntKind.i64.wrap (v0.1 + 1))), (27, cB (x2.2.1 != (IntKind.i64.wrap (v0.1 + 1)))), (28, cI (IntKind.i64.wrap (v0.1 + 1))), (29, cI (IntKind.i64.wrap ((IntKind.i64.wrap (v0.1 + 1)) + 1))), (30, .c (.l 169 sI4 c0)), (31, cI v0.2), (32, .c (.at_ (avs sI4 x3))), (33, .c (.at_ [vI x3.2.2.1, vI x3.2.2.2])), (34, cI x3.2.2.1), (35, cI (IntKind.i64.wrap ((IntKind.i64.wrap (v0.1 + 1)) + 1))), (36, cB (x3.2.2.1 != (IntKind.i64.wrap ((IntKind.i64.wrap (v0.1 + 1)) + 1))))], []⟩
def ya3 {R : Type} (K : Ex → St → Option R) (c0 : jo) (v0 : yb) (x1 : I4) (x2 : I4) (x3 : I4) (x4 : I4) : Option R := K .ret ⟨49, 0, [(0, .c (.l 169 sI4 c0)), (1, cI (IntKind.i64.wrap ((IntKind.i64.wrap ((IntKind.i64.wrap (v0.1 + 1)) + 1)) + 1))), (4, cI (-1)), (5, cI v0.2), (6, cI v0.2), (7, .c (.l 169 sI4 c0)), (8, cI (c0.length : Int)), (9, cB (decide (v0.2 < (c0.length : Int)))), (12, .c (.l 169 sI4 c0)), (13, cI v0.2), (14, .c (.at_ (avs sI4 x1))), (15, .c (.at_ (avs sI4 x1))), (16, cI x1.1), (17, cI v0.1), (18, cB (x1.1 != v0.1)), (19, cI v0.1), (20, cI (IntKind.i64.wrap (v0.1 + 1))), (21, .c (.l 169 sI4 c0)), (22, cI v0.2), (23, .c (.at_ (avs sI4 x2))), (24, .c (.at_ (avs sI3 x2.2))), (25, cI x2.2.1), (26, cI (IntKind.i64.wrap (v0.1 + 1))), (27, cB (x2.2.1 != (IntKind.i64.wrap (v0.1 + 1)))), (28, cI (IntKind.i64.wrap (v0.1 + 1))), (29, cI (IntKind.i64.wrap ((IntKind.i64.wrap (v0.1 + 1)) + 1))), (30, .c (.l 169 sI4 c0)), (31, cI v0.2), (32, .c (.at_ (avs sI4 x3))), (33, .c (.at_ [vI x3.2.2.1, vI x3.2.2.2])), (34, cI x3.2.2.1), (35, cI (IntKind.i64.wrap ((IntKind.i64.wrap (v0.1 + 1)) + 1))), (36, cB (x3.2.2.1 != (IntKind.i64.wrap ((IntKind.i64.wrap (v0.1 + 1)) + 1)))), (37, cI (IntKind.i64.wrap ((IntKind.i64.wrap (v0.1 + 1)) + 1))), (38, cI (IntKind.i64.wrap ((IntKind.i64.wrap ((IntKind.i64.wrap (v0.1 + 1)) + 1)) + 1))), (39, .c (.l 169 sI4 c0)), (40, cI v0.2), (41, .c (.at_ (avs sI4 x4))), (42, .c (.at_ [vI x4.2.2.2])), (43, cI x4.2.2.2), (44, cI (IntKind.i64.wrap ((IntKind.i64.wrap ((IntKind.i64.wrap (v0.1 + 1)) + 1)) + 1))), (45, cB (x4.2.2.2 != (IntKind.i64.wrap ((IntKind.i64.wrap ((IntKind.i64.wrap (v0.1 + 1)) + 1)) + 1))))], []⟩
def j33 {R : Type} (K : Ex → St → Option R) (c0 : jo) (v0 : yb) : Option R := K (.exit 0) ⟨49, 0, [(0, .c (.l 169 sI4 c0)), (1, cI v0.1), (5, cI v0.2), (6, cI v0.2), (7, .c (.l 169 sI4 c0)), (8, cI (c0.length : Int)), (9, cB (decide (v0.2 < (c0.length : Int))))], []⟩
theorem llheldFlowS_0 {R : Type} (k : Nat) (K : Ex → St → Option R) (c0 : jo) : ∀ (n : Nat) (v : yb), j1 [0, 0, 1, 5] (run E (den E k) (lv 86) k (z2 Tryz.f86 0)) n (ys3 c0 v) K = y02 k (xd3 K c0) (w43 K c0) (zi3 K c0) (ya3 K c0) (j33 K c0) c0 n v := j6 (B := wb1 k (xd3 K c0) (w43 K c0) (zi3 K c0) (ya3 K c0) (j33 K c0) c0) (fun _ => rfl) (fun n v => by kernel_rfl) (fun _ => rfl) (fun _ _ => rfl)
theorem mlheldFlowS_0 (k : Nat) (a0 : List I4) (a1 : Int) : jo2 (k + 1) a0 a1 = j1 (R := Int) [0, 0, 1, 5] (run E (den E k) (lv 86) k (z2 Tryz.f86 0)) k (ys3 a0 (a1, 0)) (y9 E (den E k) (lv 86) k (za Tryz.f86) 0 [] (j9 E (rs 86) Tryz.f86 : Ex → St → Option (Int))) := by kernel_rfl
theorem elheldFlowS (k : Nat) (a0 : List I4) (a1 : Int) : jo2 (k + 1) a0 a1 = y02 k (fun (v0 : I2) (x1 : I4) => some (-1)) (fun (v0 : I2) (x1 : I4) (x2 : I4) => some (-1)) (fun (v0 : I2) (x1 : I4) (x2 : I4) (x3 : I4) => some (-1)) (fun (v0 : I2) (x1 : I4) (x2 : I4) (x3 : I4) (x4 : I4) => some (-1)) (fun (v0 : I2) => some v0.1) a0 k (a1, 0) := by
 rw [mlheldFlowS_0]
 simp only [llheldFlowS_0]
 kernel_rfl
noncomputable def zc1 (k : Nat) (a0 : List Int) (a1 : Int) : Option (Int) := den E k 83 [.c (.l 3 (.i .i64) a0), cI a1]
abbrev xi1 : Type := (List Int)
abbrev yl : Type := Int × Int
def StlheldIntS_0 (c0 : xi1) (v0 : yl) : St := ⟨21, 0, [(0, .c (.l 3 (.i .i64) c0)), (1, cI v0.1), (5, cI v0.2)], []⟩
noncomputable def wi1 {R : Type} (k : Nat) (X0 : yl → Int → Option R) (X1 : yl → Option R) (c0 : xi1) (rec : yl → Option R) (v0 : yl) : Option R := if (decide (v0.2 < (c0.length : Int))) = true then if 0 ≤ v0.2 then ix c0 v0.2.toNat fun x1 => if (x1 != v0.1) = true then X0 v0 x1 else rec ((IntKind.i64.wrap (v0.1 + 1)), (IntKind.i64.wrap (v0.2 + 1))) else none else X1 v0
noncomputable def yc2 {R : Type} (k : Nat) (X0 : yl → Int → Option R) (X1 : yl → Option R) (c : xi1) : Nat → yl → Option R
 | 0, _ => none
 | n + 1, v => wi1 k X0 X1 c (yc2 k X0 X1 c n) v
def xx3 {R : Type} (K : Ex → St → Option R) (c0 : xi1) (v0 : yl) (x1 : Int) : Option R := K .ret ⟨21, 0, [(0, .c (.l 3 (.i .i64) c0)), (1, cI v0.1), (4, cI (-1)), (5, cI v0.2), (6, cI v0.2), (7, .c (.l 3 (.i .i64) c0)), (8, cI (c0.length : Int)), (9, cB (decide (v0.2 < (c0.length : Int)))), (12, .c (.l 3 (.i .i64) c0)), (13, cI v0.2), (14, .c (.at_ [vI x1])), (15, cI x1), (16, cI v0.1), (17, cB (x1 != v0.1))], []⟩
def wp3 {R : Type} (K : Ex → St → Option R) (c0 : xi1) (v0 : yl) : Option R := K (.exit 0) ⟨21, 0, [(0, .c (.l 3 (.i .i64) c0)), (1, cI v0.1), (5, cI v0.2), (6, cI v0.2), (7, .c (.l 3 (.i .i64) c0)), (8, cI (c0.length : Int)), (9, cB (decide (v0.2 < (c0.length : Int))))], []⟩
theorem llheldIntS_0 {R : Type} (k : Nat) (K : Ex → St → Option R) (c0 : xi1) : ∀ (n : Nat) (v : yl), j1 [0, 0, 1, 5] (run E (den E k) (lv 83) k (z2 Tryz.f83 0)) n (StlheldIntS_0 c0 v) K = yc2 k (xx3 K c0) (wp3 K c0) c0 n v := j6 (B := wi1 k (xx3 K c0) (wp3 K c0) c0) (fun _ => rfl) (fun n v => by kernel_rfl) (fun _ => rfl) (fun _ _ => rfl)
theorem mlheldIntS_0 (k : Nat) (a0 : List Int) (a1 : Int) : zc1 (k + 1) a0 a1 = j1 (R := Int) [0, 0, 1, 5] (run E (den E k) (lv 83) k (z2 Tryz.f83 0)) k (StlheldIntS_0 a0 (a1, 0)) (y9 E (den E k) (lv 83) k (za Tryz.f83) 0 [] (j9 E (rs 83) Tryz.f83 : Ex → St → Option (Int))) := by kernel_rfl
theorem elheldIntS (k : Nat) (a0 : List Int) (a1 : Int) : zc1 (k + 1) a0 a1 = yc2 k (fun (v0 : I2) (x1 : Int) => some (-1)) (fun (v0 : I2) => some v0.1) a0 k (a1, 0) := by
 rw [mlheldIntS_0]
 simp only [llheldIntS_0]
 kernel_rfl
noncomputable def FlheldLaw (k : Nat) (a0 : List Int) (a1 : Int) : Option (Int) := den E k 82 [.agg [.l 3 (.i .i64) a0], cI a1]
theorem elheldLaw (k : Nat) (a0 : List Int) (a1 : Int) : FlheldLaw (k + 1) a0 a1 = (zc1 k a0 a1).bind fun p1 => if (decide (p1 < 0)) = true then some (-1) else some p1 := by kernel_rfl
noncomputable def xm1 (k : Nat) (a0 : List I6) (a1 : Int) : Option (Int) := den E k 89 [.c (.l 115 sI6 a0), cI a1]
abbrev yg : Type := (List I6)
abbrev y8 : Type := Int × Int
def vy2 (c0 : yg) (v0 : y8) : St := ⟨67, 0, [(0, .c (.l 115 sI6 c0)), (1, cI v0.1), (5, cI v0.2)], []⟩
noncomputable def jy {R : Type} (k : Nat) (X0 : y8 → I6 → Option R) (X1 : y8 → I6 → I6 → Option R) (X2 : y8 → I6 → I6 → I6 → Option R) (X3 : y8 → I6 → I6 → I6 → I6 → Option R) (X4 : y8 → I6 → I6 → I6 → I6 → I6 → Option R) (X5 : y8 → I6 → I6 → I6 → I6 → I6 → I6 → Option R) (X6 : y8 → Option R) (c0 : yg) (rec : y8 → Option R) (v0 : y8) : Option R := if (decide (v0.2 < (c0.length : Int))) = true then if 0 ≤ v0.2 then ix c0 v0.2.toNat fun x1 => if (x1.1 != v0.1) = true then X0 v0 x1 else if 0 ≤ v0.2 then ix c0 v0.2.toNat fun x2 => if (x2.2.1 != (IntKind.i64.wrap (v0.1 + 1))) = true then X1 v0 x1 x2 else if 0 ≤ v0.2 then ix c0 v0.2.toNat fun x3 => if (x3.2.2.1 != (IntKind.i64.wrap ((IntKind.i64.wrap (v0.1 + 1)) + 1))) = true then X2 v0 x1 x2 x3 else if 0 ≤ v0.2 then ix c0 v0.2.toNat fun x4 => if (x4.2.2.2.1 != (IntKind.i64.wrap ((IntKind.i64.wrap ((IntKind.i64.wrap (v0.1 + 1)) + 1)) + 1))) = true then X3 v0 x1 x2 x3 x4 else if 0 ≤ v0.2 then ix c0 v0.2.toNat fun x5 => if (x5.2.2.2.2.1 != (IntKind.i64.wrap ((IntKind.i64.wrap ((IntKind.i64.wrap ((IntKind.i64.wrap (v0.1 + 1)) + 1)) + 1)) + 1))) = true then X4 v0 x1 x2 x3 x4 x5 else if 0 ≤ v0.2 then ix c0 v0.2.toNat fun x6 => if (x6.2.2.2.2.2 != (IntKind.i64.wrap ((IntKind.i64.wrap ((IntKind.i64.wrap ((IntKind.i64.wrap ((IntKind.i64.wrap (v0.1 + 1)) + 1)) + 1)) + 1)) + 1))) = true then X5 v0 x1 x2 x3 x4 x5 x6 else rec ((IntKind.i64.wrap ((IntKind.i64.wrap ((IntKind.i64.wrap ((IntKind.i64.wrap ((IntKind.i64.wrap ((IntKind.i64.wrap (v0.1 + 1)) + 1)) + 1)) + 1)) + 1)) + 1)), (IntKind.i64.wrap (v0.2 + 1))) else none else none else none else none else none else none else X6 v0
noncomputable def jk1 {R : Type} (k : Nat) (X0 : y8 → I6 → Option R) (X1 : y8 → I6 → I6 → Option R) (X2 : y8 → I6 → I6 → I6 → Option R) (X3 : y8 → I6 → I6 → I6 → I6 → Option R) (X4 : y8 → I6 → I6 → I6 → I6 → I6 → Option R) (X5 : y8 → I6 → I6 → I6 → I6 → I6 → I6 → Option R) (X6 : y8 → Option R) (c : yg) : Nat → y8 → Option R
 | 0, _ => none
 | n + 1, v => jy k X0 X1 X2 X3 X4 X5 X6 c (jk1 k X0 X1 X2 X3 X4 X5 X6 c n) v
def vj2 {R : Type} (K : Ex → St → Option R) (c0 : yg) (v0 : y8) (x1 : I6) : Option R := K .ret ⟨67, 0, [(0, .c (.l 115 sI6 c0)), (1, cI v0.1), (4, cI (-1)), (5, cI v0.2), (6, cI v0.2), (7, .c (.l 115 sI6 c0)), (8, cI (c0.length : Int)), (9, cB (decide (v0.2 < (c0.length : Int)))), (12, .c (.l 115 sI6 c0)), (13, cI v0.2), (14, .c (.at_ (avs sI6 x1))), (15, .c (.at_ (avs sI6 x1))), (16, cI x1.1), (17, cI v0.1), (18, cB (x1.1 != v0.1))], []⟩
def jm2 {R : Type} (K : Ex → St → Option R) (c0 : yg) (v0 : y8) (x1 : I6) (x2 : I6) : Option R := K .ret ⟨67, 0, [(0, .c (.l 115 sI6 c0)), (1, cI (IntKind.i64.wrap (v0.1 + 1))), (4, cI (-1)), (5, cI v0.2), (6, cI v0.2), (7, .c (.l 115 sI6 c0)), (8, cI (c0.length : Int)), (9, cB (decide (v0.2 < (c0.length : Int)))), (12, .c (.l 115 sI6 c0)), (13, cI v0.2), (14, .c (.at_ (avs sI6 x1))), (15, .c (.at_ (avs sI6 x1))), (16, cI x1.1), (17, cI v0.1), (18, cB (x1.1 != v0.1)), (19, cI v0.1), (20, cI (IntKind.i64.wrap (v0.1 + 1))), (21, .c (.l 115 sI6 c0)), (22, cI v0.2), (23, .c (.at_ (avs sI6 x2))), (24, .c (.at_ [vI x2.2.1, vI x2.2.2.1, vI x2.2.2.2.1, vI x2.2.2.2.2.1, vI x2.2.2.2.2.2])), (25, cI x2.2.1), (26, cI (IntKind.i64.wrap (v0.1 + 1))), (27, cB (x2.2.1 != (IntKind.i64.wrap (v0.1 + 1))))], []⟩
def vh2 {R : Type} (K : Ex → St → Option R) (c0 : yg) (v0 : y8) (x1 : I6) (x2 : I6) (x3 : I6) : Option R := K .ret ⟨67, 0, [(0, .c (.l 115 sI6 c0)), (1, cI (IntKind.i64.wrap ((IntKind.i64.wrap (v0.1 + 1)) + 1))), (4, cI (-1)), (5, cI v0.2), (6, cI v0.2), (7, .c (.l 115 sI6 c0)), (8, cI (c0.length : Int)), (9, cB (decide (v0.2 < (c0.length : Int)))), (12, .c (.l 115 sI6 c0)), (13, cI v0.2), (14, .c (.at_ (avs sI6 x1))), (15, .c (.at_ (avs sI6 x1))), (16, cI x1.1), (17, cI v0.1), (18, cB (x1.1 != v0.1)), (19, cI v0.1), (20, cI (IntKind.i64.wrap (v0.1 + 1))), (21, .c (.l 115 sI6 c0)), (22, cI v0.2), (23, .c (.at_ (avs sI6 x2))), (24, .c (.at_ [vI x2.2.1, vI x2.2.2.1, vI x2.2.2.2.1, vI x2.2.2.2.2.1, vI x2.2.2.2.2.2])), (25, cI x2.2.1), (26, cI (IntKind.i64.wrap (v0.1 + 1))), (27, cB (x2.2.1 != (IntKind.i64.wrap (v0.1 + 1)))), (28, cI (IntKind.i64.wrap (v0.1 + 1))), (29, cI (IntKind.i64.wrap ((IntKind.i64.wrap (v0.1 + 1)) + 1))), (30, .c (.l 115 sI6 c0)), (31, cI v0.2), (32, .c (.at_ (avs sI6 x3))), (33, .c (.at_ (avs sI4 x3.2.2))), (34, cI x3.2.2.1), (35, cI (IntKind.i64.wrap ((IntKind.i64.wrap (v0.1 + 1)) + 1))), (36, cB (x3.2.2.1 != (IntKind.i64.wrap ((IntKind.i64.wrap (v0.1 + 1)) + 1))))], []⟩
def xl2 {R : Type} (K : Ex → St → Option R) (c0 : yg) (v0 : y8) (x1 : I6) (x2 : I6) (x3 : I6) (x4 : I6) : Option R := K .ret ⟨67, 0, [(0, .c (.l 115 sI6 c0)), (1, cI (IntKind.i64.wrap ((IntKind.i64.wrap ((IntKind.i64.wrap (v0.1 + 1)) + 1)) + 1))), (4, cI (-1)), (5, cI v0.2), (6, cI v0.2), (7, .c (.l 115 sI6 c0)), (8, cI (c0.length : Int)), (9, cB (decide (v0.2 < (c0.length : Int)))), (12, .c (.l 115 sI6 c0)), (13, cI v0.2), (14, .c (.at_ (avs sI6 x1))), (15, .c (.at_ (avs sI6 x1))), (16, cI x1.1), (17, cI v0.1), (18, cB (x1.1 != v0.1)), (19, cI v0.1), (20, cI (IntKind.i64.wrap (v0.1 + 1))), (21, .c (.l 115 sI6 c0)), (22, cI v0.2), (23, .c (.at_ (avs sI6 x2))), (24, .c (.at_ [vI x2.2.1, vI x2.2.2.1, vI x2.2.2.2.1, vI x2.2.2.2.2.1, vI x2.2.2.2.2.2])), (25, cI x2.2.1), (26, cI (IntKind.i64.wrap (v0.1 + 1))), (27, cB (x2.2.1 != (IntKind.i64.wrap (v0.1 + 1)))), (28, cI (IntKind.i64.wrap (v0.1 + 1))), (29, cI (IntKind.i64.wrap ((IntKind.i64.wrap (v0.1 + 1)) + 1))), (30, .c (.l 115 sI6 c0)), (31, cI v0.2), (32, .c (.at_ (avs sI6 x3))), (33, .c (.at_ (avs sI4 x3.2.2))), (34, cI x3.2.2.1), (35, cI (IntKind.i64.wrap ((IntKind.i64.wrap (v0.1 + 1)) + 1))), (36, cB (x3.2.2.1 != (IntKind.i64.wrap ((IntKind.i64.wrap (v0.1 + 1)) + 1)))), (37, cI (IntKind.i64.wrap ((IntKind.i64.wrap (v0.1 + 1)) + 1))), (38, cI (IntKind.i64.wrap ((IntKind.i64.wrap ((IntKind.i64.wrap (v0.1 + 1)) + 1)) + 1))), (39, .c (.l 115 sI6 c0)), (40, cI v0.2), (41, .c (.at_ (avs sI6 x4))), (42, .c (.at_ (avs sI3 x4.2.2.2))), (43, cI x4.2.2.2.1), (44, cI (IntKind.i64.wrap ((IntKind.i64.wrap ((IntKind.i64.wrap (v0.1 + 1)) + 1)) + 1))), (45, cB (x4.2.2.2.1 != (IntKind.i64.wrap ((IntKind.i64.wrap ((IntKind.i64.wrap (v0.1 + 1)) + 1)) + 1))))], []⟩
def vl2 {R : Type} (K : Ex → St → Option R) (c0 : yg) (v0 : y8) (x1 : I6) (x2 : I6) (x3 : I6) (x4 : I6) (x5 : I6) : Option R := K .ret ⟨67, 0, [(0, .c (.l 115 sI6 c0)), (1, cI (IntKind.i64.wrap ((IntKind.i64.wrap ((IntKind.i64.wrap ((IntKind.i64.wrap (v0.1 + 1)) + 1)) + 1)) + 1))), (4, cI (-1)), (5, cI v0.2), (6, cI v0.2), (7, .c (.l 115 sI6 c0)), (8, cI (c0.length : Int)), (9, cB (decide (v0.2 < (c0.length : Int)))), (12, .c (.l 115 sI6 c0)), (13, cI v0.2), (14, .c (.at_ (avs sI6 x1))), (15, .c (.at_ (avs sI6 x1))), (16, cI x1.1), (17, cI v0.1), (18, cB (x1.1 != v0.1)), (19, cI v0.1), (20, cI (IntKind.i64.wrap (v0.1 + 1))), (21, .c (.l 115 sI6 c0)), (22, cI v0.2), (23, .c (.at_ (avs sI6 x2))), (24, .c (.at_ [vI x2.2.1, vI x2.2.2.1, vI x2.2.2.2.1, vI x2.2.2.2.2.1, vI x2.2.2.2.2.2])), (25, cI x2.2.1), (26, cI (IntKind.i64.wrap (v0.1 + 1))), (27, cB (x2.2.1 != (IntKind.i64.wrap (v0.1 + 1)))), (28, cI (IntKind.i64.wrap (v0.1 + 1))), (29, cI (IntKind.i64.wrap ((IntKind.i64.wrap (v0.1 + 1)) + 1))), (30, .c (.l 115 sI6 c0)), (31, cI v0.2), (32, .c (.at_ (avs sI6 x3))), (33, .c (.at_ (avs sI4 x3.2.2))), (34, cI x3.2.2.1), (35, cI (IntKind.i64.wrap ((IntKind.i64.wrap (v0.1 + 1)) + 1))), (36, cB (x3.2.2.1 != (IntKind.i64.wrap ((IntKind.i64.wrap (v0.1 + 1)) + 1)))), (37, cI (IntKind.i64.wrap ((IntKind.i64.wrap (v0.1 + 1)) + 1))), (38, cI (IntKind.i64.wrap ((IntKind.i64.wrap ((IntKind.i64.wrap (v0.1 + 1)) + 1)) + 1))), (39, .c (.l 115 sI6 c0)), (40, cI v0.2), (41, .c (.at_ (avs sI6 x4))), (42, .c (.at_ (avs sI3 x4.2.2.2))), (43, cI x4.2.2.2.1), (44, cI (IntKind.i64.wrap ((IntKind.i64.wrap ((IntKind.i64.wrap (v0.1 + 1)) + 1)) + 1))), (45, cB (x4.2.2.2.1 != (IntKind.i64.wrap ((IntKind.i64.wrap ((IntKind.i64.wrap (v0.1 + 1)) + 1)) + 1)))), (46, cI (IntKind.i64.wrap ((IntKind.i64.wrap ((IntKind.i64.wrap (v0.1 + 1)) + 1)) + 1))), (47, cI (IntKind.i64.wrap ((IntKind.i64.wrap ((IntKind.i64.wrap ((IntKind.i64.wrap (v0.1 + 1)) + 1)) + 1)) + 1))), (48, .c (.l 115 sI6 c0)), (49, cI v0.2), (50, .c (.at_ (avs sI6 x5))), (51, .c (.at_ [vI x5.2.2.2.2.1, vI x5.2.2.2.2.2])), (52, cI x5.2.2.2.2.1), (53, cI (IntKind.i64.wrap ((IntKind.i64.wrap ((IntKind.i64.wrap ((IntKind.i64.wrap (v0.1 + 1)) + 1)) + 1)) + 1))), (54, cB (x5.2.2.2.2.1 != (IntKind.i64.wrap ((IntKind.i64.wrap ((IntKind.i64.wrap ((IntKind.i64.wrap (v0.1 + 1)) + 1)) + 1)) + 1))))], []⟩
def yi2 {R : Type} (K : Ex → St → Option R) (c0 : yg) (v0 : y8) (x1 : I6) (x2 : I6) (x3 : I6) (x4 : I6) (x5 : I6) (x6 : I6) : Option R := K .ret ⟨67, 0, [(0, .c (.l 115 sI6 c0)), (1, cI (IntKind.i64.wrap ((IntKind.i64.wrap ((IntKind.i64.wrap ((IntKind.i64.wrap ((IntKind.i64.wrap (v0.1 + 1)) + 1)) + 1)) + 1)) + 1))), (4, cI (-1)), (5, cI v0.2), (6, cI v0.2), (7, .c (.l 115 sI6 c0)), (8, cI (c0.length : Int)), (9, cB (decide (v0.2 < (c0.length : Int)))), (12, .c (.l 115 sI6 c0)), (13, cI v0.2), (14, .c (.at_ (avs sI6 x1))), (15, .c (.at_ (avs sI6 x1))), (16, cI x1.1), (17, cI v0.1), (18, cB (x1.1 != v0.1)), (19, cI v0.1), (20, cI (IntKind.i64.wrap (v0.1 + 1))), (21, .c (.l 115 sI6 c0)), (22, cI v0.2), (23, .c (.at_ (avs sI6 x2))), (24, .c (.at_ [vI x2.2.1, vI x2.2.2.1, vI x2.2.2.2.1, vI x2.2.2.2.2.1, vI x2.2.2.2.2.2])), (25, cI x2.2.1), (26, cI (IntKind.i64.wrap (v0.1 + 1))), (27, cB (x2.2.1 != (IntKind.i64.wrap (v0.1 + 1)))), (28, cI (IntKind.i64.wrap (v0.1 + 1))), (29, cI (IntKind.i64.wrap ((IntKind.i64.wrap (v0.1 + 1)) + 1))), (30, .c (.l 115 sI6 c0)), (31, cI v0.2), (32, .c (.at_ (avs sI6 x3))), (33, .c (.at_ (avs sI4 x3.2.2))), (34, cI x3.2.2.1), (35, cI (IntKind.i64.wrap ((IntKind.i64.wrap (v0.1 + 1)) + 1))), (36, cB (x3.2.2.1 != (IntKind.i64.wrap ((IntKind.i64.wrap (v0.1 + 1)) + 1)))), (37, cI (IntKind.i64.wrap ((IntKind.i64.wrap (v0.1 + 1)) + 1))), (38, cI (IntKind.i64.wrap ((IntKind.i64.wrap ((IntKind.i64.wrap (v0.1 + 1)) + 1)) + 1))), (39, .c (.l 115 sI6 c0)), (40, cI v0.2), (41, .c (.at_ (avs sI6 x4))), (42, .c (.at_ (avs sI3 x4.2.2.2))), (43, cI x4.2.2.2.1), (44, cI (IntKind.i64.wrap ((IntKind.i64.wrap ((IntKind.i64.wrap (v0.1 + 1)) + 1)) + 1))), (45, cB (x4.2.2.2.1 != (IntKind.i64.wrap ((IntKind.i64.wrap ((IntKind.i64.wrap (v0.1 + 1)) + 1)) + 1)))), (46, cI (IntKind.i64.wrap ((IntKind.i64.wrap ((IntKind.i64.wrap (v0.1 + 1)) + 1)) + 1))), (47, cI (IntKind.i64.wrap ((IntKind.i64.wrap ((IntKind.i64.wrap ((IntKind.i64.wrap (v0.1 + 1)) + 1)) + 1)) + 1))), (48, .c (.l 115 sI6 c0)), (49, cI v0.2), (50, .c (.at_ (avs sI6 x5))), (51, .c (.at_ [vI x5.2.2.2.2.1, vI x5.2.2.2.2.2])), (52, cI x5.2.2.2.2.1), (53, cI (IntKind.i64.wrap ((IntKind.i64.wrap ((IntKind.i64.wrap ((IntKind.i64.wrap (v0.1 + 1)) + 1)) + 1)) + 1))), (54, cB (x5.2.2.2.2.1 != (IntKind.i64.wrap ((IntKind.i64.wrap ((IntKind.i64.wrap ((IntKind.i64.wrap (v0.1 + 1)) + 1)) + 1)) + 1)))), (55, cI (IntKind.i64.wrap ((IntKind.i64.wrap ((IntKind.i64.wrap ((IntKind.i64.wrap (v0.1 + 1)) + 1)) + 1)) + 1))), (56, cI (IntKind.i64.wrap ((IntKind.i64.wrap ((IntKind.i64.wrap ((IntKind.i64.wrap ((IntKind.i64.wrap (v0.1 + 1)) + 1)) + 1)) + 1)) + 1))), (57, .c (.l 115 sI6 c0)), (58, cI v0.2), (59, .c (.at_ (avs sI6 x6))), (60, .c (.at_ [vI x6.2.2.2.2.2])), (61, cI x6.2.2.2.2.2), (62, cI (IntKind.i64.wrap ((IntKind.i64.wrap ((IntKind.i64.wrap ((IntKind.i64.wrap ((IntKind.i64.wrap (v0.1 + 1)) + 1)) + 1)) + 1)) + 1))), (63, cB (x6.2.2.2.2.2 != (IntKind.i64.wrap ((IntKind.i64.wrap ((IntKind.i64.wrap ((IntKind.i64.wrap ((IntKind.i64.wrap (v0.1 + 1)) + 1)) + 1)) + 1)) + 1))))], []⟩
def zi2 {R : Type} (K : Ex → St → Option R) (c0 : yg) (v0 : y8) : Option R := K (.exit 0) ⟨67, 0, [(0, .c (.l 115 sI6 c0)), (1, cI v0.1), (5, cI v0.2), (6, cI v0.2), (7, .c (.l 115 sI6 c0)), (8, cI (c0.length : Int)), (9, cB (decide (v0.2 < (c0.length : Int))))], []⟩
theorem llheldPacketS_0 {R : Type} (k : Nat) (K : Ex → St → Option R) (c0 : yg) : ∀ (n : Nat) (v : y8), j1 [0, 0, 1, 5] (run E (den E k) (lv 89) k (z2 Tryz.f89 0)) n (vy2 c0 v) K = jk1 k (vj2 K c0) (jm2 K c0) (vh2 K c0) (xl2 K c0) (vl2 K c0) (yi2 K c0) (zi2 K c0) c0 n v := j6 (B := jy k (vj2 K c0) (jm2 K c0) (vh2 K c0) (xl2 K c0) (vl2 K c0) (yi2 K c0) (zi2 K c0) c0) (fun _ => rfl) (fun n v => by kernel_rfl) (fun _ => rfl) (fun _ _ => rfl)
theorem mlheldPacketS_0 (k : Nat) (a0 : List I6) (a1 : Int) : xm1 (k + 1) a0 a1 = j1 (R := Int) [0, 0, 1, 5] (run E (den E k) (lv 89) k (z2 Tryz.f89 0)) k (vy2 a0 (a1, 0)) (y9 E (den E k) (lv 89) k (za Tryz.f89) 0 [] (j9 E (rs 89) Tryz.f89 : Ex → St → Option (Int))) := by kernel_rfl
theorem elheldPacketS (k : Nat) (a0 : List I6) (a1 : Int) : xm1 (k + 1) a0 a1 = jk1 k (fun (v0 : I2) (x1 : I6) => some (-1)) (fun (v0 : I2) (x1 : I6) (x2 : I6) => some (-1)) (fun (v0 : I2) (x1 : I6) (x2 : I6) (x3 : I6) => some (-1)) (fun (v0 : I2) (x1 : I6) (x2 : I6) (x3 : I6) (x4 : I6) => some (-1)) (fun (v0 : I2) (x1 : I6) (x2 : I6) (x3 : I6) (x4 : I6) (x5 : I6) => some (-1)) (fun (v0 : I2) (x1 : I6) (x2 : I6) (x3 : I6) (x4 : I6) (x5 : I6) (x6 : I6) => some (-1)) (fun (v0 : I2) => some v0.1) a0 k (a1, 0) := by
 rw [mlheldPacketS_0]
 simp only [llheldPacketS_0]
 kernel_rfl
noncomputable def wr2 (k : Nat) (a0 : List I2) (a1 : Int) : Option (Int) := den E k 208 [.c (.l 264 sI2 a0), cI a1]
abbrev x31 : Type := (List I2)
abbrev jf : Type := Int × Int
def zp3 (c0 : x31) (v0 : jf) : St := ⟨31, 0, [(0, .c (.l 264 sI2 c0)), (1, cI v0.1), (5, cI v0.2)], []⟩
noncomputable def ya1 {R : Type} (k : Nat) (X0 : jf → I2 → Option R) (X1 : jf → I2 → I2 → Option R) (X2 : jf → Option R) (c0 : x31) (rec : jf → Option R) (v0 : jf) : Option R := if (decide (v0.2 < (c0.length : Int))) = true then if 0 ≤ v0.2 then ix c0 v0.2.toNat fun x1 => if (x1.1 != v0.1) = true then X0 v0 x1 else if 0 ≤ v0.2 then ix c0 v0.2.toNat fun x2 => if (x2.2 != (IntKind.i64.wrap (v0.1 + 1))) = true then X1 v0 x1 x2 else rec ((IntKind.i64.wrap ((IntKind.i64.wrap (v0.1 + 1)) + 1)), (IntKind.i64.wrap (v0.2 + 1))) else none else none else X2 v0
noncomputable def y32 {R : Type} (k : Nat) (X0 : jf → I2 → Option R) (X1 : jf → I2 → I2 → Option R) (X2 : jf → Option R) (c : x31) : Nat → jf → Option R
 | 0, _ => none
 | n + 1, v => ya1 k X0 X1 X2 c (y32 k X0 X1 X2 c n) v
def x23 {R : Type} (K : Ex → St → Option R) (c0 : x31) (v0 : jf) (x1 : I2) : Option R := K .ret ⟨31, 0, [(0, .c (.l 264 sI2 c0)), (1, cI v0.1), (4, cI (-1)), (5, cI v0.2), (6, cI v0.2), (7, .c (.l 264 sI2 c0)), (8, cI (c0.length : Int)), (9, cB (decide (v0.2 < (c0.length : Int)))), (12, .c (.l 264 sI2 c0)), (13, cI v0.2), (14, .c (.at_ [vI x1.1, vI x1.2])), (15, .c (.at_ [vI x1.1, vI x1.2])), (16, cI x1.1), (17, cI v0.1), (18, cB (x1.1 != v0.1))], []⟩
def xc3 {R : Type} (K : Ex → St → Option R) (c0 : x31) (v0 : jf) (x1 : I2) (x2 : I2) : Option R := K .ret ⟨31, 0, [(0, .c (.l 264 sI2 c0)), (1, cI (IntKind.i64.wrap (v0.1 + 1))), (4, cI (-1)), (5, cI v0.2), (6, cI v0.2), (7, .c (.l 264 sI2 c0)), (8, cI (c0.length : Int)), (9, cB (decide (v0.2 < (c0.length : Int)))), (12, .c (.l 264 sI2 c0)), (13, cI v0.2), (14, .c (.at_ [vI x1.1, vI x1.2])), (15, .c (.at_ [vI x1.1, vI x1.2])), (16, cI x1.1), (17, cI v0.1), (18, cB (x1.1 != v0.1)), (19, cI v0.1), (20, cI (IntKind.i64.wrap (v0.1 + 1))), (21, .c (.l 264 sI2 c0)), (22, cI v0.2), (23, .c (.at_ [vI x2.1, vI x2.2])), (24, .c (.at_ [vI x2.2])), (25, cI x2.2), (26, cI (IntKind.i64.wrap (v0.1 + 1))), (27, cB (x2.2 != (IntKind.i64.wrap (v0.1 + 1))))], []⟩
def yc3 {R : Type} (K : Ex → St → Option R) (c0 : x31) (v0 : jf) : Option R := K (.exit 0) ⟨31, 0, [(0, .c (.l 264 sI2 c0)), (1, cI v0.1), (5, cI v0.2), (6, cI v0.2), (7, .c (.l 264 sI2 c0)), (8, cI (c0.length : Int)), (9, cB (decide (v0.2 < (c0.length : Int))))], []⟩
theorem llheldLinkS_0 {R : Type} (k : Nat) (K : Ex → St → Option R) (c0 : x31) : ∀ (n : Nat) (v : jf), j1 [0, 0, 1, 5] (run E (den E k) (lv 208) k (z2 Tryz.f208 0)) n (zp3 c0 v) K = y32 k (x23 K c0) (xc3 K c0) (yc3 K c0) c0 n v := j6 (B := ya1 k (x23 K c0) (xc3 K c0) (yc3 K c0) c0) (fun _ => rfl) (fun n v => by kernel_rfl) (fun _ => rfl) (fun _ _ => rfl)
theorem mlheldLinkS_0 (k : Nat) (a0 : List I2) (a1 : Int) : wr2 (k + 1) a0 a1 = j1 (R := Int) [0, 0, 1, 5] (run E (den E k) (lv 208) k (z2 Tryz.f208 0)) k (zp3 a0 (a1, 0)) (y9 E (den E k) (lv 208) k (za Tryz.f208) 0 [] (j9 E (rs 208) Tryz.f208 : Ex → St → Option (Int))) := by kernel_rfl
theorem elheldLinkS (k : Nat) (a0 : List I2) (a1 : Int) : wr2 (k + 1) a0 a1 = y32 k (fun (v0 : I2) (x1 : I2) => some (-1)) (fun (v0 : I2) (x1 : I2) (x2 : I2) => some (-1)) (fun (v0 : I2) => some v0.1) a0 k (a1, 0) := by
 rw [mlheldLinkS_0]
 simp only [llheldLinkS_0]
 kernel_rfl
noncomputable def wf2 (k : Nat) (a0 : List (Int × (List Int) × List Int)) (a1 : Int) : Option (Int) := den E k 209 [.c (.l 147 j2 a0), cI a1]
abbrev yp : Type := (List (Int × (List Int) × List Int))
abbrev wc : Type := Int × Int
def wb3 (c0 : yp) (v0 : wc) : St := ⟨40, 0, [(0, .c (.l 147 j2 c0)), (1, cI v0.1), (5, cI v0.2)], []⟩
noncomputable def x51 {R : Type} (k : Nat) (X0 : wc → (Int × (List Int) × List Int) → Option R) (X1 : wc → (Int × (List Int) × List Int) → (Int × (List Int) × List Int) → Int → Option R) (X2 : wc → (Int × (List Int) × List Int) → (Int × (List Int) × List Int) → Int → (Int × (List Int) × List Int) → Int → Option R) (X3 : wc → Option R) (c0 : yp) (rec : wc → Option R) (v0 : wc) : Option R := if (decide (v0.2 < (c0.length : Int))) = true then if 0 ≤ v0.2 then ix c0 v0.2.toNat fun x1 => if (x1.1 != v0.1) = true then X0 v0 x1 else if 0 ≤ v0.2 then ix c0 v0.2.toNat fun x2 => (zc1 k x2.2.1 (IntKind.i64.wrap (v0.1 + 1))).bind fun p3 => if (decide (p3 < 0)) = true then X1 v0 x1 x2 p3 else if 0 ≤ v0.2 then ix c0 v0.2.toNat fun x4 => (zc1 k x4.2.2 p3).bind fun p5 => if (decide (p5 < 0)) = true then X2 v0 x1 x2 p3 x4 p5 else rec (p5, (IntKind.i64.wrap (v0.2 + 1))) else none else none else none else X3 v0
noncomputable def xt1 {R : Type} (k : Nat) (X0 : wc → (Int × (List Int) × List Int) → Option R) (X1 : wc → (Int × (List Int) × List Int) → (Int × (List Int) × List Int) → Int → Option R) (X2 : wc → (Int × (List Int) × List Int) → (Int × (List Int) × List Int) → Int → (Int × (List Int) × List Int) → Int → Option R) (X3 : wc → Option R) (c : yp) : Nat → wc → Option R
 | 0, _ => none
 | n + 1, v => x51 k X0 X1 X2 X3 c (xt1 k X0 X1 X2 X3 c n) v
def y03 {R : Type} (K : Ex → St → Option R) (c0 : yp) (v0 : wc) (x1 : Int × (List Int) × List Int) : Option R := K .ret ⟨40, 0, [(0, .c (.l 147 j2 c0)), (1, cI v0.1), (4, cI (-1)), (5, cI v0.2), (6, cI v0.2), (7, .c (.l 147 j2 c0)), (8, cI (c0.length : Int)), (9, cB (decide (v0.2 < (c0.length : Int)))), (12, .c (.l 147 j2 c0)), (13, cI v0.2), (14, .c (.at_ (avs j2 x1))), (15, .c (.at_ (avs j2 x1))), (16, cI x1.1), (17, cI v0.1), (18, cB (x1.1 != v0.1))], []⟩
def vv2 {R : Type} (K : Ex → St → Option R) (c0 : yp) (v0 : wc) (x1 : Int × (List Int) × List Int) (x2 : Int × (List Int) × List Int) (p3 : Int) : Option R := K .ret ⟨40, 0, [(0, .c (.l 147 j2 c0)), (1, cI p3), (4, cI (-1)), (5, cI v0.2), (6, cI v0.2), (7, .c (.l 147 j2 c0)), (8, cI (c0.length : Int)), (9, cB (decide (v0.2 < (c0.length : Int)))), (12, .c (.l 147 j2 c0)), (13, cI v0.2), (14, .c (.at_ (avs j2 x1))), (15, .c (.at_ (avs j2 x1))), (16, cI x1.1), (17, cI v0.1), (18, cB (x1.1 != v0.1)), (19, cI v0.1), (20, cI (IntKind.i64.wrap (v0.1 + 1))), (21, .c (.l 147 j2 c0)), (22, cI v0.2), (23, .c (.at_ (avs j2 x2))), (24, .c (.at_ [.l 3 (.i .i64) x2.2.1, .l 3 (.i .i64) x2.2.2])), (25, .c (.l 3 (.i .i64) x2.2.1)), (26, cI (IntKind.i64.wrap (v0.1 + 1))), (27, cI p3), (28, cI p3), (29, cB (decide (p3 < 0)))], []⟩
def yw2 {R : Type} (K : Ex → St → Option R) (c0 : yp) (v0 : wc) (x1 : Int × (List Int) × List Int) (x2 : Int × (List Int) × List Int) (p3 : Int) (x4 : Int × (List Int) × List Int) (p5 : Int) : Option R := K .ret ⟨40, 0, [(0, .c (.l 147 j2 c0)), (1, cI p5), (4, cI (-1)), (5, cI v0.2), (6, cI v0.2), (7, .c (.l 147 j2 c0)), (8, cI (c0.length : Int)), (9, cB (decide (v0.2 < (c0.length : Int)))), (12, .c (.l 147 j2 c0)), (13, cI v0.2), (14, .c (.at_ (avs j2 x1))), (15, .c (.at_ (avs j2 x1))), (16, cI x1.1), (17, cI v0.1), (18, cB (x1.1 != v0.1)), (19, cI v0.1), (20, cI (IntKind.i64.wrap (v0.1 + 1))), (21, .c (.l 147 j2 c0)), (22, cI v0.2), (23, .c (.at_ (avs j2 x2))), (24, .c (.at_ [.l 3 (.i .i64) x2.2.1, .l 3 (.i .i64) x2.2.2])), (25, .c (.l 3 (.i .i64) x2.2.1)), (26, cI (IntKind.i64.wrap (v0.1 + 1))), (27, cI p3), (28, cI p3), (29, cB (decide (p3 < 0))), (30, .c (.l 147 j2 c0)), (31, cI v0.2), (32, .c (.at_ (avs j2 x4))), (33, .c (.at_ [.l 3 (.i .i64) x4.2.2])), (34, .c (.l 3 (.i .i64) x4.2.2)), (35, cI p3), (36, cI p5), (37, cI p5), (38, cB (decide (p5 < 0)))], []⟩
def w03 {R : Type} (K : Ex → St → Option R) (c0 : yp) (v0 : wc) : Option R := K (.exit 0) ⟨40, 0, [(0, .c (.l 147 j2 c0)), (1, cI v0.1), (5, cI v0.2), (6, cI v0.2), (7, .c (.l 147 j2 c0)), (8, cI (c0.length : Int)), (9, cB (decide (v0.2 < (c0.length : Int))))], []⟩
theorem llheldTableS_0 {R : Type} (k : Nat) (K : Ex → St → Option R) (c0 : yp) : ∀ (n : Nat) (v : wc), j1 [0, 0, 1, 5] (run E (den E k) (lv 209) k (z2 Tryz.f209 0)) n (wb3 c0 v) K = xt1 k (y03 K c0) (vv2 K c0) (yw2 K c0) (w03 K c0) c0 n v := j6 (B := x51 k (y03 K c0) (vv2 K c0) (yw2 K c0) (w03 K c0) c0) (fun _ => rfl) (fun n v => by kernel_rfl) (fun _ => rfl) (fun _ _ => rfl)
theorem mlheldTableS_0 (k : Nat) (a0 : List (Int × (List Int) × List Int)) (a1 : Int) : wf2 (k + 1) a0 a1 = j1 (R := Int) [0, 0, 1, 5] (run E (den E k) (lv 209) k (z2 Tryz.f209 0)) k (wb3 a0 (a1, 0)) (y9 E (den E k) (lv 209) k (za Tryz.f209) 0 [] (j9 E (rs 209) Tryz.f209 : Ex → St → Option (Int))) := by kernel_rfl
theorem elheldTableS (k : Nat) (a0 : List (Int × (List Int) × List Int)) (a1 : Int) : wf2 (k + 1) a0 a1 = xt1 k (fun (v0 : I2) (x1 : Int × (List Int) × List Int) => some (-1)) (fun (v0 : I2) (x1 : Int × (List Int) × List Int) (x2 : Int × (List Int) × List Int) (p3 : Int) => some (-1)) (fun (v0 : I2) (x1 : Int × (List Int) × List Int) (x2 : Int × (List Int) × List Int) (p3 : Int) (x4 : Int × (List Int) × List Int) (p5 : Int) => some (-1)) (fun (v0 : I2) => some v0.1) a0 k (a1, 0) := by
 rw [mlheldTableS_0]
 simp only [llheldTableS_0]
 kernel_rfl
noncomputable def yd2 (k : Nat) (a0 : List v7) (a1 : Int) : Option (Int) := den E k 165 [.c (.l 157 j4 a0), cI a1]
abbrev xk : Type := (List v7)
abbrev xa : Type := Int × Int
def y33 (c0 : xk) (v0 : xa) : St := ⟨51, 0, [(0, .c (.l 157 j4 c0)), (1, cI v0.1), (5, cI v0.2)], []⟩
noncomputable def y51 {R : Type} (k : Nat) (X0 : xa → v7 → Option R) (X1 : xa → v7 → v7 → Option R) (X2 : xa → v7 → v7 → v7 → Int → Option R) (X3 : xa → v7 → v7 → v7 → Int → v7 → Int → Option R) (X4 : xa → Option R) (c0 : xk) (rec : xa → Option R) (v0 : xa) : Option R := if (decide (v0.2 < (c0.length : Int))) = true then if 0 ≤ v0.2 then ix c0 v0.2.toNat fun x1 => if (x1.1.1 != v0.1) = true then X0 v0 x1 else if 0 ≤ v0.2 then ix c0 v0.2.toNat fun x2 => if (x2.1.2 != (IntKind.i64.wrap (v0.1 + 1))) = true then X1 v0 x1 x2 else if 0 ≤ v0.2 then ix c0 v0.2.toNat fun x3 => (wr2 k x3.2.1 (IntKind.i64.wrap ((IntKind.i64.wrap (v0.1 + 1)) + 1))).bind fun p4 => if (decide (p4 < 0)) = true then X2 v0 x1 x2 x3 p4 else if 0 ≤ v0.2 then ix c0 v0.2.toNat fun x5 => (wf2 k x5.2.2 p4).bind fun p6 => if (decide (p6 < 0)) = true then X3 v0 x1 x2 x3 p4 x5 p6 else rec (p6, (IntKind.i64.wrap (v0.2 + 1))) else none else none else none else none else X4 v0
noncomputable def xs1 {R : Type} (k : Nat) (X0 : xa → v7 → Option R) (X1 : xa → v7 → v7 → Option R) (X2 : xa → v7 → v7 → v7 → Int → Option R) (X3 : xa → v7 → v7 → v7 → Int → v7 → Int → Option R) (X4 : xa → Option R) (c : xk) : Nat → xa → Option R
 | 0, _ => none
 | n + 1, v => y51 k X0 X1 X2 X3 X4 c (xs1 k X0 X1 X2 X3 X4 c n) v
def v03 {R : Type} (K : Ex → St → Option R) (c0 : xk) (v0 : xa) (x1 : v7) : Option R := K .ret ⟨51, 0, [(0, .c (.l 157 j4 c0)), (1, cI v0.1), (4, cI (-1)), (5, cI v0.2), (6, cI v0.2), (7, .c (.l 157 j4 c0)), (8, cI (c0.length : Int)), (9, cB (decide (v0.2 < (c0.length : Int)))), (12, .c (.l 157 j4 c0)), (13, cI v0.2), (14, .c (.at_ (avs j4 x1))), (15, .c (.at_ (avs j4 x1))), (16, .c (.at_ (avs j4 x1))), (17, cI x1.1.1), (18, cI v0.1), (19, cB (x1.1.1 != v0.1))], []⟩
def j03 {R : Type} (K : Ex → St → Option R) (c0 : xk) (v0 : xa) (x1 : v7) (x2 : v7) : Option R := K .ret ⟨51, 0, [(0, .c (.l 157 j4 c0)), (1, cI (IntKind.i64.wrap (v0.1 + 1))), (4, cI (-1)), (5, cI v0.2), (6, cI v0.2), (7, .c (.l 157 j4 c0)), (8, cI (c0.length : Int)), (9, cB (decide (v0.2 < (c0.length : Int)))), (12, .c (.l 157 j4 c0)), (13, cI v0.2), (14, .c (.at_ (avs j4 x1))), (15, .c (.at_ (avs j4 x1))), (16, .c (.at_ (avs j4 x1))), (17, cI x1.1.1), (18, cI v0.1), (19, cB (x1.1.1 != v0.1)), (20, cI v0.1), (21, cI (IntKind.i64.wrap (v0.1 + 1))), (22, .c (.l 157 j4 c0)), (23, cI v0.2), (24, .c (.at_ (avs j4 x2))), (25, .c (.at_ (avs j4 x2))), (26, .c (.at_ [vI x2.1.2, .l 264 sI2 x2.2.1, .l 147 j2 x2.2.2])), (27, cI x2.1.2), (28, cI (IntKind.i64.wrap (v0.1 + 1))), (29, cB (x2.1.2 != (IntKind.i64.wrap (v0.1 + 1))))], []⟩
def y13 {R : Type} (K : Ex → St → Option R) (c0 : xk) (v0 : xa) (x1 : v7) (x2 : v7) (x3 : v7) (p4 : Int) : Option R := K .ret ⟨51, 0, [(0, .c (.l 157 j4 c0)), (1, cI p4), (4, cI (-1)), (5, cI v0.2), (6, cI v0.2), (7, .c (.l 157 j4 c0)), (8, cI (c0.length : Int)), (9, cB (decide (v0.2 < (c0.length : Int)))), (12, .c (.l 157 j4 c0)), (13, cI v0.2), (14, .c (.at_ (avs j4 x1))), (15, .c (.at_ (avs j4 x1))), (16, .c (.at_ (avs j4 x1))), (17, cI x1.1.1), (18, cI v0.1), (19, cB (x1.1.1 != v0.1)), (20, cI v0.1), (21, cI (IntKind.i64.wrap (v0.1 + 1))), (22, .c (.l 157 j4 c0)), (23, cI v0.2), (24, .c (.at_ (avs j4 x2))), (25, .c (.at_ (avs j4 x2))), (26, .c (.at_ [vI x2.1.2, .l 264 sI2 x2.2.1, .l 147 j2 x2.2.2])), (27, cI x2.1.2), (28, cI (IntKind.i64.wrap (v0.1 + 1))), (29, cB (x2.1.2 != (IntKind.i64.wrap (v0.1 + 1)))), (30, cI (IntKind.i64.wrap (v0.1 + 1))), (31, cI (IntKind.i64.wrap ((IntKind.i64.wrap (v0.1 + 1)) + 1))), (32, .c (.l 157 j4 c0)), (33, cI v0.2), (34, .c (.at_ (avs j4 x3))), (35, .c (.at_ [.l 264 sI2 x3.2.1, .l 147 j2 x3.2.2])), (36, .c (.l 264 sI2 x3.2.1)), (37, cI (IntKind.i64.wrap ((IntKind.i64.wrap (v0.1 + 1)) + 1))), (38, cI p4), (39, cI p4), (40, cB (decide (p4 < 0)))], []⟩
def vx2 {R : Type} (K : Ex → St → Option R) (c0 : xk) (v0 : xa) (x1 : v7) (x2 : v7) (x3 : v7) (p4 : Int) (x5 : v7) (p6 : Int) : Option R := K .ret ⟨51, 0, [(0, .c (.l 157 j4 c0)), (1, cI p6), (4, cI (-1)), (5, cI v0.2), (6, cI v0.2), (7, .c (.l 157 j4 c0)), (8, cI (c0.length : Int)), (9, cB (decide (v0.2 < (c0.length : Int)))), (12, .c (.l 157 j4 c0)), (13, cI v0.2), (14, .c (.at_ (avs j4 x1))), (15, .c (.at_ (avs j4 x1))), (16, .c (.at_ (avs j4 x1))), (17, cI x1.1.1), (18, cI v0.1), (19, cB (x1.1.1 != v0.1)), (20, cI v0.1), (21, cI (IntKind.i64.wrap (v0.1 + 1))), (22, .c (.l 157 j4 c0)), (23, cI v0.2), (24, .c (.at_ (avs j4 x2))), (25, .c (.at_ (avs j4 x2))), (26, .c (.at_ [vI x2.1.2, .l 264 sI2 x2.2.1, .l 147 j2 x2.2.2])), (27, cI x2.1.2), (28, cI (IntKind.i64.wrap (v0.1 + 1))), (29, cB (x2.1.2 != (IntKind.i64.wrap (v0.1 + 1)))), (30, cI (IntKind.i64.wrap (v0.1 + 1))), (31, cI (IntKind.i64.wrap ((IntKind.i64.wrap (v0.1 + 1)) + 1))), (32, .c (.l 157 j4 c0)), (33, cI v0.2), (34, .c (.at_ (avs j4 x3))), (35, .c (.at_ [.l 264 sI2 x3.2.1, .l 147 j2 x3.2.2])), (36, .c (.l 264 sI2 x3.2.1)), (37, cI (IntKind.i64.wrap ((IntKind.i64.wrap (v0.1 + 1)) + 1))), (38, cI p4), (39, cI p4), (40, cB (decide (p4 < 0))), (41, .c (.l 157 j4 c0)), (42, cI v0.2), (43, .c (.at_ (avs j4 x5))), (44, .c (.at_ [.l 147 j2 x5.2.2])), (45, .c (.l 147 j2 x5.2.2)), (46, cI p4), (47, cI p6), (48, cI p6), (49, cB (decide (p6 < 0)))], []⟩
def xw2 {R : Type} (K : Ex → St → Option R) (c0 : xk) (v0 : xa) : Option R := K (.exit 0) ⟨51, 0, [(0, .c (.l 157 j4 c0)), (1, cI v0.1), (5, cI v0.2), (6, cI v0.2), (7, .c (.l 157 j4 c0)), (8, cI (c0.length : Int)), (9, cB (decide (v0.2 < (c0.length : Int))))], []⟩
theorem llheldPieceS_0 {R : Type} (k : Nat) (K : Ex → St → Option R) (c0 : xk) : ∀ (n : Nat) (v : xa), j1 [0, 0, 1, 5] (run E (den E k) (lv 165) k (z2 Tryz.f165 0)) n (y33 c0 v) K = xs1 k (v03 K c0) (j03 K c0) (y13 K c0) (vx2 K c0) (xw2 K c0) c0 n v := j6 (B := y51 k (v03 K c0) (j03 K c0) (y13 K c0) (vx2 K c0) (xw2 K c0) c0) (fun _ => rfl) (fun n v => by kernel_rfl) (fun _ => rfl) (fun _ _ => rfl)
theorem mlheldPieceS_0 (k : Nat) (a0 : List v7) (a1 : Int) : yd2 (k + 1) a0 a1 = j1 (R := Int) [0, 0, 1, 5] (run E (den E k) (lv 165) k (z2 Tryz.f165 0)) k (y33 a0 (a1, 0)) (y9 E (den E k) (lv 165) k (za Tryz.f165) 0 [] (j9 E (rs 165) Tryz.f165 : Ex → St → Option (Int))) := by kernel_rfl
theorem elheldPieceS (k : Nat) (a0 : List v7) (a1 : Int) : yd2 (k + 1) a0 a1 = xs1 k (fun (v0 : I2) (x1 : v7) => some (-1)) (fun (v0 : I2) (x1 : v7) (x2 : v7) => some (-1)) (fun (v0 : I2) (x1 : v7) (x2 : v7) (x3 : v7) (p4 : Int) => some (-1)) (fun (v0 : I2) (x1 : v7) (x2 : v7) (x3 : v7) (p4 : Int) (x5 : v7) (p6 : Int) => some (-1)) (fun (v0 : I2) => some v0.1) a0 k (a1, 0) := by
 rw [mlheldPieceS_0]
 simp only [llheldPieceS_0]
 kernel_rfl
noncomputable def yn2 (k : Nat) (a0 : xd) (a1 : Int) : Option (Int) := den E k 81 [.agg (avs j3 a0), cI a1]
theorem elheldProgram (k : Nat) (a0 : xd) (a1 : Int) : yn2 (k + 1) a0 a1 = (yd2 k a0.2.2.2 a1).bind fun p1 => if (decide (p1 < 0)) = true then some (-1) else some p1 := by kernel_rfl
noncomputable def ya2 (k : Nat) (a0 : List (List I6)) (a1 : Int) : Option (Int) := den E k 85 [.c (.l 113 j5 a0), cI a1]
abbrev z51 : Type := (List (List I6))
abbrev xh : Type := Int × Int
def w63 (c0 : z51) (v0 : xh) : St := ⟨22, 0, [(0, .c (.l 113 j5 c0)), (1, cI v0.1), (5, cI v0.2)], []⟩
noncomputable def w51 {R : Type} (k : Nat) (X0 : xh → (List I6) → Int → Option R) (X1 : xh → Option R) (c0 : z51) (rec : xh → Option R) (v0 : xh) : Option R := if (decide (v0.2 < (c0.length : Int))) = true then if 0 ≤ v0.2 then ix c0 v0.2.toNat fun x1 => (xm1 k x1 v0.1).bind fun p2 => if (decide (p2 < 0)) = true then X0 v0 x1 p2 else rec (p2, (IntKind.i64.wrap (v0.2 + 1))) else none else X1 v0
noncomputable def yr1 {R : Type} (k : Nat) (X0 : xh → (List I6) → Int → Option R) (X1 : xh → Option R) (c : z51) : Nat → xh → Option R
 | 0, _ => none
 | n + 1, v => w51 k X0 X1 c (yr1 k X0 X1 c n) v
def yy2 {R : Type} (K : Ex → St → Option R) (c0 : z51) (v0 : xh) (x1 : List I6) (p2 : Int) : Option R := K .ret ⟨22, 0, [(0, .c (.l 113 j5 c0)), (1, cI p2), (4, cI (-1)), (5, cI v0.2), (6, cI v0.2), (7, .c (.l 113 j5 c0)), (8, cI (c0.length : Int)), (9, cB (decide (v0.2 < (c0.length : Int)))), (12, .c (.l 113 j5 c0)), (13, cI v0.2), (14, .c (.at_ [.l 115 sI6 x1])), (15, .c (.at_ [.l 115 sI6 x1])), (16, .c (.l 115 sI6 x1)), (17, cI v0.1), (18, cI p2), (19, cI p2), (20, cB (decide (p2 < 0)))], []⟩
def w13 {R : Type} (K : Ex → St → Option R) (c0 : z51) (v0 : xh) : Option R := K (.exit 0) ⟨22, 0, [(0, .c (.l 113 j5 c0)), (1, cI v0.1), (5, cI v0.2), (6, cI v0.2), (7, .c (.l 113 j5 c0)), (8, cI (c0.length : Int)), (9, cB (decide (v0.2 < (c0.length : Int))))], []⟩
theorem llheldQueueS_0 {R : Type} (k : Nat) (K : Ex → St → Option R) (c0 : z51) : ∀ (n : Nat) (v : xh), j1 [0, 0, 1, 5] (run E (den E k) (lv 85) k (z2 Tryz.f85 0)) n (w63 c0 v) K = yr1 k (yy2 K c0) (w13 K c0) c0 n v := j6 (B := w51 k (yy2 K c0) (w13 K c0) c0) (fun _ => rfl) (fun n v => by kernel_rfl) (fun _ => rfl) (fun _ _ => rfl)
theorem mlheldQueueS_0 (k : Nat) (a0 : List (List I6)) (a1 : Int) : ya2 (k + 1) a0 a1 = j1 (R := Int) [0, 0, 1, 5] (run E (den E k) (lv 85) k (z2 Tryz.f85 0)) k (w63 a0 (a1, 0)) (y9 E (den E k) (lv 85) k (za Tryz.f85) 0 [] (j9 E (rs 85) Tryz.f85 : Ex → St → Option (Int))) := by kernel_rfl
theorem elheldQueueS (k : Nat) (a0 : List (List I6)) (a1 : Int) : ya2 (k + 1) a0 a1 = yr1 k (fun (v0 : I2) (x1 : List I6) (p2 : Int) => some (-1)) (fun (v0 : I2) => some v0.1) a0 k (a1, 0) := by
 rw [mlheldQueueS_0]
 simp only [llheldQueueS_0]
 kernel_rfl
noncomputable def xr2 (k : Nat) (a0 : List I4) (a1 : Int) : Option (Int) := den E k 90 [.c (.l 69 sI4 a0), cI a1]
abbrev wo : Type := (List I4)
abbrev wb : Type := Int × Int
def xo3 (c0 : wo) (v0 : wb) : St := ⟨49, 0, [(0, .c (.l 69 sI4 c0)), (1, cI v0.1), (5, cI v0.2)], []⟩
noncomputable def ja1 {R : Type} (k : Nat) (X0 : wb → I4 → Option R) (X1 : wb → I4 → I4 → Option R) (X2 : wb → I4 → I4 → I4 → Option R) (X3 : wb → I4 → I4 → I4 → I4 → Option R) (X4 : wb → Option R) (c0 : wo) (rec : wb → Option R) (v0 : wb) : Option R := if (decide (v0.2 < (c0.length : Int))) = true then if 0 ≤ v0.2 then ix c0 v0.2.toNat fun x1 => if (x1.1 != v0.1) = true then X0 v0 x1 else if 0 ≤ v0.2 then ix c0 v0.2.toNat fun x2 => if (x2.2.1 != (IntKind.i64.wrap (v0.1 + 1))) = true then X1 v0 x1 x2 else if 0 ≤ v0.2 then ix c0 v0.2.toNat fun x3 => if (x3.2.2.1 != (IntKind.i64.wrap ((IntKind.i64.wrap (v0.1 + 1)) + 1))) = true then X2 v0 x1 x2 x3 else if 0 ≤ v0.2 then ix c0 v0.2.toNat fun x4 => if (x4.2.2.2 != (IntKind.i64.wrap ((IntKind.i64.wrap ((IntKind.i64.wrap (v0.1 + 1)) + 1)) + 1))) = true then X3 v0 x1 x2 x3 x4 else rec ((IntKind.i64.wrap ((IntKind.i64.wrap ((IntKind.i64.wrap ((IntKind.i64.wrap (v0.1 + 1)) + 1)) + 1)) + 1)), (IntKind.i64.wrap (v0.2 + 1))) else none else none else none else none else X4 v0
noncomputable def j22 {R : Type} (k : Nat) (X0 : wb → I4 → Option R) (X1 : wb → I4 → I4 → Option R) (X2 : wb → I4 → I4 → I4 → Option R) (X3 : wb → I4 → I4 → I4 → I4 → Option R) (X4 : wb → Option R) (c : wo) : Nat → wb → Option R
 | 0, _ => none
 | n + 1, v => ja1 k X0 X1 X2 X3 X4 c (j22 k X0 X1 X2 X3 X4 c n) v
def v93 {R : Type} (K : Ex → St → Option R) (c0 : wo) (v0 : wb) (x1 : I4) : Option R := K .ret ⟨49, 0, [(0, .c (.l 69 sI4 c0)), (1, cI v0.1), (4, cI (-1)), (5, cI v0.2), (6, cI v0.2), (7, .c (.l 69 sI4 c0)), (8, cI (c0.length : Int)), (9, cB (decide (v0.2 < (c0.length : Int)))), (12, .c (.l 69 sI4 c0)), (13, cI v0.2), (14, .c (.at_ (avs sI4 x1))), (15, .c (.at_ (avs sI4 x1))), (16, cI x1.1), (17, cI v0.1), (18, cB (x1.1 != v0.1))], []⟩
def ji3 {R : Type} (K : Ex → St → Option R) (c0 : wo) (v0 : wb) (x1 : I4) (x2 : I4) : Option R := K .ret ⟨49, 0, [(0, .c (.l 69 sI4 c0)), (1, cI (IntKind.i64.wrap (v0.1 + 1))), (4, cI (-1)), (5, cI v0.2), (6, cI v0.2), (7, .c (.l 69 sI4 c0)), (8, cI (c0.length : Int)), (9, cB (decide (v0.2 < (c0.length : Int)))), (12, .c (.l 69 sI4 c0)), (13, cI v0.2), (14, .c (.at_ (avs sI4 x1))), (15, .c (.at_ (avs sI4 x1))), (16, cI x1.1), (17, cI v0.1), (18, cB (x1.1 != v0.1)), (19, cI v0.1), (20, cI (IntKind.i64.wrap (v0.1 + 1))), (21, .c (.l 69 sI4 c0)), (22, cI v0.2), (23, .c (.at_ (avs sI4 x2))), (24, .c (.at_ (avs sI3 x2.2))), (25, cI x2.2.1), (26, cI (IntKind.i64.wrap (v0.1 + 1))), (27, cB (x2.2.1 != (IntKind.i64.wrap (v0.1 + 1))))], []⟩
def y43 {R : Type} (K : Ex → St → Option R) (c0 : wo) (v0 : wb) (x1 : I4) (x2 : I4) (x3 : I4) : Option R := K .ret ⟨49, 0, [(0, .c (.l 69 sI4 c0)), (1, cI (IntKind.i64.wrap ((IntKind.i64.wrap (v0.1 + 1)) + 1))), (4, cI (-1)), (5, cI v0.2), (6, cI v0.2), (7, .c (.l 69 sI4 c0)), (8, cI (c0.length : Int)), (9, cB (decide (v0.2 < (c0.length : Int)))), (12, .c (.l 69 sI4 c0)), (13, cI v0.2), (14, .c (.at_ (avs sI4 x1))), (15, .c (.at_ (avs sI4 x1))), (16, cI x1.1), (17, cI v0.1), (18, cB (x1.1 != v0.1)), (19, cI v0.1), (20, cI (IntKind.i64.wrap (v0.1 + 1))), (21, .c (.l 69 sI4 c0)), (22, cI v0.2), (23, .c (.at_ (avs sI4 x2))), (24, .c (.at_ (avs sI3 x2.2))), (25, cI x2.2.1), (26, cI (IntKind.i64.wrap (v0.1 + 1))), (27, cB (x2.2.1 != (IntKind.i64.wrap (v0.1 + 1)))), (28, cI (IntKind.i64.wrap (v0.1 + 1))), (29, cI (IntKind.i64.wrap ((IntKind.i64.wrap (v0.1 + 1)) + 1))), (30, .c (.l 69 sI4 c0)), (31, cI v0.2), (32, .c (.at_ (avs sI4 x3))), (33, .c (.at_ [vI x3.2.2.1, vI x3.2.2.2])), (34, cI x3.2.2.1), (35, cI (IntKind.i64.wrap ((IntKind.i64.wrap (v0.1 + 1)) + 1))), (36, cB (x3.2.2.1 != (IntKind.i64.wrap ((IntKind.i64.wrap (v0.1 + 1)) + 1))))], []⟩
def ve3 {R : Type} (K : Ex → St → Option R) (c0 : wo) (v0 : wb) (x1 : I4) (x2 : I4) (x3 : I4) (x4 : I4) : Option R := K .ret ⟨49, 0, [(0, .c (.l 69 sI4 c0)), (1, cI (IntKind.i64.wrap ((IntKind.i64.wrap ((IntKind.i64.wrap (v0.1 + 1)) + 1)) + 1))), (4, cI (-1)), (5, cI v0.2), (6, cI v0.2), (7, .c (.l 69 sI4 c0)), (8, cI (c0.length : Int)), (9, cB (decide (v0.2 < (c0.length : Int)))), (12, .c (.l 69 sI4 c0)), (13, cI v0.2), (14, .c (.at_ (avs sI4 x1))), (15, .c (.at_ (avs sI4 x1))), (16, cI x1.1), (17, cI v0.1), (18, cB (x1.1 != v0.1)), (19, cI v0.1), (20, cI (IntKind.i64.wrap (v0.1 + 1))), (21, .c (.l 69 sI4 c0)), (22, cI v0.2), (23, .c (.at_ (avs sI4 x2))), (24, .c (.at_ (avs sI3 x2.2))), (25, cI x2.2.1), (26, cI (IntKind.i64.wrap (v0.1 + 1))), (27, cB (x2.2.1 != (IntKind.i64.wrap (v0.1 + 1)))), (28, cI (IntKind.i64.wrap (v0.1 + 1))), (29, cI (IntKind.i64.wrap ((IntKind.i64.wrap (v0.1 + 1)) + 1))), (30, .c (.l 69 sI4 c0)), (31, cI v0.2), (32, .c (.at_ (avs sI4 x3))), (33, .c (.at_ [vI x3.2.2.1, vI x3.2.2.2])), (34, cI x3.2.2.1), (35, cI (IntKind.i64.wrap ((IntKind.i64.wrap (v0.1 + 1)) + 1))), (36, cB (x3.2.2.1 != (IntKind.i64.wrap ((IntKind.i64.wrap (v0.1 + 1)) + 1)))), (37, cI (IntKind.i64.wrap ((IntKind.i64.wrap (v0.1 + 1)) + 1))), (38, cI (IntKind.i64.wrap ((IntKind.i64.wrap ((IntKind.i64.wrap (v0.1 + 1)) + 1)) + 1))), (39, .c (.l 69 sI4 c0)), (40, cI v0.2), (41, .c (.at_ (avs sI4 x4))), (42, .c (.at_ [vI x4.2.2.2])), (43, cI x4.2.2.2), (44, cI (IntKind.i64.wrap ((IntKind.i64.wrap ((IntKind.i64.wrap (v0.1 + 1)) + 1)) + 1))), (45, cB (x4.2.2.2 != (IntKind.i64.wrap ((IntKind.i64.wrap ((IntKind.i64.wrap (v0.1 + 1)) + 1)) + 1))))], []⟩
def z83 {R : Type} (K : Ex → St → Option R) (c0 : wo) (v0 : wb) : Option R := K (.exit 0) ⟨49, 0, [(0, .c (.l 69 sI4 c0)), (1, cI v0.1), (5, cI v0.2), (6, cI v0.2), (7, .c (.l 69 sI4 c0)), (8, cI (c0.length : Int)), (9, cB (decide (v0.2 < (c0.length : Int))))], []⟩
theorem llheldSentS_0 {R : Type} (k : Nat) (K : Ex → St → Option R) (c0 : wo) : ∀ (n : Nat) (v : wb), j1 [0, 0, 1, 5] (run E (den E k) (lv 90) k (z2 Tryz.f90 0)) n (xo3 c0 v) K = j22 k (v93 K c0) (ji3 K c0) (y43 K c0) (ve3 K c0) (z83 K c0) c0 n v := j6 (B := ja1 k (v93 K c0) (ji3 K c0) (y43 K c0) (ve3 K c0) (z83 K c0) c0) (fun _ => rfl) (fun n v => by kernel_rfl) (fun _ => rfl) (fun _ _ => rfl)
theorem mlheldSentS_0 (k : Nat) (a0 : List I4) (a1 : Int) : xr2 (k + 1) a0 a1 = j1 (R := Int) [0, 0, 1, 5] (run E (den E k) (lv 90) k (z2 Tryz.f90 0)) k (xo3 a0 (a1, 0)) (y9 E (den E k) (lv 90) k (za Tryz.f90) 0 [] (j9 E (rs 90) Tryz.f90 : Ex → St → Option (Int))) := by kernel_rfl
theorem elheldSentS (k : Nat) (a0 : List I4) (a1 : Int) : xr2 (k + 1) a0 a1 = j22 k (fun (v0 : I2) (x1 : I4) => some (-1)) (fun (v0 : I2) (x1 : I4) (x2 : I4) => some (-1)) (fun (v0 : I2) (x1 : I4) (x2 : I4) (x3 : I4) => some (-1)) (fun (v0 : I2) (x1 : I4) (x2 : I4) (x3 : I4) (x4 : I4) => some (-1)) (fun (v0 : I2) => some v0.1) a0 k (a1, 0) := by
 rw [mlheldSentS_0]
 simp only [llheldSentS_0]
 kernel_rfl
noncomputable def ym3 (k : Nat) (a0 : List I4) (a1 : Int) : Option (Int) := den E k 162 [.c (.l 224 sI4 a0), cI a1]
abbrev wu : Type := (List I4)
abbrev zd : Type := Int × Int
def wc4 (c0 : wu) (v0 : zd) : St := ⟨49, 0, [(0, .c (.l 224 sI4 c0)), (1, cI v0.1), (5, cI v0.2)], []⟩
noncomputable def yk1 {R : Type} (k : Nat) (X0 : zd → I4 → Option R) (X1 : zd → I4 → I4 → Option R) (X2 : zd → I4 → I4 → I4 → Option R) (X3 : zd → I4 → I4 → I4 → I4 → Option R) (X4 : zd → Option R) (c0 : wu) (rec : zd → Option R) (v0 : zd) : Option R := if (decide (v0.2 < (c0.length : Int))) = true then if 0 ≤ v0.2 then ix c0 v0.2.toNat fun x1 => if (x1.1 != v0.1) = true then X0 v0 x1 else if 0 ≤ v0.2 then ix c0 v0.2.toNat fun x2 => if (x2.2.1 != (IntKind.i64.wrap (v0.1 + 1))) = true then X1 v0 x1 x2 else if 0 ≤ v0.2 then ix c0 v0.2.toNat fun x3 => if (x3.2.2.1 != (IntKind.i64.wrap ((IntKind.i64.wrap (v0.1 + 1)) + 1))) = true then X2 v0 x1 x2 x3 else if 0 ≤ v0.2 then ix c0 v0.2.toNat fun x4 => if (x4.2.2.2 != (IntKind.i64.wrap ((IntKind.i64.wrap ((IntKind.i64.wrap (v0.1 + 1)) + 1)) + 1))) = true then X3 v0 x1 x2 x3 x4 else rec ((IntKind.i64.wrap ((IntKind.i64.wrap ((IntKind.i64.wrap ((IntKind.i64.wrap (v0.1 + 1)) + 1)) + 1)) + 1)), (IntKind.i64.wrap (v0.2 + 1))) else none else none else none else none else X4 v0
noncomputable def j92 {R : Type} (k : Nat) (X0 : zd → I4 → Option R) (X1 : zd → I4 → I4 → Option R) (X2 : zd → I4 → I4 → I4 → Option R) (X3 : zd → I4 → I4 → I4 → I4 → Option R) (X4 : zd → Option R) (c : wu) : Nat → zd → Option R
 | 0, _ => none
 | n + 1, v => yk1 k X0 X1 X2 X3 X4 c (j92 k X0 X1 X2 X3 X4 c n) v
def wu3 {R : Type} (K : Ex → St → Option R) (c0 : wu) (v0 : zd) (x1 : I4) : Option R := K .ret ⟨49, 0, [(0, .c (.l 224 sI4 c0)), (1, cI v0.1), (4, cI (-1)), (5, cI v0.2), (6, cI v0.2), (7, .c (.l 224 sI4 c0)), (8, cI (c0.length : Int)), (9, cB (decide (v0.2 < (c0.length : Int)))), (12, .c (.l 224 sI4 c0)), (13, cI v0.2), (14, .c (.at_ (avs sI4 x1))), (15, .c (.at_ (avs sI4 x1))), (16, cI x1.1), (17, cI v0.1), (18, cB (x1.1 != v0.1))], []⟩
def xv3 {R : Type} (K : Ex → St → Option R) (c0 : wu) (v0 : zd) (x1 : I4) (x2 : I4) : Option R := K .ret ⟨49, 0, [(0, .c (.l 224 sI4 c0)), (1, cI (IntKind.i64.wrap (v0.1 + 1))), (4, cI (-1)), (5, cI v0.2), (6, cI v0.2), (7, .c (.l 224 sI4 c0)), (8, cI (c0.length : Int)), (9, cB (decide (v0.2 < (c0.length : Int)))), (12, .c (.l 224 sI4 c0)), (13, cI v0.2), (14, .c (.at_ (avs sI4 x1))), (15, .c (.at_ (avs sI4 x1))), (16, cI x1.1), (17, cI v0.1), (18, cB (x1.1 != v0.1)), (19, cI v0.1), (20, cI (IntKind.i64.wrap (v0.1 + 1))), (21, .c (.l 224 sI4 c0)), (22, cI v0.2), (23, .c (.at_ (avs sI4 x2))), (24, .c (.at_ (avs sI3 x2.2))), (25, cI x2.2.1), (26, cI (IntKind.i64.wrap (v0.1 + 1))), (27, cB (x2.2.1 != (IntKind.i64.wrap (v0.1 + 1))))], []⟩
def yq3 {R : Type} (K : Ex → St → Option R) (c0 : wu) (v0 : zd) (x1 : I4) (x2 : I4) (x3 : I4) : Option R := K .ret ⟨49, 0, [(0, .c (.l 224 sI4 c0)), (1, cI (IntKind.i64.wrap ((IntKind.i64.wrap (v0.1 + 1)) + 1))), (4, cI (-1)), (5, cI v0.2), (6, cI v0.2), (7, .c (.l 224 sI4 c0)), (8, cI (c0.length : Int)), (9, cB (decide (v0.2 < (c0.length : Int)))), (12, .c (.l 224 sI4 c0)), (13, cI v0.2), (14, .c (.at_ (avs sI4 x1))), (15, .c (.at_ (avs sI4 x1))), (16, cI x1.1), (17, cI v0.1), (18, cB (x1.1 != v0.1)), (19, cI v0.1), (20, cI (IntKind.i64.wrap (v0.1 + 1))), (21, .c (.l 224 sI4 c0)), (22, cI v0.2), (23, .c (.at_ (avs sI4 x2))), (24, .c (.at_ (avs sI3 x2.2))), (25, cI x2.2.1), (26, cI (IntKind.i64.wrap (v0.1 + 1))), (27, cB (x2.2.1 != (IntKind.i64.wrap (v0.1 + 1)))), (28, cI (IntKind.i64.wrap (v0.1 + 1))), (29, cI (IntKind.i64.wrap ((IntKind.i64.wrap (v0.1 + 1)) + 1))), (30, .c (.l 224 sI4 c0)), (31, cI v0.2), (32, .c (.at_ (avs sI4 x3))), (33, .c (.at_ [vI x3.2.2.1, vI x3.2.2.2])), (34, cI x3.2.2.1), (35, cI (IntKind.i64.wrap ((IntKind.i64.wrap (v0.1 + 1)) + 1))), (36, cB (x3.2.2.1 != (IntKind.i64.wrap ((IntKind.i64.wrap (v0.1 + 1)) + 1))))], []⟩
def wt3 {R : Type} (K : Ex → St → Option R) (c0 : wu) (v0 : zd) (x1 : I4) (x2 : I4) (x3 : I4) (x4 : I4) : Option R := K .ret ⟨49, 0, [(0, .c (.l 224 sI4 c0)), (1, cI (IntKind.i64.wrap ((IntKind.i64.wrap ((IntKind.i64.wrap (v0.1 + 1)) + 1)) + 1))), (4, cI (-1)), (5, cI v0.2), (6, cI v0.2), (7, .c (.l 224 sI4 c0)), (8, cI (c0.length : Int)), (9, cB (decide (v0.2 < (c0.length : Int)))), (12, .c (.l 224 sI4 c0)), (13, cI v0.2), (14, .c (.at_ (avs sI4 x1))), (15, .c (.at_ (avs sI4 x1))), (16, cI x1.1), (17, cI v0.1), (18, cB (x1.1 != v0.1)), (19, cI v0.1), (20, cI (IntKind.i64.wrap (v0.1 + 1))), (21, .c (.l 224 sI4 c0)), (22, cI v0.2), (23, .c (.at_ (avs sI4 x2))), (24, .c (.at_ (avs sI3 x2.2))), (25, cI x2.2.1), (26, cI (IntKind.i64.wrap (v0.1 + 1))), (27, cB (x2.2.1 != (IntKind.i64.wrap (v0.1 + 1)))), (28, cI (IntKind.i64.wrap (v0.1 + 1))), (29, cI (IntKind.i64.wrap ((IntKind.i64.wrap (v0.1 + 1)) + 1))), (30, .c (.l 224 sI4 c0)), (31, cI v0.2), (32, .c (.at_ (avs sI4 x3))), (33, .c (.at_ [vI x3.2.2.1, vI x3.2.2.2])), (34, cI x3.2.2.1), (35, cI (IntKind.i64.wrap ((IntKind.i64.wrap (v0.1 + 1)) + 1))), (36, cB (x3.2.2.1 != (IntKind.i64.wrap ((IntKind.i64.wrap (v0.1 + 1)) + 1)))), (37, cI (IntKind.i64.wrap ((IntKind.i64.wrap (v0.1 + 1)) + 1))), (38, cI (IntKind.i64.wrap ((IntKind.i64.wrap ((IntKind.i64.wrap (v0.1 + 1)) + 1)) + 1))), (39, .c (.l 224 sI4 c0)), (40, cI v0.2), (41, .c (.at_ (avs sI4 x4))), (42, .c (.at_ [vI x4.2.2.2])), (43, cI x4.2.2.2), (44, cI (IntKind.i64.wrap ((IntKind.i64.wrap ((IntKind.i64.wrap (v0.1 + 1)) + 1)) + 1))), (45, cB (x4.2.2.2 != (IntKind.i64.wrap ((IntKind.i64.wrap ((IntKind.i64.wrap (v0.1 + 1)) + 1)) + 1))))], []⟩
def zy3 {R : Type} (K : Ex → St → Option R) (c0 : wu) (v0 : zd) : Option R := K (.exit 0) ⟨49, 0, [(0, .c (.l 224 sI4 c0)), (1, cI v0.1), (5, cI v0.2), (6, cI v0.2), (7, .c (.l 224 sI4 c0)), (8, cI (c0.length : Int)), (9, cB (decide (v0.2 < (c0.length : Int))))], []⟩
theorem llheldSatS_0 {R : Type} (k : Nat) (K : Ex → St → Option R) (c0 : wu) : ∀ (n : Nat) (v : zd), j1 [0, 0, 1, 5] (run E (den E k) (lv 162) k (z2 Tryz.f162 0)) n (wc4 c0 v) K = j92 k (wu3 K c0) (xv3 K c0) (yq3 K c0) (wt3 K c0) (zy3 K c0) c0 n v := j6 (B := yk1 k (wu3 K c0) (xv3 K c0) (yq3 K c0) (wt3 K c0) (zy3 K c0) c0) (fun _ => rfl) (fun n v => by kernel_rfl) (fun _ => rfl) (fun _ _ => rfl)
theorem mlheldSatS_0 (k : Nat) (a0 : List I4) (a1 : Int) : ym3 (k + 1) a0 a1 = j1 (R := Int) [0, 0, 1, 5] (run E (den E k) (lv 162) k (z2 Tryz.f162 0)) k (wc4 a0 (a1, 0)) (y9 E (den E k) (lv 162) k (za Tryz.f162) 0 [] (j9 E (rs 162) Tryz.f162 : Ex → St → Option (Int))) := by kernel_rfl
theorem elheldSatS (k : Nat) (a0 : List I4) (a1 : Int) : ym3 (k + 1) a0 a1 = j92 k (fun (v0 : I2) (x1 : I4) => some (-1)) (fun (v0 : I2) (x1 : I4) (x2 : I4) => some (-1)) (fun (v0 : I2) (x1 : I4) (x2 : I4) (x3 : I4) => some (-1)) (fun (v0 : I2) (x1 : I4) (x2 : I4) (x3 : I4) (x4 : I4) => some (-1)) (fun (v0 : I2) => some v0.1) a0 k (a1, 0) := by
 rw [mlheldSatS_0]
 simp only [llheldSatS_0]
 kernel_rfl
noncomputable def wt2 (k : Nat) (a0 : List I3) (a1 : Int) : Option (Int) := den E k 163 [.c (.l 228 sI3 a0), cI a1]
abbrev jv : Type := (List I3)
abbrev vd : Type := Int × Int
def wy3 (c0 : jv) (v0 : vd) : St := ⟨40, 0, [(0, .c (.l 228 sI3 c0)), (1, cI v0.1), (5, cI v0.2)], []⟩
noncomputable def j91 {R : Type} (k : Nat) (X0 : vd → I3 → Option R) (X1 : vd → I3 → I3 → Option R) (X2 : vd → I3 → I3 → I3 → Option R) (X3 : vd → Option R) (c0 : jv) (rec : vd → Option R) (v0 : vd) : Option R := if (decide (v0.2 < (c0.length : Int))) = true then if 0 ≤ v0.2 then ix c0 v0.2.toNat fun x1 => if (x1.1 != v0.1) = true then X0 v0 x1 else if 0 ≤ v0.2 then ix c0 v0.2.toNat fun x2 => if (x2.2.1 != (IntKind.i64.wrap (v0.1 + 1))) = true then X1 v0 x1 x2 else if 0 ≤ v0.2 then ix c0 v0.2.toNat fun x3 => if (x3.2.2 != (IntKind.i64.wrap ((IntKind.i64.wrap (v0.1 + 1)) + 1))) = true then X2 v0 x1 x2 x3 else rec ((IntKind.i64.wrap ((IntKind.i64.wrap ((IntKind.i64.wrap (v0.1 + 1)) + 1)) + 1)), (IntKind.i64.wrap (v0.2 + 1))) else none else none else none else X3 v0
noncomputable def w22 {R : Type} (k : Nat) (X0 : vd → I3 → Option R) (X1 : vd → I3 → I3 → Option R) (X2 : vd → I3 → I3 → I3 → Option R) (X3 : vd → Option R) (c : jv) : Nat → vd → Option R
 | 0, _ => none
 | n + 1, v => j91 k X0 X1 X2 X3 c (w22 k X0 X1 X2 X3 c n) v
def ja3 {R : Type} (K : Ex → St → Option R) (c0 : jv) (v0 : vd) (x1 : I3) : Option R := K .ret ⟨40, 0, [(0, .c (.l 228 sI3 c0)), (1, cI v0.1), (4, cI (-1)), (5, cI v0.2), (6, cI v0.2), (7, .c (.l 228 sI3 c0)), (8, cI (c0.length : Int)), (9, cB (decide (v0.2 < (c0.length : Int)))), (12, .c (.l 228 sI3 c0)), (13, cI v0.2), (14, .c (.at_ (avs sI3 x1))), (15, .c (.at_ (avs sI3 x1))), (16, cI x1.1), (17, cI v0.1), (18, cB (x1.1 != v0.1))], []⟩
def wa3 {R : Type} (K : Ex → St → Option R) (c0 : jv) (v0 : vd) (x1 : I3) (x2 : I3) : Option R := K .ret ⟨40, 0, [(0, .c (.l 228 sI3 c0)), (1, cI (IntKind.i64.wrap (v0.1 + 1))), (4, cI (-1)), (5, cI v0.2), (6, cI v0.2), (7, .c (.l 228 sI3 c0)), (8, cI (c0.length : Int)), (9, cB (decide (v0.2 < (c0.length : Int)))), (12, .c (.l 228 sI3 c0)), (13, cI v0.2), (14, .c (.at_ (avs sI3 x1))), (15, .c (.at_ (avs sI3 x1))), (16, cI x1.1), (17, cI v0.1), (18, cB (x1.1 != v0.1)), (19, cI v0.1), (20, cI (IntKind.i64.wrap (v0.1 + 1))), (21, .c (.l 228 sI3 c0)), (22, cI v0.2), (23, .c (.at_ (avs sI3 x2))), (24, .c (.at_ [vI x2.2.1, vI x2.2.2])), (25, cI x2.2.1), (26, cI (IntKind.i64.wrap (v0.1 + 1))), (27, cB (x2.2.1 != (IntKind.i64.wrap (v0.1 + 1))))], []⟩
def x33 {R : Type} (K : Ex → St → Option R) (c0 : jv) (v0 : vd) (x1 : I3) (x2 : I3) (x3 : I3) : Option R := K .ret ⟨40, 0, [(0, .c (.l 228 sI3 c0)), (1, cI (IntKind.i64.wrap ((IntKind.i64.wrap (v0.1 + 1)) + 1))), (4, cI (-1)), (5, cI v0.2), (6, cI v0.2), (7, .c (.l 228 sI3 c0)), (8, cI (c0.length : Int)), (9, cB (decide (v0.2 < (c0.length : Int)))), (12, .c (.l 228 sI3 c0)), (13, cI v0.2), (14, .c (.at_ (avs sI3 x1))), (15, .c (.at_ (avs sI3 x1))), (16, cI x1.1), (17, cI v0.1), (18, cB (x1.1 != v0.1)), (19, cI v0.1), (20, cI (IntKind.i64.wrap (v0.1 + 1))), (21, .c (.l 228 sI3 c0)), (22, cI v0.2), (23, .c (.at_ (avs sI3 x2))), (24, .c (.at_ [vI x2.2.1, vI x2.2.2])), (25, cI x2.2.1), (26, cI (IntKind.i64.wrap (v0.1 + 1))), (27, cB (x2.2.1 != (IntKind.i64.wrap (v0.1 + 1)))), (28, cI (IntKind.i64.wrap (v0.1 + 1))), (29, cI (IntKind.i64.wrap ((IntKind.i64.wrap (v0.1 + 1)) + 1))), (30, .c (.l 228 sI3 c0)), (31, cI v0.2), (32, .c (.at_ (avs sI3 x3))), (33, .c (.at_ [vI x3.2.2])), (34, cI x3.2.2), (35, cI (IntKind.i64.wrap ((IntKind.i64.wrap (v0.1 + 1)) + 1))), (36, cB (x3.2.2 != (IntKind.i64.wrap ((IntKind.i64.wrap (v0.1 + 1)) + 1))))], []⟩
def jd3 {R : Type} (K : Ex → St → Option R) (c0 : jv) (v0 : vd) : Option R := K (.exit 0) ⟨40, 0, [(0, .c (.l 228 sI3 c0)), (1, cI v0.1), (5, cI v0.2), (6, cI v0.2), (7, .c (.l 228 sI3 c0)), (8, cI (c0.length : Int)), (9, cB (decide (v0.2 < (c0.length : Int))))], []⟩
theorem llheldSiteS_0 {R : Type} (k : Nat) (K : Ex → St → Option R) (c0 : jv) : ∀ (n : Nat) (v : vd), j1 [0, 0, 1, 5] (run E (den E k) (lv 163) k (z2 Tryz.f163 0)) n (wy3 c0 v) K = w22 k (ja3 K c0) (wa3 K c0) (x33 K c0) (jd3 K c0) c0 n v := j6 (B := j91 k (ja3 K c0) (wa3 K c0) (x33 K c0) (jd3 K c0) c0) (fun _ => rfl) (fun n v => by kernel_rfl) (fun _ => rfl) (fun _ _ => rfl)
theorem mlheldSiteS_0 (k : Nat) (a0 : List I3) (a1 : Int) : wt2 (k + 1) a0 a1 = j1 (R := Int) [0, 0, 1, 5] (run E (den E k) (lv 163) k (z2 Tryz.f163 0)) k (wy3 a0 (a1, 0)) (y9 E (den E k) (lv 163) k (za Tryz.f163) 0 [] (j9 E (rs 163) Tryz.f163 : Ex → St → Option (Int))) := by kernel_rfl
theorem elheldSiteS (k : Nat) (a0 : List I3) (a1 : Int) : wt2 (k + 1) a0 a1 = w22 k (fun (v0 : I2) (x1 : I3) => some (-1)) (fun (v0 : I2) (x1 : I3) (x2 : I3) => some (-1)) (fun (v0 : I2) (x1 : I3) (x2 : I3) (x3 : I3) => some (-1)) (fun (v0 : I2) => some v0.1) a0 k (a1, 0) := by
 rw [mlheldSiteS_0]
 simp only [llheldSiteS_0]
 kernel_rfl
noncomputable def wp2 (k : Nat) (a0 : List I3) (a1 : Int) : Option (Int) := den E k 164 [.c (.l 234 sZone a0), cI a1]
abbrev xw : Type := (List I3)
abbrev ze : Type := Int × Int
def yy3 (c0 : xw) (v0 : ze) : St := ⟨42, 0, [(0, .c (.l 234 sZone c0)), (1, cI v0.1), (5, cI v0.2)], []⟩
noncomputable def va1 {R : Type} (k : Nat) (X0 : ze → I3 → Option R) (X1 : ze → I3 → I3 → Option R) (X2 : ze → I3 → I3 → I3 → Option R) (X3 : ze → Option R) (c0 : xw) (rec : ze → Option R) (v0 : ze) : Option R := if (decide (v0.2 < (c0.length : Int))) = true then if 0 ≤ v0.2 then ix c0 v0.2.toNat fun x1 => if (x1.1 != v0.1) = true then X0 v0 x1 else if 0 ≤ v0.2 then ix c0 v0.2.toNat fun x2 => if (x2.2.1 != (IntKind.i64.wrap (v0.1 + 1))) = true then X1 v0 x1 x2 else if 0 ≤ v0.2 then ix c0 v0.2.toNat fun x3 => if (x3.2.2 != (IntKind.i64.wrap ((IntKind.i64.wrap (v0.1 + 1)) + 1))) = true then X2 v0 x1 x2 x3 else rec ((IntKind.i64.wrap ((IntKind.i64.wrap ((IntKind.i64.wrap (v0.1 + 1)) + 1)) + 1)), (IntKind.i64.wrap (v0.2 + 1))) else none else none else none else X3 v0
noncomputable def v02 {R : Type} (k : Nat) (X0 : ze → I3 → Option R) (X1 : ze → I3 → I3 → Option R) (X2 : ze → I3 → I3 → I3 → Option R) (X3 : ze → Option R) (c : xw) : Nat → ze → Option R
 | 0, _ => none
 | n + 1, v => va1 k X0 X1 X2 X3 c (v02 k X0 X1 X2 X3 c n) v
def yh3 {R : Type} (K : Ex → St → Option R) (c0 : xw) (v0 : ze) (x1 : I3) : Option R := K .ret ⟨42, 0, [(0, .c (.l 234 sZone c0)), (1, cI v0.1), (4, cI (-1)), (5, cI v0.2), (6, cI v0.2), (7, .c (.l 234 sZone c0)), (8, cI (c0.length : Int)), (9, cB (decide (v0.2 < (c0.length : Int)))), (12, .c (.l 234 sZone c0)), (13, cI v0.2), (14, .c (.at_ (avs sI3 x1))), (15, .c (.at_ (avs sI3 x1))), (16, cI x1.1), (17, cI v0.1), (18, cB (x1.1 != v0.1))], []⟩
def j53 {R : Type} (K : Ex → St → Option R) (c0 : xw) (v0 : ze) (x1 : I3) (x2 : I3) : Option R := K .ret ⟨42, 0, [(0, .c (.l 234 sZone c0)), (1, cI (IntKind.i64.wrap (v0.1 + 1))), (4, cI (-1)), (5, cI v0.2), (6, cI v0.2), (7, .c (.l 234 sZone c0)), (8, cI (c0.length : Int)), (9, cB (decide (v0.2 < (c0.length : Int)))), (12, .c (.l 234 sZone c0)), (13, cI v0.2), (14, .c (.at_ (avs sI3 x1))), (15, .c (.at_ (avs sI3 x1))), (16, cI x1.1), (17, cI v0.1), (18, cB (x1.1 != v0.1)), (19, cI v0.1), (20, cI (IntKind.i64.wrap (v0.1 + 1))), (21, .c (.l 234 sZone c0)), (22, cI v0.2), (23, .c (.at_ (avs sI3 x2))), (24, .c (.at_ [vI x2.2.1, vI x2.2.2])), (25, .c (.at_ [vI x2.2.1, vI x2.2.2])), (26, cI x2.2.1), (27, cI (IntKind.i64.wrap (v0.1 + 1))), (28, cB (x2.2.1 != (IntKind.i64.wrap (v0.1 + 1))))], []⟩
def x53 {R : Type} (K : Ex → St → Option R) (c0 : xw) (v0 : ze) (x1 : I3) (x2 : I3) (x3 : I3) : Option R := K .ret ⟨42, 0, [(0, .c (.l 234 sZone c0)), (1, cI (IntKind.i64.wrap ((IntKind.i64.wrap (v0.1 + 1)) + 1))), (4, cI (-1)), (5, cI v0.2), (6, cI v0.2), (7, .c (.l 234 sZone c0)), (8, cI (c0.length : Int)), (9, cB (decide (v0.2 < (c0.length : Int)))), (12, .c (.l 234 sZone c0)), (13, cI v0.2), (14, .c (.at_ (avs sI3 x1))), (15, .c (.at_ (avs sI3 x1))), (16, cI x1.1), (17, cI v0.1), (18, cB (x1.1 != v0.1)), (19, cI v0.1), (20, cI (IntKind.i64.wrap (v0.1 + 1))), (21, .c (.l 234 sZone c0)), (22, cI v0.2), (23, .c (.at_ (avs sI3 x2))), (24, .c (.at_ [vI x2.2.1, vI x2.2.2])), (25, .c (.at_ [vI x2.2.1, vI x2.2.2])), (26, cI x2.2.1), (27, cI (IntKind.i64.wrap (v0.1 + 1))), (28, cB (x2.2.1 != (IntKind.i64.wrap (v0.1 + 1)))), (29, cI (IntKind.i64.wrap (v0.1 + 1))), (30, cI (IntKind.i64.wrap ((IntKind.i64.wrap (v0.1 + 1)) + 1))), (31, .c (.l 234 sZone c0)), (32, cI v0.2), (33, .c (.at_ (avs sI3 x3))), (34, .c (.at_ [vI x3.2.1, vI x3.2.2])), (35, .c (.at_ [vI x3.2.2])), (36, cI x3.2.2), (37, cI (IntKind.i64.wrap ((IntKind.i64.wrap (v0.1 + 1)) + 1))), (38, cB (x3.2.2 != (IntKind.i64.wrap ((IntKind.i64.wrap (v0.1 + 1)) + 1))))], []⟩
def xh3 {R : Type} (K : Ex → St → Option R) (c0 : xw) (v0 : ze) : Option R := K (.exit 0) ⟨42, 0, [(0, .c (.l 234 sZone c0)), (1, cI v0.1), (5, cI v0.2), (6, cI v0.2), (7, .c (.l 234 sZone c0)), (8, cI (c0.length : Int)), (9, cB (decide (v0.2 < (c0.length : Int))))], []⟩
theorem llheldZoneS_0 {R : Type} (k : Nat) (K : Ex → St → Option R) (c0 : xw) : ∀ (n : Nat) (v : ze), j1 [0, 0, 1, 5] (run E (den E k) (lv 164) k (z2 Tryz.f164 0)) n (yy3 c0 v) K = v02 k (yh3 K c0) (j53 K c0) (x53 K c0) (xh3 K c0) c0 n v := j6 (B := va1 k (yh3 K c0) (j53 K c0) (x53 K c0) (xh3 K c0) c0) (fun _ => rfl) (fun n v => by kernel_rfl) (fun _ => rfl) (fun _ _ => rfl)
theorem mlheldZoneS_0 (k : Nat) (a0 : List I3) (a1 : Int) : wp2 (k + 1) a0 a1 = j1 (R := Int) [0, 0, 1, 5] (run E (den E k) (lv 164) k (z2 Tryz.f164 0)) k (yy3 a0 (a1, 0)) (y9 E (den E k) (lv 164) k (za Tryz.f164) 0 [] (j9 E (rs 164) Tryz.f164 : Ex → St → Option (Int))) := by kernel_rfl
theorem elheldZoneS (k : Nat) (a0 : List I3) (a1 : Int) : wp2 (k + 1) a0 a1 = v02 k (fun (v0 : I2) (x1 : I3) => some (-1)) (fun (v0 : I2) (x1 : I3) (x2 : I3) => some (-1)) (fun (v0 : I2) (x1 : I3) (x2 : I3) (x3 : I3) => some (-1)) (fun (v0 : I2) => some v0.1) a0 k (a1, 0) := by
 rw [mlheldZoneS_0]
 simp only [llheldZoneS_0]
 kernel_rfl
noncomputable def FlheldSky (k : Nat) (a0 : TSky) (a1 : Int) : Option (Int) := den E k 80 [.agg (avs sSky a0), cI a1]
theorem elheldSky (k : Nat) (a0 : TSky) (a1 : Int) : FlheldSky (k + 1) a0 a1 = (ym3 k a0.2.1 a1).bind fun p1 => if (decide (p1 < 0)) = true then some (-1) else (wt2 k a0.2.2.1 p1).bind fun p2 => if (decide (p2 < 0)) = true then some (-1) else (wp2 k a0.2.2.2.2.2.2.2.2.1 p2).bind fun p3 => if (decide (p3 < 0)) = true then some (-1) else some p3 := by kernel_rfl
noncomputable def j12 (k : Nat) (a0 : List (Int × Int × List Int)) (a1 : Int) : Option (Int) := den E k 87 [.c (.l 120 z1 a0), cI a1]
abbrev xl : Type := (List (Int × Int × List Int))
abbrev zb : Type := Int × Int
def v13 (c0 : xl) (v0 : zb) : St := ⟨40, 0, [(0, .c (.l 120 z1 c0)), (1, cI v0.1), (5, cI v0.2)], []⟩
noncomputable def vx {R : Type} (k : Nat) (X0 : zb → (Int × Int × List Int) → Option R) (X1 : zb → (Int × Int × List Int) → (Int × Int × List Int) → Option R) (X2 : zb → (Int × Int × List Int) → (Int × Int × List Int) → (Int × Int × List Int) → Int → Option R) (X3 : zb → Option R) (c0 : xl) (rec : zb → Option R) (v0 : zb) : Option R := if (decide (v0.2 < (c0.length : Int))) = true then if 0 ≤ v0.2 then ix c0 v0.2.toNat fun x1 => if (x1.1 != v0.1) = true then X0 v0 x1 else if 0 ≤ v0.2 then ix c0 v0.2.toNat fun x2 => if (x2.2.1 != (IntKind.i64.wrap (v0.1 + 1))) = true then X1 v0 x1 x2 else if 0 ≤ v0.2 then ix c0 v0.2.toNat fun x3 => (zc1 k x3.2.2 (IntKind.i64.wrap ((IntKind.i64.wrap (v0.1 + 1)) + 1))).bind fun p4 => if (decide (p4 < 0)) = true then X2 v0 x1 x2 x3 p4 else rec (p4, (IntKind.i64.wrap (v0.2 + 1))) else none else none else none else X3 v0
noncomputable def jl1 {R : Type} (k : Nat) (X0 : zb → (Int × Int × List Int) → Option R) (X1 : zb → (Int × Int × List Int) → (Int × Int × List Int) → Option R) (X2 : zb → (Int × Int × List Int) → (Int × Int × List Int) → (Int × Int × List Int) → Int → Option R) (X3 : zb → Option R) (c : xl) : Nat → zb → Option R
 | 0, _ => none
 | n + 1, v => vx k X0 X1 X2 X3 c (jl1 k X0 X1 X2 X3 c n) v
def yj2 {R : Type} (K : Ex → St → Option R) (c0 : xl) (v0 : zb) (x1 : Int × Int × List Int) : Option R := K .ret ⟨40, 0, [(0, .c (.l 120 z1 c0)), (1, cI v0.1), (4, cI (-1)), (5, cI v0.2), (6, cI v0.2), (7, .c (.l 120 z1 c0)), (8, cI (c0.length : Int)), (9, cB (decide (v0.2 < (c0.length : Int)))), (12, .c (.l 120 z1 c0)), (13, cI v0.2), (14, .c (.at_ (avs z1 x1))), (15, .c (.at_ (avs z1 x1))), (16, cI x1.1), (17, cI v0.1), (18, cB (x1.1 != v0.1))], []⟩
def jj2 {R : Type} (K : Ex → St → Option R) (c0 : xl) (v0 : zb) (x1 : Int × Int × List Int) (x2 : Int × Int × List Int) : Option R := K .ret ⟨40, 0, [(0, .c (.l 120 z1 c0)), (1, cI (IntKind.i64.wrap (v0.1 + 1))), (4, cI (-1)), (5, cI v0.2), (6, cI v0.2), (7, .c (.l 120 z1 c0)), (8, cI (c0.length : Int)), (9, cB (decide (v0.2 < (c0.length : Int)))), (12, .c (.l 120 z1 c0)), (13, cI v0.2), (14, .c (.at_ (avs z1 x1))), (15, .c (.at_ (avs z1 x1))), (16, cI x1.1), (17, cI v0.1), (18, cB (x1.1 != v0.1)), (19, cI v0.1), (20, cI (IntKind.i64.wrap (v0.1 + 1))), (21, .c (.l 120 z1 c0)), (22, cI v0.2), (23, .c (.at_ (avs z1 x2))), (24, .c (.at_ [vI x2.2.1, .l 3 (.i .i64) x2.2.2])), (25, cI x2.2.1), (26, cI (IntKind.i64.wrap (v0.1 + 1))), (27, cB (x2.2.1 != (IntKind.i64.wrap (v0.1 + 1))))], []⟩
def jl2 {R : Type} (K : Ex → St → Option R) (c0 : xl) (v0 : zb) (x1 : Int × Int × List Int) (x2 : Int × Int × List Int) (x3 : Int × Int × List Int) (p4 : Int) : Option R := K .ret ⟨40, 0, [(0, .c (.l 120 z1 c0)), (1, cI p4), (4, cI (-1)), (5, cI v0.2), (6, cI v0.2), (7, .c (.l 120 z1 c0)), (8, cI (c0.length : Int)), (9, cB (decide (v0.2 < (c0.length : Int)))), (12, .c (.l 120 z1 c0)), (13, cI v0.2), (14, .c (.at_ (avs z1 x1))), (15, .c (.at_ (avs z1 x1))), (16, cI x1.1), (17, cI v0.1), (18, cB (x1.1 != v0.1)), (19, cI v0.1), (20, cI (IntKind.i64.wrap (v0.1 + 1))), (21, .c (.l 120 z1 c0)), (22, cI v0.2), (23, .c (.at_ (avs z1 x2))), (24, .c (.at_ [vI x2.2.1, .l 3 (.i .i64) x2.2.2])), (25, cI x2.2.1), (26, cI (IntKind.i64.wrap (v0.1 + 1))), (27, cB (x2.2.1 != (IntKind.i64.wrap (v0.1 + 1)))), (28, cI (IntKind.i64.wrap (v0.1 + 1))), (29, cI (IntKind.i64.wrap ((IntKind.i64.wrap (v0.1 + 1)) + 1))), (30, .c (.l 120 z1 c0)), (31, cI v0.2), (32, .c (.at_ (avs z1 x3))), (33, .c (.at_ [.l 3 (.i .i64) x3.2.2])), (34, .c (.l 3 (.i .i64) x3.2.2)), (35, cI (IntKind.i64.wrap ((IntKind.i64.wrap (v0.1 + 1)) + 1))), (36, cI p4), (37, cI p4), (38, cB (decide (p4 < 0)))], []⟩
def xh2 {R : Type} (K : Ex → St → Option R) (c0 : xl) (v0 : zb) : Option R := K (.exit 0) ⟨40, 0, [(0, .c (.l 120 z1 c0)), (1, cI v0.1), (5, cI v0.2), (6, cI v0.2), (7, .c (.l 120 z1 c0)), (8, cI (c0.length : Int)), (9, cB (decide (v0.2 < (c0.length : Int))))], []⟩
theorem llheldStreamS_0 {R : Type} (k : Nat) (K : Ex → St → Option R) (c0 : xl) : ∀ (n : Nat) (v : zb), j1 [0, 0, 1, 5] (run E (den E k) (lv 87) k (z2 Tryz.f87 0)) n (v13 c0 v) K = jl1 k (yj2 K c0) (jj2 K c0) (jl2 K c0) (xh2 K c0) c0 n v := j6 (B := vx k (yj2 K c0) (jj2 K c0) (jl2 K c0) (xh2 K c0) c0) (fun _ => rfl) (fun n v => by kernel_rfl) (fun _ => rfl) (fun _ _ => rfl)
theorem mlheldStreamS_0 (k : Nat) (a0 : List (Int × Int × List Int)) (a1 : Int) : j12 (k + 1) a0 a1 = j1 (R := Int) [0, 0, 1, 5] (run E (den E k) (lv 87) k (z2 Tryz.f87 0)) k (v13 a0 (a1, 0)) (y9 E (den E k) (lv 87) k (za Tryz.f87) 0 [] (j9 E (rs 87) Tryz.f87 : Ex → St → Option (Int))) := by kernel_rfl
theorem elheldStreamS (k : Nat) (a0 : List (Int × Int × List Int)) (a1 : Int) : j12 (k + 1) a0 a1 = jl1 k (fun (v0 : I2) (x1 : Int × Int × List Int) => some (-1)) (fun (v0 : I2) (x1 : Int × Int × List Int) (x2 : Int × Int × List Int) => some (-1)) (fun (v0 : I2) (x1 : Int × Int × List Int) (x2 : Int × Int × List Int) (x3 : Int × Int × List Int) (p4 : Int) => some (-1)) (fun (v0 : I2) => some v0.1) a0 k (a1, 0) := by
 rw [mlheldStreamS_0]
 simp only [llheldStreamS_0]
 kernel_rfl
noncomputable def vq2 (k : Nat) (a0 : wg) (a1 : Int) : Option (Int) := den E k 14 [.agg (avs xb a0), cI a1]
theorem elheldWorld (k : Nat) (a0 : wg) (a1 : Int) : vq2 (k + 1) a0 a1 = (FlheldSky k a0.1 a1).bind fun p1 => if (decide (p1 < 0)) = true then some (-1) else (yn2 k a0.2.1 p1).bind fun p2 => if (decide (p2 < 0)) = true then some (-1) else (FlheldLaw k a0.2.2.1 p2).bind fun p3 => if (decide (p3 < 0)) = true then some (-1) else (zc1 k a0.2.2.2.1 p3).bind fun p4 => if (decide (p4 < 0)) = true then some (-1) else (vt1 k a0.2.2.2.2.1 p4).bind fun p5 => if (decide (p5 < 0)) = true then some (-1) else (ya2 k a0.2.2.2.2.2.1 p5).bind fun p6 => if (decide (p6 < 0)) = true then some (-1) else (jo2 k a0.2.2.2.2.2.2.1 p6).bind fun p7 => if (decide (p7 < 0)) = true then some (-1) else (zc1 k a0.2.2.2.2.2.2.2.1 p7).bind fun p8 => if (decide (p8 < 0)) = true then some (-1) else (j12 k a0.2.2.2.2.2.2.2.2.1 p8).bind fun p9 => if (decide (p9 < 0)) = true then some (-1) else (vb2 k a0.2.2.2.2.2.2.2.2.2.1 p9).bind fun p10 => if (decide (p10 < 0)) = true then some (-1) else (xm1 k a0.2.2.2.2.2.2.2.2.2.2.2.2.1 p10).bind fun p11 => if (decide (p11 < 0)) = true then some (-1) else (xr2 k a0.2.2.2.2.2.2.2.2.2.2.2.2.2 p11).bind fun p12 => if (decide (p12 < 0)) = true then some (-1) else some p12 := by kernel_rfl
end Go.Proofs.YthnogjmaiffagaaGreat.World
