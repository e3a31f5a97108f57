/- The equations of the functions that a law reaches, part 1. No condition. -/
import Derived.Test.YtmkkoalilmgpcaaGreatV3
import Derived.Test.YtmkkoalilmgpcaaGreatProg
import Derived.KernelRfl
namespace Go.Proofs.YtmkkoalilmgpcaaGreat.World
open Go Go.V Go.Proofs
set_option linter.unusedVariables false
set_option linter.unusedSimpArgs false
set_option maxRecDepth 100000
set_option maxHeartbeats 4000000
abbrev T126 : Type := (Int × Int) × (List (Int × Int)) × List (Int × (List Int) × List Int)
abbrev T193 : Type := (Int × Int) × (List (Int × Int)) × List (Int × (List Int) × List Int)
abbrev T50 : Type := Int × Int × Int × List T193
abbrev T28 : Type := Int × Int × Int × List T193
abbrev T47 : Type := Int × (List (Int × Int × Int × Int)) × (List (Int × Int × Int)) × Int × Int × Int × Int × Int × (List (Int × Int × Int)) × Int
abbrev T25 : Type := Int × (List (Int × Int × Int × Int)) × (List (Int × Int × Int)) × Int × Int × Int × Int × Int × (List (Int × Int × Int)) × Int
abbrev T60 : Type := T25 × T28 × (List Int) × (List Int) × (List (Int × Int × Int × Int × Int × Int)) × (List (List (Int × Int × Int × Int × Int × Int))) × (List (Int × Int × Int × Int)) × (List Int) × (List (Int × Int × List Int)) × (List (Int × Int × Int × Int)) × Int × Int × (List (Int × Int × Int × Int × Int × Int)) × List (Int × Int × Int × Int)
abbrev T40 : Type := T25 × T28 × (List Int) × (List Int) × (List (Int × Int × Int × Int × Int × Int)) × (List (List (Int × Int × Int × Int × Int × Int))) × (List (Int × Int × Int × Int)) × (List Int) × (List (Int × Int × List Int)) × (List (Int × Int × Int × Int)) × Int × Int × (List (Int × Int × Int × Int × Int × Int)) × List (Int × Int × Int × Int)
abbrev s83 : Sh := (.a [(.i .i64), (.i .i64), (.i .i64), (.i .i64)])
abbrev s114 : Sh := (.a [(.i .i64), (.i .i64), (.i .i64)])
abbrev s117 : Sh := (.a [(.i .i64), (.i .i64)])
abbrev s119 : Sh := (.a [(.i .i64), s117])
abbrev s25 : Sh := (.a [(.i .i64), (.l 196 s83), (.l 198 s114), (.i .i64), (.i .i64), (.i .i64), (.i .i64), (.i .i64), (.l 202 s119), (.i .i64)])
abbrev s132 : Sh := (.a [(.i .i64), (.l 3 (.i .i64)), (.l 3 (.i .i64))])
abbrev s193 : Sh := (.a [s117, (.l 230 s117), (.l 228 s132)])
abbrev s28 : Sh := (.a [(.i .i64), (.i .i64), (.i .i64), (.l 194 s193)])
abbrev s31 : Sh := (.a [(.l 3 (.i .i64))])
abbrev s78 : Sh := (.a [(.i .i64), (.i .i64), (.i .i64), (.i .i64), (.i .i64), (.i .i64)])
abbrev s153 : Sh := (.a [(.l 173 s78)])
abbrev s143 : Sh := (.a [(.i .i64), (.i .i64), (.l 3 (.i .i64))])
abbrev s40 : Sh := (.a [s25, s28, s31, (.l 3 (.i .i64)), (.l 165 s78), (.l 154 s153), (.l 168 s83), (.l 3 (.i .i64)), (.l 156 s143), (.l 171 s83), (.i .i64), (.i .i64), (.l 173 s78), (.l 175 s83)])
abbrev s47 : Sh := (.a [(.i .i64), (.l 112 s83), (.l 115 s114), (.i .i64), (.i .i64), (.i .i64), (.i .i64), (.i .i64), (.l 120 s119), (.i .i64)])
abbrev s126 : Sh := (.a [s117, (.l 130 s117), (.l 133 s132)])
abbrev s50 : Sh := (.a [(.i .i64), (.i .i64), (.i .i64), (.l 127 s126)])
abbrev s80 : Sh := (.a [(.l 79 s78)])
abbrev s60 : Sh := (.a [s47, s50, s31, (.l 3 (.i .i64)), (.l 139 s78), (.l 81 s80), (.l 141 s83), (.l 3 (.i .i64)), (.l 144 s143), (.l 147 s83), (.i .i64), (.i .i64), (.l 79 s78), (.l 84 s83)])
noncomputable def ty : Nat → Option TyI
  | 3 => some ⟨.one, 1, 8, [(.int .i64 0)], (.i .i64)⟩
  | 4 => some ⟨.one, 1, 1, [(.bool false)], .b⟩
  | 22 => some ⟨.slc 196, 1, 24, [(.slice none 0 0)], (.l 196 s83)⟩
  | 23 => some ⟨.slc 198, 1, 24, [(.slice none 0 0)], (.l 198 s114)⟩
  | 24 => some ⟨.slc 202, 1, 24, [(.slice none 0 0)], (.l 202 s119)⟩
  | 26 => some ⟨.agg [(0, 3), (1, 22), (2, 23), (3, 3), (4, 3), (5, 3), (6, 3), (7, 3), (8, 24), (9, 3)], 10, 128, [(.int .i64 0), (.slice none 0 0), (.slice none 0 0), (.int .i64 0), (.int .i64 0), (.int .i64 0), (.int .i64 0), (.int .i64 0), (.slice none 0 0), (.int .i64 0)], s25⟩
  | 27 => some ⟨.slc 194, 1, 24, [(.slice none 0 0)], (.l 194 s193)⟩
  | 29 => some ⟨.agg [(0, 3), (1, 3), (2, 3), (3, 27)], 4, 48, [(.int .i64 0), (.int .i64 0), (.int .i64 0), (.slice none 0 0)], s28⟩
  | 30 => some ⟨.slc 3, 1, 24, [(.slice none 0 0)], (.l 3 (.i .i64))⟩
  | 32 => some ⟨.agg [(0, 30)], 1, 24, [(.slice none 0 0)], s31⟩
  | 33 => some ⟨.slc 165, 1, 24, [(.slice none 0 0)], (.l 165 s78)⟩
  | 34 => some ⟨.slc 154, 1, 24, [(.slice none 0 0)], (.l 154 s153)⟩
  | 35 => some ⟨.slc 168, 1, 24, [(.slice none 0 0)], (.l 168 s83)⟩
  | 36 => some ⟨.slc 156, 1, 24, [(.slice none 0 0)], (.l 156 s143)⟩
  | 37 => some ⟨.slc 171, 1, 24, [(.slice none 0 0)], (.l 171 s83)⟩
  | 38 => some ⟨.slc 173, 1, 24, [(.slice none 0 0)], (.l 173 s78)⟩
  | 39 => some ⟨.slc 175, 1, 24, [(.slice none 0 0)], (.l 175 s83)⟩
  | 41 => some ⟨.agg [(0, 26), (10, 29), (14, 32), (15, 30), (16, 33), (17, 34), (18, 35), (19, 30), (20, 36), (21, 37), (22, 3), (23, 3), (24, 38), (25, 39)], 26, 432, [(.int .i64 0), (.slice none 0 0), (.slice none 0 0), (.int .i64 0), (.int .i64 0), (.int .i64 0), (.int .i64 0), (.int .i64 0), (.slice none 0 0), (.int .i64 0), (.int .i64 0), (.int .i64 0), (.int .i64 0), (.slice none 0 0), (.slice none 0 0), (.slice none 0 0), (.slice none 0 0), (.slice none 0 0), (.slice none 0 0), (.slice none 0 0), (.slice none 0 0), (.slice none 0 0), (.int .i64 0), (.int .i64 0), (.slice none 0 0), (.slice none 0 0)], s40⟩
  | 44 => some ⟨.slc 112, 1, 24, [(.slice none 0 0)], (.l 112 s83)⟩
  | 45 => some ⟨.slc 115, 1, 24, [(.slice none 0 0)], (.l 115 s114)⟩
  | 46 => some ⟨.slc 120, 1, 24, [(.slice none 0 0)], (.l 120 s119)⟩
  | 48 => some ⟨.agg [(0, 3), (1, 44), (2, 45), (3, 3), (4, 3), (5, 3), (6, 3), (7, 3), (8, 46), (9, 3)], 10, 128, [(.int .i64 0), (.slice none 0 0), (.slice none 0 0), (.int .i64 0), (.int .i64 0), (.int .i64 0), (.int .i64 0), (.int .i64 0), (.slice none 0 0), (.int .i64 0)], s47⟩
  | 49 => some ⟨.slc 127, 1, 24, [(.slice none 0 0)], (.l 127 s126)⟩
  | 51 => some ⟨.agg [(0, 3), (1, 3), (2, 3), (3, 49)], 4, 48, [(.int .i64 0), (.int .i64 0), (.int .i64 0), (.slice none 0 0)], s50⟩
  | 52 => some ⟨.agg [(0, 30)], 1, 24, [(.slice none 0 0)], s31⟩
  | 53 => some ⟨.slc 139, 1, 24, [(.slice none 0 0)], (.l 139 s78)⟩
  | 54 => some ⟨.slc 81, 1, 24, [(.slice none 0 0)], (.l 81 s80)⟩
  | 55 => some ⟨.slc 141, 1, 24, [(.slice none 0 0)], (.l 141 s83)⟩
  | 56 => some ⟨.slc 144, 1, 24, [(.slice none 0 0)], (.l 144 s143)⟩
  | 57 => some ⟨.slc 147, 1, 24, [(.slice none 0 0)], (.l 147 s83)⟩
  | 58 => some ⟨.slc 79, 1, 24, [(.slice none 0 0)], (.l 79 s78)⟩
  | 59 => some ⟨.slc 84, 1, 24, [(.slice none 0 0)], (.l 84 s83)⟩
  | 61 => some ⟨.agg [(0, 48), (10, 51), (14, 52), (15, 30), (16, 53), (17, 54), (18, 55), (19, 30), (20, 56), (21, 57), (22, 3), (23, 3), (24, 58), (25, 59)], 26, 432, [(.int .i64 0), (.slice none 0 0), (.slice none 0 0), (.int .i64 0), (.int .i64 0), (.int .i64 0), (.int .i64 0), (.int .i64 0), (.slice none 0 0), (.int .i64 0), (.int .i64 0), (.int .i64 0), (.int .i64 0), (.slice none 0 0), (.slice none 0 0), (.slice none 0 0), (.slice none 0 0), (.slice none 0 0), (.slice none 0 0), (.slice none 0 0), (.slice none 0 0), (.slice none 0 0), (.int .i64 0), (.int .i64 0), (.slice none 0 0), (.slice none 0 0)], s60⟩
  | 79 => some ⟨.agg [(0, 3), (1, 3), (2, 3), (3, 3), (4, 3), (5, 3)], 6, 48, [(.int .i64 0), (.int .i64 0), (.int .i64 0), (.int .i64 0), (.int .i64 0), (.int .i64 0)], s78⟩
  | 81 => some ⟨.agg [(0, 58)], 1, 24, [(.slice none 0 0)], s80⟩
  | 84 => some ⟨.agg [(0, 3), (1, 3), (2, 3), (3, 3)], 4, 32, [(.int .i64 0), (.int .i64 0), (.int .i64 0), (.int .i64 0)], s83⟩
  | 112 => some ⟨.agg [(0, 3), (1, 3), (2, 3), (3, 3)], 4, 32, [(.int .i64 0), (.int .i64 0), (.int .i64 0), (.int .i64 0)], s83⟩
  | 115 => some ⟨.agg [(0, 3), (1, 3), (2, 3)], 3, 24, [(.int .i64 0), (.int .i64 0), (.int .i64 0)], s114⟩
  | 118 => some ⟨.agg [(0, 3), (1, 3)], 2, 16, [(.int .i64 0), (.int .i64 0)], s117⟩
  | 120 => some ⟨.agg [(0, 3), (1, 118)], 3, 24, [(.int .i64 0), (.int .i64 0), (.int .i64 0)], s119⟩
  | 123 => some ⟨.agg [(0, 3), (1, 3)], 2, 16, [(.int .i64 0), (.int .i64 0)], s117⟩
  | 124 => some ⟨.slc 130, 1, 24, [(.slice none 0 0)], (.l 130 s117)⟩
  | 125 => some ⟨.slc 133, 1, 24, [(.slice none 0 0)], (.l 133 s132)⟩
  | 127 => some ⟨.agg [(0, 123), (2, 124), (3, 125)], 4, 64, [(.int .i64 0), (.int .i64 0), (.slice none 0 0), (.slice none 0 0)], s126⟩
  | 130 => some ⟨.agg [(0, 3), (1, 3)], 2, 16, [(.int .i64 0), (.int .i64 0)], s117⟩
  | 133 => some ⟨.agg [(0, 3), (1, 30), (2, 30)], 3, 56, [(.int .i64 0), (.slice none 0 0), (.slice none 0 0)], s132⟩
  | 139 => some ⟨.agg [(0, 3), (1, 3), (2, 3), (3, 3), (4, 3), (5, 3)], 6, 48, [(.int .i64 0), (.int .i64 0), (.int .i64 0), (.int .i64 0), (.int .i64 0), (.int .i64 0)], s78⟩
  | 141 => some ⟨.agg [(0, 3), (1, 3), (2, 3), (3, 3)], 4, 32, [(.int .i64 0), (.int .i64 0), (.int .i64 0), (.int .i64 0)], s83⟩
  | 144 => some ⟨.agg [(0, 3), (1, 3), (2, 30)], 3, 40, [(.int .i64 0), (.int .i64 0), (.slice none 0 0)], s143⟩
  | 147 => some ⟨.agg [(0, 3), (1, 3), (2, 3), (3, 3)], 4, 32, [(.int .i64 0), (.int .i64 0), (.int .i64 0), (.int .i64 0)], s83⟩
  | 154 => some ⟨.agg [(0, 38)], 1, 24, [(.slice none 0 0)], s153⟩
  | 156 => some ⟨.agg [(0, 3), (1, 3), (2, 30)], 3, 40, [(.int .i64 0), (.int .i64 0), (.slice none 0 0)], s143⟩
  | 165 => some ⟨.agg [(0, 3), (1, 3), (2, 3), (3, 3), (4, 3), (5, 3)], 6, 48, [(.int .i64 0), (.int .i64 0), (.int .i64 0), (.int .i64 0), (.int .i64 0), (.int .i64 0)], s78⟩
  | 168 => some ⟨.agg [(0, 3), (1, 3), (2, 3), (3, 3)], 4, 32, [(.int .i64 0), (.int .i64 0), (.int .i64 0), (.int .i64 0)], s83⟩
  | 171 => some ⟨.agg [(0, 3), (1, 3), (2, 3), (3, 3)], 4, 32, [(.int .i64 0), (.int .i64 0), (.int .i64 0), (.int .i64 0)], s83⟩
  | 173 => some ⟨.agg [(0, 3), (1, 3), (2, 3), (3, 3), (4, 3), (5, 3)], 6, 48, [(.int .i64 0), (.int .i64 0), (.int .i64 0), (.int .i64 0), (.int .i64 0), (.int .i64 0)], s78⟩
  | 175 => some ⟨.agg [(0, 3), (1, 3), (2, 3), (3, 3)], 4, 32, [(.int .i64 0), (.int .i64 0), (.int .i64 0), (.int .i64 0)], s83⟩
  | 190 => some ⟨.agg [(0, 3), (1, 3)], 2, 16, [(.int .i64 0), (.int .i64 0)], s117⟩
  | 191 => some ⟨.slc 230, 1, 24, [(.slice none 0 0)], (.l 230 s117)⟩
  | 192 => some ⟨.slc 228, 1, 24, [(.slice none 0 0)], (.l 228 s132)⟩
  | 194 => some ⟨.agg [(0, 190), (2, 191), (3, 192)], 4, 64, [(.int .i64 0), (.int .i64 0), (.slice none 0 0), (.slice none 0 0)], s193⟩
  | 196 => some ⟨.agg [(0, 3), (1, 3), (2, 3), (3, 3)], 4, 32, [(.int .i64 0), (.int .i64 0), (.int .i64 0), (.int .i64 0)], s83⟩
  | 198 => some ⟨.agg [(0, 3), (1, 3), (2, 3)], 3, 24, [(.int .i64 0), (.int .i64 0), (.int .i64 0)], s114⟩
  | 200 => some ⟨.agg [(0, 3), (1, 3)], 2, 16, [(.int .i64 0), (.int .i64 0)], s117⟩
  | 202 => some ⟨.agg [(0, 3), (1, 200)], 3, 24, [(.int .i64 0), (.int .i64 0), (.int .i64 0)], s119⟩
  | 228 => some ⟨.agg [(0, 3), (1, 30), (2, 30)], 3, 56, [(.int .i64 0), (.slice none 0 0), (.slice none 0 0)], s132⟩
  | 230 => some ⟨.agg [(0, 3), (1, 3)], 2, 16, [(.int .i64 0), (.int .i64 0)], s117⟩
  | _ => none
noncomputable def fn : Nat → Option Func
  | 3 => some Tryz.f3
  | 4 => some Tryz.f4
  | 5 => some Tryz.f5
  | 7 => some Tryz.f7
  | 8 => some Tryz.f8
  | 9 => some Tryz.f9
  | 10 => some Tryz.f10
  | 11 => some Tryz.f11
  | 12 => some Tryz.f12
  | 13 => some Tryz.f13
  | 14 => some Tryz.f14
  | 15 => some Tryz.f15
  | 18 => some Tryz.f18
  | 19 => some Tryz.f19
  | 20 => some Tryz.f20
  | 21 => some Tryz.f21
  | 22 => some Tryz.f22
  | 23 => some Tryz.f23
  | 24 => some Tryz.f24
  | 25 => some Tryz.f25
  | 26 => some Tryz.f26
  | 27 => some Tryz.f27
  | 28 => some Tryz.f28
  | 29 => some Tryz.f29
  | 30 => some Tryz.f30
  | 31 => some Tryz.f31
  | 32 => some Tryz.f32
  | 33 => some Tryz.f33
  | 34 => some Tryz.f34
  | 35 => some Tryz.f35
  | 36 => some Tryz.f36
  | 37 => some Tryz.f37
  | 38 => some Tryz.f38
  | 39 => some Tryz.f39
  | 40 => some Tryz.f40
  | 41 => some Tryz.f41
  | 42 => some Tryz.f42
  | 43 => some Tryz.f43
  | 44 => some Tryz.f44
  | 45 => some Tryz.f45
  | 46 => some Tryz.f46
  | 47 => some Tryz.f47
  | 48 => some Tryz.f48
  | 49 => some Tryz.f49
  | 50 => some Tryz.f50
  | 51 => some Tryz.f51
  | 52 => some Tryz.f52
  | 53 => some Tryz.f53
  | 54 => some Tryz.f54
  | 55 => some Tryz.f55
  | 56 => some Tryz.f56
  | 57 => some Tryz.f57
  | 58 => some Tryz.f58
  | 59 => some Tryz.f59
  | 60 => some Tryz.f60
  | 84 => some Tryz.f84
  | 85 => some Tryz.f85
  | 86 => some Tryz.f86
  | 87 => some Tryz.f87
  | 88 => some Tryz.f88
  | 89 => some Tryz.f89
  | 90 => some Tryz.f90
  | 91 => some Tryz.f91
  | 92 => some Tryz.f92
  | 93 => some Tryz.f93
  | 94 => some Tryz.f94
  | 95 => some Tryz.f95
  | 96 => some Tryz.f96
  | 97 => some Tryz.f97
  | 98 => some Tryz.f98
  | 99 => some Tryz.f99
  | 100 => some Tryz.f100
  | 101 => some Tryz.f101
  | 102 => some Tryz.f102
  | 103 => some Tryz.f103
  | 104 => some Tryz.f104
  | 105 => some Tryz.f105
  | 106 => some Tryz.f106
  | 107 => some Tryz.f107
  | 108 => some Tryz.f108
  | 109 => some Tryz.f109
  | 110 => some Tryz.f110
  | 111 => some Tryz.f111
  | 112 => some Tryz.f112
  | 113 => some Tryz.f113
  | 114 => some Tryz.f114
  | 115 => some Tryz.f115
  | 116 => some Tryz.f116
  | 117 => some Tryz.f117
  | 118 => some Tryz.f118
  | 119 => some Tryz.f119
  | 120 => some Tryz.f120
  | 121 => some Tryz.f121
  | 122 => some Tryz.f122
  | 123 => some Tryz.f123
  | 124 => some Tryz.f124
  | 125 => some Tryz.f125
  | 126 => some Tryz.f126
  | 127 => some Tryz.f127
  | 128 => some Tryz.f128
  | 129 => some Tryz.f129
  | 130 => some Tryz.f130
  | 131 => some Tryz.f131
  | 135 => some Tryz.f135
  | 136 => some Tryz.f136
  | 137 => some Tryz.f137
  | 138 => some Tryz.f138
  | 139 => some Tryz.f139
  | 140 => some Tryz.f140
  | 141 => some Tryz.f141
  | 142 => some Tryz.f142
  | 143 => some Tryz.f143
  | 144 => some Tryz.f144
  | 145 => some Tryz.f145
  | 146 => some Tryz.f146
  | 147 => some Tryz.f147
  | 148 => some Tryz.f148
  | 149 => some Tryz.f149
  | 150 => some Tryz.f150
  | 151 => some Tryz.f151
  | 152 => some Tryz.f152
  | 153 => some Tryz.f153
  | 154 => some Tryz.f154
  | 155 => some Tryz.f155
  | 156 => some Tryz.f156
  | 157 => some Tryz.f157
  | 158 => some Tryz.f158
  | 159 => some Tryz.f159
  | 160 => some Tryz.f160
  | 161 => some Tryz.f161
  | 162 => some Tryz.f162
  | 163 => some Tryz.f163
  | 164 => some Tryz.f164
  | 165 => some Tryz.f165
  | 166 => some Tryz.f166
  | 167 => some Tryz.f167
  | 168 => some Tryz.f168
  | 169 => some Tryz.f169
  | 170 => some Tryz.f170
  | 171 => some Tryz.f171
  | 172 => some Tryz.f172
  | 173 => some Tryz.f173
  | 174 => some Tryz.f174
  | 175 => some Tryz.f175
  | 176 => some Tryz.f176
  | 177 => some Tryz.f177
  | 178 => some Tryz.f178
  | 179 => some Tryz.f179
  | 180 => some Tryz.f180
  | 181 => some Tryz.f181
  | 182 => some Tryz.f182
  | 183 => some Tryz.f183
  | _ => none
def lv : Nat → List Nat
  | 8 => [1, 3, 4, 5, 6]
  | 10 => [1, 5, 12, 13, 14, 28, 29, 30, 36, 37, 38, 55, 56, 57]
  | 12 => [1, 3]
  | 13 => [1, 6, 7, 8]
  | 14 => [1, 3]
  | 15 => [1, 6, 7, 8]
  | 23 => [0, 1, 5]
  | 25 => [0, 1, 5]
  | 34 => [0, 3, 4]
  | 35 => [0, 3, 4]
  | 36 => [0, 3, 4]
  | 37 => [0, 3, 4]
  | 38 => [0, 3, 4]
  | 39 => [0, 3, 4]
  | 40 => [0, 3, 4]
  | 41 => [0, 3, 4]
  | 47 => [0, 1, 5]
  | 48 => [0, 1, 5]
  | 49 => [0, 1, 5]
  | 50 => [0, 1, 5]
  | 51 => [0, 1, 5]
  | 52 => [0, 1, 5]
  | 53 => [0, 1, 5]
  | 54 => [0, 1, 5]
  | 56 => [0, 1, 2, 3, 9]
  | 58 => [0, 1, 2, 3, 11, 12, 13]
  | 59 => [1, 2, 3, 7]
  | 60 => [1, 3, 7, 19, 20, 21]
  | 87 => [0, 1, 5]
  | 90 => [0, 1, 5]
  | 93 => [0, 3, 4]
  | 94 => [0, 3, 4]
  | 95 => [0, 3, 4]
  | 96 => [0, 3, 4]
  | 108 => [0, 1, 5]
  | 109 => [0, 1, 5]
  | 110 => [0, 1, 5]
  | 111 => [0, 1, 5]
  | 119 => [2, 3, 9, 10]
  | 120 => [1, 2, 5]
  | 122 => [0, 1, 2, 7]
  | 126 => [1, 2, 9, 10, 11]
  | 131 => [2, 3, 6]
  | 140 => [0, 1, 7, 8]
  | 148 => [0, 1, 7, 8]
  | 158 => [0, 1, 5]
  | 161 => [0, 3, 4]
  | 162 => [0, 3, 4]
  | 165 => [0, 1, 5]
  | 166 => [0, 1, 5]
  | 168 => [0, 1, 7, 8]
  | _ => []
def rs : Nat → RSh
  | 3 => ⟨false, [.b]⟩
  | 4 => ⟨false, [.b]⟩
  | 5 => ⟨false, [.b]⟩
  | 7 => ⟨false, [(.i .i64)]⟩
  | 8 => ⟨false, [.b]⟩
  | 9 => ⟨true, [s60]⟩
  | 10 => ⟨false, [.b]⟩
  | 11 => ⟨false, [.b]⟩
  | 12 => ⟨false, [.b]⟩
  | 13 => ⟨false, [.b]⟩
  | 14 => ⟨false, [.b]⟩
  | 15 => ⟨false, [.b]⟩
  | 18 => ⟨false, [(.i .i64)]⟩
  | 19 => ⟨false, [(.i .i64)]⟩
  | 20 => ⟨false, [(.i .i64)]⟩
  | 21 => ⟨false, [(.i .i64)]⟩
  | 22 => ⟨false, [(.i .i64)]⟩
  | 23 => ⟨false, [(.i .i64)]⟩
  | 24 => ⟨false, [(.i .i64)]⟩
  | 25 => ⟨false, [(.i .i64)]⟩
  | 26 => ⟨false, [(.i .i64)]⟩
  | 27 => ⟨false, [(.i .i64)]⟩
  | 28 => ⟨false, [(.i .i64)]⟩
  | 29 => ⟨false, [.b]⟩
  | 30 => ⟨false, [.b]⟩
  | 31 => ⟨true, [s47]⟩
  | 32 => ⟨true, [s50]⟩
  | 33 => ⟨true, [s31]⟩
  | 34 => ⟨true, [(.l 3 (.i .i64))]⟩
  | 35 => ⟨true, [(.l 139 s78)]⟩
  | 36 => ⟨true, [(.l 81 s80)]⟩
  | 37 => ⟨true, [(.l 141 s83)]⟩
  | 38 => ⟨true, [(.l 144 s143)]⟩
  | 39 => ⟨true, [(.l 147 s83)]⟩
  | 40 => ⟨true, [(.l 79 s78)]⟩
  | 41 => ⟨true, [(.l 84 s83)]⟩
  | 42 => ⟨false, [.b]⟩
  | 43 => ⟨false, [.b]⟩
  | 44 => ⟨false, [.b]⟩
  | 45 => ⟨false, [.b]⟩
  | 46 => ⟨false, [.b]⟩
  | 47 => ⟨false, [.b]⟩
  | 48 => ⟨false, [.b]⟩
  | 49 => ⟨false, [.b]⟩
  | 50 => ⟨false, [.b]⟩
  | 51 => ⟨false, [.b]⟩
  | 52 => ⟨false, [.b]⟩
  | 53 => ⟨false, [.b]⟩
  | 54 => ⟨false, [.b]⟩
  | 55 => ⟨false, [.b]⟩
  | 56 => ⟨false, [.b]⟩
  | 57 => ⟨false, [.b]⟩
  | 58 => ⟨false, [.b]⟩
  | 59 => ⟨false, [.b]⟩
  | 60 => ⟨false, [.b]⟩
  | 84 => ⟨false, [(.i .i64)]⟩
  | 85 => ⟨false, [(.i .i64)]⟩
  | 86 => ⟨false, [(.i .i64)]⟩
  | 87 => ⟨false, [(.i .i64)]⟩
  | 88 => ⟨false, [(.i .i64)]⟩
  | 89 => ⟨false, [(.i .i64)]⟩
  | 90 => ⟨false, [.b]⟩
  | 91 => ⟨false, [.b]⟩
  | 92 => ⟨false, [(.i .i64)]⟩
  | 93 => ⟨true, [(.l 112 s83)]⟩
  | 94 => ⟨true, [(.l 115 s114)]⟩
  | 95 => ⟨true, [(.l 120 s119)]⟩
  | 96 => ⟨true, [(.l 127 s126)]⟩
  | 97 => ⟨false, [s78]⟩
  | 98 => ⟨true, [s80]⟩
  | 99 => ⟨false, [s83]⟩
  | 100 => ⟨true, [s143]⟩
  | 101 => ⟨false, [s83]⟩
  | 102 => ⟨false, [s78]⟩
  | 103 => ⟨false, [s83]⟩
  | 104 => ⟨false, [.b]⟩
  | 105 => ⟨false, [.b]⟩
  | 106 => ⟨false, [.b]⟩
  | 107 => ⟨false, [(.i .i64)]⟩
  | 108 => ⟨false, [.b]⟩
  | 109 => ⟨false, [.b]⟩
  | 110 => ⟨false, [.b]⟩
  | 111 => ⟨false, [.b]⟩
  | 112 => ⟨false, [.b]⟩
  | 113 => ⟨false, [.b]⟩
  | 114 => ⟨false, [.b]⟩
  | 115 => ⟨false, [.b]⟩
  | 116 => ⟨false, [.b]⟩
  | 117 => ⟨false, [.b]⟩
  | 118 => ⟨false, [.b]⟩
  | 119 => ⟨false, [.b]⟩
  | 120 => ⟨false, [(.i .i64)]⟩
  | 121 => ⟨false, [.b]⟩
  | 122 => ⟨false, [.b]⟩
  | 123 => ⟨false, [.b]⟩
  | 124 => ⟨false, [(.i .i64)]⟩
  | 125 => ⟨false, [.b]⟩
  | 126 => ⟨false, [.b]⟩
  | 127 => ⟨false, [.b]⟩
  | 128 => ⟨false, [s117]⟩
  | 129 => ⟨false, [.b]⟩
  | 130 => ⟨false, [s117]⟩
  | 131 => ⟨false, [.b]⟩
  | 135 => ⟨false, [(.i .i64)]⟩
  | 136 => ⟨false, [s83]⟩
  | 137 => ⟨false, [s114]⟩
  | 138 => ⟨false, [s119]⟩
  | 139 => ⟨true, [s126]⟩
  | 140 => ⟨false, [(.i .i64)]⟩
  | 141 => ⟨false, [.b]⟩
  | 142 => ⟨false, [.b]⟩
  | 143 => ⟨false, [.b]⟩
  | 144 => ⟨false, [.b]⟩
  | 145 => ⟨false, [.b]⟩
  | 146 => ⟨false, [.b]⟩
  | 147 => ⟨false, [.b]⟩
  | 148 => ⟨false, [(.i .i64)]⟩
  | 149 => ⟨false, [.b]⟩
  | 150 => ⟨false, [.b]⟩
  | 151 => ⟨false, [.b]⟩
  | 152 => ⟨false, [s117]⟩
  | 153 => ⟨false, [(.i .i64)]⟩
  | 154 => ⟨false, [s117]⟩
  | 155 => ⟨false, [(.i .i64)]⟩
  | 156 => ⟨false, [.b]⟩
  | 157 => ⟨false, [(.i .i64)]⟩
  | 158 => ⟨false, [(.i .i64)]⟩
  | 159 => ⟨false, [s117]⟩
  | 160 => ⟨false, [s117]⟩
  | 161 => ⟨true, [(.l 130 s117)]⟩
  | 162 => ⟨true, [(.l 133 s132)]⟩
  | 163 => ⟨false, [.b]⟩
  | 164 => ⟨false, [.b]⟩
  | 165 => ⟨false, [.b]⟩
  | 166 => ⟨false, [.b]⟩
  | 167 => ⟨false, [.b]⟩
  | 168 => ⟨false, [(.i .i64)]⟩
  | 169 => ⟨false, [(.i .i64)]⟩
  | 170 => ⟨false, [s117]⟩
  | 171 => ⟨false, [(.i .i64)]⟩
  | 172 => ⟨false, [s117]⟩
  | 173 => ⟨false, [(.i .i64)]⟩
  | 174 => ⟨false, [(.i .i64)]⟩
  | 175 => ⟨false, [(.i .i64)]⟩
  | 176 => ⟨false, [s117]⟩
  | 177 => ⟨true, [s132]⟩
  | 178 => ⟨false, [.b]⟩
  | 179 => ⟨false, [.b]⟩
  | 180 => ⟨false, [(.i .i64)]⟩
  | 181 => ⟨false, [(.i .i64)]⟩
  | 182 => ⟨false, [.b]⟩
  | 183 => ⟨false, [(.i .i64)]⟩
  | _ => ⟨false, []⟩
noncomputable def E : Env := { P := Tryz.prog, fn := fn, ty := ty, lv := lv, rs := rs, ext := fun _ => none }
/-! loop.example/g00599/impl.isIndex -/
noncomputable def F104 (k : Nat) (a0 : Int) (a1 : Int) : Option (Bool) := den E k 104 [.c (.v (.int .i64 a0)), .c (.v (.int .i64 a1))]
theorem e104 (k : Nat) (a0 : Int) (a1 : Int) : F104 (k + 1) a0 a1 = if ((decide (a0 ≥ 0)) == true) = true then some (decide (a0 < a1)) else some false := by kernel_rfl
/-! slices.Index[[]int,int] -/
noncomputable def F140 (k : Nat) (a0 : List Int) (a1 : Int) : Option (Int) := den E k 140 [.c (.l 3 (.i .i64) a0), .c (.v (.int .i64 a1))]
abbrev C140_0 : Type := (List Int) × Int × Int
abbrev V140_0 : Type := Int
def St140_0 (c0 : C140_0) (v0 : V140_0) : St := ⟨19, 0, [(0, .c (.l 3 (.i .i64) c0.1)), (1, .c (.v (.int .i64 c0.2.1))), (7, .c (.v (.int .i64 c0.2.2))), (8, .c (.v (.int .i64 v0)))], []⟩
noncomputable def B140_0 {R : Type} (k : Nat) (X0 : V140_0 → Int → Option R) (X1 : V140_0 → Option R) (c0 : C140_0) (rec : V140_0 → Option R) (v0 : V140_0) : Option R := if (decide (v0 < c0.2.2)) = true then if 0 ≤ v0 then ix c0.1 v0.toNat fun x1 => if (c0.2.1 == x1) = true then X0 v0 x1 else rec (IntKind.i64.wrap (v0 + 1)) else none else X1 v0
noncomputable def L140_0 {R : Type} (k : Nat) (X0 : V140_0 → Int → Option R) (X1 : V140_0 → Option R) (c : C140_0) : Nat → V140_0 → Option R
  | 0, _ => none
  | n + 1, v => B140_0 k X0 X1 c (L140_0 k X0 X1 c n) v
theorem b140_0 {R : Type} (k n : Nat) (K : Ex → St → Option R) (c0 : C140_0) (v : V140_0) : loopRun [0, 1, 7, 8] (run E (den E k) (lv 140) k (nthLoop Tryz.f140 0)) (n + 1) (St140_0 c0 v) K = B140_0 k (fun (v0 : V140_0) (x1 : Int) => K .ret ⟨19, 0, [(0, .c (.l 3 (.i .i64) c0.1)), (1, .c (.v (.int .i64 c0.2.1))), (4, .c (.v (.int .i64 v0))), (5, .c (.v (.int .i64 v0))), (7, .c (.v (.int .i64 c0.2.2))), (8, .c (.v (.int .i64 v0))), (9, .c (.v (.bool (decide (v0 < c0.2.2))))), (10, .c (.v (.int .i64 v0))), (11, .c (.v (.int .i64 c0.2.1))), (12, .c (.l 3 (.i .i64) c0.1)), (13, .c (.v (.int .i64 v0))), (14, .c (.at_ [.v (.int .i64 x1)])), (15, .c (.v (.int .i64 x1))), (16, .c (.v (.bool (c0.2.1 == x1)))), (17, .c (.v (.int .i64 v0)))], []⟩) (fun (v0 : V140_0) => K (.exit 0) ⟨19, 0, [(0, .c (.l 3 (.i .i64) c0.1)), (1, .c (.v (.int .i64 c0.2.1))), (7, .c (.v (.int .i64 c0.2.2))), (8, .c (.v (.int .i64 v0))), (9, .c (.v (.bool (decide (v0 < c0.2.2)))))], []⟩) c0 (fun v => loopRun [0, 1, 7, 8] (run E (den E k) (lv 140) k (nthLoop Tryz.f140 0)) n (St140_0 c0 v) K) v := by kernel_rfl
theorem l140_0 {R : Type} (k : Nat) (K : Ex → St → Option R) (c0 : C140_0) : ∀ (n : Nat) (v : V140_0), loopRun [0, 1, 7, 8] (run E (den E k) (lv 140) k (nthLoop Tryz.f140 0)) n (St140_0 c0 v) K = L140_0 k (fun (v0 : V140_0) (x1 : Int) => K .ret ⟨19, 0, [(0, .c (.l 3 (.i .i64) c0.1)), (1, .c (.v (.int .i64 c0.2.1))), (4, .c (.v (.int .i64 v0))), (5, .c (.v (.int .i64 v0))), (7, .c (.v (.int .i64 c0.2.2))), (8, .c (.v (.int .i64 v0))), (9, .c (.v (.bool (decide (v0 < c0.2.2))))), (10, .c (.v (.int .i64 v0))), (11, .c (.v (.int .i64 c0.2.1))), (12, .c (.l 3 (.i .i64) c0.1)), (13, .c (.v (.int .i64 v0))), (14, .c (.at_ [.v (.int .i64 x1)])), (15, .c (.v (.int .i64 x1))), (16, .c (.v (.bool (c0.2.1 == x1)))), (17, .c (.v (.int .i64 v0)))], []⟩) (fun (v0 : V140_0) => K (.exit 0) ⟨19, 0, [(0, .c (.l 3 (.i .i64) c0.1)), (1, .c (.v (.int .i64 c0.2.1))), (7, .c (.v (.int .i64 c0.2.2))), (8, .c (.v (.int .i64 v0))), (9, .c (.v (.bool (decide (v0 < c0.2.2)))))], []⟩) c0 n v := by
  intro n
  induction n with
  | zero => intro v; rfl
  | succ n ih =>
    intro v
    refine (b140_0 k n K c0 v).trans ?_
    rw [funext ih]
    kernel_rfl
theorem m140_0 (k : Nat) (a0 : List Int) (a1 : Int) : F140 (k + 1) a0 a1 = loopRun (R := Int) [0, 1, 7, 8] (run E (den E k) (lv 140) k (nthLoop Tryz.f140 0)) k (St140_0 (a0, a1, (a0.length : Int)) 0) (kontAt E (den E k) (lv 140) k (bodyOf Tryz.f140) 0 [] (finish E (rs 140) Tryz.f140 : Ex → St → Option (Int))) := by kernel_rfl
theorem e140 (k : Nat) (a0 : List Int) (a1 : Int) : F140 (k + 1) a0 a1 = L140_0 k (fun (v0 : Int) (x1 : Int) => some v0) (fun (v0 : Int) => some (-1)) (a0, a1, (a0.length : Int)) k 0 := by
  rw [m140_0]
  simp only [l140_0]
  kernel_rfl
/-! slices.Contains[[]int,int] -/
noncomputable def F105 (k : Nat) (a0 : List Int) (a1 : Int) : Option (Bool) := den E k 105 [.c (.l 3 (.i .i64) a0), .c (.v (.int .i64 a1))]
theorem e105 (k : Nat) (a0 : List Int) (a1 : Int) : F105 (k + 1) a0 a1 = (F140 k a0 a1).bind fun p1 => some (decide (p1 ≥ 0)) := by kernel_rfl
/-! loop.example/g00599/impl.IsLanding -/
noncomputable def F42 (k : Nat) (a0 : List Int) (a1 : T28) (a2 : Int) : Option (Bool) := den E k 42 [.agg [.l 3 (.i .i64) a0], .agg [.v (.int .i64 a1.1), .v (.int .i64 a1.2.1), .v (.int .i64 a1.2.2.1), .l 127 s126 a1.2.2.2], .c (.v (.int .i64 a2))]
theorem e42 (k : Nat) (a0 : List Int) (a1 : T28) (a2 : Int) : F42 (k + 1) a0 a1 a2 = (F104 k a2 a1.1).bind fun p1 => if (p1 == true) = true then if ((decide (a2 < a1.2.1)) == false) = true then (F105 k a0 a2).bind fun p2 => some p2 else some true else some false := by kernel_rfl
/-! loop.example/g00599/impl.InRange -/
noncomputable def F106 (k : Nat) (a0 : Int) (a1 : Int) (a2 : Int) : Option (Bool) := den E k 106 [.c (.v (.int .i64 a0)), .c (.v (.int .i64 a1)), .c (.v (.int .i64 a2))]
theorem e106 (k : Nat) (a0 : Int) (a1 : Int) (a2 : Int) : F106 (k + 1) a0 a1 a2 = if ((decide (a1 ≤ a0)) == true) = true then some (decide (a0 ≤ a2)) else some false := by kernel_rfl
/-! loop.example/g00599/impl.NodesOf -/
noncomputable def F107 (k : Nat) (a0 : T25) : Option (Int) := den E k 107 [.agg [.v (.int .i64 a0.1), .l 112 s83 a0.2.1, .l 115 s114 a0.2.2.1, .v (.int .i64 a0.2.2.2.1), .v (.int .i64 a0.2.2.2.2.1), .v (.int .i64 a0.2.2.2.2.2.1), .v (.int .i64 a0.2.2.2.2.2.2.1), .v (.int .i64 a0.2.2.2.2.2.2.2.1), .l 120 s119 a0.2.2.2.2.2.2.2.2.1, .v (.int .i64 a0.2.2.2.2.2.2.2.2.2)]]
theorem e107 (k : Nat) (a0 : T25) : F107 (k + 1) a0 = some (IntKind.i64.wrap ((a0.2.1.length : Int) + (a0.2.2.1.length : Int))) := by kernel_rfl
/-! loop.example/g00599/impl.IsSite -/
noncomputable def F43 (k : Nat) (a0 : T25) (a1 : Int) : Option (Bool) := den E k 43 [.agg [.v (.int .i64 a0.1), .l 112 s83 a0.2.1, .l 115 s114 a0.2.2.1, .v (.int .i64 a0.2.2.2.1), .v (.int .i64 a0.2.2.2.2.1), .v (.int .i64 a0.2.2.2.2.2.1), .v (.int .i64 a0.2.2.2.2.2.2.1), .v (.int .i64 a0.2.2.2.2.2.2.2.1), .l 120 s119 a0.2.2.2.2.2.2.2.2.1, .v (.int .i64 a0.2.2.2.2.2.2.2.2.2)], .c (.v (.int .i64 a1))]
theorem e43 (k : Nat) (a0 : T25) (a1 : Int) : F43 (k + 1) a0 a1 = (F107 k a0).bind fun p1 => (F106 k a1 (a0.2.1.length : Int) (IntKind.i64.wrap (p1 - 1))).bind fun p2 => some p2 := by kernel_rfl
/-! loop.example/g00599/impl.IsLawful -/
noncomputable def F10 (k : Nat) (a0 : T40) : Option (Bool) := den E k 10 [.agg [.v (.int .i64 a0.1.1), .l 112 s83 a0.1.2.1, .l 115 s114 a0.1.2.2.1, .v (.int .i64 a0.1.2.2.2.1), .v (.int .i64 a0.1.2.2.2.2.1), .v (.int .i64 a0.1.2.2.2.2.2.1), .v (.int .i64 a0.1.2.2.2.2.2.2.1), .v (.int .i64 a0.1.2.2.2.2.2.2.2.1), .l 120 s119 a0.1.2.2.2.2.2.2.2.2.1, .v (.int .i64 a0.1.2.2.2.2.2.2.2.2.2), .v (.int .i64 a0.2.1.1), .v (.int .i64 a0.2.1.2.1), .v (.int .i64 a0.2.1.2.2.1), .l 127 s126 a0.2.1.2.2.2, .l 3 (.i .i64) a0.2.2.1, .l 3 (.i .i64) a0.2.2.2.1, .l 139 s78 a0.2.2.2.2.1, .l 81 s80 a0.2.2.2.2.2.1, .l 141 s83 a0.2.2.2.2.2.2.1, .l 3 (.i .i64) a0.2.2.2.2.2.2.2.1, .l 144 s143 a0.2.2.2.2.2.2.2.2.1, .l 147 s83 a0.2.2.2.2.2.2.2.2.2.1, .v (.int .i64 a0.2.2.2.2.2.2.2.2.2.2.1), .v (.int .i64 a0.2.2.2.2.2.2.2.2.2.2.2.1), .l 79 s78 a0.2.2.2.2.2.2.2.2.2.2.2.2.1, .l 84 s83 a0.2.2.2.2.2.2.2.2.2.2.2.2.2]]
abbrev C10_3 : Type := (List (Int × Int × Int × Int × Int × Int)) × Int × Int × (List (List (Int × Int × Int × Int × Int × Int))) × Int × Int × (List (Int × Int × Int × Int)) × Int × T40
abbrev V10_3 : Type := Int
def St10_3 (c3 : C10_3) (v3 : V10_3) : St := ⟨78, 1, [(1, .c (.ptr 0 0)), (12, .c (.l 79 s78 c3.1)), (13, .c (.v (.int .i64 c3.2.1))), (14, .c (.v (.int .i64 c3.2.2.1))), (28, .c (.l 81 s80 c3.2.2.2.1)), (29, .c (.v (.int .i64 c3.2.2.2.2.1))), (30, .c (.v (.int .i64 c3.2.2.2.2.2.1))), (55, .c (.l 84 s83 c3.2.2.2.2.2.2.1)), (56, .c (.v (.int .i64 c3.2.2.2.2.2.2.2.1))), (57, .c (.v (.int .i64 v3)))], [(0, .var [.v (.int .i64 c3.2.2.2.2.2.2.2.2.1.1), .l 112 s83 c3.2.2.2.2.2.2.2.2.1.2.1, .l 115 s114 c3.2.2.2.2.2.2.2.2.1.2.2.1, .v (.int .i64 c3.2.2.2.2.2.2.2.2.1.2.2.2.1), .v (.int .i64 c3.2.2.2.2.2.2.2.2.1.2.2.2.2.1), .v (.int .i64 c3.2.2.2.2.2.2.2.2.1.2.2.2.2.2.1), .v (.int .i64 c3.2.2.2.2.2.2.2.2.1.2.2.2.2.2.2.1), .v (.int .i64 c3.2.2.2.2.2.2.2.2.1.2.2.2.2.2.2.2.1), .l 120 s119 c3.2.2.2.2.2.2.2.2.1.2.2.2.2.2.2.2.2.1, .v (.int .i64 c3.2.2.2.2.2.2.2.2.1.2.2.2.2.2.2.2.2.2), .v (.int .i64 c3.2.2.2.2.2.2.2.2.2.1.1), .v (.int .i64 c3.2.2.2.2.2.2.2.2.2.1.2.1), .v (.int .i64 c3.2.2.2.2.2.2.2.2.2.1.2.2.1), .l 127 s126 c3.2.2.2.2.2.2.2.2.2.1.2.2.2, .l 3 (.i .i64) c3.2.2.2.2.2.2.2.2.2.2.1, .l 3 (.i .i64) c3.2.2.2.2.2.2.2.2.2.2.2.1, .l 139 s78 c3.2.2.2.2.2.2.2.2.2.2.2.2.1, .l 81 s80 c3.2.2.2.2.2.2.2.2.2.2.2.2.2.1, .l 141 s83 c3.2.2.2.2.2.2.2.2.2.2.2.2.2.2.1, .l 3 (.i .i64) c3.2.2.2.2.2.2.2.2.2.2.2.2.2.2.2.1, .l 144 s143 c3.2.2.2.2.2.2.2.2.2.2.2.2.2.2.2.2.1, .l 147 s83 c3.2.2.2.2.2.2.2.2.2.2.2.2.2.2.2.2.2.1, .v (.int .i64 c3.2.2.2.2.2.2.2.2.2.2.2.2.2.2.2.2.2.2.1), .v (.int .i64 c3.2.2.2.2.2.2.2.2.2.2.2.2.2.2.2.2.2.2.2.1), .l 79 s78 c3.2.2.2.2.2.2.2.2.2.2.2.2.2.2.2.2.2.2.2.2.1, .l 84 s83 c3.2.2.2.2.2.2.2.2.2.2.2.2.2.2.2.2.2.2.2.2.2])]⟩
noncomputable def B10_3 {R : Type} (k : Nat) (X0 : V10_3 → (Int × Int × Int × Int) → Bool → Option R) (X1 : V10_3 → Option R) (c3 : C10_3) (rec : V10_3 → Option R) (v3 : V10_3) : Option R := if (decide (v3 < c3.2.2.2.2.2.2.2.1)) = true then if 0 ≤ v3 then ix c3.2.2.2.2.2.2.1 v3.toNat fun x1 => if ((decide (x1.2.2.1 ≥ c3.2.2.2.2.2.2.2.2.2.1.2.1)) == true) = true then (F42 k c3.2.2.2.2.2.2.2.2.2.2.1 c3.2.2.2.2.2.2.2.2.2.1 x1.2.2.1).bind fun p2 => if (!p2) = true then X0 v3 x1 p2 else rec (IntKind.i64.wrap (v3 + 1)) else rec (IntKind.i64.wrap (v3 + 1)) else none else X1 v3
noncomputable def L10_3 {R : Type} (k : Nat) (X0 : V10_3 → (Int × Int × Int × Int) → Bool → Option R) (X1 : V10_3 → Option R) (c : C10_3) : Nat → V10_3 → Option R
  | 0, _ => none
  | n + 1, v => B10_3 k X0 X1 c (L10_3 k X0 X1 c n) v
theorem b10_3 {R : Type} (k n : Nat) (K : Ex → St → Option R) (c3 : C10_3) (v : V10_3) : loopRun [1, 12, 13, 14, 28, 29, 30, 55, 56, 57] (run E (den E k) (lv 10) k (nthLoop Tryz.f10 3)) (n + 1) (St10_3 c3 v) K = B10_3 k (fun (v3 : V10_3) (x1 : Int × Int × Int × Int) (p2 : Bool) => K .ret ⟨78, 2, [(1, .c (.ptr 0 0)), (2, .c (.v (.bool false))), (10, .c (.ptr 1 0)), (12, .c (.l 79 s78 c3.1)), (13, .c (.v (.int .i64 c3.2.1))), (14, .c (.v (.int .i64 c3.2.2.1))), (28, .c (.l 81 s80 c3.2.2.2.1)), (29, .c (.v (.int .i64 c3.2.2.2.2.1))), (30, .c (.v (.int .i64 c3.2.2.2.2.2.1))), (55, .c (.l 84 s83 c3.2.2.2.2.2.2.1)), (56, .c (.v (.int .i64 c3.2.2.2.2.2.2.2.1))), (57, .c (.v (.int .i64 v3))), (58, .c (.v (.bool (decide (v3 < c3.2.2.2.2.2.2.2.1))))), (59, .c (.at_ [.v (.int .i64 x1.1), .v (.int .i64 x1.2.1), .v (.int .i64 x1.2.2.1), .v (.int .i64 x1.2.2.2)])), (60, .agg [.v (.int .i64 x1.1), .v (.int .i64 x1.2.1), .v (.int .i64 x1.2.2.1), .v (.int .i64 x1.2.2.2)]), (61, .c (.ptr 1 2)), (62, .c (.v (.int .i64 x1.2.2.1))), (63, .c (.ptr 0 10)), (64, .c (.ptr 0 11)), (65, .c (.v (.int .i64 c3.2.2.2.2.2.2.2.2.2.1.2.1))), (66, .c (.v (.bool (decide (x1.2.2.1 ≥ c3.2.2.2.2.2.2.2.2.2.1.2.1))))), (67, .c (.v (.bool true))), (68, .c (.ptr 0 14)), (69, .agg [.l 3 (.i .i64) c3.2.2.2.2.2.2.2.2.2.2.1]), (70, .c (.ptr 0 10)), (71, .agg [.v (.int .i64 c3.2.2.2.2.2.2.2.2.2.1.1), .v (.int .i64 c3.2.2.2.2.2.2.2.2.2.1.2.1), .v (.int .i64 c3.2.2.2.2.2.2.2.2.2.1.2.2.1), .l 127 s126 c3.2.2.2.2.2.2.2.2.2.1.2.2.2]), (72, .c (.ptr 1 2)), (73, .c (.v (.int .i64 x1.2.2.1))), (74, .c (.v (.bool p2))), (75, .c (.v (.bool (!p2)))), (76, .c (.v (.bool (!p2))))], [(0, .var [.v (.int .i64 c3.2.2.2.2.2.2.2.2.1.1), .l 112 s83 c3.2.2.2.2.2.2.2.2.1.2.1, .l 115 s114 c3.2.2.2.2.2.2.2.2.1.2.2.1, .v (.int .i64 c3.2.2.2.2.2.2.2.2.1.2.2.2.1), .v (.int .i64 c3.2.2.2.2.2.2.2.2.1.2.2.2.2.1), .v (.int .i64 c3.2.2.2.2.2.2.2.2.1.2.2.2.2.2.1), .v (.int .i64 c3.2.2.2.2.2.2.2.2.1.2.2.2.2.2.2.1), .v (.int .i64 c3.2.2.2.2.2.2.2.2.1.2.2.2.2.2.2.2.1), .l 120 s119 c3.2.2.2.2.2.2.2.2.1.2.2.2.2.2.2.2.2.1, .v (.int .i64 c3.2.2.2.2.2.2.2.2.1.2.2.2.2.2.2.2.2.2), .v (.int .i64 c3.2.2.2.2.2.2.2.2.2.1.1), .v (.int .i64 c3.2.2.2.2.2.2.2.2.2.1.2.1), .v (.int .i64 c3.2.2.2.2.2.2.2.2.2.1.2.2.1), .l 127 s126 c3.2.2.2.2.2.2.2.2.2.1.2.2.2, .l 3 (.i .i64) c3.2.2.2.2.2.2.2.2.2.2.1, .l 3 (.i .i64) c3.2.2.2.2.2.2.2.2.2.2.2.1, .l 139 s78 c3.2.2.2.2.2.2.2.2.2.2.2.2.1, .l 81 s80 c3.2.2.2.2.2.2.2.2.2.2.2.2.2.1, .l 141 s83 c3.2.2.2.2.2.2.2.2.2.2.2.2.2.2.1, .l 3 (.i .i64) c3.2.2.2.2.2.2.2.2.2.2.2.2.2.2.2.1, .l 144 s143 c3.2.2.2.2.2.2.2.2.2.2.2.2.2.2.2.2.1, .l 147 s83 c3.2.2.2.2.2.2.2.2.2.2.2.2.2.2.2.2.2.1, .v (.int .i64 c3.2.2.2.2.2.2.2.2.2.2.2.2.2.2.2.2.2.2.1), .v (.int .i64 c3.2.2.2.2.2.2.2.2.2.2.2.2.2.2.2.2.2.2.2.1), .l 79 s78 c3.2.2.2.2.2.2.2.2.2.2.2.2.2.2.2.2.2.2.2.2.1, .l 84 s83 c3.2.2.2.2.2.2.2.2.2.2.2.2.2.2.2.2.2.2.2.2.2]), (1, .var [.v (.int .i64 x1.1), .v (.int .i64 x1.2.1), .v (.int .i64 x1.2.2.1), .v (.int .i64 x1.2.2.2)])]⟩) (fun (v3 : V10_3) => K (.exit 6) ⟨78, 1, [(1, .c (.ptr 0 0)), (12, .c (.l 79 s78 c3.1)), (13, .c (.v (.int .i64 c3.2.1))), (14, .c (.v (.int .i64 c3.2.2.1))), (28, .c (.l 81 s80 c3.2.2.2.1)), (29, .c (.v (.int .i64 c3.2.2.2.2.1))), (30, .c (.v (.int .i64 c3.2.2.2.2.2.1))), (55, .c (.l 84 s83 c3.2.2.2.2.2.2.1)), (56, .c (.v (.int .i64 c3.2.2.2.2.2.2.2.1))), (57, .c (.v (.int .i64 v3))), (58, .c (.v (.bool (decide (v3 < c3.2.2.2.2.2.2.2.1)))))], [(0, .var [.v (.int .i64 c3.2.2.2.2.2.2.2.2.1.1), .l 112 s83 c3.2.2.2.2.2.2.2.2.1.2.1, .l 115 s114 c3.2.2.2.2.2.2.2.2.1.2.2.1, .v (.int .i64 c3.2.2.2.2.2.2.2.2.1.2.2.2.1), .v (.int .i64 c3.2.2.2.2.2.2.2.2.1.2.2.2.2.1), .v (.int .i64 c3.2.2.2.2.2.2.2.2.1.2.2.2.2.2.1), .v (.int .i64 c3.2.2.2.2.2.2.2.2.1.2.2.2.2.2.2.1), .v (.int .i64 c3.2.2.2.2.2.2.2.2.1.2.2.2.2.2.2.2.1), .l 120 s119 c3.2.2.2.2.2.2.2.2.1.2.2.2.2.2.2.2.2.1, .v (.int .i64 c3.2.2.2.2.2.2.2.2.1.2.2.2.2.2.2.2.2.2), .v (.int .i64 c3.2.2.2.2.2.2.2.2.2.1.1), .v (.int .i64 c3.2.2.2.2.2.2.2.2.2.1.2.1), .v (.int .i64 c3.2.2.2.2.2.2.2.2.2.1.2.2.1), .l 127 s126 c3.2.2.2.2.2.2.2.2.2.1.2.2.2, .l 3 (.i .i64) c3.2.2.2.2.2.2.2.2.2.2.1, .l 3 (.i .i64) c3.2.2.2.2.2.2.2.2.2.2.2.1, .l 139 s78 c3.2.2.2.2.2.2.2.2.2.2.2.2.1, .l 81 s80 c3.2.2.2.2.2.2.2.2.2.2.2.2.2.1, .l 141 s83 c3.2.2.2.2.2.2.2.2.2.2.2.2.2.2.1, .l 3 (.i .i64) c3.2.2.2.2.2.2.2.2.2.2.2.2.2.2.2.1, .l 144 s143 c3.2.2.2.2.2.2.2.2.2.2.2.2.2.2.2.2.1, .l 147 s83 c3.2.2.2.2.2.2.2.2.2.2.2.2.2.2.2.2.2.1, .v (.int .i64 c3.2.2.2.2.2.2.2.2.2.2.2.2.2.2.2.2.2.2.1), .v (.int .i64 c3.2.2.2.2.2.2.2.2.2.2.2.2.2.2.2.2.2.2.2.1), .l 79 s78 c3.2.2.2.2.2.2.2.2.2.2.2.2.2.2.2.2.2.2.2.2.1, .l 84 s83 c3.2.2.2.2.2.2.2.2.2.2.2.2.2.2.2.2.2.2.2.2.2])]⟩) c3 (fun v => loopRun [1, 12, 13, 14, 28, 29, 30, 55, 56, 57] (run E (den E k) (lv 10) k (nthLoop Tryz.f10 3)) n (St10_3 c3 v) K) v := by kernel_rfl
theorem l10_3 {R : Type} (k : Nat) (K : Ex → St → Option R) (c3 : C10_3) : ∀ (n : Nat) (v : V10_3), loopRun [1, 12, 13, 14, 28, 29, 30, 55, 56, 57] (run E (den E k) (lv 10) k (nthLoop Tryz.f10 3)) n (St10_3 c3 v) K = L10_3 k (fun (v3 : V10_3) (x1 : Int × Int × Int × Int) (p2 : Bool) => K .ret ⟨78, 2, [(1, .c (.ptr 0 0)), (2, .c (.v (.bool false))), (10, .c (.ptr 1 0)), (12, .c (.l 79 s78 c3.1)), (13, .c (.v (.int .i64 c3.2.1))), (14, .c (.v (.int .i64 c3.2.2.1))), (28, .c (.l 81 s80 c3.2.2.2.1)), (29, .c (.v (.int .i64 c3.2.2.2.2.1))), (30, .c (.v (.int .i64 c3.2.2.2.2.2.1))), (55, .c (.l 84 s83 c3.2.2.2.2.2.2.1)), (56, .c (.v (.int .i64 c3.2.2.2.2.2.2.2.1))), (57, .c (.v (.int .i64 v3))), (58, .c (.v (.bool (decide (v3 < c3.2.2.2.2.2.2.2.1))))), (59, .c (.at_ [.v (.int .i64 x1.1), .v (.int .i64 x1.2.1), .v (.int .i64 x1.2.2.1), .v (.int .i64 x1.2.2.2)])), (60, .agg [.v (.int .i64 x1.1), .v (.int .i64 x1.2.1), .v (.int .i64 x1.2.2.1), .v (.int .i64 x1.2.2.2)]), (61, .c (.ptr 1 2)), (62, .c (.v (.int .i64 x1.2.2.1))), (63, .c (.ptr 0 10)), (64, .c (.ptr 0 11)), (65, .c (.v (.int .i64 c3.2.2.2.2.2.2.2.2.2.1.2.1))), (66, .c (.v (.bool (decide (x1.2.2.1 ≥ c3.2.2.2.2.2.2.2.2.2.1.2.1))))), (67, .c (.v (.bool true))), (68, .c (.ptr 0 14)), (69, .agg [.l 3 (.i .i64) c3.2.2.2.2.2.2.2.2.2.2.1]), (70, .c (.ptr 0 10)), (71, .agg [.v (.int .i64 c3.2.2.2.2.2.2.2.2.2.1.1), .v (.int .i64 c3.2.2.2.2.2.2.2.2.2.1.2.1), .v (.int .i64 c3.2.2.2.2.2.2.2.2.2.1.2.2.1), .l 127 s126 c3.2.2.2.2.2.2.2.2.2.1.2.2.2]), (72, .c (.ptr 1 2)), (73, .c (.v (.int .i64 x1.2.2.1))), (74, .c (.v (.bool p2))), (75, .c (.v (.bool (!p2)))), (76, .c (.v (.bool (!p2))))], [(0, .var [.v (.int .i64 c3.2.2.2.2.2.2.2.2.1.1), .l 112 s83 c3.2.2.2.2.2.2.2.2.1.2.1, .l 115 s114 c3.2.2.2.2.2.2.2.2.1.2.2.1, .v (.int .i64 c3.2.2.2.2.2.2.2.2.1.2.2.2.1), .v (.int .i64 c3.2.2.2.2.2.2.2.2.1.2.2.2.2.1), .v (.int .i64 c3.2.2.2.2.2.2.2.2.1.2.2.2.2.2.1), .v (.int .i64 c3.2.2.2.2.2.2.2.2.1.2.2.2.2.2.2.1), .v (.int .i64 c3.2.2.2.2.2.2.2.2.1.2.2.2.2.2.2.2.1), .l 120 s119 c3.2.2.2.2.2.2.2.2.1.2.2.2.2.2.2.2.2.1, .v (.int .i64 c3.2.2.2.2.2.2.2.2.1.2.2.2.2.2.2.2.2.2), .v (.int .i64 c3.2.2.2.2.2.2.2.2.2.1.1), .v (.int .i64 c3.2.2.2.2.2.2.2.2.2.1.2.1), .v (.int .i64 c3.2.2.2.2.2.2.2.2.2.1.2.2.1), .l 127 s126 c3.2.2.2.2.2.2.2.2.2.1.2.2.2, .l 3 (.i .i64) c3.2.2.2.2.2.2.2.2.2.2.1, .l 3 (.i .i64) c3.2.2.2.2.2.2.2.2.2.2.2.1, .l 139 s78 c3.2.2.2.2.2.2.2.2.2.2.2.2.1, .l 81 s80 c3.2.2.2.2.2.2.2.2.2.2.2.2.2.1, .l 141 s83 c3.2.2.2.2.2.2.2.2.2.2.2.2.2.2.1, .l 3 (.i .i64) c3.2.2.2.2.2.2.2.2.2.2.2.2.2.2.2.1, .l 144 s143 c3.2.2.2.2.2.2.2.2.2.2.2.2.2.2.2.2.1, .l 147 s83 c3.2.2.2.2.2.2.2.2.2.2.2.2.2.2.2.2.2.1, .v (.int .i64 c3.2.2.2.2.2.2.2.2.2.2.2.2.2.2.2.2.2.2.1), .v (.int .i64 c3.2.2.2.2.2.2.2.2.2.2.2.2.2.2.2.2.2.2.2.1), .l 79 s78 c3.2.2.2.2.2.2.2.2.2.2.2.2.2.2.2.2.2.2.2.2.1, .l 84 s83 c3.2.2.2.2.2.2.2.2.2.2.2.2.2.2.2.2.2.2.2.2.2]), (1, .var [.v (.int .i64 x1.1), .v (.int .i64 x1.2.1), .v (.int .i64 x1.2.2.1), .v (.int .i64 x1.2.2.2)])]⟩) (fun (v3 : V10_3) => K (.exit 6) ⟨78, 1, [(1, .c (.ptr 0 0)), (12, .c (.l 79 s78 c3.1)), (13, .c (.v (.int .i64 c3.2.1))), (14, .c (.v (.int .i64 c3.2.2.1))), (28, .c (.l 81 s80 c3.2.2.2.1)), (29, .c (.v (.int .i64 c3.2.2.2.2.1))), (30, .c (.v (.int .i64 c3.2.2.2.2.2.1))), (55, .c (.l 84 s83 c3.2.2.2.2.2.2.1)), (56, .c (.v (.int .i64 c3.2.2.2.2.2.2.2.1))), (57, .c (.v (.int .i64 v3))), (58, .c (.v (.bool (decide (v3 < c3.2.2.2.2.2.2.2.1)))))], [(0, .var [.v (.int .i64 c3.2.2.2.2.2.2.2.2.1.1), .l 112 s83 c3.2.2.2.2.2.2.2.2.1.2.1, .l 115 s114 c3.2.2.2.2.2.2.2.2.1.2.2.1, .v (.int .i64 c3.2.2.2.2.2.2.2.2.1.2.2.2.1), .v (.int .i64 c3.2.2.2.2.2.2.2.2.1.2.2.2.2.1), .v (.int .i64 c3.2.2.2.2.2.2.2.2.1.2.2.2.2.2.1), .v (.int .i64 c3.2.2.2.2.2.2.2.2.1.2.2.2.2.2.2.1), .v (.int .i64 c3.2.2.2.2.2.2.2.2.1.2.2.2.2.2.2.2.1), .l 120 s119 c3.2.2.2.2.2.2.2.2.1.2.2.2.2.2.2.2.2.1, .v (.int .i64 c3.2.2.2.2.2.2.2.2.1.2.2.2.2.2.2.2.2.2), .v (.int .i64 c3.2.2.2.2.2.2.2.2.2.1.1), .v (.int .i64 c3.2.2.2.2.2.2.2.2.2.1.2.1), .v (.int .i64 c3.2.2.2.2.2.2.2.2.2.1.2.2.1), .l 127 s126 c3.2.2.2.2.2.2.2.2.2.1.2.2.2, .l 3 (.i .i64) c3.2.2.2.2.2.2.2.2.2.2.1, .l 3 (.i .i64) c3.2.2.2.2.2.2.2.2.2.2.2.1, .l 139 s78 c3.2.2.2.2.2.2.2.2.2.2.2.2.1, .l 81 s80 c3.2.2.2.2.2.2.2.2.2.2.2.2.2.1, .l 141 s83 c3.2.2.2.2.2.2.2.2.2.2.2.2.2.2.1, .l 3 (.i .i64) c3.2.2.2.2.2.2.2.2.2.2.2.2.2.2.2.1, .l 144 s143 c3.2.2.2.2.2.2.2.2.2.2.2.2.2.2.2.2.1, .l 147 s83 c3.2.2.2.2.2.2.2.2.2.2.2.2.2.2.2.2.2.1, .v (.int .i64 c3.2.2.2.2.2.2.2.2.2.2.2.2.2.2.2.2.2.2.1), .v (.int .i64 c3.2.2.2.2.2.2.2.2.2.2.2.2.2.2.2.2.2.2.2.1), .l 79 s78 c3.2.2.2.2.2.2.2.2.2.2.2.2.2.2.2.2.2.2.2.2.1, .l 84 s83 c3.2.2.2.2.2.2.2.2.2.2.2.2.2.2.2.2.2.2.2.2.2])]⟩) c3 n v := by
  intro n
  induction n with
  | zero => intro v; rfl
  | succ n ih =>
    intro v
    refine (b10_3 k n K c3 v).trans ?_
    rw [funext ih]
    kernel_rfl
abbrev C10_2 : Type := Int × (List (Int × Int × Int × Int × Int × Int)) × Int × Int × (List (List (Int × Int × Int × Int × Int × Int))) × Int × Int × (List (Int × Int × Int × Int × Int × Int)) × Int × T40
abbrev V10_2 : Type := Int
def St10_2 (c2 : C10_2) (v2 : V10_2) : St := ⟨78, 1, [(1, .c (.ptr 0 0)), (5, .c (.v (.int .i64 c2.1))), (12, .c (.l 79 s78 c2.2.1)), (13, .c (.v (.int .i64 c2.2.2.1))), (14, .c (.v (.int .i64 c2.2.2.2.1))), (28, .c (.l 81 s80 c2.2.2.2.2.1)), (29, .c (.v (.int .i64 c2.2.2.2.2.2.1))), (30, .c (.v (.int .i64 c2.2.2.2.2.2.2.1))), (36, .c (.l 79 s78 c2.2.2.2.2.2.2.2.1)), (37, .c (.v (.int .i64 c2.2.2.2.2.2.2.2.2.1))), (38, .c (.v (.int .i64 v2)))], [(0, .var [.v (.int .i64 c2.2.2.2.2.2.2.2.2.2.1.1), .l 112 s83 c2.2.2.2.2.2.2.2.2.2.1.2.1, .l 115 s114 c2.2.2.2.2.2.2.2.2.2.1.2.2.1, .v (.int .i64 c2.2.2.2.2.2.2.2.2.2.1.2.2.2.1), .v (.int .i64 c2.2.2.2.2.2.2.2.2.2.1.2.2.2.2.1), .v (.int .i64 c2.2.2.2.2.2.2.2.2.2.1.2.2.2.2.2.1), .v (.int .i64 c2.2.2.2.2.2.2.2.2.2.1.2.2.2.2.2.2.1), .v (.int .i64 c2.2.2.2.2.2.2.2.2.2.1.2.2.2.2.2.2.2.1), .l 120 s119 c2.2.2.2.2.2.2.2.2.2.1.2.2.2.2.2.2.2.2.1, .v (.int .i64 c2.2.2.2.2.2.2.2.2.2.1.2.2.2.2.2.2.2.2.2), .v (.int .i64 c2.2.2.2.2.2.2.2.2.2.2.1.1), .v (.int .i64 c2.2.2.2.2.2.2.2.2.2.2.1.2.1), .v (.int .i64 c2.2.2.2.2.2.2.2.2.2.2.1.2.2.1), .l 127 s126 c2.2.2.2.2.2.2.2.2.2.2.1.2.2.2, .l 3 (.i .i64) c2.2.2.2.2.2.2.2.2.2.2.2.1, .l 3 (.i .i64) c2.2.2.2.2.2.2.2.2.2.2.2.2.1, .l 139 s78 c2.2.2.2.2.2.2.2.2.2.2.2.2.2.1, .l 81 s80 c2.2.2.2.2.2.2.2.2.2.2.2.2.2.2.1, .l 141 s83 c2.2.2.2.2.2.2.2.2.2.2.2.2.2.2.2.1, .l 3 (.i .i64) c2.2.2.2.2.2.2.2.2.2.2.2.2.2.2.2.2.1, .l 144 s143 c2.2.2.2.2.2.2.2.2.2.2.2.2.2.2.2.2.2.1, .l 147 s83 c2.2.2.2.2.2.2.2.2.2.2.2.2.2.2.2.2.2.2.1, .v (.int .i64 c2.2.2.2.2.2.2.2.2.2.2.2.2.2.2.2.2.2.2.2.1), .v (.int .i64 c2.2.2.2.2.2.2.2.2.2.2.2.2.2.2.2.2.2.2.2.2.1), .l 79 s78 c2.2.2.2.2.2.2.2.2.2.2.2.2.2.2.2.2.2.2.2.2.2.1, .l 84 s83 c2.2.2.2.2.2.2.2.2.2.2.2.2.2.2.2.2.2.2.2.2.2.2])]⟩
noncomputable def B10_2 {R : Type} (k : Nat) (X0 : V10_2 → (Int × Int × Int × Int × Int × Int) → Bool → Option R) (X1 : V10_2 → Option R) (c2 : C10_2) (rec : V10_2 → Option R) (v2 : V10_2) : Option R := if (decide (v2 < c2.2.2.2.2.2.2.2.2.1)) = true then if 0 ≤ v2 then ix c2.2.2.2.2.2.2.2.1 v2.toNat fun x2 => (F43 k c2.2.2.2.2.2.2.2.2.2.1 c2.1).bind fun p3 => if (p3 == true) = true then if (x2.2.2.2.1 != c2.1) = true then X0 v2 x2 p3 else rec (IntKind.i64.wrap (v2 + 1)) else rec (IntKind.i64.wrap (v2 + 1)) else none else X1 v2
noncomputable def L10_2 {R : Type} (k : Nat) (X0 : V10_2 → (Int × Int × Int × Int × Int × Int) → Bool → Option R) (X1 : V10_2 → Option R) (c : C10_2) : Nat → V10_2 → Option R
  | 0, _ => none
  | n + 1, v => B10_2 k X0 X1 c (L10_2 k X0 X1 c n) v
theorem b10_2 {R : Type} (k n : Nat) (K : Ex → St → Option R) (c2 : C10_2) (v : V10_2) : loopRun [1, 5, 12, 13, 14, 28, 29, 30, 36, 37, 38] (run E (den E k) (lv 10) k (nthLoop Tryz.f10 2)) (n + 1) (St10_2 c2 v) K = B10_2 k (fun (v2 : V10_2) (x2 : Int × Int × Int × Int × Int × Int) (p3 : Bool) => K .ret ⟨78, 2, [(1, .c (.ptr 0 0)), (2, .c (.v (.bool false))), (5, .c (.v (.int .i64 c2.1))), (8, .c (.ptr 1 0)), (12, .c (.l 79 s78 c2.2.1)), (13, .c (.v (.int .i64 c2.2.2.1))), (14, .c (.v (.int .i64 c2.2.2.2.1))), (28, .c (.l 81 s80 c2.2.2.2.2.1)), (29, .c (.v (.int .i64 c2.2.2.2.2.2.1))), (30, .c (.v (.int .i64 c2.2.2.2.2.2.2.1))), (36, .c (.l 79 s78 c2.2.2.2.2.2.2.2.1)), (37, .c (.v (.int .i64 c2.2.2.2.2.2.2.2.2.1))), (38, .c (.v (.int .i64 v2))), (39, .c (.v (.bool (decide (v2 < c2.2.2.2.2.2.2.2.2.1))))), (40, .c (.at_ [.v (.int .i64 x2.1), .v (.int .i64 x2.2.1), .v (.int .i64 x2.2.2.1), .v (.int .i64 x2.2.2.2.1), .v (.int .i64 x2.2.2.2.2.1), .v (.int .i64 x2.2.2.2.2.2)])), (41, .agg [.v (.int .i64 x2.1), .v (.int .i64 x2.2.1), .v (.int .i64 x2.2.2.1), .v (.int .i64 x2.2.2.2.1), .v (.int .i64 x2.2.2.2.2.1), .v (.int .i64 x2.2.2.2.2.2)]), (42, .c (.ptr 0 0)), (43, .agg [.v (.int .i64 c2.2.2.2.2.2.2.2.2.2.1.1), .l 112 s83 c2.2.2.2.2.2.2.2.2.2.1.2.1, .l 115 s114 c2.2.2.2.2.2.2.2.2.2.1.2.2.1, .v (.int .i64 c2.2.2.2.2.2.2.2.2.2.1.2.2.2.1), .v (.int .i64 c2.2.2.2.2.2.2.2.2.2.1.2.2.2.2.1), .v (.int .i64 c2.2.2.2.2.2.2.2.2.2.1.2.2.2.2.2.1), .v (.int .i64 c2.2.2.2.2.2.2.2.2.2.1.2.2.2.2.2.2.1), .v (.int .i64 c2.2.2.2.2.2.2.2.2.2.1.2.2.2.2.2.2.2.1), .l 120 s119 c2.2.2.2.2.2.2.2.2.2.1.2.2.2.2.2.2.2.2.1, .v (.int .i64 c2.2.2.2.2.2.2.2.2.2.1.2.2.2.2.2.2.2.2.2)]), (44, .c (.v (.int .i64 c2.1))), (45, .c (.v (.bool p3))), (46, .c (.v (.bool true))), (47, .c (.ptr 1 3)), (48, .c (.v (.int .i64 x2.2.2.2.1))), (49, .c (.v (.int .i64 c2.1))), (50, .c (.v (.bool (x2.2.2.2.1 != c2.1)))), (51, .c (.v (.bool (x2.2.2.2.1 != c2.1))))], [(0, .var [.v (.int .i64 c2.2.2.2.2.2.2.2.2.2.1.1), .l 112 s83 c2.2.2.2.2.2.2.2.2.2.1.2.1, .l 115 s114 c2.2.2.2.2.2.2.2.2.2.1.2.2.1, .v (.int .i64 c2.2.2.2.2.2.2.2.2.2.1.2.2.2.1), .v (.int .i64 c2.2.2.2.2.2.2.2.2.2.1.2.2.2.2.1), .v (.int .i64 c2.2.2.2.2.2.2.2.2.2.1.2.2.2.2.2.1), .v (.int .i64 c2.2.2.2.2.2.2.2.2.2.1.2.2.2.2.2.2.1), .v (.int .i64 c2.2.2.2.2.2.2.2.2.2.1.2.2.2.2.2.2.2.1), .l 120 s119 c2.2.2.2.2.2.2.2.2.2.1.2.2.2.2.2.2.2.2.1, .v (.int .i64 c2.2.2.2.2.2.2.2.2.2.1.2.2.2.2.2.2.2.2.2), .v (.int .i64 c2.2.2.2.2.2.2.2.2.2.2.1.1), .v (.int .i64 c2.2.2.2.2.2.2.2.2.2.2.1.2.1), .v (.int .i64 c2.2.2.2.2.2.2.2.2.2.2.1.2.2.1), .l 127 s126 c2.2.2.2.2.2.2.2.2.2.2.1.2.2.2, .l 3 (.i .i64) c2.2.2.2.2.2.2.2.2.2.2.2.1, .l 3 (.i .i64) c2.2.2.2.2.2.2.2.2.2.2.2.2.1, .l 139 s78 c2.2.2.2.2.2.2.2.2.2.2.2.2.2.1, .l 81 s80 c2.2.2.2.2.2.2.2.2.2.2.2.2.2.2.1, .l 141 s83 c2.2.2.2.2.2.2.2.2.2.2.2.2.2.2.2.1, .l 3 (.i .i64) c2.2.2.2.2.2.2.2.2.2.2.2.2.2.2.2.2.1, .l 144 s143 c2.2.2.2.2.2.2.2.2.2.2.2.2.2.2.2.2.2.1, .l 147 s83 c2.2.2.2.2.2.2.2.2.2.2.2.2.2.2.2.2.2.2.1, .v (.int .i64 c2.2.2.2.2.2.2.2.2.2.2.2.2.2.2.2.2.2.2.2.1), .v (.int .i64 c2.2.2.2.2.2.2.2.2.2.2.2.2.2.2.2.2.2.2.2.2.1), .l 79 s78 c2.2.2.2.2.2.2.2.2.2.2.2.2.2.2.2.2.2.2.2.2.2.1, .l 84 s83 c2.2.2.2.2.2.2.2.2.2.2.2.2.2.2.2.2.2.2.2.2.2.2]), (1, .var [.v (.int .i64 x2.1), .v (.int .i64 x2.2.1), .v (.int .i64 x2.2.2.1), .v (.int .i64 x2.2.2.2.1), .v (.int .i64 x2.2.2.2.2.1), .v (.int .i64 x2.2.2.2.2.2)])]⟩) (fun (v2 : V10_2) => K (.exit 4) ⟨78, 1, [(1, .c (.ptr 0 0)), (5, .c (.v (.int .i64 c2.1))), (12, .c (.l 79 s78 c2.2.1)), (13, .c (.v (.int .i64 c2.2.2.1))), (14, .c (.v (.int .i64 c2.2.2.2.1))), (28, .c (.l 81 s80 c2.2.2.2.2.1)), (29, .c (.v (.int .i64 c2.2.2.2.2.2.1))), (30, .c (.v (.int .i64 c2.2.2.2.2.2.2.1))), (36, .c (.l 79 s78 c2.2.2.2.2.2.2.2.1)), (37, .c (.v (.int .i64 c2.2.2.2.2.2.2.2.2.1))), (38, .c (.v (.int .i64 v2))), (39, .c (.v (.bool (decide (v2 < c2.2.2.2.2.2.2.2.2.1)))))], [(0, .var [.v (.int .i64 c2.2.2.2.2.2.2.2.2.2.1.1), .l 112 s83 c2.2.2.2.2.2.2.2.2.2.1.2.1, .l 115 s114 c2.2.2.2.2.2.2.2.2.2.1.2.2.1, .v (.int .i64 c2.2.2.2.2.2.2.2.2.2.1.2.2.2.1), .v (.int .i64 c2.2.2.2.2.2.2.2.2.2.1.2.2.2.2.1), .v (.int .i64 c2.2.2.2.2.2.2.2.2.2.1.2.2.2.2.2.1), .v (.int .i64 c2.2.2.2.2.2.2.2.2.2.1.2.2.2.2.2.2.1), .v (.int .i64 c2.2.2.2.2.2.2.2.2.2.1.2.2.2.2.2.2.2.1), .l 120 s119 c2.2.2.2.2.2.2.2.2.2.1.2.2.2.2.2.2.2.2.1, .v (.int .i64 c2.2.2.2.2.2.2.2.2.2.1.2.2.2.2.2.2.2.2.2), .v (.int .i64 c2.2.2.2.2.2.2.2.2.2.2.1.1), .v (.int .i64 c2.2.2.2.2.2.2.2.2.2.2.1.2.1), .v (.int .i64 c2.2.2.2.2.2.2.2.2.2.2.1.2.2.1), .l 127 s126 c2.2.2.2.2.2.2.2.2.2.2.1.2.2.2, .l 3 (.i .i64) c2.2.2.2.2.2.2.2.2.2.2.2.1, .l 3 (.i .i64) c2.2.2.2.2.2.2.2.2.2.2.2.2.1, .l 139 s78 c2.2.2.2.2.2.2.2.2.2.2.2.2.2.1, .l 81 s80 c2.2.2.2.2.2.2.2.2.2.2.2.2.2.2.1, .l 141 s83 c2.2.2.2.2.2.2.2.2.2.2.2.2.2.2.2.1, .l 3 (.i .i64) c2.2.2.2.2.2.2.2.2.2.2.2.2.2.2.2.2.1, .l 144 s143 c2.2.2.2.2.2.2.2.2.2.2.2.2.2.2.2.2.2.1, .l 147 s83 c2.2.2.2.2.2.2.2.2.2.2.2.2.2.2.2.2.2.2.1, .v (.int .i64 c2.2.2.2.2.2.2.2.2.2.2.2.2.2.2.2.2.2.2.2.1), .v (.int .i64 c2.2.2.2.2.2.2.2.2.2.2.2.2.2.2.2.2.2.2.2.2.1), .l 79 s78 c2.2.2.2.2.2.2.2.2.2.2.2.2.2.2.2.2.2.2.2.2.2.1, .l 84 s83 c2.2.2.2.2.2.2.2.2.2.2.2.2.2.2.2.2.2.2.2.2.2.2])]⟩) c2 (fun v => loopRun [1, 5, 12, 13, 14, 28, 29, 30, 36, 37, 38] (run E (den E k) (lv 10) k (nthLoop Tryz.f10 2)) n (St10_2 c2 v) K) v := by kernel_rfl
theorem l10_2 {R : Type} (k : Nat) (K : Ex → St → Option R) (c2 : C10_2) : ∀ (n : Nat) (v : V10_2), loopRun [1, 5, 12, 13, 14, 28, 29, 30, 36, 37, 38] (run E (den E k) (lv 10) k (nthLoop Tryz.f10 2)) n (St10_2 c2 v) K = L10_2 k (fun (v2 : V10_2) (x2 : Int × Int × Int × Int × Int × Int) (p3 : Bool) => K .ret ⟨78, 2, [(1, .c (.ptr 0 0)), (2, .c (.v (.bool false))), (5, .c (.v (.int .i64 c2.1))), (8, .c (.ptr 1 0)), (12, .c (.l 79 s78 c2.2.1)), (13, .c (.v (.int .i64 c2.2.2.1))), (14, .c (.v (.int .i64 c2.2.2.2.1))), (28, .c (.l 81 s80 c2.2.2.2.2.1)), (29, .c (.v (.int .i64 c2.2.2.2.2.2.1))), (30, .c (.v (.int .i64 c2.2.2.2.2.2.2.1))), (36, .c (.l 79 s78 c2.2.2.2.2.2.2.2.1)), (37, .c (.v (.int .i64 c2.2.2.2.2.2.2.2.2.1))), (38, .c (.v (.int .i64 v2))), (39, .c (.v (.bool (decide (v2 < c2.2.2.2.2.2.2.2.2.1))))), (40, .c (.at_ [.v (.int .i64 x2.1), .v (.int .i64 x2.2.1), .v (.int .i64 x2.2.2.1), .v (.int .i64 x2.2.2.2.1), .v (.int .i64 x2.2.2.2.2.1), .v (.int .i64 x2.2.2.2.2.2)])), (41, .agg [.v (.int .i64 x2.1), .v (.int .i64 x2.2.1), .v (.int .i64 x2.2.2.1), .v (.int .i64 x2.2.2.2.1), .v (.int .i64 x2.2.2.2.2.1), .v (.int .i64 x2.2.2.2.2.2)]), (42, .c (.ptr 0 0)), (43, .agg [.v (.int .i64 c2.2.2.2.2.2.2.2.2.2.1.1), .l 112 s83 c2.2.2.2.2.2.2.2.2.2.1.2.1, .l 115 s114 c2.2.2.2.2.2.2.2.2.2.1.2.2.1, .v (.int .i64 c2.2.2.2.2.2.2.2.2.2.1.2.2.2.1), .v (.int .i64 c2.2.2.2.2.2.2.2.2.2.1.2.2.2.2.1), .v (.int .i64 c2.2.2.2.2.2.2.2.2.2.1.2.2.2.2.2.1), .v (.int .i64 c2.2.2.2.2.2.2.2.2.2.1.2.2.2.2.2.2.1), .v (.int .i64 c2.2.2.2.2.2.2.2.2.2.1.2.2.2.2.2.2.2.1), .l 120 s119 c2.2.2.2.2.2.2.2.2.2.1.2.2.2.2.2.2.2.2.1, .v (.int .i64 c2.2.2.2.2.2.2.2.2.2.1.2.2.2.2.2.2.2.2.2)]), (44, .c (.v (.int .i64 c2.1))), (45, .c (.v (.bool p3))), (46, .c (.v (.bool true))), (47, .c (.ptr 1 3)), (48, .c (.v (.int .i64 x2.2.2.2.1))), (49, .c (.v (.int .i64 c2.1))), (50, .c (.v (.bool (x2.2.2.2.1 != c2.1)))), (51, .c (.v (.bool (x2.2.2.2.1 != c2.1))))], [(0, .var [.v (.int .i64 c2.2.2.2.2.2.2.2.2.2.1.1), .l 112 s83 c2.2.2.2.2.2.2.2.2.2.1.2.1, .l 115 s114 c2.2.2.2.2.2.2.2.2.2.1.2.2.1, .v (.int .i64 c2.2.2.2.2.2.2.2.2.2.1.2.2.2.1), .v (.int .i64 c2.2.2.2.2.2.2.2.2.2.1.2.2.2.2.1), .v (.int .i64 c2.2.2.2.2.2.2.2.2.2.1.2.2.2.2.2.1), .v (.int .i64 c2.2.2.2.2.2.2.2.2.2.1.2.2.2.2.2.2.1), .v (.int .i64 c2.2.2.2.2.2.2.2.2.2.1.2.2.2.2.2.2.2.1), .l 120 s119 c2.2.2.2.2.2.2.2.2.2.1.2.2.2.2.2.2.2.2.1, .v (.int .i64 c2.2.2.2.2.2.2.2.2.2.1.2.2.2.2.2.2.2.2.2), .v (.int .i64 c2.2.2.2.2.2.2.2.2.2.2.1.1), .v (.int .i64 c2.2.2.2.2.2.2.2.2.2.2.1.2.1), .v (.int .i64 c2.2.2.2.2.2.2.2.2.2.2.1.2.2.1), .l 127 s126 c2.2.2.2.2.2.2.2.2.2.2.1.2.2.2, .l 3 (.i .i64) c2.2.2.2.2.2.2.2.2.2.2.2.1, .l 3 (.i .i64) c2.2.2.2.2.2.2.2.2.2.2.2.2.1, .l 139 s78 c2.2.2.2.2.2.2.2.2.2.2.2.2.2.1, .l 81 s80 c2.2.2.2.2.2.2.2.2.2.2.2.2.2.2.1, .l 141 s83 c2.2.2.2.2.2.2.2.2.2.2.2.2.2.2.2.1, .l 3 (.i .i64) c2.2.2.2.2.2.2.2.2.2.2.2.2.2.2.2.2.1, .l 144 s143 c2.2.2.2.2.2.2.2.2.2.2.2.2.2.2.2.2.2.1, .l 147 s83 c2.2.2.2.2.2.2.2.2.2.2.2.2.2.2.2.2.2.2.1, .v (.int .i64 c2.2.2.2.2.2.2.2.2.2.2.2.2.2.2.2.2.2.2.2.1), .v (.int .i64 c2.2.2.2.2.2.2.2.2.2.2.2.2.2.2.2.2.2.2.2.2.1), .l 79 s78 c2.2.2.2.2.2.2.2.2.2.2.2.2.2.2.2.2.2.2.2.2.2.1, .l 84 s83 c2.2.2.2.2.2.2.2.2.2.2.2.2.2.2.2.2.2.2.2.2.2.2]), (1, .var [.v (.int .i64 x2.1), .v (.int .i64 x2.2.1), .v (.int .i64 x2.2.2.1), .v (.int .i64 x2.2.2.2.1), .v (.int .i64 x2.2.2.2.2.1), .v (.int .i64 x2.2.2.2.2.2)])]⟩) (fun (v2 : V10_2) => K (.exit 4) ⟨78, 1, [(1, .c (.ptr 0 0)), (5, .c (.v (.int .i64 c2.1))), (12, .c (.l 79 s78 c2.2.1)), (13, .c (.v (.int .i64 c2.2.2.1))), (14, .c (.v (.int .i64 c2.2.2.2.1))), (28, .c (.l 81 s80 c2.2.2.2.2.1)), (29, .c (.v (.int .i64 c2.2.2.2.2.2.1))), (30, .c (.v (.int .i64 c2.2.2.2.2.2.2.1))), (36, .c (.l 79 s78 c2.2.2.2.2.2.2.2.1)), (37, .c (.v (.int .i64 c2.2.2.2.2.2.2.2.2.1))), (38, .c (.v (.int .i64 v2))), (39, .c (.v (.bool (decide (v2 < c2.2.2.2.2.2.2.2.2.1)))))], [(0, .var [.v (.int .i64 c2.2.2.2.2.2.2.2.2.2.1.1), .l 112 s83 c2.2.2.2.2.2.2.2.2.2.1.2.1, .l 115 s114 c2.2.2.2.2.2.2.2.2.2.1.2.2.1, .v (.int .i64 c2.2.2.2.2.2.2.2.2.2.1.2.2.2.1), .v (.int .i64 c2.2.2.2.2.2.2.2.2.2.1.2.2.2.2.1), .v (.int .i64 c2.2.2.2.2.2.2.2.2.2.1.2.2.2.2.2.1), .v (.int .i64 c2.2.2.2.2.2.2.2.2.2.1.2.2.2.2.2.2.1), .v (.int .i64 c2.2.2.2.2.2.2.2.2.2.1.2.2.2.2.2.2.2.1), .l 120 s119 c2.2.2.2.2.2.2.2.2.2.1.2.2.2.2.2.2.2.2.1, .v (.int .i64 c2.2.2.2.2.2.2.2.2.2.1.2.2.2.2.2.2.2.2.2), .v (.int .i64 c2.2.2.2.2.2.2.2.2.2.2.1.1), .v (.int .i64 c2.2.2.2.2.2.2.2.2.2.2.1.2.1), .v (.int .i64 c2.2.2.2.2.2.2.2.2.2.2.1.2.2.1), .l 127 s126 c2.2.2.2.2.2.2.2.2.2.2.1.2.2.2, .l 3 (.i .i64) c2.2.2.2.2.2.2.2.2.2.2.2.1, .l 3 (.i .i64) c2.2.2.2.2.2.2.2.2.2.2.2.2.1, .l 139 s78 c2.2.2.2.2.2.2.2.2.2.2.2.2.2.1, .l 81 s80 c2.2.2.2.2.2.2.2.2.2.2.2.2.2.2.1, .l 141 s83 c2.2.2.2.2.2.2.2.2.2.2.2.2.2.2.2.1, .l 3 (.i .i64) c2.2.2.2.2.2.2.2.2.2.2.2.2.2.2.2.2.1, .l 144 s143 c2.2.2.2.2.2.2.2.2.2.2.2.2.2.2.2.2.2.1, .l 147 s83 c2.2.2.2.2.2.2.2.2.2.2.2.2.2.2.2.2.2.2.1, .v (.int .i64 c2.2.2.2.2.2.2.2.2.2.2.2.2.2.2.2.2.2.2.2.1), .v (.int .i64 c2.2.2.2.2.2.2.2.2.2.2.2.2.2.2.2.2.2.2.2.2.1), .l 79 s78 c2.2.2.2.2.2.2.2.2.2.2.2.2.2.2.2.2.2.2.2.2.2.1, .l 84 s83 c2.2.2.2.2.2.2.2.2.2.2.2.2.2.2.2.2.2.2.2.2.2.2])]⟩) c2 n v := by
  intro n
  induction n with
  | zero => intro v; rfl
  | succ n ih =>
    intro v
    refine (b10_2 k n K c2 v).trans ?_
    rw [funext ih]
    kernel_rfl
abbrev C10_1 : Type := (List (Int × Int × Int × Int × Int × Int)) × Int × Int × (List (List (Int × Int × Int × Int × Int × Int))) × Int × T40
abbrev V10_1 : Type := Int
def St10_1 (c1 : C10_1) (v1 : V10_1) : St := ⟨78, 1, [(1, .c (.ptr 0 0)), (12, .c (.l 79 s78 c1.1)), (13, .c (.v (.int .i64 c1.2.1))), (14, .c (.v (.int .i64 c1.2.2.1))), (28, .c (.l 81 s80 c1.2.2.2.1)), (29, .c (.v (.int .i64 c1.2.2.2.2.1))), (30, .c (.v (.int .i64 v1)))], [(0, .var [.v (.int .i64 c1.2.2.2.2.2.1.1), .l 112 s83 c1.2.2.2.2.2.1.2.1, .l 115 s114 c1.2.2.2.2.2.1.2.2.1, .v (.int .i64 c1.2.2.2.2.2.1.2.2.2.1), .v (.int .i64 c1.2.2.2.2.2.1.2.2.2.2.1), .v (.int .i64 c1.2.2.2.2.2.1.2.2.2.2.2.1), .v (.int .i64 c1.2.2.2.2.2.1.2.2.2.2.2.2.1), .v (.int .i64 c1.2.2.2.2.2.1.2.2.2.2.2.2.2.1), .l 120 s119 c1.2.2.2.2.2.1.2.2.2.2.2.2.2.2.1, .v (.int .i64 c1.2.2.2.2.2.1.2.2.2.2.2.2.2.2.2), .v (.int .i64 c1.2.2.2.2.2.2.1.1), .v (.int .i64 c1.2.2.2.2.2.2.1.2.1), .v (.int .i64 c1.2.2.2.2.2.2.1.2.2.1), .l 127 s126 c1.2.2.2.2.2.2.1.2.2.2, .l 3 (.i .i64) c1.2.2.2.2.2.2.2.1, .l 3 (.i .i64) c1.2.2.2.2.2.2.2.2.1, .l 139 s78 c1.2.2.2.2.2.2.2.2.2.1, .l 81 s80 c1.2.2.2.2.2.2.2.2.2.2.1, .l 141 s83 c1.2.2.2.2.2.2.2.2.2.2.2.1, .l 3 (.i .i64) c1.2.2.2.2.2.2.2.2.2.2.2.2.1, .l 144 s143 c1.2.2.2.2.2.2.2.2.2.2.2.2.2.1, .l 147 s83 c1.2.2.2.2.2.2.2.2.2.2.2.2.2.2.1, .v (.int .i64 c1.2.2.2.2.2.2.2.2.2.2.2.2.2.2.2.1), .v (.int .i64 c1.2.2.2.2.2.2.2.2.2.2.2.2.2.2.2.2.1), .l 79 s78 c1.2.2.2.2.2.2.2.2.2.2.2.2.2.2.2.2.2.1, .l 84 s83 c1.2.2.2.2.2.2.2.2.2.2.2.2.2.2.2.2.2.2])]⟩
noncomputable def B10_1 {R : Type} (k : Nat) (X0 : V10_1 → (List (Int × Int × Int × Int × Int × Int)) → Int → (Int × Int × Int × Int × Int × Int) → Bool → Option R) (X1 : V10_1 → Option R) (c1 : C10_1) (rec : V10_1 → Option R) (v1 : V10_1) : Option R := if (decide (v1 < c1.2.2.2.2.1)) = true then if 0 ≤ v1 then ix c1.2.2.2.1 v1.toNat fun x1 => L10_2 k (fun (v2 : Int) (x2 : Int × Int × Int × Int × Int × Int) (p3 : Bool) => X0 v1 x1 v2 x2 p3) (fun (v2 : Int) => rec (IntKind.i64.wrap (v1 + 1))) (v1, c1.1, c1.2.1, c1.2.2.1, c1.2.2.2.1, c1.2.2.2.2.1, v1, x1, (x1.length : Int), c1.2.2.2.2.2) k 0 else none else X1 v1
noncomputable def L10_1 {R : Type} (k : Nat) (X0 : V10_1 → (List (Int × Int × Int × Int × Int × Int)) → Int → (Int × Int × Int × Int × Int × Int) → Bool → Option R) (X1 : V10_1 → Option R) (c : C10_1) : Nat → V10_1 → Option R
  | 0, _ => none
  | n + 1, v => B10_1 k X0 X1 c (L10_1 k X0 X1 c n) v
theorem bm10_1_0 {R : Type} (k n : Nat) (K : Ex → St → Option R) (c1 : C10_1) (v1 : V10_1) : loopRun [1, 12, 13, 14, 28, 29, 30] (run E (den E k) (lv 10) k (nthLoop Tryz.f10 1)) (n + 1) (St10_1 c1 v1) K = if (decide (v1 < c1.2.2.2.2.1)) = true then if 0 ≤ v1 then ix c1.2.2.2.1 v1.toNat fun x1 => loopRun [1, 5, 12, 13, 14, 28, 29, 30, 36, 37, 38] (run E (den E k) (lv 10) k (nthLoop Tryz.f10 2)) k (St10_2 (v1, c1.1, c1.2.1, c1.2.2.1, c1.2.2.2.1, c1.2.2.2.2.1, v1, x1, (x1.length : Int), c1.2.2.2.2.2) 0) (kontAt E (den E k) (lv 10) k (.loop (nthLoop Tryz.f10 1)) (2 - 1) [(n, [1, 12, 13, 14, 28, 29, 30])] K) else none else K (.exit 2) ⟨78, 1, [(1, .c (.ptr 0 0)), (12, .c (.l 79 s78 c1.1)), (13, .c (.v (.int .i64 c1.2.1))), (14, .c (.v (.int .i64 c1.2.2.1))), (28, .c (.l 81 s80 c1.2.2.2.1)), (29, .c (.v (.int .i64 c1.2.2.2.2.1))), (30, .c (.v (.int .i64 v1))), (31, .c (.v (.bool (decide (v1 < c1.2.2.2.2.1)))))], [(0, .var [.v (.int .i64 c1.2.2.2.2.2.1.1), .l 112 s83 c1.2.2.2.2.2.1.2.1, .l 115 s114 c1.2.2.2.2.2.1.2.2.1, .v (.int .i64 c1.2.2.2.2.2.1.2.2.2.1), .v (.int .i64 c1.2.2.2.2.2.1.2.2.2.2.1), .v (.int .i64 c1.2.2.2.2.2.1.2.2.2.2.2.1), .v (.int .i64 c1.2.2.2.2.2.1.2.2.2.2.2.2.1), .v (.int .i64 c1.2.2.2.2.2.1.2.2.2.2.2.2.2.1), .l 120 s119 c1.2.2.2.2.2.1.2.2.2.2.2.2.2.2.1, .v (.int .i64 c1.2.2.2.2.2.1.2.2.2.2.2.2.2.2.2), .v (.int .i64 c1.2.2.2.2.2.2.1.1), .v (.int .i64 c1.2.2.2.2.2.2.1.2.1), .v (.int .i64 c1.2.2.2.2.2.2.1.2.2.1), .l 127 s126 c1.2.2.2.2.2.2.1.2.2.2, .l 3 (.i .i64) c1.2.2.2.2.2.2.2.1, .l 3 (.i .i64) c1.2.2.2.2.2.2.2.2.1, .l 139 s78 c1.2.2.2.2.2.2.2.2.2.1, .l 81 s80 c1.2.2.2.2.2.2.2.2.2.2.1, .l 141 s83 c1.2.2.2.2.2.2.2.2.2.2.2.1, .l 3 (.i .i64) c1.2.2.2.2.2.2.2.2.2.2.2.2.1, .l 144 s143 c1.2.2.2.2.2.2.2.2.2.2.2.2.2.1, .l 147 s83 c1.2.2.2.2.2.2.2.2.2.2.2.2.2.2.1, .v (.int .i64 c1.2.2.2.2.2.2.2.2.2.2.2.2.2.2.2.1), .v (.int .i64 c1.2.2.2.2.2.2.2.2.2.2.2.2.2.2.2.2.1), .l 79 s78 c1.2.2.2.2.2.2.2.2.2.2.2.2.2.2.2.2.2.1, .l 84 s83 c1.2.2.2.2.2.2.2.2.2.2.2.2.2.2.2.2.2.2])]⟩ := by kernel_rfl
theorem b10_1 {R : Type} (k n : Nat) (K : Ex → St → Option R) (c1 : C10_1) (v : V10_1) : loopRun [1, 12, 13, 14, 28, 29, 30] (run E (den E k) (lv 10) k (nthLoop Tryz.f10 1)) (n + 1) (St10_1 c1 v) K = B10_1 k (fun (v1 : V10_1) (x1 : List (Int × Int × Int × Int × Int × Int)) (v2 : Int) (x2 : Int × Int × Int × Int × Int × Int) (p3 : Bool) => K .ret ⟨78, 2, [(1, .c (.ptr 0 0)), (2, .c (.v (.bool false))), (5, .c (.v (.int .i64 v1))), (8, .c (.ptr 1 0)), (12, .c (.l 79 s78 c1.1)), (13, .c (.v (.int .i64 c1.2.1))), (14, .c (.v (.int .i64 c1.2.2.1))), (28, .c (.l 81 s80 c1.2.2.2.1)), (29, .c (.v (.int .i64 c1.2.2.2.2.1))), (30, .c (.v (.int .i64 v1))), (36, .c (.l 79 s78 x1)), (37, .c (.v (.int .i64 (x1.length : Int)))), (38, .c (.v (.int .i64 v2))), (39, .c (.v (.bool (decide (v2 < (x1.length : Int)))))), (40, .c (.at_ [.v (.int .i64 x2.1), .v (.int .i64 x2.2.1), .v (.int .i64 x2.2.2.1), .v (.int .i64 x2.2.2.2.1), .v (.int .i64 x2.2.2.2.2.1), .v (.int .i64 x2.2.2.2.2.2)])), (41, .agg [.v (.int .i64 x2.1), .v (.int .i64 x2.2.1), .v (.int .i64 x2.2.2.1), .v (.int .i64 x2.2.2.2.1), .v (.int .i64 x2.2.2.2.2.1), .v (.int .i64 x2.2.2.2.2.2)]), (42, .c (.ptr 0 0)), (43, .agg [.v (.int .i64 c1.2.2.2.2.2.1.1), .l 112 s83 c1.2.2.2.2.2.1.2.1, .l 115 s114 c1.2.2.2.2.2.1.2.2.1, .v (.int .i64 c1.2.2.2.2.2.1.2.2.2.1), .v (.int .i64 c1.2.2.2.2.2.1.2.2.2.2.1), .v (.int .i64 c1.2.2.2.2.2.1.2.2.2.2.2.1), .v (.int .i64 c1.2.2.2.2.2.1.2.2.2.2.2.2.1), .v (.int .i64 c1.2.2.2.2.2.1.2.2.2.2.2.2.2.1), .l 120 s119 c1.2.2.2.2.2.1.2.2.2.2.2.2.2.2.1, .v (.int .i64 c1.2.2.2.2.2.1.2.2.2.2.2.2.2.2.2)]), (44, .c (.v (.int .i64 v1))), (45, .c (.v (.bool p3))), (46, .c (.v (.bool true))), (47, .c (.ptr 1 3)), (48, .c (.v (.int .i64 x2.2.2.2.1))), (49, .c (.v (.int .i64 v1))), (50, .c (.v (.bool (x2.2.2.2.1 != v1)))), (51, .c (.v (.bool (x2.2.2.2.1 != v1))))], [(0, .var [.v (.int .i64 c1.2.2.2.2.2.1.1), .l 112 s83 c1.2.2.2.2.2.1.2.1, .l 115 s114 c1.2.2.2.2.2.1.2.2.1, .v (.int .i64 c1.2.2.2.2.2.1.2.2.2.1), .v (.int .i64 c1.2.2.2.2.2.1.2.2.2.2.1), .v (.int .i64 c1.2.2.2.2.2.1.2.2.2.2.2.1), .v (.int .i64 c1.2.2.2.2.2.1.2.2.2.2.2.2.1), .v (.int .i64 c1.2.2.2.2.2.1.2.2.2.2.2.2.2.1), .l 120 s119 c1.2.2.2.2.2.1.2.2.2.2.2.2.2.2.1, .v (.int .i64 c1.2.2.2.2.2.1.2.2.2.2.2.2.2.2.2), .v (.int .i64 c1.2.2.2.2.2.2.1.1), .v (.int .i64 c1.2.2.2.2.2.2.1.2.1), .v (.int .i64 c1.2.2.2.2.2.2.1.2.2.1), .l 127 s126 c1.2.2.2.2.2.2.1.2.2.2, .l 3 (.i .i64) c1.2.2.2.2.2.2.2.1, .l 3 (.i .i64) c1.2.2.2.2.2.2.2.2.1, .l 139 s78 c1.2.2.2.2.2.2.2.2.2.1, .l 81 s80 c1.2.2.2.2.2.2.2.2.2.2.1, .l 141 s83 c1.2.2.2.2.2.2.2.2.2.2.2.1, .l 3 (.i .i64) c1.2.2.2.2.2.2.2.2.2.2.2.2.1, .l 144 s143 c1.2.2.2.2.2.2.2.2.2.2.2.2.2.1, .l 147 s83 c1.2.2.2.2.2.2.2.2.2.2.2.2.2.2.1, .v (.int .i64 c1.2.2.2.2.2.2.2.2.2.2.2.2.2.2.2.1), .v (.int .i64 c1.2.2.2.2.2.2.2.2.2.2.2.2.2.2.2.2.1), .l 79 s78 c1.2.2.2.2.2.2.2.2.2.2.2.2.2.2.2.2.2.1, .l 84 s83 c1.2.2.2.2.2.2.2.2.2.2.2.2.2.2.2.2.2.2]), (1, .var [.v (.int .i64 x2.1), .v (.int .i64 x2.2.1), .v (.int .i64 x2.2.2.1), .v (.int .i64 x2.2.2.2.1), .v (.int .i64 x2.2.2.2.2.1), .v (.int .i64 x2.2.2.2.2.2)])]⟩) (fun (v1 : V10_1) => K (.exit 2) ⟨78, 1, [(1, .c (.ptr 0 0)), (12, .c (.l 79 s78 c1.1)), (13, .c (.v (.int .i64 c1.2.1))), (14, .c (.v (.int .i64 c1.2.2.1))), (28, .c (.l 81 s80 c1.2.2.2.1)), (29, .c (.v (.int .i64 c1.2.2.2.2.1))), (30, .c (.v (.int .i64 v1))), (31, .c (.v (.bool (decide (v1 < c1.2.2.2.2.1)))))], [(0, .var [.v (.int .i64 c1.2.2.2.2.2.1.1), .l 112 s83 c1.2.2.2.2.2.1.2.1, .l 115 s114 c1.2.2.2.2.2.1.2.2.1, .v (.int .i64 c1.2.2.2.2.2.1.2.2.2.1), .v (.int .i64 c1.2.2.2.2.2.1.2.2.2.2.1), .v (.int .i64 c1.2.2.2.2.2.1.2.2.2.2.2.1), .v (.int .i64 c1.2.2.2.2.2.1.2.2.2.2.2.2.1), .v (.int .i64 c1.2.2.2.2.2.1.2.2.2.2.2.2.2.1), .l 120 s119 c1.2.2.2.2.2.1.2.2.2.2.2.2.2.2.1, .v (.int .i64 c1.2.2.2.2.2.1.2.2.2.2.2.2.2.2.2), .v (.int .i64 c1.2.2.2.2.2.2.1.1), .v (.int .i64 c1.2.2.2.2.2.2.1.2.1), .v (.int .i64 c1.2.2.2.2.2.2.1.2.2.1), .l 127 s126 c1.2.2.2.2.2.2.1.2.2.2, .l 3 (.i .i64) c1.2.2.2.2.2.2.2.1, .l 3 (.i .i64) c1.2.2.2.2.2.2.2.2.1, .l 139 s78 c1.2.2.2.2.2.2.2.2.2.1, .l 81 s80 c1.2.2.2.2.2.2.2.2.2.2.1, .l 141 s83 c1.2.2.2.2.2.2.2.2.2.2.2.1, .l 3 (.i .i64) c1.2.2.2.2.2.2.2.2.2.2.2.2.1, .l 144 s143 c1.2.2.2.2.2.2.2.2.2.2.2.2.2.1, .l 147 s83 c1.2.2.2.2.2.2.2.2.2.2.2.2.2.2.1, .v (.int .i64 c1.2.2.2.2.2.2.2.2.2.2.2.2.2.2.2.1), .v (.int .i64 c1.2.2.2.2.2.2.2.2.2.2.2.2.2.2.2.2.1), .l 79 s78 c1.2.2.2.2.2.2.2.2.2.2.2.2.2.2.2.2.2.1, .l 84 s83 c1.2.2.2.2.2.2.2.2.2.2.2.2.2.2.2.2.2.2])]⟩) c1 (fun v => loopRun [1, 12, 13, 14, 28, 29, 30] (run E (den E k) (lv 10) k (nthLoop Tryz.f10 1)) n (St10_1 c1 v) K) v := by
  rw [bm10_1_0]
  simp only [l10_2]
  kernel_rfl
theorem l10_1 {R : Type} (k : Nat) (K : Ex → St → Option R) (c1 : C10_1) : ∀ (n : Nat) (v : V10_1), loopRun [1, 12, 13, 14, 28, 29, 30] (run E (den E k) (lv 10) k (nthLoop Tryz.f10 1)) n (St10_1 c1 v) K = L10_1 k (fun (v1 : V10_1) (x1 : List (Int × Int × Int × Int × Int × Int)) (v2 : Int) (x2 : Int × Int × Int × Int × Int × Int) (p3 : Bool) => K .ret ⟨78, 2, [(1, .c (.ptr 0 0)), (2, .c (.v (.bool false))), (5, .c (.v (.int .i64 v1))), (8, .c (.ptr 1 0)), (12, .c (.l 79 s78 c1.1)), (13, .c (.v (.int .i64 c1.2.1))), (14, .c (.v (.int .i64 c1.2.2.1))), (28, .c (.l 81 s80 c1.2.2.2.1)), (29, .c (.v (.int .i64 c1.2.2.2.2.1))), (30, .c (.v (.int .i64 v1))), (36, .c (.l 79 s78 x1)), (37, .c (.v (.int .i64 (x1.length : Int)))), (38, .c (.v (.int .i64 v2))), (39, .c (.v (.bool (decide (v2 < (x1.length : Int)))))), (40, .c (.at_ [.v (.int .i64 x2.1), .v (.int .i64 x2.2.1), .v (.int .i64 x2.2.2.1), .v (.int .i64 x2.2.2.2.1), .v (.int .i64 x2.2.2.2.2.1), .v (.int .i64 x2.2.2.2.2.2)])), (41, .agg [.v (.int .i64 x2.1), .v (.int .i64 x2.2.1), .v (.int .i64 x2.2.2.1), .v (.int .i64 x2.2.2.2.1), .v (.int .i64 x2.2.2.2.2.1), .v (.int .i64 x2.2.2.2.2.2)]), (42, .c (.ptr 0 0)), (43, .agg [.v (.int .i64 c1.2.2.2.2.2.1.1), .l 112 s83 c1.2.2.2.2.2.1.2.1, .l 115 s114 c1.2.2.2.2.2.1.2.2.1, .v (.int .i64 c1.2.2.2.2.2.1.2.2.2.1), .v (.int .i64 c1.2.2.2.2.2.1.2.2.2.2.1), .v (.int .i64 c1.2.2.2.2.2.1.2.2.2.2.2.1), .v (.int .i64 c1.2.2.2.2.2.1.2.2.2.2.2.2.1), .v (.int .i64 c1.2.2.2.2.2.1.2.2.2.2.2.2.2.1), .l 120 s119 c1.2.2.2.2.2.1.2.2.2.2.2.2.2.2.1, .v (.int .i64 c1.2.2.2.2.2.1.2.2.2.2.2.2.2.2.2)]), (44, .c (.v (.int .i64 v1))), (45, .c (.v (.bool p3))), (46, .c (.v (.bool true))), (47, .c (.ptr 1 3)), (48, .c (.v (.int .i64 x2.2.2.2.1))), (49, .c (.v (.int .i64 v1))), (50, .c (.v (.bool (x2.2.2.2.1 != v1)))), (51, .c (.v (.bool (x2.2.2.2.1 != v1))))], [(0, .var [.v (.int .i64 c1.2.2.2.2.2.1.1), .l 112 s83 c1.2.2.2.2.2.1.2.1, .l 115 s114 c1.2.2.2.2.2.1.2.2.1, .v (.int .i64 c1.2.2.2.2.2.1.2.2.2.1), .v (.int .i64 c1.2.2.2.2.2.1.2.2.2.2.1), .v (.int .i64 c1.2.2.2.2.2.1.2.2.2.2.2.1), .v (.int .i64 c1.2.2.2.2.2.1.2.2.2.2.2.2.1), .v (.int .i64 c1.2.2.2.2.2.1.2.2.2.2.2.2.2.1), .l 120 s119 c1.2.2.2.2.2.1.2.2.2.2.2.2.2.2.1, .v (.int .i64 c1.2.2.2.2.2.1.2.2.2.2.2.2.2.2.2), .v (.int .i64 c1.2.2.2.2.2.2.1.1), .v (.int .i64 c1.2.2.2.2.2.2.1.2.1), .v (.int .i64 c1.2.2.2.2.2.2.1.2.2.1), .l 127 s126 c1.2.2.2.2.2.2.1.2.2.2, .l 3 (.i .i64) c1.2.2.2.2.2.2.2.1, .l 3 (.i .i64) c1.2.2.2.2.2.2.2.2.1, .l 139 s78 c1.2.2.2.2.2.2.2.2.2.1, .l 81 s80 c1.2.2.2.2.2.2.2.2.2.2.1, .l 141 s83 c1.2.2.2.2.2.2.2.2.2.2.2.1, .l 3 (.i .i64) c1.2.2.2.2.2.2.2.2.2.2.2.2.1, .l 144 s143 c1.2.2.2.2.2.2.2.2.2.2.2.2.2.1, .l 147 s83 c1.2.2.2.2.2.2.2.2.2.2.2.2.2.2.1, .v (.int .i64 c1.2.2.2.2.2.2.2.2.2.2.2.2.2.2.2.1), .v (.int .i64 c1.2.2.2.2.2.2.2.2.2.2.2.2.2.2.2.2.1), .l 79 s78 c1.2.2.2.2.2.2.2.2.2.2.2.2.2.2.2.2.2.1, .l 84 s83 c1.2.2.2.2.2.2.2.2.2.2.2.2.2.2.2.2.2.2]), (1, .var [.v (.int .i64 x2.1), .v (.int .i64 x2.2.1), .v (.int .i64 x2.2.2.1), .v (.int .i64 x2.2.2.2.1), .v (.int .i64 x2.2.2.2.2.1), .v (.int .i64 x2.2.2.2.2.2)])]⟩) (fun (v1 : V10_1) => K (.exit 2) ⟨78, 1, [(1, .c (.ptr 0 0)), (12, .c (.l 79 s78 c1.1)), (13, .c (.v (.int .i64 c1.2.1))), (14, .c (.v (.int .i64 c1.2.2.1))), (28, .c (.l 81 s80 c1.2.2.2.1)), (29, .c (.v (.int .i64 c1.2.2.2.2.1))), (30, .c (.v (.int .i64 v1))), (31, .c (.v (.bool (decide (v1 < c1.2.2.2.2.1)))))], [(0, .var [.v (.int .i64 c1.2.2.2.2.2.1.1), .l 112 s83 c1.2.2.2.2.2.1.2.1, .l 115 s114 c1.2.2.2.2.2.1.2.2.1, .v (.int .i64 c1.2.2.2.2.2.1.2.2.2.1), .v (.int .i64 c1.2.2.2.2.2.1.2.2.2.2.1), .v (.int .i64 c1.2.2.2.2.2.1.2.2.2.2.2.1), .v (.int .i64 c1.2.2.2.2.2.1.2.2.2.2.2.2.1), .v (.int .i64 c1.2.2.2.2.2.1.2.2.2.2.2.2.2.1), .l 120 s119 c1.2.2.2.2.2.1.2.2.2.2.2.2.2.2.1, .v (.int .i64 c1.2.2.2.2.2.1.2.2.2.2.2.2.2.2.2), .v (.int .i64 c1.2.2.2.2.2.2.1.1), .v (.int .i64 c1.2.2.2.2.2.2.1.2.1), .v (.int .i64 c1.2.2.2.2.2.2.1.2.2.1), .l 127 s126 c1.2.2.2.2.2.2.1.2.2.2, .l 3 (.i .i64) c1.2.2.2.2.2.2.2.1, .l 3 (.i .i64) c1.2.2.2.2.2.2.2.2.1, .l 139 s78 c1.2.2.2.2.2.2.2.2.2.1, .l 81 s80 c1.2.2.2.2.2.2.2.2.2.2.1, .l 141 s83 c1.2.2.2.2.2.2.2.2.2.2.2.1, .l 3 (.i .i64) c1.2.2.2.2.2.2.2.2.2.2.2.2.1, .l 144 s143 c1.2.2.2.2.2.2.2.2.2.2.2.2.2.1, .l 147 s83 c1.2.2.2.2.2.2.2.2.2.2.2.2.2.2.1, .v (.int .i64 c1.2.2.2.2.2.2.2.2.2.2.2.2.2.2.2.1), .v (.int .i64 c1.2.2.2.2.2.2.2.2.2.2.2.2.2.2.2.2.1), .l 79 s78 c1.2.2.2.2.2.2.2.2.2.2.2.2.2.2.2.2.2.1, .l 84 s83 c1.2.2.2.2.2.2.2.2.2.2.2.2.2.2.2.2.2.2])]⟩) c1 n v := by
  intro n
  induction n with
  | zero => intro v; rfl
  | succ n ih =>
    intro v
    refine (b10_1 k n K c1 v).trans ?_
    rw [funext ih]
    kernel_rfl
abbrev C10_0 : Type := (List (Int × Int × Int × Int × Int × Int)) × Int × T40
abbrev V10_0 : Type := Int
def St10_0 (c0 : C10_0) (v0 : V10_0) : St := ⟨78, 1, [(1, .c (.ptr 0 0)), (12, .c (.l 79 s78 c0.1)), (13, .c (.v (.int .i64 c0.2.1))), (14, .c (.v (.int .i64 v0)))], [(0, .var [.v (.int .i64 c0.2.2.1.1), .l 112 s83 c0.2.2.1.2.1, .l 115 s114 c0.2.2.1.2.2.1, .v (.int .i64 c0.2.2.1.2.2.2.1), .v (.int .i64 c0.2.2.1.2.2.2.2.1), .v (.int .i64 c0.2.2.1.2.2.2.2.2.1), .v (.int .i64 c0.2.2.1.2.2.2.2.2.2.1), .v (.int .i64 c0.2.2.1.2.2.2.2.2.2.2.1), .l 120 s119 c0.2.2.1.2.2.2.2.2.2.2.2.1, .v (.int .i64 c0.2.2.1.2.2.2.2.2.2.2.2.2), .v (.int .i64 c0.2.2.2.1.1), .v (.int .i64 c0.2.2.2.1.2.1), .v (.int .i64 c0.2.2.2.1.2.2.1), .l 127 s126 c0.2.2.2.1.2.2.2, .l 3 (.i .i64) c0.2.2.2.2.1, .l 3 (.i .i64) c0.2.2.2.2.2.1, .l 139 s78 c0.2.2.2.2.2.2.1, .l 81 s80 c0.2.2.2.2.2.2.2.1, .l 141 s83 c0.2.2.2.2.2.2.2.2.1, .l 3 (.i .i64) c0.2.2.2.2.2.2.2.2.2.1, .l 144 s143 c0.2.2.2.2.2.2.2.2.2.2.1, .l 147 s83 c0.2.2.2.2.2.2.2.2.2.2.2.1, .v (.int .i64 c0.2.2.2.2.2.2.2.2.2.2.2.2.1), .v (.int .i64 c0.2.2.2.2.2.2.2.2.2.2.2.2.2.1), .l 79 s78 c0.2.2.2.2.2.2.2.2.2.2.2.2.2.2.1, .l 84 s83 c0.2.2.2.2.2.2.2.2.2.2.2.2.2.2.2])]⟩
noncomputable def B10_0 {R : Type} (k : Nat) (X0 : V10_0 → (Int × Int × Int × Int × Int × Int) → Bool → Option R) (X1 : V10_0 → Option R) (c0 : C10_0) (rec : V10_0 → Option R) (v0 : V10_0) : Option R := if (decide (v0 < c0.2.1)) = true then if 0 ≤ v0 then ix c0.1 v0.toNat fun x1 => (F42 k c0.2.2.2.2.1 c0.2.2.2.1 x1.2.2.2.2.1).bind fun p2 => if (!p2) = true then X0 v0 x1 p2 else rec (IntKind.i64.wrap (v0 + 1)) else none else X1 v0
noncomputable def L10_0 {R : Type} (k : Nat) (X0 : V10_0 → (Int × Int × Int × Int × Int × Int) → Bool → Option R) (X1 : V10_0 → Option R) (c : C10_0) : Nat → V10_0 → Option R
  | 0, _ => none
  | n + 1, v => B10_0 k X0 X1 c (L10_0 k X0 X1 c n) v
theorem b10_0 {R : Type} (k n : Nat) (K : Ex → St → Option R) (c0 : C10_0) (v : V10_0) : loopRun [1, 12, 13, 14] (run E (den E k) (lv 10) k (nthLoop Tryz.f10 0)) (n + 1) (St10_0 c0 v) K = B10_0 k (fun (v0 : V10_0) (x1 : Int × Int × Int × Int × Int × Int) (p2 : Bool) => K .ret ⟨78, 2, [(1, .c (.ptr 0 0)), (2, .c (.v (.bool false))), (4, .c (.ptr 1 0)), (12, .c (.l 79 s78 c0.1)), (13, .c (.v (.int .i64 c0.2.1))), (14, .c (.v (.int .i64 v0))), (15, .c (.v (.bool (decide (v0 < c0.2.1))))), (16, .c (.at_ [.v (.int .i64 x1.1), .v (.int .i64 x1.2.1), .v (.int .i64 x1.2.2.1), .v (.int .i64 x1.2.2.2.1), .v (.int .i64 x1.2.2.2.2.1), .v (.int .i64 x1.2.2.2.2.2)])), (17, .agg [.v (.int .i64 x1.1), .v (.int .i64 x1.2.1), .v (.int .i64 x1.2.2.1), .v (.int .i64 x1.2.2.2.1), .v (.int .i64 x1.2.2.2.2.1), .v (.int .i64 x1.2.2.2.2.2)]), (18, .c (.ptr 0 14)), (19, .agg [.l 3 (.i .i64) c0.2.2.2.2.1]), (20, .c (.ptr 0 10)), (21, .agg [.v (.int .i64 c0.2.2.2.1.1), .v (.int .i64 c0.2.2.2.1.2.1), .v (.int .i64 c0.2.2.2.1.2.2.1), .l 127 s126 c0.2.2.2.1.2.2.2]), (22, .c (.ptr 1 4)), (23, .c (.v (.int .i64 x1.2.2.2.2.1))), (24, .c (.v (.bool p2))), (25, .c (.v (.bool (!p2))))], [(0, .var [.v (.int .i64 c0.2.2.1.1), .l 112 s83 c0.2.2.1.2.1, .l 115 s114 c0.2.2.1.2.2.1, .v (.int .i64 c0.2.2.1.2.2.2.1), .v (.int .i64 c0.2.2.1.2.2.2.2.1), .v (.int .i64 c0.2.2.1.2.2.2.2.2.1), .v (.int .i64 c0.2.2.1.2.2.2.2.2.2.1), .v (.int .i64 c0.2.2.1.2.2.2.2.2.2.2.1), .l 120 s119 c0.2.2.1.2.2.2.2.2.2.2.2.1, .v (.int .i64 c0.2.2.1.2.2.2.2.2.2.2.2.2), .v (.int .i64 c0.2.2.2.1.1), .v (.int .i64 c0.2.2.2.1.2.1), .v (.int .i64 c0.2.2.2.1.2.2.1), .l 127 s126 c0.2.2.2.1.2.2.2, .l 3 (.i .i64) c0.2.2.2.2.1, .l 3 (.i .i64) c0.2.2.2.2.2.1, .l 139 s78 c0.2.2.2.2.2.2.1, .l 81 s80 c0.2.2.2.2.2.2.2.1, .l 141 s83 c0.2.2.2.2.2.2.2.2.1, .l 3 (.i .i64) c0.2.2.2.2.2.2.2.2.2.1, .l 144 s143 c0.2.2.2.2.2.2.2.2.2.2.1, .l 147 s83 c0.2.2.2.2.2.2.2.2.2.2.2.1, .v (.int .i64 c0.2.2.2.2.2.2.2.2.2.2.2.2.1), .v (.int .i64 c0.2.2.2.2.2.2.2.2.2.2.2.2.2.1), .l 79 s78 c0.2.2.2.2.2.2.2.2.2.2.2.2.2.2.1, .l 84 s83 c0.2.2.2.2.2.2.2.2.2.2.2.2.2.2.2]), (1, .var [.v (.int .i64 x1.1), .v (.int .i64 x1.2.1), .v (.int .i64 x1.2.2.1), .v (.int .i64 x1.2.2.2.1), .v (.int .i64 x1.2.2.2.2.1), .v (.int .i64 x1.2.2.2.2.2)])]⟩) (fun (v0 : V10_0) => K (.exit 0) ⟨78, 1, [(1, .c (.ptr 0 0)), (12, .c (.l 79 s78 c0.1)), (13, .c (.v (.int .i64 c0.2.1))), (14, .c (.v (.int .i64 v0))), (15, .c (.v (.bool (decide (v0 < c0.2.1)))))], [(0, .var [.v (.int .i64 c0.2.2.1.1), .l 112 s83 c0.2.2.1.2.1, .l 115 s114 c0.2.2.1.2.2.1, .v (.int .i64 c0.2.2.1.2.2.2.1), .v (.int .i64 c0.2.2.1.2.2.2.2.1), .v (.int .i64 c0.2.2.1.2.2.2.2.2.1), .v (.int .i64 c0.2.2.1.2.2.2.2.2.2.1), .v (.int .i64 c0.2.2.1.2.2.2.2.2.2.2.1), .l 120 s119 c0.2.2.1.2.2.2.2.2.2.2.2.1, .v (.int .i64 c0.2.2.1.2.2.2.2.2.2.2.2.2), .v (.int .i64 c0.2.2.2.1.1), .v (.int .i64 c0.2.2.2.1.2.1), .v (.int .i64 c0.2.2.2.1.2.2.1), .l 127 s126 c0.2.2.2.1.2.2.2, .l 3 (.i .i64) c0.2.2.2.2.1, .l 3 (.i .i64) c0.2.2.2.2.2.1, .l 139 s78 c0.2.2.2.2.2.2.1, .l 81 s80 c0.2.2.2.2.2.2.2.1, .l 141 s83 c0.2.2.2.2.2.2.2.2.1, .l 3 (.i .i64) c0.2.2.2.2.2.2.2.2.2.1, .l 144 s143 c0.2.2.2.2.2.2.2.2.2.2.1, .l 147 s83 c0.2.2.2.2.2.2.2.2.2.2.2.1, .v (.int .i64 c0.2.2.2.2.2.2.2.2.2.2.2.2.1), .v (.int .i64 c0.2.2.2.2.2.2.2.2.2.2.2.2.2.1), .l 79 s78 c0.2.2.2.2.2.2.2.2.2.2.2.2.2.2.1, .l 84 s83 c0.2.2.2.2.2.2.2.2.2.2.2.2.2.2.2])]⟩) c0 (fun v => loopRun [1, 12, 13, 14] (run E (den E k) (lv 10) k (nthLoop Tryz.f10 0)) n (St10_0 c0 v) K) v := by kernel_rfl
theorem l10_0 {R : Type} (k : Nat) (K : Ex → St → Option R) (c0 : C10_0) : ∀ (n : Nat) (v : V10_0), loopRun [1, 12, 13, 14] (run E (den E k) (lv 10) k (nthLoop Tryz.f10 0)) n (St10_0 c0 v) K = L10_0 k (fun (v0 : V10_0) (x1 : Int × Int × Int × Int × Int × Int) (p2 : Bool) => K .ret ⟨78, 2, [(1, .c (.ptr 0 0)), (2, .c (.v (.bool false))), (4, .c (.ptr 1 0)), (12, .c (.l 79 s78 c0.1)), (13, .c (.v (.int .i64 c0.2.1))), (14, .c (.v (.int .i64 v0))), (15, .c (.v (.bool (decide (v0 < c0.2.1))))), (16, .c (.at_ [.v (.int .i64 x1.1), .v (.int .i64 x1.2.1), .v (.int .i64 x1.2.2.1), .v (.int .i64 x1.2.2.2.1), .v (.int .i64 x1.2.2.2.2.1), .v (.int .i64 x1.2.2.2.2.2)])), (17, .agg [.v (.int .i64 x1.1), .v (.int .i64 x1.2.1), .v (.int .i64 x1.2.2.1), .v (.int .i64 x1.2.2.2.1), .v (.int .i64 x1.2.2.2.2.1), .v (.int .i64 x1.2.2.2.2.2)]), (18, .c (.ptr 0 14)), (19, .agg [.l 3 (.i .i64) c0.2.2.2.2.1]), (20, .c (.ptr 0 10)), (21, .agg [.v (.int .i64 c0.2.2.2.1.1), .v (.int .i64 c0.2.2.2.1.2.1), .v (.int .i64 c0.2.2.2.1.2.2.1), .l 127 s126 c0.2.2.2.1.2.2.2]), (22, .c (.ptr 1 4)), (23, .c (.v (.int .i64 x1.2.2.2.2.1))), (24, .c (.v (.bool p2))), (25, .c (.v (.bool (!p2))))], [(0, .var [.v (.int .i64 c0.2.2.1.1), .l 112 s83 c0.2.2.1.2.1, .l 115 s114 c0.2.2.1.2.2.1, .v (.int .i64 c0.2.2.1.2.2.2.1), .v (.int .i64 c0.2.2.1.2.2.2.2.1), .v (.int .i64 c0.2.2.1.2.2.2.2.2.1), .v (.int .i64 c0.2.2.1.2.2.2.2.2.2.1), .v (.int .i64 c0.2.2.1.2.2.2.2.2.2.2.1), .l 120 s119 c0.2.2.1.2.2.2.2.2.2.2.2.1, .v (.int .i64 c0.2.2.1.2.2.2.2.2.2.2.2.2), .v (.int .i64 c0.2.2.2.1.1), .v (.int .i64 c0.2.2.2.1.2.1), .v (.int .i64 c0.2.2.2.1.2.2.1), .l 127 s126 c0.2.2.2.1.2.2.2, .l 3 (.i .i64) c0.2.2.2.2.1, .l 3 (.i .i64) c0.2.2.2.2.2.1, .l 139 s78 c0.2.2.2.2.2.2.1, .l 81 s80 c0.2.2.2.2.2.2.2.1, .l 141 s83 c0.2.2.2.2.2.2.2.2.1, .l 3 (.i .i64) c0.2.2.2.2.2.2.2.2.2.1, .l 144 s143 c0.2.2.2.2.2.2.2.2.2.2.1, .l 147 s83 c0.2.2.2.2.2.2.2.2.2.2.2.1, .v (.int .i64 c0.2.2.2.2.2.2.2.2.2.2.2.2.1), .v (.int .i64 c0.2.2.2.2.2.2.2.2.2.2.2.2.2.1), .l 79 s78 c0.2.2.2.2.2.2.2.2.2.2.2.2.2.2.1, .l 84 s83 c0.2.2.2.2.2.2.2.2.2.2.2.2.2.2.2]), (1, .var [.v (.int .i64 x1.1), .v (.int .i64 x1.2.1), .v (.int .i64 x1.2.2.1), .v (.int .i64 x1.2.2.2.1), .v (.int .i64 x1.2.2.2.2.1), .v (.int .i64 x1.2.2.2.2.2)])]⟩) (fun (v0 : V10_0) => K (.exit 0) ⟨78, 1, [(1, .c (.ptr 0 0)), (12, .c (.l 79 s78 c0.1)), (13, .c (.v (.int .i64 c0.2.1))), (14, .c (.v (.int .i64 v0))), (15, .c (.v (.bool (decide (v0 < c0.2.1)))))], [(0, .var [.v (.int .i64 c0.2.2.1.1), .l 112 s83 c0.2.2.1.2.1, .l 115 s114 c0.2.2.1.2.2.1, .v (.int .i64 c0.2.2.1.2.2.2.1), .v (.int .i64 c0.2.2.1.2.2.2.2.1), .v (.int .i64 c0.2.2.1.2.2.2.2.2.1), .v (.int .i64 c0.2.2.1.2.2.2.2.2.2.1), .v (.int .i64 c0.2.2.1.2.2.2.2.2.2.2.1), .l 120 s119 c0.2.2.1.2.2.2.2.2.2.2.2.1, .v (.int .i64 c0.2.2.1.2.2.2.2.2.2.2.2.2), .v (.int .i64 c0.2.2.2.1.1), .v (.int .i64 c0.2.2.2.1.2.1), .v (.int .i64 c0.2.2.2.1.2.2.1), .l 127 s126 c0.2.2.2.1.2.2.2, .l 3 (.i .i64) c0.2.2.2.2.1, .l 3 (.i .i64) c0.2.2.2.2.2.1, .l 139 s78 c0.2.2.2.2.2.2.1, .l 81 s80 c0.2.2.2.2.2.2.2.1, .l 141 s83 c0.2.2.2.2.2.2.2.2.1, .l 3 (.i .i64) c0.2.2.2.2.2.2.2.2.2.1, .l 144 s143 c0.2.2.2.2.2.2.2.2.2.2.1, .l 147 s83 c0.2.2.2.2.2.2.2.2.2.2.2.1, .v (.int .i64 c0.2.2.2.2.2.2.2.2.2.2.2.2.1), .v (.int .i64 c0.2.2.2.2.2.2.2.2.2.2.2.2.2.1), .l 79 s78 c0.2.2.2.2.2.2.2.2.2.2.2.2.2.2.1, .l 84 s83 c0.2.2.2.2.2.2.2.2.2.2.2.2.2.2.2])]⟩) c0 n v := by
  intro n
  induction n with
  | zero => intro v; rfl
  | succ n ih =>
    intro v
    refine (b10_0 k n K c0 v).trans ?_
    rw [funext ih]
    kernel_rfl
theorem m10_0 (k : Nat) (a0 : T40) : F10 (k + 1) a0 = loopRun (R := Bool) [1, 12, 13, 14] (run E (den E k) (lv 10) k (nthLoop Tryz.f10 0)) k (St10_0 (a0.2.2.2.2.2.2.2.2.2.2.2.2.1, (a0.2.2.2.2.2.2.2.2.2.2.2.2.1.length : Int), a0) 0) (kontAt E (den E k) (lv 10) k (bodyOf Tryz.f10) 0 [] (finish E (rs 10) Tryz.f10 : Ex → St → Option (Bool))) := by kernel_rfl
theorem m10_1 (k : Nat) (a0 : T40) : F10 (k + 1) a0 = L10_0 k (fun (v0 : Int) (x1 : Int × Int × Int × Int × Int × Int) (p2 : Bool) => some false) (fun (v0 : Int) => loopRun (R := Bool) [1, 12, 13, 14, 28, 29, 30] (run E (den E k) (lv 10) k (nthLoop Tryz.f10 1)) k (St10_1 (a0.2.2.2.2.2.2.2.2.2.2.2.2.1, (a0.2.2.2.2.2.2.2.2.2.2.2.2.1.length : Int), v0, a0.2.2.2.2.2.1, (a0.2.2.2.2.2.1.length : Int), a0) 0) (kontAt E (den E k) (lv 10) k (bodyOf Tryz.f10) 1 [] (finish E (rs 10) Tryz.f10 : Ex → St → Option (Bool)))) (a0.2.2.2.2.2.2.2.2.2.2.2.2.1, (a0.2.2.2.2.2.2.2.2.2.2.2.2.1.length : Int), a0) k 0 := by 
  rw [m10_0]
  simp only [l10_0]
  kernel_rfl
theorem m10_2 (k : Nat) (a0 : T40) : F10 (k + 1) a0 = L10_0 k (fun (v0 : Int) (x1 : Int × Int × Int × Int × Int × Int) (p2 : Bool) => some false) (fun (v0 : Int) => L10_1 k (fun (v1 : Int) (x1 : List (Int × Int × Int × Int × Int × Int)) (v2 : Int) (x2 : Int × Int × Int × Int × Int × Int) (p3 : Bool) => some false) (fun (v1 : Int) => loopRun (R := Bool) [1, 12, 13, 14, 28, 29, 30, 55, 56, 57] (run E (den E k) (lv 10) k (nthLoop Tryz.f10 3)) k (St10_3 (a0.2.2.2.2.2.2.2.2.2.2.2.2.1, (a0.2.2.2.2.2.2.2.2.2.2.2.2.1.length : Int), v0, a0.2.2.2.2.2.1, (a0.2.2.2.2.2.1.length : Int), v1, a0.2.2.2.2.2.2.2.2.2.2.2.2.2, (a0.2.2.2.2.2.2.2.2.2.2.2.2.2.length : Int), a0) 0) (kontAt E (den E k) (lv 10) k (bodyOf Tryz.f10) 3 [] (finish E (rs 10) Tryz.f10 : Ex → St → Option (Bool)))) (a0.2.2.2.2.2.2.2.2.2.2.2.2.1, (a0.2.2.2.2.2.2.2.2.2.2.2.2.1.length : Int), v0, a0.2.2.2.2.2.1, (a0.2.2.2.2.2.1.length : Int), a0) k 0) (a0.2.2.2.2.2.2.2.2.2.2.2.2.1, (a0.2.2.2.2.2.2.2.2.2.2.2.2.1.length : Int), a0) k 0 := by 
  rw [m10_1]
  simp only [l10_1]
  kernel_rfl
theorem e10 (k : Nat) (a0 : T40) : F10 (k + 1) a0 = L10_0 k (fun (v0 : Int) (x1 : Int × Int × Int × Int × Int × Int) (p2 : Bool) => some false) (fun (v0 : Int) => L10_1 k (fun (v1 : Int) (x1 : List (Int × Int × Int × Int × Int × Int)) (v2 : Int) (x2 : Int × Int × Int × Int × Int × Int) (p3 : Bool) => some false) (fun (v1 : Int) => L10_3 k (fun (v3 : Int) (x1 : Int × Int × Int × Int) (p2 : Bool) => some false) (fun (v3 : Int) => some true) (a0.2.2.2.2.2.2.2.2.2.2.2.2.1, (a0.2.2.2.2.2.2.2.2.2.2.2.2.1.length : Int), v0, a0.2.2.2.2.2.1, (a0.2.2.2.2.2.1.length : Int), v1, a0.2.2.2.2.2.2.2.2.2.2.2.2.2, (a0.2.2.2.2.2.2.2.2.2.2.2.2.2.length : Int), a0) k 0) (a0.2.2.2.2.2.2.2.2.2.2.2.2.1, (a0.2.2.2.2.2.2.2.2.2.2.2.2.1.length : Int), v0, a0.2.2.2.2.2.1, (a0.2.2.2.2.2.1.length : Int), a0) k 0) (a0.2.2.2.2.2.2.2.2.2.2.2.2.1, (a0.2.2.2.2.2.2.2.2.2.2.2.2.1.length : Int), a0) k 0 := by
  rw [m10_2]
  simp only [l10_3]
  kernel_rfl
/-! loop.example/g00599/laws.eqSat -/
noncomputable def F141 (k : Nat) (a0 : Int × Int × Int × Int) (a1 : Int × Int × Int × Int) : Option (Bool) := den E k 141 [.agg [.v (.int .i64 a0.1), .v (.int .i64 a0.2.1), .v (.int .i64 a0.2.2.1), .v (.int .i64 a0.2.2.2)], .agg [.v (.int .i64 a1.1), .v (.int .i64 a1.2.1), .v (.int .i64 a1.2.2.1), .v (.int .i64 a1.2.2.2)]]
theorem e141 (k : Nat) (a0 : Int × Int × Int × Int) (a1 : Int × Int × Int × Int) : F141 (k + 1) a0 a1 = if (a0.1 != a1.1) = true then some false else if (a0.2.1 != a1.2.1) = true then some false else if (a0.2.2.1 != a1.2.2.1) = true then some false else if (a0.2.2.2 != a1.2.2.2) = true then some false else some true := by kernel_rfl
/-! loop.example/g00599/laws.eqSatS -/
noncomputable def F108 (k : Nat) (a0 : List (Int × Int × Int × Int)) (a1 : List (Int × Int × Int × Int)) : Option (Bool) := den E k 108 [.c (.l 112 s83 a0), .c (.l 112 s83 a1)]
abbrev C108_0 : Type := (List (Int × Int × Int × Int)) × (List (Int × Int × Int × Int))
abbrev V108_0 : Type := Int
def St108_0 (c0 : C108_0) (v0 : V108_0) : St := ⟨27, 0, [(0, .c (.l 112 s83 c0.1)), (1, .c (.l 112 s83 c0.2)), (5, .c (.v (.int .i64 v0)))], []⟩
noncomputable def B108_0 {R : Type} (k : Nat) (X0 : V108_0 → (Int × Int × Int × Int) → (Int × Int × Int × Int) → Bool → Option R) (X1 : V108_0 → Option R) (c0 : C108_0) (rec : V108_0 → Option R) (v0 : V108_0) : Option R := if (decide (v0 < (c0.1.length : Int))) = true then if 0 ≤ v0 then ix c0.1 v0.toNat fun x1 => if 0 ≤ v0 then ix c0.2 v0.toNat fun x2 => (F141 k x1 x2).bind fun p3 => if (!p3) = true then X0 v0 x1 x2 p3 else rec (IntKind.i64.wrap (v0 + 1)) else none else none else X1 v0
noncomputable def L108_0 {R : Type} (k : Nat) (X0 : V108_0 → (Int × Int × Int × Int) → (Int × Int × Int × Int) → Bool → Option R) (X1 : V108_0 → Option R) (c : C108_0) : Nat → V108_0 → Option R
  | 0, _ => none
  | n + 1, v => B108_0 k X0 X1 c (L108_0 k X0 X1 c n) v
theorem b108_0 {R : Type} (k n : Nat) (K : Ex → St → Option R) (c0 : C108_0) (v : V108_0) : loopRun [0, 1, 5] (run E (den E k) (lv 108) k (nthLoop Tryz.f108 0)) (n + 1) (St108_0 c0 v) K = B108_0 k (fun (v0 : V108_0) (x1 : Int × Int × Int × Int) (x2 : Int × Int × Int × Int) (p3 : Bool) => K .ret ⟨27, 0, [(0, .c (.l 112 s83 c0.1)), (1, .c (.l 112 s83 c0.2)), (4, .c (.v (.bool false))), (5, .c (.v (.int .i64 v0))), (11, .c (.v (.int .i64 v0))), (12, .c (.l 112 s83 c0.1)), (13, .c (.v (.int .i64 (c0.1.length : Int)))), (14, .c (.v (.bool (decide (v0 < (c0.1.length : Int)))))), (17, .c (.l 112 s83 c0.1)), (18, .c (.v (.int .i64 v0))), (19, .c (.at_ [.v (.int .i64 x1.1), .v (.int .i64 x1.2.1), .v (.int .i64 x1.2.2.1), .v (.int .i64 x1.2.2.2)])), (20, .agg [.v (.int .i64 x1.1), .v (.int .i64 x1.2.1), .v (.int .i64 x1.2.2.1), .v (.int .i64 x1.2.2.2)]), (21, .c (.l 112 s83 c0.2)), (22, .c (.v (.int .i64 v0))), (23, .c (.at_ [.v (.int .i64 x2.1), .v (.int .i64 x2.2.1), .v (.int .i64 x2.2.2.1), .v (.int .i64 x2.2.2.2)])), (24, .agg [.v (.int .i64 x2.1), .v (.int .i64 x2.2.1), .v (.int .i64 x2.2.2.1), .v (.int .i64 x2.2.2.2)]), (25, .c (.v (.bool p3))), (26, .c (.v (.bool (!p3))))], []⟩) (fun (v0 : V108_0) => K (.exit 0) ⟨27, 0, [(0, .c (.l 112 s83 c0.1)), (1, .c (.l 112 s83 c0.2)), (5, .c (.v (.int .i64 v0))), (11, .c (.v (.int .i64 v0))), (12, .c (.l 112 s83 c0.1)), (13, .c (.v (.int .i64 (c0.1.length : Int)))), (14, .c (.v (.bool (decide (v0 < (c0.1.length : Int))))))], []⟩) c0 (fun v => loopRun [0, 1, 5] (run E (den E k) (lv 108) k (nthLoop Tryz.f108 0)) n (St108_0 c0 v) K) v := by kernel_rfl
theorem l108_0 {R : Type} (k : Nat) (K : Ex → St → Option R) (c0 : C108_0) : ∀ (n : Nat) (v : V108_0), loopRun [0, 1, 5] (run E (den E k) (lv 108) k (nthLoop Tryz.f108 0)) n (St108_0 c0 v) K = L108_0 k (fun (v0 : V108_0) (x1 : Int × Int × Int × Int) (x2 : Int × Int × Int × Int) (p3 : Bool) => K .ret ⟨27, 0, [(0, .c (.l 112 s83 c0.1)), (1, .c (.l 112 s83 c0.2)), (4, .c (.v (.bool false))), (5, .c (.v (.int .i64 v0))), (11, .c (.v (.int .i64 v0))), (12, .c (.l 112 s83 c0.1)), (13, .c (.v (.int .i64 (c0.1.length : Int)))), (14, .c (.v (.bool (decide (v0 < (c0.1.length : Int)))))), (17, .c (.l 112 s83 c0.1)), (18, .c (.v (.int .i64 v0))), (19, .c (.at_ [.v (.int .i64 x1.1), .v (.int .i64 x1.2.1), .v (.int .i64 x1.2.2.1), .v (.int .i64 x1.2.2.2)])), (20, .agg [.v (.int .i64 x1.1), .v (.int .i64 x1.2.1), .v (.int .i64 x1.2.2.1), .v (.int .i64 x1.2.2.2)]), (21, .c (.l 112 s83 c0.2)), (22, .c (.v (.int .i64 v0))), (23, .c (.at_ [.v (.int .i64 x2.1), .v (.int .i64 x2.2.1), .v (.int .i64 x2.2.2.1), .v (.int .i64 x2.2.2.2)])), (24, .agg [.v (.int .i64 x2.1), .v (.int .i64 x2.2.1), .v (.int .i64 x2.2.2.1), .v (.int .i64 x2.2.2.2)]), (25, .c (.v (.bool p3))), (26, .c (.v (.bool (!p3))))], []⟩) (fun (v0 : V108_0) => K (.exit 0) ⟨27, 0, [(0, .c (.l 112 s83 c0.1)), (1, .c (.l 112 s83 c0.2)), (5, .c (.v (.int .i64 v0))), (11, .c (.v (.int .i64 v0))), (12, .c (.l 112 s83 c0.1)), (13, .c (.v (.int .i64 (c0.1.length : Int)))), (14, .c (.v (.bool (decide (v0 < (c0.1.length : Int))))))], []⟩) c0 n v := by
  intro n
  induction n with
  | zero => intro v; rfl
  | succ n ih =>
    intro v
    refine (b108_0 k n K c0 v).trans ?_
    rw [funext ih]
    kernel_rfl
theorem m108_0 (k : Nat) (a0 : List (Int × Int × Int × Int)) (a1 : List (Int × Int × Int × Int)) : F108 (k + 1) a0 a1 = if ((a0.length : Int) != (a1.length : Int)) = true then some false else loopRun (R := Bool) [0, 1, 5] (run E (den E k) (lv 108) k (nthLoop Tryz.f108 0)) k (St108_0 (a0, a1) 0) (kontAt E (den E k) (lv 108) k (bodyOf Tryz.f108) 0 [] (finish E (rs 108) Tryz.f108 : Ex → St → Option (Bool))) := by kernel_rfl
theorem e108 (k : Nat) (a0 : List (Int × Int × Int × Int)) (a1 : List (Int × Int × Int × Int)) : F108 (k + 1) a0 a1 = if ((a0.length : Int) != (a1.length : Int)) = true then some false else L108_0 k (fun (v0 : Int) (x1 : Int × Int × Int × Int) (x2 : Int × Int × Int × Int) (p3 : Bool) => some false) (fun (v0 : Int) => some true) (a0, a1) k 0 := by
  rw [m108_0]
  simp only [l108_0]
  kernel_rfl
/-! loop.example/g00599/laws.eqSite -/
noncomputable def F142 (k : Nat) (a0 : Int × Int × Int) (a1 : Int × Int × Int) : Option (Bool) := den E k 142 [.agg [.v (.int .i64 a0.1), .v (.int .i64 a0.2.1), .v (.int .i64 a0.2.2)], .agg [.v (.int .i64 a1.1), .v (.int .i64 a1.2.1), .v (.int .i64 a1.2.2)]]
theorem e142 (k : Nat) (a0 : Int × Int × Int) (a1 : Int × Int × Int) : F142 (k + 1) a0 a1 = if (a0.1 != a1.1) = true then some false else if (a0.2.1 != a1.2.1) = true then some false else if (a0.2.2 != a1.2.2) = true then some false else some true := by kernel_rfl
/-! loop.example/g00599/laws.eqSiteS -/
noncomputable def F109 (k : Nat) (a0 : List (Int × Int × Int)) (a1 : List (Int × Int × Int)) : Option (Bool) := den E k 109 [.c (.l 115 s114 a0), .c (.l 115 s114 a1)]
abbrev C109_0 : Type := (List (Int × Int × Int)) × (List (Int × Int × Int))
abbrev V109_0 : Type := Int
def St109_0 (c0 : C109_0) (v0 : V109_0) : St := ⟨27, 0, [(0, .c (.l 115 s114 c0.1)), (1, .c (.l 115 s114 c0.2)), (5, .c (.v (.int .i64 v0)))], []⟩
noncomputable def B109_0 {R : Type} (k : Nat) (X0 : V109_0 → (Int × Int × Int) → (Int × Int × Int) → Bool → Option R) (X1 : V109_0 → Option R) (c0 : C109_0) (rec : V109_0 → Option R) (v0 : V109_0) : Option R := if (decide (v0 < (c0.1.length : Int))) = true then if 0 ≤ v0 then ix c0.1 v0.toNat fun x1 => if 0 ≤ v0 then ix c0.2 v0.toNat fun x2 => (F142 k x1 x2).bind fun p3 => if (!p3) = true then X0 v0 x1 x2 p3 else rec (IntKind.i64.wrap (v0 + 1)) else none else none else X1 v0
noncomputable def L109_0 {R : Type} (k : Nat) (X0 : V109_0 → (Int × Int × Int) → (Int × Int × Int) → Bool → Option R) (X1 : V109_0 → Option R) (c : C109_0) : Nat → V109_0 → Option R
  | 0, _ => none
  | n + 1, v => B109_0 k X0 X1 c (L109_0 k X0 X1 c n) v
theorem b109_0 {R : Type} (k n : Nat) (K : Ex → St → Option R) (c0 : C109_0) (v : V109_0) : loopRun [0, 1, 5] (run E (den E k) (lv 109) k (nthLoop Tryz.f109 0)) (n + 1) (St109_0 c0 v) K = B109_0 k (fun (v0 : V109_0) (x1 : Int × Int × Int) (x2 : Int × Int × Int) (p3 : Bool) => K .ret ⟨27, 0, [(0, .c (.l 115 s114 c0.1)), (1, .c (.l 115 s114 c0.2)), (4, .c (.v (.bool false))), (5, .c (.v (.int .i64 v0))), (11, .c (.v (.int .i64 v0))), (12, .c (.l 115 s114 c0.1)), (13, .c (.v (.int .i64 (c0.1.length : Int)))), (14, .c (.v (.bool (decide (v0 < (c0.1.length : Int)))))), (17, .c (.l 115 s114 c0.1)), (18, .c (.v (.int .i64 v0))), (19, .c (.at_ [.v (.int .i64 x1.1), .v (.int .i64 x1.2.1), .v (.int .i64 x1.2.2)])), (20, .agg [.v (.int .i64 x1.1), .v (.int .i64 x1.2.1), .v (.int .i64 x1.2.2)]), (21, .c (.l 115 s114 c0.2)), (22, .c (.v (.int .i64 v0))), (23, .c (.at_ [.v (.int .i64 x2.1), .v (.int .i64 x2.2.1), .v (.int .i64 x2.2.2)])), (24, .agg [.v (.int .i64 x2.1), .v (.int .i64 x2.2.1), .v (.int .i64 x2.2.2)]), (25, .c (.v (.bool p3))), (26, .c (.v (.bool (!p3))))], []⟩) (fun (v0 : V109_0) => K (.exit 0) ⟨27, 0, [(0, .c (.l 115 s114 c0.1)), (1, .c (.l 115 s114 c0.2)), (5, .c (.v (.int .i64 v0))), (11, .c (.v (.int .i64 v0))), (12, .c (.l 115 s114 c0.1)), (13, .c (.v (.int .i64 (c0.1.length : Int)))), (14, .c (.v (.bool (decide (v0 < (c0.1.length : Int))))))], []⟩) c0 (fun v => loopRun [0, 1, 5] (run E (den E k) (lv 109) k (nthLoop Tryz.f109 0)) n (St109_0 c0 v) K) v := by kernel_rfl
theorem l109_0 {R : Type} (k : Nat) (K : Ex → St → Option R) (c0 : C109_0) : ∀ (n : Nat) (v : V109_0), loopRun [0, 1, 5] (run E (den E k) (lv 109) k (nthLoop Tryz.f109 0)) n (St109_0 c0 v) K = L109_0 k (fun (v0 : V109_0) (x1 : Int × Int × Int) (x2 : Int × Int × Int) (p3 : Bool) => K .ret ⟨27, 0, [(0, .c (.l 115 s114 c0.1)), (1, .c (.l 115 s114 c0.2)), (4, .c (.v (.bool false))), (5, .c (.v (.int .i64 v0))), (11, .c (.v (.int .i64 v0))), (12, .c (.l 115 s114 c0.1)), (13, .c (.v (.int .i64 (c0.1.length : Int)))), (14, .c (.v (.bool (decide (v0 < (c0.1.length : Int)))))), (17, .c (.l 115 s114 c0.1)), (18, .c (.v (.int .i64 v0))), (19, .c (.at_ [.v (.int .i64 x1.1), .v (.int .i64 x1.2.1), .v (.int .i64 x1.2.2)])), (20, .agg [.v (.int .i64 x1.1), .v (.int .i64 x1.2.1), .v (.int .i64 x1.2.2)]), (21, .c (.l 115 s114 c0.2)), (22, .c (.v (.int .i64 v0))), (23, .c (.at_ [.v (.int .i64 x2.1), .v (.int .i64 x2.2.1), .v (.int .i64 x2.2.2)])), (24, .agg [.v (.int .i64 x2.1), .v (.int .i64 x2.2.1), .v (.int .i64 x2.2.2)]), (25, .c (.v (.bool p3))), (26, .c (.v (.bool (!p3))))], []⟩) (fun (v0 : V109_0) => K (.exit 0) ⟨27, 0, [(0, .c (.l 115 s114 c0.1)), (1, .c (.l 115 s114 c0.2)), (5, .c (.v (.int .i64 v0))), (11, .c (.v (.int .i64 v0))), (12, .c (.l 115 s114 c0.1)), (13, .c (.v (.int .i64 (c0.1.length : Int)))), (14, .c (.v (.bool (decide (v0 < (c0.1.length : Int))))))], []⟩) c0 n v := by
  intro n
  induction n with
  | zero => intro v; rfl
  | succ n ih =>
    intro v
    refine (b109_0 k n K c0 v).trans ?_
    rw [funext ih]
    kernel_rfl
theorem m109_0 (k : Nat) (a0 : List (Int × Int × Int)) (a1 : List (Int × Int × Int)) : F109 (k + 1) a0 a1 = if ((a0.length : Int) != (a1.length : Int)) = true then some false else loopRun (R := Bool) [0, 1, 5] (run E (den E k) (lv 109) k (nthLoop Tryz.f109 0)) k (St109_0 (a0, a1) 0) (kontAt E (den E k) (lv 109) k (bodyOf Tryz.f109) 0 [] (finish E (rs 109) Tryz.f109 : Ex → St → Option (Bool))) := by kernel_rfl
theorem e109 (k : Nat) (a0 : List (Int × Int × Int)) (a1 : List (Int × Int × Int)) : F109 (k + 1) a0 a1 = if ((a0.length : Int) != (a1.length : Int)) = true then some false else L109_0 k (fun (v0 : Int) (x1 : Int × Int × Int) (x2 : Int × Int × Int) (p3 : Bool) => some false) (fun (v0 : Int) => some true) (a0, a1) k 0 := by
  rw [m109_0]
  simp only [l109_0]
  kernel_rfl
/-! loop.example/g00599/laws.eqArc -/
noncomputable def F163 (k : Nat) (a0 : Int × Int) (a1 : Int × Int) : Option (Bool) := den E k 163 [.agg [.v (.int .i64 a0.1), .v (.int .i64 a0.2)], .agg [.v (.int .i64 a1.1), .v (.int .i64 a1.2)]]
theorem e163 (k : Nat) (a0 : Int × Int) (a1 : Int × Int) : F163 (k + 1) a0 a1 = if (a0.1 != a1.1) = true then some false else if (a0.2 != a1.2) = true then some false else some true := by kernel_rfl
/-! loop.example/g00599/laws.eqZone -/
noncomputable def F143 (k : Nat) (a0 : Int × Int × Int) (a1 : Int × Int × Int) : Option (Bool) := den E k 143 [.agg [.v (.int .i64 a0.1), .v (.int .i64 a0.2.1), .v (.int .i64 a0.2.2)], .agg [.v (.int .i64 a1.1), .v (.int .i64 a1.2.1), .v (.int .i64 a1.2.2)]]
theorem e143 (k : Nat) (a0 : Int × Int × Int) (a1 : Int × Int × Int) : F143 (k + 1) a0 a1 = if (a0.1 != a1.1) = true then some false else (F163 k a0.2 a1.2).bind fun p1 => if (!p1) = true then some false else some true := by kernel_rfl
/-! loop.example/g00599/laws.eqZoneS -/
noncomputable def F110 (k : Nat) (a0 : List (Int × Int × Int)) (a1 : List (Int × Int × Int)) : Option (Bool) := den E k 110 [.c (.l 120 s119 a0), .c (.l 120 s119 a1)]
abbrev C110_0 : Type := (List (Int × Int × Int)) × (List (Int × Int × Int))
abbrev V110_0 : Type := Int
def St110_0 (c0 : C110_0) (v0 : V110_0) : St := ⟨27, 0, [(0, .c (.l 120 s119 c0.1)), (1, .c (.l 120 s119 c0.2)), (5, .c (.v (.int .i64 v0)))], []⟩
noncomputable def B110_0 {R : Type} (k : Nat) (X0 : V110_0 → (Int × Int × Int) → (Int × Int × Int) → Bool → Option R) (X1 : V110_0 → Option R) (c0 : C110_0) (rec : V110_0 → Option R) (v0 : V110_0) : Option R := if (decide (v0 < (c0.1.length : Int))) = true then if 0 ≤ v0 then ix c0.1 v0.toNat fun x1 => if 0 ≤ v0 then ix c0.2 v0.toNat fun x2 => (F143 k x1 x2).bind fun p3 => if (!p3) = true then X0 v0 x1 x2 p3 else rec (IntKind.i64.wrap (v0 + 1)) else none else none else X1 v0
noncomputable def L110_0 {R : Type} (k : Nat) (X0 : V110_0 → (Int × Int × Int) → (Int × Int × Int) → Bool → Option R) (X1 : V110_0 → Option R) (c : C110_0) : Nat → V110_0 → Option R
  | 0, _ => none
  | n + 1, v => B110_0 k X0 X1 c (L110_0 k X0 X1 c n) v
theorem b110_0 {R : Type} (k n : Nat) (K : Ex → St → Option R) (c0 : C110_0) (v : V110_0) : loopRun [0, 1, 5] (run E (den E k) (lv 110) k (nthLoop Tryz.f110 0)) (n + 1) (St110_0 c0 v) K = B110_0 k (fun (v0 : V110_0) (x1 : Int × Int × Int) (x2 : Int × Int × Int) (p3 : Bool) => K .ret ⟨27, 0, [(0, .c (.l 120 s119 c0.1)), (1, .c (.l 120 s119 c0.2)), (4, .c (.v (.bool false))), (5, .c (.v (.int .i64 v0))), (11, .c (.v (.int .i64 v0))), (12, .c (.l 120 s119 c0.1)), (13, .c (.v (.int .i64 (c0.1.length : Int)))), (14, .c (.v (.bool (decide (v0 < (c0.1.length : Int)))))), (17, .c (.l 120 s119 c0.1)), (18, .c (.v (.int .i64 v0))), (19, .c (.at_ [.v (.int .i64 x1.1), .v (.int .i64 x1.2.1), .v (.int .i64 x1.2.2)])), (20, .agg [.v (.int .i64 x1.1), .v (.int .i64 x1.2.1), .v (.int .i64 x1.2.2)]), (21, .c (.l 120 s119 c0.2)), (22, .c (.v (.int .i64 v0))), (23, .c (.at_ [.v (.int .i64 x2.1), .v (.int .i64 x2.2.1), .v (.int .i64 x2.2.2)])), (24, .agg [.v (.int .i64 x2.1), .v (.int .i64 x2.2.1), .v (.int .i64 x2.2.2)]), (25, .c (.v (.bool p3))), (26, .c (.v (.bool (!p3))))], []⟩) (fun (v0 : V110_0) => K (.exit 0) ⟨27, 0, [(0, .c (.l 120 s119 c0.1)), (1, .c (.l 120 s119 c0.2)), (5, .c (.v (.int .i64 v0))), (11, .c (.v (.int .i64 v0))), (12, .c (.l 120 s119 c0.1)), (13, .c (.v (.int .i64 (c0.1.length : Int)))), (14, .c (.v (.bool (decide (v0 < (c0.1.length : Int))))))], []⟩) c0 (fun v => loopRun [0, 1, 5] (run E (den E k) (lv 110) k (nthLoop Tryz.f110 0)) n (St110_0 c0 v) K) v := by kernel_rfl
theorem l110_0 {R : Type} (k : Nat) (K : Ex → St → Option R) (c0 : C110_0) : ∀ (n : Nat) (v : V110_0), loopRun [0, 1, 5] (run E (den E k) (lv 110) k (nthLoop Tryz.f110 0)) n (St110_0 c0 v) K = L110_0 k (fun (v0 : V110_0) (x1 : Int × Int × Int) (x2 : Int × Int × Int) (p3 : Bool) => K .ret ⟨27, 0, [(0, .c (.l 120 s119 c0.1)), (1, .c (.l 120 s119 c0.2)), (4, .c (.v (.bool false))), (5, .c (.v (.int .i64 v0))), (11, .c (.v (.int .i64 v0))), (12, .c (.l 120 s119 c0.1)), (13, .c (.v (.int .i64 (c0.1.length : Int)))), (14, .c (.v (.bool (decide (v0 < (c0.1.length : Int)))))), (17, .c (.l 120 s119 c0.1)), (18, .c (.v (.int .i64 v0))), (19, .c (.at_ [.v (.int .i64 x1.1), .v (.int .i64 x1.2.1), .v (.int .i64 x1.2.2)])), (20, .agg [.v (.int .i64 x1.1), .v (.int .i64 x1.2.1), .v (.int .i64 x1.2.2)]), (21, .c (.l 120 s119 c0.2)), (22, .c (.v (.int .i64 v0))), (23, .c (.at_ [.v (.int .i64 x2.1), .v (.int .i64 x2.2.1), .v (.int .i64 x2.2.2)])), (24, .agg [.v (.int .i64 x2.1), .v (.int .i64 x2.2.1), .v (.int .i64 x2.2.2)]), (25, .c (.v (.bool p3))), (26, .c (.v (.bool (!p3))))], []⟩) (fun (v0 : V110_0) => K (.exit 0) ⟨27, 0, [(0, .c (.l 120 s119 c0.1)), (1, .c (.l 120 s119 c0.2)), (5, .c (.v (.int .i64 v0))), (11, .c (.v (.int .i64 v0))), (12, .c (.l 120 s119 c0.1)), (13, .c (.v (.int .i64 (c0.1.length : Int)))), (14, .c (.v (.bool (decide (v0 < (c0.1.length : Int))))))], []⟩) c0 n v := by
  intro n
  induction n with
  | zero => intro v; rfl
  | succ n ih =>
    intro v
    refine (b110_0 k n K c0 v).trans ?_
    rw [funext ih]
    kernel_rfl
theorem m110_0 (k : Nat) (a0 : List (Int × Int × Int)) (a1 : List (Int × Int × Int)) : F110 (k + 1) a0 a1 = if ((a0.length : Int) != (a1.length : Int)) = true then some false else loopRun (R := Bool) [0, 1, 5] (run E (den E k) (lv 110) k (nthLoop Tryz.f110 0)) k (St110_0 (a0, a1) 0) (kontAt E (den E k) (lv 110) k (bodyOf Tryz.f110) 0 [] (finish E (rs 110) Tryz.f110 : Ex → St → Option (Bool))) := by kernel_rfl
theorem e110 (k : Nat) (a0 : List (Int × Int × Int)) (a1 : List (Int × Int × Int)) : F110 (k + 1) a0 a1 = if ((a0.length : Int) != (a1.length : Int)) = true then some false else L110_0 k (fun (v0 : Int) (x1 : Int × Int × Int) (x2 : Int × Int × Int) (p3 : Bool) => some false) (fun (v0 : Int) => some true) (a0, a1) k 0 := by
  rw [m110_0]
  simp only [l110_0]
  kernel_rfl
/-! loop.example/g00599/laws.eqSky -/
noncomputable def F44 (k : Nat) (a0 : T25) (a1 : T25) : Option (Bool) := den E k 44 [.agg [.v (.int .i64 a0.1), .l 112 s83 a0.2.1, .l 115 s114 a0.2.2.1, .v (.int .i64 a0.2.2.2.1), .v (.int .i64 a0.2.2.2.2.1), .v (.int .i64 a0.2.2.2.2.2.1), .v (.int .i64 a0.2.2.2.2.2.2.1), .v (.int .i64 a0.2.2.2.2.2.2.2.1), .l 120 s119 a0.2.2.2.2.2.2.2.2.1, .v (.int .i64 a0.2.2.2.2.2.2.2.2.2)], .agg [.v (.int .i64 a1.1), .l 112 s83 a1.2.1, .l 115 s114 a1.2.2.1, .v (.int .i64 a1.2.2.2.1), .v (.int .i64 a1.2.2.2.2.1), .v (.int .i64 a1.2.2.2.2.2.1), .v (.int .i64 a1.2.2.2.2.2.2.1), .v (.int .i64 a1.2.2.2.2.2.2.2.1), .l 120 s119 a1.2.2.2.2.2.2.2.2.1, .v (.int .i64 a1.2.2.2.2.2.2.2.2.2)]]
theorem e44 (k : Nat) (a0 : T25) (a1 : T25) : F44 (k + 1) a0 a1 = if (a0.1 != a1.1) = true then some false else (F108 k a0.2.1 a1.2.1).bind fun p1 => if (!p1) = true then some false else (F109 k a0.2.2.1 a1.2.2.1).bind fun p2 => if (!p2) = true then some false else if (a0.2.2.2.1 != a1.2.2.2.1) = true then some false else if (a0.2.2.2.2.1 != a1.2.2.2.2.1) = true then some false else if (a0.2.2.2.2.2.1 != a1.2.2.2.2.2.1) = true then some false else if (a0.2.2.2.2.2.2.1 != a1.2.2.2.2.2.2.1) = true then some false else if (a0.2.2.2.2.2.2.2.1 != a1.2.2.2.2.2.2.2.1) = true then some false else (F110 k a0.2.2.2.2.2.2.2.2.1 a1.2.2.2.2.2.2.2.2.1).bind fun p3 => if (!p3) = true then some false else if (a0.2.2.2.2.2.2.2.2.2 != a1.2.2.2.2.2.2.2.2.2) = true then some false else some true := by kernel_rfl
/-! loop.example/g00599/laws.eqSpan -/
noncomputable def F164 (k : Nat) (a0 : Int × Int) (a1 : Int × Int) : Option (Bool) := den E k 164 [.agg [.v (.int .i64 a0.1), .v (.int .i64 a0.2)], .agg [.v (.int .i64 a1.1), .v (.int .i64 a1.2)]]
theorem e164 (k : Nat) (a0 : Int × Int) (a1 : Int × Int) : F164 (k + 1) a0 a1 = if (a0.1 != a1.1) = true then some false else if (a0.2 != a1.2) = true then some false else some true := by kernel_rfl
/-! loop.example/g00599/laws.eqLink -/
noncomputable def F178 (k : Nat) (a0 : Int × Int) (a1 : Int × Int) : Option (Bool) := den E k 178 [.agg [.v (.int .i64 a0.1), .v (.int .i64 a0.2)], .agg [.v (.int .i64 a1.1), .v (.int .i64 a1.2)]]
theorem e178 (k : Nat) (a0 : Int × Int) (a1 : Int × Int) : F178 (k + 1) a0 a1 = if (a0.1 != a1.1) = true then some false else if (a0.2 != a1.2) = true then some false else some true := by kernel_rfl
/-! loop.example/g00599/laws.eqLinkS -/
noncomputable def F165 (k : Nat) (a0 : List (Int × Int)) (a1 : List (Int × Int)) : Option (Bool) := den E k 165 [.c (.l 130 s117 a0), .c (.l 130 s117 a1)]
abbrev C165_0 : Type := (List (Int × Int)) × (List (Int × Int))
abbrev V165_0 : Type := Int
def St165_0 (c0 : C165_0) (v0 : V165_0) : St := ⟨27, 0, [(0, .c (.l 130 s117 c0.1)), (1, .c (.l 130 s117 c0.2)), (5, .c (.v (.int .i64 v0)))], []⟩
noncomputable def B165_0 {R : Type} (k : Nat) (X0 : V165_0 → (Int × Int) → (Int × Int) → Bool → Option R) (X1 : V165_0 → Option R) (c0 : C165_0) (rec : V165_0 → Option R) (v0 : V165_0) : Option R := if (decide (v0 < (c0.1.length : Int))) = true then if 0 ≤ v0 then ix c0.1 v0.toNat fun x1 => if 0 ≤ v0 then ix c0.2 v0.toNat fun x2 => (F178 k x1 x2).bind fun p3 => if (!p3) = true then X0 v0 x1 x2 p3 else rec (IntKind.i64.wrap (v0 + 1)) else none else none else X1 v0
noncomputable def L165_0 {R : Type} (k : Nat) (X0 : V165_0 → (Int × Int) → (Int × Int) → Bool → Option R) (X1 : V165_0 → Option R) (c : C165_0) : Nat → V165_0 → Option R
  | 0, _ => none
  | n + 1, v => B165_0 k X0 X1 c (L165_0 k X0 X1 c n) v
theorem b165_0 {R : Type} (k n : Nat) (K : Ex → St → Option R) (c0 : C165_0) (v : V165_0) : loopRun [0, 1, 5] (run E (den E k) (lv 165) k (nthLoop Tryz.f165 0)) (n + 1) (St165_0 c0 v) K = B165_0 k (fun (v0 : V165_0) (x1 : Int × Int) (x2 : Int × Int) (p3 : Bool) => K .ret ⟨27, 0, [(0, .c (.l 130 s117 c0.1)), (1, .c (.l 130 s117 c0.2)), (4, .c (.v (.bool false))), (5, .c (.v (.int .i64 v0))), (11, .c (.v (.int .i64 v0))), (12, .c (.l 130 s117 c0.1)), (13, .c (.v (.int .i64 (c0.1.length : Int)))), (14, .c (.v (.bool (decide (v0 < (c0.1.length : Int)))))), (17, .c (.l 130 s117 c0.1)), (18, .c (.v (.int .i64 v0))), (19, .c (.at_ [.v (.int .i64 x1.1), .v (.int .i64 x1.2)])), (20, .agg [.v (.int .i64 x1.1), .v (.int .i64 x1.2)]), (21, .c (.l 130 s117 c0.2)), (22, .c (.v (.int .i64 v0))), (23, .c (.at_ [.v (.int .i64 x2.1), .v (.int .i64 x2.2)])), (24, .agg [.v (.int .i64 x2.1), .v (.int .i64 x2.2)]), (25, .c (.v (.bool p3))), (26, .c (.v (.bool (!p3))))], []⟩) (fun (v0 : V165_0) => K (.exit 0) ⟨27, 0, [(0, .c (.l 130 s117 c0.1)), (1, .c (.l 130 s117 c0.2)), (5, .c (.v (.int .i64 v0))), (11, .c (.v (.int .i64 v0))), (12, .c (.l 130 s117 c0.1)), (13, .c (.v (.int .i64 (c0.1.length : Int)))), (14, .c (.v (.bool (decide (v0 < (c0.1.length : Int))))))], []⟩) c0 (fun v => loopRun [0, 1, 5] (run E (den E k) (lv 165) k (nthLoop Tryz.f165 0)) n (St165_0 c0 v) K) v := by kernel_rfl
theorem l165_0 {R : Type} (k : Nat) (K : Ex → St → Option R) (c0 : C165_0) : ∀ (n : Nat) (v : V165_0), loopRun [0, 1, 5] (run E (den E k) (lv 165) k (nthLoop Tryz.f165 0)) n (St165_0 c0 v) K = L165_0 k (fun (v0 : V165_0) (x1 : Int × Int) (x2 : Int × Int) (p3 : Bool) => K .ret ⟨27, 0, [(0, .c (.l 130 s117 c0.1)), (1, .c (.l 130 s117 c0.2)), (4, .c (.v (.bool false))), (5, .c (.v (.int .i64 v0))), (11, .c (.v (.int .i64 v0))), (12, .c (.l 130 s117 c0.1)), (13, .c (.v (.int .i64 (c0.1.length : Int)))), (14, .c (.v (.bool (decide (v0 < (c0.1.length : Int)))))), (17, .c (.l 130 s117 c0.1)), (18, .c (.v (.int .i64 v0))), (19, .c (.at_ [.v (.int .i64 x1.1), .v (.int .i64 x1.2)])), (20, .agg [.v (.int .i64 x1.1), .v (.int .i64 x1.2)]), (21, .c (.l 130 s117 c0.2)), (22, .c (.v (.int .i64 v0))), (23, .c (.at_ [.v (.int .i64 x2.1), .v (.int .i64 x2.2)])), (24, .agg [.v (.int .i64 x2.1), .v (.int .i64 x2.2)]), (25, .c (.v (.bool p3))), (26, .c (.v (.bool (!p3))))], []⟩) (fun (v0 : V165_0) => K (.exit 0) ⟨27, 0, [(0, .c (.l 130 s117 c0.1)), (1, .c (.l 130 s117 c0.2)), (5, .c (.v (.int .i64 v0))), (11, .c (.v (.int .i64 v0))), (12, .c (.l 130 s117 c0.1)), (13, .c (.v (.int .i64 (c0.1.length : Int)))), (14, .c (.v (.bool (decide (v0 < (c0.1.length : Int))))))], []⟩) c0 n v := by
  intro n
  induction n with
  | zero => intro v; rfl
  | succ n ih =>
    intro v
    refine (b165_0 k n K c0 v).trans ?_
    rw [funext ih]
    kernel_rfl
theorem m165_0 (k : Nat) (a0 : List (Int × Int)) (a1 : List (Int × Int)) : F165 (k + 1) a0 a1 = if ((a0.length : Int) != (a1.length : Int)) = true then some false else loopRun (R := Bool) [0, 1, 5] (run E (den E k) (lv 165) k (nthLoop Tryz.f165 0)) k (St165_0 (a0, a1) 0) (kontAt E (den E k) (lv 165) k (bodyOf Tryz.f165) 0 [] (finish E (rs 165) Tryz.f165 : Ex → St → Option (Bool))) := by kernel_rfl
theorem e165 (k : Nat) (a0 : List (Int × Int)) (a1 : List (Int × Int)) : F165 (k + 1) a0 a1 = if ((a0.length : Int) != (a1.length : Int)) = true then some false else L165_0 k (fun (v0 : Int) (x1 : Int × Int) (x2 : Int × Int) (p3 : Bool) => some false) (fun (v0 : Int) => some true) (a0, a1) k 0 := by
  rw [m165_0]
  simp only [l165_0]
  kernel_rfl
/-! loop.example/g00599/laws.eqIntS -/
noncomputable def F47 (k : Nat) (a0 : List Int) (a1 : List Int) : Option (Bool) := den E k 47 [.c (.l 3 (.i .i64) a0), .c (.l 3 (.i .i64) a1)]
abbrev C47_0 : Type := (List Int) × (List Int)
abbrev V47_0 : Type := Int
def St47_0 (c0 : C47_0) (v0 : V47_0) : St := ⟨26, 0, [(0, .c (.l 3 (.i .i64) c0.1)), (1, .c (.l 3 (.i .i64) c0.2)), (5, .c (.v (.int .i64 v0)))], []⟩
noncomputable def B47_0 {R : Type} (k : Nat) (X0 : V47_0 → Int → Int → Option R) (X1 : V47_0 → Option R) (c0 : C47_0) (rec : V47_0 → Option R) (v0 : V47_0) : Option R := if (decide (v0 < (c0.1.length : Int))) = true then if 0 ≤ v0 then ix c0.1 v0.toNat fun x1 => if 0 ≤ v0 then ix c0.2 v0.toNat fun x2 => if (x1 != x2) = true then X0 v0 x1 x2 else rec (IntKind.i64.wrap (v0 + 1)) else none else none else X1 v0
noncomputable def L47_0 {R : Type} (k : Nat) (X0 : V47_0 → Int → Int → Option R) (X1 : V47_0 → Option R) (c : C47_0) : Nat → V47_0 → Option R
  | 0, _ => none
  | n + 1, v => B47_0 k X0 X1 c (L47_0 k X0 X1 c n) v
theorem b47_0 {R : Type} (k n : Nat) (K : Ex → St → Option R) (c0 : C47_0) (v : V47_0) : loopRun [0, 1, 5] (run E (den E k) (lv 47) k (nthLoop Tryz.f47 0)) (n + 1) (St47_0 c0 v) K = B47_0 k (fun (v0 : V47_0) (x1 : Int) (x2 : Int) => K .ret ⟨26, 0, [(0, .c (.l 3 (.i .i64) c0.1)), (1, .c (.l 3 (.i .i64) c0.2)), (4, .c (.v (.bool false))), (5, .c (.v (.int .i64 v0))), (11, .c (.v (.int .i64 v0))), (12, .c (.l 3 (.i .i64) c0.1)), (13, .c (.v (.int .i64 (c0.1.length : Int)))), (14, .c (.v (.bool (decide (v0 < (c0.1.length : Int)))))), (17, .c (.l 3 (.i .i64) c0.1)), (18, .c (.v (.int .i64 v0))), (19, .c (.at_ [.v (.int .i64 x1)])), (20, .c (.v (.int .i64 x1))), (21, .c (.l 3 (.i .i64) c0.2)), (22, .c (.v (.int .i64 v0))), (23, .c (.at_ [.v (.int .i64 x2)])), (24, .c (.v (.int .i64 x2))), (25, .c (.v (.bool (x1 != x2))))], []⟩) (fun (v0 : V47_0) => K (.exit 0) ⟨26, 0, [(0, .c (.l 3 (.i .i64) c0.1)), (1, .c (.l 3 (.i .i64) c0.2)), (5, .c (.v (.int .i64 v0))), (11, .c (.v (.int .i64 v0))), (12, .c (.l 3 (.i .i64) c0.1)), (13, .c (.v (.int .i64 (c0.1.length : Int)))), (14, .c (.v (.bool (decide (v0 < (c0.1.length : Int))))))], []⟩) c0 (fun v => loopRun [0, 1, 5] (run E (den E k) (lv 47) k (nthLoop Tryz.f47 0)) n (St47_0 c0 v) K) v := by kernel_rfl
theorem l47_0 {R : Type} (k : Nat) (K : Ex → St → Option R) (c0 : C47_0) : ∀ (n : Nat) (v : V47_0), loopRun [0, 1, 5] (run E (den E k) (lv 47) k (nthLoop Tryz.f47 0)) n (St47_0 c0 v) K = L47_0 k (fun (v0 : V47_0) (x1 : Int) (x2 : Int) => K .ret ⟨26, 0, [(0, .c (.l 3 (.i .i64) c0.1)), (1, .c (.l 3 (.i .i64) c0.2)), (4, .c (.v (.bool false))), (5, .c (.v (.int .i64 v0))), (11, .c (.v (.int .i64 v0))), (12, .c (.l 3 (.i .i64) c0.1)), (13, .c (.v (.int .i64 (c0.1.length : Int)))), (14, .c (.v (.bool (decide (v0 < (c0.1.length : Int)))))), (17, .c (.l 3 (.i .i64) c0.1)), (18, .c (.v (.int .i64 v0))), (19, .c (.at_ [.v (.int .i64 x1)])), (20, .c (.v (.int .i64 x1))), (21, .c (.l 3 (.i .i64) c0.2)), (22, .c (.v (.int .i64 v0))), (23, .c (.at_ [.v (.int .i64 x2)])), (24, .c (.v (.int .i64 x2))), (25, .c (.v (.bool (x1 != x2))))], []⟩) (fun (v0 : V47_0) => K (.exit 0) ⟨26, 0, [(0, .c (.l 3 (.i .i64) c0.1)), (1, .c (.l 3 (.i .i64) c0.2)), (5, .c (.v (.int .i64 v0))), (11, .c (.v (.int .i64 v0))), (12, .c (.l 3 (.i .i64) c0.1)), (13, .c (.v (.int .i64 (c0.1.length : Int)))), (14, .c (.v (.bool (decide (v0 < (c0.1.length : Int))))))], []⟩) c0 n v := by
  intro n
  induction n with
  | zero => intro v; rfl
  | succ n ih =>
    intro v
    refine (b47_0 k n K c0 v).trans ?_
    rw [funext ih]
    kernel_rfl
theorem m47_0 (k : Nat) (a0 : List Int) (a1 : List Int) : F47 (k + 1) a0 a1 = if ((a0.length : Int) != (a1.length : Int)) = true then some false else loopRun (R := Bool) [0, 1, 5] (run E (den E k) (lv 47) k (nthLoop Tryz.f47 0)) k (St47_0 (a0, a1) 0) (kontAt E (den E k) (lv 47) k (bodyOf Tryz.f47) 0 [] (finish E (rs 47) Tryz.f47 : Ex → St → Option (Bool))) := by kernel_rfl
theorem e47 (k : Nat) (a0 : List Int) (a1 : List Int) : F47 (k + 1) a0 a1 = if ((a0.length : Int) != (a1.length : Int)) = true then some false else L47_0 k (fun (v0 : Int) (x1 : Int) (x2 : Int) => some false) (fun (v0 : Int) => some true) (a0, a1) k 0 := by
  rw [m47_0]
  simp only [l47_0]
  kernel_rfl
/-! loop.example/g00599/laws.eqTable -/
noncomputable def F179 (k : Nat) (a0 : Int × (List Int) × List Int) (a1 : Int × (List Int) × List Int) : Option (Bool) := den E k 179 [.agg [.v (.int .i64 a0.1), .l 3 (.i .i64) a0.2.1, .l 3 (.i .i64) a0.2.2], .agg [.v (.int .i64 a1.1), .l 3 (.i .i64) a1.2.1, .l 3 (.i .i64) a1.2.2]]
theorem e179 (k : Nat) (a0 : Int × (List Int) × List Int) (a1 : Int × (List Int) × List Int) : F179 (k + 1) a0 a1 = if (a0.1 != a1.1) = true then some false else (F47 k a0.2.1 a1.2.1).bind fun p1 => if (!p1) = true then some false else (F47 k a0.2.2 a1.2.2).bind fun p2 => if (!p2) = true then some false else some true := by kernel_rfl
/-! loop.example/g00599/laws.eqTableS -/
noncomputable def F166 (k : Nat) (a0 : List (Int × (List Int) × List Int)) (a1 : List (Int × (List Int) × List Int)) : Option (Bool) := den E k 166 [.c (.l 133 s132 a0), .c (.l 133 s132 a1)]
abbrev C166_0 : Type := (List (Int × (List Int) × List Int)) × (List (Int × (List Int) × List Int))
abbrev V166_0 : Type := Int
def St166_0 (c0 : C166_0) (v0 : V166_0) : St := ⟨27, 0, [(0, .c (.l 133 s132 c0.1)), (1, .c (.l 133 s132 c0.2)), (5, .c (.v (.int .i64 v0)))], []⟩
noncomputable def B166_0 {R : Type} (k : Nat) (X0 : V166_0 → (Int × (List Int) × List Int) → (Int × (List Int) × List Int) → Bool → Option R) (X1 : V166_0 → Option R) (c0 : C166_0) (rec : V166_0 → Option R) (v0 : V166_0) : Option R := if (decide (v0 < (c0.1.length : Int))) = true then if 0 ≤ v0 then ix c0.1 v0.toNat fun x1 => if 0 ≤ v0 then ix c0.2 v0.toNat fun x2 => (F179 k x1 x2).bind fun p3 => if (!p3) = true then X0 v0 x1 x2 p3 else rec (IntKind.i64.wrap (v0 + 1)) else none else none else X1 v0
noncomputable def L166_0 {R : Type} (k : Nat) (X0 : V166_0 → (Int × (List Int) × List Int) → (Int × (List Int) × List Int) → Bool → Option R) (X1 : V166_0 → Option R) (c : C166_0) : Nat → V166_0 → Option R
  | 0, _ => none
  | n + 1, v => B166_0 k X0 X1 c (L166_0 k X0 X1 c n) v
theorem b166_0 {R : Type} (k n : Nat) (K : Ex → St → Option R) (c0 : C166_0) (v : V166_0) : loopRun [0, 1, 5] (run E (den E k) (lv 166) k (nthLoop Tryz.f166 0)) (n + 1) (St166_0 c0 v) K = B166_0 k (fun (v0 : V166_0) (x1 : Int × (List Int) × List Int) (x2 : Int × (List Int) × List Int) (p3 : Bool) => K .ret ⟨27, 0, [(0, .c (.l 133 s132 c0.1)), (1, .c (.l 133 s132 c0.2)), (4, .c (.v (.bool false))), (5, .c (.v (.int .i64 v0))), (11, .c (.v (.int .i64 v0))), (12, .c (.l 133 s132 c0.1)), (13, .c (.v (.int .i64 (c0.1.length : Int)))), (14, .c (.v (.bool (decide (v0 < (c0.1.length : Int)))))), (17, .c (.l 133 s132 c0.1)), (18, .c (.v (.int .i64 v0))), (19, .c (.at_ [.v (.int .i64 x1.1), .l 3 (.i .i64) x1.2.1, .l 3 (.i .i64) x1.2.2])), (20, .agg [.v (.int .i64 x1.1), .l 3 (.i .i64) x1.2.1, .l 3 (.i .i64) x1.2.2]), (21, .c (.l 133 s132 c0.2)), (22, .c (.v (.int .i64 v0))), (23, .c (.at_ [.v (.int .i64 x2.1), .l 3 (.i .i64) x2.2.1, .l 3 (.i .i64) x2.2.2])), (24, .agg [.v (.int .i64 x2.1), .l 3 (.i .i64) x2.2.1, .l 3 (.i .i64) x2.2.2]), (25, .c (.v (.bool p3))), (26, .c (.v (.bool (!p3))))], []⟩) (fun (v0 : V166_0) => K (.exit 0) ⟨27, 0, [(0, .c (.l 133 s132 c0.1)), (1, .c (.l 133 s132 c0.2)), (5, .c (.v (.int .i64 v0))), (11, .c (.v (.int .i64 v0))), (12, .c (.l 133 s132 c0.1)), (13, .c (.v (.int .i64 (c0.1.length : Int)))), (14, .c (.v (.bool (decide (v0 < (c0.1.length : Int))))))], []⟩) c0 (fun v => loopRun [0, 1, 5] (run E (den E k) (lv 166) k (nthLoop Tryz.f166 0)) n (St166_0 c0 v) K) v := by kernel_rfl
theorem l166_0 {R : Type} (k : Nat) (K : Ex → St → Option R) (c0 : C166_0) : ∀ (n : Nat) (v : V166_0), loopRun [0, 1, 5] (run E (den E k) (lv 166) k (nthLoop Tryz.f166 0)) n (St166_0 c0 v) K = L166_0 k (fun (v0 : V166_0) (x1 : Int × (List Int) × List Int) (x2 : Int × (List Int) × List Int) (p3 : Bool) => K .ret ⟨27, 0, [(0, .c (.l 133 s132 c0.1)), (1, .c (.l 133 s132 c0.2)), (4, .c (.v (.bool false))), (5, .c (.v (.int .i64 v0))), (11, .c (.v (.int .i64 v0))), (12, .c (.l 133 s132 c0.1)), (13, .c (.v (.int .i64 (c0.1.length : Int)))), (14, .c (.v (.bool (decide (v0 < (c0.1.length : Int)))))), (17, .c (.l 133 s132 c0.1)), (18, .c (.v (.int .i64 v0))), (19, .c (.at_ [.v (.int .i64 x1.1), .l 3 (.i .i64) x1.2.1, .l 3 (.i .i64) x1.2.2])), (20, .agg [.v (.int .i64 x1.1), .l 3 (.i .i64) x1.2.1, .l 3 (.i .i64) x1.2.2]), (21, .c (.l 133 s132 c0.2)), (22, .c (.v (.int .i64 v0))), (23, .c (.at_ [.v (.int .i64 x2.1), .l 3 (.i .i64) x2.2.1, .l 3 (.i .i64) x2.2.2])), (24, .agg [.v (.int .i64 x2.1), .l 3 (.i .i64) x2.2.1, .l 3 (.i .i64) x2.2.2]), (25, .c (.v (.bool p3))), (26, .c (.v (.bool (!p3))))], []⟩) (fun (v0 : V166_0) => K (.exit 0) ⟨27, 0, [(0, .c (.l 133 s132 c0.1)), (1, .c (.l 133 s132 c0.2)), (5, .c (.v (.int .i64 v0))), (11, .c (.v (.int .i64 v0))), (12, .c (.l 133 s132 c0.1)), (13, .c (.v (.int .i64 (c0.1.length : Int)))), (14, .c (.v (.bool (decide (v0 < (c0.1.length : Int))))))], []⟩) c0 n v := by
  intro n
  induction n with
  | zero => intro v; rfl
  | succ n ih =>
    intro v
    refine (b166_0 k n K c0 v).trans ?_
    rw [funext ih]
    kernel_rfl
theorem m166_0 (k : Nat) (a0 : List (Int × (List Int) × List Int)) (a1 : List (Int × (List Int) × List Int)) : F166 (k + 1) a0 a1 = if ((a0.length : Int) != (a1.length : Int)) = true then some false else loopRun (R := Bool) [0, 1, 5] (run E (den E k) (lv 166) k (nthLoop Tryz.f166 0)) k (St166_0 (a0, a1) 0) (kontAt E (den E k) (lv 166) k (bodyOf Tryz.f166) 0 [] (finish E (rs 166) Tryz.f166 : Ex → St → Option (Bool))) := by kernel_rfl
theorem e166 (k : Nat) (a0 : List (Int × (List Int) × List Int)) (a1 : List (Int × (List Int) × List Int)) : F166 (k + 1) a0 a1 = if ((a0.length : Int) != (a1.length : Int)) = true then some false else L166_0 k (fun (v0 : Int) (x1 : Int × (List Int) × List Int) (x2 : Int × (List Int) × List Int) (p3 : Bool) => some false) (fun (v0 : Int) => some true) (a0, a1) k 0 := by
  rw [m166_0]
  simp only [l166_0]
  kernel_rfl
/-! loop.example/g00599/laws.eqPiece -/
noncomputable def F144 (k : Nat) (a0 : T193) (a1 : T193) : Option (Bool) := den E k 144 [.agg [.v (.int .i64 a0.1.1), .v (.int .i64 a0.1.2), .l 130 s117 a0.2.1, .l 133 s132 a0.2.2], .agg [.v (.int .i64 a1.1.1), .v (.int .i64 a1.1.2), .l 130 s117 a1.2.1, .l 133 s132 a1.2.2]]
theorem e144 (k : Nat) (a0 : T193) (a1 : T193) : F144 (k + 1) a0 a1 = (F164 k a0.1 a1.1).bind fun p1 => if (!p1) = true then some false else (F165 k a0.2.1 a1.2.1).bind fun p2 => if (!p2) = true then some false else (F166 k a0.2.2 a1.2.2).bind fun p3 => if (!p3) = true then some false else some true := by kernel_rfl
/-! loop.example/g00599/laws.eqPieceS -/
noncomputable def F111 (k : Nat) (a0 : List T193) (a1 : List T193) : Option (Bool) := den E k 111 [.c (.l 127 s126 a0), .c (.l 127 s126 a1)]
abbrev C111_0 : Type := (List T193) × (List T193)
abbrev V111_0 : Type := Int
def St111_0 (c0 : C111_0) (v0 : V111_0) : St := ⟨27, 0, [(0, .c (.l 127 s126 c0.1)), (1, .c (.l 127 s126 c0.2)), (5, .c (.v (.int .i64 v0)))], []⟩
noncomputable def B111_0 {R : Type} (k : Nat) (X0 : V111_0 → T193 → T193 → Bool → Option R) (X1 : V111_0 → Option R) (c0 : C111_0) (rec : V111_0 → Option R) (v0 : V111_0) : Option R := if (decide (v0 < (c0.1.length : Int))) = true then if 0 ≤ v0 then ix c0.1 v0.toNat fun x1 => if 0 ≤ v0 then ix c0.2 v0.toNat fun x2 => (F144 k x1 x2).bind fun p3 => if (!p3) = true then X0 v0 x1 x2 p3 else rec (IntKind.i64.wrap (v0 + 1)) else none else none else X1 v0
noncomputable def L111_0 {R : Type} (k : Nat) (X0 : V111_0 → T193 → T193 → Bool → Option R) (X1 : V111_0 → Option R) (c : C111_0) : Nat → V111_0 → Option R
  | 0, _ => none
  | n + 1, v => B111_0 k X0 X1 c (L111_0 k X0 X1 c n) v
theorem b111_0 {R : Type} (k n : Nat) (K : Ex → St → Option R) (c0 : C111_0) (v : V111_0) : loopRun [0, 1, 5] (run E (den E k) (lv 111) k (nthLoop Tryz.f111 0)) (n + 1) (St111_0 c0 v) K = B111_0 k (fun (v0 : V111_0) (x1 : T193) (x2 : T193) (p3 : Bool) => K .ret ⟨27, 0, [(0, .c (.l 127 s126 c0.1)), (1, .c (.l 127 s126 c0.2)), (4, .c (.v (.bool false))), (5, .c (.v (.int .i64 v0))), (11, .c (.v (.int .i64 v0))), (12, .c (.l 127 s126 c0.1)), (13, .c (.v (.int .i64 (c0.1.length : Int)))), (14, .c (.v (.bool (decide (v0 < (c0.1.length : Int)))))), (17, .c (.l 127 s126 c0.1)), (18, .c (.v (.int .i64 v0))), (19, .c (.at_ [.v (.int .i64 x1.1.1), .v (.int .i64 x1.1.2), .l 130 s117 x1.2.1, .l 133 s132 x1.2.2])), (20, .agg [.v (.int .i64 x1.1.1), .v (.int .i64 x1.1.2), .l 130 s117 x1.2.1, .l 133 s132 x1.2.2]), (21, .c (.l 127 s126 c0.2)), (22, .c (.v (.int .i64 v0))), (23, .c (.at_ [.v (.int .i64 x2.1.1), .v (.int .i64 x2.1.2), .l 130 s117 x2.2.1, .l 133 s132 x2.2.2])), (24, .agg [.v (.int .i64 x2.1.1), .v (.int .i64 x2.1.2), .l 130 s117 x2.2.1, .l 133 s132 x2.2.2]), (25, .c (.v (.bool p3))), (26, .c (.v (.bool (!p3))))], []⟩) (fun (v0 : V111_0) => K (.exit 0) ⟨27, 0, [(0, .c (.l 127 s126 c0.1)), (1, .c (.l 127 s126 c0.2)), (5, .c (.v (.int .i64 v0))), (11, .c (.v (.int .i64 v0))), (12, .c (.l 127 s126 c0.1)), (13, .c (.v (.int .i64 (c0.1.length : Int)))), (14, .c (.v (.bool (decide (v0 < (c0.1.length : Int))))))], []⟩) c0 (fun v => loopRun [0, 1, 5] (run E (den E k) (lv 111) k (nthLoop Tryz.f111 0)) n (St111_0 c0 v) K) v := by kernel_rfl
theorem l111_0 {R : Type} (k : Nat) (K : Ex → St → Option R) (c0 : C111_0) : ∀ (n : Nat) (v : V111_0), loopRun [0, 1, 5] (run E (den E k) (lv 111) k (nthLoop Tryz.f111 0)) n (St111_0 c0 v) K = L111_0 k (fun (v0 : V111_0) (x1 : T193) (x2 : T193) (p3 : Bool) => K .ret ⟨27, 0, [(0, .c (.l 127 s126 c0.1)), (1, .c (.l 127 s126 c0.2)), (4, .c (.v (.bool false))), (5, .c (.v (.int .i64 v0))), (11, .c (.v (.int .i64 v0))), (12, .c (.l 127 s126 c0.1)), (13, .c (.v (.int .i64 (c0.1.length : Int)))), (14, .c (.v (.bool (decide (v0 < (c0.1.length : Int)))))), (17, .c (.l 127 s126 c0.1)), (18, .c (.v (.int .i64 v0))), (19, .c (.at_ [.v (.int .i64 x1.1.1), .v (.int .i64 x1.1.2), .l 130 s117 x1.2.1, .l 133 s132 x1.2.2])), (20, .agg [.v (.int .i64 x1.1.1), .v (.int .i64 x1.1.2), .l 130 s117 x1.2.1, .l 133 s132 x1.2.2]), (21, .c (.l 127 s126 c0.2)), (22, .c (.v (.int .i64 v0))), (23, .c (.at_ [.v (.int .i64 x2.1.1), .v (.int .i64 x2.1.2), .l 130 s117 x2.2.1, .l 133 s132 x2.2.2])), (24, .agg [.v (.int .i64 x2.1.1), .v (.int .i64 x2.1.2), .l 130 s117 x2.2.1, .l 133 s132 x2.2.2]), (25, .c (.v (.bool p3))), (26, .c (.v (.bool (!p3))))], []⟩) (fun (v0 : V111_0) => K (.exit 0) ⟨27, 0, [(0, .c (.l 127 s126 c0.1)), (1, .c (.l 127 s126 c0.2)), (5, .c (.v (.int .i64 v0))), (11, .c (.v (.int .i64 v0))), (12, .c (.l 127 s126 c0.1)), (13, .c (.v (.int .i64 (c0.1.length : Int)))), (14, .c (.v (.bool (decide (v0 < (c0.1.length : Int))))))], []⟩) c0 n v := by
  intro n
  induction n with
  | zero => intro v; rfl
  | succ n ih =>
    intro v
    refine (b111_0 k n K c0 v).trans ?_
    rw [funext ih]
    kernel_rfl
theorem m111_0 (k : Nat) (a0 : List T193) (a1 : List T193) : F111 (k + 1) a0 a1 = if ((a0.length : Int) != (a1.length : Int)) = true then some false else loopRun (R := Bool) [0, 1, 5] (run E (den E k) (lv 111) k (nthLoop Tryz.f111 0)) k (St111_0 (a0, a1) 0) (kontAt E (den E k) (lv 111) k (bodyOf Tryz.f111) 0 [] (finish E (rs 111) Tryz.f111 : Ex → St → Option (Bool))) := by kernel_rfl
theorem e111 (k : Nat) (a0 : List T193) (a1 : List T193) : F111 (k + 1) a0 a1 = if ((a0.length : Int) != (a1.length : Int)) = true then some false else L111_0 k (fun (v0 : Int) (x1 : T193) (x2 : T193) (p3 : Bool) => some false) (fun (v0 : Int) => some true) (a0, a1) k 0 := by
  rw [m111_0]
  simp only [l111_0]
  kernel_rfl
/-! loop.example/g00599/laws.eqProgram -/
noncomputable def F45 (k : Nat) (a0 : T28) (a1 : T28) : Option (Bool) := den E k 45 [.agg [.v (.int .i64 a0.1), .v (.int .i64 a0.2.1), .v (.int .i64 a0.2.2.1), .l 127 s126 a0.2.2.2], .agg [.v (.int .i64 a1.1), .v (.int .i64 a1.2.1), .v (.int .i64 a1.2.2.1), .l 127 s126 a1.2.2.2]]
theorem e45 (k : Nat) (a0 : T28) (a1 : T28) : F45 (k + 1) a0 a1 = if (a0.1 != a1.1) = true then some false else if (a0.2.1 != a1.2.1) = true then some false else if (a0.2.2.1 != a1.2.2.1) = true then some false else (F111 k a0.2.2.2 a1.2.2.2).bind fun p1 => if (!p1) = true then some false else some true := by kernel_rfl
/-! loop.example/g00599/laws.eqLaw -/
noncomputable def F46 (k : Nat) (a0 : List Int) (a1 : List Int) : Option (Bool) := den E k 46 [.agg [.l 3 (.i .i64) a0], .agg [.l 3 (.i .i64) a1]]
theorem e46 (k : Nat) (a0 : List Int) (a1 : List Int) : F46 (k + 1) a0 a1 = (F47 k a0 a1).bind fun p1 => if (!p1) = true then some false else some true := by kernel_rfl
/-! loop.example/g00599/laws.eqBattery -/
noncomputable def F112 (k : Nat) (a0 : Int × Int × Int × Int × Int × Int) (a1 : Int × Int × Int × Int × Int × Int) : Option (Bool) := den E k 112 [.agg [.v (.int .i64 a0.1), .v (.int .i64 a0.2.1), .v (.int .i64 a0.2.2.1), .v (.int .i64 a0.2.2.2.1), .v (.int .i64 a0.2.2.2.2.1), .v (.int .i64 a0.2.2.2.2.2)], .agg [.v (.int .i64 a1.1), .v (.int .i64 a1.2.1), .v (.int .i64 a1.2.2.1), .v (.int .i64 a1.2.2.2.1), .v (.int .i64 a1.2.2.2.2.1), .v (.int .i64 a1.2.2.2.2.2)]]
theorem e112 (k : Nat) (a0 : Int × Int × Int × Int × Int × Int) (a1 : Int × Int × Int × Int × Int × Int) : F112 (k + 1) a0 a1 = if (a0.1 != a1.1) = true then some false else if (a0.2.1 != a1.2.1) = true then some false else if (a0.2.2.1 != a1.2.2.1) = true then some false else if (a0.2.2.2.1 != a1.2.2.2.1) = true then some false else if (a0.2.2.2.2.1 != a1.2.2.2.2.1) = true then some false else if (a0.2.2.2.2.2 != a1.2.2.2.2.2) = true then some false else some true := by kernel_rfl
/-! loop.example/g00599/laws.eqBatteryS -/
noncomputable def F48 (k : Nat) (a0 : List (Int × Int × Int × Int × Int × Int)) (a1 : List (Int × Int × Int × Int × Int × Int)) : Option (Bool) := den E k 48 [.c (.l 139 s78 a0), .c (.l 139 s78 a1)]
abbrev C48_0 : Type := (List (Int × Int × Int × Int × Int × Int)) × (List (Int × Int × Int × Int × Int × Int))
abbrev V48_0 : Type := Int
def St48_0 (c0 : C48_0) (v0 : V48_0) : St := ⟨27, 0, [(0, .c (.l 139 s78 c0.1)), (1, .c (.l 139 s78 c0.2)), (5, .c (.v (.int .i64 v0)))], []⟩
noncomputable def B48_0 {R : Type} (k : Nat) (X0 : V48_0 → (Int × Int × Int × Int × Int × Int) → (Int × Int × Int × Int × Int × Int) → Bool → Option R) (X1 : V48_0 → Option R) (c0 : C48_0) (rec : V48_0 → Option R) (v0 : V48_0) : Option R := if (decide (v0 < (c0.1.length : Int))) = true then if 0 ≤ v0 then ix c0.1 v0.toNat fun x1 => if 0 ≤ v0 then ix c0.2 v0.toNat fun x2 => (F112 k x1 x2).bind fun p3 => if (!p3) = true then X0 v0 x1 x2 p3 else rec (IntKind.i64.wrap (v0 + 1)) else none else none else X1 v0
noncomputable def L48_0 {R : Type} (k : Nat) (X0 : V48_0 → (Int × Int × Int × Int × Int × Int) → (Int × Int × Int × Int × Int × Int) → Bool → Option R) (X1 : V48_0 → Option R) (c : C48_0) : Nat → V48_0 → Option R
  | 0, _ => none
  | n + 1, v => B48_0 k X0 X1 c (L48_0 k X0 X1 c n) v
theorem b48_0 {R : Type} (k n : Nat) (K : Ex → St → Option R) (c0 : C48_0) (v : V48_0) : loopRun [0, 1, 5] (run E (den E k) (lv 48) k (nthLoop Tryz.f48 0)) (n + 1) (St48_0 c0 v) K = B48_0 k (fun (v0 : V48_0) (x1 : Int × Int × Int × Int × Int × Int) (x2 : Int × Int × Int × Int × Int × Int) (p3 : Bool) => K .ret ⟨27, 0, [(0, .c (.l 139 s78 c0.1)), (1, .c (.l 139 s78 c0.2)), (4, .c (.v (.bool false))), (5, .c (.v (.int .i64 v0))), (11, .c (.v (.int .i64 v0))), (12, .c (.l 139 s78 c0.1)), (13, .c (.v (.int .i64 (c0.1.length : Int)))), (14, .c (.v (.bool (decide (v0 < (c0.1.length : Int)))))), (17, .c (.l 139 s78 c0.1)), (18, .c (.v (.int .i64 v0))), (19, .c (.at_ [.v (.int .i64 x1.1), .v (.int .i64 x1.2.1), .v (.int .i64 x1.2.2.1), .v (.int .i64 x1.2.2.2.1), .v (.int .i64 x1.2.2.2.2.1), .v (.int .i64 x1.2.2.2.2.2)])), (20, .agg [.v (.int .i64 x1.1), .v (.int .i64 x1.2.1), .v (.int .i64 x1.2.2.1), .v (.int .i64 x1.2.2.2.1), .v (.int .i64 x1.2.2.2.2.1), .v (.int .i64 x1.2.2.2.2.2)]), (21, .c (.l 139 s78 c0.2)), (22, .c (.v (.int .i64 v0))), (23, .c (.at_ [.v (.int .i64 x2.1), .v (.int .i64 x2.2.1), .v (.int .i64 x2.2.2.1), .v (.int .i64 x2.2.2.2.1), .v (.int .i64 x2.2.2.2.2.1), .v (.int .i64 x2.2.2.2.2.2)])), (24, .agg [.v (.int .i64 x2.1), .v (.int .i64 x2.2.1), .v (.int .i64 x2.2.2.1), .v (.int .i64 x2.2.2.2.1), .v (.int .i64 x2.2.2.2.2.1), .v (.int .i64 x2.2.2.2.2.2)]), (25, .c (.v (.bool p3))), (26, .c (.v (.bool (!p3))))], []⟩) (fun (v0 : V48_0) => K (.exit 0) ⟨27, 0, [(0, .c (.l 139 s78 c0.1)), (1, .c (.l 139 s78 c0.2)), (5, .c (.v (.int .i64 v0))), (11, .c (.v (.int .i64 v0))), (12, .c (.l 139 s78 c0.1)), (13, .c (.v (.int .i64 (c0.1.length : Int)))), (14, .c (.v (.bool (decide (v0 < (c0.1.length : Int))))))], []⟩) c0 (fun v => loopRun [0, 1, 5] (run E (den E k) (lv 48) k (nthLoop Tryz.f48 0)) n (St48_0 c0 v) K) v := by kernel_rfl
theorem l48_0 {R : Type} (k : Nat) (K : Ex → St → Option R) (c0 : C48_0) : ∀ (n : Nat) (v : V48_0), loopRun [0, 1, 5] (run E (den E k) (lv 48) k (nthLoop Tryz.f48 0)) n (St48_0 c0 v) K = L48_0 k (fun (v0 : V48_0) (x1 : Int × Int × Int × Int × Int × Int) (x2 : Int × Int × Int × Int × Int × Int) (p3 : Bool) => K .ret ⟨27, 0, [(0, .c (.l 139 s78 c0.1)), (1, .c (.l 139 s78 c0.2)), (4, .c (.v (.bool false))), (5, .c (.v (.int .i64 v0))), (11, .c (.v (.int .i64 v0))), (12, .c (.l 139 s78 c0.1)), (13, .c (.v (.int .i64 (c0.1.length : Int)))), (14, .c (.v (.bool (decide (v0 < (c0.1.length : Int)))))), (17, .c (.l 139 s78 c0.1)), (18, .c (.v (.int .i64 v0))), (19, .c (.at_ [.v (.int .i64 x1.1), .v (.int .i64 x1.2.1), .v (.int .i64 x1.2.2.1), .v (.int .i64 x1.2.2.2.1), .v (.int .i64 x1.2.2.2.2.1), .v (.int .i64 x1.2.2.2.2.2)])), (20, .agg [.v (.int .i64 x1.1), .v (.int .i64 x1.2.1), .v (.int .i64 x1.2.2.1), .v (.int .i64 x1.2.2.2.1), .v (.int .i64 x1.2.2.2.2.1), .v (.int .i64 x1.2.2.2.2.2)]), (21, .c (.l 139 s78 c0.2)), (22, .c (.v (.int .i64 v0))), (23, .c (.at_ [.v (.int .i64 x2.1), .v (.int .i64 x2.2.1), .v (.int .i64 x2.2.2.1), .v (.int .i64 x2.2.2.2.1), .v (.int .i64 x2.2.2.2.2.1), .v (.int .i64 x2.2.2.2.2.2)])), (24, .agg [.v (.int .i64 x2.1), .v (.int .i64 x2.2.1), .v (.int .i64 x2.2.2.1), .v (.int .i64 x2.2.2.2.1), .v (.int .i64 x2.2.2.2.2.1), .v (.int .i64 x2.2.2.2.2.2)]), (25, .c (.v (.bool p3))), (26, .c (.v (.bool (!p3))))], []⟩) (fun (v0 : V48_0) => K (.exit 0) ⟨27, 0, [(0, .c (.l 139 s78 c0.1)), (1, .c (.l 139 s78 c0.2)), (5, .c (.v (.int .i64 v0))), (11, .c (.v (.int .i64 v0))), (12, .c (.l 139 s78 c0.1)), (13, .c (.v (.int .i64 (c0.1.length : Int)))), (14, .c (.v (.bool (decide (v0 < (c0.1.length : Int))))))], []⟩) c0 n v := by
  intro n
  induction n with
  | zero => intro v; rfl
  | succ n ih =>
    intro v
    refine (b48_0 k n K c0 v).trans ?_
    rw [funext ih]
    kernel_rfl
theorem m48_0 (k : Nat) (a0 : List (Int × Int × Int × Int × Int × Int)) (a1 : List (Int × Int × Int × Int × Int × Int)) : F48 (k + 1) a0 a1 = if ((a0.length : Int) != (a1.length : Int)) = true then some false else loopRun (R := Bool) [0, 1, 5] (run E (den E k) (lv 48) k (nthLoop Tryz.f48 0)) k (St48_0 (a0, a1) 0) (kontAt E (den E k) (lv 48) k (bodyOf Tryz.f48) 0 [] (finish E (rs 48) Tryz.f48 : Ex → St → Option (Bool))) := by kernel_rfl
theorem e48 (k : Nat) (a0 : List (Int × Int × Int × Int × Int × Int)) (a1 : List (Int × Int × Int × Int × Int × Int)) : F48 (k + 1) a0 a1 = if ((a0.length : Int) != (a1.length : Int)) = true then some false else L48_0 k (fun (v0 : Int) (x1 : Int × Int × Int × Int × Int × Int) (x2 : Int × Int × Int × Int × Int × Int) (p3 : Bool) => some false) (fun (v0 : Int) => some true) (a0, a1) k 0 := by
  rw [m48_0]
  simp only [l48_0]
  kernel_rfl
/-! loop.example/g00599/laws.eqPacket -/
noncomputable def F117 (k : Nat) (a0 : Int × Int × Int × Int × Int × Int) (a1 : Int × Int × Int × Int × Int × Int) : Option (Bool) := den E k 117 [.agg [.v (.int .i64 a0.1), .v (.int .i64 a0.2.1), .v (.int .i64 a0.2.2.1), .v (.int .i64 a0.2.2.2.1), .v (.int .i64 a0.2.2.2.2.1), .v (.int .i64 a0.2.2.2.2.2)], .agg [.v (.int .i64 a1.1), .v (.int .i64 a1.2.1), .v (.int .i64 a1.2.2.1), .v (.int .i64 a1.2.2.2.1), .v (.int .i64 a1.2.2.2.2.1), .v (.int .i64 a1.2.2.2.2.2)]]
theorem e117 (k : Nat) (a0 : Int × Int × Int × Int × Int × Int) (a1 : Int × Int × Int × Int × Int × Int) : F117 (k + 1) a0 a1 = if (a0.1 != a1.1) = true then some false else if (a0.2.1 != a1.2.1) = true then some false else if (a0.2.2.1 != a1.2.2.1) = true then some false else if (a0.2.2.2.1 != a1.2.2.2.1) = true then some false else if (a0.2.2.2.2.1 != a1.2.2.2.2.1) = true then some false else if (a0.2.2.2.2.2 != a1.2.2.2.2.2) = true then some false else some true := by kernel_rfl
/-! loop.example/g00599/laws.eqPacketS -/
noncomputable def F53 (k : Nat) (a0 : List (Int × Int × Int × Int × Int × Int)) (a1 : List (Int × Int × Int × Int × Int × Int)) : Option (Bool) := den E k 53 [.c (.l 79 s78 a0), .c (.l 79 s78 a1)]
abbrev C53_0 : Type := (List (Int × Int × Int × Int × Int × Int)) × (List (Int × Int × Int × Int × Int × Int))
abbrev V53_0 : Type := Int
def St53_0 (c0 : C53_0) (v0 : V53_0) : St := ⟨27, 0, [(0, .c (.l 79 s78 c0.1)), (1, .c (.l 79 s78 c0.2)), (5, .c (.v (.int .i64 v0)))], []⟩
noncomputable def B53_0 {R : Type} (k : Nat) (X0 : V53_0 → (Int × Int × Int × Int × Int × Int) → (Int × Int × Int × Int × Int × Int) → Bool → Option R) (X1 : V53_0 → Option R) (c0 : C53_0) (rec : V53_0 → Option R) (v0 : V53_0) : Option R := if (decide (v0 < (c0.1.length : Int))) = true then if 0 ≤ v0 then ix c0.1 v0.toNat fun x1 => if 0 ≤ v0 then ix c0.2 v0.toNat fun x2 => (F117 k x1 x2).bind fun p3 => if (!p3) = true then X0 v0 x1 x2 p3 else rec (IntKind.i64.wrap (v0 + 1)) else none else none else X1 v0
noncomputable def L53_0 {R : Type} (k : Nat) (X0 : V53_0 → (Int × Int × Int × Int × Int × Int) → (Int × Int × Int × Int × Int × Int) → Bool → Option R) (X1 : V53_0 → Option R) (c : C53_0) : Nat → V53_0 → Option R
  | 0, _ => none
  | n + 1, v => B53_0 k X0 X1 c (L53_0 k X0 X1 c n) v
theorem b53_0 {R : Type} (k n : Nat) (K : Ex → St → Option R) (c0 : C53_0) (v : V53_0) : loopRun [0, 1, 5] (run E (den E k) (lv 53) k (nthLoop Tryz.f53 0)) (n + 1) (St53_0 c0 v) K = B53_0 k (fun (v0 : V53_0) (x1 : Int × Int × Int × Int × Int × Int) (x2 : Int × Int × Int × Int × Int × Int) (p3 : Bool) => K .ret ⟨27, 0, [(0, .c (.l 79 s78 c0.1)), (1, .c (.l 79 s78 c0.2)), (4, .c (.v (.bool false))), (5, .c (.v (.int .i64 v0))), (11, .c (.v (.int .i64 v0))), (12, .c (.l 79 s78 c0.1)), (13, .c (.v (.int .i64 (c0.1.length : Int)))), (14, .c (.v (.bool (decide (v0 < (c0.1.length : Int)))))), (17, .c (.l 79 s78 c0.1)), (18, .c (.v (.int .i64 v0))), (19, .c (.at_ [.v (.int .i64 x1.1), .v (.int .i64 x1.2.1), .v (.int .i64 x1.2.2.1), .v (.int .i64 x1.2.2.2.1), .v (.int .i64 x1.2.2.2.2.1), .v (.int .i64 x1.2.2.2.2.2)])), (20, .agg [.v (.int .i64 x1.1), .v (.int .i64 x1.2.1), .v (.int .i64 x1.2.2.1), .v (.int .i64 x1.2.2.2.1), .v (.int .i64 x1.2.2.2.2.1), .v (.int .i64 x1.2.2.2.2.2)]), (21, .c (.l 79 s78 c0.2)), (22, .c (.v (.int .i64 v0))), (23, .c (.at_ [.v (.int .i64 x2.1), .v (.int .i64 x2.2.1), .v (.int .i64 x2.2.2.1), .v (.int .i64 x2.2.2.2.1), .v (.int .i64 x2.2.2.2.2.1), .v (.int .i64 x2.2.2.2.2.2)])), (24, .agg [.v (.int .i64 x2.1), .v (.int .i64 x2.2.1), .v (.int .i64 x2.2.2.1), .v (.int .i64 x2.2.2.2.1), .v (.int .i64 x2.2.2.2.2.1), .v (.int .i64 x2.2.2.2.2.2)]), (25, .c (.v (.bool p3))), (26, .c (.v (.bool (!p3))))], []⟩) (fun (v0 : V53_0) => K (.exit 0) ⟨27, 0, [(0, .c (.l 79 s78 c0.1)), (1, .c (.l 79 s78 c0.2)), (5, .c (.v (.int .i64 v0))), (11, .c (.v (.int .i64 v0))), (12, .c (.l 79 s78 c0.1)), (13, .c (.v (.int .i64 (c0.1.length : Int)))), (14, .c (.v (.bool (decide (v0 < (c0.1.length : Int))))))], []⟩) c0 (fun v => loopRun [0, 1, 5] (run E (den E k) (lv 53) k (nthLoop Tryz.f53 0)) n (St53_0 c0 v) K) v := by kernel_rfl
theorem l53_0 {R : Type} (k : Nat) (K : Ex → St → Option R) (c0 : C53_0) : ∀ (n : Nat) (v : V53_0), loopRun [0, 1, 5] (run E (den E k) (lv 53) k (nthLoop Tryz.f53 0)) n (St53_0 c0 v) K = L53_0 k (fun (v0 : V53_0) (x1 : Int × Int × Int × Int × Int × Int) (x2 : Int × Int × Int × Int × Int × Int) (p3 : Bool) => K .ret ⟨27, 0, [(0, .c (.l 79 s78 c0.1)), (1, .c (.l 79 s78 c0.2)), (4, .c (.v (.bool false))), (5, .c (.v (.int .i64 v0))), (11, .c (.v (.int .i64 v0))), (12, .c (.l 79 s78 c0.1)), (13, .c (.v (.int .i64 (c0.1.length : Int)))), (14, .c (.v (.bool (decide (v0 < (c0.1.length : Int)))))), (17, .c (.l 79 s78 c0.1)), (18, .c (.v (.int .i64 v0))), (19, .c (.at_ [.v (.int .i64 x1.1), .v (.int .i64 x1.2.1), .v (.int .i64 x1.2.2.1), .v (.int .i64 x1.2.2.2.1), .v (.int .i64 x1.2.2.2.2.1), .v (.int .i64 x1.2.2.2.2.2)])), (20, .agg [.v (.int .i64 x1.1), .v (.int .i64 x1.2.1), .v (.int .i64 x1.2.2.1), .v (.int .i64 x1.2.2.2.1), .v (.int .i64 x1.2.2.2.2.1), .v (.int .i64 x1.2.2.2.2.2)]), (21, .c (.l 79 s78 c0.2)), (22, .c (.v (.int .i64 v0))), (23, .c (.at_ [.v (.int .i64 x2.1), .v (.int .i64 x2.2.1), .v (.int .i64 x2.2.2.1), .v (.int .i64 x2.2.2.2.1), .v (.int .i64 x2.2.2.2.2.1), .v (.int .i64 x2.2.2.2.2.2)])), (24, .agg [.v (.int .i64 x2.1), .v (.int .i64 x2.2.1), .v (.int .i64 x2.2.2.1), .v (.int .i64 x2.2.2.2.1), .v (.int .i64 x2.2.2.2.2.1), .v (.int .i64 x2.2.2.2.2.2)]), (25, .c (.v (.bool p3))), (26, .c (.v (.bool (!p3))))], []⟩) (fun (v0 : V53_0) => K (.exit 0) ⟨27, 0, [(0, .c (.l 79 s78 c0.1)), (1, .c (.l 79 s78 c0.2)), (5, .c (.v (.int .i64 v0))), (11, .c (.v (.int .i64 v0))), (12, .c (.l 79 s78 c0.1)), (13, .c (.v (.int .i64 (c0.1.length : Int)))), (14, .c (.v (.bool (decide (v0 < (c0.1.length : Int))))))], []⟩) c0 n v := by
  intro n
  induction n with
  | zero => intro v; rfl
  | succ n ih =>
    intro v
    refine (b53_0 k n K c0 v).trans ?_
    rw [funext ih]
    kernel_rfl
theorem m53_0 (k : Nat) (a0 : List (Int × Int × Int × Int × Int × Int)) (a1 : List (Int × Int × Int × Int × Int × Int)) : F53 (k + 1) a0 a1 = if ((a0.length : Int) != (a1.length : Int)) = true then some false else loopRun (R := Bool) [0, 1, 5] (run E (den E k) (lv 53) k (nthLoop Tryz.f53 0)) k (St53_0 (a0, a1) 0) (kontAt E (den E k) (lv 53) k (bodyOf Tryz.f53) 0 [] (finish E (rs 53) Tryz.f53 : Ex → St → Option (Bool))) := by kernel_rfl
theorem e53 (k : Nat) (a0 : List (Int × Int × Int × Int × Int × Int)) (a1 : List (Int × Int × Int × Int × Int × Int)) : F53 (k + 1) a0 a1 = if ((a0.length : Int) != (a1.length : Int)) = true then some false else L53_0 k (fun (v0 : Int) (x1 : Int × Int × Int × Int × Int × Int) (x2 : Int × Int × Int × Int × Int × Int) (p3 : Bool) => some false) (fun (v0 : Int) => some true) (a0, a1) k 0 := by
  rw [m53_0]
  simp only [l53_0]
  kernel_rfl
/-! loop.example/g00599/laws.eqQueue -/
noncomputable def F113 (k : Nat) (a0 : List (Int × Int × Int × Int × Int × Int)) (a1 : List (Int × Int × Int × Int × Int × Int)) : Option (Bool) := den E k 113 [.agg [.l 79 s78 a0], .agg [.l 79 s78 a1]]
theorem e113 (k : Nat) (a0 : List (Int × Int × Int × Int × Int × Int)) (a1 : List (Int × Int × Int × Int × Int × Int)) : F113 (k + 1) a0 a1 = (F53 k a0 a1).bind fun p1 => if (!p1) = true then some false else some true := by kernel_rfl
/-! loop.example/g00599/laws.eqQueueS -/
noncomputable def F49 (k : Nat) (a0 : List (List (Int × Int × Int × Int × Int × Int))) (a1 : List (List (Int × Int × Int × Int × Int × Int))) : Option (Bool) := den E k 49 [.c (.l 81 s80 a0), .c (.l 81 s80 a1)]
abbrev C49_0 : Type := (List (List (Int × Int × Int × Int × Int × Int))) × (List (List (Int × Int × Int × Int × Int × Int)))
abbrev V49_0 : Type := Int
def St49_0 (c0 : C49_0) (v0 : V49_0) : St := ⟨27, 0, [(0, .c (.l 81 s80 c0.1)), (1, .c (.l 81 s80 c0.2)), (5, .c (.v (.int .i64 v0)))], []⟩
noncomputable def B49_0 {R : Type} (k : Nat) (X0 : V49_0 → (List (Int × Int × Int × Int × Int × Int)) → (List (Int × Int × Int × Int × Int × Int)) → Bool → Option R) (X1 : V49_0 → Option R) (c0 : C49_0) (rec : V49_0 → Option R) (v0 : V49_0) : Option R := if (decide (v0 < (c0.1.length : Int))) = true then if 0 ≤ v0 then ix c0.1 v0.toNat fun x1 => if 0 ≤ v0 then ix c0.2 v0.toNat fun x2 => (F113 k x1 x2).bind fun p3 => if (!p3) = true then X0 v0 x1 x2 p3 else rec (IntKind.i64.wrap (v0 + 1)) else none else none else X1 v0
noncomputable def L49_0 {R : Type} (k : Nat) (X0 : V49_0 → (List (Int × Int × Int × Int × Int × Int)) → (List (Int × Int × Int × Int × Int × Int)) → Bool → Option R) (X1 : V49_0 → Option R) (c : C49_0) : Nat → V49_0 → Option R
  | 0, _ => none
  | n + 1, v => B49_0 k X0 X1 c (L49_0 k X0 X1 c n) v
theorem b49_0 {R : Type} (k n : Nat) (K : Ex → St → Option R) (c0 : C49_0) (v : V49_0) : loopRun [0, 1, 5] (run E (den E k) (lv 49) k (nthLoop Tryz.f49 0)) (n + 1) (St49_0 c0 v) K = B49_0 k (fun (v0 : V49_0) (x1 : List (Int × Int × Int × Int × Int × Int)) (x2 : List (Int × Int × Int × Int × Int × Int)) (p3 : Bool) => K .ret ⟨27, 0, [(0, .c (.l 81 s80 c0.1)), (1, .c (.l 81 s80 c0.2)), (4, .c (.v (.bool false))), (5, .c (.v (.int .i64 v0))), (11, .c (.v (.int .i64 v0))), (12, .c (.l 81 s80 c0.1)), (13, .c (.v (.int .i64 (c0.1.length : Int)))), (14, .c (.v (.bool (decide (v0 < (c0.1.length : Int)))))), (17, .c (.l 81 s80 c0.1)), (18, .c (.v (.int .i64 v0))), (19, .c (.at_ [.l 79 s78 x1])), (20, .agg [.l 79 s78 x1]), (21, .c (.l 81 s80 c0.2)), (22, .c (.v (.int .i64 v0))), (23, .c (.at_ [.l 79 s78 x2])), (24, .agg [.l 79 s78 x2]), (25, .c (.v (.bool p3))), (26, .c (.v (.bool (!p3))))], []⟩) (fun (v0 : V49_0) => K (.exit 0) ⟨27, 0, [(0, .c (.l 81 s80 c0.1)), (1, .c (.l 81 s80 c0.2)), (5, .c (.v (.int .i64 v0))), (11, .c (.v (.int .i64 v0))), (12, .c (.l 81 s80 c0.1)), (13, .c (.v (.int .i64 (c0.1.length : Int)))), (14, .c (.v (.bool (decide (v0 < (c0.1.length : Int))))))], []⟩) c0 (fun v => loopRun [0, 1, 5] (run E (den E k) (lv 49) k (nthLoop Tryz.f49 0)) n (St49_0 c0 v) K) v := by kernel_rfl
theorem l49_0 {R : Type} (k : Nat) (K : Ex → St → Option R) (c0 : C49_0) : ∀ (n : Nat) (v : V49_0), loopRun [0, 1, 5] (run E (den E k) (lv 49) k (nthLoop Tryz.f49 0)) n (St49_0 c0 v) K = L49_0 k (fun (v0 : V49_0) (x1 : List (Int × Int × Int × Int × Int × Int)) (x2 : List (Int × Int × Int × Int × Int × Int)) (p3 : Bool) => K .ret ⟨27, 0, [(0, .c (.l 81 s80 c0.1)), (1, .c (.l 81 s80 c0.2)), (4, .c (.v (.bool false))), (5, .c (.v (.int .i64 v0))), (11, .c (.v (.int .i64 v0))), (12, .c (.l 81 s80 c0.1)), (13, .c (.v (.int .i64 (c0.1.length : Int)))), (14, .c (.v (.bool (decide (v0 < (c0.1.length : Int)))))), (17, .c (.l 81 s80 c0.1)), (18, .c (.v (.int .i64 v0))), (19, .c (.at_ [.l 79 s78 x1])), (20, .agg [.l 79 s78 x1]), (21, .c (.l 81 s80 c0.2)), (22, .c (.v (.int .i64 v0))), (23, .c (.at_ [.l 79 s78 x2])), (24, .agg [.l 79 s78 x2]), (25, .c (.v (.bool p3))), (26, .c (.v (.bool (!p3))))], []⟩) (fun (v0 : V49_0) => K (.exit 0) ⟨27, 0, [(0, .c (.l 81 s80 c0.1)), (1, .c (.l 81 s80 c0.2)), (5, .c (.v (.int .i64 v0))), (11, .c (.v (.int .i64 v0))), (12, .c (.l 81 s80 c0.1)), (13, .c (.v (.int .i64 (c0.1.length : Int)))), (14, .c (.v (.bool (decide (v0 < (c0.1.length : Int))))))], []⟩) c0 n v := by
  intro n
  induction n with
  | zero => intro v; rfl
  | succ n ih =>
    intro v
    refine (b49_0 k n K c0 v).trans ?_
    rw [funext ih]
    kernel_rfl
theorem m49_0 (k : Nat) (a0 : List (List (Int × Int × Int × Int × Int × Int))) (a1 : List (List (Int × Int × Int × Int × Int × Int))) : F49 (k + 1) a0 a1 = if ((a0.length : Int) != (a1.length : Int)) = true then some false else loopRun (R := Bool) [0, 1, 5] (run E (den E k) (lv 49) k (nthLoop Tryz.f49 0)) k (St49_0 (a0, a1) 0) (kontAt E (den E k) (lv 49) k (bodyOf Tryz.f49) 0 [] (finish E (rs 49) Tryz.f49 : Ex → St → Option (Bool))) := by kernel_rfl
theorem e49 (k : Nat) (a0 : List (List (Int × Int × Int × Int × Int × Int))) (a1 : List (List (Int × Int × Int × Int × Int × Int))) : F49 (k + 1) a0 a1 = if ((a0.length : Int) != (a1.length : Int)) = true then some false else L49_0 k (fun (v0 : Int) (x1 : List (Int × Int × Int × Int × Int × Int)) (x2 : List (Int × Int × Int × Int × Int × Int)) (p3 : Bool) => some false) (fun (v0 : Int) => some true) (a0, a1) k 0 := by
  rw [m49_0]
  simp only [l49_0]
  kernel_rfl
/-! loop.example/g00599/laws.eqFlow -/
noncomputable def F114 (k : Nat) (a0 : Int × Int × Int × Int) (a1 : Int × Int × Int × Int) : Option (Bool) := den E k 114 [.agg [.v (.int .i64 a0.1), .v (.int .i64 a0.2.1), .v (.int .i64 a0.2.2.1), .v (.int .i64 a0.2.2.2)], .agg [.v (.int .i64 a1.1), .v (.int .i64 a1.2.1), .v (.int .i64 a1.2.2.1), .v (.int .i64 a1.2.2.2)]]
theorem e114 (k : Nat) (a0 : Int × Int × Int × Int) (a1 : Int × Int × Int × Int) : F114 (k + 1) a0 a1 = if (a0.1 != a1.1) = true then some false else if (a0.2.1 != a1.2.1) = true then some false else if (a0.2.2.1 != a1.2.2.1) = true then some false else if (a0.2.2.2 != a1.2.2.2) = true then some false else some true := by kernel_rfl
/-! loop.example/g00599/laws.eqFlowS -/
noncomputable def F50 (k : Nat) (a0 : List (Int × Int × Int × Int)) (a1 : List (Int × Int × Int × Int)) : Option (Bool) := den E k 50 [.c (.l 141 s83 a0), .c (.l 141 s83 a1)]
abbrev C50_0 : Type := (List (Int × Int × Int × Int)) × (List (Int × Int × Int × Int))
abbrev V50_0 : Type := Int
def St50_0 (c0 : C50_0) (v0 : V50_0) : St := ⟨27, 0, [(0, .c (.l 141 s83 c0.1)), (1, .c (.l 141 s83 c0.2)), (5, .c (.v (.int .i64 v0)))], []⟩
noncomputable def B50_0 {R : Type} (k : Nat) (X0 : V50_0 → (Int × Int × Int × Int) → (Int × Int × Int × Int) → Bool → Option R) (X1 : V50_0 → Option R) (c0 : C50_0) (rec : V50_0 → Option R) (v0 : V50_0) : Option R := if (decide (v0 < (c0.1.length : Int))) = true then if 0 ≤ v0 then ix c0.1 v0.toNat fun x1 => if 0 ≤ v0 then ix c0.2 v0.toNat fun x2 => (F114 k x1 x2).bind fun p3 => if (!p3) = true then X0 v0 x1 x2 p3 else rec (IntKind.i64.wrap (v0 + 1)) else none else none else X1 v0
noncomputable def L50_0 {R : Type} (k : Nat) (X0 : V50_0 → (Int × Int × Int × Int) → (Int × Int × Int × Int) → Bool → Option R) (X1 : V50_0 → Option R) (c : C50_0) : Nat → V50_0 → Option R
  | 0, _ => none
  | n + 1, v => B50_0 k X0 X1 c (L50_0 k X0 X1 c n) v
theorem b50_0 {R : Type} (k n : Nat) (K : Ex → St → Option R) (c0 : C50_0) (v : V50_0) : loopRun [0, 1, 5] (run E (den E k) (lv 50) k (nthLoop Tryz.f50 0)) (n + 1) (St50_0 c0 v) K = B50_0 k (fun (v0 : V50_0) (x1 : Int × Int × Int × Int) (x2 : Int × Int × Int × Int) (p3 : Bool) => K .ret ⟨27, 0, [(0, .c (.l 141 s83 c0.1)), (1, .c (.l 141 s83 c0.2)), (4, .c (.v (.bool false))), (5, .c (.v (.int .i64 v0))), (11, .c (.v (.int .i64 v0))), (12, .c (.l 141 s83 c0.1)), (13, .c (.v (.int .i64 (c0.1.length : Int)))), (14, .c (.v (.bool (decide (v0 < (c0.1.length : Int)))))), (17, .c (.l 141 s83 c0.1)), (18, .c (.v (.int .i64 v0))), (19, .c (.at_ [.v (.int .i64 x1.1), .v (.int .i64 x1.2.1), .v (.int .i64 x1.2.2.1), .v (.int .i64 x1.2.2.2)])), (20, .agg [.v (.int .i64 x1.1), .v (.int .i64 x1.2.1), .v (.int .i64 x1.2.2.1), .v (.int .i64 x1.2.2.2)]), (21, .c (.l 141 s83 c0.2)), (22, .c (.v (.int .i64 v0))), (23, .c (.at_ [.v (.int .i64 x2.1), .v (.int .i64 x2.2.1), .v (.int .i64 x2.2.2.1), .v (.int .i64 x2.2.2.2)])), (24, .agg [.v (.int .i64 x2.1), .v (.int .i64 x2.2.1), .v (.int .i64 x2.2.2.1), .v (.int .i64 x2.2.2.2)]), (25, .c (.v (.bool p3))), (26, .c (.v (.bool (!p3))))], []⟩) (fun (v0 : V50_0) => K (.exit 0) ⟨27, 0, [(0, .c (.l 141 s83 c0.1)), (1, .c (.l 141 s83 c0.2)), (5, .c (.v (.int .i64 v0))), (11, .c (.v (.int .i64 v0))), (12, .c (.l 141 s83 c0.1)), (13, .c (.v (.int .i64 (c0.1.length : Int)))), (14, .c (.v (.bool (decide (v0 < (c0.1.length : Int))))))], []⟩) c0 (fun v => loopRun [0, 1, 5] (run E (den E k) (lv 50) k (nthLoop Tryz.f50 0)) n (St50_0 c0 v) K) v := by kernel_rfl
theorem l50_0 {R : Type} (k : Nat) (K : Ex → St → Option R) (c0 : C50_0) : ∀ (n : Nat) (v : V50_0), loopRun [0, 1, 5] (run E (den E k) (lv 50) k (nthLoop Tryz.f50 0)) n (St50_0 c0 v) K = L50_0 k (fun (v0 : V50_0) (x1 : Int × Int × Int × Int) (x2 : Int × Int × Int × Int) (p3 : Bool) => K .ret ⟨27, 0, [(0, .c (.l 141 s83 c0.1)), (1, .c (.l 141 s83 c0.2)), (4, .c (.v (.bool false))), (5, .c (.v (.int .i64 v0))), (11, .c (.v (.int .i64 v0))), (12, .c (.l 141 s83 c0.1)), (13, .c (.v (.int .i64 (c0.1.length : Int)))), (14, .c (.v (.bool (decide (v0 < (c0.1.length : Int)))))), (17, .c (.l 141 s83 c0.1)), (18, .c (.v (.int .i64 v0))), (19, .c (.at_ [.v (.int .i64 x1.1), .v (.int .i64 x1.2.1), .v (.int .i64 x1.2.2.1), .v (.int .i64 x1.2.2.2)])), (20, .agg [.v (.int .i64 x1.1), .v (.int .i64 x1.2.1), .v (.int .i64 x1.2.2.1), .v (.int .i64 x1.2.2.2)]), (21, .c (.l 141 s83 c0.2)), (22, .c (.v (.int .i64 v0))), (23, .c (.at_ [.v (.int .i64 x2.1), .v (.int .i64 x2.2.1), .v (.int .i64 x2.2.2.1), .v (.int .i64 x2.2.2.2)])), (24, .agg [.v (.int .i64 x2.1), .v (.int .i64 x2.2.1), .v (.int .i64 x2.2.2.1), .v (.int .i64 x2.2.2.2)]), (25, .c (.v (.bool p3))), (26, .c (.v (.bool (!p3))))], []⟩) (fun (v0 : V50_0) => K (.exit 0) ⟨27, 0, [(0, .c (.l 141 s83 c0.1)), (1, .c (.l 141 s83 c0.2)), (5, .c (.v (.int .i64 v0))), (11, .c (.v (.int .i64 v0))), (12, .c (.l 141 s83 c0.1)), (13, .c (.v (.int .i64 (c0.1.length : Int)))), (14, .c (.v (.bool (decide (v0 < (c0.1.length : Int))))))], []⟩) c0 n v := by
  intro n
  induction n with
  | zero => intro v; rfl
  | succ n ih =>
    intro v
    refine (b50_0 k n K c0 v).trans ?_
    rw [funext ih]
    kernel_rfl
theorem m50_0 (k : Nat) (a0 : List (Int × Int × Int × Int)) (a1 : List (Int × Int × Int × Int)) : F50 (k + 1) a0 a1 = if ((a0.length : Int) != (a1.length : Int)) = true then some false else loopRun (R := Bool) [0, 1, 5] (run E (den E k) (lv 50) k (nthLoop Tryz.f50 0)) k (St50_0 (a0, a1) 0) (kontAt E (den E k) (lv 50) k (bodyOf Tryz.f50) 0 [] (finish E (rs 50) Tryz.f50 : Ex → St → Option (Bool))) := by kernel_rfl
theorem e50 (k : Nat) (a0 : List (Int × Int × Int × Int)) (a1 : List (Int × Int × Int × Int)) : F50 (k + 1) a0 a1 = if ((a0.length : Int) != (a1.length : Int)) = true then some false else L50_0 k (fun (v0 : Int) (x1 : Int × Int × Int × Int) (x2 : Int × Int × Int × Int) (p3 : Bool) => some false) (fun (v0 : Int) => some true) (a0, a1) k 0 := by
  rw [m50_0]
  simp only [l50_0]
  kernel_rfl
/-! loop.example/g00599/laws.eqStream -/
noncomputable def F115 (k : Nat) (a0 : Int × Int × List Int) (a1 : Int × Int × List Int) : Option (Bool) := den E k 115 [.agg [.v (.int .i64 a0.1), .v (.int .i64 a0.2.1), .l 3 (.i .i64) a0.2.2], .agg [.v (.int .i64 a1.1), .v (.int .i64 a1.2.1), .l 3 (.i .i64) a1.2.2]]
theorem e115 (k : Nat) (a0 : Int × Int × List Int) (a1 : Int × Int × List Int) : F115 (k + 1) a0 a1 = if (a0.1 != a1.1) = true then some false else if (a0.2.1 != a1.2.1) = true then some false else (F47 k a0.2.2 a1.2.2).bind fun p1 => if (!p1) = true then some false else some true := by kernel_rfl
/-! loop.example/g00599/laws.eqStreamS -/
noncomputable def F51 (k : Nat) (a0 : List (Int × Int × List Int)) (a1 : List (Int × Int × List Int)) : Option (Bool) := den E k 51 [.c (.l 144 s143 a0), .c (.l 144 s143 a1)]
abbrev C51_0 : Type := (List (Int × Int × List Int)) × (List (Int × Int × List Int))
abbrev V51_0 : Type := Int
def St51_0 (c0 : C51_0) (v0 : V51_0) : St := ⟨27, 0, [(0, .c (.l 144 s143 c0.1)), (1, .c (.l 144 s143 c0.2)), (5, .c (.v (.int .i64 v0)))], []⟩
noncomputable def B51_0 {R : Type} (k : Nat) (X0 : V51_0 → (Int × Int × List Int) → (Int × Int × List Int) → Bool → Option R) (X1 : V51_0 → Option R) (c0 : C51_0) (rec : V51_0 → Option R) (v0 : V51_0) : Option R := if (decide (v0 < (c0.1.length : Int))) = true then if 0 ≤ v0 then ix c0.1 v0.toNat fun x1 => if 0 ≤ v0 then ix c0.2 v0.toNat fun x2 => (F115 k x1 x2).bind fun p3 => if (!p3) = true then X0 v0 x1 x2 p3 else rec (IntKind.i64.wrap (v0 + 1)) else none else none else X1 v0
noncomputable def L51_0 {R : Type} (k : Nat) (X0 : V51_0 → (Int × Int × List Int) → (Int × Int × List Int) → Bool → Option R) (X1 : V51_0 → Option R) (c : C51_0) : Nat → V51_0 → Option R
  | 0, _ => none
  | n + 1, v => B51_0 k X0 X1 c (L51_0 k X0 X1 c n) v
theorem b51_0 {R : Type} (k n : Nat) (K : Ex → St → Option R) (c0 : C51_0) (v : V51_0) : loopRun [0, 1, 5] (run E (den E k) (lv 51) k (nthLoop Tryz.f51 0)) (n + 1) (St51_0 c0 v) K = B51_0 k (fun (v0 : V51_0) (x1 : Int × Int × List Int) (x2 : Int × Int × List Int) (p3 : Bool) => K .ret ⟨27, 0, [(0, .c (.l 144 s143 c0.1)), (1, .c (.l 144 s143 c0.2)), (4, .c (.v (.bool false))), (5, .c (.v (.int .i64 v0))), (11, .c (.v (.int .i64 v0))), (12, .c (.l 144 s143 c0.1)), (13, .c (.v (.int .i64 (c0.1.length : Int)))), (14, .c (.v (.bool (decide (v0 < (c0.1.length : Int)))))), (17, .c (.l 144 s143 c0.1)), (18, .c (.v (.int .i64 v0))), (19, .c (.at_ [.v (.int .i64 x1.1), .v (.int .i64 x1.2.1), .l 3 (.i .i64) x1.2.2])), (20, .agg [.v (.int .i64 x1.1), .v (.int .i64 x1.2.1), .l 3 (.i .i64) x1.2.2]), (21, .c (.l 144 s143 c0.2)), (22, .c (.v (.int .i64 v0))), (23, .c (.at_ [.v (.int .i64 x2.1), .v (.int .i64 x2.2.1), .l 3 (.i .i64) x2.2.2])), (24, .agg [.v (.int .i64 x2.1), .v (.int .i64 x2.2.1), .l 3 (.i .i64) x2.2.2]), (25, .c (.v (.bool p3))), (26, .c (.v (.bool (!p3))))], []⟩) (fun (v0 : V51_0) => K (.exit 0) ⟨27, 0, [(0, .c (.l 144 s143 c0.1)), (1, .c (.l 144 s143 c0.2)), (5, .c (.v (.int .i64 v0))), (11, .c (.v (.int .i64 v0))), (12, .c (.l 144 s143 c0.1)), (13, .c (.v (.int .i64 (c0.1.length : Int)))), (14, .c (.v (.bool (decide (v0 < (c0.1.length : Int))))))], []⟩) c0 (fun v => loopRun [0, 1, 5] (run E (den E k) (lv 51) k (nthLoop Tryz.f51 0)) n (St51_0 c0 v) K) v := by kernel_rfl
theorem l51_0 {R : Type} (k : Nat) (K : Ex → St → Option R) (c0 : C51_0) : ∀ (n : Nat) (v : V51_0), loopRun [0, 1, 5] (run E (den E k) (lv 51) k (nthLoop Tryz.f51 0)) n (St51_0 c0 v) K = L51_0 k (fun (v0 : V51_0) (x1 : Int × Int × List Int) (x2 : Int × Int × List Int) (p3 : Bool) => K .ret ⟨27, 0, [(0, .c (.l 144 s143 c0.1)), (1, .c (.l 144 s143 c0.2)), (4, .c (.v (.bool false))), (5, .c (.v (.int .i64 v0))), (11, .c (.v (.int .i64 v0))), (12, .c (.l 144 s143 c0.1)), (13, .c (.v (.int .i64 (c0.1.length : Int)))), (14, .c (.v (.bool (decide (v0 < (c0.1.length : Int)))))), (17, .c (.l 144 s143 c0.1)), (18, .c (.v (.int .i64 v0))), (19, .c (.at_ [.v (.int .i64 x1.1), .v (.int .i64 x1.2.1), .l 3 (.i .i64) x1.2.2])), (20, .agg [.v (.int .i64 x1.1), .v (.int .i64 x1.2.1), .l 3 (.i .i64) x1.2.2]), (21, .c (.l 144 s143 c0.2)), (22, .c (.v (.int .i64 v0))), (23, .c (.at_ [.v (.int .i64 x2.1), .v (.int .i64 x2.2.1), .l 3 (.i .i64) x2.2.2])), (24, .agg [.v (.int .i64 x2.1), .v (.int .i64 x2.2.1), .l 3 (.i .i64) x2.2.2]), (25, .c (.v (.bool p3))), (26, .c (.v (.bool (!p3))))], []⟩) (fun (v0 : V51_0) => K (.exit 0) ⟨27, 0, [(0, .c (.l 144 s143 c0.1)), (1, .c (.l 144 s143 c0.2)), (5, .c (.v (.int .i64 v0))), (11, .c (.v (.int .i64 v0))), (12, .c (.l 144 s143 c0.1)), (13, .c (.v (.int .i64 (c0.1.length : Int)))), (14, .c (.v (.bool (decide (v0 < (c0.1.length : Int))))))], []⟩) c0 n v := by
  intro n
  induction n with
  | zero => intro v; rfl
  | succ n ih =>
    intro v
    refine (b51_0 k n K c0 v).trans ?_
    rw [funext ih]
    kernel_rfl
theorem m51_0 (k : Nat) (a0 : List (Int × Int × List Int)) (a1 : List (Int × Int × List Int)) : F51 (k + 1) a0 a1 = if ((a0.length : Int) != (a1.length : Int)) = true then some false else loopRun (R := Bool) [0, 1, 5] (run E (den E k) (lv 51) k (nthLoop Tryz.f51 0)) k (St51_0 (a0, a1) 0) (kontAt E (den E k) (lv 51) k (bodyOf Tryz.f51) 0 [] (finish E (rs 51) Tryz.f51 : Ex → St → Option (Bool))) := by kernel_rfl
theorem e51 (k : Nat) (a0 : List (Int × Int × List Int)) (a1 : List (Int × Int × List Int)) : F51 (k + 1) a0 a1 = if ((a0.length : Int) != (a1.length : Int)) = true then some false else L51_0 k (fun (v0 : Int) (x1 : Int × Int × List Int) (x2 : Int × Int × List Int) (p3 : Bool) => some false) (fun (v0 : Int) => some true) (a0, a1) k 0 := by
  rw [m51_0]
  simp only [l51_0]
  kernel_rfl
/-! loop.example/g00599/laws.eqFault -/
noncomputable def F116 (k : Nat) (a0 : Int × Int × Int × Int) (a1 : Int × Int × Int × Int) : Option (Bool) := den E k 116 [.agg [.v (.int .i64 a0.1), .v (.int .i64 a0.2.1), .v (.int .i64 a0.2.2.1), .v (.int .i64 a0.2.2.2)], .agg [.v (.int .i64 a1.1), .v (.int .i64 a1.2.1), .v (.int .i64 a1.2.2.1), .v (.int .i64 a1.2.2.2)]]
theorem e116 (k : Nat) (a0 : Int × Int × Int × Int) (a1 : Int × Int × Int × Int) : F116 (k + 1) a0 a1 = if (a0.1 != a1.1) = true then some false else if (a0.2.1 != a1.2.1) = true then some false else if (a0.2.2.1 != a1.2.2.1) = true then some false else if (a0.2.2.2 != a1.2.2.2) = true then some false else some true := by kernel_rfl
/-! loop.example/g00599/laws.eqFaultS -/
noncomputable def F52 (k : Nat) (a0 : List (Int × Int × Int × Int)) (a1 : List (Int × Int × Int × Int)) : Option (Bool) := den E k 52 [.c (.l 147 s83 a0), .c (.l 147 s83 a1)]
abbrev C52_0 : Type := (List (Int × Int × Int × Int)) × (List (Int × Int × Int × Int))
abbrev V52_0 : Type := Int
def St52_0 (c0 : C52_0) (v0 : V52_0) : St := ⟨27, 0, [(0, .c (.l 147 s83 c0.1)), (1, .c (.l 147 s83 c0.2)), (5, .c (.v (.int .i64 v0)))], []⟩
noncomputable def B52_0 {R : Type} (k : Nat) (X0 : V52_0 → (Int × Int × Int × Int) → (Int × Int × Int × Int) → Bool → Option R) (X1 : V52_0 → Option R) (c0 : C52_0) (rec : V52_0 → Option R) (v0 : V52_0) : Option R := if (decide (v0 < (c0.1.length : Int))) = true then if 0 ≤ v0 then ix c0.1 v0.toNat fun x1 => if 0 ≤ v0 then ix c0.2 v0.toNat fun x2 => (F116 k x1 x2).bind fun p3 => if (!p3) = true then X0 v0 x1 x2 p3 else rec (IntKind.i64.wrap (v0 + 1)) else none else none else X1 v0
noncomputable def L52_0 {R : Type} (k : Nat) (X0 : V52_0 → (Int × Int × Int × Int) → (Int × Int × Int × Int) → Bool → Option R) (X1 : V52_0 → Option R) (c : C52_0) : Nat → V52_0 → Option R
  | 0, _ => none
  | n + 1, v => B52_0 k X0 X1 c (L52_0 k X0 X1 c n) v
theorem b52_0 {R : Type} (k n : Nat) (K : Ex → St → Option R) (c0 : C52_0) (v : V52_0) : loopRun [0, 1, 5] (run E (den E k) (lv 52) k (nthLoop Tryz.f52 0)) (n + 1) (St52_0 c0 v) K = B52_0 k (fun (v0 : V52_0) (x1 : Int × Int × Int × Int) (x2 : Int × Int × Int × Int) (p3 : Bool) => K .ret ⟨27, 0, [(0, .c (.l 147 s83 c0.1)), (1, .c (.l 147 s83 c0.2)), (4, .c (.v (.bool false))), (5, .c (.v (.int .i64 v0))), (11, .c (.v (.int .i64 v0))), (12, .c (.l 147 s83 c0.1)), (13, .c (.v (.int .i64 (c0.1.length : Int)))), (14, .c (.v (.bool (decide (v0 < (c0.1.length : Int)))))), (17, .c (.l 147 s83 c0.1)), (18, .c (.v (.int .i64 v0))), (19, .c (.at_ [.v (.int .i64 x1.1), .v (.int .i64 x1.2.1), .v (.int .i64 x1.2.2.1), .v (.int .i64 x1.2.2.2)])), (20, .agg [.v (.int .i64 x1.1), .v (.int .i64 x1.2.1), .v (.int .i64 x1.2.2.1), .v (.int .i64 x1.2.2.2)]), (21, .c (.l 147 s83 c0.2)), (22, .c (.v (.int .i64 v0))), (23, .c (.at_ [.v (.int .i64 x2.1), .v (.int .i64 x2.2.1), .v (.int .i64 x2.2.2.1), .v (.int .i64 x2.2.2.2)])), (24, .agg [.v (.int .i64 x2.1), .v (.int .i64 x2.2.1), .v (.int .i64 x2.2.2.1), .v (.int .i64 x2.2.2.2)]), (25, .c (.v (.bool p3))), (26, .c (.v (.bool (!p3))))], []⟩) (fun (v0 : V52_0) => K (.exit 0) ⟨27, 0, [(0, .c (.l 147 s83 c0.1)), (1, .c (.l 147 s83 c0.2)), (5, .c (.v (.int .i64 v0))), (11, .c (.v (.int .i64 v0))), (12, .c (.l 147 s83 c0.1)), (13, .c (.v (.int .i64 (c0.1.length : Int)))), (14, .c (.v (.bool (decide (v0 < (c0.1.length : Int))))))], []⟩) c0 (fun v => loopRun [0, 1, 5] (run E (den E k) (lv 52) k (nthLoop Tryz.f52 0)) n (St52_0 c0 v) K) v := by kernel_rfl
theorem l52_0 {R : Type} (k : Nat) (K : Ex → St → Option R) (c0 : C52_0) : ∀ (n : Nat) (v : V52_0), loopRun [0, 1, 5] (run E (den E k) (lv 52) k (nthLoop Tryz.f52 0)) n (St52_0 c0 v) K = L52_0 k (fun (v0 : V52_0) (x1 : Int × Int × Int × Int) (x2 : Int × Int × Int × Int) (p3 : Bool) => K .ret ⟨27, 0, [(0, .c (.l 147 s83 c0.1)), (1, .c (.l 147 s83 c0.2)), (4, .c (.v (.bool false))), (5, .c (.v (.int .i64 v0))), (11, .c (.v (.int .i64 v0))), (12, .c (.l 147 s83 c0.1)), (13, .c (.v (.int .i64 (c0.1.length : Int)))), (14, .c (.v (.bool (decide (v0 < (c0.1.length : Int)))))), (17, .c (.l 147 s83 c0.1)), (18, .c (.v (.int .i64 v0))), (19, .c (.at_ [.v (.int .i64 x1.1), .v (.int .i64 x1.2.1), .v (.int .i64 x1.2.2.1), .v (.int .i64 x1.2.2.2)])), (20, .agg [.v (.int .i64 x1.1), .v (.int .i64 x1.2.1), .v (.int .i64 x1.2.2.1), .v (.int .i64 x1.2.2.2)]), (21, .c (.l 147 s83 c0.2)), (22, .c (.v (.int .i64 v0))), (23, .c (.at_ [.v (.int .i64 x2.1), .v (.int .i64 x2.2.1), .v (.int .i64 x2.2.2.1), .v (.int .i64 x2.2.2.2)])), (24, .agg [.v (.int .i64 x2.1), .v (.int .i64 x2.2.1), .v (.int .i64 x2.2.2.1), .v (.int .i64 x2.2.2.2)]), (25, .c (.v (.bool p3))), (26, .c (.v (.bool (!p3))))], []⟩) (fun (v0 : V52_0) => K (.exit 0) ⟨27, 0, [(0, .c (.l 147 s83 c0.1)), (1, .c (.l 147 s83 c0.2)), (5, .c (.v (.int .i64 v0))), (11, .c (.v (.int .i64 v0))), (12, .c (.l 147 s83 c0.1)), (13, .c (.v (.int .i64 (c0.1.length : Int)))), (14, .c (.v (.bool (decide (v0 < (c0.1.length : Int))))))], []⟩) c0 n v := by
  intro n
  induction n with
  | zero => intro v; rfl
  | succ n ih =>
    intro v
    refine (b52_0 k n K c0 v).trans ?_
    rw [funext ih]
    kernel_rfl
theorem m52_0 (k : Nat) (a0 : List (Int × Int × Int × Int)) (a1 : List (Int × Int × Int × Int)) : F52 (k + 1) a0 a1 = if ((a0.length : Int) != (a1.length : Int)) = true then some false else loopRun (R := Bool) [0, 1, 5] (run E (den E k) (lv 52) k (nthLoop Tryz.f52 0)) k (St52_0 (a0, a1) 0) (kontAt E (den E k) (lv 52) k (bodyOf Tryz.f52) 0 [] (finish E (rs 52) Tryz.f52 : Ex → St → Option (Bool))) := by kernel_rfl
theorem e52 (k : Nat) (a0 : List (Int × Int × Int × Int)) (a1 : List (Int × Int × Int × Int)) : F52 (k + 1) a0 a1 = if ((a0.length : Int) != (a1.length : Int)) = true then some false else L52_0 k (fun (v0 : Int) (x1 : Int × Int × Int × Int) (x2 : Int × Int × Int × Int) (p3 : Bool) => some false) (fun (v0 : Int) => some true) (a0, a1) k 0 := by
  rw [m52_0]
  simp only [l52_0]
  kernel_rfl
/-! loop.example/g00599/laws.eqSent -/
noncomputable def F118 (k : Nat) (a0 : Int × Int × Int × Int) (a1 : Int × Int × Int × Int) : Option (Bool) := den E k 118 [.agg [.v (.int .i64 a0.1), .v (.int .i64 a0.2.1), .v (.int .i64 a0.2.2.1), .v (.int .i64 a0.2.2.2)], .agg [.v (.int .i64 a1.1), .v (.int .i64 a1.2.1), .v (.int .i64 a1.2.2.1), .v (.int .i64 a1.2.2.2)]]
theorem e118 (k : Nat) (a0 : Int × Int × Int × Int) (a1 : Int × Int × Int × Int) : F118 (k + 1) a0 a1 = if (a0.1 != a1.1) = true then some false else if (a0.2.1 != a1.2.1) = true then some false else if (a0.2.2.1 != a1.2.2.1) = true then some false else if (a0.2.2.2 != a1.2.2.2) = true then some false else some true := by kernel_rfl
/-! loop.example/g00599/laws.eqSentS -/
noncomputable def F54 (k : Nat) (a0 : List (Int × Int × Int × Int)) (a1 : List (Int × Int × Int × Int)) : Option (Bool) := den E k 54 [.c (.l 84 s83 a0), .c (.l 84 s83 a1)]
abbrev C54_0 : Type := (List (Int × Int × Int × Int)) × (List (Int × Int × Int × Int))
abbrev V54_0 : Type := Int
def St54_0 (c0 : C54_0) (v0 : V54_0) : St := ⟨27, 0, [(0, .c (.l 84 s83 c0.1)), (1, .c (.l 84 s83 c0.2)), (5, .c (.v (.int .i64 v0)))], []⟩
noncomputable def B54_0 {R : Type} (k : Nat) (X0 : V54_0 → (Int × Int × Int × Int) → (Int × Int × Int × Int) → Bool → Option R) (X1 : V54_0 → Option R) (c0 : C54_0) (rec : V54_0 → Option R) (v0 : V54_0) : Option R := if (decide (v0 < (c0.1.length : Int))) = true then if 0 ≤ v0 then ix c0.1 v0.toNat fun x1 => if 0 ≤ v0 then ix c0.2 v0.toNat fun x2 => (F118 k x1 x2).bind fun p3 => if (!p3) = true then X0 v0 x1 x2 p3 else rec (IntKind.i64.wrap (v0 + 1)) else none else none else X1 v0
noncomputable def L54_0 {R : Type} (k : Nat) (X0 : V54_0 → (Int × Int × Int × Int) → (Int × Int × Int × Int) → Bool → Option R) (X1 : V54_0 → Option R) (c : C54_0) : Nat → V54_0 → Option R
  | 0, _ => none
  | n + 1, v => B54_0 k X0 X1 c (L54_0 k X0 X1 c n) v
theorem b54_0 {R : Type} (k n : Nat) (K : Ex → St → Option R) (c0 : C54_0) (v : V54_0) : loopRun [0, 1, 5] (run E (den E k) (lv 54) k (nthLoop Tryz.f54 0)) (n + 1) (St54_0 c0 v) K = B54_0 k (fun (v0 : V54_0) (x1 : Int × Int × Int × Int) (x2 : Int × Int × Int × Int) (p3 : Bool) => K .ret ⟨27, 0, [(0, .c (.l 84 s83 c0.1)), (1, .c (.l 84 s83 c0.2)), (4, .c (.v (.bool false))), (5, .c (.v (.int .i64 v0))), (11, .c (.v (.int .i64 v0))), (12, .c (.l 84 s83 c0.1)), (13, .c (.v (.int .i64 (c0.1.length : Int)))), (14, .c (.v (.bool (decide (v0 < (c0.1.length : Int)))))), (17, .c (.l 84 s83 c0.1)), (18, .c (.v (.int .i64 v0))), (19, .c (.at_ [.v (.int .i64 x1.1), .v (.int .i64 x1.2.1), .v (.int .i64 x1.2.2.1), .v (.int .i64 x1.2.2.2)])), (20, .agg [.v (.int .i64 x1.1), .v (.int .i64 x1.2.1), .v (.int .i64 x1.2.2.1), .v (.int .i64 x1.2.2.2)]), (21, .c (.l 84 s83 c0.2)), (22, .c (.v (.int .i64 v0))), (23, .c (.at_ [.v (.int .i64 x2.1), .v (.int .i64 x2.2.1), .v (.int .i64 x2.2.2.1), .v (.int .i64 x2.2.2.2)])), (24, .agg [.v (.int .i64 x2.1), .v (.int .i64 x2.2.1), .v (.int .i64 x2.2.2.1), .v (.int .i64 x2.2.2.2)]), (25, .c (.v (.bool p3))), (26, .c (.v (.bool (!p3))))], []⟩) (fun (v0 : V54_0) => K (.exit 0) ⟨27, 0, [(0, .c (.l 84 s83 c0.1)), (1, .c (.l 84 s83 c0.2)), (5, .c (.v (.int .i64 v0))), (11, .c (.v (.int .i64 v0))), (12, .c (.l 84 s83 c0.1)), (13, .c (.v (.int .i64 (c0.1.length : Int)))), (14, .c (.v (.bool (decide (v0 < (c0.1.length : Int))))))], []⟩) c0 (fun v => loopRun [0, 1, 5] (run E (den E k) (lv 54) k (nthLoop Tryz.f54 0)) n (St54_0 c0 v) K) v := by kernel_rfl
theorem l54_0 {R : Type} (k : Nat) (K : Ex → St → Option R) (c0 : C54_0) : ∀ (n : Nat) (v : V54_0), loopRun [0, 1, 5] (run E (den E k) (lv 54) k (nthLoop Tryz.f54 0)) n (St54_0 c0 v) K = L54_0 k (fun (v0 : V54_0) (x1 : Int × Int × Int × Int) (x2 : Int × Int × Int × Int) (p3 : Bool) => K .ret ⟨27, 0, [(0, .c (.l 84 s83 c0.1)), (1, .c (.l 84 s83 c0.2)), (4, .c (.v (.bool false))), (5, .c (.v (.int .i64 v0))), (11, .c (.v (.int .i64 v0))), (12, .c (.l 84 s83 c0.1)), (13, .c (.v (.int .i64 (c0.1.length : Int)))), (14, .c (.v (.bool (decide (v0 < (c0.1.length : Int)))))), (17, .c (.l 84 s83 c0.1)), (18, .c (.v (.int .i64 v0))), (19, .c (.at_ [.v (.int .i64 x1.1), .v (.int .i64 x1.2.1), .v (.int .i64 x1.2.2.1), .v (.int .i64 x1.2.2.2)])), (20, .agg [.v (.int .i64 x1.1), .v (.int .i64 x1.2.1), .v (.int .i64 x1.2.2.1), .v (.int .i64 x1.2.2.2)]), (21, .c (.l 84 s83 c0.2)), (22, .c (.v (.int .i64 v0))), (23, .c (.at_ [.v (.int .i64 x2.1), .v (.int .i64 x2.2.1), .v (.int .i64 x2.2.2.1), .v (.int .i64 x2.2.2.2)])), (24, .agg [.v (.int .i64 x2.1), .v (.int .i64 x2.2.1), .v (.int .i64 x2.2.2.1), .v (.int .i64 x2.2.2.2)]), (25, .c (.v (.bool p3))), (26, .c (.v (.bool (!p3))))], []⟩) (fun (v0 : V54_0) => K (.exit 0) ⟨27, 0, [(0, .c (.l 84 s83 c0.1)), (1, .c (.l 84 s83 c0.2)), (5, .c (.v (.int .i64 v0))), (11, .c (.v (.int .i64 v0))), (12, .c (.l 84 s83 c0.1)), (13, .c (.v (.int .i64 (c0.1.length : Int)))), (14, .c (.v (.bool (decide (v0 < (c0.1.length : Int))))))], []⟩) c0 n v := by
  intro n
  induction n with
  | zero => intro v; rfl
  | succ n ih =>
    intro v
    refine (b54_0 k n K c0 v).trans ?_
    rw [funext ih]
    kernel_rfl
theorem m54_0 (k : Nat) (a0 : List (Int × Int × Int × Int)) (a1 : List (Int × Int × Int × Int)) : F54 (k + 1) a0 a1 = if ((a0.length : Int) != (a1.length : Int)) = true then some false else loopRun (R := Bool) [0, 1, 5] (run E (den E k) (lv 54) k (nthLoop Tryz.f54 0)) k (St54_0 (a0, a1) 0) (kontAt E (den E k) (lv 54) k (bodyOf Tryz.f54) 0 [] (finish E (rs 54) Tryz.f54 : Ex → St → Option (Bool))) := by kernel_rfl
theorem e54 (k : Nat) (a0 : List (Int × Int × Int × Int)) (a1 : List (Int × Int × Int × Int)) : F54 (k + 1) a0 a1 = if ((a0.length : Int) != (a1.length : Int)) = true then some false else L54_0 k (fun (v0 : Int) (x1 : Int × Int × Int × Int) (x2 : Int × Int × Int × Int) (p3 : Bool) => some false) (fun (v0 : Int) => some true) (a0, a1) k 0 := by
  rw [m54_0]
  simp only [l54_0]
  kernel_rfl
/-! loop.example/g00599/laws.eqWorld -/
noncomputable def F11 (k : Nat) (a0 : T40) (a1 : T40) : Option (Bool) := den E k 11 [.agg [.v (.int .i64 a0.1.1), .l 112 s83 a0.1.2.1, .l 115 s114 a0.1.2.2.1, .v (.int .i64 a0.1.2.2.2.1), .v (.int .i64 a0.1.2.2.2.2.1), .v (.int .i64 a0.1.2.2.2.2.2.1), .v (.int .i64 a0.1.2.2.2.2.2.2.1), .v (.int .i64 a0.1.2.2.2.2.2.2.2.1), .l 120 s119 a0.1.2.2.2.2.2.2.2.2.1, .v (.int .i64 a0.1.2.2.2.2.2.2.2.2.2), .v (.int .i64 a0.2.1.1), .v (.int .i64 a0.2.1.2.1), .v (.int .i64 a0.2.1.2.2.1), .l 127 s126 a0.2.1.2.2.2, .l 3 (.i .i64) a0.2.2.1, .l 3 (.i .i64) a0.2.2.2.1, .l 139 s78 a0.2.2.2.2.1, .l 81 s80 a0.2.2.2.2.2.1, .l 141 s83 a0.2.2.2.2.2.2.1, .l 3 (.i .i64) a0.2.2.2.2.2.2.2.1, .l 144 s143 a0.2.2.2.2.2.2.2.2.1, .l 147 s83 a0.2.2.2.2.2.2.2.2.2.1, .v (.int .i64 a0.2.2.2.2.2.2.2.2.2.2.1), .v (.int .i64 a0.2.2.2.2.2.2.2.2.2.2.2.1), .l 79 s78 a0.2.2.2.2.2.2.2.2.2.2.2.2.1, .l 84 s83 a0.2.2.2.2.2.2.2.2.2.2.2.2.2], .agg [.v (.int .i64 a1.1.1), .l 112 s83 a1.1.2.1, .l 115 s114 a1.1.2.2.1, .v (.int .i64 a1.1.2.2.2.1), .v (.int .i64 a1.1.2.2.2.2.1), .v (.int .i64 a1.1.2.2.2.2.2.1), .v (.int .i64 a1.1.2.2.2.2.2.2.1), .v (.int .i64 a1.1.2.2.2.2.2.2.2.1), .l 120 s119 a1.1.2.2.2.2.2.2.2.2.1, .v (.int .i64 a1.1.2.2.2.2.2.2.2.2.2), .v (.int .i64 a1.2.1.1), .v (.int .i64 a1.2.1.2.1), .v (.int .i64 a1.2.1.2.2.1), .l 127 s126 a1.2.1.2.2.2, .l 3 (.i .i64) a1.2.2.1, .l 3 (.i .i64) a1.2.2.2.1, .l 139 s78 a1.2.2.2.2.1, .l 81 s80 a1.2.2.2.2.2.1, .l 141 s83 a1.2.2.2.2.2.2.1, .l 3 (.i .i64) a1.2.2.2.2.2.2.2.1, .l 144 s143 a1.2.2.2.2.2.2.2.2.1, .l 147 s83 a1.2.2.2.2.2.2.2.2.2.1, .v (.int .i64 a1.2.2.2.2.2.2.2.2.2.2.1), .v (.int .i64 a1.2.2.2.2.2.2.2.2.2.2.2.1), .l 79 s78 a1.2.2.2.2.2.2.2.2.2.2.2.2.1, .l 84 s83 a1.2.2.2.2.2.2.2.2.2.2.2.2.2]]
theorem e11 (k : Nat) (a0 : T40) (a1 : T40) : F11 (k + 1) a0 a1 = (F44 k a0.1 a1.1).bind fun p1 => if (!p1) = true then some false else (F45 k a0.2.1 a1.2.1).bind fun p2 => if (!p2) = true then some false else (F46 k a0.2.2.1 a1.2.2.1).bind fun p3 => if (!p3) = true then some false else (F47 k a0.2.2.2.1 a1.2.2.2.1).bind fun p4 => if (!p4) = true then some false else (F48 k a0.2.2.2.2.1 a1.2.2.2.2.1).bind fun p5 => if (!p5) = true then some false else (F49 k a0.2.2.2.2.2.1 a1.2.2.2.2.2.1).bind fun p6 => if (!p6) = true then some false else (F50 k a0.2.2.2.2.2.2.1 a1.2.2.2.2.2.2.1).bind fun p7 => if (!p7) = true then some false else (F47 k a0.2.2.2.2.2.2.2.1 a1.2.2.2.2.2.2.2.1).bind fun p8 => if (!p8) = true then some false else (F51 k a0.2.2.2.2.2.2.2.2.1 a1.2.2.2.2.2.2.2.2.1).bind fun p9 => if (!p9) = true then some false else (F52 k a0.2.2.2.2.2.2.2.2.2.1 a1.2.2.2.2.2.2.2.2.2.1).bind fun p10 => if (!p10) = true then some false else if (a0.2.2.2.2.2.2.2.2.2.2.1 != a1.2.2.2.2.2.2.2.2.2.2.1) = true then some false else if (a0.2.2.2.2.2.2.2.2.2.2.2.1 != a1.2.2.2.2.2.2.2.2.2.2.2.1) = true then some false else (F53 k a0.2.2.2.2.2.2.2.2.2.2.2.2.1 a1.2.2.2.2.2.2.2.2.2.2.2.2.1).bind fun p11 => if (!p11) = true then some false else (F54 k a0.2.2.2.2.2.2.2.2.2.2.2.2.2 a1.2.2.2.2.2.2.2.2.2.2.2.2.2).bind fun p12 => if (!p12) = true then some false else some true := by kernel_rfl
/-! loop.example/g00599/laws.szSatS -/
noncomputable def F84 (k : Nat) (a0 : List (Int × Int × Int × Int)) (a1 : Int) : Option (Int) := den E k 84 [.c (.l 196 s83 a0), .c (.v (.int .i64 a1))]
theorem e84 (k : Nat) (a0 : List (Int × Int × Int × Int)) (a1 : Int) : F84 (k + 1) a0 a1 = if (decide ((IntKind.i64.wrap (a1 - (a0.length : Int))) < 0)) = true then some (-1) else some (IntKind.i64.wrap (a1 - (a0.length : Int))) := by kernel_rfl
/-! loop.example/g00599/laws.szSiteS -/
noncomputable def F85 (k : Nat) (a0 : List (Int × Int × Int)) (a1 : Int) : Option (Int) := den E k 85 [.c (.l 198 s114 a0), .c (.v (.int .i64 a1))]
theorem e85 (k : Nat) (a0 : List (Int × Int × Int)) (a1 : Int) : F85 (k + 1) a0 a1 = if (decide ((IntKind.i64.wrap (a1 - (a0.length : Int))) < 0)) = true then some (-1) else some (IntKind.i64.wrap (a1 - (a0.length : Int))) := by kernel_rfl
/-! loop.example/g00599/laws.szZoneS -/
noncomputable def F86 (k : Nat) (a0 : List (Int × Int × Int)) (a1 : Int) : Option (Int) := den E k 86 [.c (.l 202 s119 a0), .c (.v (.int .i64 a1))]
theorem e86 (k : Nat) (a0 : List (Int × Int × Int)) (a1 : Int) : F86 (k + 1) a0 a1 = if (decide ((IntKind.i64.wrap (a1 - (a0.length : Int))) < 0)) = true then some (-1) else some (IntKind.i64.wrap (a1 - (a0.length : Int))) := by kernel_rfl
/-! loop.example/g00599/laws.szSky -/
noncomputable def F18 (k : Nat) (a0 : T25) (a1 : Int) : Option (Int) := den E k 18 [.agg [.v (.int .i64 a0.1), .l 196 s83 a0.2.1, .l 198 s114 a0.2.2.1, .v (.int .i64 a0.2.2.2.1), .v (.int .i64 a0.2.2.2.2.1), .v (.int .i64 a0.2.2.2.2.2.1), .v (.int .i64 a0.2.2.2.2.2.2.1), .v (.int .i64 a0.2.2.2.2.2.2.2.1), .l 202 s119 a0.2.2.2.2.2.2.2.2.1, .v (.int .i64 a0.2.2.2.2.2.2.2.2.2)], .c (.v (.int .i64 a1))]
theorem e18 (k : Nat) (a0 : T25) (a1 : Int) : F18 (k + 1) a0 a1 = (F84 k a0.2.1 a1).bind fun p1 => if (decide (p1 < 0)) = true then some (-1) else (F85 k a0.2.2.1 p1).bind fun p2 => if (decide (p2 < 0)) = true then some (-1) else (F86 k a0.2.2.2.2.2.2.2.2.1 p2).bind fun p3 => if (decide (p3 < 0)) = true then some (-1) else some p3 := by kernel_rfl
/-! loop.example/g00599/laws.szLinkS -/
noncomputable def F157 (k : Nat) (a0 : List (Int × Int)) (a1 : Int) : Option (Int) := den E k 157 [.c (.l 230 s117 a0), .c (.v (.int .i64 a1))]
theorem e157 (k : Nat) (a0 : List (Int × Int)) (a1 : Int) : F157 (k + 1) a0 a1 = if (decide ((IntKind.i64.wrap (a1 - (a0.length : Int))) < 0)) = true then some (-1) else some (IntKind.i64.wrap (a1 - (a0.length : Int))) := by kernel_rfl
/-! loop.example/g00599/laws.szIntS -/
noncomputable def F21 (k : Nat) (a0 : List Int) (a1 : Int) : Option (Int) := den E k 21 [.c (.l 3 (.i .i64) a0), .c (.v (.int .i64 a1))]
theorem e21 (k : Nat) (a0 : List Int) (a1 : Int) : F21 (k + 1) a0 a1 = if (decide ((IntKind.i64.wrap (a1 - (a0.length : Int))) < 0)) = true then some (-1) else some (IntKind.i64.wrap (a1 - (a0.length : Int))) := by kernel_rfl
/-! loop.example/g00599/laws.szTable -/
noncomputable def F175 (k : Nat) (a0 : Int × (List Int) × List Int) (a1 : Int) : Option (Int) := den E k 175 [.agg [.v (.int .i64 a0.1), .l 3 (.i .i64) a0.2.1, .l 3 (.i .i64) a0.2.2], .c (.v (.int .i64 a1))]
theorem e175 (k : Nat) (a0 : Int × (List Int) × List Int) (a1 : Int) : F175 (k + 1) a0 a1 = (F21 k a0.2.1 a1).bind fun p1 => if (decide (p1 < 0)) = true then some (-1) else (F21 k a0.2.2 p1).bind fun p2 => if (decide (p2 < 0)) = true then some (-1) else some p2 := by kernel_rfl
/-! loop.example/g00599/laws.szTableS -/
noncomputable def F158 (k : Nat) (a0 : List (Int × (List Int) × List Int)) (a1 : Int) : Option (Int) := den E k 158 [.c (.l 228 s132 a0), .c (.v (.int .i64 a1))]
abbrev C158_0 : Type := (List (Int × (List Int) × List Int))
abbrev V158_0 : Type := Int × Int
def St158_0 (c0 : C158_0) (v0 : V158_0) : St := ⟨27, 0, [(0, .c (.l 228 s132 c0)), (1, .c (.v (.int .i64 v0.1))), (5, .c (.v (.int .i64 v0.2)))], []⟩
noncomputable def B158_0 {R : Type} (k : Nat) (X0 : V158_0 → (Int × (List Int) × List Int) → Int → Option R) (X1 : V158_0 → Option R) (c0 : C158_0) (rec : V158_0 → Option R) (v0 : V158_0) : Option R := if (decide (v0.2 < (c0.length : Int))) = true then if 0 ≤ v0.2 then ix c0 v0.2.toNat fun x1 => (F175 k x1 v0.1).bind fun p2 => if (decide (p2 < 0)) = true then X0 v0 x1 p2 else rec (p2, (IntKind.i64.wrap (v0.2 + 1))) else none else X1 v0
noncomputable def L158_0 {R : Type} (k : Nat) (X0 : V158_0 → (Int × (List Int) × List Int) → Int → Option R) (X1 : V158_0 → Option R) (c : C158_0) : Nat → V158_0 → Option R
  | 0, _ => none
  | n + 1, v => B158_0 k X0 X1 c (L158_0 k X0 X1 c n) v
theorem b158_0 {R : Type} (k n : Nat) (K : Ex → St → Option R) (c0 : C158_0) (v : V158_0) : loopRun [0, 1, 5] (run E (den E k) (lv 158) k (nthLoop Tryz.f158 0)) (n + 1) (St158_0 c0 v) K = B158_0 k (fun (v0 : V158_0) (x1 : Int × (List Int) × List Int) (p2 : Int) => K .ret ⟨27, 0, [(0, .c (.l 228 s132 c0)), (1, .c (.v (.int .i64 p2))), (4, .c (.v (.int .i64 (-1)))), (5, .c (.v (.int .i64 v0.2))), (12, .c (.v (.int .i64 v0.2))), (13, .c (.l 228 s132 c0)), (14, .c (.v (.int .i64 (c0.length : Int)))), (15, .c (.v (.bool (decide (v0.2 < (c0.length : Int)))))), (18, .c (.l 228 s132 c0)), (19, .c (.v (.int .i64 v0.2))), (20, .c (.at_ [.v (.int .i64 x1.1), .l 3 (.i .i64) x1.2.1, .l 3 (.i .i64) x1.2.2])), (21, .agg [.v (.int .i64 x1.1), .l 3 (.i .i64) x1.2.1, .l 3 (.i .i64) x1.2.2]), (22, .c (.v (.int .i64 v0.1))), (23, .c (.v (.int .i64 p2))), (24, .c (.v (.int .i64 p2))), (25, .c (.v (.bool (decide (p2 < 0)))))], []⟩) (fun (v0 : V158_0) => K (.exit 0) ⟨27, 0, [(0, .c (.l 228 s132 c0)), (1, .c (.v (.int .i64 v0.1))), (5, .c (.v (.int .i64 v0.2))), (12, .c (.v (.int .i64 v0.2))), (13, .c (.l 228 s132 c0)), (14, .c (.v (.int .i64 (c0.length : Int)))), (15, .c (.v (.bool (decide (v0.2 < (c0.length : Int))))))], []⟩) c0 (fun v => loopRun [0, 1, 5] (run E (den E k) (lv 158) k (nthLoop Tryz.f158 0)) n (St158_0 c0 v) K) v := by kernel_rfl
theorem l158_0 {R : Type} (k : Nat) (K : Ex → St → Option R) (c0 : C158_0) : ∀ (n : Nat) (v : V158_0), loopRun [0, 1, 5] (run E (den E k) (lv 158) k (nthLoop Tryz.f158 0)) n (St158_0 c0 v) K = L158_0 k (fun (v0 : V158_0) (x1 : Int × (List Int) × List Int) (p2 : Int) => K .ret ⟨27, 0, [(0, .c (.l 228 s132 c0)), (1, .c (.v (.int .i64 p2))), (4, .c (.v (.int .i64 (-1)))), (5, .c (.v (.int .i64 v0.2))), (12, .c (.v (.int .i64 v0.2))), (13, .c (.l 228 s132 c0)), (14, .c (.v (.int .i64 (c0.length : Int)))), (15, .c (.v (.bool (decide (v0.2 < (c0.length : Int)))))), (18, .c (.l 228 s132 c0)), (19, .c (.v (.int .i64 v0.2))), (20, .c (.at_ [.v (.int .i64 x1.1), .l 3 (.i .i64) x1.2.1, .l 3 (.i .i64) x1.2.2])), (21, .agg [.v (.int .i64 x1.1), .l 3 (.i .i64) x1.2.1, .l 3 (.i .i64) x1.2.2]), (22, .c (.v (.int .i64 v0.1))), (23, .c (.v (.int .i64 p2))), (24, .c (.v (.int .i64 p2))), (25, .c (.v (.bool (decide (p2 < 0)))))], []⟩) (fun (v0 : V158_0) => K (.exit 0) ⟨27, 0, [(0, .c (.l 228 s132 c0)), (1, .c (.v (.int .i64 v0.1))), (5, .c (.v (.int .i64 v0.2))), (12, .c (.v (.int .i64 v0.2))), (13, .c (.l 228 s132 c0)), (14, .c (.v (.int .i64 (c0.length : Int)))), (15, .c (.v (.bool (decide (v0.2 < (c0.length : Int))))))], []⟩) c0 n v := by
  intro n
  induction n with
  | zero => intro v; rfl
  | succ n ih =>
    intro v
    refine (b158_0 k n K c0 v).trans ?_
    rw [funext ih]
    kernel_rfl
theorem m158_0 (k : Nat) (a0 : List (Int × (List Int) × List Int)) (a1 : Int) : F158 (k + 1) a0 a1 = if (decide ((IntKind.i64.wrap (a1 - (a0.length : Int))) < 0)) = true then some (-1) else loopRun (R := Int) [0, 1, 5] (run E (den E k) (lv 158) k (nthLoop Tryz.f158 0)) k (St158_0 a0 ((IntKind.i64.wrap (a1 - (a0.length : Int))), 0)) (kontAt E (den E k) (lv 158) k (bodyOf Tryz.f158) 0 [] (finish E (rs 158) Tryz.f158 : Ex → St → Option (Int))) := by kernel_rfl
theorem e158 (k : Nat) (a0 : List (Int × (List Int) × List Int)) (a1 : Int) : F158 (k + 1) a0 a1 = if (decide ((IntKind.i64.wrap (a1 - (a0.length : Int))) < 0)) = true then some (-1) else L158_0 k (fun (v0 : Int × Int) (x1 : Int × (List Int) × List Int) (p2 : Int) => some (-1)) (fun (v0 : Int × Int) => some v0.1) a0 k ((IntKind.i64.wrap (a1 - (a0.length : Int))), 0) := by
  rw [m158_0]
  simp only [l158_0]
  kernel_rfl
/-! loop.example/g00599/laws.szPiece -/
noncomputable def F135 (k : Nat) (a0 : T193) (a1 : Int) : Option (Int) := den E k 135 [.agg [.v (.int .i64 a0.1.1), .v (.int .i64 a0.1.2), .l 230 s117 a0.2.1, .l 228 s132 a0.2.2], .c (.v (.int .i64 a1))]
theorem e135 (k : Nat) (a0 : T193) (a1 : Int) : F135 (k + 1) a0 a1 = (F157 k a0.2.1 a1).bind fun p1 => if (decide (p1 < 0)) = true then some (-1) else (F158 k a0.2.2 p1).bind fun p2 => if (decide (p2 < 0)) = true then some (-1) else some p2 := by kernel_rfl
/-! loop.example/g00599/laws.szPieceS -/
noncomputable def F87 (k : Nat) (a0 : List T193) (a1 : Int) : Option (Int) := den E k 87 [.c (.l 194 s193 a0), .c (.v (.int .i64 a1))]
abbrev C87_0 : Type := (List T193)
abbrev V87_0 : Type := Int × Int
def St87_0 (c0 : C87_0) (v0 : V87_0) : St := ⟨27, 0, [(0, .c (.l 194 s193 c0)), (1, .c (.v (.int .i64 v0.1))), (5, .c (.v (.int .i64 v0.2)))], []⟩
noncomputable def B87_0 {R : Type} (k : Nat) (X0 : V87_0 → T193 → Int → Option R) (X1 : V87_0 → Option R) (c0 : C87_0) (rec : V87_0 → Option R) (v0 : V87_0) : Option R := if (decide (v0.2 < (c0.length : Int))) = true then if 0 ≤ v0.2 then ix c0 v0.2.toNat fun x1 => (F135 k x1 v0.1).bind fun p2 => if (decide (p2 < 0)) = true then X0 v0 x1 p2 else rec (p2, (IntKind.i64.wrap (v0.2 + 1))) else none else X1 v0
noncomputable def L87_0 {R : Type} (k : Nat) (X0 : V87_0 → T193 → Int → Option R) (X1 : V87_0 → Option R) (c : C87_0) : Nat → V87_0 → Option R
  | 0, _ => none
  | n + 1, v => B87_0 k X0 X1 c (L87_0 k X0 X1 c n) v
theorem b87_0 {R : Type} (k n : Nat) (K : Ex → St → Option R) (c0 : C87_0) (v : V87_0) : loopRun [0, 1, 5] (run E (den E k) (lv 87) k (nthLoop Tryz.f87 0)) (n + 1) (St87_0 c0 v) K = B87_0 k (fun (v0 : V87_0) (x1 : T193) (p2 : Int) => K .ret ⟨27, 0, [(0, .c (.l 194 s193 c0)), (1, .c (.v (.int .i64 p2))), (4, .c (.v (.int .i64 (-1)))), (5, .c (.v (.int .i64 v0.2))), (12, .c (.v (.int .i64 v0.2))), (13, .c (.l 194 s193 c0)), (14, .c (.v (.int .i64 (c0.length : Int)))), (15, .c (.v (.bool (decide (v0.2 < (c0.length : Int)))))), (18, .c (.l 194 s193 c0)), (19, .c (.v (.int .i64 v0.2))), (20, .c (.at_ [.v (.int .i64 x1.1.1), .v (.int .i64 x1.1.2), .l 230 s117 x1.2.1, .l 228 s132 x1.2.2])), (21, .agg [.v (.int .i64 x1.1.1), .v (.int .i64 x1.1.2), .l 230 s117 x1.2.1, .l 228 s132 x1.2.2]), (22, .c (.v (.int .i64 v0.1))), (23, .c (.v (.int .i64 p2))), (24, .c (.v (.int .i64 p2))), (25, .c (.v (.bool (decide (p2 < 0)))))], []⟩) (fun (v0 : V87_0) => K (.exit 0) ⟨27, 0, [(0, .c (.l 194 s193 c0)), (1, .c (.v (.int .i64 v0.1))), (5, .c (.v (.int .i64 v0.2))), (12, .c (.v (.int .i64 v0.2))), (13, .c (.l 194 s193 c0)), (14, .c (.v (.int .i64 (c0.length : Int)))), (15, .c (.v (.bool (decide (v0.2 < (c0.length : Int))))))], []⟩) c0 (fun v => loopRun [0, 1, 5] (run E (den E k) (lv 87) k (nthLoop Tryz.f87 0)) n (St87_0 c0 v) K) v := by kernel_rfl
theorem l87_0 {R : Type} (k : Nat) (K : Ex → St → Option R) (c0 : C87_0) : ∀ (n : Nat) (v : V87_0), loopRun [0, 1, 5] (run E (den E k) (lv 87) k (nthLoop Tryz.f87 0)) n (St87_0 c0 v) K = L87_0 k (fun (v0 : V87_0) (x1 : T193) (p2 : Int) => K .ret ⟨27, 0, [(0, .c (.l 194 s193 c0)), (1, .c (.v (.int .i64 p2))), (4, .c (.v (.int .i64 (-1)))), (5, .c (.v (.int .i64 v0.2))), (12, .c (.v (.int .i64 v0.2))), (13, .c (.l 194 s193 c0)), (14, .c (.v (.int .i64 (c0.length : Int)))), (15, .c (.v (.bool (decide (v0.2 < (c0.length : Int)))))), (18, .c (.l 194 s193 c0)), (19, .c (.v (.int .i64 v0.2))), (20, .c (.at_ [.v (.int .i64 x1.1.1), .v (.int .i64 x1.1.2), .l 230 s117 x1.2.1, .l 228 s132 x1.2.2])), (21, .agg [.v (.int .i64 x1.1.1), .v (.int .i64 x1.1.2), .l 230 s117 x1.2.1, .l 228 s132 x1.2.2]), (22, .c (.v (.int .i64 v0.1))), (23, .c (.v (.int .i64 p2))), (24, .c (.v (.int .i64 p2))), (25, .c (.v (.bool (decide (p2 < 0)))))], []⟩) (fun (v0 : V87_0) => K (.exit 0) ⟨27, 0, [(0, .c (.l 194 s193 c0)), (1, .c (.v (.int .i64 v0.1))), (5, .c (.v (.int .i64 v0.2))), (12, .c (.v (.int .i64 v0.2))), (13, .c (.l 194 s193 c0)), (14, .c (.v (.int .i64 (c0.length : Int)))), (15, .c (.v (.bool (decide (v0.2 < (c0.length : Int))))))], []⟩) c0 n v := by
  intro n
  induction n with
  | zero => intro v; rfl
  | succ n ih =>
    intro v
    refine (b87_0 k n K c0 v).trans ?_
    rw [funext ih]
    kernel_rfl
theorem m87_0 (k : Nat) (a0 : List T193) (a1 : Int) : F87 (k + 1) a0 a1 = if (decide ((IntKind.i64.wrap (a1 - (a0.length : Int))) < 0)) = true then some (-1) else loopRun (R := Int) [0, 1, 5] (run E (den E k) (lv 87) k (nthLoop Tryz.f87 0)) k (St87_0 a0 ((IntKind.i64.wrap (a1 - (a0.length : Int))), 0)) (kontAt E (den E k) (lv 87) k (bodyOf Tryz.f87) 0 [] (finish E (rs 87) Tryz.f87 : Ex → St → Option (Int))) := by kernel_rfl
theorem e87 (k : Nat) (a0 : List T193) (a1 : Int) : F87 (k + 1) a0 a1 = if (decide ((IntKind.i64.wrap (a1 - (a0.length : Int))) < 0)) = true then some (-1) else L87_0 k (fun (v0 : Int × Int) (x1 : T193) (p2 : Int) => some (-1)) (fun (v0 : Int × Int) => some v0.1) a0 k ((IntKind.i64.wrap (a1 - (a0.length : Int))), 0) := by
  rw [m87_0]
  simp only [l87_0]
  kernel_rfl
/-! loop.example/g00599/laws.szProgram -/
noncomputable def F19 (k : Nat) (a0 : T28) (a1 : Int) : Option (Int) := den E k 19 [.agg [.v (.int .i64 a0.1), .v (.int .i64 a0.2.1), .v (.int .i64 a0.2.2.1), .l 194 s193 a0.2.2.2], .c (.v (.int .i64 a1))]
theorem e19 (k : Nat) (a0 : T28) (a1 : Int) : F19 (k + 1) a0 a1 = (F87 k a0.2.2.2 a1).bind fun p1 => if (decide (p1 < 0)) = true then some (-1) else some p1 := by kernel_rfl
/-! loop.example/g00599/laws.szLaw -/
noncomputable def F20 (k : Nat) (a0 : List Int) (a1 : Int) : Option (Int) := den E k 20 [.agg [.l 3 (.i .i64) a0], .c (.v (.int .i64 a1))]
theorem e20 (k : Nat) (a0 : List Int) (a1 : Int) : F20 (k + 1) a0 a1 = (F21 k a0 a1).bind fun p1 => if (decide (p1 < 0)) = true then some (-1) else some p1 := by kernel_rfl
/-! loop.example/g00599/laws.szBatteryS -/
noncomputable def F22 (k : Nat) (a0 : List (Int × Int × Int × Int × Int × Int)) (a1 : Int) : Option (Int) := den E k 22 [.c (.l 165 s78 a0), .c (.v (.int .i64 a1))]
theorem e22 (k : Nat) (a0 : List (Int × Int × Int × Int × Int × Int)) (a1 : Int) : F22 (k + 1) a0 a1 = if (decide ((IntKind.i64.wrap (a1 - (a0.length : Int))) < 0)) = true then some (-1) else some (IntKind.i64.wrap (a1 - (a0.length : Int))) := by kernel_rfl
/-! loop.example/g00599/laws.szPacketS -/
noncomputable def F27 (k : Nat) (a0 : List (Int × Int × Int × Int × Int × Int)) (a1 : Int) : Option (Int) := den E k 27 [.c (.l 173 s78 a0), .c (.v (.int .i64 a1))]
theorem e27 (k : Nat) (a0 : List (Int × Int × Int × Int × Int × Int)) (a1 : Int) : F27 (k + 1) a0 a1 = if (decide ((IntKind.i64.wrap (a1 - (a0.length : Int))) < 0)) = true then some (-1) else some (IntKind.i64.wrap (a1 - (a0.length : Int))) := by kernel_rfl
/-! loop.example/g00599/laws.szQueue -/
noncomputable def F88 (k : Nat) (a0 : List (Int × Int × Int × Int × Int × Int)) (a1 : Int) : Option (Int) := den E k 88 [.agg [.l 173 s78 a0], .c (.v (.int .i64 a1))]
theorem e88 (k : Nat) (a0 : List (Int × Int × Int × Int × Int × Int)) (a1 : Int) : F88 (k + 1) a0 a1 = (F27 k a0 a1).bind fun p1 => if (decide (p1 < 0)) = true then some (-1) else some p1 := by kernel_rfl
/-! loop.example/g00599/laws.szQueueS -/
noncomputable def F23 (k : Nat) (a0 : List (List (Int × Int × Int × Int × Int × Int))) (a1 : Int) : Option (Int) := den E k 23 [.c (.l 154 s153 a0), .c (.v (.int .i64 a1))]
abbrev C23_0 : Type := (List (List (Int × Int × Int × Int × Int × Int)))
abbrev V23_0 : Type := Int × Int
def St23_0 (c0 : C23_0) (v0 : V23_0) : St := ⟨27, 0, [(0, .c (.l 154 s153 c0)), (1, .c (.v (.int .i64 v0.1))), (5, .c (.v (.int .i64 v0.2)))], []⟩
noncomputable def B23_0 {R : Type} (k : Nat) (X0 : V23_0 → (List (Int × Int × Int × Int × Int × Int)) → Int → Option R) (X1 : V23_0 → Option R) (c0 : C23_0) (rec : V23_0 → Option R) (v0 : V23_0) : Option R := if (decide (v0.2 < (c0.length : Int))) = true then if 0 ≤ v0.2 then ix c0 v0.2.toNat fun x1 => (F88 k x1 v0.1).bind fun p2 => if (decide (p2 < 0)) = true then X0 v0 x1 p2 else rec (p2, (IntKind.i64.wrap (v0.2 + 1))) else none else X1 v0
noncomputable def L23_0 {R : Type} (k : Nat) (X0 : V23_0 → (List (Int × Int × Int × Int × Int × Int)) → Int → Option R) (X1 : V23_0 → Option R) (c : C23_0) : Nat → V23_0 → Option R
  | 0, _ => none
  | n + 1, v => B23_0 k X0 X1 c (L23_0 k X0 X1 c n) v
theorem b23_0 {R : Type} (k n : Nat) (K : Ex → St → Option R) (c0 : C23_0) (v : V23_0) : loopRun [0, 1, 5] (run E (den E k) (lv 23) k (nthLoop Tryz.f23 0)) (n + 1) (St23_0 c0 v) K = B23_0 k (fun (v0 : V23_0) (x1 : List (Int × Int × Int × Int × Int × Int)) (p2 : Int) => K .ret ⟨27, 0, [(0, .c (.l 154 s153 c0)), (1, .c (.v (.int .i64 p2))), (4, .c (.v (.int .i64 (-1)))), (5, .c (.v (.int .i64 v0.2))), (12, .c (.v (.int .i64 v0.2))), (13, .c (.l 154 s153 c0)), (14, .c (.v (.int .i64 (c0.length : Int)))), (15, .c (.v (.bool (decide (v0.2 < (c0.length : Int)))))), (18, .c (.l 154 s153 c0)), (19, .c (.v (.int .i64 v0.2))), (20, .c (.at_ [.l 173 s78 x1])), (21, .agg [.l 173 s78 x1]), (22, .c (.v (.int .i64 v0.1))), (23, .c (.v (.int .i64 p2))), (24, .c (.v (.int .i64 p2))), (25, .c (.v (.bool (decide (p2 < 0)))))], []⟩) (fun (v0 : V23_0) => K (.exit 0) ⟨27, 0, [(0, .c (.l 154 s153 c0)), (1, .c (.v (.int .i64 v0.1))), (5, .c (.v (.int .i64 v0.2))), (12, .c (.v (.int .i64 v0.2))), (13, .c (.l 154 s153 c0)), (14, .c (.v (.int .i64 (c0.length : Int)))), (15, .c (.v (.bool (decide (v0.2 < (c0.length : Int))))))], []⟩) c0 (fun v => loopRun [0, 1, 5] (run E (den E k) (lv 23) k (nthLoop Tryz.f23 0)) n (St23_0 c0 v) K) v := by kernel_rfl
theorem l23_0 {R : Type} (k : Nat) (K : Ex → St → Option R) (c0 : C23_0) : ∀ (n : Nat) (v : V23_0), loopRun [0, 1, 5] (run E (den E k) (lv 23) k (nthLoop Tryz.f23 0)) n (St23_0 c0 v) K = L23_0 k (fun (v0 : V23_0) (x1 : List (Int × Int × Int × Int × Int × Int)) (p2 : Int) => K .ret ⟨27, 0, [(0, .c (.l 154 s153 c0)), (1, .c (.v (.int .i64 p2))), (4, .c (.v (.int .i64 (-1)))), (5, .c (.v (.int .i64 v0.2))), (12, .c (.v (.int .i64 v0.2))), (13, .c (.l 154 s153 c0)), (14, .c (.v (.int .i64 (c0.length : Int)))), (15, .c (.v (.bool (decide (v0.2 < (c0.length : Int)))))), (18, .c (.l 154 s153 c0)), (19, .c (.v (.int .i64 v0.2))), (20, .c (.at_ [.l 173 s78 x1])), (21, .agg [.l 173 s78 x1]), (22, .c (.v (.int .i64 v0.1))), (23, .c (.v (.int .i64 p2))), (24, .c (.v (.int .i64 p2))), (25, .c (.v (.bool (decide (p2 < 0)))))], []⟩) (fun (v0 : V23_0) => K (.exit 0) ⟨27, 0, [(0, .c (.l 154 s153 c0)), (1, .c (.v (.int .i64 v0.1))), (5, .c (.v (.int .i64 v0.2))), (12, .c (.v (.int .i64 v0.2))), (13, .c (.l 154 s153 c0)), (14, .c (.v (.int .i64 (c0.length : Int)))), (15, .c (.v (.bool (decide (v0.2 < (c0.length : Int))))))], []⟩) c0 n v := by
  intro n
  induction n with
  | zero => intro v; rfl
  | succ n ih =>
    intro v
    refine (b23_0 k n K c0 v).trans ?_
    rw [funext ih]
    kernel_rfl
theorem m23_0 (k : Nat) (a0 : List (List (Int × Int × Int × Int × Int × Int))) (a1 : Int) : F23 (k + 1) a0 a1 = if (decide ((IntKind.i64.wrap (a1 - (a0.length : Int))) < 0)) = true then some (-1) else loopRun (R := Int) [0, 1, 5] (run E (den E k) (lv 23) k (nthLoop Tryz.f23 0)) k (St23_0 a0 ((IntKind.i64.wrap (a1 - (a0.length : Int))), 0)) (kontAt E (den E k) (lv 23) k (bodyOf Tryz.f23) 0 [] (finish E (rs 23) Tryz.f23 : Ex → St → Option (Int))) := by kernel_rfl
theorem e23 (k : Nat) (a0 : List (List (Int × Int × Int × Int × Int × Int))) (a1 : Int) : F23 (k + 1) a0 a1 = if (decide ((IntKind.i64.wrap (a1 - (a0.length : Int))) < 0)) = true then some (-1) else L23_0 k (fun (v0 : Int × Int) (x1 : List (Int × Int × Int × Int × Int × Int)) (p2 : Int) => some (-1)) (fun (v0 : Int × Int) => some v0.1) a0 k ((IntKind.i64.wrap (a1 - (a0.length : Int))), 0) := by
  rw [m23_0]
  simp only [l23_0]
  kernel_rfl
/-! loop.example/g00599/laws.szFlowS -/
noncomputable def F24 (k : Nat) (a0 : List (Int × Int × Int × Int)) (a1 : Int) : Option (Int) := den E k 24 [.c (.l 168 s83 a0), .c (.v (.int .i64 a1))]
theorem e24 (k : Nat) (a0 : List (Int × Int × Int × Int)) (a1 : Int) : F24 (k + 1) a0 a1 = if (decide ((IntKind.i64.wrap (a1 - (a0.length : Int))) < 0)) = true then some (-1) else some (IntKind.i64.wrap (a1 - (a0.length : Int))) := by kernel_rfl
/-! loop.example/g00599/laws.szStream -/
noncomputable def F89 (k : Nat) (a0 : Int × Int × List Int) (a1 : Int) : Option (Int) := den E k 89 [.agg [.v (.int .i64 a0.1), .v (.int .i64 a0.2.1), .l 3 (.i .i64) a0.2.2], .c (.v (.int .i64 a1))]
theorem e89 (k : Nat) (a0 : Int × Int × List Int) (a1 : Int) : F89 (k + 1) a0 a1 = (F21 k a0.2.2 a1).bind fun p1 => if (decide (p1 < 0)) = true then some (-1) else some p1 := by kernel_rfl
/-! loop.example/g00599/laws.szStreamS -/
noncomputable def F25 (k : Nat) (a0 : List (Int × Int × List Int)) (a1 : Int) : Option (Int) := den E k 25 [.c (.l 156 s143 a0), .c (.v (.int .i64 a1))]
abbrev C25_0 : Type := (List (Int × Int × List Int))
abbrev V25_0 : Type := Int × Int
def St25_0 (c0 : C25_0) (v0 : V25_0) : St := ⟨27, 0, [(0, .c (.l 156 s143 c0)), (1, .c (.v (.int .i64 v0.1))), (5, .c (.v (.int .i64 v0.2)))], []⟩
noncomputable def B25_0 {R : Type} (k : Nat) (X0 : V25_0 → (Int × Int × List Int) → Int → Option R) (X1 : V25_0 → Option R) (c0 : C25_0) (rec : V25_0 → Option R) (v0 : V25_0) : Option R := if (decide (v0.2 < (c0.length : Int))) = true then if 0 ≤ v0.2 then ix c0 v0.2.toNat fun x1 => (F89 k x1 v0.1).bind fun p2 => if (decide (p2 < 0)) = true then X0 v0 x1 p2 else rec (p2, (IntKind.i64.wrap (v0.2 + 1))) else none else X1 v0
noncomputable def L25_0 {R : Type} (k : Nat) (X0 : V25_0 → (Int × Int × List Int) → Int → Option R) (X1 : V25_0 → Option R) (c : C25_0) : Nat → V25_0 → Option R
  | 0, _ => none
  | n + 1, v => B25_0 k X0 X1 c (L25_0 k X0 X1 c n) v
theorem b25_0 {R : Type} (k n : Nat) (K : Ex → St → Option R) (c0 : C25_0) (v : V25_0) : loopRun [0, 1, 5] (run E (den E k) (lv 25) k (nthLoop Tryz.f25 0)) (n + 1) (St25_0 c0 v) K = B25_0 k (fun (v0 : V25_0) (x1 : Int × Int × List Int) (p2 : Int) => K .ret ⟨27, 0, [(0, .c (.l 156 s143 c0)), (1, .c (.v (.int .i64 p2))), (4, .c (.v (.int .i64 (-1)))), (5, .c (.v (.int .i64 v0.2))), (12, .c (.v (.int .i64 v0.2))), (13, .c (.l 156 s143 c0)), (14, .c (.v (.int .i64 (c0.length : Int)))), (15, .c (.v (.bool (decide (v0.2 < (c0.length : Int)))))), (18, .c (.l 156 s143 c0)), (19, .c (.v (.int .i64 v0.2))), (20, .c (.at_ [.v (.int .i64 x1.1), .v (.int .i64 x1.2.1), .l 3 (.i .i64) x1.2.2])), (21, .agg [.v (.int .i64 x1.1), .v (.int .i64 x1.2.1), .l 3 (.i .i64) x1.2.2]), (22, .c (.v (.int .i64 v0.1))), (23, .c (.v (.int .i64 p2))), (24, .c (.v (.int .i64 p2))), (25, .c (.v (.bool (decide (p2 < 0)))))], []⟩) (fun (v0 : V25_0) => K (.exit 0) ⟨27, 0, [(0, .c (.l 156 s143 c0)), (1, .c (.v (.int .i64 v0.1))), (5, .c (.v (.int .i64 v0.2))), (12, .c (.v (.int .i64 v0.2))), (13, .c (.l 156 s143 c0)), (14, .c (.v (.int .i64 (c0.length : Int)))), (15, .c (.v (.bool (decide (v0.2 < (c0.length : Int))))))], []⟩) c0 (fun v => loopRun [0, 1, 5] (run E (den E k) (lv 25) k (nthLoop Tryz.f25 0)) n (St25_0 c0 v) K) v := by kernel_rfl
theorem l25_0 {R : Type} (k : Nat) (K : Ex → St → Option R) (c0 : C25_0) : ∀ (n : Nat) (v : V25_0), loopRun [0, 1, 5] (run E (den E k) (lv 25) k (nthLoop Tryz.f25 0)) n (St25_0 c0 v) K = L25_0 k (fun (v0 : V25_0) (x1 : Int × Int × List Int) (p2 : Int) => K .ret ⟨27, 0, [(0, .c (.l 156 s143 c0)), (1, .c (.v (.int .i64 p2))), (4, .c (.v (.int .i64 (-1)))), (5, .c (.v (.int .i64 v0.2))), (12, .c (.v (.int .i64 v0.2))), (13, .c (.l 156 s143 c0)), (14, .c (.v (.int .i64 (c0.length : Int)))), (15, .c (.v (.bool (decide (v0.2 < (c0.length : Int)))))), (18, .c (.l 156 s143 c0)), (19, .c (.v (.int .i64 v0.2))), (20, .c (.at_ [.v (.int .i64 x1.1), .v (.int .i64 x1.2.1), .l 3 (.i .i64) x1.2.2])), (21, .agg [.v (.int .i64 x1.1), .v (.int .i64 x1.2.1), .l 3 (.i .i64) x1.2.2]), (22, .c (.v (.int .i64 v0.1))), (23, .c (.v (.int .i64 p2))), (24, .c (.v (.int .i64 p2))), (25, .c (.v (.bool (decide (p2 < 0)))))], []⟩) (fun (v0 : V25_0) => K (.exit 0) ⟨27, 0, [(0, .c (.l 156 s143 c0)), (1, .c (.v (.int .i64 v0.1))), (5, .c (.v (.int .i64 v0.2))), (12, .c (.v (.int .i64 v0.2))), (13, .c (.l 156 s143 c0)), (14, .c (.v (.int .i64 (c0.length : Int)))), (15, .c (.v (.bool (decide (v0.2 < (c0.length : Int))))))], []⟩) c0 n v := by
  intro n
  induction n with
  | zero => intro v; rfl
  | succ n ih =>
    intro v
    refine (b25_0 k n K c0 v).trans ?_
    rw [funext ih]
    kernel_rfl
theorem m25_0 (k : Nat) (a0 : List (Int × Int × List Int)) (a1 : Int) : F25 (k + 1) a0 a1 = if (decide ((IntKind.i64.wrap (a1 - (a0.length : Int))) < 0)) = true then some (-1) else loopRun (R := Int) [0, 1, 5] (run E (den E k) (lv 25) k (nthLoop Tryz.f25 0)) k (St25_0 a0 ((IntKind.i64.wrap (a1 - (a0.length : Int))), 0)) (kontAt E (den E k) (lv 25) k (bodyOf Tryz.f25) 0 [] (finish E (rs 25) Tryz.f25 : Ex → St → Option (Int))) := by kernel_rfl
theorem e25 (k : Nat) (a0 : List (Int × Int × List Int)) (a1 : Int) : F25 (k + 1) a0 a1 = if (decide ((IntKind.i64.wrap (a1 - (a0.length : Int))) < 0)) = true then some (-1) else L25_0 k (fun (v0 : Int × Int) (x1 : Int × Int × List Int) (p2 : Int) => some (-1)) (fun (v0 : Int × Int) => some v0.1) a0 k ((IntKind.i64.wrap (a1 - (a0.length : Int))), 0) := by
  rw [m25_0]
  simp only [l25_0]
  kernel_rfl
/-! loop.example/g00599/laws.szFaultS -/
noncomputable def F26 (k : Nat) (a0 : List (Int × Int × Int × Int)) (a1 : Int) : Option (Int) := den E k 26 [.c (.l 171 s83 a0), .c (.v (.int .i64 a1))]
theorem e26 (k : Nat) (a0 : List (Int × Int × Int × Int)) (a1 : Int) : F26 (k + 1) a0 a1 = if (decide ((IntKind.i64.wrap (a1 - (a0.length : Int))) < 0)) = true then some (-1) else some (IntKind.i64.wrap (a1 - (a0.length : Int))) := by kernel_rfl
/-! loop.example/g00599/laws.szSentS -/
noncomputable def F28 (k : Nat) (a0 : List (Int × Int × Int × Int)) (a1 : Int) : Option (Int) := den E k 28 [.c (.l 175 s83 a0), .c (.v (.int .i64 a1))]
theorem e28 (k : Nat) (a0 : List (Int × Int × Int × Int)) (a1 : Int) : F28 (k + 1) a0 a1 = if (decide ((IntKind.i64.wrap (a1 - (a0.length : Int))) < 0)) = true then some (-1) else some (IntKind.i64.wrap (a1 - (a0.length : Int))) := by kernel_rfl
/-! loop.example/g00599/laws.szWorld -/
noncomputable def F7 (k : Nat) (a0 : T40) (a1 : Int) : Option (Int) := den E k 7 [.agg [.v (.int .i64 a0.1.1), .l 196 s83 a0.1.2.1, .l 198 s114 a0.1.2.2.1, .v (.int .i64 a0.1.2.2.2.1), .v (.int .i64 a0.1.2.2.2.2.1), .v (.int .i64 a0.1.2.2.2.2.2.1), .v (.int .i64 a0.1.2.2.2.2.2.2.1), .v (.int .i64 a0.1.2.2.2.2.2.2.2.1), .l 202 s119 a0.1.2.2.2.2.2.2.2.2.1, .v (.int .i64 a0.1.2.2.2.2.2.2.2.2.2), .v (.int .i64 a0.2.1.1), .v (.int .i64 a0.2.1.2.1), .v (.int .i64 a0.2.1.2.2.1), .l 194 s193 a0.2.1.2.2.2, .l 3 (.i .i64) a0.2.2.1, .l 3 (.i .i64) a0.2.2.2.1, .l 165 s78 a0.2.2.2.2.1, .l 154 s153 a0.2.2.2.2.2.1, .l 168 s83 a0.2.2.2.2.2.2.1, .l 3 (.i .i64) a0.2.2.2.2.2.2.2.1, .l 156 s143 a0.2.2.2.2.2.2.2.2.1, .l 171 s83 a0.2.2.2.2.2.2.2.2.2.1, .v (.int .i64 a0.2.2.2.2.2.2.2.2.2.2.1), .v (.int .i64 a0.2.2.2.2.2.2.2.2.2.2.2.1), .l 173 s78 a0.2.2.2.2.2.2.2.2.2.2.2.2.1, .l 175 s83 a0.2.2.2.2.2.2.2.2.2.2.2.2.2], .c (.v (.int .i64 a1))]
theorem e7 (k : Nat) (a0 : T40) (a1 : Int) : F7 (k + 1) a0 a1 = (F18 k a0.1 a1).bind fun p1 => if (decide (p1 < 0)) = true then some (-1) else (F19 k a0.2.1 p1).bind fun p2 => if (decide (p2 < 0)) = true then some (-1) else (F20 k a0.2.2.1 p2).bind fun p3 => if (decide (p3 < 0)) = true then some (-1) else (F21 k a0.2.2.2.1 p3).bind fun p4 => if (decide (p4 < 0)) = true then some (-1) else (F22 k a0.2.2.2.2.1 p4).bind fun p5 => if (decide (p5 < 0)) = true then some (-1) else (F23 k a0.2.2.2.2.2.1 p5).bind fun p6 => if (decide (p6 < 0)) = true then some (-1) else (F24 k a0.2.2.2.2.2.2.1 p6).bind fun p7 => if (decide (p7 < 0)) = true then some (-1) else (F21 k a0.2.2.2.2.2.2.2.1 p7).bind fun p8 => if (decide (p8 < 0)) = true then some (-1) else (F25 k a0.2.2.2.2.2.2.2.2.1 p8).bind fun p9 => if (decide (p9 < 0)) = true then some (-1) else (F26 k a0.2.2.2.2.2.2.2.2.2.1 p9).bind fun p10 => if (decide (p10 < 0)) = true then some (-1) else (F27 k a0.2.2.2.2.2.2.2.2.2.2.2.2.1 p10).bind fun p11 => if (decide (p11 < 0)) = true then some (-1) else (F28 k a0.2.2.2.2.2.2.2.2.2.2.2.2.2 p11).bind fun p12 => if (decide (p12 < 0)) = true then some (-1) else some p12 := by kernel_rfl
/-! loop.example/g00599/spec.l15Has -/
noncomputable def F90 (k : Nat) (a0 : List Int) (a1 : Int) : Option (Bool) := den E k 90 [.c (.l 3 (.i .i64) a0), .c (.v (.int .i64 a1))]
abbrev C90_0 : Type := (List Int) × Int
abbrev V90_0 : Type := Int
def St90_0 (c0 : C90_0) (v0 : V90_0) : St := ⟨18, 0, [(0, .c (.l 3 (.i .i64) c0.1)), (1, .c (.v (.int .i64 c0.2))), (5, .c (.v (.int .i64 v0)))], []⟩
noncomputable def B90_0 {R : Type} (k : Nat) (X0 : V90_0 → Int → Option R) (X1 : V90_0 → Option R) (c0 : C90_0) (rec : V90_0 → Option R) (v0 : V90_0) : Option R := if (decide (v0 < (c0.1.length : Int))) = true then if 0 ≤ v0 then ix c0.1 v0.toNat fun x1 => if (x1 == c0.2) = true then X0 v0 x1 else rec (IntKind.i64.wrap (v0 + 1)) else none else X1 v0
noncomputable def L90_0 {R : Type} (k : Nat) (X0 : V90_0 → Int → Option R) (X1 : V90_0 → Option R) (c : C90_0) : Nat → V90_0 → Option R
  | 0, _ => none
  | n + 1, v => B90_0 k X0 X1 c (L90_0 k X0 X1 c n) v
theorem b90_0 {R : Type} (k n : Nat) (K : Ex → St → Option R) (c0 : C90_0) (v : V90_0) : loopRun [0, 1, 5] (run E (den E k) (lv 90) k (nthLoop Tryz.f90 0)) (n + 1) (St90_0 c0 v) K = B90_0 k (fun (v0 : V90_0) (x1 : Int) => K .ret ⟨18, 0, [(0, .c (.l 3 (.i .i64) c0.1)), (1, .c (.v (.int .i64 c0.2))), (4, .c (.v (.bool true))), (5, .c (.v (.int .i64 v0))), (6, .c (.v (.int .i64 v0))), (7, .c (.l 3 (.i .i64) c0.1)), (8, .c (.v (.int .i64 (c0.1.length : Int)))), (9, .c (.v (.bool (decide (v0 < (c0.1.length : Int)))))), (12, .c (.l 3 (.i .i64) c0.1)), (13, .c (.v (.int .i64 v0))), (14, .c (.at_ [.v (.int .i64 x1)])), (15, .c (.v (.int .i64 x1))), (16, .c (.v (.int .i64 c0.2))), (17, .c (.v (.bool (x1 == c0.2))))], []⟩) (fun (v0 : V90_0) => K (.exit 0) ⟨18, 0, [(0, .c (.l 3 (.i .i64) c0.1)), (1, .c (.v (.int .i64 c0.2))), (5, .c (.v (.int .i64 v0))), (6, .c (.v (.int .i64 v0))), (7, .c (.l 3 (.i .i64) c0.1)), (8, .c (.v (.int .i64 (c0.1.length : Int)))), (9, .c (.v (.bool (decide (v0 < (c0.1.length : Int))))))], []⟩) c0 (fun v => loopRun [0, 1, 5] (run E (den E k) (lv 90) k (nthLoop Tryz.f90 0)) n (St90_0 c0 v) K) v := by kernel_rfl
theorem l90_0 {R : Type} (k : Nat) (K : Ex → St → Option R) (c0 : C90_0) : ∀ (n : Nat) (v : V90_0), loopRun [0, 1, 5] (run E (den E k) (lv 90) k (nthLoop Tryz.f90 0)) n (St90_0 c0 v) K = L90_0 k (fun (v0 : V90_0) (x1 : Int) => K .ret ⟨18, 0, [(0, .c (.l 3 (.i .i64) c0.1)), (1, .c (.v (.int .i64 c0.2))), (4, .c (.v (.bool true))), (5, .c (.v (.int .i64 v0))), (6, .c (.v (.int .i64 v0))), (7, .c (.l 3 (.i .i64) c0.1)), (8, .c (.v (.int .i64 (c0.1.length : Int)))), (9, .c (.v (.bool (decide (v0 < (c0.1.length : Int)))))), (12, .c (.l 3 (.i .i64) c0.1)), (13, .c (.v (.int .i64 v0))), (14, .c (.at_ [.v (.int .i64 x1)])), (15, .c (.v (.int .i64 x1))), (16, .c (.v (.int .i64 c0.2))), (17, .c (.v (.bool (x1 == c0.2))))], []⟩) (fun (v0 : V90_0) => K (.exit 0) ⟨18, 0, [(0, .c (.l 3 (.i .i64) c0.1)), (1, .c (.v (.int .i64 c0.2))), (5, .c (.v (.int .i64 v0))), (6, .c (.v (.int .i64 v0))), (7, .c (.l 3 (.i .i64) c0.1)), (8, .c (.v (.int .i64 (c0.1.length : Int)))), (9, .c (.v (.bool (decide (v0 < (c0.1.length : Int))))))], []⟩) c0 n v := by
  intro n
  induction n with
  | zero => intro v; rfl
  | succ n ih =>
    intro v
    refine (b90_0 k n K c0 v).trans ?_
    rw [funext ih]
    kernel_rfl
theorem m90_0 (k : Nat) (a0 : List Int) (a1 : Int) : F90 (k + 1) a0 a1 = loopRun (R := Bool) [0, 1, 5] (run E (den E k) (lv 90) k (nthLoop Tryz.f90 0)) k (St90_0 (a0, a1) 0) (kontAt E (den E k) (lv 90) k (bodyOf Tryz.f90) 0 [] (finish E (rs 90) Tryz.f90 : Ex → St → Option (Bool))) := by kernel_rfl
theorem e90 (k : Nat) (a0 : List Int) (a1 : Int) : F90 (k + 1) a0 a1 = L90_0 k (fun (v0 : Int) (x1 : Int) => some true) (fun (v0 : Int) => some false) (a0, a1) k 0 := by
  rw [m90_0]
  simp only [l90_0]
  kernel_rfl
/-! loop.example/g00599/spec.IsLanding -/
noncomputable def F29 (k : Nat) (a0 : List Int) (a1 : T28) (a2 : Int) : Option (Bool) := den E k 29 [.agg [.l 3 (.i .i64) a0], .agg [.v (.int .i64 a1.1), .v (.int .i64 a1.2.1), .v (.int .i64 a1.2.2.1), .l 127 s126 a1.2.2.2], .c (.v (.int .i64 a2))]
theorem e29 (k : Nat) (a0 : List Int) (a1 : T28) (a2 : Int) : F29 (k + 1) a0 a1 a2 = if ((decide (a2 ≥ 0)) == true) = true then if ((decide (a2 < a1.1)) == true) = true then if ((decide (a2 < a1.2.1)) == false) = true then (F90 k a0 a2).bind fun p1 => some p1 else some true else some false else some false := by kernel_rfl
/-! loop.example/g00599/spec.l1In -/
noncomputable def F91 (k : Nat) (a0 : Int) (a1 : Int) (a2 : Int) : Option (Bool) := den E k 91 [.c (.v (.int .i64 a0)), .c (.v (.int .i64 a1)), .c (.v (.int .i64 a2))]
theorem e91 (k : Nat) (a0 : Int) (a1 : Int) (a2 : Int) : F91 (k + 1) a0 a1 a2 = if ((decide (a0 ≥ a1)) == true) = true then some (decide (a0 ≤ a2)) else some false := by kernel_rfl
/-! loop.example/g00599/spec.NodesOf -/
noncomputable def F92 (k : Nat) (a0 : T25) : Option (Int) := den E k 92 [.agg [.v (.int .i64 a0.1), .l 112 s83 a0.2.1, .l 115 s114 a0.2.2.1, .v (.int .i64 a0.2.2.2.1), .v (.int .i64 a0.2.2.2.2.1), .v (.int .i64 a0.2.2.2.2.2.1), .v (.int .i64 a0.2.2.2.2.2.2.1), .v (.int .i64 a0.2.2.2.2.2.2.2.1), .l 120 s119 a0.2.2.2.2.2.2.2.2.1, .v (.int .i64 a0.2.2.2.2.2.2.2.2.2)]]
theorem e92 (k : Nat) (a0 : T25) : F92 (k + 1) a0 = some (IntKind.i64.wrap ((a0.2.1.length : Int) + (a0.2.2.1.length : Int))) := by kernel_rfl
/-! loop.example/g00599/spec.IsSite -/
noncomputable def F30 (k : Nat) (a0 : T25) (a1 : Int) : Option (Bool) := den E k 30 [.agg [.v (.int .i64 a0.1), .l 112 s83 a0.2.1, .l 115 s114 a0.2.2.1, .v (.int .i64 a0.2.2.2.1), .v (.int .i64 a0.2.2.2.2.1), .v (.int .i64 a0.2.2.2.2.2.1), .v (.int .i64 a0.2.2.2.2.2.2.1), .v (.int .i64 a0.2.2.2.2.2.2.2.1), .l 120 s119 a0.2.2.2.2.2.2.2.2.1, .v (.int .i64 a0.2.2.2.2.2.2.2.2.2)], .c (.v (.int .i64 a1))]
theorem e30 (k : Nat) (a0 : T25) (a1 : Int) : F30 (k + 1) a0 a1 = (F92 k a0).bind fun p1 => (F91 k a1 (a0.2.1.length : Int) (IntKind.i64.wrap (p1 - 1))).bind fun p2 => some p2 := by kernel_rfl
/-! loop.example/g00599/spec.IsLawful -/
noncomputable def F8 (k : Nat) (a0 : T40) : Option (Bool) := den E k 8 [.agg [.v (.int .i64 a0.1.1), .l 112 s83 a0.1.2.1, .l 115 s114 a0.1.2.2.1, .v (.int .i64 a0.1.2.2.2.1), .v (.int .i64 a0.1.2.2.2.2.1), .v (.int .i64 a0.1.2.2.2.2.2.1), .v (.int .i64 a0.1.2.2.2.2.2.2.1), .v (.int .i64 a0.1.2.2.2.2.2.2.2.1), .l 120 s119 a0.1.2.2.2.2.2.2.2.2.1, .v (.int .i64 a0.1.2.2.2.2.2.2.2.2.2), .v (.int .i64 a0.2.1.1), .v (.int .i64 a0.2.1.2.1), .v (.int .i64 a0.2.1.2.2.1), .l 127 s126 a0.2.1.2.2.2, .l 3 (.i .i64) a0.2.2.1, .l 3 (.i .i64) a0.2.2.2.1, .l 139 s78 a0.2.2.2.2.1, .l 81 s80 a0.2.2.2.2.2.1, .l 141 s83 a0.2.2.2.2.2.2.1, .l 3 (.i .i64) a0.2.2.2.2.2.2.2.1, .l 144 s143 a0.2.2.2.2.2.2.2.2.1, .l 147 s83 a0.2.2.2.2.2.2.2.2.2.1, .v (.int .i64 a0.2.2.2.2.2.2.2.2.2.2.1), .v (.int .i64 a0.2.2.2.2.2.2.2.2.2.2.2.1), .l 79 s78 a0.2.2.2.2.2.2.2.2.2.2.2.2.1, .l 84 s83 a0.2.2.2.2.2.2.2.2.2.2.2.2.2]]
abbrev C8_3 : Type := Int × Int × T40
abbrev V8_3 : Type := Int
def St8_3 (c3 : C8_3) (v3 : V8_3) : St := ⟨93, 1, [(1, .c (.ptr 0 0)), (3, .c (.v (.int .i64 c3.1))), (4, .c (.v (.int .i64 c3.2.1))), (6, .c (.v (.int .i64 v3)))], [(0, .var [.v (.int .i64 c3.2.2.1.1), .l 112 s83 c3.2.2.1.2.1, .l 115 s114 c3.2.2.1.2.2.1, .v (.int .i64 c3.2.2.1.2.2.2.1), .v (.int .i64 c3.2.2.1.2.2.2.2.1), .v (.int .i64 c3.2.2.1.2.2.2.2.2.1), .v (.int .i64 c3.2.2.1.2.2.2.2.2.2.1), .v (.int .i64 c3.2.2.1.2.2.2.2.2.2.2.1), .l 120 s119 c3.2.2.1.2.2.2.2.2.2.2.2.1, .v (.int .i64 c3.2.2.1.2.2.2.2.2.2.2.2.2), .v (.int .i64 c3.2.2.2.1.1), .v (.int .i64 c3.2.2.2.1.2.1), .v (.int .i64 c3.2.2.2.1.2.2.1), .l 127 s126 c3.2.2.2.1.2.2.2, .l 3 (.i .i64) c3.2.2.2.2.1, .l 3 (.i .i64) c3.2.2.2.2.2.1, .l 139 s78 c3.2.2.2.2.2.2.1, .l 81 s80 c3.2.2.2.2.2.2.2.1, .l 141 s83 c3.2.2.2.2.2.2.2.2.1, .l 3 (.i .i64) c3.2.2.2.2.2.2.2.2.2.1, .l 144 s143 c3.2.2.2.2.2.2.2.2.2.2.1, .l 147 s83 c3.2.2.2.2.2.2.2.2.2.2.2.1, .v (.int .i64 c3.2.2.2.2.2.2.2.2.2.2.2.2.1), .v (.int .i64 c3.2.2.2.2.2.2.2.2.2.2.2.2.2.1), .l 79 s78 c3.2.2.2.2.2.2.2.2.2.2.2.2.2.2.1, .l 84 s83 c3.2.2.2.2.2.2.2.2.2.2.2.2.2.2.2])]⟩
noncomputable def B8_3 {R : Type} (k : Nat) (X0 : V8_3 → (Int × Int × Int × Int) → (Int × Int × Int × Int) → Bool → Option R) (X1 : V8_3 → Option R) (c3 : C8_3) (rec : V8_3 → Option R) (v3 : V8_3) : Option R := if (decide (v3 < (c3.2.2.2.2.2.2.2.2.2.2.2.2.2.2.2.length : Int))) = true then if 0 ≤ v3 then ix c3.2.2.2.2.2.2.2.2.2.2.2.2.2.2.2 v3.toNat fun x1 => if ((decide (x1.2.2.1 ≥ c3.2.2.2.1.2.1)) == true) = true then if 0 ≤ v3 then ix c3.2.2.2.2.2.2.2.2.2.2.2.2.2.2.2 v3.toNat fun x2 => (F29 k c3.2.2.2.2.1 c3.2.2.2.1 x2.2.2.1).bind fun p3 => if (!p3) = true then X0 v3 x1 x2 p3 else rec (IntKind.i64.wrap (v3 + 1)) else none else rec (IntKind.i64.wrap (v3 + 1)) else none else X1 v3
noncomputable def L8_3 {R : Type} (k : Nat) (X0 : V8_3 → (Int × Int × Int × Int) → (Int × Int × Int × Int) → Bool → Option R) (X1 : V8_3 → Option R) (c : C8_3) : Nat → V8_3 → Option R
  | 0, _ => none
  | n + 1, v => B8_3 k X0 X1 c (L8_3 k X0 X1 c n) v
theorem b8_3 {R : Type} (k n : Nat) (K : Ex → St → Option R) (c3 : C8_3) (v : V8_3) : loopRun [1, 3, 4, 6] (run E (den E k) (lv 8) k (nthLoop Tryz.f8 3)) (n + 1) (St8_3 c3 v) K = B8_3 k (fun (v3 : V8_3) (x1 : Int × Int × Int × Int) (x2 : Int × Int × Int × Int) (p3 : Bool) => K .ret ⟨93, 1, [(1, .c (.ptr 0 0)), (2, .c (.v (.bool false))), (3, .c (.v (.int .i64 c3.1))), (4, .c (.v (.int .i64 c3.2.1))), (6, .c (.v (.int .i64 v3))), (62, .c (.v (.int .i64 v3))), (63, .c (.ptr 0 25)), (64, .c (.l 84 s83 c3.2.2.2.2.2.2.2.2.2.2.2.2.2.2.2)), (65, .c (.v (.int .i64 (c3.2.2.2.2.2.2.2.2.2.2.2.2.2.2.2.length : Int)))), (66, .c (.v (.bool (decide (v3 < (c3.2.2.2.2.2.2.2.2.2.2.2.2.2.2.2.length : Int)))))), (69, .c (.ptr 0 25)), (70, .c (.l 84 s83 c3.2.2.2.2.2.2.2.2.2.2.2.2.2.2.2)), (71, .c (.v (.int .i64 v3))), (72, .c (.at_ [.v (.int .i64 x1.1), .v (.int .i64 x1.2.1), .v (.int .i64 x1.2.2.1), .v (.int .i64 x1.2.2.2)])), (73, .c (.at_ [.v (.int .i64 x1.2.2.1), .v (.int .i64 x1.2.2.2)])), (74, .c (.v (.int .i64 x1.2.2.1))), (75, .c (.ptr 0 10)), (76, .c (.ptr 0 11)), (77, .c (.v (.int .i64 c3.2.2.2.1.2.1))), (78, .c (.v (.bool (decide (x1.2.2.1 ≥ c3.2.2.2.1.2.1))))), (79, .c (.v (.bool true))), (80, .c (.ptr 0 14)), (81, .agg [.l 3 (.i .i64) c3.2.2.2.2.1]), (82, .c (.ptr 0 10)), (83, .agg [.v (.int .i64 c3.2.2.2.1.1), .v (.int .i64 c3.2.2.2.1.2.1), .v (.int .i64 c3.2.2.2.1.2.2.1), .l 127 s126 c3.2.2.2.1.2.2.2]), (84, .c (.ptr 0 25)), (85, .c (.l 84 s83 c3.2.2.2.2.2.2.2.2.2.2.2.2.2.2.2)), (86, .c (.v (.int .i64 v3))), (87, .c (.at_ [.v (.int .i64 x2.1), .v (.int .i64 x2.2.1), .v (.int .i64 x2.2.2.1), .v (.int .i64 x2.2.2.2)])), (88, .c (.at_ [.v (.int .i64 x2.2.2.1), .v (.int .i64 x2.2.2.2)])), (89, .c (.v (.int .i64 x2.2.2.1))), (90, .c (.v (.bool p3))), (91, .c (.v (.bool (!p3)))), (92, .c (.v (.bool (!p3))))], [(0, .var [.v (.int .i64 c3.2.2.1.1), .l 112 s83 c3.2.2.1.2.1, .l 115 s114 c3.2.2.1.2.2.1, .v (.int .i64 c3.2.2.1.2.2.2.1), .v (.int .i64 c3.2.2.1.2.2.2.2.1), .v (.int .i64 c3.2.2.1.2.2.2.2.2.1), .v (.int .i64 c3.2.2.1.2.2.2.2.2.2.1), .v (.int .i64 c3.2.2.1.2.2.2.2.2.2.2.1), .l 120 s119 c3.2.2.1.2.2.2.2.2.2.2.2.1, .v (.int .i64 c3.2.2.1.2.2.2.2.2.2.2.2.2), .v (.int .i64 c3.2.2.2.1.1), .v (.int .i64 c3.2.2.2.1.2.1), .v (.int .i64 c3.2.2.2.1.2.2.1), .l 127 s126 c3.2.2.2.1.2.2.2, .l 3 (.i .i64) c3.2.2.2.2.1, .l 3 (.i .i64) c3.2.2.2.2.2.1, .l 139 s78 c3.2.2.2.2.2.2.1, .l 81 s80 c3.2.2.2.2.2.2.2.1, .l 141 s83 c3.2.2.2.2.2.2.2.2.1, .l 3 (.i .i64) c3.2.2.2.2.2.2.2.2.2.1, .l 144 s143 c3.2.2.2.2.2.2.2.2.2.2.1, .l 147 s83 c3.2.2.2.2.2.2.2.2.2.2.2.1, .v (.int .i64 c3.2.2.2.2.2.2.2.2.2.2.2.2.1), .v (.int .i64 c3.2.2.2.2.2.2.2.2.2.2.2.2.2.1), .l 79 s78 c3.2.2.2.2.2.2.2.2.2.2.2.2.2.2.1, .l 84 s83 c3.2.2.2.2.2.2.2.2.2.2.2.2.2.2.2])]⟩) (fun (v3 : V8_3) => K (.exit 6) ⟨93, 1, [(1, .c (.ptr 0 0)), (3, .c (.v (.int .i64 c3.1))), (4, .c (.v (.int .i64 c3.2.1))), (6, .c (.v (.int .i64 v3))), (62, .c (.v (.int .i64 v3))), (63, .c (.ptr 0 25)), (64, .c (.l 84 s83 c3.2.2.2.2.2.2.2.2.2.2.2.2.2.2.2)), (65, .c (.v (.int .i64 (c3.2.2.2.2.2.2.2.2.2.2.2.2.2.2.2.length : Int)))), (66, .c (.v (.bool (decide (v3 < (c3.2.2.2.2.2.2.2.2.2.2.2.2.2.2.2.length : Int))))))], [(0, .var [.v (.int .i64 c3.2.2.1.1), .l 112 s83 c3.2.2.1.2.1, .l 115 s114 c3.2.2.1.2.2.1, .v (.int .i64 c3.2.2.1.2.2.2.1), .v (.int .i64 c3.2.2.1.2.2.2.2.1), .v (.int .i64 c3.2.2.1.2.2.2.2.2.1), .v (.int .i64 c3.2.2.1.2.2.2.2.2.2.1), .v (.int .i64 c3.2.2.1.2.2.2.2.2.2.2.1), .l 120 s119 c3.2.2.1.2.2.2.2.2.2.2.2.1, .v (.int .i64 c3.2.2.1.2.2.2.2.2.2.2.2.2), .v (.int .i64 c3.2.2.2.1.1), .v (.int .i64 c3.2.2.2.1.2.1), .v (.int .i64 c3.2.2.2.1.2.2.1), .l 127 s126 c3.2.2.2.1.2.2.2, .l 3 (.i .i64) c3.2.2.2.2.1, .l 3 (.i .i64) c3.2.2.2.2.2.1, .l 139 s78 c3.2.2.2.2.2.2.1, .l 81 s80 c3.2.2.2.2.2.2.2.1, .l 141 s83 c3.2.2.2.2.2.2.2.2.1, .l 3 (.i .i64) c3.2.2.2.2.2.2.2.2.2.1, .l 144 s143 c3.2.2.2.2.2.2.2.2.2.2.1, .l 147 s83 c3.2.2.2.2.2.2.2.2.2.2.2.1, .v (.int .i64 c3.2.2.2.2.2.2.2.2.2.2.2.2.1), .v (.int .i64 c3.2.2.2.2.2.2.2.2.2.2.2.2.2.1), .l 79 s78 c3.2.2.2.2.2.2.2.2.2.2.2.2.2.2.1, .l 84 s83 c3.2.2.2.2.2.2.2.2.2.2.2.2.2.2.2])]⟩) c3 (fun v => loopRun [1, 3, 4, 6] (run E (den E k) (lv 8) k (nthLoop Tryz.f8 3)) n (St8_3 c3 v) K) v := by kernel_rfl
theorem l8_3 {R : Type} (k : Nat) (K : Ex → St → Option R) (c3 : C8_3) : ∀ (n : Nat) (v : V8_3), loopRun [1, 3, 4, 6] (run E (den E k) (lv 8) k (nthLoop Tryz.f8 3)) n (St8_3 c3 v) K = L8_3 k (fun (v3 : V8_3) (x1 : Int × Int × Int × Int) (x2 : Int × Int × Int × Int) (p3 : Bool) => K .ret ⟨93, 1, [(1, .c (.ptr 0 0)), (2, .c (.v (.bool false))), (3, .c (.v (.int .i64 c3.1))), (4, .c (.v (.int .i64 c3.2.1))), (6, .c (.v (.int .i64 v3))), (62, .c (.v (.int .i64 v3))), (63, .c (.ptr 0 25)), (64, .c (.l 84 s83 c3.2.2.2.2.2.2.2.2.2.2.2.2.2.2.2)), (65, .c (.v (.int .i64 (c3.2.2.2.2.2.2.2.2.2.2.2.2.2.2.2.length : Int)))), (66, .c (.v (.bool (decide (v3 < (c3.2.2.2.2.2.2.2.2.2.2.2.2.2.2.2.length : Int)))))), (69, .c (.ptr 0 25)), (70, .c (.l 84 s83 c3.2.2.2.2.2.2.2.2.2.2.2.2.2.2.2)), (71, .c (.v (.int .i64 v3))), (72, .c (.at_ [.v (.int .i64 x1.1), .v (.int .i64 x1.2.1), .v (.int .i64 x1.2.2.1), .v (.int .i64 x1.2.2.2)])), (73, .c (.at_ [.v (.int .i64 x1.2.2.1), .v (.int .i64 x1.2.2.2)])), (74, .c (.v (.int .i64 x1.2.2.1))), (75, .c (.ptr 0 10)), (76, .c (.ptr 0 11)), (77, .c (.v (.int .i64 c3.2.2.2.1.2.1))), (78, .c (.v (.bool (decide (x1.2.2.1 ≥ c3.2.2.2.1.2.1))))), (79, .c (.v (.bool true))), (80, .c (.ptr 0 14)), (81, .agg [.l 3 (.i .i64) c3.2.2.2.2.1]), (82, .c (.ptr 0 10)), (83, .agg [.v (.int .i64 c3.2.2.2.1.1), .v (.int .i64 c3.2.2.2.1.2.1), .v (.int .i64 c3.2.2.2.1.2.2.1), .l 127 s126 c3.2.2.2.1.2.2.2]), (84, .c (.ptr 0 25)), (85, .c (.l 84 s83 c3.2.2.2.2.2.2.2.2.2.2.2.2.2.2.2)), (86, .c (.v (.int .i64 v3))), (87, .c (.at_ [.v (.int .i64 x2.1), .v (.int .i64 x2.2.1), .v (.int .i64 x2.2.2.1), .v (.int .i64 x2.2.2.2)])), (88, .c (.at_ [.v (.int .i64 x2.2.2.1), .v (.int .i64 x2.2.2.2)])), (89, .c (.v (.int .i64 x2.2.2.1))), (90, .c (.v (.bool p3))), (91, .c (.v (.bool (!p3)))), (92, .c (.v (.bool (!p3))))], [(0, .var [.v (.int .i64 c3.2.2.1.1), .l 112 s83 c3.2.2.1.2.1, .l 115 s114 c3.2.2.1.2.2.1, .v (.int .i64 c3.2.2.1.2.2.2.1), .v (.int .i64 c3.2.2.1.2.2.2.2.1), .v (.int .i64 c3.2.2.1.2.2.2.2.2.1), .v (.int .i64 c3.2.2.1.2.2.2.2.2.2.1), .v (.int .i64 c3.2.2.1.2.2.2.2.2.2.2.1), .l 120 s119 c3.2.2.1.2.2.2.2.2.2.2.2.1, .v (.int .i64 c3.2.2.1.2.2.2.2.2.2.2.2.2), .v (.int .i64 c3.2.2.2.1.1), .v (.int .i64 c3.2.2.2.1.2.1), .v (.int .i64 c3.2.2.2.1.2.2.1), .l 127 s126 c3.2.2.2.1.2.2.2, .l 3 (.i .i64) c3.2.2.2.2.1, .l 3 (.i .i64) c3.2.2.2.2.2.1, .l 139 s78 c3.2.2.2.2.2.2.1, .l 81 s80 c3.2.2.2.2.2.2.2.1, .l 141 s83 c3.2.2.2.2.2.2.2.2.1, .l 3 (.i .i64) c3.2.2.2.2.2.2.2.2.2.1, .l 144 s143 c3.2.2.2.2.2.2.2.2.2.2.1, .l 147 s83 c3.2.2.2.2.2.2.2.2.2.2.2.1, .v (.int .i64 c3.2.2.2.2.2.2.2.2.2.2.2.2.1), .v (.int .i64 c3.2.2.2.2.2.2.2.2.2.2.2.2.2.1), .l 79 s78 c3.2.2.2.2.2.2.2.2.2.2.2.2.2.2.1, .l 84 s83 c3.2.2.2.2.2.2.2.2.2.2.2.2.2.2.2])]⟩) (fun (v3 : V8_3) => K (.exit 6) ⟨93, 1, [(1, .c (.ptr 0 0)), (3, .c (.v (.int .i64 c3.1))), (4, .c (.v (.int .i64 c3.2.1))), (6, .c (.v (.int .i64 v3))), (62, .c (.v (.int .i64 v3))), (63, .c (.ptr 0 25)), (64, .c (.l 84 s83 c3.2.2.2.2.2.2.2.2.2.2.2.2.2.2.2)), (65, .c (.v (.int .i64 (c3.2.2.2.2.2.2.2.2.2.2.2.2.2.2.2.length : Int)))), (66, .c (.v (.bool (decide (v3 < (c3.2.2.2.2.2.2.2.2.2.2.2.2.2.2.2.length : Int))))))], [(0, .var [.v (.int .i64 c3.2.2.1.1), .l 112 s83 c3.2.2.1.2.1, .l 115 s114 c3.2.2.1.2.2.1, .v (.int .i64 c3.2.2.1.2.2.2.1), .v (.int .i64 c3.2.2.1.2.2.2.2.1), .v (.int .i64 c3.2.2.1.2.2.2.2.2.1), .v (.int .i64 c3.2.2.1.2.2.2.2.2.2.1), .v (.int .i64 c3.2.2.1.2.2.2.2.2.2.2.1), .l 120 s119 c3.2.2.1.2.2.2.2.2.2.2.2.1, .v (.int .i64 c3.2.2.1.2.2.2.2.2.2.2.2.2), .v (.int .i64 c3.2.2.2.1.1), .v (.int .i64 c3.2.2.2.1.2.1), .v (.int .i64 c3.2.2.2.1.2.2.1), .l 127 s126 c3.2.2.2.1.2.2.2, .l 3 (.i .i64) c3.2.2.2.2.1, .l 3 (.i .i64) c3.2.2.2.2.2.1, .l 139 s78 c3.2.2.2.2.2.2.1, .l 81 s80 c3.2.2.2.2.2.2.2.1, .l 141 s83 c3.2.2.2.2.2.2.2.2.1, .l 3 (.i .i64) c3.2.2.2.2.2.2.2.2.2.1, .l 144 s143 c3.2.2.2.2.2.2.2.2.2.2.1, .l 147 s83 c3.2.2.2.2.2.2.2.2.2.2.2.1, .v (.int .i64 c3.2.2.2.2.2.2.2.2.2.2.2.2.1), .v (.int .i64 c3.2.2.2.2.2.2.2.2.2.2.2.2.2.1), .l 79 s78 c3.2.2.2.2.2.2.2.2.2.2.2.2.2.2.1, .l 84 s83 c3.2.2.2.2.2.2.2.2.2.2.2.2.2.2.2])]⟩) c3 n v := by
  intro n
  induction n with
  | zero => intro v; rfl
  | succ n ih =>
    intro v
    refine (b8_3 k n K c3 v).trans ?_
    rw [funext ih]
    kernel_rfl
abbrev C8_2 : Type := Int × Int × T40
abbrev V8_2 : Type := Int
def St8_2 (c2 : C8_2) (v2 : V8_2) : St := ⟨93, 1, [(1, .c (.ptr 0 0)), (3, .c (.v (.int .i64 c2.1))), (4, .c (.v (.int .i64 c2.2.1))), (5, .c (.v (.int .i64 v2)))], [(0, .var [.v (.int .i64 c2.2.2.1.1), .l 112 s83 c2.2.2.1.2.1, .l 115 s114 c2.2.2.1.2.2.1, .v (.int .i64 c2.2.2.1.2.2.2.1), .v (.int .i64 c2.2.2.1.2.2.2.2.1), .v (.int .i64 c2.2.2.1.2.2.2.2.2.1), .v (.int .i64 c2.2.2.1.2.2.2.2.2.2.1), .v (.int .i64 c2.2.2.1.2.2.2.2.2.2.2.1), .l 120 s119 c2.2.2.1.2.2.2.2.2.2.2.2.1, .v (.int .i64 c2.2.2.1.2.2.2.2.2.2.2.2.2), .v (.int .i64 c2.2.2.2.1.1), .v (.int .i64 c2.2.2.2.1.2.1), .v (.int .i64 c2.2.2.2.1.2.2.1), .l 127 s126 c2.2.2.2.1.2.2.2, .l 3 (.i .i64) c2.2.2.2.2.1, .l 3 (.i .i64) c2.2.2.2.2.2.1, .l 139 s78 c2.2.2.2.2.2.2.1, .l 81 s80 c2.2.2.2.2.2.2.2.1, .l 141 s83 c2.2.2.2.2.2.2.2.2.1, .l 3 (.i .i64) c2.2.2.2.2.2.2.2.2.2.1, .l 144 s143 c2.2.2.2.2.2.2.2.2.2.2.1, .l 147 s83 c2.2.2.2.2.2.2.2.2.2.2.2.1, .v (.int .i64 c2.2.2.2.2.2.2.2.2.2.2.2.2.1), .v (.int .i64 c2.2.2.2.2.2.2.2.2.2.2.2.2.2.1), .l 79 s78 c2.2.2.2.2.2.2.2.2.2.2.2.2.2.2.1, .l 84 s83 c2.2.2.2.2.2.2.2.2.2.2.2.2.2.2.2])]⟩
noncomputable def B8_2 {R : Type} (k : Nat) (X0 : V8_2 → (List (Int × Int × Int × Int × Int × Int)) → Bool → (List (Int × Int × Int × Int × Int × Int)) → (Int × Int × Int × Int × Int × Int) → Option R) (X1 : V8_2 → (List (Int × Int × Int × Int × Int × Int)) → Bool → Option R) (X2 : V8_2 → (List (Int × Int × Int × Int × Int × Int)) → Option R) (c2 : C8_2) (rec : V8_2 → Option R) (v2 : V8_2) : Option R := if 0 ≤ c2.2.1 then ix c2.2.2.2.2.2.2.2.1 c2.2.1.toNat fun x1 => if ((decide (v2 < (x1.length : Int))) == true) = true then (F30 k c2.2.2.1 c2.2.1).bind fun p2 => if p2 = true then if 0 ≤ c2.2.1 then ix c2.2.2.2.2.2.2.2.1 c2.2.1.toNat fun x3 => if 0 ≤ v2 then ix x3 v2.toNat fun x4 => if (x4.2.2.2.1 != c2.2.1) = true then X0 v2 x1 p2 x3 x4 else rec (IntKind.i64.wrap (v2 + 1)) else none else none else X1 v2 x1 p2 else X2 v2 x1 else none
noncomputable def L8_2 {R : Type} (k : Nat) (X0 : V8_2 → (List (Int × Int × Int × Int × Int × Int)) → Bool → (List (Int × Int × Int × Int × Int × Int)) → (Int × Int × Int × Int × Int × Int) → Option R) (X1 : V8_2 → (List (Int × Int × Int × Int × Int × Int)) → Bool → Option R) (X2 : V8_2 → (List (Int × Int × Int × Int × Int × Int)) → Option R) (c : C8_2) : Nat → V8_2 → Option R
  | 0, _ => none
  | n + 1, v => B8_2 k X0 X1 X2 c (L8_2 k X0 X1 X2 c n) v
theorem b8_2 {R : Type} (k n : Nat) (K : Ex → St → Option R) (c2 : C8_2) (v : V8_2) : loopRun [1, 3, 4, 5] (run E (den E k) (lv 8) k (nthLoop Tryz.f8 2)) (n + 1) (St8_2 c2 v) K = B8_2 k (fun (v2 : V8_2) (x1 : List (Int × Int × Int × Int × Int × Int)) (p2 : Bool) (x3 : List (Int × Int × Int × Int × Int × Int)) (x4 : Int × Int × Int × Int × Int × Int) => K .ret ⟨93, 1, [(1, .c (.ptr 0 0)), (2, .c (.v (.bool false))), (3, .c (.v (.int .i64 c2.1))), (4, .c (.v (.int .i64 c2.2.1))), (5, .c (.v (.int .i64 v2))), (33, .c (.v (.int .i64 v2))), (34, .c (.ptr 0 17)), (35, .c (.l 81 s80 c2.2.2.2.2.2.2.2.1)), (36, .c (.v (.int .i64 c2.2.1))), (37, .c (.at_ [.l 79 s78 x1])), (38, .c (.at_ [.l 79 s78 x1])), (39, .c (.l 79 s78 x1)), (40, .c (.v (.int .i64 (x1.length : Int)))), (41, .c (.v (.bool (decide (v2 < (x1.length : Int)))))), (42, .c (.v (.bool true))), (43, .c (.ptr 0 0)), (44, .agg [.v (.int .i64 c2.2.2.1.1), .l 112 s83 c2.2.2.1.2.1, .l 115 s114 c2.2.2.1.2.2.1, .v (.int .i64 c2.2.2.1.2.2.2.1), .v (.int .i64 c2.2.2.1.2.2.2.2.1), .v (.int .i64 c2.2.2.1.2.2.2.2.2.1), .v (.int .i64 c2.2.2.1.2.2.2.2.2.2.1), .v (.int .i64 c2.2.2.1.2.2.2.2.2.2.2.1), .l 120 s119 c2.2.2.1.2.2.2.2.2.2.2.2.1, .v (.int .i64 c2.2.2.1.2.2.2.2.2.2.2.2.2)]), (45, .c (.v (.int .i64 c2.2.1))), (46, .c (.v (.bool p2))), (47, .c (.v (.bool p2))), (50, .c (.ptr 0 17)), (51, .c (.l 81 s80 c2.2.2.2.2.2.2.2.1)), (52, .c (.v (.int .i64 c2.2.1))), (53, .c (.at_ [.l 79 s78 x3])), (54, .c (.at_ [.l 79 s78 x3])), (55, .c (.l 79 s78 x3)), (56, .c (.v (.int .i64 v2))), (57, .c (.at_ [.v (.int .i64 x4.1), .v (.int .i64 x4.2.1), .v (.int .i64 x4.2.2.1), .v (.int .i64 x4.2.2.2.1), .v (.int .i64 x4.2.2.2.2.1), .v (.int .i64 x4.2.2.2.2.2)])), (58, .c (.at_ [.v (.int .i64 x4.2.2.2.1), .v (.int .i64 x4.2.2.2.2.1), .v (.int .i64 x4.2.2.2.2.2)])), (59, .c (.v (.int .i64 x4.2.2.2.1))), (60, .c (.v (.int .i64 c2.2.1))), (61, .c (.v (.bool (x4.2.2.2.1 != c2.2.1))))], [(0, .var [.v (.int .i64 c2.2.2.1.1), .l 112 s83 c2.2.2.1.2.1, .l 115 s114 c2.2.2.1.2.2.1, .v (.int .i64 c2.2.2.1.2.2.2.1), .v (.int .i64 c2.2.2.1.2.2.2.2.1), .v (.int .i64 c2.2.2.1.2.2.2.2.2.1), .v (.int .i64 c2.2.2.1.2.2.2.2.2.2.1), .v (.int .i64 c2.2.2.1.2.2.2.2.2.2.2.1), .l 120 s119 c2.2.2.1.2.2.2.2.2.2.2.2.1, .v (.int .i64 c2.2.2.1.2.2.2.2.2.2.2.2.2), .v (.int .i64 c2.2.2.2.1.1), .v (.int .i64 c2.2.2.2.1.2.1), .v (.int .i64 c2.2.2.2.1.2.2.1), .l 127 s126 c2.2.2.2.1.2.2.2, .l 3 (.i .i64) c2.2.2.2.2.1, .l 3 (.i .i64) c2.2.2.2.2.2.1, .l 139 s78 c2.2.2.2.2.2.2.1, .l 81 s80 c2.2.2.2.2.2.2.2.1, .l 141 s83 c2.2.2.2.2.2.2.2.2.1, .l 3 (.i .i64) c2.2.2.2.2.2.2.2.2.2.1, .l 144 s143 c2.2.2.2.2.2.2.2.2.2.2.1, .l 147 s83 c2.2.2.2.2.2.2.2.2.2.2.2.1, .v (.int .i64 c2.2.2.2.2.2.2.2.2.2.2.2.2.1), .v (.int .i64 c2.2.2.2.2.2.2.2.2.2.2.2.2.2.1), .l 79 s78 c2.2.2.2.2.2.2.2.2.2.2.2.2.2.2.1, .l 84 s83 c2.2.2.2.2.2.2.2.2.2.2.2.2.2.2.2])]⟩) (fun (v2 : V8_2) (x1 : List (Int × Int × Int × Int × Int × Int)) (p2 : Bool) => K (.exit 4) ⟨93, 1, [(1, .c (.ptr 0 0)), (3, .c (.v (.int .i64 c2.1))), (4, .c (.v (.int .i64 c2.2.1))), (5, .c (.v (.int .i64 v2))), (33, .c (.v (.int .i64 v2))), (34, .c (.ptr 0 17)), (35, .c (.l 81 s80 c2.2.2.2.2.2.2.2.1)), (36, .c (.v (.int .i64 c2.2.1))), (37, .c (.at_ [.l 79 s78 x1])), (38, .c (.at_ [.l 79 s78 x1])), (39, .c (.l 79 s78 x1)), (40, .c (.v (.int .i64 (x1.length : Int)))), (41, .c (.v (.bool (decide (v2 < (x1.length : Int)))))), (42, .c (.v (.bool true))), (43, .c (.ptr 0 0)), (44, .agg [.v (.int .i64 c2.2.2.1.1), .l 112 s83 c2.2.2.1.2.1, .l 115 s114 c2.2.2.1.2.2.1, .v (.int .i64 c2.2.2.1.2.2.2.1), .v (.int .i64 c2.2.2.1.2.2.2.2.1), .v (.int .i64 c2.2.2.1.2.2.2.2.2.1), .v (.int .i64 c2.2.2.1.2.2.2.2.2.2.1), .v (.int .i64 c2.2.2.1.2.2.2.2.2.2.2.1), .l 120 s119 c2.2.2.1.2.2.2.2.2.2.2.2.1, .v (.int .i64 c2.2.2.1.2.2.2.2.2.2.2.2.2)]), (45, .c (.v (.int .i64 c2.2.1))), (46, .c (.v (.bool p2))), (47, .c (.v (.bool p2)))], [(0, .var [.v (.int .i64 c2.2.2.1.1), .l 112 s83 c2.2.2.1.2.1, .l 115 s114 c2.2.2.1.2.2.1, .v (.int .i64 c2.2.2.1.2.2.2.1), .v (.int .i64 c2.2.2.1.2.2.2.2.1), .v (.int .i64 c2.2.2.1.2.2.2.2.2.1), .v (.int .i64 c2.2.2.1.2.2.2.2.2.2.1), .v (.int .i64 c2.2.2.1.2.2.2.2.2.2.2.1), .l 120 s119 c2.2.2.1.2.2.2.2.2.2.2.2.1, .v (.int .i64 c2.2.2.1.2.2.2.2.2.2.2.2.2), .v (.int .i64 c2.2.2.2.1.1), .v (.int .i64 c2.2.2.2.1.2.1), .v (.int .i64 c2.2.2.2.1.2.2.1), .l 127 s126 c2.2.2.2.1.2.2.2, .l 3 (.i .i64) c2.2.2.2.2.1, .l 3 (.i .i64) c2.2.2.2.2.2.1, .l 139 s78 c2.2.2.2.2.2.2.1, .l 81 s80 c2.2.2.2.2.2.2.2.1, .l 141 s83 c2.2.2.2.2.2.2.2.2.1, .l 3 (.i .i64) c2.2.2.2.2.2.2.2.2.2.1, .l 144 s143 c2.2.2.2.2.2.2.2.2.2.2.1, .l 147 s83 c2.2.2.2.2.2.2.2.2.2.2.2.1, .v (.int .i64 c2.2.2.2.2.2.2.2.2.2.2.2.2.1), .v (.int .i64 c2.2.2.2.2.2.2.2.2.2.2.2.2.2.1), .l 79 s78 c2.2.2.2.2.2.2.2.2.2.2.2.2.2.2.1, .l 84 s83 c2.2.2.2.2.2.2.2.2.2.2.2.2.2.2.2])]⟩) (fun (v2 : V8_2) (x1 : List (Int × Int × Int × Int × Int × Int)) => K (.exit 4) ⟨93, 1, [(1, .c (.ptr 0 0)), (3, .c (.v (.int .i64 c2.1))), (4, .c (.v (.int .i64 c2.2.1))), (5, .c (.v (.int .i64 v2))), (33, .c (.v (.int .i64 v2))), (34, .c (.ptr 0 17)), (35, .c (.l 81 s80 c2.2.2.2.2.2.2.2.1)), (36, .c (.v (.int .i64 c2.2.1))), (37, .c (.at_ [.l 79 s78 x1])), (38, .c (.at_ [.l 79 s78 x1])), (39, .c (.l 79 s78 x1)), (40, .c (.v (.int .i64 (x1.length : Int)))), (41, .c (.v (.bool (decide (v2 < (x1.length : Int)))))), (42, .c (.v (.bool false))), (43, .tup []), (44, .tup []), (45, .tup []), (46, .tup []), (47, .c (.v (.bool false)))], [(0, .var [.v (.int .i64 c2.2.2.1.1), .l 112 s83 c2.2.2.1.2.1, .l 115 s114 c2.2.2.1.2.2.1, .v (.int .i64 c2.2.2.1.2.2.2.1), .v (.int .i64 c2.2.2.1.2.2.2.2.1), .v (.int .i64 c2.2.2.1.2.2.2.2.2.1), .v (.int .i64 c2.2.2.1.2.2.2.2.2.2.1), .v (.int .i64 c2.2.2.1.2.2.2.2.2.2.2.1), .l 120 s119 c2.2.2.1.2.2.2.2.2.2.2.2.1, .v (.int .i64 c2.2.2.1.2.2.2.2.2.2.2.2.2), .v (.int .i64 c2.2.2.2.1.1), .v (.int .i64 c2.2.2.2.1.2.1), .v (.int .i64 c2.2.2.2.1.2.2.1), .l 127 s126 c2.2.2.2.1.2.2.2, .l 3 (.i .i64) c2.2.2.2.2.1, .l 3 (.i .i64) c2.2.2.2.2.2.1, .l 139 s78 c2.2.2.2.2.2.2.1, .l 81 s80 c2.2.2.2.2.2.2.2.1, .l 141 s83 c2.2.2.2.2.2.2.2.2.1, .l 3 (.i .i64) c2.2.2.2.2.2.2.2.2.2.1, .l 144 s143 c2.2.2.2.2.2.2.2.2.2.2.1, .l 147 s83 c2.2.2.2.2.2.2.2.2.2.2.2.1, .v (.int .i64 c2.2.2.2.2.2.2.2.2.2.2.2.2.1), .v (.int .i64 c2.2.2.2.2.2.2.2.2.2.2.2.2.2.1), .l 79 s78 c2.2.2.2.2.2.2.2.2.2.2.2.2.2.2.1, .l 84 s83 c2.2.2.2.2.2.2.2.2.2.2.2.2.2.2.2])]⟩) c2 (fun v => loopRun [1, 3, 4, 5] (run E (den E k) (lv 8) k (nthLoop Tryz.f8 2)) n (St8_2 c2 v) K) v := by kernel_rfl
theorem l8_2 {R : Type} (k : Nat) (K : Ex → St → Option R) (c2 : C8_2) : ∀ (n : Nat) (v : V8_2), loopRun [1, 3, 4, 5] (run E (den E k) (lv 8) k (nthLoop Tryz.f8 2)) n (St8_2 c2 v) K = L8_2 k (fun (v2 : V8_2) (x1 : List (Int × Int × Int × Int × Int × Int)) (p2 : Bool) (x3 : List (Int × Int × Int × Int × Int × Int)) (x4 : Int × Int × Int × Int × Int × Int) => K .ret ⟨93, 1, [(1, .c (.ptr 0 0)), (2, .c (.v (.bool false))), (3, .c (.v (.int .i64 c2.1))), (4, .c (.v (.int .i64 c2.2.1))), (5, .c (.v (.int .i64 v2))), (33, .c (.v (.int .i64 v2))), (34, .c (.ptr 0 17)), (35, .c (.l 81 s80 c2.2.2.2.2.2.2.2.1)), (36, .c (.v (.int .i64 c2.2.1))), (37, .c (.at_ [.l 79 s78 x1])), (38, .c (.at_ [.l 79 s78 x1])), (39, .c (.l 79 s78 x1)), (40, .c (.v (.int .i64 (x1.length : Int)))), (41, .c (.v (.bool (decide (v2 < (x1.length : Int)))))), (42, .c (.v (.bool true))), (43, .c (.ptr 0 0)), (44, .agg [.v (.int .i64 c2.2.2.1.1), .l 112 s83 c2.2.2.1.2.1, .l 115 s114 c2.2.2.1.2.2.1, .v (.int .i64 c2.2.2.1.2.2.2.1), .v (.int .i64 c2.2.2.1.2.2.2.2.1), .v (.int .i64 c2.2.2.1.2.2.2.2.2.1), .v (.int .i64 c2.2.2.1.2.2.2.2.2.2.1), .v (.int .i64 c2.2.2.1.2.2.2.2.2.2.2.1), .l 120 s119 c2.2.2.1.2.2.2.2.2.2.2.2.1, .v (.int .i64 c2.2.2.1.2.2.2.2.2.2.2.2.2)]), (45, .c (.v (.int .i64 c2.2.1))), (46, .c (.v (.bool p2))), (47, .c (.v (.bool p2))), (50, .c (.ptr 0 17)), (51, .c (.l 81 s80 c2.2.2.2.2.2.2.2.1)), (52, .c (.v (.int .i64 c2.2.1))), (53, .c (.at_ [.l 79 s78 x3])), (54, .c (.at_ [.l 79 s78 x3])), (55, .c (.l 79 s78 x3)), (56, .c (.v (.int .i64 v2))), (57, .c (.at_ [.v (.int .i64 x4.1), .v (.int .i64 x4.2.1), .v (.int .i64 x4.2.2.1), .v (.int .i64 x4.2.2.2.1), .v (.int .i64 x4.2.2.2.2.1), .v (.int .i64 x4.2.2.2.2.2)])), (58, .c (.at_ [.v (.int .i64 x4.2.2.2.1), .v (.int .i64 x4.2.2.2.2.1), .v (.int .i64 x4.2.2.2.2.2)])), (59, .c (.v (.int .i64 x4.2.2.2.1))), (60, .c (.v (.int .i64 c2.2.1))), (61, .c (.v (.bool (x4.2.2.2.1 != c2.2.1))))], [(0, .var [.v (.int .i64 c2.2.2.1.1), .l 112 s83 c2.2.2.1.2.1, .l 115 s114 c2.2.2.1.2.2.1, .v (.int .i64 c2.2.2.1.2.2.2.1), .v (.int .i64 c2.2.2.1.2.2.2.2.1), .v (.int .i64 c2.2.2.1.2.2.2.2.2.1), .v (.int .i64 c2.2.2.1.2.2.2.2.2.2.1), .v (.int .i64 c2.2.2.1.2.2.2.2.2.2.2.1), .l 120 s119 c2.2.2.1.2.2.2.2.2.2.2.2.1, .v (.int .i64 c2.2.2.1.2.2.2.2.2.2.2.2.2), .v (.int .i64 c2.2.2.2.1.1), .v (.int .i64 c2.2.2.2.1.2.1), .v (.int .i64 c2.2.2.2.1.2.2.1), .l 127 s126 c2.2.2.2.1.2.2.2, .l 3 (.i .i64) c2.2.2.2.2.1, .l 3 (.i .i64) c2.2.2.2.2.2.1, .l 139 s78 c2.2.2.2.2.2.2.1, .l 81 s80 c2.2.2.2.2.2.2.2.1, .l 141 s83 c2.2.2.2.2.2.2.2.2.1, .l 3 (.i .i64) c2.2.2.2.2.2.2.2.2.2.1, .l 144 s143 c2.2.2.2.2.2.2.2.2.2.2.1, .l 147 s83 c2.2.2.2.2.2.2.2.2.2.2.2.1, .v (.int .i64 c2.2.2.2.2.2.2.2.2.2.2.2.2.1), .v (.int .i64 c2.2.2.2.2.2.2.2.2.2.2.2.2.2.1), .l 79 s78 c2.2.2.2.2.2.2.2.2.2.2.2.2.2.2.1, .l 84 s83 c2.2.2.2.2.2.2.2.2.2.2.2.2.2.2.2])]⟩) (fun (v2 : V8_2) (x1 : List (Int × Int × Int × Int × Int × Int)) (p2 : Bool) => K (.exit 4) ⟨93, 1, [(1, .c (.ptr 0 0)), (3, .c (.v (.int .i64 c2.1))), (4, .c (.v (.int .i64 c2.2.1))), (5, .c (.v (.int .i64 v2))), (33, .c (.v (.int .i64 v2))), (34, .c (.ptr 0 17)), (35, .c (.l 81 s80 c2.2.2.2.2.2.2.2.1)), (36, .c (.v (.int .i64 c2.2.1))), (37, .c (.at_ [.l 79 s78 x1])), (38, .c (.at_ [.l 79 s78 x1])), (39, .c (.l 79 s78 x1)), (40, .c (.v (.int .i64 (x1.length : Int)))), (41, .c (.v (.bool (decide (v2 < (x1.length : Int)))))), (42, .c (.v (.bool true))), (43, .c (.ptr 0 0)), (44, .agg [.v (.int .i64 c2.2.2.1.1), .l 112 s83 c2.2.2.1.2.1, .l 115 s114 c2.2.2.1.2.2.1, .v (.int .i64 c2.2.2.1.2.2.2.1), .v (.int .i64 c2.2.2.1.2.2.2.2.1), .v (.int .i64 c2.2.2.1.2.2.2.2.2.1), .v (.int .i64 c2.2.2.1.2.2.2.2.2.2.1), .v (.int .i64 c2.2.2.1.2.2.2.2.2.2.2.1), .l 120 s119 c2.2.2.1.2.2.2.2.2.2.2.2.1, .v (.int .i64 c2.2.2.1.2.2.2.2.2.2.2.2.2)]), (45, .c (.v (.int .i64 c2.2.1))), (46, .c (.v (.bool p2))), (47, .c (.v (.bool p2)))], [(0, .var [.v (.int .i64 c2.2.2.1.1), .l 112 s83 c2.2.2.1.2.1, .l 115 s114 c2.2.2.1.2.2.1, .v (.int .i64 c2.2.2.1.2.2.2.1), .v (.int .i64 c2.2.2.1.2.2.2.2.1), .v (.int .i64 c2.2.2.1.2.2.2.2.2.1), .v (.int .i64 c2.2.2.1.2.2.2.2.2.2.1), .v (.int .i64 c2.2.2.1.2.2.2.2.2.2.2.1), .l 120 s119 c2.2.2.1.2.2.2.2.2.2.2.2.1, .v (.int .i64 c2.2.2.1.2.2.2.2.2.2.2.2.2), .v (.int .i64 c2.2.2.2.1.1), .v (.int .i64 c2.2.2.2.1.2.1), .v (.int .i64 c2.2.2.2.1.2.2.1), .l 127 s126 c2.2.2.2.1.2.2.2, .l 3 (.i .i64) c2.2.2.2.2.1, .l 3 (.i .i64) c2.2.2.2.2.2.1, .l 139 s78 c2.2.2.2.2.2.2.1, .l 81 s80 c2.2.2.2.2.2.2.2.1, .l 141 s83 c2.2.2.2.2.2.2.2.2.1, .l 3 (.i .i64) c2.2.2.2.2.2.2.2.2.2.1, .l 144 s143 c2.2.2.2.2.2.2.2.2.2.2.1, .l 147 s83 c2.2.2.2.2.2.2.2.2.2.2.2.1, .v (.int .i64 c2.2.2.2.2.2.2.2.2.2.2.2.2.1), .v (.int .i64 c2.2.2.2.2.2.2.2.2.2.2.2.2.2.1), .l 79 s78 c2.2.2.2.2.2.2.2.2.2.2.2.2.2.2.1, .l 84 s83 c2.2.2.2.2.2.2.2.2.2.2.2.2.2.2.2])]⟩) (fun (v2 : V8_2) (x1 : List (Int × Int × Int × Int × Int × Int)) => K (.exit 4) ⟨93, 1, [(1, .c (.ptr 0 0)), (3, .c (.v (.int .i64 c2.1))), (4, .c (.v (.int .i64 c2.2.1))), (5, .c (.v (.int .i64 v2))), (33, .c (.v (.int .i64 v2))), (34, .c (.ptr 0 17)), (35, .c (.l 81 s80 c2.2.2.2.2.2.2.2.1)), (36, .c (.v (.int .i64 c2.2.1))), (37, .c (.at_ [.l 79 s78 x1])), (38, .c (.at_ [.l 79 s78 x1])), (39, .c (.l 79 s78 x1)), (40, .c (.v (.int .i64 (x1.length : Int)))), (41, .c (.v (.bool (decide (v2 < (x1.length : Int)))))), (42, .c (.v (.bool false))), (43, .tup []), (44, .tup []), (45, .tup []), (46, .tup []), (47, .c (.v (.bool false)))], [(0, .var [.v (.int .i64 c2.2.2.1.1), .l 112 s83 c2.2.2.1.2.1, .l 115 s114 c2.2.2.1.2.2.1, .v (.int .i64 c2.2.2.1.2.2.2.1), .v (.int .i64 c2.2.2.1.2.2.2.2.1), .v (.int .i64 c2.2.2.1.2.2.2.2.2.1), .v (.int .i64 c2.2.2.1.2.2.2.2.2.2.1), .v (.int .i64 c2.2.2.1.2.2.2.2.2.2.2.1), .l 120 s119 c2.2.2.1.2.2.2.2.2.2.2.2.1, .v (.int .i64 c2.2.2.1.2.2.2.2.2.2.2.2.2), .v (.int .i64 c2.2.2.2.1.1), .v (.int .i64 c2.2.2.2.1.2.1), .v (.int .i64 c2.2.2.2.1.2.2.1), .l 127 s126 c2.2.2.2.1.2.2.2, .l 3 (.i .i64) c2.2.2.2.2.1, .l 3 (.i .i64) c2.2.2.2.2.2.1, .l 139 s78 c2.2.2.2.2.2.2.1, .l 81 s80 c2.2.2.2.2.2.2.2.1, .l 141 s83 c2.2.2.2.2.2.2.2.2.1, .l 3 (.i .i64) c2.2.2.2.2.2.2.2.2.2.1, .l 144 s143 c2.2.2.2.2.2.2.2.2.2.2.1, .l 147 s83 c2.2.2.2.2.2.2.2.2.2.2.2.1, .v (.int .i64 c2.2.2.2.2.2.2.2.2.2.2.2.2.1), .v (.int .i64 c2.2.2.2.2.2.2.2.2.2.2.2.2.2.1), .l 79 s78 c2.2.2.2.2.2.2.2.2.2.2.2.2.2.2.1, .l 84 s83 c2.2.2.2.2.2.2.2.2.2.2.2.2.2.2.2])]⟩) c2 n v := by
  intro n
  induction n with
  | zero => intro v; rfl
  | succ n ih =>
    intro v
    refine (b8_2 k n K c2 v).trans ?_
    rw [funext ih]
    kernel_rfl
abbrev C8_1 : Type := Int × T40
abbrev V8_1 : Type := Int
def St8_1 (c1 : C8_1) (v1 : V8_1) : St := ⟨93, 1, [(1, .c (.ptr 0 0)), (3, .c (.v (.int .i64 c1.1))), (4, .c (.v (.int .i64 v1)))], [(0, .var [.v (.int .i64 c1.2.1.1), .l 112 s83 c1.2.1.2.1, .l 115 s114 c1.2.1.2.2.1, .v (.int .i64 c1.2.1.2.2.2.1), .v (.int .i64 c1.2.1.2.2.2.2.1), .v (.int .i64 c1.2.1.2.2.2.2.2.1), .v (.int .i64 c1.2.1.2.2.2.2.2.2.1), .v (.int .i64 c1.2.1.2.2.2.2.2.2.2.1), .l 120 s119 c1.2.1.2.2.2.2.2.2.2.2.1, .v (.int .i64 c1.2.1.2.2.2.2.2.2.2.2.2), .v (.int .i64 c1.2.2.1.1), .v (.int .i64 c1.2.2.1.2.1), .v (.int .i64 c1.2.2.1.2.2.1), .l 127 s126 c1.2.2.1.2.2.2, .l 3 (.i .i64) c1.2.2.2.1, .l 3 (.i .i64) c1.2.2.2.2.1, .l 139 s78 c1.2.2.2.2.2.1, .l 81 s80 c1.2.2.2.2.2.2.1, .l 141 s83 c1.2.2.2.2.2.2.2.1, .l 3 (.i .i64) c1.2.2.2.2.2.2.2.2.1, .l 144 s143 c1.2.2.2.2.2.2.2.2.2.1, .l 147 s83 c1.2.2.2.2.2.2.2.2.2.2.1, .v (.int .i64 c1.2.2.2.2.2.2.2.2.2.2.2.1), .v (.int .i64 c1.2.2.2.2.2.2.2.2.2.2.2.2.1), .l 79 s78 c1.2.2.2.2.2.2.2.2.2.2.2.2.2.1, .l 84 s83 c1.2.2.2.2.2.2.2.2.2.2.2.2.2.2])]⟩
noncomputable def B8_1 {R : Type} (k : Nat) (X0 : V8_1 → Int → (List (Int × Int × Int × Int × Int × Int)) → Bool → (List (Int × Int × Int × Int × Int × Int)) → (Int × Int × Int × Int × Int × Int) → Option R) (X1 : V8_1 → Option R) (c1 : C8_1) (rec : V8_1 → Option R) (v1 : V8_1) : Option R := if (decide (v1 < (c1.2.2.2.2.2.2.1.length : Int))) = true then L8_2 k (fun (v2 : Int) (x1 : List (Int × Int × Int × Int × Int × Int)) (p2 : Bool) (x3 : List (Int × Int × Int × Int × Int × Int)) (x4 : Int × Int × Int × Int × Int × Int) => X0 v1 v2 x1 p2 x3 x4) (fun (v2 : Int) (x1 : List (Int × Int × Int × Int × Int × Int)) (p2 : Bool) => rec (IntKind.i64.wrap (v1 + 1))) (fun (v2 : Int) (x1 : List (Int × Int × Int × Int × Int × Int)) => rec (IntKind.i64.wrap (v1 + 1))) (c1.1, v1, c1.2) k 0 else X1 v1
noncomputable def L8_1 {R : Type} (k : Nat) (X0 : V8_1 → Int → (List (Int × Int × Int × Int × Int × Int)) → Bool → (List (Int × Int × Int × Int × Int × Int)) → (Int × Int × Int × Int × Int × Int) → Option R) (X1 : V8_1 → Option R) (c : C8_1) : Nat → V8_1 → Option R
  | 0, _ => none
  | n + 1, v => B8_1 k X0 X1 c (L8_1 k X0 X1 c n) v
theorem bm8_1_0 {R : Type} (k n : Nat) (K : Ex → St → Option R) (c1 : C8_1) (v1 : V8_1) : loopRun [1, 3, 4] (run E (den E k) (lv 8) k (nthLoop Tryz.f8 1)) (n + 1) (St8_1 c1 v1) K = if (decide (v1 < (c1.2.2.2.2.2.2.1.length : Int))) = true then loopRun [1, 3, 4, 5] (run E (den E k) (lv 8) k (nthLoop Tryz.f8 2)) k (St8_2 (c1.1, v1, c1.2) 0) (kontAt E (den E k) (lv 8) k (.loop (nthLoop Tryz.f8 1)) (2 - 1) [(n, [1, 3, 4])] K) else K (.exit 2) ⟨93, 1, [(1, .c (.ptr 0 0)), (3, .c (.v (.int .i64 c1.1))), (4, .c (.v (.int .i64 v1))), (26, .c (.v (.int .i64 v1))), (27, .c (.ptr 0 17)), (28, .c (.l 81 s80 c1.2.2.2.2.2.2.1)), (29, .c (.v (.int .i64 (c1.2.2.2.2.2.2.1.length : Int)))), (30, .c (.v (.bool (decide (v1 < (c1.2.2.2.2.2.2.1.length : Int))))))], [(0, .var [.v (.int .i64 c1.2.1.1), .l 112 s83 c1.2.1.2.1, .l 115 s114 c1.2.1.2.2.1, .v (.int .i64 c1.2.1.2.2.2.1), .v (.int .i64 c1.2.1.2.2.2.2.1), .v (.int .i64 c1.2.1.2.2.2.2.2.1), .v (.int .i64 c1.2.1.2.2.2.2.2.2.1), .v (.int .i64 c1.2.1.2.2.2.2.2.2.2.1), .l 120 s119 c1.2.1.2.2.2.2.2.2.2.2.1, .v (.int .i64 c1.2.1.2.2.2.2.2.2.2.2.2), .v (.int .i64 c1.2.2.1.1), .v (.int .i64 c1.2.2.1.2.1), .v (.int .i64 c1.2.2.1.2.2.1), .l 127 s126 c1.2.2.1.2.2.2, .l 3 (.i .i64) c1.2.2.2.1, .l 3 (.i .i64) c1.2.2.2.2.1, .l 139 s78 c1.2.2.2.2.2.1, .l 81 s80 c1.2.2.2.2.2.2.1, .l 141 s83 c1.2.2.2.2.2.2.2.1, .l 3 (.i .i64) c1.2.2.2.2.2.2.2.2.1, .l 144 s143 c1.2.2.2.2.2.2.2.2.2.1, .l 147 s83 c1.2.2.2.2.2.2.2.2.2.2.1, .v (.int .i64 c1.2.2.2.2.2.2.2.2.2.2.2.1), .v (.int .i64 c1.2.2.2.2.2.2.2.2.2.2.2.2.1), .l 79 s78 c1.2.2.2.2.2.2.2.2.2.2.2.2.2.1, .l 84 s83 c1.2.2.2.2.2.2.2.2.2.2.2.2.2.2])]⟩ := by kernel_rfl
theorem b8_1 {R : Type} (k n : Nat) (K : Ex → St → Option R) (c1 : C8_1) (v : V8_1) : loopRun [1, 3, 4] (run E (den E k) (lv 8) k (nthLoop Tryz.f8 1)) (n + 1) (St8_1 c1 v) K = B8_1 k (fun (v1 : V8_1) (v2 : Int) (x1 : List (Int × Int × Int × Int × Int × Int)) (p2 : Bool) (x3 : List (Int × Int × Int × Int × Int × Int)) (x4 : Int × Int × Int × Int × Int × Int) => K .ret ⟨93, 1, [(1, .c (.ptr 0 0)), (2, .c (.v (.bool false))), (3, .c (.v (.int .i64 c1.1))), (4, .c (.v (.int .i64 v1))), (5, .c (.v (.int .i64 v2))), (33, .c (.v (.int .i64 v2))), (34, .c (.ptr 0 17)), (35, .c (.l 81 s80 c1.2.2.2.2.2.2.1)), (36, .c (.v (.int .i64 v1))), (37, .c (.at_ [.l 79 s78 x1])), (38, .c (.at_ [.l 79 s78 x1])), (39, .c (.l 79 s78 x1)), (40, .c (.v (.int .i64 (x1.length : Int)))), (41, .c (.v (.bool (decide (v2 < (x1.length : Int)))))), (42, .c (.v (.bool true))), (43, .c (.ptr 0 0)), (44, .agg [.v (.int .i64 c1.2.1.1), .l 112 s83 c1.2.1.2.1, .l 115 s114 c1.2.1.2.2.1, .v (.int .i64 c1.2.1.2.2.2.1), .v (.int .i64 c1.2.1.2.2.2.2.1), .v (.int .i64 c1.2.1.2.2.2.2.2.1), .v (.int .i64 c1.2.1.2.2.2.2.2.2.1), .v (.int .i64 c1.2.1.2.2.2.2.2.2.2.1), .l 120 s119 c1.2.1.2.2.2.2.2.2.2.2.1, .v (.int .i64 c1.2.1.2.2.2.2.2.2.2.2.2)]), (45, .c (.v (.int .i64 v1))), (46, .c (.v (.bool p2))), (47, .c (.v (.bool p2))), (50, .c (.ptr 0 17)), (51, .c (.l 81 s80 c1.2.2.2.2.2.2.1)), (52, .c (.v (.int .i64 v1))), (53, .c (.at_ [.l 79 s78 x3])), (54, .c (.at_ [.l 79 s78 x3])), (55, .c (.l 79 s78 x3)), (56, .c (.v (.int .i64 v2))), (57, .c (.at_ [.v (.int .i64 x4.1), .v (.int .i64 x4.2.1), .v (.int .i64 x4.2.2.1), .v (.int .i64 x4.2.2.2.1), .v (.int .i64 x4.2.2.2.2.1), .v (.int .i64 x4.2.2.2.2.2)])), (58, .c (.at_ [.v (.int .i64 x4.2.2.2.1), .v (.int .i64 x4.2.2.2.2.1), .v (.int .i64 x4.2.2.2.2.2)])), (59, .c (.v (.int .i64 x4.2.2.2.1))), (60, .c (.v (.int .i64 v1))), (61, .c (.v (.bool (x4.2.2.2.1 != v1))))], [(0, .var [.v (.int .i64 c1.2.1.1), .l 112 s83 c1.2.1.2.1, .l 115 s114 c1.2.1.2.2.1, .v (.int .i64 c1.2.1.2.2.2.1), .v (.int .i64 c1.2.1.2.2.2.2.1), .v (.int .i64 c1.2.1.2.2.2.2.2.1), .v (.int .i64 c1.2.1.2.2.2.2.2.2.1), .v (.int .i64 c1.2.1.2.2.2.2.2.2.2.1), .l 120 s119 c1.2.1.2.2.2.2.2.2.2.2.1, .v (.int .i64 c1.2.1.2.2.2.2.2.2.2.2.2), .v (.int .i64 c1.2.2.1.1), .v (.int .i64 c1.2.2.1.2.1), .v (.int .i64 c1.2.2.1.2.2.1), .l 127 s126 c1.2.2.1.2.2.2, .l 3 (.i .i64) c1.2.2.2.1, .l 3 (.i .i64) c1.2.2.2.2.1, .l 139 s78 c1.2.2.2.2.2.1, .l 81 s80 c1.2.2.2.2.2.2.1, .l 141 s83 c1.2.2.2.2.2.2.2.1, .l 3 (.i .i64) c1.2.2.2.2.2.2.2.2.1, .l 144 s143 c1.2.2.2.2.2.2.2.2.2.1, .l 147 s83 c1.2.2.2.2.2.2.2.2.2.2.1, .v (.int .i64 c1.2.2.2.2.2.2.2.2.2.2.2.1), .v (.int .i64 c1.2.2.2.2.2.2.2.2.2.2.2.2.1), .l 79 s78 c1.2.2.2.2.2.2.2.2.2.2.2.2.2.1, .l 84 s83 c1.2.2.2.2.2.2.2.2.2.2.2.2.2.2])]⟩) (fun (v1 : V8_1) => K (.exit 2) ⟨93, 1, [(1, .c (.ptr 0 0)), (3, .c (.v (.int .i64 c1.1))), (4, .c (.v (.int .i64 v1))), (26, .c (.v (.int .i64 v1))), (27, .c (.ptr 0 17)), (28, .c (.l 81 s80 c1.2.2.2.2.2.2.1)), (29, .c (.v (.int .i64 (c1.2.2.2.2.2.2.1.length : Int)))), (30, .c (.v (.bool (decide (v1 < (c1.2.2.2.2.2.2.1.length : Int))))))], [(0, .var [.v (.int .i64 c1.2.1.1), .l 112 s83 c1.2.1.2.1, .l 115 s114 c1.2.1.2.2.1, .v (.int .i64 c1.2.1.2.2.2.1), .v (.int .i64 c1.2.1.2.2.2.2.1), .v (.int .i64 c1.2.1.2.2.2.2.2.1), .v (.int .i64 c1.2.1.2.2.2.2.2.2.1), .v (.int .i64 c1.2.1.2.2.2.2.2.2.2.1), .l 120 s119 c1.2.1.2.2.2.2.2.2.2.2.1, .v (.int .i64 c1.2.1.2.2.2.2.2.2.2.2.2), .v (.int .i64 c1.2.2.1.1), .v (.int .i64 c1.2.2.1.2.1), .v (.int .i64 c1.2.2.1.2.2.1), .l 127 s126 c1.2.2.1.2.2.2, .l 3 (.i .i64) c1.2.2.2.1, .l 3 (.i .i64) c1.2.2.2.2.1, .l 139 s78 c1.2.2.2.2.2.1, .l 81 s80 c1.2.2.2.2.2.2.1, .l 141 s83 c1.2.2.2.2.2.2.2.1, .l 3 (.i .i64) c1.2.2.2.2.2.2.2.2.1, .l 144 s143 c1.2.2.2.2.2.2.2.2.2.1, .l 147 s83 c1.2.2.2.2.2.2.2.2.2.2.1, .v (.int .i64 c1.2.2.2.2.2.2.2.2.2.2.2.1), .v (.int .i64 c1.2.2.2.2.2.2.2.2.2.2.2.2.1), .l 79 s78 c1.2.2.2.2.2.2.2.2.2.2.2.2.2.1, .l 84 s83 c1.2.2.2.2.2.2.2.2.2.2.2.2.2.2])]⟩) c1 (fun v => loopRun [1, 3, 4] (run E (den E k) (lv 8) k (nthLoop Tryz.f8 1)) n (St8_1 c1 v) K) v := by
  rw [bm8_1_0]
  simp only [l8_2]
  kernel_rfl
theorem l8_1 {R : Type} (k : Nat) (K : Ex → St → Option R) (c1 : C8_1) : ∀ (n : Nat) (v : V8_1), loopRun [1, 3, 4] (run E (den E k) (lv 8) k (nthLoop Tryz.f8 1)) n (St8_1 c1 v) K = L8_1 k (fun (v1 : V8_1) (v2 : Int) (x1 : List (Int × Int × Int × Int × Int × Int)) (p2 : Bool) (x3 : List (Int × Int × Int × Int × Int × Int)) (x4 : Int × Int × Int × Int × Int × Int) => K .ret ⟨93, 1, [(1, .c (.ptr 0 0)), (2, .c (.v (.bool false))), (3, .c (.v (.int .i64 c1.1))), (4, .c (.v (.int .i64 v1))), (5, .c (.v (.int .i64 v2))), (33, .c (.v (.int .i64 v2))), (34, .c (.ptr 0 17)), (35, .c (.l 81 s80 c1.2.2.2.2.2.2.1)), (36, .c (.v (.int .i64 v1))), (37, .c (.at_ [.l 79 s78 x1])), (38, .c (.at_ [.l 79 s78 x1])), (39, .c (.l 79 s78 x1)), (40, .c (.v (.int .i64 (x1.length : Int)))), (41, .c (.v (.bool (decide (v2 < (x1.length : Int)))))), (42, .c (.v (.bool true))), (43, .c (.ptr 0 0)), (44, .agg [.v (.int .i64 c1.2.1.1), .l 112 s83 c1.2.1.2.1, .l 115 s114 c1.2.1.2.2.1, .v (.int .i64 c1.2.1.2.2.2.1), .v (.int .i64 c1.2.1.2.2.2.2.1), .v (.int .i64 c1.2.1.2.2.2.2.2.1), .v (.int .i64 c1.2.1.2.2.2.2.2.2.1), .v (.int .i64 c1.2.1.2.2.2.2.2.2.2.1), .l 120 s119 c1.2.1.2.2.2.2.2.2.2.2.1, .v (.int .i64 c1.2.1.2.2.2.2.2.2.2.2.2)]), (45, .c (.v (.int .i64 v1))), (46, .c (.v (.bool p2))), (47, .c (.v (.bool p2))), (50, .c (.ptr 0 17)), (51, .c (.l 81 s80 c1.2.2.2.2.2.2.1)), (52, .c (.v (.int .i64 v1))), (53, .c (.at_ [.l 79 s78 x3])), (54, .c (.at_ [.l 79 s78 x3])), (55, .c (.l 79 s78 x3)), (56, .c (.v (.int .i64 v2))), (57, .c (.at_ [.v (.int .i64 x4.1), .v (.int .i64 x4.2.1), .v (.int .i64 x4.2.2.1), .v (.int .i64 x4.2.2.2.1), .v (.int .i64 x4.2.2.2.2.1), .v (.int .i64 x4.2.2.2.2.2)])), (58, .c (.at_ [.v (.int .i64 x4.2.2.2.1), .v (.int .i64 x4.2.2.2.2.1), .v (.int .i64 x4.2.2.2.2.2)])), (59, .c (.v (.int .i64 x4.2.2.2.1))), (60, .c (.v (.int .i64 v1))), (61, .c (.v (.bool (x4.2.2.2.1 != v1))))], [(0, .var [.v (.int .i64 c1.2.1.1), .l 112 s83 c1.2.1.2.1, .l 115 s114 c1.2.1.2.2.1, .v (.int .i64 c1.2.1.2.2.2.1), .v (.int .i64 c1.2.1.2.2.2.2.1), .v (.int .i64 c1.2.1.2.2.2.2.2.1), .v (.int .i64 c1.2.1.2.2.2.2.2.2.1), .v (.int .i64 c1.2.1.2.2.2.2.2.2.2.1), .l 120 s119 c1.2.1.2.2.2.2.2.2.2.2.1, .v (.int .i64 c1.2.1.2.2.2.2.2.2.2.2.2), .v (.int .i64 c1.2.2.1.1), .v (.int .i64 c1.2.2.1.2.1), .v (.int .i64 c1.2.2.1.2.2.1), .l 127 s126 c1.2.2.1.2.2.2, .l 3 (.i .i64) c1.2.2.2.1, .l 3 (.i .i64) c1.2.2.2.2.1, .l 139 s78 c1.2.2.2.2.2.1, .l 81 s80 c1.2.2.2.2.2.2.1, .l 141 s83 c1.2.2.2.2.2.2.2.1, .l 3 (.i .i64) c1.2.2.2.2.2.2.2.2.1, .l 144 s143 c1.2.2.2.2.2.2.2.2.2.1, .l 147 s83 c1.2.2.2.2.2.2.2.2.2.2.1, .v (.int .i64 c1.2.2.2.2.2.2.2.2.2.2.2.1), .v (.int .i64 c1.2.2.2.2.2.2.2.2.2.2.2.2.1), .l 79 s78 c1.2.2.2.2.2.2.2.2.2.2.2.2.2.1, .l 84 s83 c1.2.2.2.2.2.2.2.2.2.2.2.2.2.2])]⟩) (fun (v1 : V8_1) => K (.exit 2) ⟨93, 1, [(1, .c (.ptr 0 0)), (3, .c (.v (.int .i64 c1.1))), (4, .c (.v (.int .i64 v1))), (26, .c (.v (.int .i64 v1))), (27, .c (.ptr 0 17)), (28, .c (.l 81 s80 c1.2.2.2.2.2.2.1)), (29, .c (.v (.int .i64 (c1.2.2.2.2.2.2.1.length : Int)))), (30, .c (.v (.bool (decide (v1 < (c1.2.2.2.2.2.2.1.length : Int))))))], [(0, .var [.v (.int .i64 c1.2.1.1), .l 112 s83 c1.2.1.2.1, .l 115 s114 c1.2.1.2.2.1, .v (.int .i64 c1.2.1.2.2.2.1), .v (.int .i64 c1.2.1.2.2.2.2.1), .v (.int .i64 c1.2.1.2.2.2.2.2.1), .v (.int .i64 c1.2.1.2.2.2.2.2.2.1), .v (.int .i64 c1.2.1.2.2.2.2.2.2.2.1), .l 120 s119 c1.2.1.2.2.2.2.2.2.2.2.1, .v (.int .i64 c1.2.1.2.2.2.2.2.2.2.2.2), .v (.int .i64 c1.2.2.1.1), .v (.int .i64 c1.2.2.1.2.1), .v (.int .i64 c1.2.2.1.2.2.1), .l 127 s126 c1.2.2.1.2.2.2, .l 3 (.i .i64) c1.2.2.2.1, .l 3 (.i .i64) c1.2.2.2.2.1, .l 139 s78 c1.2.2.2.2.2.1, .l 81 s80 c1.2.2.2.2.2.2.1, .l 141 s83 c1.2.2.2.2.2.2.2.1, .l 3 (.i .i64) c1.2.2.2.2.2.2.2.2.1, .l 144 s143 c1.2.2.2.2.2.2.2.2.2.1, .l 147 s83 c1.2.2.2.2.2.2.2.2.2.2.1, .v (.int .i64 c1.2.2.2.2.2.2.2.2.2.2.2.1), .v (.int .i64 c1.2.2.2.2.2.2.2.2.2.2.2.2.1), .l 79 s78 c1.2.2.2.2.2.2.2.2.2.2.2.2.2.1, .l 84 s83 c1.2.2.2.2.2.2.2.2.2.2.2.2.2.2])]⟩) c1 n v := by
  intro n
  induction n with
  | zero => intro v; rfl
  | succ n ih =>
    intro v
    refine (b8_1 k n K c1 v).trans ?_
    rw [funext ih]
    kernel_rfl
abbrev C8_0 : Type := T40
abbrev V8_0 : Type := Int
def St8_0 (c0 : C8_0) (v0 : V8_0) : St := ⟨93, 1, [(1, .c (.ptr 0 0)), (3, .c (.v (.int .i64 v0)))], [(0, .var [.v (.int .i64 c0.1.1), .l 112 s83 c0.1.2.1, .l 115 s114 c0.1.2.2.1, .v (.int .i64 c0.1.2.2.2.1), .v (.int .i64 c0.1.2.2.2.2.1), .v (.int .i64 c0.1.2.2.2.2.2.1), .v (.int .i64 c0.1.2.2.2.2.2.2.1), .v (.int .i64 c0.1.2.2.2.2.2.2.2.1), .l 120 s119 c0.1.2.2.2.2.2.2.2.2.1, .v (.int .i64 c0.1.2.2.2.2.2.2.2.2.2), .v (.int .i64 c0.2.1.1), .v (.int .i64 c0.2.1.2.1), .v (.int .i64 c0.2.1.2.2.1), .l 127 s126 c0.2.1.2.2.2, .l 3 (.i .i64) c0.2.2.1, .l 3 (.i .i64) c0.2.2.2.1, .l 139 s78 c0.2.2.2.2.1, .l 81 s80 c0.2.2.2.2.2.1, .l 141 s83 c0.2.2.2.2.2.2.1, .l 3 (.i .i64) c0.2.2.2.2.2.2.2.1, .l 144 s143 c0.2.2.2.2.2.2.2.2.1, .l 147 s83 c0.2.2.2.2.2.2.2.2.2.1, .v (.int .i64 c0.2.2.2.2.2.2.2.2.2.2.1), .v (.int .i64 c0.2.2.2.2.2.2.2.2.2.2.2.1), .l 79 s78 c0.2.2.2.2.2.2.2.2.2.2.2.2.1, .l 84 s83 c0.2.2.2.2.2.2.2.2.2.2.2.2.2])]⟩
noncomputable def B8_0 {R : Type} (k : Nat) (X0 : V8_0 → (Int × Int × Int × Int × Int × Int) → Bool → Option R) (X1 : V8_0 → Option R) (c0 : C8_0) (rec : V8_0 → Option R) (v0 : V8_0) : Option R := if (decide (v0 < (c0.2.2.2.2.2.2.2.2.2.2.2.2.1.length : Int))) = true then if 0 ≤ v0 then ix c0.2.2.2.2.2.2.2.2.2.2.2.2.1 v0.toNat fun x1 => (F29 k c0.2.2.1 c0.2.1 x1.2.2.2.2.1).bind fun p2 => if (!p2) = true then X0 v0 x1 p2 else rec (IntKind.i64.wrap (v0 + 1)) else none else X1 v0
noncomputable def L8_0 {R : Type} (k : Nat) (X0 : V8_0 → (Int × Int × Int × Int × Int × Int) → Bool → Option R) (X1 : V8_0 → Option R) (c : C8_0) : Nat → V8_0 → Option R
  | 0, _ => none
  | n + 1, v => B8_0 k X0 X1 c (L8_0 k X0 X1 c n) v
theorem b8_0 {R : Type} (k n : Nat) (K : Ex → St → Option R) (c0 : C8_0) (v : V8_0) : loopRun [1, 3] (run E (den E k) (lv 8) k (nthLoop Tryz.f8 0)) (n + 1) (St8_0 c0 v) K = B8_0 k (fun (v0 : V8_0) (x1 : Int × Int × Int × Int × Int × Int) (p2 : Bool) => K .ret ⟨93, 1, [(1, .c (.ptr 0 0)), (2, .c (.v (.bool false))), (3, .c (.v (.int .i64 v0))), (7, .c (.v (.int .i64 v0))), (8, .c (.ptr 0 24)), (9, .c (.l 79 s78 c0.2.2.2.2.2.2.2.2.2.2.2.2.1)), (10, .c (.v (.int .i64 (c0.2.2.2.2.2.2.2.2.2.2.2.2.1.length : Int)))), (11, .c (.v (.bool (decide (v0 < (c0.2.2.2.2.2.2.2.2.2.2.2.2.1.length : Int)))))), (14, .c (.ptr 0 14)), (15, .agg [.l 3 (.i .i64) c0.2.2.1]), (16, .c (.ptr 0 10)), (17, .agg [.v (.int .i64 c0.2.1.1), .v (.int .i64 c0.2.1.2.1), .v (.int .i64 c0.2.1.2.2.1), .l 127 s126 c0.2.1.2.2.2]), (18, .c (.ptr 0 24)), (19, .c (.l 79 s78 c0.2.2.2.2.2.2.2.2.2.2.2.2.1)), (20, .c (.v (.int .i64 v0))), (21, .c (.at_ [.v (.int .i64 x1.1), .v (.int .i64 x1.2.1), .v (.int .i64 x1.2.2.1), .v (.int .i64 x1.2.2.2.1), .v (.int .i64 x1.2.2.2.2.1), .v (.int .i64 x1.2.2.2.2.2)])), (22, .c (.at_ [.v (.int .i64 x1.2.2.2.2.1), .v (.int .i64 x1.2.2.2.2.2)])), (23, .c (.v (.int .i64 x1.2.2.2.2.1))), (24, .c (.v (.bool p2))), (25, .c (.v (.bool (!p2))))], [(0, .var [.v (.int .i64 c0.1.1), .l 112 s83 c0.1.2.1, .l 115 s114 c0.1.2.2.1, .v (.int .i64 c0.1.2.2.2.1), .v (.int .i64 c0.1.2.2.2.2.1), .v (.int .i64 c0.1.2.2.2.2.2.1), .v (.int .i64 c0.1.2.2.2.2.2.2.1), .v (.int .i64 c0.1.2.2.2.2.2.2.2.1), .l 120 s119 c0.1.2.2.2.2.2.2.2.2.1, .v (.int .i64 c0.1.2.2.2.2.2.2.2.2.2), .v (.int .i64 c0.2.1.1), .v (.int .i64 c0.2.1.2.1), .v (.int .i64 c0.2.1.2.2.1), .l 127 s126 c0.2.1.2.2.2, .l 3 (.i .i64) c0.2.2.1, .l 3 (.i .i64) c0.2.2.2.1, .l 139 s78 c0.2.2.2.2.1, .l 81 s80 c0.2.2.2.2.2.1, .l 141 s83 c0.2.2.2.2.2.2.1, .l 3 (.i .i64) c0.2.2.2.2.2.2.2.1, .l 144 s143 c0.2.2.2.2.2.2.2.2.1, .l 147 s83 c0.2.2.2.2.2.2.2.2.2.1, .v (.int .i64 c0.2.2.2.2.2.2.2.2.2.2.1), .v (.int .i64 c0.2.2.2.2.2.2.2.2.2.2.2.1), .l 79 s78 c0.2.2.2.2.2.2.2.2.2.2.2.2.1, .l 84 s83 c0.2.2.2.2.2.2.2.2.2.2.2.2.2])]⟩) (fun (v0 : V8_0) => K (.exit 0) ⟨93, 1, [(1, .c (.ptr 0 0)), (3, .c (.v (.int .i64 v0))), (7, .c (.v (.int .i64 v0))), (8, .c (.ptr 0 24)), (9, .c (.l 79 s78 c0.2.2.2.2.2.2.2.2.2.2.2.2.1)), (10, .c (.v (.int .i64 (c0.2.2.2.2.2.2.2.2.2.2.2.2.1.length : Int)))), (11, .c (.v (.bool (decide (v0 < (c0.2.2.2.2.2.2.2.2.2.2.2.2.1.length : Int))))))], [(0, .var [.v (.int .i64 c0.1.1), .l 112 s83 c0.1.2.1, .l 115 s114 c0.1.2.2.1, .v (.int .i64 c0.1.2.2.2.1), .v (.int .i64 c0.1.2.2.2.2.1), .v (.int .i64 c0.1.2.2.2.2.2.1), .v (.int .i64 c0.1.2.2.2.2.2.2.1), .v (.int .i64 c0.1.2.2.2.2.2.2.2.1), .l 120 s119 c0.1.2.2.2.2.2.2.2.2.1, .v (.int .i64 c0.1.2.2.2.2.2.2.2.2.2), .v (.int .i64 c0.2.1.1), .v (.int .i64 c0.2.1.2.1), .v (.int .i64 c0.2.1.2.2.1), .l 127 s126 c0.2.1.2.2.2, .l 3 (.i .i64) c0.2.2.1, .l 3 (.i .i64) c0.2.2.2.1, .l 139 s78 c0.2.2.2.2.1, .l 81 s80 c0.2.2.2.2.2.1, .l 141 s83 c0.2.2.2.2.2.2.1, .l 3 (.i .i64) c0.2.2.2.2.2.2.2.1, .l 144 s143 c0.2.2.2.2.2.2.2.2.1, .l 147 s83 c0.2.2.2.2.2.2.2.2.2.1, .v (.int .i64 c0.2.2.2.2.2.2.2.2.2.2.1), .v (.int .i64 c0.2.2.2.2.2.2.2.2.2.2.2.1), .l 79 s78 c0.2.2.2.2.2.2.2.2.2.2.2.2.1, .l 84 s83 c0.2.2.2.2.2.2.2.2.2.2.2.2.2])]⟩) c0 (fun v => loopRun [1, 3] (run E (den E k) (lv 8) k (nthLoop Tryz.f8 0)) n (St8_0 c0 v) K) v := by kernel_rfl
theorem l8_0 {R : Type} (k : Nat) (K : Ex → St → Option R) (c0 : C8_0) : ∀ (n : Nat) (v : V8_0), loopRun [1, 3] (run E (den E k) (lv 8) k (nthLoop Tryz.f8 0)) n (St8_0 c0 v) K = L8_0 k (fun (v0 : V8_0) (x1 : Int × Int × Int × Int × Int × Int) (p2 : Bool) => K .ret ⟨93, 1, [(1, .c (.ptr 0 0)), (2, .c (.v (.bool false))), (3, .c (.v (.int .i64 v0))), (7, .c (.v (.int .i64 v0))), (8, .c (.ptr 0 24)), (9, .c (.l 79 s78 c0.2.2.2.2.2.2.2.2.2.2.2.2.1)), (10, .c (.v (.int .i64 (c0.2.2.2.2.2.2.2.2.2.2.2.2.1.length : Int)))), (11, .c (.v (.bool (decide (v0 < (c0.2.2.2.2.2.2.2.2.2.2.2.2.1.length : Int)))))), (14, .c (.ptr 0 14)), (15, .agg [.l 3 (.i .i64) c0.2.2.1]), (16, .c (.ptr 0 10)), (17, .agg [.v (.int .i64 c0.2.1.1), .v (.int .i64 c0.2.1.2.1), .v (.int .i64 c0.2.1.2.2.1), .l 127 s126 c0.2.1.2.2.2]), (18, .c (.ptr 0 24)), (19, .c (.l 79 s78 c0.2.2.2.2.2.2.2.2.2.2.2.2.1)), (20, .c (.v (.int .i64 v0))), (21, .c (.at_ [.v (.int .i64 x1.1), .v (.int .i64 x1.2.1), .v (.int .i64 x1.2.2.1), .v (.int .i64 x1.2.2.2.1), .v (.int .i64 x1.2.2.2.2.1), .v (.int .i64 x1.2.2.2.2.2)])), (22, .c (.at_ [.v (.int .i64 x1.2.2.2.2.1), .v (.int .i64 x1.2.2.2.2.2)])), (23, .c (.v (.int .i64 x1.2.2.2.2.1))), (24, .c (.v (.bool p2))), (25, .c (.v (.bool (!p2))))], [(0, .var [.v (.int .i64 c0.1.1), .l 112 s83 c0.1.2.1, .l 115 s114 c0.1.2.2.1, .v (.int .i64 c0.1.2.2.2.1), .v (.int .i64 c0.1.2.2.2.2.1), .v (.int .i64 c0.1.2.2.2.2.2.1), .v (.int .i64 c0.1.2.2.2.2.2.2.1), .v (.int .i64 c0.1.2.2.2.2.2.2.2.1), .l 120 s119 c0.1.2.2.2.2.2.2.2.2.1, .v (.int .i64 c0.1.2.2.2.2.2.2.2.2.2), .v (.int .i64 c0.2.1.1), .v (.int .i64 c0.2.1.2.1), .v (.int .i64 c0.2.1.2.2.1), .l 127 s126 c0.2.1.2.2.2, .l 3 (.i .i64) c0.2.2.1, .l 3 (.i .i64) c0.2.2.2.1, .l 139 s78 c0.2.2.2.2.1, .l 81 s80 c0.2.2.2.2.2.1, .l 141 s83 c0.2.2.2.2.2.2.1, .l 3 (.i .i64) c0.2.2.2.2.2.2.2.1, .l 144 s143 c0.2.2.2.2.2.2.2.2.1, .l 147 s83 c0.2.2.2.2.2.2.2.2.2.1, .v (.int .i64 c0.2.2.2.2.2.2.2.2.2.2.1), .v (.int .i64 c0.2.2.2.2.2.2.2.2.2.2.2.1), .l 79 s78 c0.2.2.2.2.2.2.2.2.2.2.2.2.1, .l 84 s83 c0.2.2.2.2.2.2.2.2.2.2.2.2.2])]⟩) (fun (v0 : V8_0) => K (.exit 0) ⟨93, 1, [(1, .c (.ptr 0 0)), (3, .c (.v (.int .i64 v0))), (7, .c (.v (.int .i64 v0))), (8, .c (.ptr 0 24)), (9, .c (.l 79 s78 c0.2.2.2.2.2.2.2.2.2.2.2.2.1)), (10, .c (.v (.int .i64 (c0.2.2.2.2.2.2.2.2.2.2.2.2.1.length : Int)))), (11, .c (.v (.bool (decide (v0 < (c0.2.2.2.2.2.2.2.2.2.2.2.2.1.length : Int))))))], [(0, .var [.v (.int .i64 c0.1.1), .l 112 s83 c0.1.2.1, .l 115 s114 c0.1.2.2.1, .v (.int .i64 c0.1.2.2.2.1), .v (.int .i64 c0.1.2.2.2.2.1), .v (.int .i64 c0.1.2.2.2.2.2.1), .v (.int .i64 c0.1.2.2.2.2.2.2.1), .v (.int .i64 c0.1.2.2.2.2.2.2.2.1), .l 120 s119 c0.1.2.2.2.2.2.2.2.2.1, .v (.int .i64 c0.1.2.2.2.2.2.2.2.2.2), .v (.int .i64 c0.2.1.1), .v (.int .i64 c0.2.1.2.1), .v (.int .i64 c0.2.1.2.2.1), .l 127 s126 c0.2.1.2.2.2, .l 3 (.i .i64) c0.2.2.1, .l 3 (.i .i64) c0.2.2.2.1, .l 139 s78 c0.2.2.2.2.1, .l 81 s80 c0.2.2.2.2.2.1, .l 141 s83 c0.2.2.2.2.2.2.1, .l 3 (.i .i64) c0.2.2.2.2.2.2.2.1, .l 144 s143 c0.2.2.2.2.2.2.2.2.1, .l 147 s83 c0.2.2.2.2.2.2.2.2.2.1, .v (.int .i64 c0.2.2.2.2.2.2.2.2.2.2.1), .v (.int .i64 c0.2.2.2.2.2.2.2.2.2.2.2.1), .l 79 s78 c0.2.2.2.2.2.2.2.2.2.2.2.2.1, .l 84 s83 c0.2.2.2.2.2.2.2.2.2.2.2.2.2])]⟩) c0 n v := by
  intro n
  induction n with
  | zero => intro v; rfl
  | succ n ih =>
    intro v
    refine (b8_0 k n K c0 v).trans ?_
    rw [funext ih]
    kernel_rfl
theorem m8_0 (k : Nat) (a0 : T40) : F8 (k + 1) a0 = loopRun (R := Bool) [1, 3] (run E (den E k) (lv 8) k (nthLoop Tryz.f8 0)) k (St8_0 a0 0) (kontAt E (den E k) (lv 8) k (bodyOf Tryz.f8) 0 [] (finish E (rs 8) Tryz.f8 : Ex → St → Option (Bool))) := by kernel_rfl
theorem m8_1 (k : Nat) (a0 : T40) : F8 (k + 1) a0 = L8_0 k (fun (v0 : Int) (x1 : Int × Int × Int × Int × Int × Int) (p2 : Bool) => some false) (fun (v0 : Int) => loopRun (R := Bool) [1, 3, 4] (run E (den E k) (lv 8) k (nthLoop Tryz.f8 1)) k (St8_1 (v0, a0) 0) (kontAt E (den E k) (lv 8) k (bodyOf Tryz.f8) 1 [] (finish E (rs 8) Tryz.f8 : Ex → St → Option (Bool)))) a0 k 0 := by 
  rw [m8_0]
  simp only [l8_0]
  kernel_rfl
theorem m8_2 (k : Nat) (a0 : T40) : F8 (k + 1) a0 = L8_0 k (fun (v0 : Int) (x1 : Int × Int × Int × Int × Int × Int) (p2 : Bool) => some false) (fun (v0 : Int) => L8_1 k (fun (v1 : Int) (v2 : Int) (x1 : List (Int × Int × Int × Int × Int × Int)) (p2 : Bool) (x3 : List (Int × Int × Int × Int × Int × Int)) (x4 : Int × Int × Int × Int × Int × Int) => some false) (fun (v1 : Int) => loopRun (R := Bool) [1, 3, 4, 6] (run E (den E k) (lv 8) k (nthLoop Tryz.f8 3)) k (St8_3 (v0, v1, a0) 0) (kontAt E (den E k) (lv 8) k (bodyOf Tryz.f8) 3 [] (finish E (rs 8) Tryz.f8 : Ex → St → Option (Bool)))) (v0, a0) k 0) a0 k 0 := by 
  rw [m8_1]
  simp only [l8_1]
  kernel_rfl
theorem e8 (k : Nat) (a0 : T40) : F8 (k + 1) a0 = L8_0 k (fun (v0 : Int) (x1 : Int × Int × Int × Int × Int × Int) (p2 : Bool) => some false) (fun (v0 : Int) => L8_1 k (fun (v1 : Int) (v2 : Int) (x1 : List (Int × Int × Int × Int × Int × Int)) (p2 : Bool) (x3 : List (Int × Int × Int × Int × Int × Int)) (x4 : Int × Int × Int × Int × Int × Int) => some false) (fun (v1 : Int) => L8_3 k (fun (v3 : Int) (x1 : Int × Int × Int × Int) (x2 : Int × Int × Int × Int) (p3 : Bool) => some false) (fun (v3 : Int) => some true) (v0, v1, a0) k 0) (v0, a0) k 0) a0 k 0 := by
  rw [m8_2]
  simp only [l8_3]
  kernel_rfl
/-! loop.example/g00599/laws.toSat -/
noncomputable def F136 (k : Nat) (a0 : Int × Int × Int × Int) : Option (Int × Int × Int × Int) := den E k 136 [.agg [.v (.int .i64 a0.1), .v (.int .i64 a0.2.1), .v (.int .i64 a0.2.2.1), .v (.int .i64 a0.2.2.2)]]
theorem e136 (k : Nat) (a0 : Int × Int × Int × Int) : F136 (k + 1) a0 = some a0 := by kernel_rfl
/-! loop.example/g00599/laws.toSatS -/
noncomputable def F93 (k : Nat) (a0 : List (Int × Int × Int × Int)) : Option (List (Int × Int × Int × Int)) := den E k 93 [.c (.l 196 s83 a0)]
abbrev C93_0 : Type := (List (Int × Int × Int × Int))
abbrev V93_0 : Type := Int × (List (Int × Int × Int × Int))
def St93_0 (c0 : C93_0) (v0 : V93_0) : St := ⟨23, 1, [(0, .c (.l 196 s83 c0)), (3, .c (.ref 0)), (4, .c (.v (.int .i64 v0.1)))], [(0, .arr 112 s83 v0.2)]⟩
noncomputable def B93_0 {R : Type} (k : Nat) (X0 : V93_0 → Option R) (c0 : C93_0) (rec : V93_0 → Option R) (v0 : V93_0) : Option R := if (decide (v0.1 < (c0.length : Int))) = true then if 0 ≤ v0.1 then ix c0 v0.1.toNat fun x1 => (F136 k x1).bind fun p2 => if 0 ≤ v0.1 then if v0.1 < (v0.2.length : Int) then ix v0.2 v0.1.toNat fun y3 => rec ((IntKind.i64.wrap (v0.1 + 1)), (v0.2.set v0.1.toNat p2)) else none else none else none else X0 v0
noncomputable def L93_0 {R : Type} (k : Nat) (X0 : V93_0 → Option R) (c : C93_0) : Nat → V93_0 → Option R
  | 0, _ => none
  | n + 1, v => B93_0 k X0 c (L93_0 k X0 c n) v
theorem b93_0 {R : Type} (k n : Nat) (K : Ex → St → Option R) (c0 : C93_0) (v : V93_0) : loopRun [0, 3, 4] (run E (den E k) (lv 93) k (nthLoop Tryz.f93 0)) (n + 1) (St93_0 c0 v) K = B93_0 k (fun (v0 : V93_0) => K (.exit 0) ⟨23, 1, [(0, .c (.l 196 s83 c0)), (3, .c (.ref 0)), (4, .c (.v (.int .i64 v0.1))), (8, .c (.v (.int .i64 v0.1))), (9, .c (.l 196 s83 c0)), (10, .c (.v (.int .i64 (c0.length : Int)))), (11, .c (.v (.bool (decide (v0.1 < (c0.length : Int))))))], [(0, .arr 112 s83 v0.2)]⟩) c0 (fun v => loopRun [0, 3, 4] (run E (den E k) (lv 93) k (nthLoop Tryz.f93 0)) n (St93_0 c0 v) K) v := by kernel_rfl
theorem l93_0 {R : Type} (k : Nat) (K : Ex → St → Option R) (c0 : C93_0) : ∀ (n : Nat) (v : V93_0), loopRun [0, 3, 4] (run E (den E k) (lv 93) k (nthLoop Tryz.f93 0)) n (St93_0 c0 v) K = L93_0 k (fun (v0 : V93_0) => K (.exit 0) ⟨23, 1, [(0, .c (.l 196 s83 c0)), (3, .c (.ref 0)), (4, .c (.v (.int .i64 v0.1))), (8, .c (.v (.int .i64 v0.1))), (9, .c (.l 196 s83 c0)), (10, .c (.v (.int .i64 (c0.length : Int)))), (11, .c (.v (.bool (decide (v0.1 < (c0.length : Int))))))], [(0, .arr 112 s83 v0.2)]⟩) c0 n v := by
  intro n
  induction n with
  | zero => intro v; rfl
  | succ n ih =>
    intro v
    refine (b93_0 k n K c0 v).trans ?_
    rw [funext ih]
    kernel_rfl
theorem m93_0 (k : Nat) (a0 : List (Int × Int × Int × Int)) : F93 (k + 1) a0 = if (a0.length : Int) = (a0.length : Int) then if 0 ≤ (a0.length : Int) then if 32 * (a0.length : Int).toNat ≤ 281474976710656 then loopRun (R := List (Int × Int × Int × Int)) [0, 3, 4] (run E (den E k) (lv 93) k (nthLoop Tryz.f93 0)) k (St93_0 a0 (0, (List.replicate (a0.length : Int).toNat ((0, 0, 0, 0) : Int × Int × Int × Int)))) (kontAt E (den E k) (lv 93) k (bodyOf Tryz.f93) 0 [] (finish E (rs 93) Tryz.f93 : Ex → St → Option (List (Int × Int × Int × Int)))) else none else none else none := by kernel_rfl
theorem e93 (k : Nat) (a0 : List (Int × Int × Int × Int)) : F93 (k + 1) a0 = if (a0.length : Int) = (a0.length : Int) then if 0 ≤ (a0.length : Int) then if 32 * (a0.length : Int).toNat ≤ 281474976710656 then L93_0 k (fun (v0 : Int × (List (Int × Int × Int × Int))) => some v0.2) a0 k (0, (List.replicate (a0.length : Int).toNat ((0, 0, 0, 0) : Int × Int × Int × Int))) else none else none else none := by
  rw [m93_0]
  simp only [l93_0]
  kernel_rfl
/-! loop.example/g00599/laws.toSite -/
noncomputable def F137 (k : Nat) (a0 : Int × Int × Int) : Option (Int × Int × Int) := den E k 137 [.agg [.v (.int .i64 a0.1), .v (.int .i64 a0.2.1), .v (.int .i64 a0.2.2)]]
theorem e137 (k : Nat) (a0 : Int × Int × Int) : F137 (k + 1) a0 = some a0 := by kernel_rfl
/-! loop.example/g00599/laws.toSiteS -/
noncomputable def F94 (k : Nat) (a0 : List (Int × Int × Int)) : Option (List (Int × Int × Int)) := den E k 94 [.c (.l 198 s114 a0)]
abbrev C94_0 : Type := (List (Int × Int × Int))
abbrev V94_0 : Type := Int × (List (Int × Int × Int))
def St94_0 (c0 : C94_0) (v0 : V94_0) : St := ⟨23, 1, [(0, .c (.l 198 s114 c0)), (3, .c (.ref 0)), (4, .c (.v (.int .i64 v0.1)))], [(0, .arr 115 s114 v0.2)]⟩
noncomputable def B94_0 {R : Type} (k : Nat) (X0 : V94_0 → Option R) (c0 : C94_0) (rec : V94_0 → Option R) (v0 : V94_0) : Option R := if (decide (v0.1 < (c0.length : Int))) = true then if 0 ≤ v0.1 then ix c0 v0.1.toNat fun x1 => (F137 k x1).bind fun p2 => if 0 ≤ v0.1 then if v0.1 < (v0.2.length : Int) then ix v0.2 v0.1.toNat fun y3 => rec ((IntKind.i64.wrap (v0.1 + 1)), (v0.2.set v0.1.toNat p2)) else none else none else none else X0 v0
noncomputable def L94_0 {R : Type} (k : Nat) (X0 : V94_0 → Option R) (c : C94_0) : Nat → V94_0 → Option R
  | 0, _ => none
  | n + 1, v => B94_0 k X0 c (L94_0 k X0 c n) v
theorem b94_0 {R : Type} (k n : Nat) (K : Ex → St → Option R) (c0 : C94_0) (v : V94_0) : loopRun [0, 3, 4] (run E (den E k) (lv 94) k (nthLoop Tryz.f94 0)) (n + 1) (St94_0 c0 v) K = B94_0 k (fun (v0 : V94_0) => K (.exit 0) ⟨23, 1, [(0, .c (.l 198 s114 c0)), (3, .c (.ref 0)), (4, .c (.v (.int .i64 v0.1))), (8, .c (.v (.int .i64 v0.1))), (9, .c (.l 198 s114 c0)), (10, .c (.v (.int .i64 (c0.length : Int)))), (11, .c (.v (.bool (decide (v0.1 < (c0.length : Int))))))], [(0, .arr 115 s114 v0.2)]⟩) c0 (fun v => loopRun [0, 3, 4] (run E (den E k) (lv 94) k (nthLoop Tryz.f94 0)) n (St94_0 c0 v) K) v := by kernel_rfl
theorem l94_0 {R : Type} (k : Nat) (K : Ex → St → Option R) (c0 : C94_0) : ∀ (n : Nat) (v : V94_0), loopRun [0, 3, 4] (run E (den E k) (lv 94) k (nthLoop Tryz.f94 0)) n (St94_0 c0 v) K = L94_0 k (fun (v0 : V94_0) => K (.exit 0) ⟨23, 1, [(0, .c (.l 198 s114 c0)), (3, .c (.ref 0)), (4, .c (.v (.int .i64 v0.1))), (8, .c (.v (.int .i64 v0.1))), (9, .c (.l 198 s114 c0)), (10, .c (.v (.int .i64 (c0.length : Int)))), (11, .c (.v (.bool (decide (v0.1 < (c0.length : Int))))))], [(0, .arr 115 s114 v0.2)]⟩) c0 n v := by
  intro n
  induction n with
  | zero => intro v; rfl
  | succ n ih =>
    intro v
    refine (b94_0 k n K c0 v).trans ?_
    rw [funext ih]
    kernel_rfl
theorem m94_0 (k : Nat) (a0 : List (Int × Int × Int)) : F94 (k + 1) a0 = if (a0.length : Int) = (a0.length : Int) then if 0 ≤ (a0.length : Int) then if 24 * (a0.length : Int).toNat ≤ 281474976710656 then loopRun (R := List (Int × Int × Int)) [0, 3, 4] (run E (den E k) (lv 94) k (nthLoop Tryz.f94 0)) k (St94_0 a0 (0, (List.replicate (a0.length : Int).toNat ((0, 0, 0) : Int × Int × Int)))) (kontAt E (den E k) (lv 94) k (bodyOf Tryz.f94) 0 [] (finish E (rs 94) Tryz.f94 : Ex → St → Option (List (Int × Int × Int)))) else none else none else none := by kernel_rfl
theorem e94 (k : Nat) (a0 : List (Int × Int × Int)) : F94 (k + 1) a0 = if (a0.length : Int) = (a0.length : Int) then if 0 ≤ (a0.length : Int) then if 24 * (a0.length : Int).toNat ≤ 281474976710656 then L94_0 k (fun (v0 : Int × (List (Int × Int × Int))) => some v0.2) a0 k (0, (List.replicate (a0.length : Int).toNat ((0, 0, 0) : Int × Int × Int))) else none else none else none := by
  rw [m94_0]
  simp only [l94_0]
  kernel_rfl
/-! loop.example/g00599/laws.toArc -/
noncomputable def F159 (k : Nat) (a0 : Int × Int) : Option (Int × Int) := den E k 159 [.agg [.v (.int .i64 a0.1), .v (.int .i64 a0.2)]]
theorem e159 (k : Nat) (a0 : Int × Int) : F159 (k + 1) a0 = some a0 := by kernel_rfl
/-! loop.example/g00599/laws.toZone -/
noncomputable def F138 (k : Nat) (a0 : Int × Int × Int) : Option (Int × Int × Int) := den E k 138 [.agg [.v (.int .i64 a0.1), .v (.int .i64 a0.2.1), .v (.int .i64 a0.2.2)]]
theorem e138 (k : Nat) (a0 : Int × Int × Int) : F138 (k + 1) a0 = (F159 k a0.2).bind fun p1 => some (a0.1, p1) := by kernel_rfl
/-! loop.example/g00599/laws.toZoneS -/
noncomputable def F95 (k : Nat) (a0 : List (Int × Int × Int)) : Option (List (Int × Int × Int)) := den E k 95 [.c (.l 202 s119 a0)]
abbrev C95_0 : Type := (List (Int × Int × Int))
abbrev V95_0 : Type := Int × (List (Int × Int × Int))
def St95_0 (c0 : C95_0) (v0 : V95_0) : St := ⟨23, 1, [(0, .c (.l 202 s119 c0)), (3, .c (.ref 0)), (4, .c (.v (.int .i64 v0.1)))], [(0, .arr 120 s119 v0.2)]⟩
noncomputable def B95_0 {R : Type} (k : Nat) (X0 : V95_0 → Option R) (c0 : C95_0) (rec : V95_0 → Option R) (v0 : V95_0) : Option R := if (decide (v0.1 < (c0.length : Int))) = true then if 0 ≤ v0.1 then ix c0 v0.1.toNat fun x1 => (F138 k x1).bind fun p2 => if 0 ≤ v0.1 then if v0.1 < (v0.2.length : Int) then ix v0.2 v0.1.toNat fun y3 => rec ((IntKind.i64.wrap (v0.1 + 1)), (v0.2.set v0.1.toNat p2)) else none else none else none else X0 v0
noncomputable def L95_0 {R : Type} (k : Nat) (X0 : V95_0 → Option R) (c : C95_0) : Nat → V95_0 → Option R
  | 0, _ => none
  | n + 1, v => B95_0 k X0 c (L95_0 k X0 c n) v
theorem b95_0 {R : Type} (k n : Nat) (K : Ex → St → Option R) (c0 : C95_0) (v : V95_0) : loopRun [0, 3, 4] (run E (den E k) (lv 95) k (nthLoop Tryz.f95 0)) (n + 1) (St95_0 c0 v) K = B95_0 k (fun (v0 : V95_0) => K (.exit 0) ⟨23, 1, [(0, .c (.l 202 s119 c0)), (3, .c (.ref 0)), (4, .c (.v (.int .i64 v0.1))), (8, .c (.v (.int .i64 v0.1))), (9, .c (.l 202 s119 c0)), (10, .c (.v (.int .i64 (c0.length : Int)))), (11, .c (.v (.bool (decide (v0.1 < (c0.length : Int))))))], [(0, .arr 120 s119 v0.2)]⟩) c0 (fun v => loopRun [0, 3, 4] (run E (den E k) (lv 95) k (nthLoop Tryz.f95 0)) n (St95_0 c0 v) K) v := by kernel_rfl
theorem l95_0 {R : Type} (k : Nat) (K : Ex → St → Option R) (c0 : C95_0) : ∀ (n : Nat) (v : V95_0), loopRun [0, 3, 4] (run E (den E k) (lv 95) k (nthLoop Tryz.f95 0)) n (St95_0 c0 v) K = L95_0 k (fun (v0 : V95_0) => K (.exit 0) ⟨23, 1, [(0, .c (.l 202 s119 c0)), (3, .c (.ref 0)), (4, .c (.v (.int .i64 v0.1))), (8, .c (.v (.int .i64 v0.1))), (9, .c (.l 202 s119 c0)), (10, .c (.v (.int .i64 (c0.length : Int)))), (11, .c (.v (.bool (decide (v0.1 < (c0.length : Int))))))], [(0, .arr 120 s119 v0.2)]⟩) c0 n v := by
  intro n
  induction n with
  | zero => intro v; rfl
  | succ n ih =>
    intro v
    refine (b95_0 k n K c0 v).trans ?_
    rw [funext ih]
    kernel_rfl
theorem m95_0 (k : Nat) (a0 : List (Int × Int × Int)) : F95 (k + 1) a0 = if (a0.length : Int) = (a0.length : Int) then if 0 ≤ (a0.length : Int) then if 24 * (a0.length : Int).toNat ≤ 281474976710656 then loopRun (R := List (Int × Int × Int)) [0, 3, 4] (run E (den E k) (lv 95) k (nthLoop Tryz.f95 0)) k (St95_0 a0 (0, (List.replicate (a0.length : Int).toNat ((0, (0, 0)) : Int × Int × Int)))) (kontAt E (den E k) (lv 95) k (bodyOf Tryz.f95) 0 [] (finish E (rs 95) Tryz.f95 : Ex → St → Option (List (Int × Int × Int)))) else none else none else none := by kernel_rfl
theorem e95 (k : Nat) (a0 : List (Int × Int × Int)) : F95 (k + 1) a0 = if (a0.length : Int) = (a0.length : Int) then if 0 ≤ (a0.length : Int) then if 24 * (a0.length : Int).toNat ≤ 281474976710656 then L95_0 k (fun (v0 : Int × (List (Int × Int × Int))) => some v0.2) a0 k (0, (List.replicate (a0.length : Int).toNat ((0, (0, 0)) : Int × Int × Int))) else none else none else none := by
  rw [m95_0]
  simp only [l95_0]
  kernel_rfl
/-! loop.example/g00599/laws.toSky -/
noncomputable def F31 (k : Nat) (a0 : T25) : Option T25 := den E k 31 [.agg [.v (.int .i64 a0.1), .l 196 s83 a0.2.1, .l 198 s114 a0.2.2.1, .v (.int .i64 a0.2.2.2.1), .v (.int .i64 a0.2.2.2.2.1), .v (.int .i64 a0.2.2.2.2.2.1), .v (.int .i64 a0.2.2.2.2.2.2.1), .v (.int .i64 a0.2.2.2.2.2.2.2.1), .l 202 s119 a0.2.2.2.2.2.2.2.2.1, .v (.int .i64 a0.2.2.2.2.2.2.2.2.2)]]
theorem e31 (k : Nat) (a0 : T25) : F31 (k + 1) a0 = (F93 k a0.2.1).bind fun p1 => (F94 k a0.2.2.1).bind fun p2 => (F95 k a0.2.2.2.2.2.2.2.2.1).bind fun p3 => some (a0.1, p1, p2, a0.2.2.2.1, a0.2.2.2.2.1, a0.2.2.2.2.2.1, a0.2.2.2.2.2.2.1, a0.2.2.2.2.2.2.2.1, p3, a0.2.2.2.2.2.2.2.2.2) := by kernel_rfl
/-! loop.example/g00599/laws.toSpan -/
noncomputable def F160 (k : Nat) (a0 : Int × Int) : Option (Int × Int) := den E k 160 [.agg [.v (.int .i64 a0.1), .v (.int .i64 a0.2)]]
theorem e160 (k : Nat) (a0 : Int × Int) : F160 (k + 1) a0 = some a0 := by kernel_rfl
/-! loop.example/g00599/laws.toLink -/
noncomputable def F176 (k : Nat) (a0 : Int × Int) : Option (Int × Int) := den E k 176 [.agg [.v (.int .i64 a0.1), .v (.int .i64 a0.2)]]
theorem e176 (k : Nat) (a0 : Int × Int) : F176 (k + 1) a0 = some a0 := by kernel_rfl
/-! loop.example/g00599/laws.toLinkS -/
noncomputable def F161 (k : Nat) (a0 : List (Int × Int)) : Option (List (Int × Int)) := den E k 161 [.c (.l 230 s117 a0)]
abbrev C161_0 : Type := (List (Int × Int))
abbrev V161_0 : Type := Int × (List (Int × Int))
def St161_0 (c0 : C161_0) (v0 : V161_0) : St := ⟨23, 1, [(0, .c (.l 230 s117 c0)), (3, .c (.ref 0)), (4, .c (.v (.int .i64 v0.1)))], [(0, .arr 130 s117 v0.2)]⟩
noncomputable def B161_0 {R : Type} (k : Nat) (X0 : V161_0 → Option R) (c0 : C161_0) (rec : V161_0 → Option R) (v0 : V161_0) : Option R := if (decide (v0.1 < (c0.length : Int))) = true then if 0 ≤ v0.1 then ix c0 v0.1.toNat fun x1 => (F176 k x1).bind fun p2 => if 0 ≤ v0.1 then if v0.1 < (v0.2.length : Int) then ix v0.2 v0.1.toNat fun y3 => rec ((IntKind.i64.wrap (v0.1 + 1)), (v0.2.set v0.1.toNat p2)) else none else none else none else X0 v0
noncomputable def L161_0 {R : Type} (k : Nat) (X0 : V161_0 → Option R) (c : C161_0) : Nat → V161_0 → Option R
  | 0, _ => none
  | n + 1, v => B161_0 k X0 c (L161_0 k X0 c n) v
theorem b161_0 {R : Type} (k n : Nat) (K : Ex → St → Option R) (c0 : C161_0) (v : V161_0) : loopRun [0, 3, 4] (run E (den E k) (lv 161) k (nthLoop Tryz.f161 0)) (n + 1) (St161_0 c0 v) K = B161_0 k (fun (v0 : V161_0) => K (.exit 0) ⟨23, 1, [(0, .c (.l 230 s117 c0)), (3, .c (.ref 0)), (4, .c (.v (.int .i64 v0.1))), (8, .c (.v (.int .i64 v0.1))), (9, .c (.l 230 s117 c0)), (10, .c (.v (.int .i64 (c0.length : Int)))), (11, .c (.v (.bool (decide (v0.1 < (c0.length : Int))))))], [(0, .arr 130 s117 v0.2)]⟩) c0 (fun v => loopRun [0, 3, 4] (run E (den E k) (lv 161) k (nthLoop Tryz.f161 0)) n (St161_0 c0 v) K) v := by kernel_rfl
theorem l161_0 {R : Type} (k : Nat) (K : Ex → St → Option R) (c0 : C161_0) : ∀ (n : Nat) (v : V161_0), loopRun [0, 3, 4] (run E (den E k) (lv 161) k (nthLoop Tryz.f161 0)) n (St161_0 c0 v) K = L161_0 k (fun (v0 : V161_0) => K (.exit 0) ⟨23, 1, [(0, .c (.l 230 s117 c0)), (3, .c (.ref 0)), (4, .c (.v (.int .i64 v0.1))), (8, .c (.v (.int .i64 v0.1))), (9, .c (.l 230 s117 c0)), (10, .c (.v (.int .i64 (c0.length : Int)))), (11, .c (.v (.bool (decide (v0.1 < (c0.length : Int))))))], [(0, .arr 130 s117 v0.2)]⟩) c0 n v := by
  intro n
  induction n with
  | zero => intro v; rfl
  | succ n ih =>
    intro v
    refine (b161_0 k n K c0 v).trans ?_
    rw [funext ih]
    kernel_rfl
theorem m161_0 (k : Nat) (a0 : List (Int × Int)) : F161 (k + 1) a0 = if (a0.length : Int) = (a0.length : Int) then if 0 ≤ (a0.length : Int) then if 16 * (a0.length : Int).toNat ≤ 281474976710656 then loopRun (R := List (Int × Int)) [0, 3, 4] (run E (den E k) (lv 161) k (nthLoop Tryz.f161 0)) k (St161_0 a0 (0, (List.replicate (a0.length : Int).toNat ((0, 0) : Int × Int)))) (kontAt E (den E k) (lv 161) k (bodyOf Tryz.f161) 0 [] (finish E (rs 161) Tryz.f161 : Ex → St → Option (List (Int × Int)))) else none else none else none := by kernel_rfl
theorem e161 (k : Nat) (a0 : List (Int × Int)) : F161 (k + 1) a0 = if (a0.length : Int) = (a0.length : Int) then if 0 ≤ (a0.length : Int) then if 16 * (a0.length : Int).toNat ≤ 281474976710656 then L161_0 k (fun (v0 : Int × (List (Int × Int))) => some v0.2) a0 k (0, (List.replicate (a0.length : Int).toNat ((0, 0) : Int × Int))) else none else none else none := by
  rw [m161_0]
  simp only [l161_0]
  kernel_rfl
/-! loop.example/g00599/laws.toIntS -/
noncomputable def F34 (k : Nat) (a0 : List Int) : Option (List Int) := den E k 34 [.c (.l 3 (.i .i64) a0)]
abbrev C34_0 : Type := (List Int)
abbrev V34_0 : Type := Int × (List Int)
def St34_0 (c0 : C34_0) (v0 : V34_0) : St := ⟨22, 1, [(0, .c (.l 3 (.i .i64) c0)), (3, .c (.ref 0)), (4, .c (.v (.int .i64 v0.1)))], [(0, .arr 3 (.i .i64) v0.2)]⟩
noncomputable def B34_0 {R : Type} (k : Nat) (X0 : V34_0 → Option R) (c0 : C34_0) (rec : V34_0 → Option R) (v0 : V34_0) : Option R := if (decide (v0.1 < (c0.length : Int))) = true then if 0 ≤ v0.1 then ix c0 v0.1.toNat fun x1 => if 0 ≤ v0.1 then if v0.1 < (v0.2.length : Int) then ix v0.2 v0.1.toNat fun y2 => rec ((IntKind.i64.wrap (v0.1 + 1)), (v0.2.set v0.1.toNat x1)) else none else none else none else X0 v0
noncomputable def L34_0 {R : Type} (k : Nat) (X0 : V34_0 → Option R) (c : C34_0) : Nat → V34_0 → Option R
  | 0, _ => none
  | n + 1, v => B34_0 k X0 c (L34_0 k X0 c n) v
theorem b34_0 {R : Type} (k n : Nat) (K : Ex → St → Option R) (c0 : C34_0) (v : V34_0) : loopRun [0, 3, 4] (run E (den E k) (lv 34) k (nthLoop Tryz.f34 0)) (n + 1) (St34_0 c0 v) K = B34_0 k (fun (v0 : V34_0) => K (.exit 0) ⟨22, 1, [(0, .c (.l 3 (.i .i64) c0)), (3, .c (.ref 0)), (4, .c (.v (.int .i64 v0.1))), (8, .c (.v (.int .i64 v0.1))), (9, .c (.l 3 (.i .i64) c0)), (10, .c (.v (.int .i64 (c0.length : Int)))), (11, .c (.v (.bool (decide (v0.1 < (c0.length : Int))))))], [(0, .arr 3 (.i .i64) v0.2)]⟩) c0 (fun v => loopRun [0, 3, 4] (run E (den E k) (lv 34) k (nthLoop Tryz.f34 0)) n (St34_0 c0 v) K) v := by kernel_rfl
theorem l34_0 {R : Type} (k : Nat) (K : Ex → St → Option R) (c0 : C34_0) : ∀ (n : Nat) (v : V34_0), loopRun [0, 3, 4] (run E (den E k) (lv 34) k (nthLoop Tryz.f34 0)) n (St34_0 c0 v) K = L34_0 k (fun (v0 : V34_0) => K (.exit 0) ⟨22, 1, [(0, .c (.l 3 (.i .i64) c0)), (3, .c (.ref 0)), (4, .c (.v (.int .i64 v0.1))), (8, .c (.v (.int .i64 v0.1))), (9, .c (.l 3 (.i .i64) c0)), (10, .c (.v (.int .i64 (c0.length : Int)))), (11, .c (.v (.bool (decide (v0.1 < (c0.length : Int))))))], [(0, .arr 3 (.i .i64) v0.2)]⟩) c0 n v := by
  intro n
  induction n with
  | zero => intro v; rfl
  | succ n ih =>
    intro v
    refine (b34_0 k n K c0 v).trans ?_
    rw [funext ih]
    kernel_rfl
theorem m34_0 (k : Nat) (a0 : List Int) : F34 (k + 1) a0 = if (a0.length : Int) = (a0.length : Int) then if 0 ≤ (a0.length : Int) then if 8 * (a0.length : Int).toNat ≤ 281474976710656 then loopRun (R := List Int) [0, 3, 4] (run E (den E k) (lv 34) k (nthLoop Tryz.f34 0)) k (St34_0 a0 (0, (List.replicate (a0.length : Int).toNat (0 : Int)))) (kontAt E (den E k) (lv 34) k (bodyOf Tryz.f34) 0 [] (finish E (rs 34) Tryz.f34 : Ex → St → Option (List Int))) else none else none else none := by kernel_rfl
theorem e34 (k : Nat) (a0 : List Int) : F34 (k + 1) a0 = if (a0.length : Int) = (a0.length : Int) then if 0 ≤ (a0.length : Int) then if 8 * (a0.length : Int).toNat ≤ 281474976710656 then L34_0 k (fun (v0 : Int × (List Int)) => some v0.2) a0 k (0, (List.replicate (a0.length : Int).toNat (0 : Int))) else none else none else none := by
  rw [m34_0]
  simp only [l34_0]
  kernel_rfl
/-! loop.example/g00599/laws.toTable -/
noncomputable def F177 (k : Nat) (a0 : Int × (List Int) × List Int) : Option (Int × (List Int) × List Int) := den E k 177 [.agg [.v (.int .i64 a0.1), .l 3 (.i .i64) a0.2.1, .l 3 (.i .i64) a0.2.2]]
theorem e177 (k : Nat) (a0 : Int × (List Int) × List Int) : F177 (k + 1) a0 = (F34 k a0.2.1).bind fun p1 => (F34 k a0.2.2).bind fun p2 => some (a0.1, p1, p2) := by kernel_rfl
/-! loop.example/g00599/laws.toTableS -/
noncomputable def F162 (k : Nat) (a0 : List (Int × (List Int) × List Int)) : Option (List (Int × (List Int) × List Int)) := den E k 162 [.c (.l 228 s132 a0)]
abbrev C162_0 : Type := (List (Int × (List Int) × List Int))
abbrev V162_0 : Type := Int × (List (Int × (List Int) × List Int))
def St162_0 (c0 : C162_0) (v0 : V162_0) : St := ⟨23, 1, [(0, .c (.l 228 s132 c0)), (3, .c (.ref 0)), (4, .c (.v (.int .i64 v0.1)))], [(0, .arr 133 s132 v0.2)]⟩
noncomputable def B162_0 {R : Type} (k : Nat) (X0 : V162_0 → Option R) (c0 : C162_0) (rec : V162_0 → Option R) (v0 : V162_0) : Option R := if (decide (v0.1 < (c0.length : Int))) = true then if 0 ≤ v0.1 then ix c0 v0.1.toNat fun x1 => (F177 k x1).bind fun p2 => if 0 ≤ v0.1 then if v0.1 < (v0.2.length : Int) then ix v0.2 v0.1.toNat fun y3 => rec ((IntKind.i64.wrap (v0.1 + 1)), (v0.2.set v0.1.toNat p2)) else none else none else none else X0 v0
noncomputable def L162_0 {R : Type} (k : Nat) (X0 : V162_0 → Option R) (c : C162_0) : Nat → V162_0 → Option R
  | 0, _ => none
  | n + 1, v => B162_0 k X0 c (L162_0 k X0 c n) v
theorem b162_0 {R : Type} (k n : Nat) (K : Ex → St → Option R) (c0 : C162_0) (v : V162_0) : loopRun [0, 3, 4] (run E (den E k) (lv 162) k (nthLoop Tryz.f162 0)) (n + 1) (St162_0 c0 v) K = B162_0 k (fun (v0 : V162_0) => K (.exit 0) ⟨23, 1, [(0, .c (.l 228 s132 c0)), (3, .c (.ref 0)), (4, .c (.v (.int .i64 v0.1))), (8, .c (.v (.int .i64 v0.1))), (9, .c (.l 228 s132 c0)), (10, .c (.v (.int .i64 (c0.length : Int)))), (11, .c (.v (.bool (decide (v0.1 < (c0.length : Int))))))], [(0, .arr 133 s132 v0.2)]⟩) c0 (fun v => loopRun [0, 3, 4] (run E (den E k) (lv 162) k (nthLoop Tryz.f162 0)) n (St162_0 c0 v) K) v := by kernel_rfl
theorem l162_0 {R : Type} (k : Nat) (K : Ex → St → Option R) (c0 : C162_0) : ∀ (n : Nat) (v : V162_0), loopRun [0, 3, 4] (run E (den E k) (lv 162) k (nthLoop Tryz.f162 0)) n (St162_0 c0 v) K = L162_0 k (fun (v0 : V162_0) => K (.exit 0) ⟨23, 1, [(0, .c (.l 228 s132 c0)), (3, .c (.ref 0)), (4, .c (.v (.int .i64 v0.1))), (8, .c (.v (.int .i64 v0.1))), (9, .c (.l 228 s132 c0)), (10, .c (.v (.int .i64 (c0.length : Int)))), (11, .c (.v (.bool (decide (v0.1 < (c0.length : Int))))))], [(0, .arr 133 s132 v0.2)]⟩) c0 n v := by
  intro n
  induction n with
  | zero => intro v; rfl
  | succ n ih =>
    intro v
    refine (b162_0 k n K c0 v).trans ?_
    rw [funext ih]
    kernel_rfl
theorem m162_0 (k : Nat) (a0 : List (Int × (List Int) × List Int)) : F162 (k + 1) a0 = if (a0.length : Int) = (a0.length : Int) then if 0 ≤ (a0.length : Int) then if 56 * (a0.length : Int).toNat ≤ 281474976710656 then loopRun (R := List (Int × (List Int) × List Int)) [0, 3, 4] (run E (den E k) (lv 162) k (nthLoop Tryz.f162 0)) k (St162_0 a0 (0, (List.replicate (a0.length : Int).toNat ((0, [], []) : Int × (List Int) × List Int)))) (kontAt E (den E k) (lv 162) k (bodyOf Tryz.f162) 0 [] (finish E (rs 162) Tryz.f162 : Ex → St → Option (List (Int × (List Int) × List Int)))) else none else none else none := by kernel_rfl
theorem e162 (k : Nat) (a0 : List (Int × (List Int) × List Int)) : F162 (k + 1) a0 = if (a0.length : Int) = (a0.length : Int) then if 0 ≤ (a0.length : Int) then if 56 * (a0.length : Int).toNat ≤ 281474976710656 then L162_0 k (fun (v0 : Int × (List (Int × (List Int) × List Int))) => some v0.2) a0 k (0, (List.replicate (a0.length : Int).toNat ((0, [], []) : Int × (List Int) × List Int))) else none else none else none := by
  rw [m162_0]
  simp only [l162_0]
  kernel_rfl
/-! loop.example/g00599/laws.toPiece -/
noncomputable def F139 (k : Nat) (a0 : T193) : Option T193 := den E k 139 [.agg [.v (.int .i64 a0.1.1), .v (.int .i64 a0.1.2), .l 230 s117 a0.2.1, .l 228 s132 a0.2.2]]
theorem e139 (k : Nat) (a0 : T193) : F139 (k + 1) a0 = (F160 k a0.1).bind fun p1 => (F161 k a0.2.1).bind fun p2 => (F162 k a0.2.2).bind fun p3 => some (p1, p2, p3) := by kernel_rfl
end Go.Proofs.YtmkkoalilmgpcaaGreat.World
