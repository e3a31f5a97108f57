/- The equations of the functions that a law reaches, part 1. No condition. -/
import Derived.Test.YtkgjmgaccfmhpaaGreatV4
import Derived.Test.YtkgjmgaccfmhpaaGreatProg
import Derived.KernelRfl
namespace Go.Proofs.YtkgjmgaccfmhpaaGreat.World
open Go Go.V Go.Proofs
open Go.IntKind (i64 u64)
variable {R:Type}
set_option linter.unusedVariables false
set_option linter.unusedSimpArgs false
set_option maxRecDepth 100000
set_option maxHeartbeats 4000000
abbrev I6:=Int×Int×Int×Int×Int×Int
abbrev I4:=Int×Int×Int×Int
abbrev I3:=Int×Int×Int
abbrev I2:=Int×Int
abbrev ytb:=I2×(List I2)×List (Int×(List Int)×List Int)
abbrev ze:=I2×(List I2)×List (Int×(List Int)×List Int)
abbrev wnb:=Int×Int×Int×List ze
abbrev j2:=Int×Int×Int×List ze
abbrev jxb:=Int×(List I4)×(List I3)×Int×Int×Int×Int×Int×(List I3)×Int
abbrev jd2:=Int×(List I4)×(List I3)×Int×Int×Int×Int×Int×(List I3)×Int
abbrev xub:=jd2×j2×(List Int)×(List Int)×(List I6)×(List (List I6))×(List I4)×(List Int)×(List (Int×Int×List Int))×(List I4)×Int×Int×(List I6)×List I4
abbrev xm:=jd2×j2×(List Int)×(List Int)×(List I6)×(List (List I6))×(List I4)×(List Int)×(List (Int×Int×List Int))×(List I4)×Int×Int×(List I6)×List I4
abbrev sI4:Sh:=(.a [(.i .i64),(.i .i64),(.i .i64),(.i .i64)])
abbrev sI3:Sh:=(.a [(.i .i64),(.i .i64),(.i .i64)])
abbrev sI2:Sh:=(.a [(.i .i64),(.i .i64)])
abbrev yk:Sh:=(.a [(.i .i64),sI2])
abbrev ve4:Sh:=(.a [(.i .i64),(.l 273 sI4),(.l 275 sI3),(.i .i64),(.i .i64),(.i .i64),(.i .i64),(.i .i64),(.l 279 yk),(.i .i64)])
abbrev z7:Sh:=(.a [(.i .i64),(.l 3 (.i .i64)),(.l 3 (.i .i64))])
abbrev vj:Sh:=(.a [sI2,(.l 357 sI2),(.l 355 z7)])
abbrev y11:Sh:=(.a [(.i .i64),(.i .i64),(.i .i64),(.l 270 vj)])
abbrev xw2:Sh:=(.a [(.l 3 (.i .i64))])
abbrev sI6:Sh:=(.a [(.i .i64),(.i .i64),(.i .i64),(.i .i64),(.i .i64),(.i .i64)])
abbrev xl:Sh:=(.a [(.l 215 sI6)])
abbrev z6:Sh:=(.a [(.i .i64),(.i .i64),(.l 3 (.i .i64))])
abbrev jw:Sh:=(.a [ve4,y11,xw2,(.l 3 (.i .i64)),(.l 211 sI6),(.l 177 xl),(.l 79 sI4),(.l 3 (.i .i64)),(.l 180 z6),(.l 81 sI4),(.i .i64),(.i .i64),(.l 215 sI6),(.l 217 sI4)])
abbrev xd2:Sh:=(.a [(.i .i64),(.l 186 sI4),(.l 188 sI3),(.i .i64),(.i .i64),(.i .i64),(.i .i64),(.i .i64),(.l 193 yk),(.i .i64)])
abbrev we:Sh:=(.a [sI2,(.l 348 sI2),(.l 220 z7)])
abbrev j4:Sh:=(.a [(.i .i64),(.i .i64),(.i .i64),(.l 198 we)])
abbrev vg:Sh:=(.a [(.l 66 sI6)])
abbrev xi:Sh:=(.a [xd2,j4,xw2,(.l 3 (.i .i64)),(.l 159 sI6),(.l 140 vg),(.l 85 sI4),(.l 3 (.i .i64)),(.l 205 z6),(.l 86 sI4),(.i .i64),(.i .i64),(.l 66 sI6),(.l 146 sI4)])
noncomputable def ty:Nat→Option TyI
 | 3=>some ⟨.one,1,8,[(.int .i64 0)],(.i .i64)⟩
 | 4=>some ⟨.one,1,1,[(.bool false)],.b⟩
 | 22=>some ⟨.slc 273,1,24,[(.slice none 0 0)],(.l 273 sI4)⟩
 | 23=>some ⟨.slc 275,1,24,[(.slice none 0 0)],(.l 275 sI3)⟩
 | 24=>some ⟨.slc 279,1,24,[(.slice none 0 0)],(.l 279 yk)⟩
 | 26=>some ⟨.agg [(0,3),(1,22),(2,23),(3,3),(4,3),(5,3),(6,3),(7,3),(8,24),(9,3)],10,128,[(.int .i64 0),(.slice none 0 0),(.slice none 0 0),(.int .i64 0),(.int .i64 0),(.int .i64 0),(.int .i64 0),(.int .i64 0),(.slice none 0 0),(.int .i64 0)],ve4⟩
 | 27=>some ⟨.slc 270,1,24,[(.slice none 0 0)],(.l 270 vj)⟩
 | 29=>some ⟨.agg [(0,3),(1,3),(2,3),(3,27)],4,48,[(.int .i64 0),(.int .i64 0),(.int .i64 0),(.slice none 0 0)],y11⟩
 | 30=>some ⟨.slc 3,1,24,[(.slice none 0 0)],(.l 3 (.i .i64))⟩
 | 32=>some ⟨.agg [(0,30)],1,24,[(.slice none 0 0)],xw2⟩
 | 33=>some ⟨.slc 211,1,24,[(.slice none 0 0)],(.l 211 sI6)⟩
 | 34=>some ⟨.slc 177,1,24,[(.slice none 0 0)],(.l 177 xl)⟩
 | 35=>some ⟨.slc 79,1,24,[(.slice none 0 0)],(.l 79 sI4)⟩
 | 36=>some ⟨.slc 180,1,24,[(.slice none 0 0)],(.l 180 z6)⟩
 | 37=>some ⟨.slc 81,1,24,[(.slice none 0 0)],(.l 81 sI4)⟩
 | 38=>some ⟨.slc 215,1,24,[(.slice none 0 0)],(.l 215 sI6)⟩
 | 39=>some ⟨.slc 217,1,24,[(.slice none 0 0)],(.l 217 sI4)⟩
 | 41=>some ⟨.agg [(0,26),(10,29),(14,32),(15,30),(16,33),(17,34),(18,35),(19,30),(20,36),(21,37),(22,3),(23,3),(24,38),(25,39)],26,432,[(.int .i64 0),(.slice none 0 0),(.slice none 0 0),(.int .i64 0),(.int .i64 0),(.int .i64 0),(.int .i64 0),(.int .i64 0),(.slice none 0 0),(.int .i64 0),(.int .i64 0),(.int .i64 0),(.int .i64 0),(.slice none 0 0),(.slice none 0 0),(.slice none 0 0),(.slice none 0 0),(.slice none 0 0),(.slice none 0 0),(.slice none 0 0),(.slice none 0 0),(.slice none 0 0),(.int .i64 0),(.int .i64 0),(.slice none 0 0),(.slice none 0 0)],jw⟩
 | 44=>some ⟨.slc 186,1,24,[(.slice none 0 0)],(.l 186 sI4)⟩
 | 45=>some ⟨.slc 188,1,24,[(.slice none 0 0)],(.l 188 sI3)⟩
 | 46=>some ⟨.slc 193,1,24,[(.slice none 0 0)],(.l 193 yk)⟩
 | 48=>some ⟨.agg [(0,3),(1,44),(2,45),(3,3),(4,3),(5,3),(6,3),(7,3),(8,46),(9,3)],10,128,[(.int .i64 0),(.slice none 0 0),(.slice none 0 0),(.int .i64 0),(.int .i64 0),(.int .i64 0),(.int .i64 0),(.int .i64 0),(.slice none 0 0),(.int .i64 0)],xd2⟩
 | 49=>some ⟨.slc 198,1,24,[(.slice none 0 0)],(.l 198 we)⟩
 | 51=>some ⟨.agg [(0,3),(1,3),(2,3),(3,49)],4,48,[(.int .i64 0),(.int .i64 0),(.int .i64 0),(.slice none 0 0)],j4⟩
 | 52=>some ⟨.agg [(0,30)],1,24,[(.slice none 0 0)],xw2⟩
 | 53=>some ⟨.slc 159,1,24,[(.slice none 0 0)],(.l 159 sI6)⟩
 | 54=>some ⟨.slc 140,1,24,[(.slice none 0 0)],(.l 140 vg)⟩
 | 55=>some ⟨.slc 85,1,24,[(.slice none 0 0)],(.l 85 sI4)⟩
 | 56=>some ⟨.slc 205,1,24,[(.slice none 0 0)],(.l 205 z6)⟩
 | 57=>some ⟨.slc 86,1,24,[(.slice none 0 0)],(.l 86 sI4)⟩
 | 58=>some ⟨.slc 66,1,24,[(.slice none 0 0)],(.l 66 sI6)⟩
 | 59=>some ⟨.slc 146,1,24,[(.slice none 0 0)],(.l 146 sI4)⟩
 | 61=>some ⟨.agg [(0,48),(10,51),(14,52),(15,30),(16,53),(17,54),(18,55),(19,30),(20,56),(21,57),(22,3),(23,3),(24,58),(25,59)],26,432,[(.int .i64 0),(.slice none 0 0),(.slice none 0 0),(.int .i64 0),(.int .i64 0),(.int .i64 0),(.int .i64 0),(.int .i64 0),(.slice none 0 0),(.int .i64 0),(.int .i64 0),(.int .i64 0),(.int .i64 0),(.slice none 0 0),(.slice none 0 0),(.slice none 0 0),(.slice none 0 0),(.slice none 0 0),(.slice none 0 0),(.slice none 0 0),(.slice none 0 0),(.slice none 0 0),(.int .i64 0),(.int .i64 0),(.slice none 0 0),(.slice none 0 0)],xi⟩
 | 66=>some ⟨.agg [(0,3),(1,3),(2,3),(3,3),(4,3),(5,3)],6,48,[(.int .i64 0),(.int .i64 0),(.int .i64 0),(.int .i64 0),(.int .i64 0),(.int .i64 0)],sI6⟩
 | 79=>some ⟨.agg [(0,3),(1,3),(2,3),(3,3)],4,32,[(.int .i64 0),(.int .i64 0),(.int .i64 0),(.int .i64 0)],sI4⟩
 | 81=>some ⟨.agg [(0,3),(1,3),(2,3),(3,3)],4,32,[(.int .i64 0),(.int .i64 0),(.int .i64 0),(.int .i64 0)],sI4⟩
 | 85=>some ⟨.agg [(0,3),(1,3),(2,3),(3,3)],4,32,[(.int .i64 0),(.int .i64 0),(.int .i64 0),(.int .i64 0)],sI4⟩
 | 86=>some ⟨.agg [(0,3),(1,3),(2,3),(3,3)],4,32,[(.int .i64 0),(.int .i64 0),(.int .i64 0),(.int .i64 0)],sI4⟩
 | 140=>some ⟨.agg [(0,58)],1,24,[(.slice none 0 0)],vg⟩
 | 146=>some ⟨.agg [(0,3),(1,3),(2,3),(3,3)],4,32,[(.int .i64 0),(.int .i64 0),(.int .i64 0),(.int .i64 0)],sI4⟩
 | 159=>some ⟨.agg [(0,3),(1,3),(2,3),(3,3),(4,3),(5,3)],6,48,[(.int .i64 0),(.int .i64 0),(.int .i64 0),(.int .i64 0),(.int .i64 0),(.int .i64 0)],sI6⟩
 | 162=>some ⟨.slc 183,1,24,[(.slice none 0 0)],(.l 183 sI2)⟩
 | 177=>some ⟨.agg [(0,38)],1,24,[(.slice none 0 0)],xl⟩
 | 180=>some ⟨.agg [(0,3),(1,3),(2,30)],3,40,[(.int .i64 0),(.int .i64 0),(.slice none 0 0)],z6⟩
 | 183=>some ⟨.agg [(0,3),(1,3)],2,16,[(.int .i64 0),(.int .i64 0)],sI2⟩
 | 186=>some ⟨.agg [(0,3),(1,3),(2,3),(3,3)],4,32,[(.int .i64 0),(.int .i64 0),(.int .i64 0),(.int .i64 0)],sI4⟩
 | 188=>some ⟨.agg [(0,3),(1,3),(2,3)],3,24,[(.int .i64 0),(.int .i64 0),(.int .i64 0)],sI3⟩
 | 191=>some ⟨.agg [(0,3),(1,3)],2,16,[(.int .i64 0),(.int .i64 0)],sI2⟩
 | 193=>some ⟨.agg [(0,3),(1,191)],3,24,[(.int .i64 0),(.int .i64 0),(.int .i64 0)],yk⟩
 | 195=>some ⟨.slc 348,1,24,[(.slice none 0 0)],(.l 348 sI2)⟩
 | 196=>some ⟨.slc 220,1,24,[(.slice none 0 0)],(.l 220 z7)⟩
 | 198=>some ⟨.agg [(0,183),(2,195),(3,196)],4,64,[(.int .i64 0),(.int .i64 0),(.slice none 0 0),(.slice none 0 0)],we⟩
 | 205=>some ⟨.agg [(0,3),(1,3),(2,30)],3,40,[(.int .i64 0),(.int .i64 0),(.slice none 0 0)],z6⟩
 | 211=>some ⟨.agg [(0,3),(1,3),(2,3),(3,3),(4,3),(5,3)],6,48,[(.int .i64 0),(.int .i64 0),(.int .i64 0),(.int .i64 0),(.int .i64 0),(.int .i64 0)],sI6⟩
 | 215=>some ⟨.agg [(0,3),(1,3),(2,3),(3,3),(4,3),(5,3)],6,48,[(.int .i64 0),(.int .i64 0),(.int .i64 0),(.int .i64 0),(.int .i64 0),(.int .i64 0)],sI6⟩
 | 217=>some ⟨.agg [(0,3),(1,3),(2,3),(3,3)],4,32,[(.int .i64 0),(.int .i64 0),(.int .i64 0),(.int .i64 0)],sI4⟩
 | 220=>some ⟨.agg [(0,3),(1,30),(2,30)],3,56,[(.int .i64 0),(.slice none 0 0),(.slice none 0 0)],z7⟩
 | 266=>some ⟨.agg [(0,3),(1,3)],2,16,[(.int .i64 0),(.int .i64 0)],sI2⟩
 | 267=>some ⟨.slc 357,1,24,[(.slice none 0 0)],(.l 357 sI2)⟩
 | 268=>some ⟨.slc 355,1,24,[(.slice none 0 0)],(.l 355 z7)⟩
 | 270=>some ⟨.agg [(0,266),(2,267),(3,268)],4,64,[(.int .i64 0),(.int .i64 0),(.slice none 0 0),(.slice none 0 0)],vj⟩
 | 273=>some ⟨.agg [(0,3),(1,3),(2,3),(3,3)],4,32,[(.int .i64 0),(.int .i64 0),(.int .i64 0),(.int .i64 0)],sI4⟩
 | 275=>some ⟨.agg [(0,3),(1,3),(2,3)],3,24,[(.int .i64 0),(.int .i64 0),(.int .i64 0)],sI3⟩
 | 277=>some ⟨.agg [(0,3),(1,3)],2,16,[(.int .i64 0),(.int .i64 0)],sI2⟩
 | 279=>some ⟨.agg [(0,3),(1,277)],3,24,[(.int .i64 0),(.int .i64 0),(.int .i64 0)],yk⟩
 | 285=>some ⟨.one,1,8,[(.int .u64 0)],(.i .u64)⟩
 | 348=>some ⟨.agg [(0,3),(1,3)],2,16,[(.int .i64 0),(.int .i64 0)],sI2⟩
 | 355=>some ⟨.agg [(0,3),(1,30),(2,30)],3,56,[(.int .i64 0),(.slice none 0 0),(.slice none 0 0)],z7⟩
 | 357=>some ⟨.agg [(0,3),(1,3)],2,16,[(.int .i64 0),(.int .i64 0)],sI2⟩
 | 359=>some ⟨.slc 4,1,24,[(.slice none 0 0)],(.l 4 .b)⟩
 | 368=>some ⟨.slc 30,1,24,[(.slice none 0 0)],(.l 30 (.l 3 (.i .i64)))⟩
 | _=>none
noncomputable def fn0:Nat→Option Func
 | 5=>some Tryz.f5
 | 10=>some Tryz.f10
 | 12=>some Tryz.f12
 | 14=>some Tryz.f14
 | 15=>some Tryz.f15
 | 16=>some Tryz.f16
 | 17=>some Tryz.f17
 | 18=>some Tryz.f18
 | 19=>some Tryz.f19
 | 20=>some Tryz.f20
 | 21=>some Tryz.f21
 | 22=>some Tryz.f22
 | 23=>some Tryz.f23
 | 38=>some Tryz.f38
 | 39=>some Tryz.f39
 | 40=>some Tryz.f40
 | 41=>some Tryz.f41
 | 42=>some Tryz.f42
 | 43=>some Tryz.f43
 | 44=>some Tryz.f44
 | 45=>some Tryz.f45
 | 46=>some Tryz.f46
 | 47=>some Tryz.f47
 | 48=>some Tryz.f48
 | 53=>some Tryz.f53
 | 55=>some Tryz.f55
 | 60=>some Tryz.f60
 | 61=>some Tryz.f61
 | 62=>some Tryz.f62
 | 63=>some Tryz.f63
 | 64=>some Tryz.f64
 | 65=>some Tryz.f65
 | 66=>some Tryz.f66
 | 67=>some Tryz.f67
 | 68=>some Tryz.f68
 | 69=>some Tryz.f69
 | 70=>some Tryz.f70
 | 74=>some Tryz.f74
 | 76=>some Tryz.f76
 | 81=>some Tryz.f81
 | 82=>some Tryz.f82
 | 83=>some Tryz.f83
 | 84=>some Tryz.f84
 | 85=>some Tryz.f85
 | 86=>some Tryz.f86
 | 87=>some Tryz.f87
 | 88=>some Tryz.f88
 | 89=>some Tryz.f89
 | 90=>some Tryz.f90
 | 91=>some Tryz.f91
 | 92=>some Tryz.f92
 | 93=>some Tryz.f93
 | 94=>some Tryz.f94
 | 95=>some Tryz.f95
 | 96=>some Tryz.f96
 | 97=>some Tryz.f97
 | 98=>some Tryz.f98
 | 99=>some Tryz.f99
 | 100=>some Tryz.f100
 | 101=>some Tryz.f101
 | _=>none
noncomputable def fn1:Nat→Option Func
 | 102=>some Tryz.f102
 | 103=>some Tryz.f103
 | 104=>some Tryz.f104
 | 105=>some Tryz.f105
 | 106=>some Tryz.f106
 | 107=>some Tryz.f107
 | 108=>some Tryz.f108
 | 109=>some Tryz.f109
 | 113=>some Tryz.f113
 | 114=>some Tryz.f114
 | 119=>some Tryz.f119
 | 134=>some Tryz.f134
 | 135=>some Tryz.f135
 | 140=>some Tryz.f140
 | 141=>some Tryz.f141
 | 142=>some Tryz.f142
 | 143=>some Tryz.f143
 | 144=>some Tryz.f144
 | 145=>some Tryz.f145
 | 146=>some Tryz.f146
 | 152=>some Tryz.f152
 | 153=>some Tryz.f153
 | 155=>some Tryz.f155
 | 160=>some Tryz.f160
 | 161=>some Tryz.f161
 | 162=>some Tryz.f162
 | 163=>some Tryz.f163
 | 164=>some Tryz.f164
 | 165=>some Tryz.f165
 | 166=>some Tryz.f166
 | 167=>some Tryz.f167
 | 168=>some Tryz.f168
 | 170=>some Tryz.f170
 | 172=>some Tryz.f172
 | 176=>some Tryz.f176
 | 177=>some Tryz.f177
 | 179=>some Tryz.f179
 | 187=>some Tryz.f187
 | 188=>some Tryz.f188
 | 189=>some Tryz.f189
 | 190=>some Tryz.f190
 | 191=>some Tryz.f191
 | 192=>some Tryz.f192
 | 193=>some Tryz.f193
 | 194=>some Tryz.f194
 | 195=>some Tryz.f195
 | 196=>some Tryz.f196
 | 197=>some Tryz.f197
 | 198=>some Tryz.f198
 | 199=>some Tryz.f199
 | 200=>some Tryz.f200
 | 201=>some Tryz.f201
 | 202=>some Tryz.f202
 | 203=>some Tryz.f203
 | 204=>some Tryz.f204
 | 205=>some Tryz.f205
 | 206=>some Tryz.f206
 | 207=>some Tryz.f207
 | 208=>some Tryz.f208
 | 209=>some Tryz.f209
 | _=>none
noncomputable def fn2:Nat→Option Func
 | 210=>some Tryz.f210
 | 219=>some Tryz.f219
 | 220=>some Tryz.f220
 | 221=>some Tryz.f221
 | 224=>some Tryz.f224
 | 236=>some Tryz.f236
 | 237=>some Tryz.f237
 | 246=>some Tryz.f246
 | 249=>some Tryz.f249
 | 250=>some Tryz.f250
 | 251=>some Tryz.f251
 | 252=>some Tryz.f252
 | 253=>some Tryz.f253
 | 254=>some Tryz.f254
 | 257=>some Tryz.f257
 | 262=>some Tryz.f262
 | 263=>some Tryz.f263
 | 264=>some Tryz.f264
 | 265=>some Tryz.f265
 | 266=>some Tryz.f266
 | 267=>some Tryz.f267
 | 268=>some Tryz.f268
 | 269=>some Tryz.f269
 | 270=>some Tryz.f270
 | 271=>some Tryz.f271
 | 272=>some Tryz.f272
 | 273=>some Tryz.f273
 | 274=>some Tryz.f274
 | 275=>some Tryz.f275
 | 276=>some Tryz.f276
 | 277=>some Tryz.f277
 | 278=>some Tryz.f278
 | 279=>some Tryz.f279
 | 280=>some Tryz.f280
 | 281=>some Tryz.f281
 | 282=>some Tryz.f282
 | 283=>some Tryz.f283
 | 284=>some Tryz.f284
 | 285=>some Tryz.f285
 | 286=>some Tryz.f286
 | 287=>some Tryz.f287
 | 288=>some Tryz.f288
 | 289=>some Tryz.f289
 | 294=>some Tryz.f294
 | 300=>some Tryz.f300
 | 301=>some Tryz.f301
 | 302=>some Tryz.f302
 | 309=>some Tryz.f309
 | 310=>some Tryz.f310
 | 314=>some Tryz.f314
 | 315=>some Tryz.f315
 | 316=>some Tryz.f316
 | 317=>some Tryz.f317
 | 320=>some Tryz.f320
 | 332=>some Tryz.f332
 | 333=>some Tryz.f333
 | 334=>some Tryz.f334
 | 335=>some Tryz.f335
 | 336=>some Tryz.f336
 | 337=>some Tryz.f337
 | _=>none
noncomputable def fn3:Nat→Option Func
 | 338=>some Tryz.f338
 | 339=>some Tryz.f339
 | 340=>some Tryz.f340
 | 341=>some Tryz.f341
 | 342=>some Tryz.f342
 | 343=>some Tryz.f343
 | 344=>some Tryz.f344
 | 345=>some Tryz.f345
 | 346=>some Tryz.f346
 | 347=>some Tryz.f347
 | 348=>some Tryz.f348
 | 349=>some Tryz.f349
 | 350=>some Tryz.f350
 | 351=>some Tryz.f351
 | 352=>some Tryz.f352
 | 353=>some Tryz.f353
 | 354=>some Tryz.f354
 | 355=>some Tryz.f355
 | 356=>some Tryz.f356
 | 357=>some Tryz.f357
 | 362=>some Tryz.f362
 | 363=>some Tryz.f363
 | 364=>some Tryz.f364
 | 365=>some Tryz.f365
 | 366=>some Tryz.f366
 | 371=>some Tryz.f371
 | 373=>some Tryz.f373
 | 374=>some Tryz.f374
 | 375=>some Tryz.f375
 | 381=>some Tryz.f381
 | 382=>some Tryz.f382
 | 383=>some Tryz.f383
 | 384=>some Tryz.f384
 | 385=>some Tryz.f385
 | 387=>some Tryz.f387
 | 388=>some Tryz.f388
 | 389=>some Tryz.f389
 | 390=>some Tryz.f390
 | 391=>some Tryz.f391
 | 392=>some Tryz.f392
 | 394=>some Tryz.f394
 | 395=>some Tryz.f395
 | 396=>some Tryz.f396
 | 401=>some Tryz.f401
 | 402=>some Tryz.f402
 | 403=>some Tryz.f403
 | 404=>some Tryz.f404
 | 405=>some Tryz.f405
 | 406=>some Tryz.f406
 | 407=>some Tryz.f407
 | 408=>some Tryz.f408
 | 410=>some Tryz.f410
 | 411=>some Tryz.f411
 | 412=>some Tryz.f412
 | 415=>some Tryz.f415
 | 416=>some Tryz.f416
 | _=>none
noncomputable def fn (f:Nat):Option Func:=(match fn0 f with
 | some F=>some F
 | none=>(match fn1 f with
 | some F=>some F
 | none=>(match fn2 f with
 | some F=>some F
 | none=>fn3 f)))
def lv:Nat→List Nat
 | 15=>[0,1,2,4,7,8,9]
 | 16=>[0,1,2,4,7,27,28,29]
 | 18=>[0,1,3,4]
 | 19=>[0,1,3,13,14]
 | 20=>[0,0,1,5]
 | 21=>[14]
 | 22=>[1,0,1,5]
 | 23=>[0,0,1,5]
 | 43=>[0,0,1,5]
 | 45=>[0,0,1,5]
 | 63=>[0,0,3,4]
 | 64=>[0,0,3,4]
 | 65=>[0,0,3,4]
 | 66=>[0,0,3,4]
 | 67=>[0,0,3,4]
 | 68=>[0,0,3,4]
 | 69=>[0,0,3,4]
 | 70=>[0,0,3,4]
 | 84=>[0,0,1,5]
 | 85=>[0,0,1,5]
 | 86=>[0,0,1,5]
 | 87=>[0,0,1,5]
 | 88=>[0,0,1,5]
 | 89=>[0,0,1,5]
 | 90=>[0,0,1,5]
 | 92=>[0,1,3,4,5]
 | 96=>[0,3,4,10,11,12]
 | 100=>[3]
 | 101=>[1]
 | 102=>[1]
 | 103=>[1,0,1,5]
 | 104=>[1,0,1,5]
 | 105=>[1,0,1,5]
 | 106=>[1,0,1,5]
 | 107=>[1,0,1,5]
 | 108=>[1,0,1,5]
 | 109=>[1,0,1,5]
 | 113=>[0,0,1,5]
 | 143=>[0,0,1,5]
 | 153=>[0,1,2,4,9,10]
 | 160=>[0,0,3,4]
 | 161=>[0,0,3,4]
 | 162=>[0,0,3,4]
 | 163=>[0,0,3,4]
 | 185=>[1]
 | 187=>[0,0,1,5]
 | 188=>[0,0,1,5]
 | 189=>[0,0,1,5]
 | 190=>[0,0,1,5]
 | 196=>[0,0,1,2,7]
 | 199=>[0,4,15,16]
 | 201=>[0,1,2,3,4,9]
 | 202=>[0,1,2,9,10,11]
 | 204=>[0,4,55,56,57]
 | 206=>[0,1,2,3,4,9]
 | 207=>[1,0,1,5]
 | 208=>[1,0,1,5]
 | 209=>[1,0,1,5]
 | 210=>[1,0,1,5]
 | 221=>[0,1,4,9,11,12]
 | 268=>[0,0,1,5]
 | 269=>[0,1,2,5]
 | 272=>[0,2,3,4,9,10,11,12,13]
 | 273=>[0,0,1,2,3,9,10]
 | 280=>[0,2,3,4,9,30,31,32]
 | 281=>[0,0,1,2,9,16,17]
 | 284=>[1,0,1,5]
 | 285=>[1,0,1,5]
 | 300=>[0,1,2,7,8]
 | 310=>[0,0,1,5]
 | 316=>[0,0,3,4]
 | 317=>[0,0,3,4]
 | 320=>[0,2,4,9,10,11]
 | 334=>[0,0,1,5]
 | 335=>[0,0,1,5]
 | 336=>[0,1,4,9,10,11]
 | 338=>[0,1,2,3,7,8]
 | 339=>[0,0,1,5,6,7,8]
 | 340=>[0,0,1,2,3,9]
 | 341=>[0,2,3,9,10]
 | 343=>[0,1,4,9,18,19,20]
 | 344=>[0,0,1,7,8]
 | 345=>[0,1,2,7,12,13,14]
 | 346=>[0,0,1,7,8]
 | 348=>[0,1,5,9,10,11]
 | 349=>[1]
 | 352=>[0,0,1,2,3,11,12,13]
 | 375=>[0,3,5,6,8,9,10]
 | 384=>[0,0,3,4,5,6,7,8]
 | 385=>[0,0,3,6,7,8,9,13,14,15,27,28,35,36,37,73,74]
 | 387=>[1,0,1,2,6,7,8]
 | 401=>[0,0,3,4]
 | 402=>[0,0,1,2,7,8]
 | 403=>[1,0,1,2,3,8,9,2199023284223]
 | 404=>[1,0,1,2,3,4,10,11,13,14,15,17,18,19,20,21,22,2199023304703,2199023353855]
 | 405=>[0,0,1,7,8]
 | 415=>[1,0,2,4,10,11]
 | 416=>[1,0,1,2,3,10,2199023271935]
 | _=>[]
def rs:Nat→RSh
 | 5=>⟨false,[.b],0⟩
 | 10=>⟨false,[(.i .i64)],0⟩
 | 12=>⟨true,[xi],0⟩
 | 14=>⟨false,[.b],0⟩
 | 15=>⟨false,[sI6,(.i .i64),.b],0⟩
 | 16=>⟨false,[sI6,(.i .i64),.b],0⟩
 | 17=>⟨false,[.b],0⟩
 | 18=>⟨true,[(.l 146 sI4)],0⟩
 | 19=>⟨true,[(.l 146 sI4)],0⟩
 | 20=>⟨false,[.b],0⟩
 | 21=>⟨true,[(.i .i64),(.l 186 sI4),(.l 188 sI3),(.l 193 yk),(.l 198 we),(.l 3 (.i .i64)),(.l 3 (.i .i64)),(.l 159 sI6),(.l 140 vg),(.l 85 sI4),(.l 3 (.i .i64)),(.l 205 z6),(.l 86 sI4),(.l 66 sI6),(.l 146 sI4)],14⟩
 | 22=>⟨true,[(.i .i64),(.l 146 sI4)],1⟩
 | 23=>⟨false,[(.i .i64)],0⟩
 | 38=>⟨false,[(.i .i64)],0⟩
 | 39=>⟨false,[(.i .i64)],0⟩
 | 40=>⟨false,[(.i .i64)],0⟩
 | 41=>⟨false,[(.i .i64)],0⟩
 | 42=>⟨false,[(.i .i64)],0⟩
 | 43=>⟨false,[(.i .i64)],0⟩
 | 44=>⟨false,[(.i .i64)],0⟩
 | 45=>⟨false,[(.i .i64)],0⟩
 | 46=>⟨false,[(.i .i64)],0⟩
 | 47=>⟨false,[(.i .i64)],0⟩
 | 48=>⟨false,[(.i .i64)],0⟩
 | 53=>⟨false,[(.i .i64)],0⟩
 | 55=>⟨false,[.b],0⟩
 | 60=>⟨true,[xd2],0⟩
 | 61=>⟨true,[j4],0⟩
 | 62=>⟨true,[xw2],0⟩
 | 63=>⟨true,[(.l 3 (.i .i64))],0⟩
 | 64=>⟨true,[(.l 159 sI6)],0⟩
 | 65=>⟨true,[(.l 140 vg)],0⟩
 | 66=>⟨true,[(.l 85 sI4)],0⟩
 | 67=>⟨true,[(.l 205 z6)],0⟩
 | 68=>⟨true,[(.l 86 sI4)],0⟩
 | 69=>⟨true,[(.l 66 sI6)],0⟩
 | 70=>⟨true,[(.l 146 sI4)],0⟩
 | 74=>⟨false,[(.i .i64)],0⟩
 | 76=>⟨false,[.b],0⟩
 | 81=>⟨false,[.b],0⟩
 | 82=>⟨false,[.b],0⟩
 | 83=>⟨false,[.b],0⟩
 | 84=>⟨false,[.b],0⟩
 | 85=>⟨false,[.b],0⟩
 | 86=>⟨false,[.b],0⟩
 | 87=>⟨false,[.b],0⟩
 | 88=>⟨false,[.b],0⟩
 | 89=>⟨false,[.b],0⟩
 | 90=>⟨false,[.b],0⟩
 | 91=>⟨false,[.b],0⟩
 | 92=>⟨true,[(.l 3 (.i .i64))],0⟩
 | 93=>⟨false,[(.i .i64)],0⟩
 | 94=>⟨false,[.b],0⟩
 | 95=>⟨false,[.b],0⟩
 | 96=>⟨true,[(.l 3 (.i .i64))],0⟩
 | 97=>⟨false,[(.i .i64)],0⟩
 | 98=>⟨false,[(.i .i64)],0⟩
 | 99=>⟨false,[.b],0⟩
 | 100=>⟨true,[(.i .i64),(.l 186 sI4),(.l 188 sI3),(.l 193 yk)],3⟩
 | 101=>⟨true,[(.i .i64),(.l 198 we)],1⟩
 | 102=>⟨true,[(.i .i64),(.l 3 (.i .i64))],1⟩
 | 103=>⟨true,[(.i .i64),(.l 3 (.i .i64))],1⟩
 | 104=>⟨true,[(.i .i64),(.l 159 sI6)],1⟩
 | 105=>⟨true,[(.i .i64),(.l 140 vg)],1⟩
 | 106=>⟨true,[(.i .i64),(.l 85 sI4)],1⟩
 | 107=>⟨true,[(.i .i64),(.l 205 z6)],1⟩
 | 108=>⟨true,[(.i .i64),(.l 86 sI4)],1⟩
 | 109=>⟨true,[(.i .i64),(.l 66 sI6)],1⟩
 | 113=>⟨false,[.b],0⟩
 | 114=>⟨true,[(.l 183 sI2)],0⟩
 | 119=>⟨true,[(.l 183 sI2)],0⟩
 | 134=>⟨false,[sI4],0⟩
 | 135=>⟨false,[sI4],0⟩
 | 140=>⟨false,[(.i .i64)],0⟩
 | 141=>⟨false,[(.i .i64)],0⟩
 | 142=>⟨false,[(.i .i64)],0⟩
 | 143=>⟨false,[(.i .i64)],0⟩
 | 144=>⟨false,[(.i .i64)],0⟩
 | 145=>⟨false,[(.i .i64)],0⟩
 | 146=>⟨false,[.b],0⟩
 | 152=>⟨false,[.b],0⟩
 | 153=>⟨false,[(.i .i64)],0⟩
 | 155=>⟨false,[.b],0⟩
 | 160=>⟨true,[(.l 186 sI4)],0⟩
 | 161=>⟨true,[(.l 188 sI3)],0⟩
 | 162=>⟨true,[(.l 193 yk)],0⟩
 | 163=>⟨true,[(.l 198 we)],0⟩
 | 164=>⟨false,[sI6],0⟩
 | 165=>⟨true,[vg],0⟩
 | 166=>⟨true,[z6],0⟩
 | 167=>⟨false,[sI6],0⟩
 | 168=>⟨false,[sI4],0⟩
 | 170=>⟨false,[.b],0⟩
 | 172=>⟨false,[.b],0⟩
 | 176=>⟨false,[.b],0⟩
 | 177=>⟨false,[(.i .i64)],0⟩
 | 179=>⟨false,[.b],0⟩
 | 185=>⟨true,[(.l 3 (.i .i64))],1⟩
 | 187=>⟨false,[.b],0⟩
 | 188=>⟨false,[.b],0⟩
 | 189=>⟨false,[.b],0⟩
 | 190=>⟨false,[.b],0⟩
 | 191=>⟨false,[.b],0⟩
 | 192=>⟨false,[.b],0⟩
 | 193=>⟨false,[.b],0⟩
 | 194=>⟨false,[.b],0⟩
 | 195=>⟨false,[.b],0⟩
 | 196=>⟨false,[.b],0⟩
 | 197=>⟨false,[.b],0⟩
 | 198=>⟨false,[(.i .i64)],0⟩
 | 199=>⟨false,[(.i .i64)],0⟩
 | 200=>⟨true,[(.l 3 (.i .i64))],0⟩
 | 201=>⟨false,[.b],0⟩
 | 202=>⟨false,[.b],0⟩
 | 203=>⟨false,[.b],0⟩
 | 204=>⟨false,[(.i .i64)],0⟩
 | 205=>⟨true,[(.l 3 (.i .i64))],0⟩
 | 206=>⟨false,[.b],0⟩
 | 207=>⟨true,[(.i .i64),(.l 186 sI4)],1⟩
 | 208=>⟨true,[(.i .i64),(.l 188 sI3)],1⟩
 | 209=>⟨true,[(.i .i64),(.l 193 yk)],1⟩
 | 210=>⟨true,[(.i .i64),(.l 198 we)],1⟩
 | 219=>⟨false,[(.i .i64)],0⟩
 | 220=>⟨false,[.b],0⟩
 | 221=>⟨true,[(.l 183 sI2)],0⟩
 | 224=>⟨true,[(.l 3 (.i .i64))],0⟩
 | 236=>⟨false,[.b],0⟩
 | 237=>⟨true,[(.l 183 sI2)],0⟩
 | 246=>⟨false,[(.i .i64)],0⟩
 | 249=>⟨false,[.b],0⟩
 | 250=>⟨false,[sI4],0⟩
 | 251=>⟨false,[sI3],0⟩
 | 252=>⟨false,[yk],0⟩
 | 253=>⟨true,[we],0⟩
 | 254=>⟨false,[.b],0⟩
 | 257=>⟨false,[(.i .i64)],0⟩
 | 262=>⟨false,[.b],0⟩
 | 263=>⟨false,[.b],0⟩
 | 264=>⟨false,[.b],0⟩
 | 265=>⟨false,[.b],0⟩
 | 266=>⟨false,[.b],0⟩
 | 267=>⟨false,[(.i .i64)],0⟩
 | 268=>⟨false,[.b],0⟩
 | 269=>⟨false,[(.i .i64)],0⟩
 | 270=>⟨true,[z7,.b],0⟩
 | 271=>⟨false,[.b],0⟩
 | 272=>⟨true,[(.l 3 (.i .i64))],0⟩
 | 273=>⟨true,[(.l 3 (.i .i64))],0⟩
 | 274=>⟨false,[.b],0⟩
 | 275=>⟨false,[(.i .i64)],0⟩
 | 276=>⟨false,[.b],0⟩
 | 277=>⟨false,[.b],0⟩
 | 278=>⟨false,[(.i .i64)],0⟩
 | 279=>⟨true,[z7,.b],0⟩
 | 280=>⟨true,[(.l 3 (.i .i64))],0⟩
 | 281=>⟨true,[(.l 3 (.i .i64))],0⟩
 | 282=>⟨false,[.b],0⟩
 | 283=>⟨false,[.b],0⟩
 | 284=>⟨true,[(.i .i64),(.l 348 sI2)],1⟩
 | 285=>⟨true,[(.i .i64),(.l 220 z7)],1⟩
 | 286=>⟨true,[z7],0⟩
 | 287=>⟨false,[(.i .i64),(.i .i64)],0⟩
 | 288=>⟨false,[(.i .i64)],0⟩
 | 289=>⟨true,[(.l 183 sI2)],0⟩
 | 294=>⟨true,[z7],0⟩
 | 300=>⟨true,[(.l 183 sI2)],0⟩
 | 301=>⟨false,[.b],0⟩
 | 302=>⟨false,[(.i .i64)],0⟩
 | 309=>⟨false,[(.i .i64)],0⟩
 | 310=>⟨false,[(.i .i64)],0⟩
 | 314=>⟨false,[sI2],0⟩
 | 315=>⟨false,[sI2],0⟩
 | 316=>⟨true,[(.l 348 sI2)],0⟩
 | 317=>⟨true,[(.l 220 z7)],0⟩
 | 320=>⟨true,[(.l 3 (.i .i64))],0⟩
 | 332=>⟨false,[.b],0⟩
 | 333=>⟨false,[.b],0⟩
 | 334=>⟨false,[.b],0⟩
 | 335=>⟨false,[.b],0⟩
 | 336=>⟨false,[.b],0⟩
 | 337=>⟨false,[(.i .i64)],0⟩
 | 338=>⟨true,[(.l 3 (.i .i64))],0⟩
 | 339=>⟨true,[(.l 3 (.i .i64))],0⟩
 | 340=>⟨false,[.b],0⟩
 | 341=>⟨false,[.b],0⟩
 | 342=>⟨false,[(.i .i64),.b],0⟩
 | 343=>⟨false,[.b],0⟩
 | 344=>⟨false,[(.i .i64)],0⟩
 | 345=>⟨true,[(.l 3 (.i .i64))],0⟩
 | 346=>⟨false,[(.i .i64)],0⟩
 | 347=>⟨false,[.b],0⟩
 | 348=>⟨true,[(.l 3 (.i .i64))],0⟩
 | 349=>⟨true,[(.l 3 (.i .i64))],1⟩
 | 350=>⟨false,[(.i .i64)],0⟩
 | 351=>⟨false,[(.i .i64)],0⟩
 | 352=>⟨false,[.b],0⟩
 | 353=>⟨false,[.b],0⟩
 | 354=>⟨false,[sI2],0⟩
 | 355=>⟨false,[(.i .i64)],0⟩
 | 356=>⟨false,[(.i .i64)],0⟩
 | 357=>⟨false,[(.i .i64)],0⟩
 | 362=>⟨false,[.b],0⟩
 | 363=>⟨false,[sI2],0⟩
 | 364=>⟨false,[(.i .i64)],0⟩
 | 365=>⟨false,[(.i .i64)],0⟩
 | 366=>⟨false,[(.i .i64)],0⟩
 | 371=>⟨false,[(.i .i64)],0⟩
 | 373=>⟨false,[sI2],0⟩
 | 374=>⟨true,[z7],0⟩
 | 375=>⟨true,[(.l 4 .b)],0⟩
 | 381=>⟨false,[.b],0⟩
 | 382=>⟨false,[.b],0⟩
 | 383=>⟨false,[.b],0⟩
 | 384=>⟨false,[.b],0⟩
 | 385=>⟨false,[.b],0⟩
 | 386=>⟨true,[(.l 3 (.i .i64))],0⟩
 | 387=>⟨true,[(.l 3 (.i .i64))],1⟩
 | 388=>⟨false,[.b],0⟩
 | 389=>⟨false,[.b],0⟩
 | 390=>⟨false,[sI2],0⟩
 | 391=>⟨false,[(.i .i64)],0⟩
 | 392=>⟨false,[(.i .i64)],0⟩
 | 394=>⟨false,[sI2],0⟩
 | 395=>⟨false,[(.i .i64)],0⟩
 | 396=>⟨false,[(.i .i64)],0⟩
 | 401=>⟨false,[(.i .i64)],0⟩
 | 402=>⟨true,[(.l 3 (.i .i64))],0⟩
 | 403=>⟨true,[(.l 3 (.i .i64))],1⟩
 | 404=>⟨true,[(.l 3 (.i .i64))],1⟩
 | 405=>⟨false,[(.i .i64)],0⟩
 | 406=>⟨false,[sI2],0⟩
 | 407=>⟨false,[(.i .i64)],0⟩
 | 408=>⟨false,[(.i .i64)],0⟩
 | 410=>⟨false,[sI2],0⟩
 | 411=>⟨false,[(.i .i64)],0⟩
 | 412=>⟨false,[(.i .i64)],0⟩
 | 415=>⟨true,[(.l 3 (.i .i64))],1⟩
 | 416=>⟨true,[(.l 3 (.i .i64))],1⟩
 | _=>⟨false,[],0⟩
def tk:Nat→List (Option Sh)
 | 21=>[some xi]
 | 22=>[some (.l 146 sI4)]
 | 100=>[some xd2]
 | 101=>[some j4]
 | 102=>[some xw2]
 | 103=>[some (.l 3 (.i .i64))]
 | 104=>[some (.l 159 sI6)]
 | 105=>[some (.l 140 vg)]
 | 106=>[some (.l 85 sI4)]
 | 107=>[some (.l 205 z6)]
 | 108=>[some (.l 86 sI4)]
 | 109=>[some (.l 66 sI6)]
 | 185=>[some (.l 3 (.i .i64))]
 | 207=>[some (.l 186 sI4)]
 | 208=>[some (.l 188 sI3)]
 | 209=>[some (.l 193 yk)]
 | 210=>[some (.l 198 we)]
 | 284=>[some (.l 348 sI2)]
 | 285=>[some (.l 220 z7)]
 | 289=>[some (.l 183 sI2)]
 | 349=>[some (.l 3 (.i .i64))]
 | 386=>[some (.l 3 (.i .i64))]
 | 387=>[some (.l 3 (.i .i64))]
 | 403=>[some (.l 3 (.i .i64))]
 | 404=>[some (.l 3 (.i .i64))]
 | 415=>[some (.l 3 (.i .i64))]
 | 416=>[some (.l 3 (.i .i64))]
 | _=>[]
def ext:(f:Nat)→Option (List AV→Option (RTy (rs f)))
 | 185=>some xc7
 | 386=>some ye3
 | _=>none
noncomputable def E:Env:={ P:=Tryz.prog,fn:=fn,ty:=ty,lv:=lv,rs:=rs,tk:=tk,ext:=ext }
noncomputable def vc4 (k:Nat) (a0:I2):Option (Bool):=den E k 172 [.agg [vI a0.1,vI a0.2]]
theorem ypa (k:Nat) (a0:I2):vc4 (k+1) a0=if ((decide (a0.1≥0))==true)=true then if ((decide (a0.2≤1000))==true)=true then some (decide (a0.1<a0.2)) else some false else some false:=by kernel_rfl
noncomputable def wo3 (k:Nat) (a0:I2) (a1:Int):Option (Bool):=den E k 236 [.agg [vI a0.1,vI a0.2],cI a1]
theorem yqa (k:Nat) (a0:I2) (a1:Int):wo3 (k+1) a0 a1=(vc4 k a0).bind fun p1=>if (p1==true)=true then if ((decide (a0.1≤a1))==true)=true then some (decide (a1<a0.2)) else some false else some false:=by kernel_rfl
noncomputable def z94 (k:Nat) (a0:List I4) (a1:Int) (a2:Int):Option (Bool):=den E k 202 [.c (.l 86 sI4 a0),cI a1,cI a2]
abbrev wx2:=Int×Int×(List I4)×Int
abbrev zh1:=Int
def z86 (c0:wx2) (v0:zh1):St:=⟨34,0,[(1,cI c0.1),(2,cI c0.2.1),(9,.c (.l 86 sI4 c0.2.2.1)),(10,cI c0.2.2.2),(11,cI v0)],[]⟩
noncomputable def y17 {R:Type} (k:Nat) (X0:zh1→I4→Bool→Option R) (X1:zh1→Option R) (c0:wx2) (rec:zh1→Option R) (v0:zh1):Option R:=if (decide (v0<c0.2.2.2))=true then if 0≤v0 then ix c0.2.2.1 v0.toNat fun x1=>if ((x1.1==c0.1)==true)=true then if ((x1.2.1== -1)==true)=true then (wo3 k x1.2.2 c0.2.1).bind fun p2=>if p2=true then X0 v0 x1 p2 else rec (i64.wrap (v0+1)) else rec (i64.wrap (v0+1)) else rec (i64.wrap (v0+1)) else none else X1 v0
noncomputable def wg5 {R:Type} (k:Nat) (X0:zh1→I4→Bool→Option R) (X1:zh1→Option R) (c:wx2):Nat→zh1→Option R
 | 0,_=>none
 | n+1,v=>y17 k X0 X1 c (wg5 k X0 X1 c n) v
def vk5 (K:Ex→St→Option R) (c0:wx2) (v0:zh1) (x1:I4) (p2:Bool):Option R:=K .ret ⟨34,1,[(1,cI c0.1),(2,cI c0.2.1),(6,cB true),(8,cP 0),(9,.c (.l 86 sI4 c0.2.2.1)),(10,cI c0.2.2.2),(11,cI v0),(12,cB (decide (v0<c0.2.2.2))),(13,.c (.at_ (avs sI4 x1))),(14,.agg (avs sI4 x1)),(15,cP 0),(16,cI x1.1),(17,cI c0.1),(18,cB (x1.1==c0.1)),(19,cB true),(20,.c (.ptr 0 1)),(21,cI x1.2.1),(22,cB (x1.2.1== -1)),(23,cB (x1.2.1== -1)),(24,cB true),(25,.c (.ptr 0 2)),(26,cI x1.2.2.1),(27,.c (.ptr 0 3)),(28,cI x1.2.2.2),(29,.agg [vI x1.2.2.1,vI x1.2.2.2]),(30,cI c0.2.1),(31,cB p2),(32,cB p2)],[(0,.var (avs sI4 x1))]⟩
def zv5 (K:Ex→St→Option R) (c0:wx2) (v0:zh1):Option R:=K (.exit 0) ⟨34,0,[(1,cI c0.1),(2,cI c0.2.1),(9,.c (.l 86 sI4 c0.2.2.1)),(10,cI c0.2.2.2),(11,cI v0),(12,cB (decide (v0<c0.2.2.2)))],[]⟩
theorem w89 (k:Nat) (K:Ex→St→Option R) (c0:wx2):∀(n:Nat) (v:zh1),z2 [0,1,2,9,10,11] (run E (den E k) (lv 202) k (j1 Tryz.f202 0)) n (z86 c0 v) K=wg5 k (vk5 K c0) (zv5 K c0) c0 n v:=j6 (B:=y17 k (vk5 K c0) (zv5 K c0) c0) fun n v=>by kernel_rfl
theorem j59 (k:Nat) (a0:List I4) (a1:Int) (a2:Int):z94 (k+1) a0 a1 a2=z2 (R:=Bool) [0,1,2,9,10,11] (run E (den E k) (lv 202) k (j1 Tryz.f202 0)) k (z86 (a1,a2,a0,(a0.length:Int)) 0) (z8 E (den E k) (lv 202) k (yc Tryz.f202) 0 [] (xa E (rs 202) Tryz.f202:Ex→St→Option (Bool))):=by kernel_rfl
theorem z2b (k:Nat) (a0:List I4) (a1:Int) (a2:Int):z94 (k+1) a0 a1 a2=wg5 k (fun (v0:Int) (x1:I4) (p2:Bool)=>some true) (fun (v0:Int)=>some false) (a1,a2,a0,(a0.length:Int)) k 0:=by
 rw [j59]
 simp only [w89]
 kernel_rfl
noncomputable def jm (k:Nat) (a0:Int) (a1:Int) (a2:Int):Option (Bool):=den E k 76 [cI a0,cI a1,cI a2]
theorem jba (k:Nat) (a0:Int) (a1:Int) (a2:Int):jm (k+1) a0 a1 a2=if ((decide (a1≤a0))==true)=true then some (decide (a0≤a2)) else some false:=by kernel_rfl
noncomputable def wq4 (k:Nat) (a0:I6):Option (Bool):=den E k 176 [.agg (avs sI6 a0)]
theorem zd8 (k:Nat) (a0:I6):wq4 (k+1) a0=(jm k a0.2.2.2.1 0 100).bind fun p1=>if (p1==true)=true then (jm k a0.2.2.2.2.1 0 100).bind fun p2=>if (p2==true)=true then (jm k a0.2.2.2.2.2 0 100).bind fun p3=>if (p3==true)=true then (jm k a0.2.1 0 10000).bind fun p4=>if (p4==true)=true then (jm k a0.2.2.1 0 a0.2.1).bind fun p5=>if (p5==true)=true then (jm k a0.1 a0.2.2.1 a0.2.1).bind fun p6=>some p6 else some false else some false else some false else some false else some false:=by kernel_rfl
noncomputable def wf6 (k:Nat) (a0:I6) (a1:Int):Option (Bool):=den E k 203 [.agg (avs sI6 a0),cI a1]
theorem zs9 (k:Nat) (a0:I6) (a1:Int):wf6 (k+1) a0 a1=(wq4 k a0).bind fun p1=>if (p1==true)=true then (jm k a1 0 10000).bind fun p2=>if (p2==true)=true then some (decide ((i64.wrap (a0.1-a0.2.2.2.2.1))≥(i64.wrap (a0.2.2.1+a1)))) else some false else some false:=by kernel_rfl
noncomputable def vcb (k:Nat) (a0:Int) (a1:Int):Option (Int):=den E k 412 [cI a0,cI a1]
theorem vsb (k:Nat) (a0:Int) (a1:Int):vcb (k+1) a0 a1=(jm k a1 1 1000000000000).bind fun p1=>if (!p1)=true then some 0 else if a1=0 then none else if (decide (((a0).tmod a1)<0))=true then some (i64.wrap (((a0).tmod a1)+a1)) else some ((a0).tmod a1):=by kernel_rfl
noncomputable def yb1 (k:Nat) (a0:Int):Option (Int):=den E k 396 [cI a0]
theorem y2a (k:Nat) (a0:Int):yb1 (k+1) a0=(vcb k a0 360).bind fun p1=>some p1:=by kernel_rfl
noncomputable def vn8 (k:Nat) (a0:Int) (a1:Int):Option (Int):=den E k 364 [cI a0,cI a1]
theorem w7b (k:Nat) (a0:Int) (a1:Int):vn8 (k+1) a0 a1=(yb1 k a0).bind fun p1=>(yb1 k a1).bind fun p2=>(yb1 k (i64.wrap (p1-p2))).bind fun p3=>some (mn p3 (i64.wrap (360-p3))):=by kernel_rfl
noncomputable def v45 (k:Nat) (a0:Int):Option (Bool):=den E k 170 [cI a0]
theorem jz9 (k:Nat) (a0:Int):v45 (k+1) a0=(jm k a0 0 359).bind fun p1=>some p1:=by kernel_rfl
noncomputable def yf5 (k:Nat) (a0:I2):Option (Int):=den E k 365 [.agg [vI a0.1,vI a0.2]]
theorem z49 (k:Nat) (a0:I2):yf5 (k+1) a0=(v45 k a0.2).bind fun p1=>if (!p1)=true then (yb1 k a0.1).bind fun p2=>some p2 else (yb1 k a0.1).bind fun p3=>(yb1 k (i64.wrap (p3+(i64.wrap ((a0.2).tdiv 2))))).bind fun p4=>some p4:=by kernel_rfl
noncomputable def ypb (k:Nat) (a0:jd2):Option (Int):=den E k 74 [.agg (avs xd2 a0)]
noncomputable def z1b (k:Nat) (a0:jd2) (a1:Int):Option (Bool):=den E k 179 [.agg (avs xd2 a0),cI a1]
noncomputable def j35 (k:Nat) (a0:I4):Option (Int):=den E k 411 [.agg (avs sI4 a0)]
theorem xp9 (k:Nat) (a0:I4):j35 (k+1) a0=(jm k a0.2.2.1 (-60) 60).bind fun p1=>if (!p1)=true then some 0 else some a0.2.2.1:=by kernel_rfl
noncomputable def z04 (k:Nat) (a0:I4) (a1:Int):Option (Int):=den E k 395 [.agg (avs sI4 a0),cI a1]
theorem yja (k:Nat) (a0:I4) (a1:Int):z04 (k+1) a0 a1=(jm k a1 0 1000).bind fun p1=>if (!p1)=true then (yb1 k a0.2.1).bind fun p2=>(j35 k a0).bind fun p3=>(yb1 k (i64.wrap (p2+(i64.wrap (p3*0))))).bind fun p4=>some p4 else (yb1 k a0.2.1).bind fun p5=>(j35 k a0).bind fun p6=>(yb1 k (i64.wrap (p5+(i64.wrap (p6*a1))))).bind fun p7=>some p7:=by kernel_rfl
noncomputable def jh5 (k:Nat) (a0:I2) (a1:Int):Option I2:=den E k 410 [.agg [vI a0.1,vI a0.2],cI a1]
theorem wi9 (k:Nat) (a0:I2) (a1:Int):jh5 (k+1) a0 a1=(yb1 k a0.1).bind fun p1=>(jm k a1 0 360).bind fun p2=>if ((!p2)==false)=true then (v45 k a0.2).bind fun p3=>if (!p3)=true then some (p1,a0.2) else (yb1 k (i64.wrap (p1-a1))).bind fun p4=>some (p4,(mn (i64.wrap (a0.2+(i64.wrap (2*a1)))) 359)) else some (p1,a0.2):=by kernel_rfl
noncomputable def ve5 (k:Nat) (a0:I4) (a1:Int):Option I2:=den E k 394 [.agg (avs sI4 a0),cI a1]
theorem j89 (k:Nat) (a0:I4) (a1:Int):ve5 (k+1) a0 a1=(z04 k a0 a1).bind fun p1=>(jh5 k (p1,0) a0.2.2.2).bind fun p2=>some p2:=by kernel_rfl
noncomputable def ys2 (k:Nat) (a0:jd2) (a1:Int):Option (Bool):=den E k 362 [.agg (avs xd2 a0),cI a1]
theorem vb7 (k:Nat) (a0:jd2) (a1:Int):ys2 (k+1) a0 a1=(jm k a1 0 (i64.wrap ((a0.2.1.length:Int)-1))).bind fun p1=>some p1:=by kernel_rfl
noncomputable def jn7 (k:Nat) (a0:jd2) (a1:Int) (a2:Int):Option I2:=den E k 363 [.agg (avs xd2 a0),cI a1,cI a2]
theorem xla (k:Nat) (a0:jd2) (a1:Int) (a2:Int):jn7 (k+1) a0 a1 a2=(ys2 k a0 a1).bind fun p1=>if p1=true then if 0≤a1 then ix a0.2.1 a1.toNat fun x2=>(ve5 k x2 a2).bind fun p3=>some p3 else none else (z1b k a0 a1).bind fun p4=>if p4=true then if 0≤(i64.wrap (a1-(a0.2.1.length:Int))) then ix a0.2.2.1 ((i64.wrap (a1-(a0.2.1.length:Int))).toNat) fun x5=>(z04 k (0,x5.2.1,x5.2.2,0) a2).bind fun p6=>some (p6,0) else none else some (0,0):=by kernel_rfl
noncomputable def v78 (k:Nat) (a0:jd2) (a1:Int):Option (Int):=den E k 366 [.agg (avs xd2 a0),cI a1]
theorem w9b (k:Nat) (a0:jd2) (a1:Int):v78 (k+1) a0 a1=(z04 k (0,0,a0.2.2.2.2.2.2.1,0) a1).bind fun p1=>some p1:=by kernel_rfl
noncomputable def jg5 (k:Nat) (a0:jd2) (a1:Int) (a2:Int):Option (Int):=den E k 302 [.agg (avs xd2 a0),cI a1,cI a2]
theorem vk9 (k:Nat) (a0:jd2) (a1:Int) (a2:Int):jg5 (k+1) a0 a1 a2=(ys2 k a0 a1).bind fun p1=>if (!p1)=true then some 0 else (jn7 k a0 a1 a2).bind fun p2=>(yf5 k p2).bind fun p3=>(v78 k a0 a2).bind fun p4=>(vn8 k p3 (i64.wrap (p4+180))).bind fun p5=>if (decide ((i64.wrap (p5-(i64.wrap ((p2.2).tdiv 2))))>a0.2.2.2.2.2.2.2.1))=true then some 0 else if (decide ((i64.wrap (p5+(i64.wrap ((p2.2).tdiv 2))))≤a0.2.2.2.2.2.2.2.1))=true then some 2 else some 1:=by kernel_rfl
noncomputable def xt2 (k:Nat) (a0:Int) (a1:Int) (a2:List I4) (a3:List I3) (a4:Int) (a5:Int) (a6:Int) (a7:Int) (a8:Int) (a9:List I3) (a10:Int) (a11:Int):Option (Bool):=den E k 301 [cI a0,.c (.at_ [vI a1,.l 186 sI4 a2,.l 188 sI3 a3,vI a4,vI a5,vI a6,vI a7,vI a8,.l 193 yk a9,vI a10]),.c (.at_ [vI a11])]
theorem y87 (k:Nat) (a0:Int) (a1:Int) (a2:List I4) (a3:List I3) (a4:Int) (a5:Int) (a6:Int) (a7:Int) (a8:Int) (a9:List I3) (a10:Int) (a11:Int):xt2 (k+1) a0 a1 a2 a3 a4 a5 a6 a7 a8 a9 a10 a11=(jg5 k (a1,a2,a3,a4,a5,a6,a7,a8,a9,a10) a11 a0).bind fun p1=>some (p1==0):=by kernel_rfl
noncomputable def vd1 (k:Nat) (a0:Int) (a1:Int) (a2:Int) (a3:List I4) (a4:List I3) (a5:Int) (a6:Int) (a7:Int) (a8:Int) (a9:Int) (a10:List I3) (a11:Int) (a12:Int):Option (List I2):=den E k 300 [cI a0,cI a1,.c (.clo 301 [.at_ [vI a2,.l 186 sI4 a3,.l 188 sI3 a4,vI a5,vI a6,vI a7,vI a8,vI a9,.l 193 yk a10,vI a11],.at_ [vI a12]])]
abbrev jn:=Int×Int×(List I4)×(List I3)×Int×Int×Int×Int×Int×(List I3)×Int×Int
abbrev jf:=Int×(List I2)
def vo1 (c0:jn) (v0:jf):St:=⟨53,1,[(1,cI c0.1),(2,.c (.clo 301 [.at_ [vI c0.2.1,.l 186 sI4 c0.2.2.1,.l 188 sI3 c0.2.2.2.1,vI c0.2.2.2.2.1,vI c0.2.2.2.2.2.1,vI c0.2.2.2.2.2.2.1,vI c0.2.2.2.2.2.2.2.1,vI c0.2.2.2.2.2.2.2.2.1,.l 193 yk c0.2.2.2.2.2.2.2.2.2.1,vI c0.2.2.2.2.2.2.2.2.2.2.1],.at_ [vI c0.2.2.2.2.2.2.2.2.2.2.2]])),(7,.c (.ref 0)),(8,cI v0.1)],[(0,.arr 183 sI2 v0.2)]⟩
noncomputable def zq1 {R:Type} (k:Nat) (X0:jf→Option R) (c0:jn) (rec:jf→Option R) (v0:jf):Option R:=if (decide (v0.1<(mn c0.1 1000)))=true then (xt2 k v0.1 c0.2.1 c0.2.2.1 c0.2.2.2.1 c0.2.2.2.2.1 c0.2.2.2.2.2.1 c0.2.2.2.2.2.2.1 c0.2.2.2.2.2.2.2.1 c0.2.2.2.2.2.2.2.2.1 c0.2.2.2.2.2.2.2.2.2.1 c0.2.2.2.2.2.2.2.2.2.2.1 c0.2.2.2.2.2.2.2.2.2.2.2).bind fun p1=>if (!p1)=true then rec ((i64.wrap (v0.1+1)),v0.2) else if ((decide ((i64.wrap ((v0.2.length:Int)-1))≥0))==true)=true then if 0≤(i64.wrap ((v0.2.length:Int)-1)) then if (i64.wrap ((v0.2.length:Int)-1))<(v0.2.length:Int) then ix v0.2 ((i64.wrap ((v0.2.length:Int)-1)).toNat) fun x2=>if (x2.2==v0.1)=true then if 0≤(i64.wrap ((v0.2.length:Int)-1)) then if (i64.wrap ((v0.2.length:Int)-1))<(v0.2.length:Int) then ix v0.2 ((i64.wrap ((v0.2.length:Int)-1)).toNat) fun x3=>if 0≤(i64.wrap ((v0.2.length:Int)-1)) then if (i64.wrap ((v0.2.length:Int)-1))<(v0.2.length:Int) then ix v0.2 ((i64.wrap ((v0.2.length:Int)-1)).toNat) fun y4=>rec ((i64.wrap (v0.1+1)),(v0.2.set ((i64.wrap ((v0.2.length:Int)-1)).toNat) (y4.1,(i64.wrap (x3.2+1))))) else none else none else none else none else if (v0.2.length+([(v0.1,(i64.wrap (v0.1+1)))]).length)*16≤140737488355328 then rec ((i64.wrap (v0.1+1)),(v0.2++[(v0.1,(i64.wrap (v0.1+1)))])) else none else none else none else if (v0.2.length+([(v0.1,(i64.wrap (v0.1+1)))]).length)*16≤140737488355328 then rec ((i64.wrap (v0.1+1)),(v0.2++[(v0.1,(i64.wrap (v0.1+1)))])) else none else X0 v0
noncomputable def yu {R:Type} (k:Nat) (X0:jf→Option R) (c:jn):Nat→jf→Option R
 | 0,_=>none
 | n+1,v=>zq1 k X0 c (yu k X0 c n) v
def wm1 (K:Ex→St→Option R) (c0:jn) (v0:jf):Option R:=K (.exit 0) ⟨53,1,[(1,cI c0.1),(2,.c (.clo 301 [.at_ [vI c0.2.1,.l 186 sI4 c0.2.2.1,.l 188 sI3 c0.2.2.2.1,vI c0.2.2.2.2.1,vI c0.2.2.2.2.2.1,vI c0.2.2.2.2.2.2.1,vI c0.2.2.2.2.2.2.2.1,vI c0.2.2.2.2.2.2.2.2.1,.l 193 yk c0.2.2.2.2.2.2.2.2.2.1,vI c0.2.2.2.2.2.2.2.2.2.2.1],.at_ [vI c0.2.2.2.2.2.2.2.2.2.2.2]])),(7,.c (.ref 0)),(8,cI v0.1),(13,cI v0.1),(14,cI c0.1),(15,cI (mn c0.1 1000)),(16,cB (decide (v0.1<(mn c0.1 1000))))],[(0,.arr 183 sI2 v0.2)]⟩
theorem v33 (k:Nat) (K:Ex→St→Option R) (c0:jn):∀(n:Nat) (v:jf),z2 [0,1,2,7,8] (run E (den E k) (lv 300) k (j1 Tryz.f300 0)) n (vo1 c0 v) K=yu k (wm1 K c0) c0 n v:=j6 (B:=zq1 k (wm1 K c0) c0) fun n v=>by kernel_rfl
theorem wz2 (k:Nat) (a0:Int) (a1:Int) (a2:Int) (a3:List I4) (a4:List I3) (a5:Int) (a6:Int) (a7:Int) (a8:Int) (a9:Int) (a10:List I3) (a11:Int) (a12:Int):vd1 (k+1) a0 a1 a2 a3 a4 a5 a6 a7 a8 a9 a10 a11 a12=z2 (R:=List I2) [0,1,2,7,8] (run E (den E k) (lv 300) k (j1 Tryz.f300 0)) k (vo1 (a1,a2,a3,a4,a5,a6,a7,a8,a9,a10,a11,a12) ((mx a0 0),[])) (z8 E (den E k) (lv 300) k (yc Tryz.f300) 0 [] (xa E (rs 300) Tryz.f300:Ex→St→Option (List I2))):=by kernel_rfl
theorem wa3 (k:Nat) (a0:Int) (a1:Int) (a2:Int) (a3:List I4) (a4:List I3) (a5:Int) (a6:Int) (a7:Int) (a8:Int) (a9:Int) (a10:List I3) (a11:Int) (a12:Int):vd1 (k+1) a0 a1 a2 a3 a4 a5 a6 a7 a8 a9 a10 a11 a12=yu k (fun (v0:Int×(List I2))=>some v0.2) (a1,a2,a3,a4,a5,a6,a7,a8,a9,a10,a11,a12) k ((mx a0 0),[]):=by
 rw [wz2]
 simp only [v33]
 kernel_rfl
noncomputable def jf5 (k:Nat) (a0:jd2) (a1:Int) (a2:Int) (a3:Int):Option (List I2):=den E k 237 [.agg (avs xd2 a0),cI a1,cI a2,cI a3]
theorem y99 (k:Nat) (a0:jd2) (a1:Int) (a2:Int) (a3:Int):jf5 (k+1) a0 a1 a2 a3=(vd1 k a2 a3 a0.1 a0.2.1 a0.2.2.1 a0.2.2.2.1 a0.2.2.2.2.1 a0.2.2.2.2.2.1 a0.2.2.2.2.2.2.1 a0.2.2.2.2.2.2.2.1 a0.2.2.2.2.2.2.2.2.1 a0.2.2.2.2.2.2.2.2.2 a1).bind fun p1=>some p1:=by kernel_rfl
noncomputable def jo8 (k:Nat) (a0:xm) (a1:Int):Option (List I2):=den E k 119 [.agg (avs xi a0),cI a1]
theorem yab (k:Nat) (a0:xm) (a1:Int):jo8 (k+1) a0 a1=(jf5 k a0.1 a1 0 a0.2.2.2.2.2.2.2.2.2.2.2.1).bind fun p1=>some p1:=by kernel_rfl
noncomputable def vl6 (k:Nat) (a0:List I2):Option (List Bool):=den E k 375 [.c (.l 183 sI2 a0)]
abbrev zf3:=(List I2)×Int×Int×I2
abbrev z92:=Int×(List Bool)
def w27 (c1:zf3) (v1:z92):St:=⟨29,2,[(3,.c (.ref 0)),(5,cP 1),(6,cI v1.1),(8,.c (.l 183 sI2 c1.1)),(9,cI c1.2.1),(10,cI c1.2.2.1)],[(0,.arr 4 .b v1.2),(1,.var [vI c1.2.2.2.1,vI c1.2.2.2.2])]⟩
noncomputable def xy7 {R:Type} (k:Nat) (X0:z92→Option R) (c1:zf3) (rec:z92→Option R) (v1:z92):Option R:=if (decide (v1.1<c1.2.2.2.2))=true then if 0≤v1.1 then if v1.1<(v1.2.length:Int) then ix v1.2 v1.1.toNat fun y3=>rec ((i64.wrap (v1.1+1)),(v1.2.set v1.1.toNat true)) else none else none else X0 v1
noncomputable def z24 {R:Type} (k:Nat) (X0:z92→Option R) (c:zf3):Nat→z92→Option R
 | 0,_=>none
 | n+1,v=>xy7 k X0 c (z24 k X0 c n) v
def jk6 (K:Ex→St→Option R) (c1:zf3) (v1:z92):Option R:=K (.exit 2) ⟨29,2,[(3,.c (.ref 0)),(5,cP 1),(6,cI v1.1),(8,.c (.l 183 sI2 c1.1)),(9,cI c1.2.1),(10,cI c1.2.2.1),(18,cI v1.1),(19,.c (.ptr 1 1)),(20,cI c1.2.2.2.2),(21,cB (decide (v1.1<c1.2.2.2.2)))],[(0,.arr 4 .b v1.2),(1,.var [vI c1.2.2.2.1,vI c1.2.2.2.2])]⟩
theorem v4a (k:Nat) (K:Ex→St→Option R) (c1:zf3):∀(n:Nat) (v:z92),z2 [0,3,5,6,8,9,10] (run E (den E k) (lv 375) k (j1 Tryz.f375 1)) n (w27 c1 v) K=z24 k (jk6 K c1) c1 n v:=j6 (B:=xy7 k (jk6 K c1) c1) fun n v=>by kernel_rfl
abbrev jz2:=(List I2)×Int
abbrev vy1:=Int×(List Bool)
def zw2 (c0:jz2) (v0:vy1):St:=⟨29,1,[(3,.c (.ref 0)),(8,.c (.l 183 sI2 c0.1)),(9,cI c0.2),(10,cI v0.1)],[(0,.arr 4 .b v0.2)]⟩
noncomputable def vf6 {R:Type} (k:Nat) (X0:vy1→Option R) (c0:jz2) (rec:vy1→Option R) (v0:vy1):Option R:=if (decide (v0.1<c0.2))=true then if 0≤v0.1 then ix c0.1 v0.1.toNat fun x1=>(vc4 k x1).bind fun p2=>if p2=true then z24 k (fun (v1:Int×(List Bool))=>rec ((i64.wrap (v0.1+1)),v1.2)) (c0.1,c0.2,v0.1,x1) k (x1.1,v0.2) else rec ((i64.wrap (v0.1+1)),v0.2) else none else X0 v0
noncomputable def jq6 {R:Type} (k:Nat) (X0:vy1→Option R) (c:jz2):Nat→vy1→Option R
 | 0,_=>none
 | n+1,v=>vf6 k X0 c (jq6 k X0 c n) v
def jr4 (K:Ex→St→Option R) (c0:jz2) (v0:vy1):Option R:=K (.exit 0) ⟨29,1,[(3,.c (.ref 0)),(8,.c (.l 183 sI2 c0.1)),(9,cI c0.2),(10,cI v0.1),(11,cB (decide (v0.1<c0.2)))],[(0,.arr 4 .b v0.2)]⟩
theorem z28 (k n:Nat) (K:Ex→St→Option R) (c0:jz2) (v0:vy1):z2 [0,3,8,9,10] (run E (den E k) (lv 375) k (j1 Tryz.f375 0)) (n+1) (zw2 c0 v0) K=if (decide (v0.1<c0.2))=true then if 0≤v0.1 then ix c0.1 v0.1.toNat fun x1=>(vc4 k x1).bind fun p2=>if p2=true then z2 [0,3,5,6,8,9,10] (run E (den E k) (lv 375) k (j1 Tryz.f375 1)) k (w27 (c0.1,c0.2,v0.1,x1) (x1.1,v0.2)) (z8 E (den E k) (lv 375) k (.loop (j1 Tryz.f375 0)) (1-0) [(n,[0,3,8,9,10])] K) else z2 [0,3,8,9,10] (run E (den E k) (lv 375) k (j1 Tryz.f375 0)) n (zw2 c0 ((i64.wrap (v0.1+1)),v0.2)) K else none else K (.exit 0) ⟨29,1,[(3,.c (.ref 0)),(8,.c (.l 183 sI2 c0.1)),(9,cI c0.2),(10,cI v0.1),(11,cB (decide (v0.1<c0.2)))],[(0,.arr 4 .b v0.2)]⟩:=by kernel_rfl
theorem j2a (k n:Nat) (K:Ex→St→Option R) (c0:jz2) (v:vy1):z2 [0,3,8,9,10] (run E (den E k) (lv 375) k (j1 Tryz.f375 0)) (n+1) (zw2 c0 v) K=vf6 k (jr4 K c0) c0 (fun v=>z2 [0,3,8,9,10] (run E (den E k) (lv 375) k (j1 Tryz.f375 0)) n (zw2 c0 v) K) v:=by
 rw [z28]
 simp only [v4a]
 kernel_rfl
theorem zja (k:Nat) (K:Ex→St→Option R) (c0:jz2):∀(n:Nat) (v:vy1),z2 [0,3,8,9,10] (run E (den E k) (lv 375) k (j1 Tryz.f375 0)) n (zw2 c0 v) K=jq6 k (jr4 K c0) c0 n v:=ji2 (B:=vf6 k (jr4 K c0) c0) (fun _=>rfl) (fun n v=>j2a k n K c0 v) (fun _=>rfl) (fun _ _=>rfl)
theorem yba (k:Nat) (a0:List I2):vl6 (k+1) a0=z2 (R:=List Bool) [0,3,8,9,10] (run E (den E k) (lv 375) k (j1 Tryz.f375 0)) k (zw2 (a0,(a0.length:Int)) (0,(List.replicate (1000:Int).toNat (false:Bool)))) (z8 E (den E k) (lv 375) k (yc Tryz.f375) 0 [] (xa E (rs 375) Tryz.f375:Ex→St→Option (List Bool))):=by kernel_rfl
theorem wgb (k:Nat) (a0:List I2):vl6 (k+1) a0=jq6 k (fun (v0:Int×(List Bool))=>some v0.2) (a0,(a0.length:Int)) k (0,(List.replicate (1000:Int).toNat (false:Bool))):=by
 rw [yba]
 simp only [zja]
 kernel_rfl
noncomputable def x97 (k:Nat) (a0:I6) (a1:List I2) (a2:Int) (a3:Int):Option (List Int):=den E k 320 [.agg (avs sI6 a0),.c (.l 183 sI2 a1),cI a2,cI a3]
abbrev x24:=Int×(List Bool)×I6
abbrev yo2:=Int×(List Int)
def j07 (c0:x24) (v0:yo2):St:=⟨77,2,[(2,cI c0.1),(4,cP 0),(9,.c (.l 4 .b c0.2.1)),(10,.c (.ref 1)),(11,cI v0.1)],[(0,.var (avs sI6 c0.2.2)),(1,.arr 3 (.i .i64) v0.2)]⟩
noncomputable def jb5 {R:Type} (k:Nat) (X0:yo2→Option R) (c0:x24) (rec:yo2→Option R) (v0:yo2):Option R:=if (decide (v0.1≥c0.1))=true then if 0≤(i64.wrap ((i64.wrap (v0.1-c0.1))+1)) then if (i64.wrap ((i64.wrap (v0.1-c0.1))+1))<(v0.2.length:Int) then ix v0.2 ((i64.wrap ((i64.wrap (v0.1-c0.1))+1)).toNat) fun x4=>if 0≤v0.1 then ix c0.2.1 v0.1.toNat fun x5=>if x5=true then if 0≤(i64.wrap (v0.1-c0.1)) then if (i64.wrap (v0.1-c0.1))<(v0.2.length:Int) then ix v0.2 ((i64.wrap (v0.1-c0.1)).toNat) fun y6=>rec ((i64.wrap (v0.1-1)),(v0.2.set ((i64.wrap (v0.1-c0.1)).toNat) (mx 0 (i64.wrap ((i64.wrap (x4+c0.2.2.2.2.2.1))-c0.2.2.2.2.2.2.2))))) else none else none else if 0≤(i64.wrap (v0.1-c0.1)) then if (i64.wrap (v0.1-c0.1))<(v0.2.length:Int) then ix v0.2 ((i64.wrap (v0.1-c0.1)).toNat) fun y7=>rec ((i64.wrap (v0.1-1)),(v0.2.set ((i64.wrap (v0.1-c0.1)).toNat) (mx 0 (i64.wrap (x4+c0.2.2.2.2.2.1))))) else none else none else none else none else none else X0 v0
noncomputable def vz3 {R:Type} (k:Nat) (X0:yo2→Option R) (c:x24):Nat→yo2→Option R
 | 0,_=>none
 | n+1,v=>jb5 k X0 c (vz3 k X0 c n) v
def zs6 (K:Ex→St→Option R) (c0:x24) (v0:yo2):Option R:=K (.exit 0) ⟨77,2,[(2,cI c0.1),(4,cP 0),(9,.c (.l 4 .b c0.2.1)),(10,.c (.ref 1)),(11,cI v0.1),(46,cI v0.1),(47,cI c0.1),(48,cB (decide (v0.1≥c0.1)))],[(0,.var (avs sI6 c0.2.2)),(1,.arr 3 (.i .i64) v0.2)]⟩
theorem vfa (k:Nat) (K:Ex→St→Option R) (c0:x24):∀(n:Nat) (v:yo2),z2 [0,2,4,9,10,11] (run E (den E k) (lv 320) k (j1 Tryz.f320 0)) n (j07 c0 v) K=vz3 k (zs6 K c0) c0 n v:=j6 (B:=jb5 k (zs6 K c0) c0) fun n v=>by kernel_rfl
theorem vga (k:Nat) (a0:I6) (a1:List I2) (a2:Int) (a3:Int):x97 (k+1) a0 a1 a2 a3=(jm k a0.2.2.2.1 0 100).bind fun p1=>if ((!p1)==false)=true then (jm k a0.2.2.2.2.2 0 100).bind fun p2=>if ((!p2)==false)=true then if ((decide (a2<0))==false)=true then if ((decide (a3>1000))==false)=true then if (decide (a2≥a3))=true then some ([0]) else (vl6 k a1).bind fun p3=>if ((i64.wrap ((i64.wrap (a3-a2))+1))==(i64.wrap ((i64.wrap (a3-a2))+1)))=true then if 0≤(i64.wrap ((i64.wrap (a3-a2))+1)) then if 8*(i64.wrap ((i64.wrap (a3-a2))+1)).toNat≤281474976710656 then z2 (R:=List Int) [0,2,4,9,10,11] (run E (den E k) (lv 320) k (j1 Tryz.f320 0)) k (j07 (a2,p3,a0) ((i64.wrap (a3-1)),(List.replicate (i64.wrap ((i64.wrap (a3-a2))+1)).toNat (0:Int)))) (z8 E (den E k) (lv 320) k (yc Tryz.f320) 0 [] (xa E (rs 320) Tryz.f320:Ex→St→Option (List Int))) else none else none else none else some ([0]) else some ([0]) else some ([0]) else some ([0]):=by kernel_rfl
theorem xdb (k:Nat) (a0:I6) (a1:List I2) (a2:Int) (a3:Int):x97 (k+1) a0 a1 a2 a3=(jm k a0.2.2.2.1 0 100).bind fun p1=>if ((!p1)==false)=true then (jm k a0.2.2.2.2.2 0 100).bind fun p2=>if ((!p2)==false)=true then if ((decide (a2<0))==false)=true then if ((decide (a3>1000))==false)=true then if (decide (a2≥a3))=true then some ([0]) else (vl6 k a1).bind fun p3=>if ((i64.wrap ((i64.wrap (a3-a2))+1))==(i64.wrap ((i64.wrap (a3-a2))+1)))=true then if 0≤(i64.wrap ((i64.wrap (a3-a2))+1)) then if 8*(i64.wrap ((i64.wrap (a3-a2))+1)).toNat≤281474976710656 then vz3 k (fun (v0:Int×(List Int))=>some v0.2) (a2,p3,a0) k ((i64.wrap (a3-1)),(List.replicate (i64.wrap ((i64.wrap (a3-a2))+1)).toNat (0:Int))) else none else none else none else some ([0]) else some ([0]) else some ([0]) else some ([0]):=by
 rw [vga]
 simp only [vfa]
 kernel_rfl
noncomputable def w87 (k:Nat) (a0:I6) (a1:List I2) (a2:Int) (a3:Int):Option (Int):=den E k 257 [.agg (avs sI6 a0),.c (.l 183 sI2 a1),cI a2,cI a3]
theorem vka (k:Nat) (a0:I6) (a1:List I2) (a2:Int) (a3:Int):w87 (k+1) a0 a1 a2 a3=(x97 k a0 a1 a2 a3).bind fun p1=>if 0<(p1.length:Int) then ix p1 ((0:Int).toNat) fun x2=>some x2 else none:=by kernel_rfl
noncomputable def yp (k:Nat) (a0:Int) (a1:Int):Option (Bool):=den E k 95 [cI a0,cI a1]
theorem xq9 (k:Nat) (a0:Int) (a1:Int):yp (k+1) a0 a1=if ((decide (a0≥0))==true)=true then some (decide (a0<a1)) else some false:=by kernel_rfl
noncomputable def vk6 (k:Nat) (a0:xm) (a1:Int):Option (Int):=den E k 177 [.agg (avs xi a0),cI a1]
theorem x0a (k:Nat) (a0:xm) (a1:Int):vk6 (k+1) a0 a1=(yp k a1 (a0.2.2.2.2.1.length:Int)).bind fun p1=>if (!p1)=true then some 0 else if 0≤a1 then ix a0.2.2.2.2.1 a1.toNat fun x2=>(jo8 k a0 a1).bind fun p3=>(w87 k x2 p3 a0.2.2.2.2.2.2.2.2.2.2.1 a0.2.2.2.2.2.2.2.2.2.2.2.1).bind fun p4=>some p4 else none:=by kernel_rfl
noncomputable def ww4 (k:Nat) (a0:xm) (a1:Int):Option (Bool):=den E k 94 [.agg (avs xi a0),cI a1]
theorem zr9 (k:Nat) (a0:xm) (a1:Int):ww4 (k+1) a0 a1=(yp k a1 a0.2.1.1).bind fun p1=>if ((!p1)==false)=true then (z94 k a0.2.2.2.2.2.2.2.2.2.1 a1 a0.2.2.2.2.2.2.2.2.2.2.1).bind fun p2=>if p2=true then some false else if (decide (a1<a0.2.1.2.1))=true then (yp k a1 (a0.2.2.2.2.1.length:Int)).bind fun p3=>if (p3==true)=true then if 0≤a1 then ix a0.2.2.2.2.1 a1.toNat fun x4=>(vk6 k a0 a1).bind fun p5=>(wf6 k x4 p5).bind fun p6=>some p6 else none else some false else some true else some false:=by kernel_rfl
noncomputable def w77 (k:Nat) (a0:List I4) (a1:Int) (a2:Int) (a3:Int):Option (Bool):=den E k 352 [.c (.l 86 sI4 a0),cI a1,cI a2,cI a3]
abbrev vo2:=(List I4)×Int×Int×Int×(List I4)×Int
abbrev xx:=Int
def x37 (c0:vo2) (v0:xx):St:=⟨59,0,[(0,.c (.l 86 sI4 c0.1)),(1,cI c0.2.1),(2,cI c0.2.2.1),(3,cI c0.2.2.2.1),(11,.c (.l 86 sI4 c0.2.2.2.2.1)),(12,cI c0.2.2.2.2.2),(13,cI v0)],[]⟩
noncomputable def v68 {R:Type} (k:Nat) (X0:xx→I4→Bool→Option R) (X1:xx→I4→Bool→Option R) (X2:xx→I4→Bool→Option R) (X3:xx→Option R) (c0:vo2) (rec:xx→Option R) (v0:xx):Option R:=if (decide (v0<c0.2.2.2.2.2))=true then if 0≤v0 then ix c0.2.2.2.2.1 v0.toNat fun x1=>if ((x1.1==c0.2.1)==true)=true then if ((x1.2.1==c0.2.2.1)==false)=true then if ((x1.1==c0.2.2.1)==true)=true then if ((x1.2.1==c0.2.1)==true)=true then (wo3 k x1.2.2 c0.2.2.2.1).bind fun p2=>if p2=true then X0 v0 x1 p2 else rec (i64.wrap (v0+1)) else rec (i64.wrap (v0+1)) else rec (i64.wrap (v0+1)) else (wo3 k x1.2.2 c0.2.2.2.1).bind fun p3=>if p3=true then X1 v0 x1 p3 else rec (i64.wrap (v0+1)) else if ((x1.1==c0.2.2.1)==true)=true then if ((x1.2.1==c0.2.1)==true)=true then (wo3 k x1.2.2 c0.2.2.2.1).bind fun p4=>if p4=true then X2 v0 x1 p4 else rec (i64.wrap (v0+1)) else rec (i64.wrap (v0+1)) else rec (i64.wrap (v0+1)) else none else X3 v0
noncomputable def xq6 {R:Type} (k:Nat) (X0:xx→I4→Bool→Option R) (X1:xx→I4→Bool→Option R) (X2:xx→I4→Bool→Option R) (X3:xx→Option R) (c:vo2):Nat→xx→Option R
 | 0,_=>none
 | n+1,v=>v68 k X0 X1 X2 X3 c (xq6 k X0 X1 X2 X3 c n) v
def js6 (K:Ex→St→Option R) (c0:vo2) (v0:xx) (x1:I4) (p2:Bool):Option R:=K .ret ⟨59,1,[(0,.c (.l 86 sI4 c0.1)),(1,cI c0.2.1),(2,cI c0.2.2.1),(3,cI c0.2.2.2.1),(8,cB true),(10,cP 0),(11,.c (.l 86 sI4 c0.2.2.2.2.1)),(12,cI c0.2.2.2.2.2),(13,cI v0),(14,cB (decide (v0<c0.2.2.2.2.2))),(15,.c (.at_ (avs sI4 x1))),(16,.agg (avs sI4 x1)),(17,cP 0),(18,cI x1.1),(19,cI c0.2.1),(20,cB (x1.1==c0.2.1)),(21,cB true),(22,.c (.ptr 0 1)),(23,cI x1.2.1),(24,cI c0.2.2.1),(25,cB (x1.2.1==c0.2.2.1)),(26,cB (x1.2.1==c0.2.2.1)),(27,cB false),(28,cP 0),(29,cI x1.1),(30,cI c0.2.2.1),(31,cB (x1.1==c0.2.2.1)),(32,cB true),(33,.c (.ptr 0 1)),(34,cI x1.2.1),(35,cI c0.2.1),(36,cB (x1.2.1==c0.2.1)),(37,cB (x1.2.1==c0.2.1)),(38,cB (x1.2.1==c0.2.1)),(39,cB true),(40,.c (.ptr 0 2)),(41,cI x1.2.2.1),(42,.c (.ptr 0 3)),(43,cI x1.2.2.2),(44,.agg [vI x1.2.2.1,vI x1.2.2.2]),(45,cI c0.2.2.2.1),(46,cB p2),(47,cB p2)],[(0,.var (avs sI4 x1))]⟩
def x86 (K:Ex→St→Option R) (c0:vo2) (v0:xx) (x1:I4) (p3:Bool):Option R:=K .ret ⟨59,1,[(0,.c (.l 86 sI4 c0.1)),(1,cI c0.2.1),(2,cI c0.2.2.1),(3,cI c0.2.2.2.1),(8,cB true),(10,cP 0),(11,.c (.l 86 sI4 c0.2.2.2.2.1)),(12,cI c0.2.2.2.2.2),(13,cI v0),(14,cB (decide (v0<c0.2.2.2.2.2))),(15,.c (.at_ (avs sI4 x1))),(16,.agg (avs sI4 x1)),(17,cP 0),(18,cI x1.1),(19,cI c0.2.1),(20,cB (x1.1==c0.2.1)),(21,cB true),(22,.c (.ptr 0 1)),(23,cI x1.2.1),(24,cI c0.2.2.1),(25,cB (x1.2.1==c0.2.2.1)),(26,cB (x1.2.1==c0.2.2.1)),(27,cB true),(28,.tup []),(29,.tup []),(30,.tup []),(31,.tup []),(32,.tup []),(33,.tup []),(34,.tup []),(35,.tup []),(36,.tup []),(37,.tup []),(38,cB true),(39,cB true),(40,.c (.ptr 0 2)),(41,cI x1.2.2.1),(42,.c (.ptr 0 3)),(43,cI x1.2.2.2),(44,.agg [vI x1.2.2.1,vI x1.2.2.2]),(45,cI c0.2.2.2.1),(46,cB p3),(47,cB p3)],[(0,.var (avs sI4 x1))]⟩
def zc6 (K:Ex→St→Option R) (c0:vo2) (v0:xx) (x1:I4) (p4:Bool):Option R:=K .ret ⟨59,1,[(0,.c (.l 86 sI4 c0.1)),(1,cI c0.2.1),(2,cI c0.2.2.1),(3,cI c0.2.2.2.1),(8,cB true),(10,cP 0),(11,.c (.l 86 sI4 c0.2.2.2.2.1)),(12,cI c0.2.2.2.2.2),(13,cI v0),(14,cB (decide (v0<c0.2.2.2.2.2))),(15,.c (.at_ (avs sI4 x1))),(16,.agg (avs sI4 x1)),(17,cP 0),(18,cI x1.1),(19,cI c0.2.1),(20,cB (x1.1==c0.2.1)),(21,cB false),(22,.tup []),(23,.tup []),(24,.tup []),(25,.tup []),(26,cB false),(27,cB false),(28,cP 0),(29,cI x1.1),(30,cI c0.2.2.1),(31,cB (x1.1==c0.2.2.1)),(32,cB true),(33,.c (.ptr 0 1)),(34,cI x1.2.1),(35,cI c0.2.1),(36,cB (x1.2.1==c0.2.1)),(37,cB (x1.2.1==c0.2.1)),(38,cB (x1.2.1==c0.2.1)),(39,cB true),(40,.c (.ptr 0 2)),(41,cI x1.2.2.1),(42,.c (.ptr 0 3)),(43,cI x1.2.2.2),(44,.agg [vI x1.2.2.1,vI x1.2.2.2]),(45,cI c0.2.2.2.1),(46,cB p4),(47,cB p4)],[(0,.var (avs sI4 x1))]⟩
def zl6 (K:Ex→St→Option R) (c0:vo2) (v0:xx):Option R:=K (.exit 0) ⟨59,0,[(0,.c (.l 86 sI4 c0.1)),(1,cI c0.2.1),(2,cI c0.2.2.1),(3,cI c0.2.2.2.1),(11,.c (.l 86 sI4 c0.2.2.2.2.1)),(12,cI c0.2.2.2.2.2),(13,cI v0),(14,cB (decide (v0<c0.2.2.2.2.2)))],[]⟩
theorem xv9 (k:Nat) (K:Ex→St→Option R) (c0:vo2):∀(n:Nat) (v:xx),z2 [0,0,1,2,3,11,12,13] (run E (den E k) (lv 352) k (j1 Tryz.f352 0)) n (x37 c0 v) K=xq6 k (js6 K c0) (x86 K c0) (zc6 K c0) (zl6 K c0) c0 n v:=j6 (B:=v68 k (js6 K c0) (x86 K c0) (zc6 K c0) (zl6 K c0) c0) fun n v=>by kernel_rfl
theorem j0a (k:Nat) (a0:List I4) (a1:Int) (a2:Int) (a3:Int):w77 (k+1) a0 a1 a2 a3=z2 (R:=Bool) [0,0,1,2,3,11,12,13] (run E (den E k) (lv 352) k (j1 Tryz.f352 0)) k (x37 (a0,a1,a2,a3,a0,(a0.length:Int)) 0) (z8 E (den E k) (lv 352) k (yc Tryz.f352) 0 [] (xa E (rs 352) Tryz.f352:Ex→St→Option (Bool))):=by kernel_rfl
theorem xgb (k:Nat) (a0:List I4) (a1:Int) (a2:Int) (a3:Int):w77 (k+1) a0 a1 a2 a3=xq6 k (fun (v0:Int) (x1:I4) (p2:Bool)=>some true) (fun (v0:Int) (x1:I4) (p3:Bool)=>some true) (fun (v0:Int) (x1:I4) (p4:Bool)=>some true) (fun (v0:Int)=>(z94 k a0 a1 a3).bind fun p1=>if (p1==false)=true then (z94 k a0 a2 a3).bind fun p2=>some p2 else some true) (a0,a1,a2,a3,a0,(a0.length:Int)) k 0:=by
 rw [j0a]
 simp only [xv9]
 kernel_rfl
noncomputable def xd4 (k:Nat) (a0:Int):Option (Bool):=den E k 254 [cI a0]
theorem yc9 (k:Nat) (a0:Int):xd4 (k+1) a0=(jm k a0 1 12).bind fun p1=>some p1:=by kernel_rfl
noncomputable def jy4 (k:Nat) (a0:List I4) (a1:Int) (a2:Int) (a3:Int):Option (List Int):=den E k 281 [.c (.l 86 sI4 a0),cI a1,cI a2,cI a3]
abbrev yz2:=(List I4)×Int×Int×Int
abbrev jo1:=Int×(List Int)
def vr5 (c0:yz2) (v0:jo1):St:=⟨36,1,[(0,.c (.l 86 sI4 c0.1)),(1,cI c0.2.1),(2,cI c0.2.2.1),(9,.c (.ref 0)),(16,cI c0.2.2.2),(17,cI v0.1)],[(0,.arr 3 (.i .i64) v0.2)]⟩
noncomputable def yq3 {R:Type} (k:Nat) (X0:jo1→Option R) (c0:yz2) (rec:jo1→Option R) (v0:jo1):Option R:=if (decide (v0.1<c0.2.2.2))=true then if ((v0.1 !=c0.2.1)==true)=true then (w77 k c0.1 c0.2.1 v0.1 c0.2.2.1).bind fun p2=>if p2=true then if (v0.2.length+([v0.1]).length)*8≤140737488355328 then rec ((i64.wrap (v0.1+1)),(v0.2++[v0.1])) else none else rec ((i64.wrap (v0.1+1)),v0.2) else rec ((i64.wrap (v0.1+1)),v0.2) else X0 v0
noncomputable def jq4 {R:Type} (k:Nat) (X0:jo1→Option R) (c:yz2):Nat→jo1→Option R
 | 0,_=>none
 | n+1,v=>yq3 k X0 c (jq4 k X0 c n) v
def yu4 (K:Ex→St→Option R) (c0:yz2) (v0:jo1):Option R:=K (.exit 0) ⟨36,1,[(0,.c (.l 86 sI4 c0.1)),(1,cI c0.2.1),(2,cI c0.2.2.1),(9,.c (.ref 0)),(16,cI c0.2.2.2),(17,cI v0.1),(18,cB (decide (v0.1<c0.2.2.2)))],[(0,.arr 3 (.i .i64) v0.2)]⟩
theorem jq8 (k:Nat) (K:Ex→St→Option R) (c0:yz2):∀(n:Nat) (v:jo1),z2 [0,0,1,2,9,16,17] (run E (den E k) (lv 281) k (j1 Tryz.f281 0)) n (vr5 c0 v) K=jq4 k (yu4 K c0) c0 n v:=j6 (B:=yq3 k (yu4 K c0) c0) fun n v=>by kernel_rfl
theorem xc8 (k:Nat) (a0:List I4) (a1:Int) (a2:Int) (a3:Int):jy4 (k+1) a0 a1 a2 a3=(xd4 k a3).bind fun p1=>if (!p1)=true then some ([]) else z2 (R:=List Int) [0,0,1,2,9,16,17] (run E (den E k) (lv 281) k (j1 Tryz.f281 0)) k (vr5 (a0,a1,a2,a3) (0,[])) (z8 E (den E k) (lv 281) k (yc Tryz.f281) 0 [] (xa E (rs 281) Tryz.f281:Ex→St→Option (List Int))):=by kernel_rfl
theorem xca (k:Nat) (a0:List I4) (a1:Int) (a2:Int) (a3:Int):jy4 (k+1) a0 a1 a2 a3=(xd4 k a3).bind fun p1=>if (!p1)=true then some ([]) else jq4 k (fun (v0:Int×(List Int))=>some v0.2) (a0,a1,a2,a3) k (0,[]):=by
 rw [xc8]
 simp only [jq8]
 kernel_rfl
noncomputable def w86 (k:Nat) (a0:xm) (a1:Int):Option (List Int):=den E k 205 [.agg (avs xi a0),cI a1]
theorem x9a (k:Nat) (a0:xm) (a1:Int):w86 (k+1) a0 a1=(jy4 k a0.2.2.2.2.2.2.2.2.2.1 a1 a0.2.2.2.2.2.2.2.2.2.2.1 a0.2.1.1).bind fun p1=>some p1:=by kernel_rfl
noncomputable def j34 (k:Nat) (a0:I2) (a1:Int) (a2:Int):Option (Bool):=den E k 389 [.agg [vI a0.1,vI a0.2],.c (.at_ [vI a1]),.c (.at_ [vI a2])]
theorem v38 (k:Nat) (a0:I2) (a1:Int) (a2:Int):j34 (k+1) a0 a1 a2=if ((a0.1==a1)==true)=true then if ((a0.2==a2)==false)=true then if ((a0.1==a2)==true)=true then some (a0.2==a1) else some false else some true else if ((a0.1==a2)==true)=true then some (a0.2==a1) else some false:=by kernel_rfl
noncomputable def y21 (k:Nat) (a0:List I2) (a1:Int) (a2:Int):Option (Int):=den E k 405 [.c (.l 348 sI2 a0),.c (.clo 389 [.at_ [vI a1],.at_ [vI a2]])]
abbrev wh:=(List I2)×Int×Int×Int
abbrev j9:=Int
def yg1 (c0:wh) (v0:j9):St:=⟨19,0,[(0,.c (.l 348 sI2 c0.1)),(1,.c (.clo 389 [.at_ [vI c0.2.1],.at_ [vI c0.2.2.1]])),(7,cI c0.2.2.2),(8,cI v0)],[]⟩
noncomputable def yk1 {R:Type} (k:Nat) (X0:j9→I2→Bool→Option R) (X1:j9→Option R) (c0:wh) (rec:j9→Option R) (v0:j9):Option R:=if (decide (v0<c0.2.2.2))=true then if 0≤v0 then ix c0.1 v0.toNat fun x1=>(j34 k x1 c0.2.1 c0.2.2.1).bind fun p2=>if p2=true then X0 v0 x1 p2 else rec (i64.wrap (v0+1)) else none else X1 v0
noncomputable def jo {R:Type} (k:Nat) (X0:j9→I2→Bool→Option R) (X1:j9→Option R) (c:wh):Nat→j9→Option R
 | 0,_=>none
 | n+1,v=>yk1 k X0 X1 c (jo k X0 X1 c n) v
def jd1 (K:Ex→St→Option R) (c0:wh) (v0:j9) (x1:I2) (p2:Bool):Option R:=K .ret ⟨19,0,[(0,.c (.l 348 sI2 c0.1)),(1,.c (.clo 389 [.at_ [vI c0.2.1],.at_ [vI c0.2.2.1]])),(4,cI v0),(5,cI v0),(7,cI c0.2.2.2),(8,cI v0),(9,cB (decide (v0<c0.2.2.2))),(10,cI v0),(11,.c (.clo 389 [.at_ [vI c0.2.1],.at_ [vI c0.2.2.1]])),(12,.c (.l 348 sI2 c0.1)),(13,cI v0),(14,.c (.at_ [vI x1.1,vI x1.2])),(15,.agg [vI x1.1,vI x1.2]),(16,cB p2),(17,cI v0)],[]⟩
def we1 (K:Ex→St→Option R) (c0:wh) (v0:j9):Option R:=K (.exit 0) ⟨19,0,[(0,.c (.l 348 sI2 c0.1)),(1,.c (.clo 389 [.at_ [vI c0.2.1],.at_ [vI c0.2.2.1]])),(7,cI c0.2.2.2),(8,cI v0),(9,cB (decide (v0<c0.2.2.2)))],[]⟩
theorem xl2 (k:Nat) (K:Ex→St→Option R) (c0:wh):∀(n:Nat) (v:j9),z2 [0,0,1,7,8] (run E (den E k) (lv 405) k (j1 Tryz.f405 0)) n (yg1 c0 v) K=jo k (jd1 K c0) (we1 K c0) c0 n v:=j6 (B:=yk1 k (jd1 K c0) (we1 K c0) c0) fun n v=>by kernel_rfl
theorem wm2 (k:Nat) (a0:List I2) (a1:Int) (a2:Int):y21 (k+1) a0 a1 a2=z2 (R:=Int) [0,0,1,7,8] (run E (den E k) (lv 405) k (j1 Tryz.f405 0)) k (yg1 (a0,a1,a2,(a0.length:Int)) 0) (z8 E (den E k) (lv 405) k (yc Tryz.f405) 0 [] (xa E (rs 405) Tryz.f405:Ex→St→Option (Int))):=by kernel_rfl
theorem xu2 (k:Nat) (a0:List I2) (a1:Int) (a2:Int):y21 (k+1) a0 a1 a2=jo k (fun (v0:Int) (x1:I2) (p2:Bool)=>some v0) (fun (v0:Int)=>some (-1)) (a0,a1,a2,(a0.length:Int)) k 0:=by
 rw [wm2]
 simp only [xl2]
 kernel_rfl
noncomputable def ww (k:Nat) (a0:List I2) (a1:Int) (a2:Int):Option (Bool):=den E k 388 [.c (.l 348 sI2 a0),.c (.clo 389 [.at_ [vI a1],.at_ [vI a2]])]
theorem vf2 (k:Nat) (a0:List I2) (a1:Int) (a2:Int):ww (k+1) a0 a1 a2=(y21 k a0 a1 a2).bind fun p1=>some (decide (p1≥0)):=by kernel_rfl
noncomputable def jd6 (k:Nat) (a0:j2) (a1:Int) (a2:Int) (a3:Int):Option (Bool):=den E k 353 [.agg (avs j4 a0),cI a1,cI a2,cI a3]
theorem yn9 (k:Nat) (a0:j2) (a1:Int) (a2:Int) (a3:Int):jd6 (k+1) a0 a1 a2 a3=(yp k a1 (a0.2.2.2.length:Int)).bind fun p1=>if (p1==true)=true then if 0≤a1 then ix a0.2.2.2 a1.toNat fun x2=>(ww k x2.2.1 a2 a3).bind fun p3=>some p3 else none else some false:=by kernel_rfl
noncomputable def yr5 (k:Nat) (a0:ze) (a1:Int):Option (Bool):=den E k 347 [.agg (avs we a0),.c (.at_ [vI a1])]
theorem jy7 (k:Nat) (a0:ze) (a1:Int):yr5 (k+1) a0 a1=(wo3 k a0.1 a1).bind fun p1=>some p1:=by kernel_rfl
noncomputable def v01 (k:Nat) (a0:List ze) (a1:Int):Option (Int):=den E k 346 [.c (.l 198 we a0),.c (.clo 347 [.at_ [vI a1]])]
abbrev yh:=(List ze)×Int×Int
abbrev j8:=Int
def ve1 (c0:yh) (v0:j8):St:=⟨19,0,[(0,.c (.l 198 we c0.1)),(1,.c (.clo 347 [.at_ [vI c0.2.1]])),(7,cI c0.2.2),(8,cI v0)],[]⟩
noncomputable def xi1 {R:Type} (k:Nat) (X0:j8→ze→Bool→Option R) (X1:j8→Option R) (c0:yh) (rec:j8→Option R) (v0:j8):Option R:=if (decide (v0<c0.2.2))=true then if 0≤v0 then ix c0.1 v0.toNat fun x1=>(yr5 k x1 c0.2.1).bind fun p2=>if p2=true then X0 v0 x1 p2 else rec (i64.wrap (v0+1)) else none else X1 v0
noncomputable def wo {R:Type} (k:Nat) (X0:j8→ze→Bool→Option R) (X1:j8→Option R) (c:yh):Nat→j8→Option R
 | 0,_=>none
 | n+1,v=>xi1 k X0 X1 c (wo k X0 X1 c n) v
def wd1 (K:Ex→St→Option R) (c0:yh) (v0:j8) (x1:ze) (p2:Bool):Option R:=K .ret ⟨19,0,[(0,.c (.l 198 we c0.1)),(1,.c (.clo 347 [.at_ [vI c0.2.1]])),(4,cI v0),(5,cI v0),(7,cI c0.2.2),(8,cI v0),(9,cB (decide (v0<c0.2.2))),(10,cI v0),(11,.c (.clo 347 [.at_ [vI c0.2.1]])),(12,.c (.l 198 we c0.1)),(13,cI v0),(14,.c (.at_ (avs we x1))),(15,.agg (avs we x1)),(16,cB p2),(17,cI v0)],[]⟩
def zd1 (K:Ex→St→Option R) (c0:yh) (v0:j8):Option R:=K (.exit 0) ⟨19,0,[(0,.c (.l 198 we c0.1)),(1,.c (.clo 347 [.at_ [vI c0.2.1]])),(7,cI c0.2.2),(8,cI v0),(9,cB (decide (v0<c0.2.2)))],[]⟩
theorem vi2 (k:Nat) (K:Ex→St→Option R) (c0:yh):∀(n:Nat) (v:j8),z2 [0,0,1,7,8] (run E (den E k) (lv 346) k (j1 Tryz.f346 0)) n (ve1 c0 v) K=wo k (wd1 K c0) (zd1 K c0) c0 n v:=j6 (B:=xi1 k (wd1 K c0) (zd1 K c0) c0) fun n v=>by kernel_rfl
theorem wh2 (k:Nat) (a0:List ze) (a1:Int):v01 (k+1) a0 a1=z2 (R:=Int) [0,0,1,7,8] (run E (den E k) (lv 346) k (j1 Tryz.f346 0)) k (ve1 (a0,a1,(a0.length:Int)) 0) (z8 E (den E k) (lv 346) k (yc Tryz.f346) 0 [] (xa E (rs 346) Tryz.f346:Ex→St→Option (Int))):=by kernel_rfl
theorem zp2 (k:Nat) (a0:List ze) (a1:Int):v01 (k+1) a0 a1=wo k (fun (v0:Int) (x1:ze) (p2:Bool)=>some v0) (fun (v0:Int)=>some (-1)) (a0,a1,(a0.length:Int)) k 0:=by
 rw [wh2]
 simp only [vi2]
 kernel_rfl
noncomputable def xg3 (k:Nat) (a0:j2) (a1:Int):Option (Int):=den E k 278 [.agg (avs j4 a0),cI a1]
theorem zw9 (k:Nat) (a0:j2) (a1:Int):xg3 (k+1) a0 a1=(v01 k a0.2.2.2 a1).bind fun p1=>some p1:=by kernel_rfl
noncomputable def yj5 (k:Nat) (a0:j2) (a1:Int) (a2:Int) (a3:Int):Option (Bool):=den E k 283 [.agg (avs j4 a0),cI a1,cI a2,cI a3]
theorem z29 (k:Nat) (a0:j2) (a1:Int) (a2:Int) (a3:Int):yj5 (k+1) a0 a1 a2 a3=(xg3 k a0 a3).bind fun p1=>(jd6 k a0 p1 a1 a2).bind fun p2=>some p2:=by kernel_rfl
noncomputable def jw2 (k:Nat) (a0:j2) (a1:Int):Option (Bool):=den E k 282 [.agg (avs j4 a0),cI a1]
theorem wg9 (k:Nat) (a0:j2) (a1:Int):jw2 (k+1) a0 a1=(jm k a0.2.2.1 0 5).bind fun p1=>if (p1==true)=true then (jm k a1 0 1000).bind fun p2=>some p2 else some false:=by kernel_rfl
noncomputable def z66 (k:Nat) (a0:j2) (a1:Int) (a2:Int) (a3:Int):Option (Bool):=den E k 206 [.agg (avs j4 a0),cI a1,cI a2,cI a3]
abbrev jv2:=Int×Int×Int×j2
abbrev vh1:=Int
def xa6 (c0:jv2) (v0:vh1):St:=⟨32,1,[(1,cI c0.1),(2,cI c0.2.1),(3,cI c0.2.2.1),(4,cP 0),(9,cI v0)],[(0,.var (avs j4 c0.2.2.2))]⟩
noncomputable def jz6 {R:Type} (k:Nat) (X0:vh1→Bool→Option R) (X1:vh1→Option R) (c0:jv2) (rec:vh1→Option R) (v0:vh1):Option R:=if (decide (v0≤(i64.wrap (c0.2.2.1+c0.2.2.2.2.2.1))))=true then (yj5 k c0.2.2.2 c0.1 c0.2.1 v0).bind fun p2=>if (!p2)=true then X0 v0 p2 else rec (i64.wrap (v0+1)) else X1 v0
noncomputable def ze4 {R:Type} (k:Nat) (X0:vh1→Bool→Option R) (X1:vh1→Option R) (c:jv2):Nat→vh1→Option R
 | 0,_=>none
 | n+1,v=>jz6 k X0 X1 c (ze4 k X0 X1 c n) v
def yl5 (K:Ex→St→Option R) (c0:jv2) (v0:vh1) (p2:Bool):Option R:=K .ret ⟨32,1,[(1,cI c0.1),(2,cI c0.2.1),(3,cI c0.2.2.1),(4,cP 0),(8,cB false),(9,cI v0),(18,cI v0),(19,cI c0.2.2.1),(20,.c (.ptr 0 2)),(21,cI c0.2.2.2.2.2.1),(22,cI (i64.wrap (c0.2.2.1+c0.2.2.2.2.2.1))),(23,cB (decide (v0≤(i64.wrap (c0.2.2.1+c0.2.2.2.2.2.1))))),(26,.agg (avs j4 c0.2.2.2)),(27,cI c0.1),(28,cI c0.2.1),(29,cI v0),(30,cB p2),(31,cB (!p2))],[(0,.var (avs j4 c0.2.2.2))]⟩
def wl5 (K:Ex→St→Option R) (c0:jv2) (v0:vh1):Option R:=K (.exit 0) ⟨32,1,[(1,cI c0.1),(2,cI c0.2.1),(3,cI c0.2.2.1),(4,cP 0),(9,cI v0),(18,cI v0),(19,cI c0.2.2.1),(20,.c (.ptr 0 2)),(21,cI c0.2.2.2.2.2.1),(22,cI (i64.wrap (c0.2.2.1+c0.2.2.2.2.2.1))),(23,cB (decide (v0≤(i64.wrap (c0.2.2.1+c0.2.2.2.2.2.1)))))],[(0,.var (avs j4 c0.2.2.2))]⟩
theorem zc9 (k:Nat) (K:Ex→St→Option R) (c0:jv2):∀(n:Nat) (v:vh1),z2 [0,1,2,3,4,9] (run E (den E k) (lv 206) k (j1 Tryz.f206 0)) n (xa6 c0 v) K=ze4 k (yl5 K c0) (wl5 K c0) c0 n v:=j6 (B:=jz6 k (yl5 K c0) (wl5 K c0) c0) fun n v=>by kernel_rfl
theorem w59 (k:Nat) (a0:j2) (a1:Int) (a2:Int) (a3:Int):z66 (k+1) a0 a1 a2 a3=(jw2 k a0 a3).bind fun p1=>if (!p1)=true then some false else z2 (R:=Bool) [0,1,2,3,4,9] (run E (den E k) (lv 206) k (j1 Tryz.f206 0)) k (xa6 (a1,a2,a3,a0) (i64.wrap (a3-a0.2.2.1))) (z8 E (den E k) (lv 206) k (yc Tryz.f206) 0 [] (xa E (rs 206) Tryz.f206:Ex→St→Option (Bool))):=by kernel_rfl
theorem zqa (k:Nat) (a0:j2) (a1:Int) (a2:Int) (a3:Int):z66 (k+1) a0 a1 a2 a3=(jw2 k a0 a3).bind fun p1=>if (!p1)=true then some false else ze4 k (fun (v0:Int) (p2:Bool)=>some false) (fun (v0:Int)=>some true) (a1,a2,a3,a0) k (i64.wrap (a3-a0.2.2.1)):=by
 rw [w59]
 simp only [zc9]
 kernel_rfl
noncomputable def wo4 (k:Nat) (a0:List Int) (a1:Int):Option (Int):=den E k 344 [.c (.l 3 (.i .i64) a0),cI a1]
abbrev xu1:=(List Int)×Int×Int
abbrev vt:=Int
def jg4 (c0:xu1) (v0:vt):St:=⟨19,0,[(0,.c (.l 3 (.i .i64) c0.1)),(1,cI c0.2.1),(7,cI c0.2.2),(8,cI v0)],[]⟩
noncomputable def j25 {R:Type} (k:Nat) (X0:vt→Int→Option R) (X1:vt→Option R) (c0:xu1) (rec:vt→Option R) (v0:vt):Option R:=if (decide (v0<c0.2.2))=true then if 0≤v0 then ix c0.1 v0.toNat fun x1=>if (c0.2.1==x1)=true then X0 v0 x1 else rec (i64.wrap (v0+1)) else none else X1 v0
noncomputable def js2 {R:Type} (k:Nat) (X0:vt→Int→Option R) (X1:vt→Option R) (c:xu1):Nat→vt→Option R
 | 0,_=>none
 | n+1,v=>j25 k X0 X1 c (js2 k X0 X1 c n) v
def x44 (K:Ex→St→Option R) (c0:xu1) (v0:vt) (x1:Int):Option R:=K .ret ⟨19,0,[(0,.c (.l 3 (.i .i64) c0.1)),(1,cI c0.2.1),(4,cI v0),(5,cI v0),(7,cI c0.2.2),(8,cI v0),(9,cB (decide (v0<c0.2.2))),(10,cI v0),(11,cI c0.2.1),(12,.c (.l 3 (.i .i64) c0.1)),(13,cI v0),(14,.c (.at_ [vI x1])),(15,cI x1),(16,cB (c0.2.1==x1)),(17,cI v0)],[]⟩
def w64 (K:Ex→St→Option R) (c0:xu1) (v0:vt):Option R:=K (.exit 0) ⟨19,0,[(0,.c (.l 3 (.i .i64) c0.1)),(1,cI c0.2.1),(7,cI c0.2.2),(8,cI v0),(9,cB (decide (v0<c0.2.2)))],[]⟩
theorem ve7 (k:Nat) (K:Ex→St→Option R) (c0:xu1):∀(n:Nat) (v:vt),z2 [0,0,1,7,8] (run E (den E k) (lv 344) k (j1 Tryz.f344 0)) n (jg4 c0 v) K=js2 k (x44 K c0) (w64 K c0) c0 n v:=j6 (B:=j25 k (x44 K c0) (w64 K c0) c0) fun n v=>by kernel_rfl
theorem yo7 (k:Nat) (a0:List Int) (a1:Int):wo4 (k+1) a0 a1=z2 (R:=Int) [0,0,1,7,8] (run E (den E k) (lv 344) k (j1 Tryz.f344 0)) k (jg4 (a0,a1,(a0.length:Int)) 0) (z8 E (den E k) (lv 344) k (yc Tryz.f344) 0 [] (xa E (rs 344) Tryz.f344:Ex→St→Option (Int))):=by kernel_rfl
theorem jd8 (k:Nat) (a0:List Int) (a1:Int):wo4 (k+1) a0 a1=js2 k (fun (v0:Int) (x1:Int)=>some v0) (fun (v0:Int)=>some (-1)) (a0,a1,(a0.length:Int)) k 0:=by
 rw [yo7]
 simp only [ve7]
 kernel_rfl
noncomputable def xn1 (k:Nat) (a0:List Int) (a1:Int):Option (Bool):=den E k 276 [.c (.l 3 (.i .i64) a0),cI a1]
theorem yw6 (k:Nat) (a0:List Int) (a1:Int):xn1 (k+1) a0 a1=(wo4 k a0 a1).bind fun p1=>some (decide (p1≥0)):=by kernel_rfl
noncomputable def j33 (k:Nat) (a0:Int):Option (Bool):=den E k 381 [cI a0]
theorem z74 (k:Nat) (a0:Int):j33 (k+1) a0=some (a0 !=a0):=by kernel_rfl
noncomputable def w95 (k:Nat) (a0:Int) (a1:Int):Option (Int):=den E k 351 [cI a0,cI a1]
theorem xb7 (k:Nat) (a0:Int) (a1:Int):w95 (k+1) a0 a1=(j33 k a0).bind fun p1=>(j33 k a1).bind fun p2=>if p1=true then if p2=true then some 0 else some (-1) else if p2=true then some 1 else if (decide (a0<a1))=true then some (-1) else if (decide (a0>a1))=true then some 1 else some 0:=by kernel_rfl
noncomputable def xg2 (k:Nat) (a0:Int) (a1:Int) (a2:Int) (a3:List Int) (a4:List Int):Option (Int):=den E k 350 [cI a0,cI a1,.c (.at_ [vI a2,.l 3 (.i .i64) a3,.l 3 (.i .i64) a4])]
theorem jr8 (k:Nat) (a0:Int) (a1:Int) (a2:Int) (a3:List Int) (a4:List Int):xg2 (k+1) a0 a1 a2 a3 a4=if 0≤a0 then ix a3 a0.toNat fun x1=>if 0≤a1 then ix a3 a1.toNat fun x2=>(w95 k x1 x2).bind fun p3=>some p3 else none else none:=by kernel_rfl
noncomputable def zc (k:Nat) (a0:List Int) (a1:Int) (a2:Int) (a3:Int) (a4:List Int) (a5:List Int):Option (List Int):=den E k 403 [.c (.l 3 (.i .i64) a0),cI a1,cI a2,.c (.clo 350 [.at_ [vI a3,.l 3 (.i .i64) a4,.l 3 (.i .i64) a5]])]
abbrev jd:=Int×Int×Int×(List Int)×(List Int)×Int
abbrev j3:=Int×(List Int)
def zx (c1:jd) (v1:j3):St:=⟨53,1,[(0,.c (.ref 0)),(1,cI c1.1),(2,cI c1.2.1),(3,.c (.clo 350 [.at_ [vI c1.2.2.1,.l 3 (.i .i64) c1.2.2.2.1,.l 3 (.i .i64) c1.2.2.2.2.1]])),(8,cI c1.2.2.2.2.2),(9,cI v1.1)],[(0,.arr 3 (.i .i64) v1.2)]⟩
noncomputable def jy {R:Type} (k:Nat) (X0:j3→Int→Int→Int→Option R) (X1:j3→Option R) (c1:jd) (rec:j3→Option R) (v1:j3):Option R:=if ((decide (v1.1>c1.1))==true)=true then if 0≤v1.1 then if v1.1<(v1.2.length:Int) then ix v1.2 v1.1.toNat fun x1=>if 0≤(i64.wrap (v1.1-1)) then if (i64.wrap (v1.1-1))<(v1.2.length:Int) then ix v1.2 ((i64.wrap (v1.1-1)).toNat) fun x2=>(xg2 k x1 x2 c1.2.2.1 c1.2.2.2.1 c1.2.2.2.2.1).bind fun p3=>if (decide (p3<0))=true then if 0≤(i64.wrap (v1.1-1)) then if (i64.wrap (v1.1-1))<(v1.2.length:Int) then ix v1.2 ((i64.wrap (v1.1-1)).toNat) fun x4=>if 0≤v1.1 then if v1.1<(v1.2.length:Int) then ix v1.2 v1.1.toNat fun x5=>if 0≤v1.1 then if v1.1<(v1.2.length:Int) then ix v1.2 v1.1.toNat fun y6=>if 0≤(i64.wrap (v1.1-1)) then if (i64.wrap (v1.1-1))<((v1.2.set v1.1.toNat x4).length:Int) then ix (v1.2.set v1.1.toNat x4) ((i64.wrap (v1.1-1)).toNat) fun y7=>rec ((i64.wrap (v1.1-1)),((v1.2.set v1.1.toNat x4).set ((i64.wrap (v1.1-1)).toNat) x5)) else none else none else none else none else none else none else none else none else X0 v1 x1 x2 p3 else none else none else none else none else X1 v1
noncomputable def vf {R:Type} (k:Nat) (X0:j3→Int→Int→Int→Option R) (X1:j3→Option R) (c:jd):Nat→j3→Option R
 | 0,_=>none
 | n+1,v=>jy k X0 X1 c (vf k X0 X1 c n) v
def yw (K:Ex→St→Option R) (c1:jd) (v1:j3) (x1:Int) (x2:Int) (p3:Int):Option R:=K (.exit 2) ⟨53,1,[(0,.c (.ref 0)),(1,cI c1.1),(2,cI c1.2.1),(3,.c (.clo 350 [.at_ [vI c1.2.2.1,.l 3 (.i .i64) c1.2.2.2.1,.l 3 (.i .i64) c1.2.2.2.2.1]])),(8,cI c1.2.2.2.2.2),(9,cI v1.1),(18,cI v1.1),(19,cI c1.1),(20,cB (decide (v1.1>c1.1))),(21,cB true),(22,.c (.clo 350 [.at_ [vI c1.2.2.1,.l 3 (.i .i64) c1.2.2.2.1,.l 3 (.i .i64) c1.2.2.2.2.1]])),(23,.c (.ref 0)),(24,cI v1.1),(25,.c (.el 0 1 v1.1.toNat 0)),(26,cI x1),(27,.c (.ref 0)),(28,cI v1.1),(29,cI (i64.wrap (v1.1-1))),(30,.c (.el 0 1 ((i64.wrap (v1.1-1)).toNat) 0)),(31,cI x2),(32,cI p3),(33,cB (decide (p3<0))),(34,cB (decide (p3<0)))],[(0,.arr 3 (.i .i64) v1.2)]⟩
def xw (K:Ex→St→Option R) (c1:jd) (v1:j3):Option R:=K (.exit 2) ⟨53,1,[(0,.c (.ref 0)),(1,cI c1.1),(2,cI c1.2.1),(3,.c (.clo 350 [.at_ [vI c1.2.2.1,.l 3 (.i .i64) c1.2.2.2.1,.l 3 (.i .i64) c1.2.2.2.2.1]])),(8,cI c1.2.2.2.2.2),(9,cI v1.1),(18,cI v1.1),(19,cI c1.1),(20,cB (decide (v1.1>c1.1))),(21,cB false),(22,.tup []),(23,.tup []),(24,.tup []),(25,.tup []),(26,.tup []),(27,.tup []),(28,.tup []),(29,.tup []),(30,.tup []),(31,.tup []),(32,.tup []),(33,.tup []),(34,cB false)],[(0,.arr 3 (.i .i64) v1.2)]⟩
theorem wr1 (k:Nat) (K:Ex→St→Option R) (c1:jd):∀(n:Nat) (v:j3),z2 [1,0,1,2,3,8,9] (run E (den E k) (lv 403) k (j1 Tryz.f403 1)) n (zx c1 v) K=vf k (yw K c1) (xw K c1) c1 n v:=j6 (B:=jy k (yw K c1) (xw K c1) c1) fun n v=>by kernel_rfl
abbrev xd:=Int×Int×Int×(List Int)×(List Int)
abbrev v6:=Int×(List Int)
def je (c0:xd) (v0:v6):St:=⟨53,1,[(0,.c (.ref 0)),(1,cI c0.1),(2,cI c0.2.1),(3,.c (.clo 350 [.at_ (avs z7 c0.2.2)])),(8,cI v0.1)],[(0,.arr 3 (.i .i64) v0.2)]⟩
noncomputable def wn {R:Type} (k:Nat) (X0:v6→Option R) (c0:xd) (rec:v6→Option R) (v0:v6):Option R:=if (decide (v0.1<c0.2.1))=true then vf k (fun (v1:Int×(List Int)) (x1:Int) (x2:Int) (p3:Int)=>rec ((i64.wrap (v0.1+1)),v1.2)) (fun (v1:Int×(List Int))=>rec ((i64.wrap (v0.1+1)),v1.2)) (c0.1,c0.2.1,c0.2.2.1,c0.2.2.2.1,c0.2.2.2.2,v0.1) k v0 else X0 v0
noncomputable def wd {R:Type} (k:Nat) (X0:v6→Option R) (c:xd):Nat→v6→Option R
 | 0,_=>none
 | n+1,v=>wn k X0 c (wd k X0 c n) v
def vm (K:Ex→St→Option R) (c0:xd) (v0:v6):Option R:=K (.exit 0) ⟨53,1,[(0,.c (.ref 0)),(1,cI c0.1),(2,cI c0.2.1),(3,.c (.clo 350 [.at_ (avs z7 c0.2.2)])),(8,cI v0.1),(12,cI v0.1),(13,cI c0.2.1),(14,cB (decide (v0.1<c0.2.1)))],[(0,.arr 3 (.i .i64) v0.2)]⟩
theorem jm1 (k n:Nat) (K:Ex→St→Option R) (c0:xd) (v0:v6):z2 [1,0,1,2,3,8] (run E (den E k) (lv 403) k (j1 Tryz.f403 0)) (n+1) (je c0 v0) K=if (decide (v0.1<c0.2.1))=true then z2 [1,0,1,2,3,8,9] (run E (den E k) (lv 403) k (j1 Tryz.f403 1)) k (zx (c0.1,c0.2.1,c0.2.2.1,c0.2.2.2.1,c0.2.2.2.2,v0.1) v0) (z8 E (den E k) (lv 403) k (.loop (j1 Tryz.f403 0)) (1-0) [(n,[1,0,1,2,3,8])] K) else K (.exit 0) ⟨53,1,[(0,.c (.ref 0)),(1,cI c0.1),(2,cI c0.2.1),(3,.c (.clo 350 [.at_ (avs z7 c0.2.2)])),(8,cI v0.1),(12,cI v0.1),(13,cI c0.2.1),(14,cB (decide (v0.1<c0.2.1)))],[(0,.arr 3 (.i .i64) v0.2)]⟩:=by kernel_rfl
theorem vq1 (k n:Nat) (K:Ex→St→Option R) (c0:xd) (v:v6):z2 [1,0,1,2,3,8] (run E (den E k) (lv 403) k (j1 Tryz.f403 0)) (n+1) (je c0 v) K=wn k (vm K c0) c0 (fun v=>z2 [1,0,1,2,3,8] (run E (den E k) (lv 403) k (j1 Tryz.f403 0)) n (je c0 v) K) v:=by
 rw [jm1]
 simp only [wr1]
 kernel_rfl
theorem zs1 (k:Nat) (K:Ex→St→Option R) (c0:xd):∀(n:Nat) (v:v6),z2 [1,0,1,2,3,8] (run E (den E k) (lv 403) k (j1 Tryz.f403 0)) n (je c0 v) K=wd k (vm K c0) c0 n v:=ji2 (B:=wn k (vm K c0) c0) (fun _=>rfl) (fun n v=>vq1 k n K c0 v) (fun _=>rfl) (fun _ _=>rfl)
theorem wp1 (k:Nat) (a0:List Int) (a1:Int) (a2:Int) (a3:Int) (a4:List Int) (a5:List Int):zc (k+1) a0 a1 a2 a3 a4 a5=z2 (R:=List Int) [1,0,1,2,3,8] (run E (den E k) (lv 403) k (j1 Tryz.f403 0)) k (je (a1,a2,a3,a4,a5) ((i64.wrap (a1+1)),a0)) (z8 E (den E k) (lv 403) k (yc Tryz.f403) 0 [] (xa E (rs 403) Tryz.f403:Ex→St→Option (List Int))):=by kernel_rfl
theorem wx1 (k:Nat) (a0:List Int) (a1:Int) (a2:Int) (a3:Int) (a4:List Int) (a5:List Int):zc (k+1) a0 a1 a2 a3 a4 a5=wd k (fun (v0:Int×(List Int))=>some v0.2) (a1,a2,a3,a4,a5) k ((i64.wrap (a1+1)),a0):=by
 rw [wp1]
 simp only [zs1]
 kernel_rfl
noncomputable def xe (k:Nat) (a0:List Int) (a1:Int) (a2:Int) (a3:Int) (a4:Int) (a5:List Int) (a6:List Int):Option (List Int):=den E k 416 [.c (.l 3 (.i .i64) a0),cI a1,cI a2,cI a3,.c (.clo 350 [.at_ [vI a4,.l 3 (.i .i64) a5,.l 3 (.i .i64) a6]])]
abbrev xh:=Int×Int×Int
abbrev za:=Int×(List Int)
def j21 (c0:xh) (v0:za):St:=⟨38,1,[(0,.c (.ref 0)),(1,cI c0.1),(2,cI c0.2.1),(3,cI c0.2.2),(10,cI v0.1)],[(0,.arr 3 (.i .i64) v0.2)]⟩
noncomputable def v61 {R:Type} (k:Nat) (X0:za→Option R) (c0:xh) (rec:za→Option R) (v0:za):Option R:=if (decide (v0.1<c0.2.2))=true then if 0≤(i64.wrap (c0.2.1+v0.1)) then if (i64.wrap (c0.2.1+v0.1))<(v0.2.length:Int) then ix v0.2 ((i64.wrap (c0.2.1+v0.1)).toNat) fun x1=>if 0≤(i64.wrap (c0.1+v0.1)) then if (i64.wrap (c0.1+v0.1))<(v0.2.length:Int) then ix v0.2 ((i64.wrap (c0.1+v0.1)).toNat) fun x2=>if 0≤(i64.wrap (c0.1+v0.1)) then if (i64.wrap (c0.1+v0.1))<(v0.2.length:Int) then ix v0.2 ((i64.wrap (c0.1+v0.1)).toNat) fun y3=>if 0≤(i64.wrap (c0.2.1+v0.1)) then if (i64.wrap (c0.2.1+v0.1))<((v0.2.set ((i64.wrap (c0.1+v0.1)).toNat) x1).length:Int) then ix (v0.2.set ((i64.wrap (c0.1+v0.1)).toNat) x1) ((i64.wrap (c0.2.1+v0.1)).toNat) fun y4=>rec ((i64.wrap (v0.1+1)),((v0.2.set ((i64.wrap (c0.1+v0.1)).toNat) x1).set ((i64.wrap (c0.2.1+v0.1)).toNat) x2)) else none else none else none else none else none else none else none else none else X0 v0
noncomputable def vl {R:Type} (k:Nat) (X0:za→Option R) (c:xh):Nat→za→Option R
 | 0,_=>none
 | n+1,v=>v61 k X0 c (vl k X0 c n) v
def z11 (K:Ex→St→Option R) (c0:xh) (v0:za):Option R:=K (.exit 0) ⟨38,1,[(0,.c (.ref 0)),(1,cI c0.1),(2,cI c0.2.1),(3,cI c0.2.2),(10,cI v0.1),(11,cI v0.1),(12,cI c0.2.2),(13,cB (decide (v0.1<c0.2.2)))],[(0,.arr 3 (.i .i64) v0.2)]⟩
theorem v12 (k:Nat) (K:Ex→St→Option R) (c0:xh):∀(n:Nat) (v:za),z2 [1,0,1,2,3,10] (run E (den E k) (lv 416) k (j1 Tryz.f416 0)) n (j21 c0 v) K=vl k (z11 K c0) c0 n v:=j6 (B:=v61 k (z11 K c0) c0) fun n v=>by kernel_rfl
theorem x22 (k:Nat) (a0:List Int) (a1:Int) (a2:Int) (a3:Int) (a4:Int) (a5:List Int) (a6:List Int):xe (k+1) a0 a1 a2 a3 a4 a5 a6=z2 (R:=List Int) [1,0,1,2,3,10] (run E (den E k) (lv 416) k (j1 Tryz.f416 0)) k (j21 (a1,a2,a3) (0,a0)) (z8 E (den E k) (lv 416) k (yc Tryz.f416) 0 [] (xa E (rs 416) Tryz.f416:Ex→St→Option (List Int))):=by kernel_rfl
theorem yd2 (k:Nat) (a0:List Int) (a1:Int) (a2:Int) (a3:Int) (a4:Int) (a5:List Int) (a6:List Int):xe (k+1) a0 a1 a2 a3 a4 a5 a6=vl k (fun (v0:Int×(List Int))=>some v0.2) (a1,a2,a3) k (0,a0):=by
 rw [x22]
 simp only [v12]
 kernel_rfl
noncomputable def ye (k:Nat) (a0:List Int) (a1:Int) (a2:Int) (a3:Int) (a4:Int) (a5:List Int) (a6:List Int):Option (List Int):=den E k 415 [.c (.l 3 (.i .i64) a0),cI a1,cI a2,cI a3,.c (.clo 350 [.at_ [vI a4,.l 3 (.i .i64) a5,.l 3 (.i .i64) a6]])]
abbrev xk:=Int×Int×(List Int)×(List Int)
abbrev yd:=Int×Int×(List Int)
def xb1 (c0:xk) (v0:yd):St:=⟨58,1,[(0,.c (.ref 0)),(2,cI c0.1),(4,.c (.clo 350 [.at_ (avs z7 c0.2)])),(10,cI v0.1),(11,cI v0.2.1)],[(0,.arr 3 (.i .i64) v0.2.2)]⟩
noncomputable def ze1 {R:Type} (k:Nat) (X0:yd→Option R) (c0:xk) (rec:yd→Option R) (v0:yd):Option R:=if (v0.1 !=v0.2.1)=true then if (decide (v0.1>v0.2.1))=true then (xe k v0.2.2 (i64.wrap (c0.1-v0.1)) c0.1 v0.2.1 c0.2.1 c0.2.2.1 c0.2.2.2).bind fun p1=>rec ((i64.wrap (v0.1-v0.2.1)),v0.2.1,p1) else (xe k v0.2.2 (i64.wrap (c0.1-v0.1)) (i64.wrap ((i64.wrap (c0.1+v0.2.1))-v0.1)) v0.1 c0.2.1 c0.2.2.1 c0.2.2.2).bind fun p2=>rec (v0.1,(i64.wrap (v0.2.1-v0.1)),p2) else X0 v0
noncomputable def yn {R:Type} (k:Nat) (X0:yd→Option R) (c:xk):Nat→yd→Option R
 | 0,_=>none
 | n+1,v=>ze1 k X0 c (yn k X0 c n) v
def z91 (K:Ex→St→Option R) (c0:xk) (v0:yd):Option R:=K (.exit 0) ⟨58,1,[(0,.c (.ref 0)),(2,cI c0.1),(4,.c (.clo 350 [.at_ (avs z7 c0.2)])),(10,cI v0.1),(11,cI v0.2.1),(18,cI v0.1),(19,cI v0.2.1),(20,cB (v0.1 !=v0.2.1))],[(0,.arr 3 (.i .i64) v0.2.2)]⟩
theorem ze2 (k:Nat) (K:Ex→St→Option R) (c0:xk):∀(n:Nat) (v:yd),z2 [1,0,2,4,10,11] (run E (den E k) (lv 415) k (j1 Tryz.f415 0)) n (xb1 c0 v) K=yn k (z91 K c0) c0 n v:=j6 (B:=ze1 k (z91 K c0) c0) fun n v=>by kernel_rfl
theorem je2 (k:Nat) (a0:List Int) (a1:Int) (a2:Int) (a3:Int) (a4:Int) (a5:List Int) (a6:List Int):ye (k+1) a0 a1 a2 a3 a4 a5 a6=z2 (R:=List Int) [1,0,2,4,10,11] (run E (den E k) (lv 415) k (j1 Tryz.f415 0)) k (xb1 (a2,a4,a5,a6) ((i64.wrap (a2-a1)),(i64.wrap (a3-a2)),a0)) (z8 E (den E k) (lv 415) k (yc Tryz.f415) 0 [] (xa E (rs 415) Tryz.f415:Ex→St→Option (List Int))):=by kernel_rfl
theorem jn2 (k:Nat) (a0:List Int) (a1:Int) (a2:Int) (a3:Int) (a4:Int) (a5:List Int) (a6:List Int):ye (k+1) a0 a1 a2 a3 a4 a5 a6=yn k (fun (v0:Int×Int×(List Int))=>(xe k v0.2.2 (i64.wrap (a2-v0.1)) a2 v0.1 a4 a5 a6).bind fun p1=>some p1) (a2,a4,a5,a6) k ((i64.wrap (a2-a1)),(i64.wrap (a3-a2)),a0):=by
 rw [je2]
 simp only [ze2]
 kernel_rfl
noncomputable def j0 (k:Nat) (a0:List Int) (a1:Int) (a2:Int) (a3:Int) (a4:Int) (a5:List Int) (a6:List Int):Option (List Int):=den E k 404 [.c (.l 3 (.i .i64) a0),cI a1,cI a2,cI a3,.c (.clo 350 [.at_ [vI a4,.l 3 (.i .i64) a5,.l 3 (.i .i64) a6]])]
abbrev jh:=Int×Int×Int×Int×(List Int)×(List Int)×Int×Int×Int×(List Int)
abbrev ja:=Int×Int
def jq (c4:jh) (v4:ja):St:=⟨220,1,[(0,.c (.ref 0)),(1,cI c4.1),(2,cI c4.2.1),(3,cI c4.2.2.1),(4,.c (.clo 350 [.at_ [vI c4.2.2.2.1,.l 3 (.i .i64) c4.2.2.2.2.1,.l 3 (.i .i64) c4.2.2.2.2.2.1]])),(18,cI c4.2.2.2.2.2.2.1),(19,cI c4.2.2.2.2.2.2.2.1),(20,cI v4.1),(21,cI v4.2),(22,cI c4.2.2.2.2.2.2.2.2.1)],[(0,.arr 3 (.i .i64) c4.2.2.2.2.2.2.2.2.2)]⟩
noncomputable def w81 {R:Type} (k:Nat) (X0:ja→Option R) (c4:jh) (rec:ja→Option R) (v4:ja):Option R:=if (decide (v4.1<v4.2))=true then if 0≤(i64.wrap (c4.2.2.2.2.2.2.2.2.1-(i64.wrap (((u64.wrap (i64.wrap (v4.1+v4.2)))).fdiv (2^(min (1:Int).toNat u64.bits)))))) then if (i64.wrap (c4.2.2.2.2.2.2.2.2.1-(i64.wrap (((u64.wrap (i64.wrap (v4.1+v4.2)))).fdiv (2^(min (1:Int).toNat u64.bits))))))<(c4.2.2.2.2.2.2.2.2.2.length:Int) then ix c4.2.2.2.2.2.2.2.2.2 ((i64.wrap (c4.2.2.2.2.2.2.2.2.1-(i64.wrap (((u64.wrap (i64.wrap (v4.1+v4.2)))).fdiv (2^(min (1:Int).toNat u64.bits)))))).toNat) fun x7=>if 0≤(i64.wrap (((u64.wrap (i64.wrap (v4.1+v4.2)))).fdiv (2^(min (1:Int).toNat u64.bits)))) then if (i64.wrap (((u64.wrap (i64.wrap (v4.1+v4.2)))).fdiv (2^(min (1:Int).toNat u64.bits))))<(c4.2.2.2.2.2.2.2.2.2.length:Int) then ix c4.2.2.2.2.2.2.2.2.2 ((i64.wrap (((u64.wrap (i64.wrap (v4.1+v4.2)))).fdiv (2^(min (1:Int).toNat u64.bits)))).toNat) fun x8=>(xg2 k x7 x8 c4.2.2.2.1 c4.2.2.2.2.1 c4.2.2.2.2.2.1).bind fun p9=>if (!(decide (p9<0)))=true then rec ((i64.wrap ((i64.wrap (((u64.wrap (i64.wrap (v4.1+v4.2)))).fdiv (2^(min (1:Int).toNat u64.bits))))+1)),v4.2) else rec (v4.1,(i64.wrap (((u64.wrap (i64.wrap (v4.1+v4.2)))).fdiv (2^(min (1:Int).toNat u64.bits))))) else none else none else none else none else X0 v4
noncomputable def v8 {R:Type} (k:Nat) (X0:ja→Option R) (c:jh):Nat→ja→Option R
 | 0,_=>none
 | n+1,v=>w81 k X0 c (v8 k X0 c n) v
def v31 (K:Ex→St→Option R) (c4:jh) (v4:ja):Option R:=K (.exit 8) ⟨220,1,[(0,.c (.ref 0)),(1,cI c4.1),(2,cI c4.2.1),(3,cI c4.2.2.1),(4,.c (.clo 350 [.at_ [vI c4.2.2.2.1,.l 3 (.i .i64) c4.2.2.2.2.1,.l 3 (.i .i64) c4.2.2.2.2.2.1]])),(18,cI c4.2.2.2.2.2.2.1),(19,cI c4.2.2.2.2.2.2.2.1),(20,cI v4.1),(21,cI v4.2),(22,cI c4.2.2.2.2.2.2.2.2.1),(149,cI v4.1),(150,cI v4.2),(151,cB (decide (v4.1<v4.2)))],[(0,.arr 3 (.i .i64) c4.2.2.2.2.2.2.2.2.2)]⟩
theorem y72 (k:Nat) (K:Ex→St→Option R) (c4:jh):∀(n:Nat) (v:ja),z2 [1,0,1,2,3,4,18,19,20,21,22] (run E (den E k) (lv 404) k (j1 Tryz.f404 4)) n (jq c4 v) K=v8 k (v31 K c4) c4 n v:=j6 (B:=w81 k (v31 K c4) c4) fun n v=>by kernel_rfl
abbrev wi:=Int×Int×Int×Int×(List Int)×(List Int)×Int×Int
abbrev jb:=Int×(List Int)
def y51 (c3:wi) (v3:jb):St:=⟨220,1,[(0,.c (.ref 0)),(1,cI c3.1),(2,cI c3.2.1),(3,cI c3.2.2.1),(4,.c (.clo 350 [.at_ [vI c3.2.2.2.1,.l 3 (.i .i64) c3.2.2.2.2.1,.l 3 (.i .i64) c3.2.2.2.2.2.1]])),(14,cI c3.2.2.2.2.2.2.1),(15,cI c3.2.2.2.2.2.2.2),(17,cI v3.1)],[(0,.arr 3 (.i .i64) v3.2)]⟩
noncomputable def v81 {R:Type} (k:Nat) (X0:jb→Option R) (c3:wi) (rec:jb→Option R) (v3:jb):Option R:=if (decide (v3.1>c3.2.2.2.2.2.2.1))=true then if 0≤(i64.wrap (v3.1-1)) then if (i64.wrap (v3.1-1))<(v3.2.length:Int) then ix v3.2 ((i64.wrap (v3.1-1)).toNat) fun x5=>if 0≤v3.1 then if v3.1<(v3.2.length:Int) then ix v3.2 v3.1.toNat fun x6=>if 0≤v3.1 then if v3.1<(v3.2.length:Int) then ix v3.2 v3.1.toNat fun y7=>if 0≤(i64.wrap (v3.1-1)) then if (i64.wrap (v3.1-1))<((v3.2.set v3.1.toNat x5).length:Int) then ix (v3.2.set v3.1.toNat x5) ((i64.wrap (v3.1-1)).toNat) fun y8=>rec ((i64.wrap (v3.1-1)),((v3.2.set v3.1.toNat x5).set ((i64.wrap (v3.1-1)).toNat) x6)) else none else none else none else none else none else none else none else none else X0 v3
noncomputable def yi {R:Type} (k:Nat) (X0:jb→Option R) (c:wi):Nat→jb→Option R
 | 0,_=>none
 | n+1,v=>v81 k X0 c (yi k X0 c n) v
def w31 (K:Ex→St→Option R) (c3:wi) (v3:jb):Option R:=K (.exit 6) ⟨220,1,[(0,.c (.ref 0)),(1,cI c3.1),(2,cI c3.2.1),(3,cI c3.2.2.1),(4,.c (.clo 350 [.at_ [vI c3.2.2.2.1,.l 3 (.i .i64) c3.2.2.2.2.1,.l 3 (.i .i64) c3.2.2.2.2.2.1]])),(14,cI c3.2.2.2.2.2.2.1),(15,cI c3.2.2.2.2.2.2.2),(17,cI v3.1),(108,cI v3.1),(109,cI c3.2.2.2.2.2.2.1),(110,cB (decide (v3.1>c3.2.2.2.2.2.2.1)))],[(0,.arr 3 (.i .i64) v3.2)]⟩
theorem x72 (k:Nat) (K:Ex→St→Option R) (c3:wi):∀(n:Nat) (v:jb),z2 [1,0,1,2,3,4,14,15,17] (run E (den E k) (lv 404) k (j1 Tryz.f404 3)) n (y51 c3 v) K=yi k (w31 K c3) c3 n v:=j6 (B:=v81 k (w31 K c3) c3) fun n v=>by kernel_rfl
abbrev vh:=Int×Int×Int×Int×(List Int)×(List Int)×(List Int)
abbrev zb:=Int×Int
def y71 (c2:vh) (v2:zb):St:=⟨220,1,[(0,.c (.ref 0)),(1,cI c2.1),(2,cI c2.2.1),(3,cI c2.2.2.1),(4,.c (.clo 350 [.at_ [vI c2.2.2.2.1,.l 3 (.i .i64) c2.2.2.2.2.1,.l 3 (.i .i64) c2.2.2.2.2.2.1]])),(14,cI v2.1),(15,cI v2.2)],[(0,.arr 3 (.i .i64) c2.2.2.2.2.2.2)]⟩
noncomputable def w91 {R:Type} (k:Nat) (X0:zb→Option R) (c2:vh) (rec:zb→Option R) (v2:zb):Option R:=if (decide (v2.1<v2.2))=true then if 0≤c2.2.1 then if c2.2.1<(c2.2.2.2.2.2.2.length:Int) then ix c2.2.2.2.2.2.2 c2.2.1.toNat fun x4=>if 0≤(i64.wrap (((u64.wrap (i64.wrap (v2.1+v2.2)))).fdiv (2^(min (1:Int).toNat u64.bits)))) then if (i64.wrap (((u64.wrap (i64.wrap (v2.1+v2.2)))).fdiv (2^(min (1:Int).toNat u64.bits))))<(c2.2.2.2.2.2.2.length:Int) then ix c2.2.2.2.2.2.2 ((i64.wrap (((u64.wrap (i64.wrap (v2.1+v2.2)))).fdiv (2^(min (1:Int).toNat u64.bits)))).toNat) fun x5=>(xg2 k x4 x5 c2.2.2.2.1 c2.2.2.2.2.1 c2.2.2.2.2.2.1).bind fun p6=>if (!(decide (p6<0)))=true then rec ((i64.wrap ((i64.wrap (((u64.wrap (i64.wrap (v2.1+v2.2)))).fdiv (2^(min (1:Int).toNat u64.bits))))+1)),v2.2) else rec (v2.1,(i64.wrap (((u64.wrap (i64.wrap (v2.1+v2.2)))).fdiv (2^(min (1:Int).toNat u64.bits))))) else none else none else none else none else X0 v2
noncomputable def xf {R:Type} (k:Nat) (X0:zb→Option R) (c:vh):Nat→zb→Option R
 | 0,_=>none
 | n+1,v=>w91 k X0 c (xf k X0 c n) v
def v21 (K:Ex→St→Option R) (c2:vh) (v2:zb):Option R:=K (.exit 4) ⟨220,1,[(0,.c (.ref 0)),(1,cI c2.1),(2,cI c2.2.1),(3,cI c2.2.2.1),(4,.c (.clo 350 [.at_ [vI c2.2.2.2.1,.l 3 (.i .i64) c2.2.2.2.2.1,.l 3 (.i .i64) c2.2.2.2.2.2.1]])),(14,cI v2.1),(15,cI v2.2),(83,cI v2.1),(84,cI v2.2),(85,cB (decide (v2.1<v2.2)))],[(0,.arr 3 (.i .i64) c2.2.2.2.2.2.2)]⟩
theorem v72 (k:Nat) (K:Ex→St→Option R) (c2:vh):∀(n:Nat) (v:zb),z2 [1,0,1,2,3,4,14,15] (run E (den E k) (lv 404) k (j1 Tryz.f404 2)) n (y71 c2 v) K=xf k (v21 K c2) c2 n v:=j6 (B:=w91 k (v21 K c2) c2) fun n v=>by kernel_rfl
abbrev zi:=Int×Int×Int×Int×(List Int)×(List Int)×Int×Int
abbrev yb:=Int×(List Int)
def y61 (c1:zi) (v1:yb):St:=⟨220,1,[(0,.c (.ref 0)),(1,cI c1.1),(2,cI c1.2.1),(3,cI c1.2.2.1),(4,.c (.clo 350 [.at_ [vI c1.2.2.2.1,.l 3 (.i .i64) c1.2.2.2.2.1,.l 3 (.i .i64) c1.2.2.2.2.2.1]])),(10,cI c1.2.2.2.2.2.2.1),(11,cI c1.2.2.2.2.2.2.2),(13,cI v1.1)],[(0,.arr 3 (.i .i64) v1.2)]⟩
noncomputable def v91 {R:Type} (k:Nat) (X0:yb→Option R) (c1:zi) (rec:yb→Option R) (v1:yb):Option R:=if (decide (v1.1<(i64.wrap (c1.2.2.2.2.2.2.1-1))))=true then if 0≤(i64.wrap (v1.1+1)) then if (i64.wrap (v1.1+1))<(v1.2.length:Int) then ix v1.2 ((i64.wrap (v1.1+1)).toNat) fun x1=>if 0≤v1.1 then if v1.1<(v1.2.length:Int) then ix v1.2 v1.1.toNat fun x2=>if 0≤v1.1 then if v1.1<(v1.2.length:Int) then ix v1.2 v1.1.toNat fun y3=>if 0≤(i64.wrap (v1.1+1)) then if (i64.wrap (v1.1+1))<((v1.2.set v1.1.toNat x1).length:Int) then ix (v1.2.set v1.1.toNat x1) ((i64.wrap (v1.1+1)).toNat) fun y4=>rec ((i64.wrap (v1.1+1)),((v1.2.set v1.1.toNat x1).set ((i64.wrap (v1.1+1)).toNat) x2)) else none else none else none else none else none else none else none else none else X0 v1
noncomputable def vi {R:Type} (k:Nat) (X0:yb→Option R) (c:zi):Nat→yb→Option R
 | 0,_=>none
 | n+1,v=>v91 k X0 c (vi k X0 c n) v
def z31 (K:Ex→St→Option R) (c1:zi) (v1:yb):Option R:=K (.exit 2) ⟨220,1,[(0,.c (.ref 0)),(1,cI c1.1),(2,cI c1.2.1),(3,cI c1.2.2.1),(4,.c (.clo 350 [.at_ [vI c1.2.2.2.1,.l 3 (.i .i64) c1.2.2.2.2.1,.l 3 (.i .i64) c1.2.2.2.2.2.1]])),(10,cI c1.2.2.2.2.2.2.1),(11,cI c1.2.2.2.2.2.2.2),(13,cI v1.1),(55,cI v1.1),(56,cI c1.2.2.2.2.2.2.1),(57,cI (i64.wrap (c1.2.2.2.2.2.2.1-1))),(58,cB (decide (v1.1<(i64.wrap (c1.2.2.2.2.2.2.1-1)))))],[(0,.arr 3 (.i .i64) v1.2)]⟩
theorem j72 (k:Nat) (K:Ex→St→Option R) (c1:zi):∀(n:Nat) (v:yb),z2 [1,0,1,2,3,4,10,11,13] (run E (den E k) (lv 404) k (j1 Tryz.f404 1)) n (y61 c1 v) K=vi k (z31 K c1) c1 n v:=j6 (B:=v91 k (z31 K c1) c1) fun n v=>by kernel_rfl
abbrev ji:=Int×Int×Int×Int×(List Int)×(List Int)×(List Int)
abbrev xb:=Int×Int
def z71 (c0:ji) (v0:xb):St:=⟨220,1,[(0,.c (.ref 0)),(1,cI c0.1),(2,cI c0.2.1),(3,cI c0.2.2.1),(4,.c (.clo 350 [.at_ [vI c0.2.2.2.1,.l 3 (.i .i64) c0.2.2.2.2.1,.l 3 (.i .i64) c0.2.2.2.2.2.1]])),(10,cI v0.1),(11,cI v0.2)],[(0,.arr 3 (.i .i64) c0.2.2.2.2.2.2)]⟩
noncomputable def y91 {R:Type} (k:Nat) (X0:xb→Option R) (c0:ji) (rec:xb→Option R) (v0:xb):Option R:=if (decide (v0.1<v0.2))=true then if 0≤(i64.wrap (((u64.wrap (i64.wrap (v0.1+v0.2)))).fdiv (2^(min (1:Int).toNat u64.bits)))) then if (i64.wrap (((u64.wrap (i64.wrap (v0.1+v0.2)))).fdiv (2^(min (1:Int).toNat u64.bits))))<(c0.2.2.2.2.2.2.length:Int) then ix c0.2.2.2.2.2.2 ((i64.wrap (((u64.wrap (i64.wrap (v0.1+v0.2)))).fdiv (2^(min (1:Int).toNat u64.bits)))).toNat) fun x1=>if 0≤c0.1 then if c0.1<(c0.2.2.2.2.2.2.length:Int) then ix c0.2.2.2.2.2.2 c0.1.toNat fun x2=>(xg2 k x1 x2 c0.2.2.2.1 c0.2.2.2.2.1 c0.2.2.2.2.2.1).bind fun p3=>if (decide (p3<0))=true then rec ((i64.wrap ((i64.wrap (((u64.wrap (i64.wrap (v0.1+v0.2)))).fdiv (2^(min (1:Int).toNat u64.bits))))+1)),v0.2) else rec (v0.1,(i64.wrap (((u64.wrap (i64.wrap (v0.1+v0.2)))).fdiv (2^(min (1:Int).toNat u64.bits))))) else none else none else none else none else X0 v0
noncomputable def yf {R:Type} (k:Nat) (X0:xb→Option R) (c:ji):Nat→xb→Option R
 | 0,_=>none
 | n+1,v=>y91 k X0 c (yf k X0 c n) v
def y41 (K:Ex→St→Option R) (c0:ji) (v0:xb):Option R:=K (.exit 0) ⟨220,1,[(0,.c (.ref 0)),(1,cI c0.1),(2,cI c0.2.1),(3,cI c0.2.2.1),(4,.c (.clo 350 [.at_ [vI c0.2.2.2.1,.l 3 (.i .i64) c0.2.2.2.2.1,.l 3 (.i .i64) c0.2.2.2.2.2.1]])),(10,cI v0.1),(11,cI v0.2),(31,cI v0.1),(32,cI v0.2),(33,cB (decide (v0.1<v0.2)))],[(0,.arr 3 (.i .i64) c0.2.2.2.2.2.2)]⟩
theorem j62 (k:Nat) (K:Ex→St→Option R) (c0:ji):∀(n:Nat) (v:xb),z2 [1,0,1,2,3,4,10,11] (run E (den E k) (lv 404) k (j1 Tryz.f404 0)) n (z71 c0 v) K=yf k (y41 K c0) c0 n v:=j6 (B:=y91 k (y41 K c0) c0) fun n v=>by kernel_rfl
theorem w72 (k:Nat) (a0:List Int) (a1:Int) (a2:Int) (a3:Int) (a4:Int) (a5:List Int) (a6:List Int):j0 (k+1) a0 a1 a2 a3 a4 a5 a6=if ((i64.wrap (a2-a1))==1)=true then z2 (R:=List Int) [1,0,1,2,3,4,10,11] (run E (den E k) (lv 404) k (j1 Tryz.f404 0)) k (z71 (a1,a2,a3,a4,a5,a6,a0) (a2,a3)) (z8 E (den E k) (lv 404) k (yc Tryz.f404) 0 [] (xa E (rs 404) Tryz.f404:Ex→St→Option (List Int))) else if ((i64.wrap (a3-a2))==1)=true then z2 (R:=List Int) [1,0,1,2,3,4,14,15] (run E (den E k) (lv 404) k (j1 Tryz.f404 2)) k (y71 (a1,a2,a3,a4,a5,a6,a0) (a1,a2)) (z8 E (den E k) (lv 404) k (yc Tryz.f404) 2 [] (xa E (rs 404) Tryz.f404:Ex→St→Option (List Int))) else if (decide (a2>(i64.wrap (((u64.wrap (i64.wrap (a1+a3)))).fdiv (2^(min (1:Int).toNat u64.bits))))))=true then z2 (R:=List Int) [1,0,1,2,3,4,18,19,20,21,22] (run E (den E k) (lv 404) k (j1 Tryz.f404 4)) k (jq (a1,a2,a3,a4,a5,a6,(i64.wrap (((u64.wrap (i64.wrap (a1+a3)))).fdiv (2^(min (1:Int).toNat u64.bits)))),(i64.wrap ((i64.wrap (((u64.wrap (i64.wrap (a1+a3)))).fdiv (2^(min (1:Int).toNat u64.bits))))+a2)),(i64.wrap ((i64.wrap ((i64.wrap (((u64.wrap (i64.wrap (a1+a3)))).fdiv (2^(min (1:Int).toNat u64.bits))))+a2))-1)),a0) ((i64.wrap ((i64.wrap ((i64.wrap (((u64.wrap (i64.wrap (a1+a3)))).fdiv (2^(min (1:Int).toNat u64.bits))))+a2))-a3)),(i64.wrap (((u64.wrap (i64.wrap (a1+a3)))).fdiv (2^(min (1:Int).toNat u64.bits)))))) (z8 E (den E k) (lv 404) k (yc Tryz.f404) 4 [] (xa E (rs 404) Tryz.f404:Ex→St→Option (List Int))) else z2 (R:=List Int) [1,0,1,2,3,4,18,19,20,21,22] (run E (den E k) (lv 404) k (j1 Tryz.f404 4)) k (jq (a1,a2,a3,a4,a5,a6,(i64.wrap (((u64.wrap (i64.wrap (a1+a3)))).fdiv (2^(min (1:Int).toNat u64.bits)))),(i64.wrap ((i64.wrap (((u64.wrap (i64.wrap (a1+a3)))).fdiv (2^(min (1:Int).toNat u64.bits))))+a2)),(i64.wrap ((i64.wrap ((i64.wrap (((u64.wrap (i64.wrap (a1+a3)))).fdiv (2^(min (1:Int).toNat u64.bits))))+a2))-1)),a0) (a1,a2)) (z8 E (den E k) (lv 404) k (yc Tryz.f404) 4 [] (xa E (rs 404) Tryz.f404:Ex→St→Option (List Int))):=by kernel_rfl
theorem z72 (k:Nat) (a0:List Int) (a1:Int) (a2:Int) (a3:Int) (a4:Int) (a5:List Int) (a6:List Int):j0 (k+1) a0 a1 a2 a3 a4 a5 a6=if ((i64.wrap (a2-a1))==1)=true then yf k (fun (v0:I2)=>z2 (R:=List Int) [1,0,1,2,3,4,10,11,13] (run E (den E k) (lv 404) k (j1 Tryz.f404 1)) k (y61 (a1,a2,a3,a4,a5,a6,v0.1,v0.2) (a1,a0)) (z8 E (den E k) (lv 404) k (yc Tryz.f404) 1 [] (xa E (rs 404) Tryz.f404:Ex→St→Option (List Int)))) (a1,a2,a3,a4,a5,a6,a0) k (a2,a3) else if ((i64.wrap (a3-a2))==1)=true then xf k (fun (v2:I2)=>z2 (R:=List Int) [1,0,1,2,3,4,14,15,17] (run E (den E k) (lv 404) k (j1 Tryz.f404 3)) k (y51 (a1,a2,a3,a4,a5,a6,v2.1,v2.2) (a2,a0)) (z8 E (den E k) (lv 404) k (yc Tryz.f404) 3 [] (xa E (rs 404) Tryz.f404:Ex→St→Option (List Int)))) (a1,a2,a3,a4,a5,a6,a0) k (a1,a2) else if (decide (a2>(i64.wrap (((u64.wrap (i64.wrap (a1+a3)))).fdiv (2^(min (1:Int).toNat u64.bits))))))=true then v8 k (fun (v4:I2)=>if ((decide (v4.1<a2))==true)=true then if (decide (a2<(i64.wrap ((i64.wrap ((i64.wrap (((u64.wrap (i64.wrap (a1+a3)))).fdiv (2^(min (1:Int).toNat u64.bits))))+a2))-v4.1))))=true then (ye k a0 v4.1 a2 (i64.wrap ((i64.wrap ((i64.wrap (((u64.wrap (i64.wrap (a1+a3)))).fdiv (2^(min (1:Int).toNat u64.bits))))+a2))-v4.1)) a4 a5 a6).bind fun p9=>if ((decide (a1<v4.1))==true)=true then if (decide (v4.1<(i64.wrap (((u64.wrap (i64.wrap (a1+a3)))).fdiv (2^(min (1:Int).toNat u64.bits))))))=true then (j0 k p9 a1 v4.1 (i64.wrap (((u64.wrap (i64.wrap (a1+a3)))).fdiv (2^(min (1:Int).toNat u64.bits)))) a4 a5 a6).bind fun p10=>if ((decide ((i64.wrap (((u64.wrap (i64.wrap (a1+a3)))).fdiv (2^(min (1:Int).toNat u64.bits))))<(i64.wrap ((i64.wrap ((i64.wrap (((u64.wrap (i64.wrap (a1+a3)))).fdiv (2^(min (1:Int).toNat u64.bits))))+a2))-v4.1))))==true)=true then if (decide ((i64.wrap ((i64.wrap ((i64.wrap (((u64.wrap (i64.wrap (a1+a3)))).fdiv (2^(min (1:Int).toNat u64.bits))))+a2))-v4.1))<a3))=true then (j0 k p10 (i64.wrap (((u64.wrap (i64.wrap (a1+a3)))).fdiv (2^(min (1:Int).toNat u64.bits)))) (i64.wrap ((i64.wrap ((i64.wrap (((u64.wrap (i64.wrap (a1+a3)))).fdiv (2^(min (1:Int).toNat u64.bits))))+a2))-v4.1)) a3 a4 a5 a6).bind fun p11=>some p11 else some p10 else some p10 else if ((decide ((i64.wrap (((u64.wrap (i64.wrap (a1+a3)))).fdiv (2^(min (1:Int).toNat u64.bits))))<(i64.wrap ((i64.wrap ((i64.wrap (((u64.wrap (i64.wrap (a1+a3)))).fdiv (2^(min (1:Int).toNat u64.bits))))+a2))-v4.1))))==true)=true then if (decide ((i64.wrap ((i64.wrap ((i64.wrap (((u64.wrap (i64.wrap (a1+a3)))).fdiv (2^(min (1:Int).toNat u64.bits))))+a2))-v4.1))<a3))=true then (j0 k p9 (i64.wrap (((u64.wrap (i64.wrap (a1+a3)))).fdiv (2^(min (1:Int).toNat u64.bits)))) (i64.wrap ((i64.wrap ((i64.wrap (((u64.wrap (i64.wrap (a1+a3)))).fdiv (2^(min (1:Int).toNat u64.bits))))+a2))-v4.1)) a3 a4 a5 a6).bind fun p12=>some p12 else some p9 else some p9 else if ((decide ((i64.wrap (((u64.wrap (i64.wrap (a1+a3)))).fdiv (2^(min (1:Int).toNat u64.bits))))<(i64.wrap ((i64.wrap ((i64.wrap (((u64.wrap (i64.wrap (a1+a3)))).fdiv (2^(min (1:Int).toNat u64.bits))))+a2))-v4.1))))==true)=true then if (decide ((i64.wrap ((i64.wrap ((i64.wrap (((u64.wrap (i64.wrap (a1+a3)))).fdiv (2^(min (1:Int).toNat u64.bits))))+a2))-v4.1))<a3))=true then (j0 k p9 (i64.wrap (((u64.wrap (i64.wrap (a1+a3)))).fdiv (2^(min (1:Int).toNat u64.bits)))) (i64.wrap ((i64.wrap ((i64.wrap (((u64.wrap (i64.wrap (a1+a3)))).fdiv (2^(min (1:Int).toNat u64.bits))))+a2))-v4.1)) a3 a4 a5 a6).bind fun p13=>some p13 else some p9 else some p9 else if ((decide (a1<v4.1))==true)=true then if (decide (v4.1<(i64.wrap (((u64.wrap (i64.wrap (a1+a3)))).fdiv (2^(min (1:Int).toNat u64.bits))))))=true then (j0 k a0 a1 v4.1 (i64.wrap (((u64.wrap (i64.wrap (a1+a3)))).fdiv (2^(min (1:Int).toNat u64.bits)))) a4 a5 a6).bind fun p14=>if ((decide ((i64.wrap (((u64.wrap (i64.wrap (a1+a3)))).fdiv (2^(min (1:Int).toNat u64.bits))))<(i64.wrap ((i64.wrap ((i64.wrap (((u64.wrap (i64.wrap (a1+a3)))).fdiv (2^(min (1:Int).toNat u64.bits))))+a2))-v4.1))))==true)=true then if (decide ((i64.wrap ((i64.wrap ((i64.wrap (((u64.wrap (i64.wrap (a1+a3)))).fdiv (2^(min (1:Int).toNat u64.bits))))+a2))-v4.1))<a3))=true then (j0 k p14 (i64.wrap (((u64.wrap (i64.wrap (a1+a3)))).fdiv (2^(min (1:Int).toNat u64.bits)))) (i64.wrap ((i64.wrap ((i64.wrap (((u64.wrap (i64.wrap (a1+a3)))).fdiv (2^(min (1:Int).toNat u64.bits))))+a2))-v4.1)) a3 a4 a5 a6).bind fun p15=>some p15 else some p14 else some p14 else if ((decide ((i64.wrap (((u64.wrap (i64.wrap (a1+a3)))).fdiv (2^(min (1:Int).toNat u64.bits))))<(i64.wrap ((i64.wrap ((i64.wrap (((u64.wrap (i64.wrap (a1+a3)))).fdiv (2^(min (1:Int).toNat u64.bits))))+a2))-v4.1))))==true)=true then if (decide ((i64.wrap ((i64.wrap ((i64.wrap (((u64.wrap (i64.wrap (a1+a3)))).fdiv (2^(min (1:Int).toNat u64.bits))))+a2))-v4.1))<a3))=true then (j0 k a0 (i64.wrap (((u64.wrap (i64.wrap (a1+a3)))).fdiv (2^(min (1:Int).toNat u64.bits)))) (i64.wrap ((i64.wrap ((i64.wrap (((u64.wrap (i64.wrap (a1+a3)))).fdiv (2^(min (1:Int).toNat u64.bits))))+a2))-v4.1)) a3 a4 a5 a6).bind fun p16=>some p16 else some a0 else some a0 else if ((decide ((i64.wrap (((u64.wrap (i64.wrap (a1+a3)))).fdiv (2^(min (1:Int).toNat u64.bits))))<(i64.wrap ((i64.wrap ((i64.wrap (((u64.wrap (i64.wrap (a1+a3)))).fdiv (2^(min (1:Int).toNat u64.bits))))+a2))-v4.1))))==true)=true then if (decide ((i64.wrap ((i64.wrap ((i64.wrap (((u64.wrap (i64.wrap (a1+a3)))).fdiv (2^(min (1:Int).toNat u64.bits))))+a2))-v4.1))<a3))=true then (j0 k a0 (i64.wrap (((u64.wrap (i64.wrap (a1+a3)))).fdiv (2^(min (1:Int).toNat u64.bits)))) (i64.wrap ((i64.wrap ((i64.wrap (((u64.wrap (i64.wrap (a1+a3)))).fdiv (2^(min (1:Int).toNat u64.bits))))+a2))-v4.1)) a3 a4 a5 a6).bind fun p17=>some p17 else some a0 else some a0 else if ((decide (a1<v4.1))==true)=true then if (decide (v4.1<(i64.wrap (((u64.wrap (i64.wrap (a1+a3)))).fdiv (2^(min (1:Int).toNat u64.bits))))))=true then (j0 k a0 a1 v4.1 (i64.wrap (((u64.wrap (i64.wrap (a1+a3)))).fdiv (2^(min (1:Int).toNat u64.bits)))) a4 a5 a6).bind fun p18=>if ((decide ((i64.wrap (((u64.wrap (i64.wrap (a1+a3)))).fdiv (2^(min (1:Int).toNat u64.bits))))<(i64.wrap ((i64.wrap ((i64.wrap (((u64.wrap (i64.wrap (a1+a3)))).fdiv (2^(min (1:Int).toNat u64.bits))))+a2))-v4.1))))==true)=true then if (decide ((i64.wrap ((i64.wrap ((i64.wrap (((u64.wrap (i64.wrap (a1+a3)))).fdiv (2^(min (1:Int).toNat u64.bits))))+a2))-v4.1))<a3))=true then (j0 k p18 (i64.wrap (((u64.wrap (i64.wrap (a1+a3)))).fdiv (2^(min (1:Int).toNat u64.bits)))) (i64.wrap ((i64.wrap ((i64.wrap (((u64.wrap (i64.wrap (a1+a3)))).fdiv (2^(min (1:Int).toNat u64.bits))))+a2))-v4.1)) a3 a4 a5 a6).bind fun p19=>some p19 else some p18 else some p18 else if ((decide ((i64.wrap (((u64.wrap (i64.wrap (a1+a3)))).fdiv (2^(min (1:Int).toNat u64.bits))))<(i64.wrap ((i64.wrap ((i64.wrap (((u64.wrap (i64.wrap (a1+a3)))).fdiv (2^(min (1:Int).toNat u64.bits))))+a2))-v4.1))))==true)=true then if (decide ((i64.wrap ((i64.wrap ((i64.wrap (((u64.wrap (i64.wrap (a1+a3)))).fdiv (2^(min (1:Int).toNat u64.bits))))+a2))-v4.1))<a3))=true then (j0 k a0 (i64.wrap (((u64.wrap (i64.wrap (a1+a3)))).fdiv (2^(min (1:Int).toNat u64.bits)))) (i64.wrap ((i64.wrap ((i64.wrap (((u64.wrap (i64.wrap (a1+a3)))).fdiv (2^(min (1:Int).toNat u64.bits))))+a2))-v4.1)) a3 a4 a5 a6).bind fun p20=>some p20 else some a0 else some a0 else if ((decide ((i64.wrap (((u64.wrap (i64.wrap (a1+a3)))).fdiv (2^(min (1:Int).toNat u64.bits))))<(i64.wrap ((i64.wrap ((i64.wrap (((u64.wrap (i64.wrap (a1+a3)))).fdiv (2^(min (1:Int).toNat u64.bits))))+a2))-v4.1))))==true)=true then if (decide ((i64.wrap ((i64.wrap ((i64.wrap (((u64.wrap (i64.wrap (a1+a3)))).fdiv (2^(min (1:Int).toNat u64.bits))))+a2))-v4.1))<a3))=true then (j0 k a0 (i64.wrap (((u64.wrap (i64.wrap (a1+a3)))).fdiv (2^(min (1:Int).toNat u64.bits)))) (i64.wrap ((i64.wrap ((i64.wrap (((u64.wrap (i64.wrap (a1+a3)))).fdiv (2^(min (1:Int).toNat u64.bits))))+a2))-v4.1)) a3 a4 a5 a6).bind fun p21=>some p21 else some a0 else some a0) (a1,a2,a3,a4,a5,a6,(i64.wrap (((u64.wrap (i64.wrap (a1+a3)))).fdiv (2^(min (1:Int).toNat u64.bits)))),(i64.wrap ((i64.wrap (((u64.wrap (i64.wrap (a1+a3)))).fdiv (2^(min (1:Int).toNat u64.bits))))+a2)),(i64.wrap ((i64.wrap ((i64.wrap (((u64.wrap (i64.wrap (a1+a3)))).fdiv (2^(min (1:Int).toNat u64.bits))))+a2))-1)),a0) k ((i64.wrap ((i64.wrap ((i64.wrap (((u64.wrap (i64.wrap (a1+a3)))).fdiv (2^(min (1:Int).toNat u64.bits))))+a2))-a3)),(i64.wrap (((u64.wrap (i64.wrap (a1+a3)))).fdiv (2^(min (1:Int).toNat u64.bits))))) else v8 k (fun (v4:I2)=>if ((decide (v4.1<a2))==true)=true then if (decide (a2<(i64.wrap ((i64.wrap ((i64.wrap (((u64.wrap (i64.wrap (a1+a3)))).fdiv (2^(min (1:Int).toNat u64.bits))))+a2))-v4.1))))=true then (ye k a0 v4.1 a2 (i64.wrap ((i64.wrap ((i64.wrap (((u64.wrap (i64.wrap (a1+a3)))).fdiv (2^(min (1:Int).toNat u64.bits))))+a2))-v4.1)) a4 a5 a6).bind fun p22=>if ((decide (a1<v4.1))==true)=true then if (decide (v4.1<(i64.wrap (((u64.wrap (i64.wrap (a1+a3)))).fdiv (2^(min (1:Int).toNat u64.bits))))))=true then (j0 k p22 a1 v4.1 (i64.wrap (((u64.wrap (i64.wrap (a1+a3)))).fdiv (2^(min (1:Int).toNat u64.bits)))) a4 a5 a6).bind fun p23=>if ((decide ((i64.wrap (((u64.wrap (i64.wrap (a1+a3)))).fdiv (2^(min (1:Int).toNat u64.bits))))<(i64.wrap ((i64.wrap ((i64.wrap (((u64.wrap (i64.wrap (a1+a3)))).fdiv (2^(min (1:Int).toNat u64.bits))))+a2))-v4.1))))==true)=true then if (decide ((i64.wrap ((i64.wrap ((i64.wrap (((u64.wrap (i64.wrap (a1+a3)))).fdiv (2^(min (1:Int).toNat u64.bits))))+a2))-v4.1))<a3))=true then (j0 k p23 (i64.wrap (((u64.wrap (i64.wrap (a1+a3)))).fdiv (2^(min (1:Int).toNat u64.bits)))) (i64.wrap ((i64.wrap ((i64.wrap (((u64.wrap (i64.wrap (a1+a3)))).fdiv (2^(min (1:Int).toNat u64.bits))))+a2))-v4.1)) a3 a4 a5 a6).bind fun p24=>some p24 else some p23 else some p23 else if ((decide ((i64.wrap (((u64.wrap (i64.wrap (a1+a3)))).fdiv (2^(min (1:Int).toNat u64.bits))))<(i64.wrap ((i64.wrap ((i64.wrap (((u64.wrap (i64.wrap (a1+a3)))).fdiv (2^(min (1:Int).toNat u64.bits))))+a2))-v4.1))))==true)=true then if (decide ((i64.wrap ((i64.wrap ((i64.wrap (((u64.wrap (i64.wrap (a1+a3)))).fdiv (2^(min (1:Int).toNat u64.bits))))+a2))-v4.1))<a3))=true then (j0 k p22 (i64.wrap (((u64.wrap (i64.wrap (a1+a3)))).fdiv (2^(min (1:Int).toNat u64.bits)))) (i64.wrap ((i64.wrap ((i64.wrap (((u64.wrap (i64.wrap (a1+a3)))).fdiv (2^(min (1:Int).toNat u64.bits))))+a2))-v4.1)) a3 a4 a5 a6).bind fun p25=>some p25 else some p22 else some p22 else if ((decide ((i64.wrap (((u64.wrap (i64.wrap (a1+a3)))).fdiv (2^(min (1:Int).toNat u64.bits))))<(i64.wrap ((i64.wrap ((i64.wrap (((u64.wrap (i64.wrap (a1+a3)))).fdiv (2^(min (1:Int).toNat u64.bits))))+a2))-v4.1))))==true)=true then if (decide ((i64.wrap ((i64.wrap ((i64.wrap (((u64.wrap (i64.wrap (a1+a3)))).fdiv (2^(min (1:Int).toNat u64.bits))))+a2))-v4.1))<a3))=true then (j0 k p22 (i64.wrap (((u64.wrap (i64.wrap (a1+a3)))).fdiv (2^(min (1:Int).toNat u64.bits)))) (i64.wrap ((i64.wrap ((i64.wrap (((u64.wrap (i64.wrap (a1+a3)))).fdiv (2^(min (1:Int).toNat u64.bits))))+a2))-v4.1)) a3 a4 a5 a6).bind fun p26=>some p26 else some p22 else some p22 else if ((decide (a1<v4.1))==true)=true then if (decide (v4.1<(i64.wrap (((u64.wrap (i64.wrap (a1+a3)))).fdiv (2^(min (1:Int).toNat u64.bits))))))=true then (j0 k a0 a1 v4.1 (i64.wrap (((u64.wrap (i64.wrap (a1+a3)))).fdiv (2^(min (1:Int).toNat u64.bits)))) a4 a5 a6).bind fun p27=>if ((decide ((i64.wrap (((u64.wrap (i64.wrap (a1+a3)))).fdiv (2^(min (1:Int).toNat u64.bits))))<(i64.wrap ((i64.wrap ((i64.wrap (((u64.wrap (i64.wrap (a1+a3)))).fdiv (2^(min (1:Int).toNat u64.bits))))+a2))-v4.1))))==true)=true then if (decide ((i64.wrap ((i64.wrap ((i64.wrap (((u64.wrap (i64.wrap (a1+a3)))).fdiv (2^(min (1:Int).toNat u64.bits))))+a2))-v4.1))<a3))=true then (j0 k p27 (i64.wrap (((u64.wrap (i64.wrap (a1+a3)))).fdiv (2^(min (1:Int).toNat u64.bits)))) (i64.wrap ((i64.wrap ((i64.wrap (((u64.wrap (i64.wrap (a1+a3)))).fdiv (2^(min (1:Int).toNat u64.bits))))+a2))-v4.1)) a3 a4 a5 a6).bind fun p28=>some p28 else some p27 else some p27 else if ((decide ((i64.wrap (((u64.wrap (i64.wrap (a1+a3)))).fdiv (2^(min (1:Int).toNat u64.bits))))<(i64.wrap ((i64.wrap ((i64.wrap (((u64.wrap (i64.wrap (a1+a3)))).fdiv (2^(min (1:Int).toNat u64.bits))))+a2))-v4.1))))==true)=true then if (decide ((i64.wrap ((i64.wrap ((i64.wrap (((u64.wrap (i64.wrap (a1+a3)))).fdiv (2^(min (1:Int).toNat u64.bits))))+a2))-v4.1))<a3))=true then (j0 k a0 (i64.wrap (((u64.wrap (i64.wrap (a1+a3)))).fdiv (2^(min (1:Int).toNat u64.bits)))) (i64.wrap ((i64.wrap ((i64.wrap (((u64.wrap (i64.wrap (a1+a3)))).fdiv (2^(min (1:Int).toNat u64.bits))))+a2))-v4.1)) a3 a4 a5 a6).bind fun p29=>some p29 else some a0 else some a0 else if ((decide ((i64.wrap (((u64.wrap (i64.wrap (a1+a3)))).fdiv (2^(min (1:Int).toNat u64.bits))))<(i64.wrap ((i64.wrap ((i64.wrap (((u64.wrap (i64.wrap (a1+a3)))).fdiv (2^(min (1:Int).toNat u64.bits))))+a2))-v4.1))))==true)=true then if (decide ((i64.wrap ((i64.wrap ((i64.wrap (((u64.wrap (i64.wrap (a1+a3)))).fdiv (2^(min (1:Int).toNat u64.bits))))+a2))-v4.1))<a3))=true then (j0 k a0 (i64.wrap (((u64.wrap (i64.wrap (a1+a3)))).fdiv (2^(min (1:Int).toNat u64.bits)))) (i64.wrap ((i64.wrap ((i64.wrap (((u64.wrap (i64.wrap (a1+a3)))).fdiv (2^(min (1:Int).toNat u64.bits))))+a2))-v4.1)) a3 a4 a5 a6).bind fun p30=>some p30 else some a0 else some a0 else if ((decide (a1<v4.1))==true)=true then if (decide (v4.1<(i64.wrap (((u64.wrap (i64.wrap (a1+a3)))).fdiv (2^(min (1:Int).toNat u64.bits))))))=true then (j0 k a0 a1 v4.1 (i64.wrap (((u64.wrap (i64.wrap (a1+a3)))).fdiv (2^(min (1:Int).toNat u64.bits)))) a4 a5 a6).bind fun p31=>if ((decide ((i64.wrap (((u64.wrap (i64.wrap (a1+a3)))).fdiv (2^(min (1:Int).toNat u64.bits))))<(i64.wrap ((i64.wrap ((i64.wrap (((u64.wrap (i64.wrap (a1+a3)))).fdiv (2^(min (1:Int).toNat u64.bits))))+a2))-v4.1))))==true)=true then if (decide ((i64.wrap ((i64.wrap ((i64.wrap (((u64.wrap (i64.wrap (a1+a3)))).fdiv (2^(min (1:Int).toNat u64.bits))))+a2))-v4.1))<a3))=true then (j0 k p31 (i64.wrap (((u64.wrap (i64.wrap (a1+a3)))).fdiv (2^(min (1:Int).toNat u64.bits)))) (i64.wrap ((i64.wrap ((i64.wrap (((u64.wrap (i64.wrap (a1+a3)))).fdiv (2^(min (1:Int).toNat u64.bits))))+a2))-v4.1)) a3 a4 a5 a6).bind fun p32=>some p32 else some p31 else some p31 else if ((decide ((i64.wrap (((u64.wrap (i64.wrap (a1+a3)))).fdiv (2^(min (1:Int).toNat u64.bits))))<(i64.wrap ((i64.wrap ((i64.wrap (((u64.wrap (i64.wrap (a1+a3)))).fdiv (2^(min (1:Int).toNat u64.bits))))+a2))-v4.1))))==true)=true then if (decide ((i64.wrap ((i64.wrap ((i64.wrap (((u64.wrap (i64.wrap (a1+a3)))).fdiv (2^(min (1:Int).toNat u64.bits))))+a2))-v4.1))<a3))=true then (j0 k a0 (i64.wrap (((u64.wrap (i64.wrap (a1+a3)))).fdiv (2^(min (1:Int).toNat u64.bits)))) (i64.wrap ((i64.wrap ((i64.wrap (((u64.wrap (i64.wrap (a1+a3)))).fdiv (2^(min (1:Int).toNat u64.bits))))+a2))-v4.1)) a3 a4 a5 a6).bind fun p33=>some p33 else some a0 else some a0 else if ((decide ((i64.wrap (((u64.wrap (i64.wrap (a1+a3)))).fdiv (2^(min (1:Int).toNat u64.bits))))<(i64.wrap ((i64.wrap ((i64.wrap (((u64.wrap (i64.wrap (a1+a3)))).fdiv (2^(min (1:Int).toNat u64.bits))))+a2))-v4.1))))==true)=true then if (decide ((i64.wrap ((i64.wrap ((i64.wrap (((u64.wrap (i64.wrap (a1+a3)))).fdiv (2^(min (1:Int).toNat u64.bits))))+a2))-v4.1))<a3))=true then (j0 k a0 (i64.wrap (((u64.wrap (i64.wrap (a1+a3)))).fdiv (2^(min (1:Int).toNat u64.bits)))) (i64.wrap ((i64.wrap ((i64.wrap (((u64.wrap (i64.wrap (a1+a3)))).fdiv (2^(min (1:Int).toNat u64.bits))))+a2))-v4.1)) a3 a4 a5 a6).bind fun p34=>some p34 else some a0 else some a0) (a1,a2,a3,a4,a5,a6,(i64.wrap (((u64.wrap (i64.wrap (a1+a3)))).fdiv (2^(min (1:Int).toNat u64.bits)))),(i64.wrap ((i64.wrap (((u64.wrap (i64.wrap (a1+a3)))).fdiv (2^(min (1:Int).toNat u64.bits))))+a2)),(i64.wrap ((i64.wrap ((i64.wrap (((u64.wrap (i64.wrap (a1+a3)))).fdiv (2^(min (1:Int).toNat u64.bits))))+a2))-1)),a0) k (a1,a2):=by 
 rw [w72]
 simp only [j62,v72,y72]
 kernel_rfl
theorem jv (k:Nat) (a0:List Int) (a1:Int) (a2:Int) (a3:Int) (a4:Int) (a5:List Int) (a6:List Int):j0 (k+1) a0 a1 a2 a3 a4 a5 a6=if ((i64.wrap (a2-a1))==1)=true then yf k (fun (v0:I2)=>vi k (fun (v1:Int×(List Int))=>some v1.2) (a1,a2,a3,a4,a5,a6,v0.1,v0.2) k (a1,a0)) (a1,a2,a3,a4,a5,a6,a0) k (a2,a3) else if ((i64.wrap (a3-a2))==1)=true then xf k (fun (v2:I2)=>yi k (fun (v3:Int×(List Int))=>some v3.2) (a1,a2,a3,a4,a5,a6,v2.1,v2.2) k (a2,a0)) (a1,a2,a3,a4,a5,a6,a0) k (a1,a2) else if (decide (a2>(i64.wrap (((u64.wrap (i64.wrap (a1+a3)))).fdiv (2^(min (1:Int).toNat u64.bits))))))=true then v8 k (fun (v4:I2)=>if ((decide (v4.1<a2))==true)=true then if (decide (a2<(i64.wrap ((i64.wrap ((i64.wrap (((u64.wrap (i64.wrap (a1+a3)))).fdiv (2^(min (1:Int).toNat u64.bits))))+a2))-v4.1))))=true then (ye k a0 v4.1 a2 (i64.wrap ((i64.wrap ((i64.wrap (((u64.wrap (i64.wrap (a1+a3)))).fdiv (2^(min (1:Int).toNat u64.bits))))+a2))-v4.1)) a4 a5 a6).bind fun p1=>if ((decide (a1<v4.1))==true)=true then if (decide (v4.1<(i64.wrap (((u64.wrap (i64.wrap (a1+a3)))).fdiv (2^(min (1:Int).toNat u64.bits))))))=true then (j0 k p1 a1 v4.1 (i64.wrap (((u64.wrap (i64.wrap (a1+a3)))).fdiv (2^(min (1:Int).toNat u64.bits)))) a4 a5 a6).bind fun p2=>if ((decide ((i64.wrap (((u64.wrap (i64.wrap (a1+a3)))).fdiv (2^(min (1:Int).toNat u64.bits))))<(i64.wrap ((i64.wrap ((i64.wrap (((u64.wrap (i64.wrap (a1+a3)))).fdiv (2^(min (1:Int).toNat u64.bits))))+a2))-v4.1))))==true)=true then if (decide ((i64.wrap ((i64.wrap ((i64.wrap (((u64.wrap (i64.wrap (a1+a3)))).fdiv (2^(min (1:Int).toNat u64.bits))))+a2))-v4.1))<a3))=true then (j0 k p2 (i64.wrap (((u64.wrap (i64.wrap (a1+a3)))).fdiv (2^(min (1:Int).toNat u64.bits)))) (i64.wrap ((i64.wrap ((i64.wrap (((u64.wrap (i64.wrap (a1+a3)))).fdiv (2^(min (1:Int).toNat u64.bits))))+a2))-v4.1)) a3 a4 a5 a6).bind fun p3=>some p3 else some p2 else some p2 else if ((decide ((i64.wrap (((u64.wrap (i64.wrap (a1+a3)))).fdiv (2^(min (1:Int).toNat u64.bits))))<(i64.wrap ((i64.wrap ((i64.wrap (((u64.wrap (i64.wrap (a1+a3)))).fdiv (2^(min (1:Int).toNat u64.bits))))+a2))-v4.1))))==true)=true then if (decide ((i64.wrap ((i64.wrap ((i64.wrap (((u64.wrap (i64.wrap (a1+a3)))).fdiv (2^(min (1:Int).toNat u64.bits))))+a2))-v4.1))<a3))=true then (j0 k p1 (i64.wrap (((u64.wrap (i64.wrap (a1+a3)))).fdiv (2^(min (1:Int).toNat u64.bits)))) (i64.wrap ((i64.wrap ((i64.wrap (((u64.wrap (i64.wrap (a1+a3)))).fdiv (2^(min (1:Int).toNat u64.bits))))+a2))-v4.1)) a3 a4 a5 a6).bind fun p4=>some p4 else some p1 else some p1 else if ((decide ((i64.wrap (((u64.wrap (i64.wrap (a1+a3)))).fdiv (2^(min (1:Int).toNat u64.bits))))<(i64.wrap ((i64.wrap ((i64.wrap (((u64.wrap (i64.wrap (a1+a3)))).fdiv (2^(min (1:Int).toNat u64.bits))))+a2))-v4.1))))==true)=true then if (decide ((i64.wrap ((i64.wrap ((i64.wrap (((u64.wrap (i64.wrap (a1+a3)))).fdiv (2^(min (1:Int).toNat u64.bits))))+a2))-v4.1))<a3))=true then (j0 k p1 (i64.wrap (((u64.wrap (i64.wrap (a1+a3)))).fdiv (2^(min (1:Int).toNat u64.bits)))) (i64.wrap ((i64.wrap ((i64.wrap (((u64.wrap (i64.wrap (a1+a3)))).fdiv (2^(min (1:Int).toNat u64.bits))))+a2))-v4.1)) a3 a4 a5 a6).bind fun p5=>some p5 else some p1 else some p1 else if ((decide (a1<v4.1))==true)=true then if (decide (v4.1<(i64.wrap (((u64.wrap (i64.wrap (a1+a3)))).fdiv (2^(min (1:Int).toNat u64.bits))))))=true then (j0 k a0 a1 v4.1 (i64.wrap (((u64.wrap (i64.wrap (a1+a3)))).fdiv (2^(min (1:Int).toNat u64.bits)))) a4 a5 a6).bind fun p6=>if ((decide ((i64.wrap (((u64.wrap (i64.wrap (a1+a3)))).fdiv (2^(min (1:Int).toNat u64.bits))))<(i64.wrap ((i64.wrap ((i64.wrap (((u64.wrap (i64.wrap (a1+a3)))).fdiv (2^(min (1:Int).toNat u64.bits))))+a2))-v4.1))))==true)=true then if (decide ((i64.wrap ((i64.wrap ((i64.wrap (((u64.wrap (i64.wrap (a1+a3)))).fdiv (2^(min (1:Int).toNat u64.bits))))+a2))-v4.1))<a3))=true then (j0 k p6 (i64.wrap (((u64.wrap (i64.wrap (a1+a3)))).fdiv (2^(min (1:Int).toNat u64.bits)))) (i64.wrap ((i64.wrap ((i64.wrap (((u64.wrap (i64.wrap (a1+a3)))).fdiv (2^(min (1:Int).toNat u64.bits))))+a2))-v4.1)) a3 a4 a5 a6).bind fun p7=>some p7 else some p6 else some p6 else if ((decide ((i64.wrap (((u64.wrap (i64.wrap (a1+a3)))).fdiv (2^(min (1:Int).toNat u64.bits))))<(i64.wrap ((i64.wrap ((i64.wrap (((u64.wrap (i64.wrap (a1+a3)))).fdiv (2^(min (1:Int).toNat u64.bits))))+a2))-v4.1))))==true)=true then if (decide ((i64.wrap ((i64.wrap ((i64.wrap (((u64.wrap (i64.wrap (a1+a3)))).fdiv (2^(min (1:Int).toNat u64.bits))))+a2))-v4.1))<a3))=true then (j0 k a0 (i64.wrap (((u64.wrap (i64.wrap (a1+a3)))).fdiv (2^(min (1:Int).toNat u64.bits)))) (i64.wrap ((i64.wrap ((i64.wrap (((u64.wrap (i64.wrap (a1+a3)))).fdiv (2^(min (1:Int).toNat u64.bits))))+a2))-v4.1)) a3 a4 a5 a6).bind fun p8=>some p8 else some a0 else some a0 else if ((decide ((i64.wrap (((u64.wrap (i64.wrap (a1+a3)))).fdiv (2^(min (1:Int).toNat u64.bits))))<(i64.wrap ((i64.wrap ((i64.wrap (((u64.wrap (i64.wrap (a1+a3)))).fdiv (2^(min (1:Int).toNat u64.bits))))+a2))-v4.1))))==true)=true then if (decide ((i64.wrap ((i64.wrap ((i64.wrap (((u64.wrap (i64.wrap (a1+a3)))).fdiv (2^(min (1:Int).toNat u64.bits))))+a2))-v4.1))<a3))=true then (j0 k a0 (i64.wrap (((u64.wrap (i64.wrap (a1+a3)))).fdiv (2^(min (1:Int).toNat u64.bits)))) (i64.wrap ((i64.wrap ((i64.wrap (((u64.wrap (i64.wrap (a1+a3)))).fdiv (2^(min (1:Int).toNat u64.bits))))+a2))-v4.1)) a3 a4 a5 a6).bind fun p9=>some p9 else some a0 else some a0 else if ((decide (a1<v4.1))==true)=true then if (decide (v4.1<(i64.wrap (((u64.wrap (i64.wrap (a1+a3)))).fdiv (2^(min (1:Int).toNat u64.bits))))))=true then (j0 k a0 a1 v4.1 (i64.wrap (((u64.wrap (i64.wrap (a1+a3)))).fdiv (2^(min (1:Int).toNat u64.bits)))) a4 a5 a6).bind fun p10=>if ((decide ((i64.wrap (((u64.wrap (i64.wrap (a1+a3)))).fdiv (2^(min (1:Int).toNat u64.bits))))<(i64.wrap ((i64.wrap ((i64.wrap (((u64.wrap (i64.wrap (a1+a3)))).fdiv (2^(min (1:Int).toNat u64.bits))))+a2))-v4.1))))==true)=true then if (decide ((i64.wrap ((i64.wrap ((i64.wrap (((u64.wrap (i64.wrap (a1+a3)))).fdiv (2^(min (1:Int).toNat u64.bits))))+a2))-v4.1))<a3))=true then (j0 k p10 (i64.wrap (((u64.wrap (i64.wrap (a1+a3)))).fdiv (2^(min (1:Int).toNat u64.bits)))) (i64.wrap ((i64.wrap ((i64.wrap (((u64.wrap (i64.wrap (a1+a3)))).fdiv (2^(min (1:Int).toNat u64.bits))))+a2))-v4.1)) a3 a4 a5 a6).bind fun p11=>some p11 else some p10 else some p10 else if ((decide ((i64.wrap (((u64.wrap (i64.wrap (a1+a3)))).fdiv (2^(min (1:Int).toNat u64.bits))))<(i64.wrap ((i64.wrap ((i64.wrap (((u64.wrap (i64.wrap (a1+a3)))).fdiv (2^(min (1:Int).toNat u64.bits))))+a2))-v4.1))))==true)=true then if (decide ((i64.wrap ((i64.wrap ((i64.wrap (((u64.wrap (i64.wrap (a1+a3)))).fdiv (2^(min (1:Int).toNat u64.bits))))+a2))-v4.1))<a3))=true then (j0 k a0 (i64.wrap (((u64.wrap (i64.wrap (a1+a3)))).fdiv (2^(min (1:Int).toNat u64.bits)))) (i64.wrap ((i64.wrap ((i64.wrap (((u64.wrap (i64.wrap (a1+a3)))).fdiv (2^(min (1:Int).toNat u64.bits))))+a2))-v4.1)) a3 a4 a5 a6).bind fun p12=>some p12 else some a0 else some a0 else if ((decide ((i64.wrap (((u64.wrap (i64.wrap (a1+a3)))).fdiv (2^(min (1:Int).toNat u64.bits))))<(i64.wrap ((i64.wrap ((i64.wrap (((u64.wrap (i64.wrap (a1+a3)))).fdiv (2^(min (1:Int).toNat u64.bits))))+a2))-v4.1))))==true)=true then if (decide ((i64.wrap ((i64.wrap ((i64.wrap (((u64.wrap (i64.wrap (a1+a3)))).fdiv (2^(min (1:Int).toNat u64.bits))))+a2))-v4.1))<a3))=true then (j0 k a0 (i64.wrap (((u64.wrap (i64.wrap (a1+a3)))).fdiv (2^(min (1:Int).toNat u64.bits)))) (i64.wrap ((i64.wrap ((i64.wrap (((u64.wrap (i64.wrap (a1+a3)))).fdiv (2^(min (1:Int).toNat u64.bits))))+a2))-v4.1)) a3 a4 a5 a6).bind fun p13=>some p13 else some a0 else some a0) (a1,a2,a3,a4,a5,a6,(i64.wrap (((u64.wrap (i64.wrap (a1+a3)))).fdiv (2^(min (1:Int).toNat u64.bits)))),(i64.wrap ((i64.wrap (((u64.wrap (i64.wrap (a1+a3)))).fdiv (2^(min (1:Int).toNat u64.bits))))+a2)),(i64.wrap ((i64.wrap ((i64.wrap (((u64.wrap (i64.wrap (a1+a3)))).fdiv (2^(min (1:Int).toNat u64.bits))))+a2))-1)),a0) k ((i64.wrap ((i64.wrap ((i64.wrap (((u64.wrap (i64.wrap (a1+a3)))).fdiv (2^(min (1:Int).toNat u64.bits))))+a2))-a3)),(i64.wrap (((u64.wrap (i64.wrap (a1+a3)))).fdiv (2^(min (1:Int).toNat u64.bits))))) else v8 k (fun (v4:I2)=>if ((decide (v4.1<a2))==true)=true then if (decide (a2<(i64.wrap ((i64.wrap ((i64.wrap (((u64.wrap (i64.wrap (a1+a3)))).fdiv (2^(min (1:Int).toNat u64.bits))))+a2))-v4.1))))=true then (ye k a0 v4.1 a2 (i64.wrap ((i64.wrap ((i64.wrap (((u64.wrap (i64.wrap (a1+a3)))).fdiv (2^(min (1:Int).toNat u64.bits))))+a2))-v4.1)) a4 a5 a6).bind fun p14=>if ((decide (a1<v4.1))==true)=true then if (decide (v4.1<(i64.wrap (((u64.wrap (i64.wrap (a1+a3)))).fdiv (2^(min (1:Int).toNat u64.bits))))))=true then (j0 k p14 a1 v4.1 (i64.wrap (((u64.wrap (i64.wrap (a1+a3)))).fdiv (2^(min (1:Int).toNat u64.bits)))) a4 a5 a6).bind fun p15=>if ((decide ((i64.wrap (((u64.wrap (i64.wrap (a1+a3)))).fdiv (2^(min (1:Int).toNat u64.bits))))<(i64.wrap ((i64.wrap ((i64.wrap (((u64.wrap (i64.wrap (a1+a3)))).fdiv (2^(min (1:Int).toNat u64.bits))))+a2))-v4.1))))==true)=true then if (decide ((i64.wrap ((i64.wrap ((i64.wrap (((u64.wrap (i64.wrap (a1+a3)))).fdiv (2^(min (1:Int).toNat u64.bits))))+a2))-v4.1))<a3))=true then (j0 k p15 (i64.wrap (((u64.wrap (i64.wrap (a1+a3)))).fdiv (2^(min (1:Int).toNat u64.bits)))) (i64.wrap ((i64.wrap ((i64.wrap (((u64.wrap (i64.wrap (a1+a3)))).fdiv (2^(min (1:Int).toNat u64.bits))))+a2))-v4.1)) a3 a4 a5 a6).bind fun p16=>some p16 else some p15 else some p15 else if ((decide ((i64.wrap (((u64.wrap (i64.wrap (a1+a3)))).fdiv (2^(min (1:Int).toNat u64.bits))))<(i64.wrap ((i64.wrap ((i64.wrap (((u64.wrap (i64.wrap (a1+a3)))).fdiv (2^(min (1:Int).toNat u64.bits))))+a2))-v4.1))))==true)=true then if (decide ((i64.wrap ((i64.wrap ((i64.wrap (((u64.wrap (i64.wrap (a1+a3)))).fdiv (2^(min (1:Int).toNat u64.bits))))+a2))-v4.1))<a3))=true then (j0 k p14 (i64.wrap (((u64.wrap (i64.wrap (a1+a3)))).fdiv (2^(min (1:Int).toNat u64.bits)))) (i64.wrap ((i64.wrap ((i64.wrap (((u64.wrap (i64.wrap (a1+a3)))).fdiv (2^(min (1:Int).toNat u64.bits))))+a2))-v4.1)) a3 a4 a5 a6).bind fun p17=>some p17 else some p14 else some p14 else if ((decide ((i64.wrap (((u64.wrap (i64.wrap (a1+a3)))).fdiv (2^(min (1:Int).toNat u64.bits))))<(i64.wrap ((i64.wrap ((i64.wrap (((u64.wrap (i64.wrap (a1+a3)))).fdiv (2^(min (1:Int).toNat u64.bits))))+a2))-v4.1))))==true)=true then if (decide ((i64.wrap ((i64.wrap ((i64.wrap (((u64.wrap (i64.wrap (a1+a3)))).fdiv (2^(min (1:Int).toNat u64.bits))))+a2))-v4.1))<a3))=true then (j0 k p14 (i64.wrap (((u64.wrap (i64.wrap (a1+a3)))).fdiv (2^(min (1:Int).toNat u64.bits)))) (i64.wrap ((i64.wrap ((i64.wrap (((u64.wrap (i64.wrap (a1+a3)))).fdiv (2^(min (1:Int).toNat u64.bits))))+a2))-v4.1)) a3 a4 a5 a6).bind fun p18=>some p18 else some p14 else some p14 else if ((decide (a1<v4.1))==true)=true then if (decide (v4.1<(i64.wrap (((u64.wrap (i64.wrap (a1+a3)))).fdiv (2^(min (1:Int).toNat u64.bits))))))=true then (j0 k a0 a1 v4.1 (i64.wrap (((u64.wrap (i64.wrap (a1+a3)))).fdiv (2^(min (1:Int).toNat u64.bits)))) a4 a5 a6).bind fun p19=>if ((decide ((i64.wrap (((u64.wrap (i64.wrap (a1+a3)))).fdiv (2^(min (1:Int).toNat u64.bits))))<(i64.wrap ((i64.wrap ((i64.wrap (((u64.wrap (i64.wrap (a1+a3)))).fdiv (2^(min (1:Int).toNat u64.bits))))+a2))-v4.1))))==true)=true then if (decide ((i64.wrap ((i64.wrap ((i64.wrap (((u64.wrap (i64.wrap (a1+a3)))).fdiv (2^(min (1:Int).toNat u64.bits))))+a2))-v4.1))<a3))=true then (j0 k p19 (i64.wrap (((u64.wrap (i64.wrap (a1+a3)))).fdiv (2^(min (1:Int).toNat u64.bits)))) (i64.wrap ((i64.wrap ((i64.wrap (((u64.wrap (i64.wrap (a1+a3)))).fdiv (2^(min (1:Int).toNat u64.bits))))+a2))-v4.1)) a3 a4 a5 a6).bind fun p20=>some p20 else some p19 else some p19 else if ((decide ((i64.wrap (((u64.wrap (i64.wrap (a1+a3)))).fdiv (2^(min (1:Int).toNat u64.bits))))<(i64.wrap ((i64.wrap ((i64.wrap (((u64.wrap (i64.wrap (a1+a3)))).fdiv (2^(min (1:Int).toNat u64.bits))))+a2))-v4.1))))==true)=true then if (decide ((i64.wrap ((i64.wrap ((i64.wrap (((u64.wrap (i64.wrap (a1+a3)))).fdiv (2^(min (1:Int).toNat u64.bits))))+a2))-v4.1))<a3))=true then (j0 k a0 (i64.wrap (((u64.wrap (i64.wrap (a1+a3)))).fdiv (2^(min (1:Int).toNat u64.bits)))) (i64.wrap ((i64.wrap ((i64.wrap (((u64.wrap (i64.wrap (a1+a3)))).fdiv (2^(min (1:Int).toNat u64.bits))))+a2))-v4.1)) a3 a4 a5 a6).bind fun p21=>some p21 else some a0 else some a0 else if ((decide ((i64.wrap (((u64.wrap (i64.wrap (a1+a3)))).fdiv (2^(min (1:Int).toNat u64.bits))))<(i64.wrap ((i64.wrap ((i64.wrap (((u64.wrap (i64.wrap (a1+a3)))).fdiv (2^(min (1:Int).toNat u64.bits))))+a2))-v4.1))))==true)=true then if (decide ((i64.wrap ((i64.wrap ((i64.wrap (((u64.wrap (i64.wrap (a1+a3)))).fdiv (2^(min (1:Int).toNat u64.bits))))+a2))-v4.1))<a3))=true then (j0 k a0 (i64.wrap (((u64.wrap (i64.wrap (a1+a3)))).fdiv (2^(min (1:Int).toNat u64.bits)))) (i64.wrap ((i64.wrap ((i64.wrap (((u64.wrap (i64.wrap (a1+a3)))).fdiv (2^(min (1:Int).toNat u64.bits))))+a2))-v4.1)) a3 a4 a5 a6).bind fun p22=>some p22 else some a0 else some a0 else if ((decide (a1<v4.1))==true)=true then if (decide (v4.1<(i64.wrap (((u64.wrap (i64.wrap (a1+a3)))).fdiv (2^(min (1:Int).toNat u64.bits))))))=true then (j0 k a0 a1 v4.1 (i64.wrap (((u64.wrap (i64.wrap (a1+a3)))).fdiv (2^(min (1:Int).toNat u64.bits)))) a4 a5 a6).bind fun p23=>if ((decide ((i64.wrap (((u64.wrap (i64.wrap (a1+a3)))).fdiv (2^(min (1:Int).toNat u64.bits))))<(i64.wrap ((i64.wrap ((i64.wrap (((u64.wrap (i64.wrap (a1+a3)))).fdiv (2^(min (1:Int).toNat u64.bits))))+a2))-v4.1))))==true)=true then if (decide ((i64.wrap ((i64.wrap ((i64.wrap (((u64.wrap (i64.wrap (a1+a3)))).fdiv (2^(min (1:Int).toNat u64.bits))))+a2))-v4.1))<a3))=true then (j0 k p23 (i64.wrap (((u64.wrap (i64.wrap (a1+a3)))).fdiv (2^(min (1:Int).toNat u64.bits)))) (i64.wrap ((i64.wrap ((i64.wrap (((u64.wrap (i64.wrap (a1+a3)))).fdiv (2^(min (1:Int).toNat u64.bits))))+a2))-v4.1)) a3 a4 a5 a6).bind fun p24=>some p24 else some p23 else some p23 else if ((decide ((i64.wrap (((u64.wrap (i64.wrap (a1+a3)))).fdiv (2^(min (1:Int).toNat u64.bits))))<(i64.wrap ((i64.wrap ((i64.wrap (((u64.wrap (i64.wrap (a1+a3)))).fdiv (2^(min (1:Int).toNat u64.bits))))+a2))-v4.1))))==true)=true then if (decide ((i64.wrap ((i64.wrap ((i64.wrap (((u64.wrap (i64.wrap (a1+a3)))).fdiv (2^(min (1:Int).toNat u64.bits))))+a2))-v4.1))<a3))=true then (j0 k a0 (i64.wrap (((u64.wrap (i64.wrap (a1+a3)))).fdiv (2^(min (1:Int).toNat u64.bits)))) (i64.wrap ((i64.wrap ((i64.wrap (((u64.wrap (i64.wrap (a1+a3)))).fdiv (2^(min (1:Int).toNat u64.bits))))+a2))-v4.1)) a3 a4 a5 a6).bind fun p25=>some p25 else some a0 else some a0 else if ((decide ((i64.wrap (((u64.wrap (i64.wrap (a1+a3)))).fdiv (2^(min (1:Int).toNat u64.bits))))<(i64.wrap ((i64.wrap ((i64.wrap (((u64.wrap (i64.wrap (a1+a3)))).fdiv (2^(min (1:Int).toNat u64.bits))))+a2))-v4.1))))==true)=true then if (decide ((i64.wrap ((i64.wrap ((i64.wrap (((u64.wrap (i64.wrap (a1+a3)))).fdiv (2^(min (1:Int).toNat u64.bits))))+a2))-v4.1))<a3))=true then (j0 k a0 (i64.wrap (((u64.wrap (i64.wrap (a1+a3)))).fdiv (2^(min (1:Int).toNat u64.bits)))) (i64.wrap ((i64.wrap ((i64.wrap (((u64.wrap (i64.wrap (a1+a3)))).fdiv (2^(min (1:Int).toNat u64.bits))))+a2))-v4.1)) a3 a4 a5 a6).bind fun p26=>some p26 else some a0 else some a0) (a1,a2,a3,a4,a5,a6,(i64.wrap (((u64.wrap (i64.wrap (a1+a3)))).fdiv (2^(min (1:Int).toNat u64.bits)))),(i64.wrap ((i64.wrap (((u64.wrap (i64.wrap (a1+a3)))).fdiv (2^(min (1:Int).toNat u64.bits))))+a2)),(i64.wrap ((i64.wrap ((i64.wrap (((u64.wrap (i64.wrap (a1+a3)))).fdiv (2^(min (1:Int).toNat u64.bits))))+a2))-1)),a0) k (a1,a2):=by
 rw [z72]
 simp only [j72,x72]
 kernel_rfl
noncomputable def vo (k:Nat) (a0:List Int) (a1:Int) (a2:Int) (a3:List Int) (a4:List Int):Option (List Int):=den E k 387 [.c (.l 3 (.i .i64) a0),cI a1,.c (.clo 350 [.at_ [vI a2,.l 3 (.i .i64) a3,.l 3 (.i .i64) a4]])]
abbrev vk:=Int×Int×(List Int)×(List Int)×Int
abbrev zd:=Int×Int×(List Int)
def jb1 (c2:vk) (v2:zd):St:=⟨63,1,[(0,.c (.ref 0)),(1,cI c2.1),(2,.c (.clo 350 [.at_ [vI c2.2.1,.l 3 (.i .i64) c2.2.2.1,.l 3 (.i .i64) c2.2.2.2.1]])),(6,cI c2.2.2.2.2),(7,cI v2.1),(8,cI v2.2.1)],[(0,.arr 3 (.i .i64) v2.2.2)]⟩
noncomputable def je1 {R:Type} (k:Nat) (X0:zd→Option R) (c2:vk) (rec:zd→Option R) (v2:zd):Option R:=if (decide (v2.2.1≤c2.1))=true then (j0 k v2.2.2 v2.1 (i64.wrap (v2.1+c2.2.2.2.2)) v2.2.1 c2.2.1 c2.2.2.1 c2.2.2.2.1).bind fun p2=>rec (v2.2.1,(i64.wrap (v2.2.1+(i64.wrap (2*c2.2.2.2.2)))),p2) else X0 v2
noncomputable def zn {R:Type} (k:Nat) (X0:zd→Option R) (c:vk):Nat→zd→Option R
 | 0,_=>none
 | n+1,v=>je1 k X0 c (zn k X0 c n) v
def j81 (K:Ex→St→Option R) (c2:vk) (v2:zd):Option R:=K (.exit 4) ⟨63,1,[(0,.c (.ref 0)),(1,cI c2.1),(2,.c (.clo 350 [.at_ [vI c2.2.1,.l 3 (.i .i64) c2.2.2.1,.l 3 (.i .i64) c2.2.2.2.1]])),(6,cI c2.2.2.2.2),(7,cI v2.1),(8,cI v2.2.1),(33,cI v2.2.1),(34,cI c2.1),(35,cB (decide (v2.2.1≤c2.1)))],[(0,.arr 3 (.i .i64) v2.2.2)]⟩
theorem we2 (k:Nat) (K:Ex→St→Option R) (c2:vk):∀(n:Nat) (v:zd),z2 [1,0,1,2,6,7,8] (run E (den E k) (lv 387) k (j1 Tryz.f387 2)) n (jb1 c2 v) K=zn k (j81 K c2) c2 n v:=j6 (B:=je1 k (j81 K c2) c2) fun n v=>by kernel_rfl
abbrev ve:=Int×Int×(List Int)×(List Int)
abbrev ya:=Int×Int×Int×(List Int)
def jj (c1:ve) (v1:ya):St:=⟨63,1,[(0,.c (.ref 0)),(1,cI c1.1),(2,.c (.clo 350 [.at_ (avs z7 c1.2)])),(6,cI v1.1),(7,cI v1.2.1),(8,cI v1.2.2.1)],[(0,.arr 3 (.i .i64) v1.2.2.2)]⟩
noncomputable def zw {R:Type} (k:Nat) (X0:ya→Option R) (c1:ve) (rec:ya→Option R) (v1:ya):Option R:=if (decide (v1.1<c1.1))=true then zn k (fun (v2:Int×Int×(List Int))=>if (decide ((i64.wrap (v2.1+v1.1))<c1.1))=true then (j0 k v2.2.2 v2.1 (i64.wrap (v2.1+v1.1)) c1.1 c1.2.1 c1.2.2.1 c1.2.2.2).bind fun p2=>rec ((i64.wrap (v1.1*2)),v2.1,v2.2.1,p2) else rec ((i64.wrap (v1.1*2)),v2.1,v2.2.1,v2.2.2)) (c1.1,c1.2.1,c1.2.2.1,c1.2.2.2,v1.1) k (0,(i64.wrap (2*v1.1)),v1.2.2.2) else X0 v1
noncomputable def jc {R:Type} (k:Nat) (X0:ya→Option R) (c:ve):Nat→ya→Option R
 | 0,_=>none
 | n+1,v=>zw k X0 c (jc k X0 c n) v
def yr (K:Ex→St→Option R) (c1:ve) (v1:ya):Option R:=K (.exit 2) ⟨63,1,[(0,.c (.ref 0)),(1,cI c1.1),(2,.c (.clo 350 [.at_ (avs z7 c1.2)])),(6,cI v1.1),(7,cI v1.2.1),(8,cI v1.2.2.1),(28,cI v1.1),(29,cI c1.1),(30,cB (decide (v1.1<c1.1)))],[(0,.arr 3 (.i .i64) v1.2.2.2)]⟩
theorem w22 (k n:Nat) (K:Ex→St→Option R) (c1:ve) (v1:ya):z2 [1,0,1,2,6,7,8] (run E (den E k) (lv 387) k (j1 Tryz.f387 1)) (n+1) (jj c1 v1) K=if (decide (v1.1<c1.1))=true then z2 [1,0,1,2,6,7,8] (run E (den E k) (lv 387) k (j1 Tryz.f387 2)) k (jb1 (c1.1,c1.2.1,c1.2.2.1,c1.2.2.2,v1.1) (0,(i64.wrap (2*v1.1)),v1.2.2.2)) (z8 E (den E k) (lv 387) k (.loop (j1 Tryz.f387 1)) (2-1) [(n,[1,0,1,2,6,7,8])] K) else K (.exit 2) ⟨63,1,[(0,.c (.ref 0)),(1,cI c1.1),(2,.c (.clo 350 [.at_ (avs z7 c1.2)])),(6,cI v1.1),(7,cI v1.2.1),(8,cI v1.2.2.1),(28,cI v1.1),(29,cI c1.1),(30,cB (decide (v1.1<c1.1)))],[(0,.arr 3 (.i .i64) v1.2.2.2)]⟩:=by kernel_rfl
theorem xe2 (k n:Nat) (K:Ex→St→Option R) (c1:ve) (v:ya):z2 [1,0,1,2,6,7,8] (run E (den E k) (lv 387) k (j1 Tryz.f387 1)) (n+1) (jj c1 v) K=zw k (yr K c1) c1 (fun v=>z2 [1,0,1,2,6,7,8] (run E (den E k) (lv 387) k (j1 Tryz.f387 1)) n (jj c1 v) K) v:=by
 rw [w22]
 simp only [we2]
 kernel_rfl
theorem vd2 (k:Nat) (K:Ex→St→Option R) (c1:ve):∀(n:Nat) (v:ya),z2 [1,0,1,2,6,7,8] (run E (den E k) (lv 387) k (j1 Tryz.f387 1)) n (jj c1 v) K=jc k (yr K c1) c1 n v:=ji2 (B:=zw k (yr K c1) c1) (fun _=>rfl) (fun n v=>xe2 k n K c1 v) (fun _=>rfl) (fun _ _=>rfl)
abbrev wk:=Int×Int×(List Int)×(List Int)×Int
abbrev wc:=Int×Int×(List Int)
def jc1 (c0:wk) (v0:wc):St:=⟨63,1,[(0,.c (.ref 0)),(1,cI c0.1),(2,.c (.clo 350 [.at_ [vI c0.2.1,.l 3 (.i .i64) c0.2.2.1,.l 3 (.i .i64) c0.2.2.2.1]])),(6,cI c0.2.2.2.2),(7,cI v0.1),(8,cI v0.2.1)],[(0,.arr 3 (.i .i64) v0.2.2)]⟩
noncomputable def ye1 {R:Type} (k:Nat) (X0:wc→Option R) (c0:wk) (rec:wc→Option R) (v0:wc):Option R:=if (decide (v0.2.1≤c0.1))=true then (zc k v0.2.2 v0.1 v0.2.1 c0.2.1 c0.2.2.1 c0.2.2.2.1).bind fun p1=>rec (v0.2.1,(i64.wrap (v0.2.1+c0.2.2.2.2)),p1) else X0 v0
noncomputable def jk {R:Type} (k:Nat) (X0:wc→Option R) (c:wk):Nat→wc→Option R
 | 0,_=>none
 | n+1,v=>ye1 k X0 c (jk k X0 c n) v
def x91 (K:Ex→St→Option R) (c0:wk) (v0:wc):Option R:=K (.exit 0) ⟨63,1,[(0,.c (.ref 0)),(1,cI c0.1),(2,.c (.clo 350 [.at_ [vI c0.2.1,.l 3 (.i .i64) c0.2.2.1,.l 3 (.i .i64) c0.2.2.2.1]])),(6,cI c0.2.2.2.2),(7,cI v0.1),(8,cI v0.2.1),(11,cI v0.2.1),(12,cI c0.1),(13,cB (decide (v0.2.1≤c0.1)))],[(0,.arr 3 (.i .i64) v0.2.2)]⟩
theorem ve2 (k:Nat) (K:Ex→St→Option R) (c0:wk):∀(n:Nat) (v:wc),z2 [1,0,1,2,6,7,8] (run E (den E k) (lv 387) k (j1 Tryz.f387 0)) n (jc1 c0 v) K=jk k (x91 K c0) c0 n v:=j6 (B:=ye1 k (x91 K c0) c0) fun n v=>by kernel_rfl
theorem ye2 (k:Nat) (a0:List Int) (a1:Int) (a2:Int) (a3:List Int) (a4:List Int):vo (k+1) a0 a1 a2 a3 a4=z2 (R:=List Int) [1,0,1,2,6,7,8] (run E (den E k) (lv 387) k (j1 Tryz.f387 0)) k (jc1 (a1,a2,a3,a4,20) (0,20,a0)) (z8 E (den E k) (lv 387) k (yc Tryz.f387) 0 [] (xa E (rs 387) Tryz.f387:Ex→St→Option (List Int))):=by kernel_rfl
theorem zf2 (k:Nat) (a0:List Int) (a1:Int) (a2:Int) (a3:List Int) (a4:List Int):vo (k+1) a0 a1 a2 a3 a4=jk k (fun (v0:Int×Int×(List Int))=>(zc k v0.2.2 v0.1 a1 a2 a3 a4).bind fun p1=>z2 (R:=List Int) [1,0,1,2,6,7,8] (run E (den E k) (lv 387) k (j1 Tryz.f387 1)) k (jj (a1,a2,a3,a4) (20,v0.1,v0.2.1,p1)) (z8 E (den E k) (lv 387) k (yc Tryz.f387) 1 [] (xa E (rs 387) Tryz.f387:Ex→St→Option (List Int)))) (a1,a2,a3,a4,20) k (0,20,a0):=by 
 rw [ye2]
 simp only [ve2]
 kernel_rfl
theorem jo2 (k:Nat) (a0:List Int) (a1:Int) (a2:Int) (a3:List Int) (a4:List Int):vo (k+1) a0 a1 a2 a3 a4=jk k (fun (v0:Int×Int×(List Int))=>(zc k v0.2.2 v0.1 a1 a2 a3 a4).bind fun p1=>jc k (fun (v1:Int×Int×Int×(List Int))=>some v1.2.2.2) (a1,a2,a3,a4) k (20,v0.1,v0.2.1,p1)) (a1,a2,a3,a4,20) k (0,20,a0):=by
 rw [zf2]
 simp only [vd2]
 kernel_rfl
noncomputable def j5 (k:Nat) (a0:List Int) (a1:Int) (a2:List Int) (a3:List Int):Option (List Int):=den E k 349 [.c (.l 3 (.i .i64) a0),.c (.clo 350 [.at_ [vI a1,.l 3 (.i .i64) a2,.l 3 (.i .i64) a3]])]
theorem vh2 (k:Nat) (a0:List Int) (a1:Int) (a2:List Int) (a3:List Int):j5 (k+1) a0 a1 a2 a3=(vo k a0 (a0.length:Int) a1 a2 a3).bind fun p1=>some p1:=by kernel_rfl
noncomputable def ya2 (k:Nat) (a0:List Int):Option (List Int):=den E k 386 [.c (.l 3 (.i .i64) a0)]
theorem jf7 (k:Nat) (a0:List Int):ya2 (k+1) a0=some (vu2 a0):=by kernel_rfl
noncomputable def jd3 (k:Nat) (a0:List Int):Option (List Int):=den E k 185 [.c (.l 3 (.i .i64) a0)]
theorem zg9 (k:Nat) (a0:List Int):jd3 (k+1) a0=if a0.length≤1099511627776 then some (zf5 a0) else none:=by kernel_rfl
noncomputable def wb2 (k:Nat) (a0:List I2) (a1:Int):Option (List Int):=den E k 348 [.c (.l 348 sI2 a0),cI a1]
abbrev zt1:=Int×(List I2)×Int
abbrev zz:=Int×(List Int)
def jq3 (c0:zt1) (v0:zz):St:=⟨38,1,[(1,cI c0.1),(5,.c (.ref 0)),(9,.c (.l 348 sI2 c0.2.1)),(10,cI c0.2.2),(11,cI v0.1)],[(0,.arr 3 (.i .i64) v0.2)]⟩
noncomputable def xw3 {R:Type} (k:Nat) (X0:zz→Option R) (c0:zt1) (rec:zz→Option R) (v0:zz):Option R:=if (decide (v0.1<c0.2.2))=true then if 0≤v0.1 then ix c0.2.1 v0.1.toNat fun x1=>if (x1.1==c0.1)=true then if (v0.2.length+([x1.2]).length)*8≤140737488355328 then if (x1.2==c0.1)=true then if ((v0.2++[x1.2]).length+([x1.1]).length)*8≤140737488355328 then rec ((i64.wrap (v0.1+1)),((v0.2++[x1.2])++[x1.1])) else none else rec ((i64.wrap (v0.1+1)),(v0.2++[x1.2])) else none else if (x1.2==c0.1)=true then if (v0.2.length+([x1.1]).length)*8≤140737488355328 then rec ((i64.wrap (v0.1+1)),(v0.2++[x1.1])) else none else rec ((i64.wrap (v0.1+1)),v0.2) else none else X0 v0
noncomputable def jb2 {R:Type} (k:Nat) (X0:zz→Option R) (c:zt1):Nat→zz→Option R
 | 0,_=>none
 | n+1,v=>xw3 k X0 c (jb2 k X0 c n) v
def vd3 (K:Ex→St→Option R) (c0:zt1) (v0:zz):Option R:=K (.exit 0) ⟨38,1,[(1,cI c0.1),(5,.c (.ref 0)),(9,.c (.l 348 sI2 c0.2.1)),(10,cI c0.2.2),(11,cI v0.1),(12,cB (decide (v0.1<c0.2.2)))],[(0,.arr 3 (.i .i64) v0.2)]⟩
theorem j96 (k:Nat) (K:Ex→St→Option R) (c0:zt1):∀(n:Nat) (v:zz),z2 [0,1,5,9,10,11] (run E (den E k) (lv 348) k (j1 Tryz.f348 0)) n (jq3 c0 v) K=jb2 k (vd3 K c0) c0 n v:=j6 (B:=xw3 k (vd3 K c0) c0) fun n v=>by kernel_rfl
theorem zk6 (k:Nat) (a0:List I2) (a1:Int):wb2 (k+1) a0 a1=z2 (R:=List Int) [0,1,5,9,10,11] (run E (den E k) (lv 348) k (j1 Tryz.f348 0)) k (jq3 (a1,a0,(a0.length:Int)) (0,[])) (z8 E (den E k) (lv 348) k (yc Tryz.f348) 0 [] (xa E (rs 348) Tryz.f348:Ex→St→Option (List Int))):=by kernel_rfl
theorem j87 (k:Nat) (a0:List I2) (a1:Int):wb2 (k+1) a0 a1=jb2 k (fun (v0:Int×(List Int))=>(jd3 k v0.2).bind fun p1=>(ya2 k p1).bind fun p2=>some p2) (a1,a0,(a0.length:Int)) k (0,[]):=by
 rw [zk6]
 simp only [j96]
 kernel_rfl
noncomputable def vy4 (k:Nat) (a0:Int×(List Int)×List Int) (a1:List I2) (a2:Int) (a3:Int):Option (List Int):=den E k 280 [.agg (avs z7 a0),.c (.l 348 sI2 a1),cI a2,cI a3]
abbrev jh3:=Int×Int×Int×(Int×(List Int)×List Int)×(List Int)
abbrev z52:=Int×(List Int)
def xr6 (c0:jh3) (v0:z52):St:=⟨91,3,[(2,cI c0.1),(3,cI c0.2.1),(4,cP 0),(9,.c (.ref 1)),(30,.c (.ref 2)),(31,cI c0.2.2.1),(32,cI v0.1)],[(0,.var (avs z7 c0.2.2.2.1)),(1,.arr 3 (.i .i64) v0.2),(2,.arr 3 (.i .i64) c0.2.2.2.2)]⟩
noncomputable def x07 {R:Type} (k:Nat) (X0:z52→Option R) (c0:jh3) (rec:z52→Option R) (v0:z52):Option R:=if (decide (v0.1<c0.2.2.1))=true then if 0≤v0.1 then if v0.1<(c0.2.2.2.2.length:Int) then ix c0.2.2.2.2 v0.1.toNat fun x4=>if 0≤c0.2.1 then ix c0.2.2.2.1.2.2 c0.2.1.toNat fun x5=>if ((x4 !=x5)==true)=true then if ((decide (x4<c0.1))==false)=true then if ((x4==c0.2.2.2.1.1)==true)=true then (yp k x4 (c0.2.2.2.1.2.1.length:Int)).bind fun p6=>if (p6==true)=true then if 0≤x4 then ix c0.2.2.2.1.2.1 x4.toNat fun x7=>if ((decide (x7≥0))==true)=true then if 0≤x4 then ix c0.2.2.2.1.2.1 x4.toNat fun x8=>if 0≤c0.2.1 then ix c0.2.2.2.1.2.1 c0.2.1.toNat fun x9=>if (decide (x8<x9))=true then if (v0.2.length+([x4]).length)*8≤140737488355328 then rec ((i64.wrap (v0.1+1)),(v0.2++[x4])) else none else rec ((i64.wrap (v0.1+1)),v0.2) else none else none else rec ((i64.wrap (v0.1+1)),v0.2) else none else rec ((i64.wrap (v0.1+1)),v0.2) else rec ((i64.wrap (v0.1+1)),v0.2) else (yp k x4 (c0.2.2.2.1.2.1.length:Int)).bind fun p10=>if (p10==true)=true then if 0≤x4 then ix c0.2.2.2.1.2.1 x4.toNat fun x11=>if ((decide (x11≥0))==true)=true then if 0≤x4 then ix c0.2.2.2.1.2.1 x4.toNat fun x12=>if 0≤c0.2.1 then ix c0.2.2.2.1.2.1 c0.2.1.toNat fun x13=>if (decide (x12<x13))=true then if (v0.2.length+([x4]).length)*8≤140737488355328 then rec ((i64.wrap (v0.1+1)),(v0.2++[x4])) else none else rec ((i64.wrap (v0.1+1)),v0.2) else none else none else rec ((i64.wrap (v0.1+1)),v0.2) else none else rec ((i64.wrap (v0.1+1)),v0.2) else rec ((i64.wrap (v0.1+1)),v0.2) else none else none else none else X0 v0
noncomputable def xv1 {R:Type} (k:Nat) (X0:z52→Option R) (c:jh3):Nat→z52→Option R
 | 0,_=>none
 | n+1,v=>x07 k X0 c (xv1 k X0 c n) v
def ws5 (K:Ex→St→Option R) (c0:jh3) (v0:z52):Option R:=K (.exit 0) ⟨91,3,[(2,cI c0.1),(3,cI c0.2.1),(4,cP 0),(9,.c (.ref 1)),(30,.c (.ref 2)),(31,cI c0.2.2.1),(32,cI v0.1),(33,cB (decide (v0.1<c0.2.2.1)))],[(0,.var (avs z7 c0.2.2.2.1)),(1,.arr 3 (.i .i64) v0.2),(2,.arr 3 (.i .i64) c0.2.2.2.2)]⟩
theorem yg9 (k:Nat) (K:Ex→St→Option R) (c0:jh3):∀(n:Nat) (v:z52),z2 [0,2,3,4,9,30,31,32] (run E (den E k) (lv 280) k (j1 Tryz.f280 0)) n (xr6 c0 v) K=xv1 k (ws5 K c0) c0 n v:=j6 (B:=x07 k (ws5 K c0) c0) fun n v=>by kernel_rfl
theorem yd9 (k:Nat) (a0:Int×(List Int)×List Int) (a1:List I2) (a2:Int) (a3:Int):vy4 (k+1) a0 a1 a2 a3=(yp k a3 (a0.2.1.length:Int)).bind fun p1=>if ((!p1)==false)=true then (yp k a3 (a0.2.2.length:Int)).bind fun p2=>if (!p2)=true then some ([]) else (wb2 k a1 a3).bind fun p3=>z2 (R:=List Int) [0,2,3,4,9,30,31,32] (run E (den E k) (lv 280) k (j1 Tryz.f280 0)) k (xr6 (a2,a3,(p3.length:Int),a0,p3) (0,[])) (z8 E (den E k) (lv 280) k (yc Tryz.f280) 0 [] (xa E (rs 280) Tryz.f280:Ex→St→Option (List Int))) else some ([]):=by kernel_rfl
theorem z3b (k:Nat) (a0:Int×(List Int)×List Int) (a1:List I2) (a2:Int) (a3:Int):vy4 (k+1) a0 a1 a2 a3=(yp k a3 (a0.2.1.length:Int)).bind fun p1=>if ((!p1)==false)=true then (yp k a3 (a0.2.2.length:Int)).bind fun p2=>if (!p2)=true then some ([]) else (wb2 k a1 a3).bind fun p3=>xv1 k (fun (v0:Int×(List Int))=>(j5 k v0.2 a0.1 a0.2.1 a0.2.2).bind fun p4=>some p4) (a2,a3,(p3.length:Int),a0,p3) k (0,[]) else some ([]):=by
 rw [yd9]
 simp only [yg9]
 kernel_rfl
noncomputable def ju2 (k:Nat) (a0:j2) (a1:Int) (a2:Int):Option (List Int):=den E k 345 [.agg (avs j4 a0),cI a1,cI a2]
abbrev zl2:=Int×Int×(List ze)×Int
abbrev zj1:=Int×(List Int)
def j15 (c0:zl2) (v0:zj1):St:=⟨47,1,[(1,cI c0.1),(2,cI c0.2.1),(7,.c (.ref 0)),(12,.c (.l 198 we c0.2.2.1)),(13,cI c0.2.2.2),(14,cI v0.1)],[(0,.arr 3 (.i .i64) v0.2)]⟩
noncomputable def yp5 {R:Type} (k:Nat) (X0:zj1→Option R) (c0:zl2) (rec:zj1→Option R) (v0:zj1):Option R:=if (decide (v0.1<c0.2.2.2))=true then if 0≤v0.1 then ix c0.2.2.1 v0.1.toNat fun x1=>(vc4 k x1.1).bind fun p2=>if (p2==true)=true then if ((decide (c0.1≤c0.2.1))==true)=true then if ((decide (x1.1.1≤c0.2.1))==true)=true then if (decide (x1.1.2>c0.1))=true then if (v0.2.length+([v0.1]).length)*8≤140737488355328 then rec ((i64.wrap (v0.1+1)),(v0.2++[v0.1])) else none else rec ((i64.wrap (v0.1+1)),v0.2) else rec ((i64.wrap (v0.1+1)),v0.2) else rec ((i64.wrap (v0.1+1)),v0.2) else rec ((i64.wrap (v0.1+1)),v0.2) else none else X0 v0
noncomputable def w73 {R:Type} (k:Nat) (X0:zj1→Option R) (c:zl2):Nat→zj1→Option R
 | 0,_=>none
 | n+1,v=>yp5 k X0 c (w73 k X0 c n) v
def xn4 (K:Ex→St→Option R) (c0:zl2) (v0:zj1):Option R:=K (.exit 0) ⟨47,1,[(1,cI c0.1),(2,cI c0.2.1),(7,.c (.ref 0)),(12,.c (.l 198 we c0.2.2.1)),(13,cI c0.2.2.2),(14,cI v0.1),(15,cB (decide (v0.1<c0.2.2.2)))],[(0,.arr 3 (.i .i64) v0.2)]⟩
theorem vu7 (k:Nat) (K:Ex→St→Option R) (c0:zl2):∀(n:Nat) (v:zj1),z2 [0,1,2,7,12,13,14] (run E (den E k) (lv 345) k (j1 Tryz.f345 0)) n (j15 c0 v) K=w73 k (xn4 K c0) c0 n v:=j6 (B:=yp5 k (xn4 K c0) c0) fun n v=>by kernel_rfl
theorem vt7 (k:Nat) (a0:j2) (a1:Int) (a2:Int):ju2 (k+1) a0 a1 a2=z2 (R:=List Int) [0,1,2,7,12,13,14] (run E (den E k) (lv 345) k (j1 Tryz.f345 0)) k (j15 (a1,a2,a0.2.2.2,(a0.2.2.2.length:Int)) (0,[])) (z8 E (den E k) (lv 345) k (yc Tryz.f345) 0 [] (xa E (rs 345) Tryz.f345:Ex→St→Option (List Int))):=by kernel_rfl
theorem ja9 (k:Nat) (a0:j2) (a1:Int) (a2:Int):ju2 (k+1) a0 a1 a2=w73 k (fun (v0:Int×(List Int))=>some v0.2) (a1,a2,a0.2.2.2,(a0.2.2.2.length:Int)) k (0,[]):=by
 rw [vt7]
 simp only [vu7]
 kernel_rfl
noncomputable def wn3 (k:Nat) (a0:List Int):Option (List Int):=den E k 224 [.c (.l 3 (.i .i64) a0)]
theorem jk8 (k:Nat) (a0:List Int):wn3 (k+1) a0=wh9 (a0.isEmpty) (some ([])) (if (0+a0.length)*8≤140737488355328 then some a0 else none):=by kernel_rfl
noncomputable def j54 (k:Nat) (a0:Int×(List Int)×List Int):Option (Int×(List Int)×List Int):=den E k 294 [.agg (avs z7 a0)]
theorem wy7 (k:Nat) (a0:Int×(List Int)×List Int):j54 (k+1) a0=(wn3 k a0.2.1).bind fun p1=>(wn3 k a0.2.2).bind fun p2=>some (a0.1,p1,p2):=by kernel_rfl
noncomputable def wf3 (k:Nat) (a0:j2) (a1:Int) (a2:Int):Option ((Int×(List Int)×List Int)×Bool):=den E k 279 [.agg (avs j4 a0),cI a1,cI a2]
theorem z8a (k:Nat) (a0:j2) (a1:Int) (a2:Int):wf3 (k+1) a0 a1 a2=(yp k a1 (a0.2.2.2.length:Int)).bind fun p1=>if ((!p1)==false)=true then if 0≤a1 then ix a0.2.2.2 a1.toNat fun x2=>(yp k a2 (x2.2.2.length:Int)).bind fun p3=>if (!p3)=true then some ((0,[],[]),false) else if 0≤a1 then ix a0.2.2.2 a1.toNat fun x4=>if 0≤a2 then ix x4.2.2 a2.toNat fun x5=>(j54 k x5).bind fun p6=>some (p6,true) else none else none else none else some ((0,[],[]),false):=by kernel_rfl
noncomputable def js (k:Nat) (a0:List (List Int)):Option (Bool):=den E k 385 [.c (.l 30 (.l 3 (.i .i64)) a0)]
abbrev j01:=(List (List Int))×Int×Bool×(List (List Int))×Int×Int×Int×(List Bool)
abbrev zm:=Int
def zh3 (c4:j01) (v4:zm):St:=⟨83,1,[(0,.c (.l 30 (.l 3 (.i .i64)) c4.1)),(3,cI c4.2.1),(6,.c (.ref 0)),(7,cB c4.2.2.1),(13,.c (.l 30 (.l 3 (.i .i64)) c4.2.2.2.1)),(14,cI c4.2.2.2.2.1),(15,cI c4.2.2.2.2.2.1),(73,cI c4.2.2.2.2.2.2.1),(74,cI v4)],[(0,.arr 4 .b c4.2.2.2.2.2.2.2)]⟩
noncomputable def z02 {R:Type} (k:Nat) (X0:zm→Bool→Option R) (X1:zm→Option R) (c4:j01) (rec:zm→Option R) (v4:zm):Option R:=if (decide (v4<c4.2.2.2.2.2.2.1))=true then if 0≤v4 then if v4<(c4.2.2.2.2.2.2.2.length:Int) then ix c4.2.2.2.2.2.2.2 v4.toNat fun x1=>if (!x1)=true then X0 v4 x1 else rec (i64.wrap (v4+1)) else none else none else X1 v4
noncomputable def y01 {R:Type} (k:Nat) (X0:zm→Bool→Option R) (X1:zm→Option R) (c:j01):Nat→zm→Option R
 | 0,_=>none
 | n+1,v=>z02 k X0 X1 c (y01 k X0 X1 c n) v
def x83 (K:Ex→St→Option R) (c4:j01) (v4:zm) (x1:Bool):Option R:=K .ret ⟨83,1,[(0,.c (.l 30 (.l 3 (.i .i64)) c4.1)),(2,cB true),(3,cI c4.2.1),(6,.c (.ref 0)),(7,cB c4.2.2.1),(12,cI v4),(13,.c (.l 30 (.l 3 (.i .i64)) c4.2.2.2.1)),(14,cI c4.2.2.2.2.1),(15,cI c4.2.2.2.2.2.1),(73,cI c4.2.2.2.2.2.2.1),(74,cI v4),(75,cB (decide (v4<c4.2.2.2.2.2.2.1))),(76,cI v4),(77,.c (.ref 0)),(78,cI v4),(79,.c (.el 0 1 v4.toNat 0)),(80,cB x1),(81,cB (!x1))],[(0,.arr 4 .b c4.2.2.2.2.2.2.2)]⟩
def x43 (K:Ex→St→Option R) (c4:j01) (v4:zm):Option R:=K (.exit 8) ⟨83,1,[(0,.c (.l 30 (.l 3 (.i .i64)) c4.1)),(3,cI c4.2.1),(6,.c (.ref 0)),(7,cB c4.2.2.1),(13,.c (.l 30 (.l 3 (.i .i64)) c4.2.2.2.1)),(14,cI c4.2.2.2.2.1),(15,cI c4.2.2.2.2.2.1),(73,cI c4.2.2.2.2.2.2.1),(74,cI v4),(75,cB (decide (v4<c4.2.2.2.2.2.2.1)))],[(0,.arr 4 .b c4.2.2.2.2.2.2.2)]⟩
theorem wx5 (k:Nat) (K:Ex→St→Option R) (c4:j01):∀(n:Nat) (v:zm),z2 [0,0,3,6,7,13,14,15,73,74] (run E (den E k) (lv 385) k (j1 Tryz.f385 4)) n (zh3 c4 v) K=y01 k (x83 K c4) (x43 K c4) c4 n v:=j6 (B:=z02 k (x83 K c4) (x43 K c4) c4) fun n v=>by kernel_rfl
abbrev wa1:=(List (List Int))×Int×Bool×Int×(List (List Int))×Int×Int×Int×Int×(List (List Int))×Int×(List Bool)
abbrev xq:=Bool×Int
def yf3 (c3:wa1) (v3:xq):St:=⟨83,1,[(0,.c (.l 30 (.l 3 (.i .i64)) c3.1)),(3,cI c3.2.1),(6,.c (.ref 0)),(7,cB c3.2.2.1),(8,cI c3.2.2.2.1),(9,cB v3.1),(13,.c (.l 30 (.l 3 (.i .i64)) c3.2.2.2.2.1)),(14,cI c3.2.2.2.2.2.1),(15,cI c3.2.2.2.2.2.2.1),(27,cI c3.2.2.2.2.2.2.2.1),(28,cI c3.2.2.2.2.2.2.2.2.1),(35,.c (.l 30 (.l 3 (.i .i64)) c3.2.2.2.2.2.2.2.2.2.1)),(36,cI c3.2.2.2.2.2.2.2.2.2.2.1),(37,cI v3.2)],[(0,.arr 4 .b c3.2.2.2.2.2.2.2.2.2.2.2)]⟩
noncomputable def vs3 {R:Type} (k:Nat) (X0:xq→Option R) (c3:wa1) (rec:xq→Option R) (v3:xq):Option R:=if (decide (v3.2<c3.2.2.2.2.2.2.2.2.2.2.1))=true then if 0≤v3.2 then ix c3.2.2.2.2.2.2.2.2.2.1 v3.2.toNat fun x2=>if (v3.1==false)=true then if ((decide (c3.2.2.2.1<(x2.length:Int)))==true)=true then if 0≤c3.2.2.2.1 then ix x2 c3.2.2.2.1.toNat fun x3=>(yp k x3 c3.2.1).bind fun p4=>if (p4==true)=true then if 0≤c3.2.2.2.1 then ix x2 c3.2.2.2.1.toNat fun x5=>if 0≤x5 then if x5<(c3.2.2.2.2.2.2.2.2.2.2.2.length:Int) then ix c3.2.2.2.2.2.2.2.2.2.2.2 x5.toNat fun x6=>rec ((!x6),(i64.wrap (v3.2+1))) else none else none else none else rec (false,(i64.wrap (v3.2+1))) else none else rec (false,(i64.wrap (v3.2+1))) else rec (true,(i64.wrap (v3.2+1))) else none else X0 v3
noncomputable def wq {R:Type} (k:Nat) (X0:xq→Option R) (c:wa1):Nat→xq→Option R
 | 0,_=>none
 | n+1,v=>vs3 k X0 c (wq k X0 c n) v
def v43 (K:Ex→St→Option R) (c3:wa1) (v3:xq):Option R:=K (.exit 6) ⟨83,1,[(0,.c (.l 30 (.l 3 (.i .i64)) c3.1)),(3,cI c3.2.1),(6,.c (.ref 0)),(7,cB c3.2.2.1),(8,cI c3.2.2.2.1),(9,cB v3.1),(13,.c (.l 30 (.l 3 (.i .i64)) c3.2.2.2.2.1)),(14,cI c3.2.2.2.2.2.1),(15,cI c3.2.2.2.2.2.2.1),(27,cI c3.2.2.2.2.2.2.2.1),(28,cI c3.2.2.2.2.2.2.2.2.1),(35,.c (.l 30 (.l 3 (.i .i64)) c3.2.2.2.2.2.2.2.2.2.1)),(36,cI c3.2.2.2.2.2.2.2.2.2.2.1),(37,cI v3.2),(38,cB (decide (v3.2<c3.2.2.2.2.2.2.2.2.2.2.1)))],[(0,.arr 4 .b c3.2.2.2.2.2.2.2.2.2.2.2)]⟩
theorem zz5 (k:Nat) (K:Ex→St→Option R) (c3:wa1):∀(n:Nat) (v:xq),z2 [0,0,3,6,7,8,9,13,14,15,27,28,35,36,37] (run E (den E k) (lv 385) k (j1 Tryz.f385 3)) n (yf3 c3 v) K=wq k (v43 K c3) c3 n v:=j6 (B:=vs3 k (v43 K c3) c3) fun n v=>by kernel_rfl
abbrev ju:=(List (List Int))×Int×(List (List Int))×Int×Int×Int
abbrev jl:=Bool×Int×(List Bool)
def z51 (c2:ju) (v2:jl):St:=⟨83,1,[(0,.c (.l 30 (.l 3 (.i .i64)) c2.1)),(3,cI c2.2.1),(6,.c (.ref 0)),(7,cB v2.1),(13,.c (.l 30 (.l 3 (.i .i64)) c2.2.2.1)),(14,cI c2.2.2.2.1),(15,cI c2.2.2.2.2.1),(27,cI c2.2.2.2.2.2),(28,cI v2.2.1)],[(0,.arr 4 .b v2.2.2)]⟩
noncomputable def wq2 {R:Type} (k:Nat) (X0:jl→Option R) (c2:ju) (rec:jl→Option R) (v2:jl):Option R:=if (decide (v2.2.1<c2.2.2.2.2.2))=true then if 0≤v2.2.1 then if v2.2.1<(v2.2.2.length:Int) then ix v2.2.2 v2.2.1.toNat fun x1=>if x1=true then rec (v2.1,(i64.wrap (v2.2.1+1)),v2.2.2) else wq k (fun (v3:Bool×Int)=>if (!v3.1)=true then if 0≤v2.2.1 then if v2.2.1<(v2.2.2.length:Int) then ix v2.2.2 v2.2.1.toNat fun y2=>rec (true,(i64.wrap (v2.2.1+1)),(v2.2.2.set v2.2.1.toNat true)) else none else none else rec (v2.1,(i64.wrap (v2.2.1+1)),v2.2.2)) (c2.1,c2.2.1,v2.1,v2.2.1,c2.2.2.1,c2.2.2.2.1,c2.2.2.2.2.1,c2.2.2.2.2.2,v2.2.1,c2.1,(c2.1.length:Int),v2.2.2) k (false,0) else none else none else X0 v2
noncomputable def vm1 {R:Type} (k:Nat) (X0:jl→Option R) (c:ju):Nat→jl→Option R
 | 0,_=>none
 | n+1,v=>wq2 k X0 c (vm1 k X0 c n) v
def yb2 (K:Ex→St→Option R) (c2:ju) (v2:jl):Option R:=K (.exit 4) ⟨83,1,[(0,.c (.l 30 (.l 3 (.i .i64)) c2.1)),(3,cI c2.2.1),(6,.c (.ref 0)),(7,cB v2.1),(13,.c (.l 30 (.l 3 (.i .i64)) c2.2.2.1)),(14,cI c2.2.2.2.1),(15,cI c2.2.2.2.2.1),(27,cI c2.2.2.2.2.2),(28,cI v2.2.1),(29,cB (decide (v2.2.1<c2.2.2.2.2.2)))],[(0,.arr 4 .b v2.2.2)]⟩
theorem zq4 (k n:Nat) (K:Ex→St→Option R) (c2:ju) (v2:jl):z2 [0,0,3,6,7,13,14,15,27,28] (run E (den E k) (lv 385) k (j1 Tryz.f385 2)) (n+1) (z51 c2 v2) K=if (decide (v2.2.1<c2.2.2.2.2.2))=true then if 0≤v2.2.1 then if v2.2.1<(v2.2.2.length:Int) then ix v2.2.2 v2.2.1.toNat fun x1=>if x1=true then z2 [0,0,3,6,7,13,14,15,27,28] (run E (den E k) (lv 385) k (j1 Tryz.f385 2)) n (z51 c2 (v2.1,(i64.wrap (v2.2.1+1)),v2.2.2)) K else z2 [0,0,3,6,7,8,9,13,14,15,27,28,35,36,37] (run E (den E k) (lv 385) k (j1 Tryz.f385 3)) k (yf3 (c2.1,c2.2.1,v2.1,v2.2.1,c2.2.2.1,c2.2.2.2.1,c2.2.2.2.2.1,c2.2.2.2.2.2,v2.2.1,c2.1,(c2.1.length:Int),v2.2.2) (false,0)) (z8 E (den E k) (lv 385) k (.loop (j1 Tryz.f385 2)) (3-2) [(n,[0,0,3,6,7,13,14,15,27,28])] K) else none else none else K (.exit 4) ⟨83,1,[(0,.c (.l 30 (.l 3 (.i .i64)) c2.1)),(3,cI c2.2.1),(6,.c (.ref 0)),(7,cB v2.1),(13,.c (.l 30 (.l 3 (.i .i64)) c2.2.2.1)),(14,cI c2.2.2.2.1),(15,cI c2.2.2.2.2.1),(27,cI c2.2.2.2.2.2),(28,cI v2.2.1),(29,cB (decide (v2.2.1<c2.2.2.2.2.2)))],[(0,.arr 4 .b v2.2.2)]⟩:=by kernel_rfl
theorem x06 (k n:Nat) (K:Ex→St→Option R) (c2:ju) (v:jl):z2 [0,0,3,6,7,13,14,15,27,28] (run E (den E k) (lv 385) k (j1 Tryz.f385 2)) (n+1) (z51 c2 v) K=wq2 k (yb2 K c2) c2 (fun v=>z2 [0,0,3,6,7,13,14,15,27,28] (run E (den E k) (lv 385) k (j1 Tryz.f385 2)) n (z51 c2 v) K) v:=by
 rw [zq4]
 simp only [zz5]
 kernel_rfl
theorem vx5 (k:Nat) (K:Ex→St→Option R) (c2:ju):∀(n:Nat) (v:jl),z2 [0,0,3,6,7,13,14,15,27,28] (run E (den E k) (lv 385) k (j1 Tryz.f385 2)) n (z51 c2 v) K=vm1 k (yb2 K c2) c2 n v:=ji2 (B:=wq2 k (yb2 K c2) c2) (fun _=>rfl) (fun n v=>x06 k n K c2 v) (fun _=>rfl) (fun _ _=>rfl)
abbrev zo:=(List (List Int))×Int×(List (List Int))×Int×Int
abbrev xj:=Bool×(List Bool)
def wh1 (c1:zo) (v1:xj):St:=⟨83,1,[(0,.c (.l 30 (.l 3 (.i .i64)) c1.1)),(3,cI c1.2.1),(6,.c (.ref 0)),(7,cB v1.1),(13,.c (.l 30 (.l 3 (.i .i64)) c1.2.2.1)),(14,cI c1.2.2.2.1),(15,cI c1.2.2.2.2)],[(0,.arr 4 .b v1.2)]⟩
noncomputable def w01 {R:Type} (k:Nat) (X0:xj→Option R) (c1:zo) (rec:xj→Option R) (v1:xj):Option R:=if v1.1=true then vm1 k (fun (v2:Bool×Int×(List Bool))=>rec (v2.1,v2.2.2)) (c1.1,c1.2.1,c1.2.2.1,c1.2.2.2.1,c1.2.2.2.2,c1.2.1) k (false,0,v1.2) else X0 v1
noncomputable def xg {R:Type} (k:Nat) (X0:xj→Option R) (c:zo):Nat→xj→Option R
 | 0,_=>none
 | n+1,v=>w01 k X0 c (xg k X0 c n) v
def v82 (K:Ex→St→Option R) (c1:zo) (v1:xj):Option R:=K (.exit 2) ⟨83,1,[(0,.c (.l 30 (.l 3 (.i .i64)) c1.1)),(3,cI c1.2.1),(6,.c (.ref 0)),(7,cB v1.1),(13,.c (.l 30 (.l 3 (.i .i64)) c1.2.2.1)),(14,cI c1.2.2.2.1),(15,cI c1.2.2.2.2),(26,cB v1.1)],[(0,.arr 4 .b v1.2)]⟩
theorem ys4 (k n:Nat) (K:Ex→St→Option R) (c1:zo) (v1:xj):z2 [0,0,3,6,7,13,14,15] (run E (den E k) (lv 385) k (j1 Tryz.f385 1)) (n+1) (wh1 c1 v1) K=if v1.1=true then z2 [0,0,3,6,7,13,14,15,27,28] (run E (den E k) (lv 385) k (j1 Tryz.f385 2)) k (z51 (c1.1,c1.2.1,c1.2.2.1,c1.2.2.2.1,c1.2.2.2.2,c1.2.1) (false,0,v1.2)) (z8 E (den E k) (lv 385) k (.loop (j1 Tryz.f385 1)) (2-1) [(n,[0,0,3,6,7,13,14,15])] K) else K (.exit 2) ⟨83,1,[(0,.c (.l 30 (.l 3 (.i .i64)) c1.1)),(3,cI c1.2.1),(6,.c (.ref 0)),(7,cB v1.1),(13,.c (.l 30 (.l 3 (.i .i64)) c1.2.2.1)),(14,cI c1.2.2.2.1),(15,cI c1.2.2.2.2),(26,cB v1.1)],[(0,.arr 4 .b v1.2)]⟩:=by kernel_rfl
theorem y06 (k n:Nat) (K:Ex→St→Option R) (c1:zo) (v:xj):z2 [0,0,3,6,7,13,14,15] (run E (den E k) (lv 385) k (j1 Tryz.f385 1)) (n+1) (wh1 c1 v) K=w01 k (v82 K c1) c1 (fun v=>z2 [0,0,3,6,7,13,14,15] (run E (den E k) (lv 385) k (j1 Tryz.f385 1)) n (wh1 c1 v) K) v:=by
 rw [ys4]
 simp only [vx5]
 kernel_rfl
theorem zx5 (k:Nat) (K:Ex→St→Option R) (c1:zo):∀(n:Nat) (v:xj),z2 [0,0,3,6,7,13,14,15] (run E (den E k) (lv 385) k (j1 Tryz.f385 1)) n (wh1 c1 v) K=xg k (v82 K c1) c1 n v:=ji2 (B:=w01 k (v82 K c1) c1) (fun _=>rfl) (fun n v=>y06 k n K c1 v) (fun _=>rfl) (fun _ _=>rfl)
abbrev zm1:=(List (List Int))×(List (List Int))×Int
abbrev zq:=Int×Int
def xd3 (c0:zm1) (v0:zq):St:=⟨83,0,[(0,.c (.l 30 (.l 3 (.i .i64)) c0.1)),(3,cI v0.1),(13,.c (.l 30 (.l 3 (.i .i64)) c0.2.1)),(14,cI c0.2.2),(15,cI v0.2)],[]⟩
noncomputable def zr3 {R:Type} (k:Nat) (X0:zq→Option R) (c0:zm1) (rec:zq→Option R) (v0:zq):Option R:=if (decide (v0.2<c0.2.2))=true then if 0≤v0.2 then ix c0.2.1 v0.2.toNat fun x1=>rec ((mx v0.1 (x1.length:Int)),(i64.wrap (v0.2+1))) else none else X0 v0
noncomputable def x01 {R:Type} (k:Nat) (X0:zq→Option R) (c:zm1):Nat→zq→Option R
 | 0,_=>none
 | n+1,v=>zr3 k X0 c (x01 k X0 c n) v
def y73 (K:Ex→St→Option R) (c0:zm1) (v0:zq):Option R:=K (.exit 0) ⟨83,0,[(0,.c (.l 30 (.l 3 (.i .i64)) c0.1)),(3,cI v0.1),(13,.c (.l 30 (.l 3 (.i .i64)) c0.2.1)),(14,cI c0.2.2),(15,cI v0.2),(16,cB (decide (v0.2<c0.2.2)))],[]⟩
theorem jy5 (k:Nat) (K:Ex→St→Option R) (c0:zm1):∀(n:Nat) (v:zq),z2 [0,0,3,13,14,15] (run E (den E k) (lv 385) k (j1 Tryz.f385 0)) n (xd3 c0 v) K=x01 k (y73 K c0) c0 n v:=j6 (B:=zr3 k (y73 K c0) c0) fun n v=>by kernel_rfl
theorem xy5 (k:Nat) (a0:List (List Int)):js (k+1) a0=z2 (R:=Bool) [0,0,3,13,14,15] (run E (den E k) (lv 385) k (j1 Tryz.f385 0)) k (xd3 (a0,a0,(a0.length:Int)) (0,0)) (z8 E (den E k) (lv 385) k (yc Tryz.f385) 0 [] (xa E (rs 385) Tryz.f385:Ex→St→Option (Bool))):=by kernel_rfl
theorem ww5 (k:Nat) (a0:List (List Int)):js (k+1) a0=x01 k (fun (v0:I2)=>if (v0.1==v0.1)=true then if 0≤v0.1 then if 1*v0.1.toNat≤281474976710656 then z2 (R:=Bool) [0,0,3,6,7,13,14,15] (run E (den E k) (lv 385) k (j1 Tryz.f385 1)) k (wh1 (a0,v0.1,a0,(a0.length:Int),v0.2) (true,(List.replicate v0.1.toNat (false:Bool)))) (z8 E (den E k) (lv 385) k (yc Tryz.f385) 1 [] (xa E (rs 385) Tryz.f385:Ex→St→Option (Bool))) else none else none else none) (a0,a0,(a0.length:Int)) k (0,0):=by 
 rw [xy5]
 simp only [jy5]
 kernel_rfl
theorem yy5 (k:Nat) (a0:List (List Int)):js (k+1) a0=x01 k (fun (v0:I2)=>if (v0.1==v0.1)=true then if 0≤v0.1 then if 1*v0.1.toNat≤281474976710656 then xg k (fun (v1:Bool×(List Bool))=>z2 (R:=Bool) [0,0,3,6,7,13,14,15,73,74] (run E (den E k) (lv 385) k (j1 Tryz.f385 4)) k (zh3 (a0,v0.1,v1.1,a0,(a0.length:Int),v0.2,v0.1,v1.2) 0) (z8 E (den E k) (lv 385) k (yc Tryz.f385) 4 [] (xa E (rs 385) Tryz.f385:Ex→St→Option (Bool)))) (a0,v0.1,a0,(a0.length:Int),v0.2) k (true,(List.replicate v0.1.toNat (false:Bool))) else none else none else none) (a0,a0,(a0.length:Int)) k (0,0):=by 
 rw [ww5]
 simp only [zx5]
 kernel_rfl
theorem xt6 (k:Nat) (a0:List (List Int)):js (k+1) a0=x01 k (fun (v0:I2)=>if (v0.1==v0.1)=true then if 0≤v0.1 then if 1*v0.1.toNat≤281474976710656 then xg k (fun (v1:Bool×(List Bool))=>y01 k (fun (v4:Int) (x1:Bool)=>some true) (fun (v4:Int)=>some false) (a0,v0.1,v1.1,a0,(a0.length:Int),v0.2,v0.1,v1.2) k 0) (a0,v0.1,a0,(a0.length:Int),v0.2) k (true,(List.replicate v0.1.toNat (false:Bool))) else none else none else none) (a0,a0,(a0.length:Int)) k (0,0):=by
 rw [yy5]
 simp only [wx5]
 kernel_rfl
noncomputable def z33 (k:Nat) (a0:j2) (a1:Int) (a2:Int) (a3:Int):Option (Bool):=den E k 343 [.agg (avs j4 a0),cI a1,cI a2,cI a3]
abbrev wa2:=Int×Int×j2×(List Int)
abbrev zc1:=Int×(List (List Int))
def wj4 (c0:wa2) (v0:zc1):St:=⟨40,3,[(1,cI c0.1),(4,cP 0),(9,.c (.ref 1)),(18,.c (.ref 2)),(19,cI c0.2.1),(20,cI v0.1)],[(0,.var (avs j4 c0.2.2.1)),(1,.arr 30 (.l 3 (.i .i64)) v0.2),(2,.arr 3 (.i .i64) c0.2.2.2)]⟩
noncomputable def js4 {R:Type} (k:Nat) (X0:zc1→Option R) (c0:wa2) (rec:zc1→Option R) (v0:zc1):Option R:=if (decide (v0.1<c0.2.1))=true then if 0≤v0.1 then if v0.1<(c0.2.2.2.length:Int) then ix c0.2.2.2 v0.1.toNat fun x2=>(wf3 k c0.2.2.1 x2 c0.1).bind fun p3=>if (v0.2.length+([p3.1.2.2]).length)*24≤140737488355328 then rec ((i64.wrap (v0.1+1)),(v0.2++[p3.1.2.2])) else none else none else none else X0 v0
noncomputable def wr2 {R:Type} (k:Nat) (X0:zc1→Option R) (c:wa2):Nat→zc1→Option R
 | 0,_=>none
 | n+1,v=>js4 k X0 c (wr2 k X0 c n) v
def v34 (K:Ex→St→Option R) (c0:wa2) (v0:zc1):Option R:=K (.exit 0) ⟨40,3,[(1,cI c0.1),(4,cP 0),(9,.c (.ref 1)),(18,.c (.ref 2)),(19,cI c0.2.1),(20,cI v0.1),(21,cB (decide (v0.1<c0.2.1)))],[(0,.var (avs j4 c0.2.2.1)),(1,.arr 30 (.l 3 (.i .i64)) v0.2),(2,.arr 3 (.i .i64) c0.2.2.2)]⟩
theorem za7 (k:Nat) (K:Ex→St→Option R) (c0:wa2):∀(n:Nat) (v:zc1),z2 [0,1,4,9,18,19,20] (run E (den E k) (lv 343) k (j1 Tryz.f343 0)) n (wj4 c0 v) K=wr2 k (v34 K c0) c0 n v:=j6 (B:=js4 k (v34 K c0) c0) fun n v=>by kernel_rfl
theorem xg7 (k:Nat) (a0:j2) (a1:Int) (a2:Int) (a3:Int):z33 (k+1) a0 a1 a2 a3=(ju2 k a0 a2 a3).bind fun p1=>z2 (R:=Bool) [0,1,4,9,18,19,20] (run E (den E k) (lv 343) k (j1 Tryz.f343 0)) k (wj4 (a1,(p1.length:Int),a0,p1) (0,[])) (z8 E (den E k) (lv 343) k (yc Tryz.f343) 0 [] (xa E (rs 343) Tryz.f343:Ex→St→Option (Bool))):=by kernel_rfl
theorem vh8 (k:Nat) (a0:j2) (a1:Int) (a2:Int) (a3:Int):z33 (k+1) a0 a1 a2 a3=(ju2 k a0 a2 a3).bind fun p1=>wr2 k (fun (v0:Int×(List (List Int)))=>(js k v0.2).bind fun p2=>some (!p2)) (a1,(p1.length:Int),a0,p1) k (0,[]):=by
 rw [xg7]
 simp only [za7]
 kernel_rfl
noncomputable def x77 (k:Nat) (a0:j2) (a1:Int) (a2:Int) (a3:Int):Option (Int×Bool):=den E k 342 [.agg (avs j4 a0),cI a1,cI a2,cI a3]
theorem w1b (k:Nat) (a0:j2) (a1:Int) (a2:Int) (a3:Int):x77 (k+1) a0 a1 a2 a3=(wf3 k a0 a1 a2).bind fun p1=>if ((!p1.2)==false)=true then (yp k a3 (p1.1.2.2.length:Int)).bind fun p2=>if (!p2)=true then some (-1,false) else if 0≤a3 then if a3<(p1.1.2.2.length:Int) then ix p1.1.2.2 a3.toNat fun x3=>some (x3,true) else none else none else some (-1,false):=by kernel_rfl
noncomputable def xm6 (k:Nat) (a0:j2) (a1:Int) (a2:Int) (a3:Int):Option (Int):=den E k 275 [.agg (avs j4 a0),cI a1,cI a2,cI a3]
theorem wkb (k:Nat) (a0:j2) (a1:Int) (a2:Int) (a3:Int):xm6 (k+1) a0 a1 a2 a3=(xg3 k a0 a3).bind fun p1=>(x77 k a0 p1 a2 a1).bind fun p2=>if ((!p2.2)==false)=true then (jw2 k a0 a3).bind fun p3=>if ((!p3)==false)=true then (z33 k a0 a2 (i64.wrap (a3-(i64.wrap (2*a0.2.2.1)))) (i64.wrap (a3+(i64.wrap (2*a0.2.2.1))))).bind fun p4=>if (!p4)=true then some (-1) else some p2.1 else some (-1) else some (-1):=by kernel_rfl
noncomputable def v16 (k:Nat) (a0:j2) (a1:Int):Option (Bool):=den E k 277 [.agg (avs j4 a0),cI a1]
theorem wqa (k:Nat) (a0:j2) (a1:Int):v16 (k+1) a0 a1=(jw2 k a0 a1).bind fun p1=>if (p1==true)=true then (ju2 k a0 (i64.wrap (a1-(i64.wrap (2*a0.2.2.1)))) (i64.wrap (a1+(i64.wrap (2*a0.2.2.1))))).bind fun p2=>some ((p2.length:Int)==1) else some false:=by kernel_rfl
noncomputable def zl3 (k:Nat) (a0:j2) (a1:Int) (a2:Int) (a3:Int) (a4:List Int):Option (Int):=den E k 204 [.agg (avs j4 a0),cI a1,cI a2,cI a3,.c (.l 3 (.i .i64) a4)]
abbrev jw1:=(List Int)×(List Int)×Int
abbrev wu:=Int
def vf4 (c0:jw1) (v0:wu):St:=⟨67,0,[(4,.c (.l 3 (.i .i64) c0.1)),(55,.c (.l 3 (.i .i64) c0.2.1)),(56,cI c0.2.2),(57,cI v0)],[]⟩
noncomputable def y05 {R:Type} (k:Nat) (X0:wu→Int→Bool→Option R) (X1:wu→Option R) (c0:jw1) (rec:wu→Option R) (v0:wu):Option R:=if (decide (v0<c0.2.2))=true then if 0≤v0 then ix c0.2.1 v0.toNat fun x8=>(xn1 k c0.1 x8).bind fun p9=>if (!p9)=true then X0 v0 x8 p9 else rec (i64.wrap (v0+1)) else none else X1 v0
noncomputable def wu1 {R:Type} (k:Nat) (X0:wu→Int→Bool→Option R) (X1:wu→Option R) (c:jw1):Nat→wu→Option R
 | 0,_=>none
 | n+1,v=>y05 k X0 X1 c (wu1 k X0 X1 c n) v
def v74 (K:Ex→St→Option R) (c0:jw1) (v0:wu) (x8:Int) (p9:Bool):Option R:=K .ret ⟨67,0,[(4,.c (.l 3 (.i .i64) c0.1)),(10,cI x8),(16,cI x8),(55,.c (.l 3 (.i .i64) c0.2.1)),(56,cI c0.2.2),(57,cI v0),(58,cB (decide (v0<c0.2.2))),(59,.c (.at_ [vI x8])),(60,cI x8),(61,.c (.l 3 (.i .i64) c0.1)),(62,cI x8),(63,cB p9),(64,cB (!p9)),(65,cI x8)],[]⟩
def w24 (K:Ex→St→Option R) (c0:jw1) (v0:wu):Option R:=K (.exit 0) ⟨67,0,[(4,.c (.l 3 (.i .i64) c0.1)),(55,.c (.l 3 (.i .i64) c0.2.1)),(56,cI c0.2.2),(57,cI v0),(58,cB (decide (v0<c0.2.2)))],[]⟩
theorem vg7 (k:Nat) (K:Ex→St→Option R) (c0:jw1):∀(n:Nat) (v:wu),z2 [0,4,55,56,57] (run E (den E k) (lv 204) k (j1 Tryz.f204 0)) n (vf4 c0 v) K=wu1 k (v74 K c0) (w24 K c0) c0 n v:=j6 (B:=y05 k (v74 K c0) (w24 K c0) c0) fun n v=>by kernel_rfl
theorem jj7 (k:Nat) (a0:j2) (a1:Int) (a2:Int) (a3:Int) (a4:List Int):zl3 (k+1) a0 a1 a2 a3 a4=(xm6 k a0 a1 a2 a3).bind fun p1=>(xn1 k a4 p1).bind fun p2=>if (!p2)=true then some p1 else if ((decide (p1<0))==false)=true then (v16 k a0 a3).bind fun p3=>if (!p3)=true then some (-1) else (xg3 k a0 a3).bind fun p4=>(wf3 k a0 p4 a2).bind fun p5=>if 0≤p4 then ix a0.2.2.2 p4.toNat fun x6=>(vy4 k p5.1 x6.2.1 a0.2.1 a1).bind fun p7=>z2 (R:=Int) [0,4,55,56,57] (run E (den E k) (lv 204) k (j1 Tryz.f204 0)) k (vf4 (a4,p7,(p7.length:Int)) 0) (z8 E (den E k) (lv 204) k (yc Tryz.f204) 0 [] (xa E (rs 204) Tryz.f204:Ex→St→Option (Int))) else none else some (-1):=by kernel_rfl
theorem xt8 (k:Nat) (a0:j2) (a1:Int) (a2:Int) (a3:Int) (a4:List Int):zl3 (k+1) a0 a1 a2 a3 a4=(xm6 k a0 a1 a2 a3).bind fun p1=>(xn1 k a4 p1).bind fun p2=>if (!p2)=true then some p1 else if ((decide (p1<0))==false)=true then (v16 k a0 a3).bind fun p3=>if (!p3)=true then some (-1) else (xg3 k a0 a3).bind fun p4=>(wf3 k a0 p4 a2).bind fun p5=>if 0≤p4 then ix a0.2.2.2 p4.toNat fun x6=>(vy4 k p5.1 x6.2.1 a0.2.1 a1).bind fun p7=>wu1 k (fun (v0:Int) (x8:Int) (p9:Bool)=>some x8) (fun (v0:Int)=>some (-1)) (a4,p7,(p7.length:Int)) k 0 else none else some (-1):=by
 rw [jj7]
 simp only [vg7]
 kernel_rfl
noncomputable def z75 (k:Nat) (a0:xm) (a1:Int) (a2:Int):Option (Int):=den E k 97 [.agg (avs xi a0),cI a1,cI a2]
theorem joa (k:Nat) (a0:xm) (a1:Int) (a2:Int):z75 (k+1) a0 a1 a2=(yp k a1 (a0.2.2.2.1.length:Int)).bind fun p1=>if ((!p1)==false)=true then (jm k a0.2.2.2.2.2.2.2.2.2.2.1 0 1000).bind fun p2=>if ((!p2)==false)=true then if 0≤a1 then ix a0.2.2.2.1 a1.toNat fun x3=>(jm k x3 (-5) 5).bind fun p4=>if (!p4)=true then some (-1) else if 0≤a1 then ix a0.2.2.2.1 a1.toNat fun x5=>(w86 k a0 a1).bind fun p6=>(zl3 k a0.2.1 a1 a2 (i64.wrap (a0.2.2.2.2.2.2.2.2.2.2.1+x5)) p6).bind fun p7=>if ((decide (p7<0))==false)=true then (z66 k a0.2.1 a1 p7 (i64.wrap (a0.2.2.2.2.2.2.2.2.2.2.1+x5))).bind fun p8=>if (!p8)=true then some (-1) else some p7 else some (-1) else none else none else some (-1) else some (-1):=by kernel_rfl
noncomputable def zv3 (k:Nat) (a0:List I6):Option (List Int):=den E k 96 [.agg [.l 66 sI6 a0]]
abbrev w13:=(List I6)×Int
abbrev ys1:=Int×(List Int)×(List Int)
def vt5 (c0:w13) (v0:ys1):St:=⟨32,2,[(3,.c (.ref 0)),(4,.c (.ref 1)),(10,.c (.l 66 sI6 c0.1)),(11,cI c0.2),(12,cI v0.1)],[(0,.arr 3 (.i .i64) v0.2.1),(1,.arr 3 (.i .i64) v0.2.2)]⟩
noncomputable def vr6 {R:Type} (k:Nat) (X0:ys1→Option R) (c0:w13) (rec:ys1→Option R) (v0:ys1):Option R:=if (decide (v0.1<c0.2))=true then if 0≤v0.1 then ix c0.1 v0.1.toNat fun x1=>if (x1.2.2.2.2.2==1)=true then if (v0.2.1.length+([v0.1]).length)*8≤140737488355328 then rec ((i64.wrap (v0.1+1)),(v0.2.1++[v0.1]),v0.2.2) else none else if (v0.2.2.length+([v0.1]).length)*8≤140737488355328 then rec ((i64.wrap (v0.1+1)),v0.2.1,(v0.2.2++[v0.1])) else none else none else X0 v0
noncomputable def zn3 {R:Type} (k:Nat) (X0:ys1→Option R) (c:w13):Nat→ys1→Option R
 | 0,_=>none
 | n+1,v=>vr6 k X0 c (zn3 k X0 c n) v
def zy4 (K:Ex→St→Option R) (c0:w13) (v0:ys1):Option R:=K (.exit 0) ⟨32,2,[(3,.c (.ref 0)),(4,.c (.ref 1)),(10,.c (.l 66 sI6 c0.1)),(11,cI c0.2),(12,cI v0.1),(13,cB (decide (v0.1<c0.2)))],[(0,.arr 3 (.i .i64) v0.2.1),(1,.arr 3 (.i .i64) v0.2.2)]⟩
theorem wd8 (k:Nat) (K:Ex→St→Option R) (c0:w13):∀(n:Nat) (v:ys1),z2 [0,3,4,10,11,12] (run E (den E k) (lv 96) k (j1 Tryz.f96 0)) n (vt5 c0 v) K=zn3 k (zy4 K c0) c0 n v:=j6 (B:=vr6 k (zy4 K c0) c0) fun n v=>by kernel_rfl
theorem ye8 (k:Nat) (a0:List I6):zv3 (k+1) a0=z2 (R:=List Int) [0,3,4,10,11,12] (run E (den E k) (lv 96) k (j1 Tryz.f96 0)) k (vt5 (a0,(a0.length:Int)) (0,[],[])) (z8 E (den E k) (lv 96) k (yc Tryz.f96) 0 [] (xa E (rs 96) Tryz.f96:Ex→St→Option (List Int))):=by kernel_rfl
theorem wu9 (k:Nat) (a0:List I6):zv3 (k+1) a0=zn3 k (fun (v0:Int×(List Int)×(List Int))=>if (v0.2.1.length+v0.2.2.length)*8≤140737488355328 then some (v0.2.1++v0.2.2) else none) (a0,(a0.length:Int)) k (0,[],[]):=by
 rw [ye8]
 simp only [wd8]
 kernel_rfl
noncomputable def j03 (k:Nat) (a0:xm) (a1:Int):Option (I6×Int×Bool):=den E k 16 [.agg (avs xi a0),cI a1]
abbrev vv1:=Int×Int×xm×Int×Int×Int×Int×Int×Int×(List I6)×(List Int)
abbrev yt:=Int
def wi4 (c0:vv1) (v0:yt):St:=⟨52,4,[(1,cI c0.1),(2,cP 0),(4,cP 1),(7,cP 2),(27,.c (.ref 3)),(28,cI c0.2.1),(29,cI v0)],[(0,.var (avs xi c0.2.2.1)),(1,.var [vI c0.2.2.2.1,vI c0.2.2.2.2.1,vI c0.2.2.2.2.2.1,vI c0.2.2.2.2.2.2.1,vI c0.2.2.2.2.2.2.2.1,vI c0.2.2.2.2.2.2.2.2.1]),(2,.var [.l 66 sI6 c0.2.2.2.2.2.2.2.2.2.1]),(3,.arr 3 (.i .i64) c0.2.2.2.2.2.2.2.2.2.2)]⟩
noncomputable def w65 {R:Type} (k:Nat) (X0:yt→Int→I6→Int→I6→Option R) (X1:yt→Option R) (c0:vv1) (rec:yt→Option R) (v0:yt):Option R:=if (decide (v0<c0.2.1))=true then if 0≤v0 then if v0<(c0.2.2.2.2.2.2.2.2.2.2.length:Int) then ix c0.2.2.2.2.2.2.2.2.2.2 v0.toNat fun x5=>if 0≤x5 then ix c0.2.2.2.2.2.2.2.2.2.1 x5.toNat fun x6=>(z75 k c0.2.2.1 c0.1 x6.2.2.2.2.1).bind fun p7=>if (decide (p7≥0))=true then if 0≤x5 then ix c0.2.2.2.2.2.2.2.2.2.1 x5.toNat fun x8=>X0 v0 x5 x6 p7 x8 else none else rec (i64.wrap (v0+1)) else none else none else none else X1 v0
noncomputable def jc2 {R:Type} (k:Nat) (X0:yt→Int→I6→Int→I6→Option R) (X1:yt→Option R) (c:vv1):Nat→yt→Option R
 | 0,_=>none
 | n+1,v=>w65 k X0 X1 c (jc2 k X0 X1 c n) v
def jv3 (K:Ex→St→Option R) (c0:vv1) (v0:yt) (x5:Int) (x6:I6) (p7:Int) (x8:I6):Option R:=K .ret ⟨52,4,[(1,cI c0.1),(2,cP 0),(4,cP 1),(5,cI p7),(6,cB true),(7,cP 2),(9,cI x5),(10,cI p7),(27,.c (.ref 3)),(28,cI c0.2.1),(29,cI v0),(30,cB (decide (v0<c0.2.1))),(31,.c (.el 3 1 v0.toNat 0)),(32,cI x5),(33,.agg (avs xi c0.2.2.1)),(34,cI c0.1),(35,cP 2),(36,.c (.l 66 sI6 c0.2.2.2.2.2.2.2.2.2.1)),(37,cI x5),(38,.c (.at_ (avs sI6 x6))),(39,.c (.at_ [vI x6.2.2.2.2.1,vI x6.2.2.2.2.2])),(40,cI x6.2.2.2.2.1),(41,cI p7),(42,cI p7),(43,cB (decide (p7≥0))),(44,cP 2),(45,.c (.l 66 sI6 c0.2.2.2.2.2.2.2.2.2.1)),(46,cI x5),(47,.c (.at_ (avs sI6 x8))),(48,.agg (avs sI6 x8)),(49,cI p7)],[(0,.var (avs xi c0.2.2.1)),(1,.var (avs sI6 x8)),(2,.var [.l 66 sI6 c0.2.2.2.2.2.2.2.2.2.1]),(3,.arr 3 (.i .i64) c0.2.2.2.2.2.2.2.2.2.2)]⟩
def v24 (K:Ex→St→Option R) (c0:vv1) (v0:yt):Option R:=K (.exit 0) ⟨52,4,[(1,cI c0.1),(2,cP 0),(4,cP 1),(7,cP 2),(27,.c (.ref 3)),(28,cI c0.2.1),(29,cI v0),(30,cB (decide (v0<c0.2.1)))],[(0,.var (avs xi c0.2.2.1)),(1,.var [vI c0.2.2.2.1,vI c0.2.2.2.2.1,vI c0.2.2.2.2.2.1,vI c0.2.2.2.2.2.2.1,vI c0.2.2.2.2.2.2.2.1,vI c0.2.2.2.2.2.2.2.2.1]),(2,.var [.l 66 sI6 c0.2.2.2.2.2.2.2.2.2.1]),(3,.arr 3 (.i .i64) c0.2.2.2.2.2.2.2.2.2.2)]⟩
theorem xd7 (k:Nat) (K:Ex→St→Option R) (c0:vv1):∀(n:Nat) (v:yt),z2 [0,1,2,4,7,27,28,29] (run E (den E k) (lv 16) k (j1 Tryz.f16 0)) n (wi4 c0 v) K=jc2 k (jv3 K c0) (v24 K c0) c0 n v:=j6 (B:=w65 k (jv3 K c0) (v24 K c0) c0) fun n v=>by kernel_rfl
theorem zl7 (k:Nat) (a0:xm) (a1:Int):j03 (k+1) a0 a1=(ww4 k a0 a1).bind fun p1=>if (p1==true)=true then (yp k a1 (a0.2.2.2.2.2.1.length:Int)).bind fun p2=>if p2=true then if 0≤a1 then ix a0.2.2.2.2.2.1 a1.toNat fun x3=>(zv3 k x3).bind fun p4=>z2 (R:=I6×Int×Bool) [0,1,2,4,7,27,28,29] (run E (den E k) (lv 16) k (j1 Tryz.f16 0)) k (wi4 (a1,(p4.length:Int),a0,0,0,0,0,0,0,x3,p4) 0) (z8 E (den E k) (lv 16) k (yc Tryz.f16) 0 [] (xa E (rs 16) Tryz.f16:Ex→St→Option (I6×Int×Bool))) else none else some ((0,0,0,0,0,0),-1,false) else some ((0,0,0,0,0,0),-1,false):=by kernel_rfl
theorem ve8 (k:Nat) (a0:xm) (a1:Int):j03 (k+1) a0 a1=(ww4 k a0 a1).bind fun p1=>if (p1==true)=true then (yp k a1 (a0.2.2.2.2.2.1.length:Int)).bind fun p2=>if p2=true then if 0≤a1 then ix a0.2.2.2.2.2.1 a1.toNat fun x3=>(zv3 k x3).bind fun p4=>jc2 k (fun (v0:Int) (x5:Int) (x6:I6) (p7:Int) (x8:I6)=>some (x8,p7,true)) (fun (v0:Int)=>some ((0,0,0,0,0,0),-1,false)) (a1,(p4.length:Int),a0,0,0,0,0,0,0,x3,p4) k 0 else none else some ((0,0,0,0,0,0),-1,false) else some ((0,0,0,0,0,0),-1,false):=by
 rw [zl7]
 simp only [xd7]
 kernel_rfl
noncomputable def vw3 (k:Nat) (a0:xm):Option (List I4):=den E k 19 [.agg (avs xi a0)]
abbrev x03:=Int×xm
abbrev vr1:=Int×(List I4)
def vv5 (c0:x03) (v0:vr1):St:=⟨37,2,[(1,cP 0),(3,.c (.ref 1)),(13,cI c0.1),(14,cI v0.1)],[(0,.var (avs xi c0.2)),(1,.arr 146 sI4 v0.2)]⟩
noncomputable def wo6 {R:Type} (k:Nat) (X0:vr1→Option R) (c0:x03) (rec:vr1→Option R) (v0:vr1):Option R:=if (decide (v0.1<c0.1))=true then (j03 k c0.2 v0.1).bind fun p1=>if p1.2.2=true then if (v0.2.length+([(c0.2.2.2.2.2.2.2.2.2.2.2.1,v0.1,p1.2.1,p1.1.1)]).length)*32≤140737488355328 then rec ((i64.wrap (v0.1+1)),(v0.2++[(c0.2.2.2.2.2.2.2.2.2.2.2.1,v0.1,p1.2.1,p1.1.1)])) else none else rec ((i64.wrap (v0.1+1)),v0.2) else X0 v0
noncomputable def jo3 {R:Type} (k:Nat) (X0:vr1→Option R) (c:x03):Nat→vr1→Option R
 | 0,_=>none
 | n+1,v=>wo6 k X0 c (jo3 k X0 c n) v
def vu4 (K:Ex→St→Option R) (c0:x03) (v0:vr1):Option R:=K (.exit 0) ⟨37,2,[(1,cP 0),(3,.c (.ref 1)),(13,cI c0.1),(14,cI v0.1),(15,cB (decide (v0.1<c0.1)))],[(0,.var (avs xi c0.2)),(1,.arr 146 sI4 v0.2)]⟩
theorem yn8 (k:Nat) (K:Ex→St→Option R) (c0:x03):∀(n:Nat) (v:vr1),z2 [0,1,3,13,14] (run E (den E k) (lv 19) k (j1 Tryz.f19 0)) n (vv5 c0 v) K=jo3 k (vu4 K c0) c0 n v:=j6 (B:=wo6 k (vu4 K c0) c0) fun n v=>by kernel_rfl
theorem wl8 (k:Nat) (a0:xm):vw3 (k+1) a0=z2 (R:=List I4) [0,1,3,13,14] (run E (den E k) (lv 19) k (j1 Tryz.f19 0)) k (vv5 ((mx 0 (mn a0.2.1.1 12)),a0) (0,[])) (z8 E (den E k) (lv 19) k (yc Tryz.f19) 0 [] (xa E (rs 19) Tryz.f19:Ex→St→Option (List I4))):=by kernel_rfl
theorem vja (k:Nat) (a0:xm):vw3 (k+1) a0=jo3 k (fun (v0:Int×(List I4))=>some v0.2) ((mx 0 (mn a0.2.1.1 12)),a0) k (0,[]):=by
 rw [wl8]
 simp only [yn8]
 kernel_rfl
noncomputable def w46 (k:Nat) (a0:I4) (a1:I4):Option (Bool):=den E k 99 [.agg (avs sI4 a0),.agg (avs sI4 a1)]
theorem wxa (k:Nat) (a0:I4) (a1:I4):w46 (k+1) a0 a1=if (a0.1 !=a1.1)=true then some false else if (a0.2.1 !=a1.2.1)=true then some false else if (a0.2.2.1 !=a1.2.2.1)=true then some false else if (a0.2.2.2 !=a1.2.2.2)=true then some false else some true:=by kernel_rfl
noncomputable def yl2 (k:Nat) (a0:List I4) (a1:List I4):Option (Bool):=den E k 20 [.c (.l 146 sI4 a0),.c (.l 146 sI4 a1)]
abbrev yi2:=(List I4)×(List I4)
abbrev z81:=Int
def vl5 (c0:yi2) (v0:z81):St:=⟨27,0,[(0,.c (.l 146 sI4 c0.1)),(1,.c (.l 146 sI4 c0.2)),(5,cI v0)],[]⟩
noncomputable def zm6 {R:Type} (k:Nat) (X0:z81→I4→I4→Bool→Option R) (X1:z81→Option R) (c0:yi2) (rec:z81→Option R) (v0:z81):Option R:=if (decide (v0<(c0.1.length:Int)))=true then if 0≤v0 then ix c0.1 v0.toNat fun x1=>if 0≤v0 then ix c0.2 v0.toNat fun x2=>(w46 k x1 x2).bind fun p3=>if (!p3)=true then X0 v0 x1 x2 p3 else rec (i64.wrap (v0+1)) else none else none else X1 v0
noncomputable def yo3 {R:Type} (k:Nat) (X0:z81→I4→I4→Bool→Option R) (X1:z81→Option R) (c:yi2):Nat→z81→Option R
 | 0,_=>none
 | n+1,v=>zm6 k X0 X1 c (yo3 k X0 X1 c n) v
def wa5 (K:Ex→St→Option R) (c0:yi2) (v0:z81) (x1:I4) (x2:I4) (p3:Bool):Option R:=K .ret ⟨27,0,[(0,.c (.l 146 sI4 c0.1)),(1,.c (.l 146 sI4 c0.2)),(4,cB false),(5,cI v0),(11,cI v0),(12,.c (.l 146 sI4 c0.1)),(13,cI (c0.1.length:Int)),(14,cB (decide (v0<(c0.1.length:Int)))),(17,.c (.l 146 sI4 c0.1)),(18,cI v0),(19,.c (.at_ (avs sI4 x1))),(20,.agg (avs sI4 x1)),(21,.c (.l 146 sI4 c0.2)),(22,cI v0),(23,.c (.at_ (avs sI4 x2))),(24,.agg (avs sI4 x2)),(25,cB p3),(26,cB (!p3))],[]⟩
def z85 (K:Ex→St→Option R) (c0:yi2) (v0:z81):Option R:=K (.exit 0) ⟨27,0,[(0,.c (.l 146 sI4 c0.1)),(1,.c (.l 146 sI4 c0.2)),(5,cI v0),(11,cI v0),(12,.c (.l 146 sI4 c0.1)),(13,cI (c0.1.length:Int)),(14,cB (decide (v0<(c0.1.length:Int))))],[]⟩
theorem wg8 (k:Nat) (K:Ex→St→Option R) (c0:yi2):∀(n:Nat) (v:z81),z2 [0,0,1,5] (run E (den E k) (lv 20) k (j1 Tryz.f20 0)) n (vl5 c0 v) K=yo3 k (wa5 K c0) (z85 K c0) c0 n v:=j6 (B:=zm6 k (wa5 K c0) (z85 K c0) c0) fun n v=>by kernel_rfl
theorem zo8 (k:Nat) (a0:List I4) (a1:List I4):yl2 (k+1) a0 a1=if ((a0.length:Int) !=(a1.length:Int))=true then some false else z2 (R:=Bool) [0,0,1,5] (run E (den E k) (lv 20) k (j1 Tryz.f20 0)) k (vl5 (a0,a1) 0) (z8 E (den E k) (lv 20) k (yc Tryz.f20) 0 [] (xa E (rs 20) Tryz.f20:Ex→St→Option (Bool))):=by kernel_rfl
theorem xu9 (k:Nat) (a0:List I4) (a1:List I4):yl2 (k+1) a0 a1=if ((a0.length:Int) !=(a1.length:Int))=true then some false else yo3 k (fun (v0:Int) (x1:I4) (x2:I4) (p3:Bool)=>some false) (fun (v0:Int)=>some true) (a0,a1) k 0:=by
 rw [zo8]
 simp only [wg8]
 kernel_rfl
noncomputable def jp3 (k:Nat) (a0:I6) (a1:I6):Option (Bool):=den E k 191 [.agg (avs sI6 a0),.agg (avs sI6 a1)]
theorem yg8 (k:Nat) (a0:I6) (a1:I6):jp3 (k+1) a0 a1=if (a0.1 !=a1.1)=true then some false else if (a0.2.1 !=a1.2.1)=true then some false else if (a0.2.2.1 !=a1.2.2.1)=true then some false else if (a0.2.2.2.1 !=a1.2.2.2.1)=true then some false else if (a0.2.2.2.2.1 !=a1.2.2.2.2.1)=true then some false else if (a0.2.2.2.2.2 !=a1.2.2.2.2.2)=true then some false else some true:=by kernel_rfl
noncomputable def vl2 (k:Nat) (a0:List I6) (a1:List I6):Option (Bool):=den E k 85 [.c (.l 159 sI6 a0),.c (.l 159 sI6 a1)]
abbrev jn1:=(List I6)×(List I6)
abbrev xp:=Int
def vy3 (c0:jn1) (v0:xp):St:=⟨27,0,[(0,.c (.l 159 sI6 c0.1)),(1,.c (.l 159 sI6 c0.2)),(5,cI v0)],[]⟩
noncomputable def zn4 {R:Type} (k:Nat) (X0:xp→I6→I6→Bool→Option R) (X1:xp→Option R) (c0:jn1) (rec:xp→Option R) (v0:xp):Option R:=if (decide (v0<(c0.1.length:Int)))=true then if 0≤v0 then ix c0.1 v0.toNat fun x1=>if 0≤v0 then ix c0.2 v0.toNat fun x2=>(jp3 k x1 x2).bind fun p3=>if (!p3)=true then X0 v0 x1 x2 p3 else rec (i64.wrap (v0+1)) else none else none else X1 v0
noncomputable def vk2 {R:Type} (k:Nat) (X0:xp→I6→I6→Bool→Option R) (X1:xp→Option R) (c:jn1):Nat→xp→Option R
 | 0,_=>none
 | n+1,v=>zn4 k X0 X1 c (vk2 k X0 X1 c n) v
def js3 (K:Ex→St→Option R) (c0:jn1) (v0:xp) (x1:I6) (x2:I6) (p3:Bool):Option R:=K .ret ⟨27,0,[(0,.c (.l 159 sI6 c0.1)),(1,.c (.l 159 sI6 c0.2)),(4,cB false),(5,cI v0),(11,cI v0),(12,.c (.l 159 sI6 c0.1)),(13,cI (c0.1.length:Int)),(14,cB (decide (v0<(c0.1.length:Int)))),(17,.c (.l 159 sI6 c0.1)),(18,cI v0),(19,.c (.at_ (avs sI6 x1))),(20,.agg (avs sI6 x1)),(21,.c (.l 159 sI6 c0.2)),(22,cI v0),(23,.c (.at_ (avs sI6 x2))),(24,.agg (avs sI6 x2)),(25,cB p3),(26,cB (!p3))],[]⟩
def xt3 (K:Ex→St→Option R) (c0:jn1) (v0:xp):Option R:=K (.exit 0) ⟨27,0,[(0,.c (.l 159 sI6 c0.1)),(1,.c (.l 159 sI6 c0.2)),(5,cI v0),(11,cI v0),(12,.c (.l 159 sI6 c0.1)),(13,cI (c0.1.length:Int)),(14,cB (decide (v0<(c0.1.length:Int))))],[]⟩
theorem yu6 (k:Nat) (K:Ex→St→Option R) (c0:jn1):∀(n:Nat) (v:xp),z2 [0,0,1,5] (run E (den E k) (lv 85) k (j1 Tryz.f85 0)) n (vy3 c0 v) K=vk2 k (js3 K c0) (xt3 K c0) c0 n v:=j6 (B:=zn4 k (js3 K c0) (xt3 K c0) c0) fun n v=>by kernel_rfl
theorem xw6 (k:Nat) (a0:List I6) (a1:List I6):vl2 (k+1) a0 a1=if ((a0.length:Int) !=(a1.length:Int))=true then some false else z2 (R:=Bool) [0,0,1,5] (run E (den E k) (lv 85) k (j1 Tryz.f85 0)) k (vy3 (a0,a1) 0) (z8 E (den E k) (lv 85) k (yc Tryz.f85) 0 [] (xa E (rs 85) Tryz.f85:Ex→St→Option (Bool))):=by kernel_rfl
theorem vo7 (k:Nat) (a0:List I6) (a1:List I6):vl2 (k+1) a0 a1=if ((a0.length:Int) !=(a1.length:Int))=true then some false else vk2 k (fun (v0:Int) (x1:I6) (x2:I6) (p3:Bool)=>some false) (fun (v0:Int)=>some true) (a0,a1) k 0:=by
 rw [xw6]
 simp only [yu6]
 kernel_rfl
noncomputable def v85 (k:Nat) (a0:I4) (a1:I4):Option (Bool):=den E k 195 [.agg (avs sI4 a0),.agg (avs sI4 a1)]
theorem zea (k:Nat) (a0:I4) (a1:I4):v85 (k+1) a0 a1=if (a0.1 !=a1.1)=true then some false else if (a0.2.1 !=a1.2.1)=true then some false else if (a0.2.2.1 !=a1.2.2.1)=true then some false else if (a0.2.2.2 !=a1.2.2.2)=true then some false else some true:=by kernel_rfl
noncomputable def zg3 (k:Nat) (a0:List I4) (a1:List I4):Option (Bool):=den E k 89 [.c (.l 86 sI4 a0),.c (.l 86 sI4 a1)]
abbrev w32:=(List I4)×(List I4)
abbrev xz:=Int
def j05 (c0:w32) (v0:xz):St:=⟨27,0,[(0,.c (.l 86 sI4 c0.1)),(1,.c (.l 86 sI4 c0.2)),(5,cI v0)],[]⟩
noncomputable def yq5 {R:Type} (k:Nat) (X0:xz→I4→I4→Bool→Option R) (X1:xz→Option R) (c0:w32) (rec:xz→Option R) (v0:xz):Option R:=if (decide (v0<(c0.1.length:Int)))=true then if 0≤v0 then ix c0.1 v0.toNat fun x1=>if 0≤v0 then ix c0.2 v0.toNat fun x2=>(v85 k x1 x2).bind fun p3=>if (!p3)=true then X0 v0 x1 x2 p3 else rec (i64.wrap (v0+1)) else none else none else X1 v0
noncomputable def w93 {R:Type} (k:Nat) (X0:xz→I4→I4→Bool→Option R) (X1:xz→Option R) (c:w32):Nat→xz→Option R
 | 0,_=>none
 | n+1,v=>yq5 k X0 X1 c (w93 k X0 X1 c n) v
def yf4 (K:Ex→St→Option R) (c0:w32) (v0:xz) (x1:I4) (x2:I4) (p3:Bool):Option R:=K .ret ⟨27,0,[(0,.c (.l 86 sI4 c0.1)),(1,.c (.l 86 sI4 c0.2)),(4,cB false),(5,cI v0),(11,cI v0),(12,.c (.l 86 sI4 c0.1)),(13,cI (c0.1.length:Int)),(14,cB (decide (v0<(c0.1.length:Int)))),(17,.c (.l 86 sI4 c0.1)),(18,cI v0),(19,.c (.at_ (avs sI4 x1))),(20,.agg (avs sI4 x1)),(21,.c (.l 86 sI4 c0.2)),(22,cI v0),(23,.c (.at_ (avs sI4 x2))),(24,.agg (avs sI4 x2)),(25,cB p3),(26,cB (!p3))],[]⟩
def zi4 (K:Ex→St→Option R) (c0:w32) (v0:xz):Option R:=K (.exit 0) ⟨27,0,[(0,.c (.l 86 sI4 c0.1)),(1,.c (.l 86 sI4 c0.2)),(5,cI v0),(11,cI v0),(12,.c (.l 86 sI4 c0.1)),(13,cI (c0.1.length:Int)),(14,cB (decide (v0<(c0.1.length:Int))))],[]⟩
theorem jx7 (k:Nat) (K:Ex→St→Option R) (c0:w32):∀(n:Nat) (v:xz),z2 [0,0,1,5] (run E (den E k) (lv 89) k (j1 Tryz.f89 0)) n (j05 c0 v) K=w93 k (yf4 K c0) (zi4 K c0) c0 n v:=j6 (B:=yq5 k (yf4 K c0) (zi4 K c0) c0) fun n v=>by kernel_rfl
theorem yu7 (k:Nat) (a0:List I4) (a1:List I4):zg3 (k+1) a0 a1=if ((a0.length:Int) !=(a1.length:Int))=true then some false else z2 (R:=Bool) [0,0,1,5] (run E (den E k) (lv 89) k (j1 Tryz.f89 0)) k (j05 (a0,a1) 0) (z8 E (den E k) (lv 89) k (yc Tryz.f89) 0 [] (xa E (rs 89) Tryz.f89:Ex→St→Option (Bool))):=by kernel_rfl
theorem x99 (k:Nat) (a0:List I4) (a1:List I4):zg3 (k+1) a0 a1=if ((a0.length:Int) !=(a1.length:Int))=true then some false else w93 k (fun (v0:Int) (x1:I4) (x2:I4) (p3:Bool)=>some false) (fun (v0:Int)=>some true) (a0,a1) k 0:=by
 rw [yu7]
 simp only [jx7]
 kernel_rfl
noncomputable def j36 (k:Nat) (a0:I4) (a1:I4):Option (Bool):=den E k 193 [.agg (avs sI4 a0),.agg (avs sI4 a1)]
theorem xva (k:Nat) (a0:I4) (a1:I4):j36 (k+1) a0 a1=if (a0.1 !=a1.1)=true then some false else if (a0.2.1 !=a1.2.1)=true then some false else if (a0.2.2.1 !=a1.2.2.1)=true then some false else if (a0.2.2.2 !=a1.2.2.2)=true then some false else some true:=by kernel_rfl
noncomputable def y74 (k:Nat) (a0:List I4) (a1:List I4):Option (Bool):=den E k 87 [.c (.l 85 sI4 a0),.c (.l 85 sI4 a1)]
abbrev yg2:=(List I4)×(List I4)
abbrev z61:=Int
def xr5 (c0:yg2) (v0:z61):St:=⟨27,0,[(0,.c (.l 85 sI4 c0.1)),(1,.c (.l 85 sI4 c0.2)),(5,cI v0)],[]⟩
noncomputable def va6 {R:Type} (k:Nat) (X0:z61→I4→I4→Bool→Option R) (X1:z61→Option R) (c0:yg2) (rec:z61→Option R) (v0:z61):Option R:=if (decide (v0<(c0.1.length:Int)))=true then if 0≤v0 then ix c0.1 v0.toNat fun x1=>if 0≤v0 then ix c0.2 v0.toNat fun x2=>(j36 k x1 x2).bind fun p3=>if (!p3)=true then X0 v0 x1 x2 p3 else rec (i64.wrap (v0+1)) else none else none else X1 v0
noncomputable def xm3 {R:Type} (k:Nat) (X0:z61→I4→I4→Bool→Option R) (X1:z61→Option R) (c:yg2):Nat→z61→Option R
 | 0,_=>none
 | n+1,v=>va6 k X0 X1 c (xm3 k X0 X1 c n) v
def xd5 (K:Ex→St→Option R) (c0:yg2) (v0:z61) (x1:I4) (x2:I4) (p3:Bool):Option R:=K .ret ⟨27,0,[(0,.c (.l 85 sI4 c0.1)),(1,.c (.l 85 sI4 c0.2)),(4,cB false),(5,cI v0),(11,cI v0),(12,.c (.l 85 sI4 c0.1)),(13,cI (c0.1.length:Int)),(14,cB (decide (v0<(c0.1.length:Int)))),(17,.c (.l 85 sI4 c0.1)),(18,cI v0),(19,.c (.at_ (avs sI4 x1))),(20,.agg (avs sI4 x1)),(21,.c (.l 85 sI4 c0.2)),(22,cI v0),(23,.c (.at_ (avs sI4 x2))),(24,.agg (avs sI4 x2)),(25,cB p3),(26,cB (!p3))],[]⟩
def j85 (K:Ex→St→Option R) (c0:yg2) (v0:z61):Option R:=K (.exit 0) ⟨27,0,[(0,.c (.l 85 sI4 c0.1)),(1,.c (.l 85 sI4 c0.2)),(5,cI v0),(11,cI v0),(12,.c (.l 85 sI4 c0.1)),(13,cI (c0.1.length:Int)),(14,cB (decide (v0<(c0.1.length:Int))))],[]⟩
theorem wq8 (k:Nat) (K:Ex→St→Option R) (c0:yg2):∀(n:Nat) (v:z61),z2 [0,0,1,5] (run E (den E k) (lv 87) k (j1 Tryz.f87 0)) n (xr5 c0 v) K=xm3 k (xd5 K c0) (j85 K c0) c0 n v:=j6 (B:=va6 k (xd5 K c0) (j85 K c0) c0) fun n v=>by kernel_rfl
theorem ym8 (k:Nat) (a0:List I4) (a1:List I4):y74 (k+1) a0 a1=if ((a0.length:Int) !=(a1.length:Int))=true then some false else z2 (R:=Bool) [0,0,1,5] (run E (den E k) (lv 87) k (j1 Tryz.f87 0)) k (xr5 (a0,a1) 0) (z8 E (den E k) (lv 87) k (yc Tryz.f87) 0 [] (xa E (rs 87) Tryz.f87:Ex→St→Option (Bool))):=by kernel_rfl
theorem waa (k:Nat) (a0:List I4) (a1:List I4):y74 (k+1) a0 a1=if ((a0.length:Int) !=(a1.length:Int))=true then some false else xm3 k (fun (v0:Int) (x1:I4) (x2:I4) (p3:Bool)=>some false) (fun (v0:Int)=>some true) (a0,a1) k 0:=by
 rw [ym8]
 simp only [wq8]
 kernel_rfl
noncomputable def yl1 (k:Nat) (a0:List Int) (a1:List Int):Option (Bool):=den E k 84 [.c (.l 3 (.i .i64) a0),.c (.l 3 (.i .i64) a1)]
abbrev yv2:=(List Int)×(List Int)
abbrev jg1:=Int
def ym6 (c0:yv2) (v0:jg1):St:=⟨26,0,[(0,.c (.l 3 (.i .i64) c0.1)),(1,.c (.l 3 (.i .i64) c0.2)),(5,cI v0)],[]⟩
noncomputable def jy6 {R:Type} (k:Nat) (X0:jg1→Int→Int→Option R) (X1:jg1→Option R) (c0:yv2) (rec:jg1→Option R) (v0:jg1):Option R:=if (decide (v0<(c0.1.length:Int)))=true then if 0≤v0 then ix c0.1 v0.toNat fun x1=>if 0≤v0 then ix c0.2 v0.toNat fun x2=>if (x1 !=x2)=true then X0 v0 x1 x2 else rec (i64.wrap (v0+1)) else none else none else X1 v0
noncomputable def xa4 {R:Type} (k:Nat) (X0:jg1→Int→Int→Option R) (X1:jg1→Option R) (c:yv2):Nat→jg1→Option R
 | 0,_=>none
 | n+1,v=>jy6 k X0 X1 c (xa4 k X0 X1 c n) v
def wu5 (K:Ex→St→Option R) (c0:yv2) (v0:jg1) (x1:Int) (x2:Int):Option R:=K .ret ⟨26,0,[(0,.c (.l 3 (.i .i64) c0.1)),(1,.c (.l 3 (.i .i64) c0.2)),(4,cB false),(5,cI v0),(11,cI v0),(12,.c (.l 3 (.i .i64) c0.1)),(13,cI (c0.1.length:Int)),(14,cB (decide (v0<(c0.1.length:Int)))),(17,.c (.l 3 (.i .i64) c0.1)),(18,cI v0),(19,.c (.at_ [vI x1])),(20,cI x1),(21,.c (.l 3 (.i .i64) c0.2)),(22,cI v0),(23,.c (.at_ [vI x2])),(24,cI x2),(25,cB (x1 !=x2))],[]⟩
def yv5 (K:Ex→St→Option R) (c0:yv2) (v0:jg1):Option R:=K (.exit 0) ⟨26,0,[(0,.c (.l 3 (.i .i64) c0.1)),(1,.c (.l 3 (.i .i64) c0.2)),(5,cI v0),(11,cI v0),(12,.c (.l 3 (.i .i64) c0.1)),(13,cI (c0.1.length:Int)),(14,cB (decide (v0<(c0.1.length:Int))))],[]⟩
theorem vd9 (k:Nat) (K:Ex→St→Option R) (c0:yv2):∀(n:Nat) (v:jg1),z2 [0,0,1,5] (run E (den E k) (lv 84) k (j1 Tryz.f84 0)) n (ym6 c0 v) K=xa4 k (wu5 K c0) (yv5 K c0) c0 n v:=j6 (B:=jy6 k (wu5 K c0) (yv5 K c0) c0) fun n v=>by kernel_rfl
theorem vh9 (k:Nat) (a0:List Int) (a1:List Int):yl1 (k+1) a0 a1=if ((a0.length:Int) !=(a1.length:Int))=true then some false else z2 (R:=Bool) [0,0,1,5] (run E (den E k) (lv 84) k (j1 Tryz.f84 0)) k (ym6 (a0,a1) 0) (z8 E (den E k) (lv 84) k (yc Tryz.f84) 0 [] (xa E (rs 84) Tryz.f84:Ex→St→Option (Bool))):=by kernel_rfl
theorem zya (k:Nat) (a0:List Int) (a1:List Int):yl1 (k+1) a0 a1=if ((a0.length:Int) !=(a1.length:Int))=true then some false else xa4 k (fun (v0:Int) (x1:Int) (x2:Int)=>some false) (fun (v0:Int)=>some true) (a0,a1) k 0:=by
 rw [vh9]
 simp only [vd9]
 kernel_rfl
noncomputable def wb7 (k:Nat) (a0:List Int) (a1:List Int):Option (Bool):=den E k 83 [.agg [.l 3 (.i .i64) a0],.agg [.l 3 (.i .i64) a1]]
theorem ygb (k:Nat) (a0:List Int) (a1:List Int):wb7 (k+1) a0 a1=(yl1 k a0 a1).bind fun p1=>if (!p1)=true then some false else some true:=by kernel_rfl
noncomputable def yb4 (k:Nat) (a0:I6) (a1:I6):Option (Bool):=den E k 17 [.agg (avs sI6 a0),.agg (avs sI6 a1)]
theorem yf9 (k:Nat) (a0:I6) (a1:I6):yb4 (k+1) a0 a1=if (a0.1 !=a1.1)=true then some false else if (a0.2.1 !=a1.2.1)=true then some false else if (a0.2.2.1 !=a1.2.2.1)=true then some false else if (a0.2.2.2.1 !=a1.2.2.2.1)=true then some false else if (a0.2.2.2.2.1 !=a1.2.2.2.2.1)=true then some false else if (a0.2.2.2.2.2 !=a1.2.2.2.2.2)=true then some false else some true:=by kernel_rfl
noncomputable def j22 (k:Nat) (a0:List I6) (a1:List I6):Option (Bool):=den E k 90 [.c (.l 66 sI6 a0),.c (.l 66 sI6 a1)]
abbrev ww1:=(List I6)×(List I6)
abbrev zu:=Int
def xf4 (c0:ww1) (v0:zu):St:=⟨27,0,[(0,.c (.l 66 sI6 c0.1)),(1,.c (.l 66 sI6 c0.2)),(5,cI v0)],[]⟩
noncomputable def yw4 {R:Type} (k:Nat) (X0:zu→I6→I6→Bool→Option R) (X1:zu→Option R) (c0:ww1) (rec:zu→Option R) (v0:zu):Option R:=if (decide (v0<(c0.1.length:Int)))=true then if 0≤v0 then ix c0.1 v0.toNat fun x1=>if 0≤v0 then ix c0.2 v0.toNat fun x2=>(yb4 k x1 x2).bind fun p3=>if (!p3)=true then X0 v0 x1 x2 p3 else rec (i64.wrap (v0+1)) else none else none else X1 v0
noncomputable def xr2 {R:Type} (k:Nat) (X0:zu→I6→I6→Bool→Option R) (X1:zu→Option R) (c:ww1):Nat→zu→Option R
 | 0,_=>none
 | n+1,v=>yw4 k X0 X1 c (xr2 k X0 X1 c n) v
def j14 (K:Ex→St→Option R) (c0:ww1) (v0:zu) (x1:I6) (x2:I6) (p3:Bool):Option R:=K .ret ⟨27,0,[(0,.c (.l 66 sI6 c0.1)),(1,.c (.l 66 sI6 c0.2)),(4,cB false),(5,cI v0),(11,cI v0),(12,.c (.l 66 sI6 c0.1)),(13,cI (c0.1.length:Int)),(14,cB (decide (v0<(c0.1.length:Int)))),(17,.c (.l 66 sI6 c0.1)),(18,cI v0),(19,.c (.at_ (avs sI6 x1))),(20,.agg (avs sI6 x1)),(21,.c (.l 66 sI6 c0.2)),(22,cI v0),(23,.c (.at_ (avs sI6 x2))),(24,.agg (avs sI6 x2)),(25,cB p3),(26,cB (!p3))],[]⟩
def xy3 (K:Ex→St→Option R) (c0:ww1) (v0:zu):Option R:=K (.exit 0) ⟨27,0,[(0,.c (.l 66 sI6 c0.1)),(1,.c (.l 66 sI6 c0.2)),(5,cI v0),(11,cI v0),(12,.c (.l 66 sI6 c0.1)),(13,cI (c0.1.length:Int)),(14,cB (decide (v0<(c0.1.length:Int))))],[]⟩
theorem vk7 (k:Nat) (K:Ex→St→Option R) (c0:ww1):∀(n:Nat) (v:zu),z2 [0,0,1,5] (run E (den E k) (lv 90) k (j1 Tryz.f90 0)) n (xf4 c0 v) K=xr2 k (j14 K c0) (xy3 K c0) c0 n v:=j6 (B:=yw4 k (j14 K c0) (xy3 K c0) c0) fun n v=>by kernel_rfl
theorem jc7 (k:Nat) (a0:List I6) (a1:List I6):j22 (k+1) a0 a1=if ((a0.length:Int) !=(a1.length:Int))=true then some false else z2 (R:=Bool) [0,0,1,5] (run E (den E k) (lv 90) k (j1 Tryz.f90 0)) k (xf4 (a0,a1) 0) (z8 E (den E k) (lv 90) k (yc Tryz.f90) 0 [] (xa E (rs 90) Tryz.f90:Ex→St→Option (Bool))):=by kernel_rfl
theorem wa8 (k:Nat) (a0:List I6) (a1:List I6):j22 (k+1) a0 a1=if ((a0.length:Int) !=(a1.length:Int))=true then some false else xr2 k (fun (v0:Int) (x1:I6) (x2:I6) (p3:Bool)=>some false) (fun (v0:Int)=>some true) (a0,a1) k 0:=by
 rw [jc7]
 simp only [vk7]
 kernel_rfl
noncomputable def j46 (k:Nat) (a0:I2) (a1:I2):Option (Bool):=den E k 382 [.agg [vI a0.1,vI a0.2],.agg [vI a1.1,vI a1.2]]
theorem zxa (k:Nat) (a0:I2) (a1:I2):j46 (k+1) a0 a1=if (a0.1 !=a1.1)=true then some false else if (a0.2 !=a1.2)=true then some false else some true:=by kernel_rfl
noncomputable def z84 (k:Nat) (a0:List I2) (a1:List I2):Option (Bool):=den E k 334 [.c (.l 348 sI2 a0),.c (.l 348 sI2 a1)]
abbrev vg2:=(List I2)×(List I2)
abbrev x51:=Int
def xq5 (c0:vg2) (v0:x51):St:=⟨27,0,[(0,.c (.l 348 sI2 c0.1)),(1,.c (.l 348 sI2 c0.2)),(5,cI v0)],[]⟩
noncomputable def xo6 {R:Type} (k:Nat) (X0:x51→I2→I2→Bool→Option R) (X1:x51→Option R) (c0:vg2) (rec:x51→Option R) (v0:x51):Option R:=if (decide (v0<(c0.1.length:Int)))=true then if 0≤v0 then ix c0.1 v0.toNat fun x1=>if 0≤v0 then ix c0.2 v0.toNat fun x2=>(j46 k x1 x2).bind fun p3=>if (!p3)=true then X0 v0 x1 x2 p3 else rec (i64.wrap (v0+1)) else none else none else X1 v0
noncomputable def jn3 {R:Type} (k:Nat) (X0:x51→I2→I2→Bool→Option R) (X1:x51→Option R) (c:vg2):Nat→x51→Option R
 | 0,_=>none
 | n+1,v=>xo6 k X0 X1 c (jn3 k X0 X1 c n) v
def y25 (K:Ex→St→Option R) (c0:vg2) (v0:x51) (x1:I2) (x2:I2) (p3:Bool):Option R:=K .ret ⟨27,0,[(0,.c (.l 348 sI2 c0.1)),(1,.c (.l 348 sI2 c0.2)),(4,cB false),(5,cI v0),(11,cI v0),(12,.c (.l 348 sI2 c0.1)),(13,cI (c0.1.length:Int)),(14,cB (decide (v0<(c0.1.length:Int)))),(17,.c (.l 348 sI2 c0.1)),(18,cI v0),(19,.c (.at_ [vI x1.1,vI x1.2])),(20,.agg [vI x1.1,vI x1.2]),(21,.c (.l 348 sI2 c0.2)),(22,cI v0),(23,.c (.at_ [vI x2.1,vI x2.2])),(24,.agg [vI x2.1,vI x2.2]),(25,cB p3),(26,cB (!p3))],[]⟩
def xv4 (K:Ex→St→Option R) (c0:vg2) (v0:x51):Option R:=K (.exit 0) ⟨27,0,[(0,.c (.l 348 sI2 c0.1)),(1,.c (.l 348 sI2 c0.2)),(5,cI v0),(11,cI v0),(12,.c (.l 348 sI2 c0.1)),(13,cI (c0.1.length:Int)),(14,cB (decide (v0<(c0.1.length:Int))))],[]⟩
theorem j78 (k:Nat) (K:Ex→St→Option R) (c0:vg2):∀(n:Nat) (v:x51),z2 [0,0,1,5] (run E (den E k) (lv 334) k (j1 Tryz.f334 0)) n (xq5 c0 v) K=jn3 k (y25 K c0) (xv4 K c0) c0 n v:=j6 (B:=xo6 k (y25 K c0) (xv4 K c0) c0) fun n v=>by kernel_rfl
theorem jl8 (k:Nat) (a0:List I2) (a1:List I2):z84 (k+1) a0 a1=if ((a0.length:Int) !=(a1.length:Int))=true then some false else z2 (R:=Bool) [0,0,1,5] (run E (den E k) (lv 334) k (j1 Tryz.f334 0)) k (xq5 (a0,a1) 0) (z8 E (den E k) (lv 334) k (yc Tryz.f334) 0 [] (xa E (rs 334) Tryz.f334:Ex→St→Option (Bool))):=by kernel_rfl
theorem xda (k:Nat) (a0:List I2) (a1:List I2):z84 (k+1) a0 a1=if ((a0.length:Int) !=(a1.length:Int))=true then some false else jn3 k (fun (v0:Int) (x1:I2) (x2:I2) (p3:Bool)=>some false) (fun (v0:Int)=>some true) (a0,a1) k 0:=by
 rw [jl8]
 simp only [j78]
 kernel_rfl
noncomputable def y66 (k:Nat) (a0:I2) (a1:I2):Option (Bool):=den E k 333 [.agg [vI a0.1,vI a0.2],.agg [vI a1.1,vI a1.2]]
theorem wsa (k:Nat) (a0:I2) (a1:I2):y66 (k+1) a0 a1=if (a0.1 !=a1.1)=true then some false else if (a0.2 !=a1.2)=true then some false else some true:=by kernel_rfl
noncomputable def w85 (k:Nat) (a0:Int×(List Int)×List Int) (a1:Int×(List Int)×List Int):Option (Bool):=den E k 383 [.agg (avs z7 a0),.agg (avs z7 a1)]
theorem vx9 (k:Nat) (a0:Int×(List Int)×List Int) (a1:Int×(List Int)×List Int):w85 (k+1) a0 a1=if (a0.1 !=a1.1)=true then some false else (yl1 k a0.2.1 a1.2.1).bind fun p1=>if (!p1)=true then some false else (yl1 k a0.2.2 a1.2.2).bind fun p2=>if (!p2)=true then some false else some true:=by kernel_rfl
noncomputable def ve3 (k:Nat) (a0:List (Int×(List Int)×List Int)) (a1:List (Int×(List Int)×List Int)):Option (Bool):=den E k 335 [.c (.l 220 z7 a0),.c (.l 220 z7 a1)]
abbrev j52:=(List (Int×(List Int)×List Int))×(List (Int×(List Int)×List Int))
abbrev jx:=Int
def j55 (c0:j52) (v0:jx):St:=⟨27,0,[(0,.c (.l 220 z7 c0.1)),(1,.c (.l 220 z7 c0.2)),(5,cI v0)],[]⟩
noncomputable def jv5 {R:Type} (k:Nat) (X0:jx→(Int×(List Int)×List Int)→(Int×(List Int)×List Int)→Bool→Option R) (X1:jx→Option R) (c0:j52) (rec:jx→Option R) (v0:jx):Option R:=if (decide (v0<(c0.1.length:Int)))=true then if 0≤v0 then ix c0.1 v0.toNat fun x1=>if 0≤v0 then ix c0.2 v0.toNat fun x2=>(w85 k x1 x2).bind fun p3=>if (!p3)=true then X0 v0 x1 x2 p3 else rec (i64.wrap (v0+1)) else none else none else X1 v0
noncomputable def z83 {R:Type} (k:Nat) (X0:jx→(Int×(List Int)×List Int)→(Int×(List Int)×List Int)→Bool→Option R) (X1:jx→Option R) (c:j52):Nat→jx→Option R
 | 0,_=>none
 | n+1,v=>jv5 k X0 X1 c (z83 k X0 X1 c n) v
def zj4 (K:Ex→St→Option R) (c0:j52) (v0:jx) (x1:Int×(List Int)×List Int) (x2:Int×(List Int)×List Int) (p3:Bool):Option R:=K .ret ⟨27,0,[(0,.c (.l 220 z7 c0.1)),(1,.c (.l 220 z7 c0.2)),(4,cB false),(5,cI v0),(11,cI v0),(12,.c (.l 220 z7 c0.1)),(13,cI (c0.1.length:Int)),(14,cB (decide (v0<(c0.1.length:Int)))),(17,.c (.l 220 z7 c0.1)),(18,cI v0),(19,.c (.at_ (avs z7 x1))),(20,.agg (avs z7 x1)),(21,.c (.l 220 z7 c0.2)),(22,cI v0),(23,.c (.at_ (avs z7 x2))),(24,.agg (avs z7 x2)),(25,cB p3),(26,cB (!p3))],[]⟩
def vl4 (K:Ex→St→Option R) (c0:j52) (v0:jx):Option R:=K (.exit 0) ⟨27,0,[(0,.c (.l 220 z7 c0.1)),(1,.c (.l 220 z7 c0.2)),(5,cI v0),(11,cI v0),(12,.c (.l 220 z7 c0.1)),(13,cI (c0.1.length:Int)),(14,cB (decide (v0<(c0.1.length:Int))))],[]⟩
theorem jw7 (k:Nat) (K:Ex→St→Option R) (c0:j52):∀(n:Nat) (v:jx),z2 [0,0,1,5] (run E (den E k) (lv 335) k (j1 Tryz.f335 0)) n (j55 c0 v) K=z83 k (zj4 K c0) (vl4 K c0) c0 n v:=j6 (B:=jv5 k (zj4 K c0) (vl4 K c0) c0) fun n v=>by kernel_rfl
theorem xr7 (k:Nat) (a0:List (Int×(List Int)×List Int)) (a1:List (Int×(List Int)×List Int)):ve3 (k+1) a0 a1=if ((a0.length:Int) !=(a1.length:Int))=true then some false else z2 (R:=Bool) [0,0,1,5] (run E (den E k) (lv 335) k (j1 Tryz.f335 0)) k (j55 (a0,a1) 0) (z8 E (den E k) (lv 335) k (yc Tryz.f335) 0 [] (xa E (rs 335) Tryz.f335:Ex→St→Option (Bool))):=by kernel_rfl
theorem xl9 (k:Nat) (a0:List (Int×(List Int)×List Int)) (a1:List (Int×(List Int)×List Int)):ve3 (k+1) a0 a1=if ((a0.length:Int) !=(a1.length:Int))=true then some false else z83 k (fun (v0:Int) (x1:Int×(List Int)×List Int) (x2:Int×(List Int)×List Int) (p3:Bool)=>some false) (fun (v0:Int)=>some true) (a0,a1) k 0:=by
 rw [xr7]
 simp only [jw7]
 kernel_rfl
noncomputable def xc5 (k:Nat) (a0:ze) (a1:ze):Option (Bool):=den E k 265 [.agg (avs we a0),.agg (avs we a1)]
theorem w5a (k:Nat) (a0:ze) (a1:ze):xc5 (k+1) a0 a1=(y66 k a0.1 a1.1).bind fun p1=>if (!p1)=true then some false else (z84 k a0.2.1 a1.2.1).bind fun p2=>if (!p2)=true then some false else (ve3 k a0.2.2 a1.2.2).bind fun p3=>if (!p3)=true then some false else some true:=by kernel_rfl
end Go.Proofs.YtkgjmgaccfmhpaaGreat.World
