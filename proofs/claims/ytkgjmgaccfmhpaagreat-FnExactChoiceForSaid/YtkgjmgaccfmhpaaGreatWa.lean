/- The equations of the functions that a law reaches, part 1. No condition. -/
import Derived.Test.YtkgjmgaccfmhpaaGreatV4
import Derived.Test.YtkgjmgaccfmhpaaGreatProg
import Derived.KernelRfl
namespace Go.Proofs.YtkgjmgaccfmhpaaGreat.World
open Go Go.V Go.Proofs
set_option linter.unusedVariables false
set_option linter.unusedSimpArgs false
set_option maxRecDepth 100000
set_option maxHeartbeats 4000000
abbrev I6:Type:=Int×Int×Int×Int×Int×Int
abbrev I4:Type:=Int×Int×Int×Int
abbrev I3:Type:=Int×Int×Int
abbrev I2:Type:=Int×Int
abbrev TLPiece:Type:=I2×(List I2)×List (Int×(List Int)×List Int)
abbrev zf:Type:=I2×(List I2)×List (Int×(List Int)×List Int)
abbrev TLProgram:Type:=Int×Int×Int×List zf
abbrev j2:Type:=Int×Int×Int×List zf
abbrev TLSky:Type:=Int×(List I4)×(List I3)×Int×Int×Int×Int×Int×(List I3)×Int
abbrev TSky:Type:=Int×(List I4)×(List I3)×Int×Int×Int×Int×Int×(List I3)×Int
abbrev TLWorld:Type:=TSky×j2×(List Int)×(List Int)×(List I6)×(List (List I6))×(List I4)×(List Int)×(List (Int×Int×List Int))×(List I4)×Int×Int×(List I6)×List I4
abbrev xp:Type:=TSky×j2×(List Int)×(List Int)×(List I6)×(List (List I6))×(List I4)×(List Int)×(List (Int×Int×List Int))×(List I4)×Int×Int×(List I6)×List I4
abbrev sI4:Sh:=(.a [(.i .i64),(.i .i64),(.i .i64),(.i .i64)])
abbrev sI3:Sh:=(.a [(.i .i64),(.i .i64),(.i .i64)])
abbrev sI2:Sh:=(.a [(.i .i64),(.i .i64)])
abbrev sZone:Sh:=(.a [(.i .i64),sI2])
abbrev sLSky:Sh:=(.a [(.i .i64),(.l 273 sI4),(.l 275 sI3),(.i .i64),(.i .i64),(.i .i64),(.i .i64),(.i .i64),(.l 279 sZone),(.i .i64)])
abbrev y9:Sh:=(.a [(.i .i64),(.l 3 (.i .i64)),(.l 3 (.i .i64))])
abbrev xi:Sh:=(.a [sI2,(.l 357 sI2),(.l 355 y9)])
abbrev xy:Sh:=(.a [(.i .i64),(.i .i64),(.i .i64),(.l 270 xi)])
abbrev sLaw:Sh:=(.a [(.l 3 (.i .i64))])
abbrev sI6:Sh:=(.a [(.i .i64),(.i .i64),(.i .i64),(.i .i64),(.i .i64),(.i .i64)])
abbrev jj:Sh:=(.a [(.l 215 sI6)])
abbrev z8:Sh:=(.a [(.i .i64),(.i .i64),(.l 3 (.i .i64))])
abbrev yz:Sh:=(.a [sLSky,xy,sLaw,(.l 3 (.i .i64)),(.l 211 sI6),(.l 177 jj),(.l 79 sI4),(.l 3 (.i .i64)),(.l 180 z8),(.l 81 sI4),(.i .i64),(.i .i64),(.l 215 sI6),(.l 217 sI4)])
abbrev sSky:Sh:=(.a [(.i .i64),(.l 186 sI4),(.l 188 sI3),(.i .i64),(.i .i64),(.i .i64),(.i .i64),(.i .i64),(.l 193 sZone),(.i .i64)])
abbrev wk:Sh:=(.a [sI2,(.l 348 sI2),(.l 220 y9)])
abbrev z7:Sh:=(.a [(.i .i64),(.i .i64),(.i .i64),(.l 198 wk)])
abbrev x71:Sh:=(.a [(.l 66 sI6)])
abbrev y51:Sh:=(.a [sSky,z7,sLaw,(.l 3 (.i .i64)),(.l 159 sI6),(.l 140 x71),(.l 85 sI4),(.l 3 (.i .i64)),(.l 205 z8),(.l 86 sI4),(.i .i64),(.i .i64),(.l 66 sI6),(.l 146 sI4)])
noncomputable def ty:Nat→Option TyI
 | 3=>some ⟨.one,1,8,[(.int .i64 0)],(.i .i64)⟩
 | 4=>some ⟨.one,1,1,[(.bool false)],.b⟩
 | 22=>some ⟨.slc 273,1,24,[(.slice none 0 0)],(.l 273 sI4)⟩
 | 23=>some ⟨.slc 275,1,24,[(.slice none 0 0)],(.l 275 sI3)⟩
 | 24=>some ⟨.slc 279,1,24,[(.slice none 0 0)],(.l 279 sZone)⟩
 | 26=>some ⟨.agg [(0,3),(1,22),(2,23),(3,3),(4,3),(5,3),(6,3),(7,3),(8,24),(9,3)],10,128,[(.int .i64 0),(.slice none 0 0),(.slice none 0 0),(.int .i64 0),(.int .i64 0),(.int .i64 0),(.int .i64 0),(.int .i64 0),(.slice none 0 0),(.int .i64 0)],sLSky⟩
 | 27=>some ⟨.slc 270,1,24,[(.slice none 0 0)],(.l 270 xi)⟩
 | 29=>some ⟨.agg [(0,3),(1,3),(2,3),(3,27)],4,48,[(.int .i64 0),(.int .i64 0),(.int .i64 0),(.slice none 0 0)],xy⟩
 | 30=>some ⟨.slc 3,1,24,[(.slice none 0 0)],(.l 3 (.i .i64))⟩
 | 32=>some ⟨.agg [(0,30)],1,24,[(.slice none 0 0)],sLaw⟩
 | 33=>some ⟨.slc 211,1,24,[(.slice none 0 0)],(.l 211 sI6)⟩
 | 34=>some ⟨.slc 177,1,24,[(.slice none 0 0)],(.l 177 jj)⟩
 | 35=>some ⟨.slc 79,1,24,[(.slice none 0 0)],(.l 79 sI4)⟩
 | 36=>some ⟨.slc 180,1,24,[(.slice none 0 0)],(.l 180 z8)⟩
 | 37=>some ⟨.slc 81,1,24,[(.slice none 0 0)],(.l 81 sI4)⟩
 | 38=>some ⟨.slc 215,1,24,[(.slice none 0 0)],(.l 215 sI6)⟩
 | 39=>some ⟨.slc 217,1,24,[(.slice none 0 0)],(.l 217 sI4)⟩
 | 41=>some ⟨.agg [(0,26),(10,29),(14,32),(15,30),(16,33),(17,34),(18,35),(19,30),(20,36),(21,37),(22,3),(23,3),(24,38),(25,39)],26,432,[(.int .i64 0),(.slice none 0 0),(.slice none 0 0),(.int .i64 0),(.int .i64 0),(.int .i64 0),(.int .i64 0),(.int .i64 0),(.slice none 0 0),(.int .i64 0),(.int .i64 0),(.int .i64 0),(.int .i64 0),(.slice none 0 0),(.slice none 0 0),(.slice none 0 0),(.slice none 0 0),(.slice none 0 0),(.slice none 0 0),(.slice none 0 0),(.slice none 0 0),(.slice none 0 0),(.int .i64 0),(.int .i64 0),(.slice none 0 0),(.slice none 0 0)],yz⟩
 | 44=>some ⟨.slc 186,1,24,[(.slice none 0 0)],(.l 186 sI4)⟩
 | 45=>some ⟨.slc 188,1,24,[(.slice none 0 0)],(.l 188 sI3)⟩
 | 46=>some ⟨.slc 193,1,24,[(.slice none 0 0)],(.l 193 sZone)⟩
 | 48=>some ⟨.agg [(0,3),(1,44),(2,45),(3,3),(4,3),(5,3),(6,3),(7,3),(8,46),(9,3)],10,128,[(.int .i64 0),(.slice none 0 0),(.slice none 0 0),(.int .i64 0),(.int .i64 0),(.int .i64 0),(.int .i64 0),(.int .i64 0),(.slice none 0 0),(.int .i64 0)],sSky⟩
 | 49=>some ⟨.slc 198,1,24,[(.slice none 0 0)],(.l 198 wk)⟩
 | 51=>some ⟨.agg [(0,3),(1,3),(2,3),(3,49)],4,48,[(.int .i64 0),(.int .i64 0),(.int .i64 0),(.slice none 0 0)],z7⟩
 | 52=>some ⟨.agg [(0,30)],1,24,[(.slice none 0 0)],sLaw⟩
 | 53=>some ⟨.slc 159,1,24,[(.slice none 0 0)],(.l 159 sI6)⟩
 | 54=>some ⟨.slc 140,1,24,[(.slice none 0 0)],(.l 140 x71)⟩
 | 55=>some ⟨.slc 85,1,24,[(.slice none 0 0)],(.l 85 sI4)⟩
 | 56=>some ⟨.slc 205,1,24,[(.slice none 0 0)],(.l 205 z8)⟩
 | 57=>some ⟨.slc 86,1,24,[(.slice none 0 0)],(.l 86 sI4)⟩
 | 58=>some ⟨.slc 66,1,24,[(.slice none 0 0)],(.l 66 sI6)⟩
 | 59=>some ⟨.slc 146,1,24,[(.slice none 0 0)],(.l 146 sI4)⟩
 | 61=>some ⟨.agg [(0,48),(10,51),(14,52),(15,30),(16,53),(17,54),(18,55),(19,30),(20,56),(21,57),(22,3),(23,3),(24,58),(25,59)],26,432,[(.int .i64 0),(.slice none 0 0),(.slice none 0 0),(.int .i64 0),(.int .i64 0),(.int .i64 0),(.int .i64 0),(.int .i64 0),(.slice none 0 0),(.int .i64 0),(.int .i64 0),(.int .i64 0),(.int .i64 0),(.slice none 0 0),(.slice none 0 0),(.slice none 0 0),(.slice none 0 0),(.slice none 0 0),(.slice none 0 0),(.slice none 0 0),(.slice none 0 0),(.slice none 0 0),(.int .i64 0),(.int .i64 0),(.slice none 0 0),(.slice none 0 0)],y51⟩
 | 66=>some ⟨.agg [(0,3),(1,3),(2,3),(3,3),(4,3),(5,3)],6,48,[(.int .i64 0),(.int .i64 0),(.int .i64 0),(.int .i64 0),(.int .i64 0),(.int .i64 0)],sI6⟩
 | 79=>some ⟨.agg [(0,3),(1,3),(2,3),(3,3)],4,32,[(.int .i64 0),(.int .i64 0),(.int .i64 0),(.int .i64 0)],sI4⟩
 | 81=>some ⟨.agg [(0,3),(1,3),(2,3),(3,3)],4,32,[(.int .i64 0),(.int .i64 0),(.int .i64 0),(.int .i64 0)],sI4⟩
 | 85=>some ⟨.agg [(0,3),(1,3),(2,3),(3,3)],4,32,[(.int .i64 0),(.int .i64 0),(.int .i64 0),(.int .i64 0)],sI4⟩
 | 86=>some ⟨.agg [(0,3),(1,3),(2,3),(3,3)],4,32,[(.int .i64 0),(.int .i64 0),(.int .i64 0),(.int .i64 0)],sI4⟩
 | 140=>some ⟨.agg [(0,58)],1,24,[(.slice none 0 0)],x71⟩
 | 146=>some ⟨.agg [(0,3),(1,3),(2,3),(3,3)],4,32,[(.int .i64 0),(.int .i64 0),(.int .i64 0),(.int .i64 0)],sI4⟩
 | 159=>some ⟨.agg [(0,3),(1,3),(2,3),(3,3),(4,3),(5,3)],6,48,[(.int .i64 0),(.int .i64 0),(.int .i64 0),(.int .i64 0),(.int .i64 0),(.int .i64 0)],sI6⟩
 | 162=>some ⟨.slc 183,1,24,[(.slice none 0 0)],(.l 183 sI2)⟩
 | 177=>some ⟨.agg [(0,38)],1,24,[(.slice none 0 0)],jj⟩
 | 180=>some ⟨.agg [(0,3),(1,3),(2,30)],3,40,[(.int .i64 0),(.int .i64 0),(.slice none 0 0)],z8⟩
 | 183=>some ⟨.agg [(0,3),(1,3)],2,16,[(.int .i64 0),(.int .i64 0)],sI2⟩
 | 186=>some ⟨.agg [(0,3),(1,3),(2,3),(3,3)],4,32,[(.int .i64 0),(.int .i64 0),(.int .i64 0),(.int .i64 0)],sI4⟩
 | 188=>some ⟨.agg [(0,3),(1,3),(2,3)],3,24,[(.int .i64 0),(.int .i64 0),(.int .i64 0)],sI3⟩
 | 191=>some ⟨.agg [(0,3),(1,3)],2,16,[(.int .i64 0),(.int .i64 0)],sI2⟩
 | 193=>some ⟨.agg [(0,3),(1,191)],3,24,[(.int .i64 0),(.int .i64 0),(.int .i64 0)],sZone⟩
 | 195=>some ⟨.slc 348,1,24,[(.slice none 0 0)],(.l 348 sI2)⟩
 | 196=>some ⟨.slc 220,1,24,[(.slice none 0 0)],(.l 220 y9)⟩
 | 198=>some ⟨.agg [(0,183),(2,195),(3,196)],4,64,[(.int .i64 0),(.int .i64 0),(.slice none 0 0),(.slice none 0 0)],wk⟩
 | 205=>some ⟨.agg [(0,3),(1,3),(2,30)],3,40,[(.int .i64 0),(.int .i64 0),(.slice none 0 0)],z8⟩
 | 211=>some ⟨.agg [(0,3),(1,3),(2,3),(3,3),(4,3),(5,3)],6,48,[(.int .i64 0),(.int .i64 0),(.int .i64 0),(.int .i64 0),(.int .i64 0),(.int .i64 0)],sI6⟩
 | 215=>some ⟨.agg [(0,3),(1,3),(2,3),(3,3),(4,3),(5,3)],6,48,[(.int .i64 0),(.int .i64 0),(.int .i64 0),(.int .i64 0),(.int .i64 0),(.int .i64 0)],sI6⟩
 | 217=>some ⟨.agg [(0,3),(1,3),(2,3),(3,3)],4,32,[(.int .i64 0),(.int .i64 0),(.int .i64 0),(.int .i64 0)],sI4⟩
 | 220=>some ⟨.agg [(0,3),(1,30),(2,30)],3,56,[(.int .i64 0),(.slice none 0 0),(.slice none 0 0)],y9⟩
 | 266=>some ⟨.agg [(0,3),(1,3)],2,16,[(.int .i64 0),(.int .i64 0)],sI2⟩
 | 267=>some ⟨.slc 357,1,24,[(.slice none 0 0)],(.l 357 sI2)⟩
 | 268=>some ⟨.slc 355,1,24,[(.slice none 0 0)],(.l 355 y9)⟩
 | 270=>some ⟨.agg [(0,266),(2,267),(3,268)],4,64,[(.int .i64 0),(.int .i64 0),(.slice none 0 0),(.slice none 0 0)],xi⟩
 | 273=>some ⟨.agg [(0,3),(1,3),(2,3),(3,3)],4,32,[(.int .i64 0),(.int .i64 0),(.int .i64 0),(.int .i64 0)],sI4⟩
 | 275=>some ⟨.agg [(0,3),(1,3),(2,3)],3,24,[(.int .i64 0),(.int .i64 0),(.int .i64 0)],sI3⟩
 | 277=>some ⟨.agg [(0,3),(1,3)],2,16,[(.int .i64 0),(.int .i64 0)],sI2⟩
 | 279=>some ⟨.agg [(0,3),(1,277)],3,24,[(.int .i64 0),(.int .i64 0),(.int .i64 0)],sZone⟩
 | 285=>some ⟨.one,1,8,[(.int .u64 0)],(.i .u64)⟩
 | 348=>some ⟨.agg [(0,3),(1,3)],2,16,[(.int .i64 0),(.int .i64 0)],sI2⟩
 | 355=>some ⟨.agg [(0,3),(1,30),(2,30)],3,56,[(.int .i64 0),(.slice none 0 0),(.slice none 0 0)],y9⟩
 | 357=>some ⟨.agg [(0,3),(1,3)],2,16,[(.int .i64 0),(.int .i64 0)],sI2⟩
 | 359=>some ⟨.slc 4,1,24,[(.slice none 0 0)],(.l 4 .b)⟩
 | 368=>some ⟨.slc 30,1,24,[(.slice none 0 0)],(.l 30 (.l 3 (.i .i64)))⟩
 | _=>none
noncomputable def fn0:Nat→Option Func
 | 4=>some Tryz.f4
 | 10=>some Tryz.f10
 | 12=>some Tryz.f12
 | 14=>some Tryz.f14
 | 15=>some Tryz.f15
 | 16=>some Tryz.f16
 | 17=>some Tryz.f17
 | 20=>some Tryz.f20
 | 38=>some Tryz.f38
 | 39=>some Tryz.f39
 | 40=>some Tryz.f40
 | 41=>some Tryz.f41
 | 42=>some Tryz.f42
 | 43=>some Tryz.f43
 | 44=>some Tryz.f44
 | 45=>some Tryz.f45
 | 46=>some Tryz.f46
 | 47=>some Tryz.f47
 | 48=>some Tryz.f48
 | 53=>some Tryz.f53
 | 55=>some Tryz.f55
 | 60=>some Tryz.f60
 | 61=>some Tryz.f61
 | 62=>some Tryz.f62
 | 63=>some Tryz.f63
 | 64=>some Tryz.f64
 | 65=>some Tryz.f65
 | 66=>some Tryz.f66
 | 67=>some Tryz.f67
 | 68=>some Tryz.f68
 | 69=>some Tryz.f69
 | 70=>some Tryz.f70
 | 74=>some Tryz.f74
 | 76=>some Tryz.f76
 | 81=>some Tryz.f81
 | 82=>some Tryz.f82
 | 83=>some Tryz.f83
 | 84=>some Tryz.f84
 | 85=>some Tryz.f85
 | 86=>some Tryz.f86
 | 87=>some Tryz.f87
 | 88=>some Tryz.f88
 | 89=>some Tryz.f89
 | 90=>some Tryz.f90
 | 91=>some Tryz.f91
 | 92=>some Tryz.f92
 | 93=>some Tryz.f93
 | 94=>some Tryz.f94
 | 95=>some Tryz.f95
 | 96=>some Tryz.f96
 | 97=>some Tryz.f97
 | 98=>some Tryz.f98
 | 99=>some Tryz.f99
 | 113=>some Tryz.f113
 | 114=>some Tryz.f114
 | 119=>some Tryz.f119
 | 134=>some Tryz.f134
 | 135=>some Tryz.f135
 | 140=>some Tryz.f140
 | 141=>some Tryz.f141
 | _=>none
noncomputable def fn1:Nat→Option Func
 | 142=>some Tryz.f142
 | 143=>some Tryz.f143
 | 144=>some Tryz.f144
 | 145=>some Tryz.f145
 | 146=>some Tryz.f146
 | 152=>some Tryz.f152
 | 153=>some Tryz.f153
 | 155=>some Tryz.f155
 | 160=>some Tryz.f160
 | 161=>some Tryz.f161
 | 162=>some Tryz.f162
 | 163=>some Tryz.f163
 | 164=>some Tryz.f164
 | 165=>some Tryz.f165
 | 166=>some Tryz.f166
 | 167=>some Tryz.f167
 | 168=>some Tryz.f168
 | 170=>some Tryz.f170
 | 172=>some Tryz.f172
 | 176=>some Tryz.f176
 | 177=>some Tryz.f177
 | 179=>some Tryz.f179
 | 187=>some Tryz.f187
 | 188=>some Tryz.f188
 | 189=>some Tryz.f189
 | 190=>some Tryz.f190
 | 191=>some Tryz.f191
 | 192=>some Tryz.f192
 | 193=>some Tryz.f193
 | 194=>some Tryz.f194
 | 195=>some Tryz.f195
 | 196=>some Tryz.f196
 | 197=>some Tryz.f197
 | 198=>some Tryz.f198
 | 199=>some Tryz.f199
 | 200=>some Tryz.f200
 | 201=>some Tryz.f201
 | 202=>some Tryz.f202
 | 203=>some Tryz.f203
 | 204=>some Tryz.f204
 | 205=>some Tryz.f205
 | 206=>some Tryz.f206
 | 219=>some Tryz.f219
 | 220=>some Tryz.f220
 | 221=>some Tryz.f221
 | 224=>some Tryz.f224
 | 236=>some Tryz.f236
 | 237=>some Tryz.f237
 | 246=>some Tryz.f246
 | 249=>some Tryz.f249
 | 250=>some Tryz.f250
 | 251=>some Tryz.f251
 | 252=>some Tryz.f252
 | 253=>some Tryz.f253
 | 254=>some Tryz.f254
 | 257=>some Tryz.f257
 | 262=>some Tryz.f262
 | 263=>some Tryz.f263
 | 264=>some Tryz.f264
 | 265=>some Tryz.f265
 | _=>none
noncomputable def fn2:Nat→Option Func
 | 266=>some Tryz.f266
 | 267=>some Tryz.f267
 | 268=>some Tryz.f268
 | 269=>some Tryz.f269
 | 270=>some Tryz.f270
 | 271=>some Tryz.f271
 | 272=>some Tryz.f272
 | 273=>some Tryz.f273
 | 274=>some Tryz.f274
 | 275=>some Tryz.f275
 | 276=>some Tryz.f276
 | 277=>some Tryz.f277
 | 278=>some Tryz.f278
 | 279=>some Tryz.f279
 | 280=>some Tryz.f280
 | 281=>some Tryz.f281
 | 282=>some Tryz.f282
 | 283=>some Tryz.f283
 | 286=>some Tryz.f286
 | 287=>some Tryz.f287
 | 288=>some Tryz.f288
 | 289=>some Tryz.f289
 | 294=>some Tryz.f294
 | 300=>some Tryz.f300
 | 301=>some Tryz.f301
 | 302=>some Tryz.f302
 | 309=>some Tryz.f309
 | 310=>some Tryz.f310
 | 314=>some Tryz.f314
 | 315=>some Tryz.f315
 | 316=>some Tryz.f316
 | 317=>some Tryz.f317
 | 320=>some Tryz.f320
 | 332=>some Tryz.f332
 | 333=>some Tryz.f333
 | 334=>some Tryz.f334
 | 335=>some Tryz.f335
 | 336=>some Tryz.f336
 | 337=>some Tryz.f337
 | 338=>some Tryz.f338
 | 339=>some Tryz.f339
 | 340=>some Tryz.f340
 | 341=>some Tryz.f341
 | 342=>some Tryz.f342
 | 343=>some Tryz.f343
 | 344=>some Tryz.f344
 | 345=>some Tryz.f345
 | 346=>some Tryz.f346
 | 347=>some Tryz.f347
 | 348=>some Tryz.f348
 | 349=>some Tryz.f349
 | 350=>some Tryz.f350
 | 351=>some Tryz.f351
 | 352=>some Tryz.f352
 | 353=>some Tryz.f353
 | 354=>some Tryz.f354
 | 355=>some Tryz.f355
 | 356=>some Tryz.f356
 | 357=>some Tryz.f357
 | 362=>some Tryz.f362
 | _=>none
noncomputable def fn3:Nat→Option Func
 | 363=>some Tryz.f363
 | 364=>some Tryz.f364
 | 365=>some Tryz.f365
 | 366=>some Tryz.f366
 | 371=>some Tryz.f371
 | 373=>some Tryz.f373
 | 374=>some Tryz.f374
 | 375=>some Tryz.f375
 | 381=>some Tryz.f381
 | 382=>some Tryz.f382
 | 383=>some Tryz.f383
 | 384=>some Tryz.f384
 | 385=>some Tryz.f385
 | 387=>some Tryz.f387
 | 388=>some Tryz.f388
 | 389=>some Tryz.f389
 | 390=>some Tryz.f390
 | 391=>some Tryz.f391
 | 392=>some Tryz.f392
 | 394=>some Tryz.f394
 | 395=>some Tryz.f395
 | 396=>some Tryz.f396
 | 401=>some Tryz.f401
 | 402=>some Tryz.f402
 | 403=>some Tryz.f403
 | 404=>some Tryz.f404
 | 405=>some Tryz.f405
 | 406=>some Tryz.f406
 | 407=>some Tryz.f407
 | 408=>some Tryz.f408
 | 410=>some Tryz.f410
 | 411=>some Tryz.f411
 | 412=>some Tryz.f412
 | 415=>some Tryz.f415
 | 416=>some Tryz.f416
 | _=>none
noncomputable def fn (f:Nat):Option Func:=(match fn0 f with
 | some F=>some F
 | none=>(match fn1 f with
 | some F=>some F
 | none=>(match fn2 f with
 | some F=>some F
 | none=>fn3 f)))
def lv:Nat→List Nat
 | 15=>[0,1,2,4,7,8,9]
 | 16=>[0,1,2,4,7,27,28,29]
 | 20=>[0,0,1,5]
 | 43=>[0,0,1,5]
 | 45=>[0,0,1,5]
 | 63=>[0,0,3,4]
 | 64=>[0,0,3,4]
 | 65=>[0,0,3,4]
 | 66=>[0,0,3,4]
 | 67=>[0,0,3,4]
 | 68=>[0,0,3,4]
 | 69=>[0,0,3,4]
 | 70=>[0,0,3,4]
 | 84=>[0,0,1,5]
 | 85=>[0,0,1,5]
 | 86=>[0,0,1,5]
 | 87=>[0,0,1,5]
 | 88=>[0,0,1,5]
 | 89=>[0,0,1,5]
 | 90=>[0,0,1,5]
 | 92=>[0,1,3,4,5]
 | 96=>[0,3,4,10,11,12]
 | 113=>[0,0,1,5]
 | 143=>[0,0,1,5]
 | 153=>[0,1,2,4,9,10]
 | 160=>[0,0,3,4]
 | 161=>[0,0,3,4]
 | 162=>[0,0,3,4]
 | 163=>[0,0,3,4]
 | 185=>[1]
 | 187=>[0,0,1,5]
 | 188=>[0,0,1,5]
 | 189=>[0,0,1,5]
 | 190=>[0,0,1,5]
 | 196=>[0,0,1,2,7]
 | 199=>[0,4,15,16]
 | 201=>[0,1,2,3,4,9]
 | 202=>[0,1,2,9,10,11]
 | 204=>[0,4,55,56,57]
 | 206=>[0,1,2,3,4,9]
 | 221=>[0,1,4,9,11,12]
 | 268=>[0,0,1,5]
 | 269=>[0,1,2,5]
 | 272=>[0,2,3,4,9,10,11,12,13]
 | 273=>[0,0,1,2,3,9,10]
 | 280=>[0,2,3,4,9,30,31,32]
 | 281=>[0,0,1,2,9,16,17]
 | 300=>[0,1,2,7,8]
 | 310=>[0,0,1,5]
 | 316=>[0,0,3,4]
 | 317=>[0,0,3,4]
 | 320=>[0,2,4,9,10,11]
 | 334=>[0,0,1,5]
 | 335=>[0,0,1,5]
 | 336=>[0,1,4,9,10,11]
 | 338=>[0,1,2,3,7,8]
 | 339=>[0,0,1,5,6,7,8]
 | 340=>[0,0,1,2,3,9]
 | 341=>[0,2,3,9,10]
 | 343=>[0,1,4,9,18,19,20]
 | 344=>[0,0,1,7,8]
 | 345=>[0,1,2,7,12,13,14]
 | 346=>[0,0,1,7,8]
 | 348=>[0,1,5,9,10,11]
 | 349=>[1]
 | 352=>[0,0,1,2,3,11,12,13]
 | 375=>[0,3,5,6,8,9,10]
 | 384=>[0,0,3,4,5,6,7,8]
 | 385=>[0,0,3,6,7,8,9,13,14,15,27,28,35,36,37,73,74]
 | 387=>[1,0,1,2,6,7,8]
 | 401=>[0,0,3,4]
 | 402=>[0,0,1,2,7,8]
 | 403=>[1,0,1,2,3,8,9,2199023284223]
 | 404=>[1,0,1,2,3,4,10,11,13,14,15,17,18,19,20,21,22,2199023304703,2199023353855]
 | 405=>[0,0,1,7,8]
 | 415=>[1,0,2,4,10,11]
 | 416=>[1,0,1,2,3,10,2199023271935]
 | _=>[]
def rs:Nat→RSh
 | 4=>⟨false,[.b],0⟩
 | 10=>⟨false,[(.i .i64)],0⟩
 | 12=>⟨true,[y51],0⟩
 | 14=>⟨false,[.b],0⟩
 | 15=>⟨false,[sI6,(.i .i64),.b],0⟩
 | 16=>⟨false,[sI6,(.i .i64),.b],0⟩
 | 17=>⟨false,[.b],0⟩
 | 20=>⟨false,[.b],0⟩
 | 38=>⟨false,[(.i .i64)],0⟩
 | 39=>⟨false,[(.i .i64)],0⟩
 | 40=>⟨false,[(.i .i64)],0⟩
 | 41=>⟨false,[(.i .i64)],0⟩
 | 42=>⟨false,[(.i .i64)],0⟩
 | 43=>⟨false,[(.i .i64)],0⟩
 | 44=>⟨false,[(.i .i64)],0⟩
 | 45=>⟨false,[(.i .i64)],0⟩
 | 46=>⟨false,[(.i .i64)],0⟩
 | 47=>⟨false,[(.i .i64)],0⟩
 | 48=>⟨false,[(.i .i64)],0⟩
 | 53=>⟨false,[(.i .i64)],0⟩
 | 55=>⟨false,[.b],0⟩
 | 60=>⟨true,[sSky],0⟩
 | 61=>⟨true,[z7],0⟩
 | 62=>⟨true,[sLaw],0⟩
 | 63=>⟨true,[(.l 3 (.i .i64))],0⟩
 | 64=>⟨true,[(.l 159 sI6)],0⟩
 | 65=>⟨true,[(.l 140 x71)],0⟩
 | 66=>⟨true,[(.l 85 sI4)],0⟩
 | 67=>⟨true,[(.l 205 z8)],0⟩
 | 68=>⟨true,[(.l 86 sI4)],0⟩
 | 69=>⟨true,[(.l 66 sI6)],0⟩
 | 70=>⟨true,[(.l 146 sI4)],0⟩
 | 74=>⟨false,[(.i .i64)],0⟩
 | 76=>⟨false,[.b],0⟩
 | 81=>⟨false,[.b],0⟩
 | 82=>⟨false,[.b],0⟩
 | 83=>⟨false,[.b],0⟩
 | 84=>⟨false,[.b],0⟩
 | 85=>⟨false,[.b],0⟩
 | 86=>⟨false,[.b],0⟩
 | 87=>⟨false,[.b],0⟩
 | 88=>⟨false,[.b],0⟩
 | 89=>⟨false,[.b],0⟩
 | 90=>⟨false,[.b],0⟩
 | 91=>⟨false,[.b],0⟩
 | 92=>⟨true,[(.l 3 (.i .i64))],0⟩
 | 93=>⟨false,[(.i .i64)],0⟩
 | 94=>⟨false,[.b],0⟩
 | 95=>⟨false,[.b],0⟩
 | 96=>⟨true,[(.l 3 (.i .i64))],0⟩
 | 97=>⟨false,[(.i .i64)],0⟩
 | 98=>⟨false,[(.i .i64)],0⟩
 | 99=>⟨false,[.b],0⟩
 | 113=>⟨false,[.b],0⟩
 | 114=>⟨true,[(.l 183 sI2)],0⟩
 | 119=>⟨true,[(.l 183 sI2)],0⟩
 | 134=>⟨false,[sI4],0⟩
 | 135=>⟨false,[sI4],0⟩
 | 140=>⟨false,[(.i .i64)],0⟩
 | 141=>⟨false,[(.i .i64)],0⟩
 | 142=>⟨false,[(.i .i64)],0⟩
 | 143=>⟨false,[(.i .i64)],0⟩
 | 144=>⟨false,[(.i .i64)],0⟩
 | 145=>⟨false,[(.i .i64)],0⟩
 | 146=>⟨false,[.b],0⟩
 | 152=>⟨false,[.b],0⟩
 | 153=>⟨false,[(.i .i64)],0⟩
 | 155=>⟨false,[.b],0⟩
 | 160=>⟨true,[(.l 186 sI4)],0⟩
 | 161=>⟨true,[(.l 188 sI3)],0⟩
 | 162=>⟨true,[(.l 193 sZone)],0⟩
 | 163=>⟨true,[(.l 198 wk)],0⟩
 | 164=>⟨false,[sI6],0⟩
 | 165=>⟨true,[x71],0⟩
 | 166=>⟨true,[z8],0⟩
 | 167=>⟨false,[sI6],0⟩
 | 168=>⟨false,[sI4],0⟩
 | 170=>⟨false,[.b],0⟩
 | 172=>⟨false,[.b],0⟩
 | 176=>⟨false,[.b],0⟩
 | 177=>⟨false,[(.i .i64)],0⟩
 | 179=>⟨false,[.b],0⟩
 | 185=>⟨true,[(.l 3 (.i .i64))],1⟩
 | 187=>⟨false,[.b],0⟩
 | 188=>⟨false,[.b],0⟩
 | 189=>⟨false,[.b],0⟩
 | 190=>⟨false,[.b],0⟩
 | 191=>⟨false,[.b],0⟩
 | 192=>⟨false,[.b],0⟩
 | 193=>⟨false,[.b],0⟩
 | 194=>⟨false,[.b],0⟩
 | 195=>⟨false,[.b],0⟩
 | 196=>⟨false,[.b],0⟩
 | 197=>⟨false,[.b],0⟩
 | 198=>⟨false,[(.i .i64)],0⟩
 | 199=>⟨false,[(.i .i64)],0⟩
 | 200=>⟨true,[(.l 3 (.i .i64))],0⟩
 | 201=>⟨false,[.b],0⟩
 | 202=>⟨false,[.b],0⟩
 | 203=>⟨false,[.b],0⟩
 | 204=>⟨false,[(.i .i64)],0⟩
 | 205=>⟨true,[(.l 3 (.i .i64))],0⟩
 | 206=>⟨false,[.b],0⟩
 | 219=>⟨false,[(.i .i64)],0⟩
 | 220=>⟨false,[.b],0⟩
 | 221=>⟨true,[(.l 183 sI2)],0⟩
 | 224=>⟨true,[(.l 3 (.i .i64))],0⟩
 | 236=>⟨false,[.b],0⟩
 | 237=>⟨true,[(.l 183 sI2)],0⟩
 | 246=>⟨false,[(.i .i64)],0⟩
 | 249=>⟨false,[.b],0⟩
 | 250=>⟨false,[sI4],0⟩
 | 251=>⟨false,[sI3],0⟩
 | 252=>⟨false,[sZone],0⟩
 | 253=>⟨true,[wk],0⟩
 | 254=>⟨false,[.b],0⟩
 | 257=>⟨false,[(.i .i64)],0⟩
 | 262=>⟨false,[.b],0⟩
 | 263=>⟨false,[.b],0⟩
 | 264=>⟨false,[.b],0⟩
 | 265=>⟨false,[.b],0⟩
 | 266=>⟨false,[.b],0⟩
 | 267=>⟨false,[(.i .i64)],0⟩
 | 268=>⟨false,[.b],0⟩
 | 269=>⟨false,[(.i .i64)],0⟩
 | 270=>⟨true,[y9,.b],0⟩
 | 271=>⟨false,[.b],0⟩
 | 272=>⟨true,[(.l 3 (.i .i64))],0⟩
 | 273=>⟨true,[(.l 3 (.i .i64))],0⟩
 | 274=>⟨false,[.b],0⟩
 | 275=>⟨false,[(.i .i64)],0⟩
 | 276=>⟨false,[.b],0⟩
 | 277=>⟨false,[.b],0⟩
 | 278=>⟨false,[(.i .i64)],0⟩
 | 279=>⟨true,[y9,.b],0⟩
 | 280=>⟨true,[(.l 3 (.i .i64))],0⟩
 | 281=>⟨true,[(.l 3 (.i .i64))],0⟩
 | 282=>⟨false,[.b],0⟩
 | 283=>⟨false,[.b],0⟩
 | 286=>⟨true,[y9],0⟩
 | 287=>⟨false,[(.i .i64),(.i .i64)],0⟩
 | 288=>⟨false,[(.i .i64)],0⟩
 | 289=>⟨true,[(.l 183 sI2)],0⟩
 | 294=>⟨true,[y9],0⟩
 | 300=>⟨true,[(.l 183 sI2)],0⟩
 | 301=>⟨false,[.b],0⟩
 | 302=>⟨false,[(.i .i64)],0⟩
 | 309=>⟨false,[(.i .i64)],0⟩
 | 310=>⟨false,[(.i .i64)],0⟩
 | 314=>⟨false,[sI2],0⟩
 | 315=>⟨false,[sI2],0⟩
 | 316=>⟨true,[(.l 348 sI2)],0⟩
 | 317=>⟨true,[(.l 220 y9)],0⟩
 | 320=>⟨true,[(.l 3 (.i .i64))],0⟩
 | 332=>⟨false,[.b],0⟩
 | 333=>⟨false,[.b],0⟩
 | 334=>⟨false,[.b],0⟩
 | 335=>⟨false,[.b],0⟩
 | 336=>⟨false,[.b],0⟩
 | 337=>⟨false,[(.i .i64)],0⟩
 | 338=>⟨true,[(.l 3 (.i .i64))],0⟩
 | 339=>⟨true,[(.l 3 (.i .i64))],0⟩
 | 340=>⟨false,[.b],0⟩
 | 341=>⟨false,[.b],0⟩
 | 342=>⟨false,[(.i .i64),.b],0⟩
 | 343=>⟨false,[.b],0⟩
 | 344=>⟨false,[(.i .i64)],0⟩
 | 345=>⟨true,[(.l 3 (.i .i64))],0⟩
 | 346=>⟨false,[(.i .i64)],0⟩
 | 347=>⟨false,[.b],0⟩
 | 348=>⟨true,[(.l 3 (.i .i64))],0⟩
 | 349=>⟨true,[(.l 3 (.i .i64))],1⟩
 | 350=>⟨false,[(.i .i64)],0⟩
 | 351=>⟨false,[(.i .i64)],0⟩
 | 352=>⟨false,[.b],0⟩
 | 353=>⟨false,[.b],0⟩
 | 354=>⟨false,[sI2],0⟩
 | 355=>⟨false,[(.i .i64)],0⟩
 | 356=>⟨false,[(.i .i64)],0⟩
 | 357=>⟨false,[(.i .i64)],0⟩
 | 362=>⟨false,[.b],0⟩
 | 363=>⟨false,[sI2],0⟩
 | 364=>⟨false,[(.i .i64)],0⟩
 | 365=>⟨false,[(.i .i64)],0⟩
 | 366=>⟨false,[(.i .i64)],0⟩
 | 371=>⟨false,[(.i .i64)],0⟩
 | 373=>⟨false,[sI2],0⟩
 | 374=>⟨true,[y9],0⟩
 | 375=>⟨true,[(.l 4 .b)],0⟩
 | 381=>⟨false,[.b],0⟩
 | 382=>⟨false,[.b],0⟩
 | 383=>⟨false,[.b],0⟩
 | 384=>⟨false,[.b],0⟩
 | 385=>⟨false,[.b],0⟩
 | 386=>⟨true,[(.l 3 (.i .i64))],0⟩
 | 387=>⟨true,[(.l 3 (.i .i64))],1⟩
 | 388=>⟨false,[.b],0⟩
 | 389=>⟨false,[.b],0⟩
 | 390=>⟨false,[sI2],0⟩
 | 391=>⟨false,[(.i .i64)],0⟩
 | 392=>⟨false,[(.i .i64)],0⟩
 | 394=>⟨false,[sI2],0⟩
 | 395=>⟨false,[(.i .i64)],0⟩
 | 396=>⟨false,[(.i .i64)],0⟩
 | 401=>⟨false,[(.i .i64)],0⟩
 | 402=>⟨true,[(.l 3 (.i .i64))],0⟩
 | 403=>⟨true,[(.l 3 (.i .i64))],1⟩
 | 404=>⟨true,[(.l 3 (.i .i64))],1⟩
 | 405=>⟨false,[(.i .i64)],0⟩
 | 406=>⟨false,[sI2],0⟩
 | 407=>⟨false,[(.i .i64)],0⟩
 | 408=>⟨false,[(.i .i64)],0⟩
 | 410=>⟨false,[sI2],0⟩
 | 411=>⟨false,[(.i .i64)],0⟩
 | 412=>⟨false,[(.i .i64)],0⟩
 | 415=>⟨true,[(.l 3 (.i .i64))],1⟩
 | 416=>⟨true,[(.l 3 (.i .i64))],1⟩
 | _=>⟨false,[],0⟩
def tk:Nat→List (Option Sh)
 | 185=>[some (.l 3 (.i .i64))]
 | 289=>[some (.l 183 sI2)]
 | 349=>[some (.l 3 (.i .i64))]
 | 386=>[some (.l 3 (.i .i64))]
 | 387=>[some (.l 3 (.i .i64))]
 | 403=>[some (.l 3 (.i .i64))]
 | 404=>[some (.l 3 (.i .i64))]
 | 415=>[some (.l 3 (.i .i64))]
 | 416=>[some (.l 3 (.i .i64))]
 | _=>[]
def ext:(f:Nat)→Option (List AV→Option (RTy (rs f)))
 | 185=>some extSort
 | 386=>some extCompact
 | _=>none
noncomputable def E:Env:={ P:=Tryz.prog,fn:=fn,ty:=ty,lv:=lv,rs:=rs,tk:=tk,ext:=ext }
noncomputable def FiIsSpan (k:Nat) (a0:I2):Option (Bool):=den E k 172 [.agg [vI a0.1,vI a0.2]]
theorem eiIsSpan (k:Nat) (a0:I2):FiIsSpan (k+1) a0=if ((decide (a0.1≥0))==true)=true then if ((decide (a0.2≤1000))==true)=true then some (decide (a0.1<a0.2)) else some false else some false:=by kernel_rfl
noncomputable def FiInSpan (k:Nat) (a0:I2) (a1:Int):Option (Bool):=den E k 236 [.agg [vI a0.1,vI a0.2],cI a1]
theorem eiInSpan (k:Nat) (a0:I2) (a1:Int):FiInSpan (k+1) a0 a1=(FiIsSpan k a0).bind fun p1=>if (p1==true)=true then if ((decide (a0.1≤a1))==true)=true then some (decide (a1<a0.2)) else some false else some false:=by kernel_rfl
noncomputable def FiIsDown (k:Nat) (a0:List I4) (a1:Int) (a2:Int):Option (Bool):=den E k 202 [.c (.l 86 sI4 a0),cI a1,cI a2]
abbrev CiIsDown_0:Type:=Int×Int×(List I4)×Int
abbrev wc1:Type:=Int
def StiIsDown_0 (c0:CiIsDown_0) (v0:wc1):St:=⟨34,0,[(1,cI c0.1),(2,cI c0.2.1),(9,.c (.l 86 sI4 c0.2.2.1)),(10,cI c0.2.2.2),(11,cI v0)],[]⟩
noncomputable def BiIsDown_0 {R:Type} (k:Nat) (X0:wc1→I4→Bool→Option R) (X1:wc1→Option R) (c0:CiIsDown_0) (rec:wc1→Option R) (v0:wc1):Option R:=if (decide (v0<c0.2.2.2))=true then if 0≤v0 then ix c0.2.2.1 v0.toNat fun x1=>if ((x1.1==c0.1)==true)=true then if ((x1.2.1== -1)==true)=true then (FiInSpan k x1.2.2 c0.2.1).bind fun p2=>if p2=true then X0 v0 x1 p2 else rec (IntKind.i64.wrap (v0+1)) else rec (IntKind.i64.wrap (v0+1)) else rec (IntKind.i64.wrap (v0+1)) else none else X1 v0
noncomputable def LiIsDown_0 {R:Type} (k:Nat) (X0:wc1→I4→Bool→Option R) (X1:wc1→Option R) (c:CiIsDown_0):Nat→wc1→Option R
 | 0,_=>none
 | n+1,v=>BiIsDown_0 k X0 X1 c (LiIsDown_0 k X0 X1 c n) v
def YiIsDown_0_0 {R:Type} (K:Ex→St→Option R) (c0:CiIsDown_0) (v0:wc1) (x1:I4) (p2:Bool):Option R:=K .ret ⟨34,1,[(1,cI c0.1),(2,cI c0.2.1),(6,cB true),(8,cP 0),(9,.c (.l 86 sI4 c0.2.2.1)),(10,cI c0.2.2.2),(11,cI v0),(12,cB (decide (v0<c0.2.2.2))),(13,.c (.at_ (avs sI4 x1))),(14,.agg (avs sI4 x1)),(15,cP 0),(16,cI x1.1),(17,cI c0.1),(18,cB (x1.1==c0.1)),(19,cB true),(20,.c (.ptr 0 1)),(21,cI x1.2.1),(22,cB (x1.2.1== -1)),(23,cB (x1.2.1== -1)),(24,cB true),(25,.c (.ptr 0 2)),(26,cI x1.2.2.1),(27,.c (.ptr 0 3)),(28,cI x1.2.2.2),(29,.agg [vI x1.2.2.1,vI x1.2.2.2]),(30,cI c0.2.1),(31,cB p2),(32,cB p2)],[(0,.var (avs sI4 x1))]⟩
def YiIsDown_0_1 {R:Type} (K:Ex→St→Option R) (c0:CiIsDown_0) (v0:wc1):Option R:=K (.exit 0) ⟨34,0,[(1,cI c0.1),(2,cI c0.2.1),(9,.c (.l 86 sI4 c0.2.2.1)),(10,cI c0.2.2.2),(11,cI v0),(12,cB (decide (v0<c0.2.2.2)))],[]⟩
theorem liIsDown_0 {R:Type} (k:Nat) (K:Ex→St→Option R) (c0:CiIsDown_0):∀(n:Nat) (v:wc1),z2 [0,1,2,9,10,11] (run E (den E k) (lv 202) k (j1 Tryz.f202 0)) n (StiIsDown_0 c0 v) K=LiIsDown_0 k (YiIsDown_0_0 K c0) (YiIsDown_0_1 K c0) c0 n v:=j4 (B:=BiIsDown_0 k (YiIsDown_0_0 K c0) (YiIsDown_0_1 K c0) c0) (fun _=>rfl) (fun n v=>by kernel_rfl) (fun _=>rfl) (fun _ _=>rfl)
theorem miIsDown_0 (k:Nat) (a0:List I4) (a1:Int) (a2:Int):FiIsDown (k+1) a0 a1 a2=z2 (R:=Bool) [0,1,2,9,10,11] (run E (den E k) (lv 202) k (j1 Tryz.f202 0)) k (StiIsDown_0 (a1,a2,a0,(a0.length:Int)) 0) (zb E (den E k) (lv 202) k (yd Tryz.f202) 0 [] (zd E (rs 202) Tryz.f202:Ex→St→Option (Bool))):=by kernel_rfl
theorem eiIsDown (k:Nat) (a0:List I4) (a1:Int) (a2:Int):FiIsDown (k+1) a0 a1 a2=LiIsDown_0 k (fun (v0:Int) (x1:I4) (p2:Bool)=>some true) (fun (v0:Int)=>some false) (a1,a2,a0,(a0.length:Int)) k 0:=by
 rw [miIsDown_0]
 simp only [liIsDown_0]
 kernel_rfl
noncomputable def zl (k:Nat) (a0:Int) (a1:Int) (a2:Int):Option (Bool):=den E k 76 [cI a0,cI a1,cI a2]
theorem eiInRange (k:Nat) (a0:Int) (a1:Int) (a2:Int):zl (k+1) a0 a1 a2=if ((decide (a1≤a0))==true)=true then some (decide (a0≤a2)) else some false:=by kernel_rfl
noncomputable def FiIsBattery (k:Nat) (a0:I6):Option (Bool):=den E k 176 [.agg (avs sI6 a0)]
theorem eiIsBattery (k:Nat) (a0:I6):FiIsBattery (k+1) a0=(zl k a0.2.2.2.1 0 100).bind fun p1=>if (p1==true)=true then (zl k a0.2.2.2.2.1 0 100).bind fun p2=>if (p2==true)=true then (zl k a0.2.2.2.2.2 0 100).bind fun p3=>if (p3==true)=true then (zl k a0.2.1 0 10000).bind fun p4=>if (p4==true)=true then (zl k a0.2.2.1 0 a0.2.1).bind fun p5=>if (p5==true)=true then (zl k a0.1 a0.2.2.1 a0.2.1).bind fun p6=>some p6 else some false else some false else some false else some false else some false:=by kernel_rfl
noncomputable def FiMaySend (k:Nat) (a0:I6) (a1:Int):Option (Bool):=den E k 203 [.agg (avs sI6 a0),cI a1]
theorem eiMaySend (k:Nat) (a0:I6) (a1:Int):FiMaySend (k+1) a0 a1=(FiIsBattery k a0).bind fun p1=>if (p1==true)=true then (zl k a1 0 10000).bind fun p2=>if (p2==true)=true then some (decide ((IntKind.i64.wrap (a0.1-a0.2.2.2.2.1))≥(IntKind.i64.wrap (a0.2.2.1+a1)))) else some false else some false:=by kernel_rfl
noncomputable def FiMod (k:Nat) (a0:Int) (a1:Int):Option (Int):=den E k 412 [cI a0,cI a1]
theorem eiMod (k:Nat) (a0:Int) (a1:Int):FiMod (k+1) a0 a1=(zl k a1 1 1000000000000).bind fun p1=>if (!p1)=true then some 0 else if a1=0 then none else if (decide (((a0).tmod a1)<0))=true then some (IntKind.i64.wrap (((a0).tmod a1)+a1)) else some ((a0).tmod a1):=by kernel_rfl
noncomputable def v71 (k:Nat) (a0:Int):Option (Int):=den E k 396 [cI a0]
theorem eiAngleOf (k:Nat) (a0:Int):v71 (k+1) a0=(FiMod k a0 360).bind fun p1=>some p1:=by kernel_rfl
noncomputable def FiGapOf (k:Nat) (a0:Int) (a1:Int):Option (Int):=den E k 364 [cI a0,cI a1]
theorem eiGapOf (k:Nat) (a0:Int) (a1:Int):FiGapOf (k+1) a0 a1=(v71 k a0).bind fun p1=>(v71 k a1).bind fun p2=>(v71 k (IntKind.i64.wrap (p1-p2))).bind fun p3=>some (mn p3 (IntKind.i64.wrap (360-p3))):=by kernel_rfl
noncomputable def FiisWidth (k:Nat) (a0:Int):Option (Bool):=den E k 170 [cI a0]
theorem eiisWidth (k:Nat) (a0:Int):FiisWidth (k+1) a0=(zl k a0 0 359).bind fun p1=>some p1:=by kernel_rfl
noncomputable def FiMiddleOf (k:Nat) (a0:I2):Option (Int):=den E k 365 [.agg [vI a0.1,vI a0.2]]
theorem eiMiddleOf (k:Nat) (a0:I2):FiMiddleOf (k+1) a0=(FiisWidth k a0.2).bind fun p1=>if (!p1)=true then (v71 k a0.1).bind fun p2=>some p2 else (v71 k a0.1).bind fun p3=>(v71 k (IntKind.i64.wrap (p3+(IntKind.i64.wrap ((a0.2).tdiv 2))))).bind fun p4=>some p4:=by kernel_rfl
noncomputable def FiNodesOf (k:Nat) (a0:TSky):Option (Int):=den E k 74 [.agg (avs sSky a0)]
noncomputable def FiIsSite (k:Nat) (a0:TSky) (a1:Int):Option (Bool):=den E k 179 [.agg (avs sSky a0),cI a1]
noncomputable def FispeedOf (k:Nat) (a0:I4):Option (Int):=den E k 411 [.agg (avs sI4 a0)]
theorem eispeedOf (k:Nat) (a0:I4):FispeedOf (k+1) a0=(zl k a0.2.2.1 (-60) 60).bind fun p1=>if (!p1)=true then some 0 else some a0.2.2.1:=by kernel_rfl
noncomputable def FiPlaceAt (k:Nat) (a0:I4) (a1:Int):Option (Int):=den E k 395 [.agg (avs sI4 a0),cI a1]
theorem eiPlaceAt (k:Nat) (a0:I4) (a1:Int):FiPlaceAt (k+1) a0 a1=(zl k a1 0 1000).bind fun p1=>if (!p1)=true then (v71 k a0.2.1).bind fun p2=>(FispeedOf k a0).bind fun p3=>(v71 k (IntKind.i64.wrap (p2+(IntKind.i64.wrap (p3*0))))).bind fun p4=>some p4 else (v71 k a0.2.1).bind fun p5=>(FispeedOf k a0).bind fun p6=>(v71 k (IntKind.i64.wrap (p5+(IntKind.i64.wrap (p6*a1))))).bind fun p7=>some p7:=by kernel_rfl
noncomputable def FiWidenArc (k:Nat) (a0:I2) (a1:Int):Option I2:=den E k 410 [.agg [vI a0.1,vI a0.2],cI a1]
theorem eiWidenArc (k:Nat) (a0:I2) (a1:Int):FiWidenArc (k+1) a0 a1=(v71 k a0.1).bind fun p1=>(zl k a1 0 360).bind fun p2=>if ((!p2)==false)=true then (FiisWidth k a0.2).bind fun p3=>if (!p3)=true then some (p1,a0.2) else (v71 k (IntKind.i64.wrap (p1-a1))).bind fun p4=>some (p4,(mn (IntKind.i64.wrap (a0.2+(IntKind.i64.wrap (2*a1)))) 359)) else some (p1,a0.2):=by kernel_rfl
noncomputable def FiPlacesAt (k:Nat) (a0:I4) (a1:Int):Option I2:=den E k 394 [.agg (avs sI4 a0),cI a1]
theorem eiPlacesAt (k:Nat) (a0:I4) (a1:Int):FiPlacesAt (k+1) a0 a1=(FiPlaceAt k a0 a1).bind fun p1=>(FiWidenArc k (p1,0) a0.2.2.2).bind fun p2=>some p2:=by kernel_rfl
noncomputable def FiisSatellite (k:Nat) (a0:TSky) (a1:Int):Option (Bool):=den E k 362 [.agg (avs sSky a0),cI a1]
theorem eiisSatellite (k:Nat) (a0:TSky) (a1:Int):FiisSatellite (k+1) a0 a1=(zl k a1 0 (IntKind.i64.wrap ((a0.2.1.length:Int)-1))).bind fun p1=>some p1:=by kernel_rfl
noncomputable def FiNodeAt (k:Nat) (a0:TSky) (a1:Int) (a2:Int):Option I2:=den E k 363 [.agg (avs sSky a0),cI a1,cI a2]
theorem eiNodeAt (k:Nat) (a0:TSky) (a1:Int) (a2:Int):FiNodeAt (k+1) a0 a1 a2=(FiisSatellite k a0 a1).bind fun p1=>if p1=true then if 0≤a1 then ix a0.2.1 a1.toNat fun x2=>(FiPlacesAt k x2 a2).bind fun p3=>some p3 else none else (FiIsSite k a0 a1).bind fun p4=>if p4=true then if 0≤(IntKind.i64.wrap (a1-(a0.2.1.length:Int))) then ix a0.2.2.1 ((IntKind.i64.wrap (a1-(a0.2.1.length:Int))).toNat) fun x5=>(FiPlaceAt k (0,x5.2.1,x5.2.2,0) a2).bind fun p6=>some (p6,0) else none else some (0,0):=by kernel_rfl
noncomputable def FiSunAt (k:Nat) (a0:TSky) (a1:Int):Option (Int):=den E k 366 [.agg (avs sSky a0),cI a1]
theorem eiSunAt (k:Nat) (a0:TSky) (a1:Int):FiSunAt (k+1) a0 a1=(FiPlaceAt k (0,0,a0.2.2.2.2.2.2.1,0) a1).bind fun p1=>some p1:=by kernel_rfl
noncomputable def FiShadowAt (k:Nat) (a0:TSky) (a1:Int) (a2:Int):Option (Int):=den E k 302 [.agg (avs sSky a0),cI a1,cI a2]
theorem eiShadowAt (k:Nat) (a0:TSky) (a1:Int) (a2:Int):FiShadowAt (k+1) a0 a1 a2=(FiisSatellite k a0 a1).bind fun p1=>if (!p1)=true then some 0 else (FiNodeAt k a0 a1 a2).bind fun p2=>(FiMiddleOf k p2).bind fun p3=>(FiSunAt k a0 a2).bind fun p4=>(FiGapOf k p3 (IntKind.i64.wrap (p4+180))).bind fun p5=>if (decide ((IntKind.i64.wrap (p5-(IntKind.i64.wrap ((p2.2).tdiv 2))))>a0.2.2.2.2.2.2.2.1))=true then some 0 else if (decide ((IntKind.i64.wrap (p5+(IntKind.i64.wrap ((p2.2).tdiv 2))))≤a0.2.2.2.2.2.2.2.1))=true then some 2 else some 1:=by kernel_rfl
noncomputable def FiLitSpans_1v (k:Nat) (a0:Int) (a1:Int) (a2:List I4) (a3:List I3) (a4:Int) (a5:Int) (a6:Int) (a7:Int) (a8:Int) (a9:List I3) (a10:Int) (a11:Int):Option (Bool):=den E k 301 [cI a0,.c (.at_ [vI a1,.l 186 sI4 a2,.l 188 sI3 a3,vI a4,vI a5,vI a6,vI a7,vI a8,.l 193 sZone a9,vI a10]),.c (.at_ [vI a11])]
theorem eiLitSpans_1v (k:Nat) (a0:Int) (a1:Int) (a2:List I4) (a3:List I3) (a4:Int) (a5:Int) (a6:Int) (a7:Int) (a8:Int) (a9:List I3) (a10:Int) (a11:Int):FiLitSpans_1v (k+1) a0 a1 a2 a3 a4 a5 a6 a7 a8 a9 a10 a11=(FiShadowAt k (a1,a2,a3,a4,a5,a6,a7,a8,a9,a10) a11 a0).bind fun p1=>some (p1==0):=by kernel_rfl
noncomputable def x91 (k:Nat) (a0:Int) (a1:Int) (a2:Int) (a3:List I4) (a4:List I3) (a5:Int) (a6:Int) (a7:Int) (a8:Int) (a9:Int) (a10:List I3) (a11:Int) (a12:Int):Option (List I2):=den E k 300 [cI a0,cI a1,.c (.clo 301 [.at_ [vI a2,.l 186 sI4 a3,.l 188 sI3 a4,vI a5,vI a6,vI a7,vI a8,vI a9,.l 193 sZone a10,vI a11],.at_ [vI a12]])]
abbrev vl:Type:=Int×Int×(List I4)×(List I3)×Int×Int×Int×Int×Int×(List I3)×Int×Int
abbrev je:Type:=Int×(List I2)
def vh1 (c0:vl) (v0:je):St:=⟨53,1,[(1,cI c0.1),(2,.c (.clo 301 [.at_ [vI c0.2.1,.l 186 sI4 c0.2.2.1,.l 188 sI3 c0.2.2.2.1,vI c0.2.2.2.2.1,vI c0.2.2.2.2.2.1,vI c0.2.2.2.2.2.2.1,vI c0.2.2.2.2.2.2.2.1,vI c0.2.2.2.2.2.2.2.2.1,.l 193 sZone c0.2.2.2.2.2.2.2.2.2.1,vI c0.2.2.2.2.2.2.2.2.2.2.1],.at_ [vI c0.2.2.2.2.2.2.2.2.2.2.2]])),(7,.c (.ref 0)),(8,cI v0.1)],[(0,.arr 183 sI2 v0.2)]⟩
noncomputable def yj1 {R:Type} (k:Nat) (X0:je→Option R) (c0:vl) (rec:je→Option R) (v0:je):Option R:=if (decide (v0.1<(mn c0.1 1000)))=true then (FiLitSpans_1v k v0.1 c0.2.1 c0.2.2.1 c0.2.2.2.1 c0.2.2.2.2.1 c0.2.2.2.2.2.1 c0.2.2.2.2.2.2.1 c0.2.2.2.2.2.2.2.1 c0.2.2.2.2.2.2.2.2.1 c0.2.2.2.2.2.2.2.2.2.1 c0.2.2.2.2.2.2.2.2.2.2.1 c0.2.2.2.2.2.2.2.2.2.2.2).bind fun p1=>if (!p1)=true then rec ((IntKind.i64.wrap (v0.1+1)),v0.2) else if ((decide ((IntKind.i64.wrap ((v0.2.length:Int)-1))≥0))==true)=true then if 0≤(IntKind.i64.wrap ((v0.2.length:Int)-1)) then if (IntKind.i64.wrap ((v0.2.length:Int)-1))<(v0.2.length:Int) then ix v0.2 ((IntKind.i64.wrap ((v0.2.length:Int)-1)).toNat) fun x2=>if (x2.2==v0.1)=true then if 0≤(IntKind.i64.wrap ((v0.2.length:Int)-1)) then if (IntKind.i64.wrap ((v0.2.length:Int)-1))<(v0.2.length:Int) then ix v0.2 ((IntKind.i64.wrap ((v0.2.length:Int)-1)).toNat) fun x3=>if 0≤(IntKind.i64.wrap ((v0.2.length:Int)-1)) then if (IntKind.i64.wrap ((v0.2.length:Int)-1))<(v0.2.length:Int) then ix v0.2 ((IntKind.i64.wrap ((v0.2.length:Int)-1)).toNat) fun y4=>rec ((IntKind.i64.wrap (v0.1+1)),(v0.2.set ((IntKind.i64.wrap ((v0.2.length:Int)-1)).toNat) (y4.1,(IntKind.i64.wrap (x3.2+1))))) else none else none else none else none else if (v0.2.length+([(v0.1,(IntKind.i64.wrap (v0.1+1)))]).length)*16≤140737488355328 then rec ((IntKind.i64.wrap (v0.1+1)),(v0.2++[(v0.1,(IntKind.i64.wrap (v0.1+1)))])) else none else none else none else if (v0.2.length+([(v0.1,(IntKind.i64.wrap (v0.1+1)))]).length)*16≤140737488355328 then rec ((IntKind.i64.wrap (v0.1+1)),(v0.2++[(v0.1,(IntKind.i64.wrap (v0.1+1)))])) else none else X0 v0
noncomputable def zq {R:Type} (k:Nat) (X0:je→Option R) (c:vl):Nat→je→Option R
 | 0,_=>none
 | n+1,v=>yj1 k X0 c (zq k X0 c n) v
def vg1 {R:Type} (K:Ex→St→Option R) (c0:vl) (v0:je):Option R:=K (.exit 0) ⟨53,1,[(1,cI c0.1),(2,.c (.clo 301 [.at_ [vI c0.2.1,.l 186 sI4 c0.2.2.1,.l 188 sI3 c0.2.2.2.1,vI c0.2.2.2.2.1,vI c0.2.2.2.2.2.1,vI c0.2.2.2.2.2.2.1,vI c0.2.2.2.2.2.2.2.1,vI c0.2.2.2.2.2.2.2.2.1,.l 193 sZone c0.2.2.2.2.2.2.2.2.2.1,vI c0.2.2.2.2.2.2.2.2.2.2.1],.at_ [vI c0.2.2.2.2.2.2.2.2.2.2.2]])),(7,.c (.ref 0)),(8,cI v0.1),(13,cI v0.1),(14,cI c0.1),(15,cI (mn c0.1 1000)),(16,cB (decide (v0.1<(mn c0.1 1000))))],[(0,.arr 183 sI2 v0.2)]⟩
theorem lispansWherev_iLitSpans_1_0 {R:Type} (k:Nat) (K:Ex→St→Option R) (c0:vl):∀(n:Nat) (v:je),z2 [0,1,2,7,8] (run E (den E k) (lv 300) k (j1 Tryz.f300 0)) n (vh1 c0 v) K=zq k (vg1 K c0) c0 n v:=j4 (B:=yj1 k (vg1 K c0) c0) (fun _=>rfl) (fun n v=>by kernel_rfl) (fun _=>rfl) (fun _ _=>rfl)
theorem mispansWherev_iLitSpans_1_0 (k:Nat) (a0:Int) (a1:Int) (a2:Int) (a3:List I4) (a4:List I3) (a5:Int) (a6:Int) (a7:Int) (a8:Int) (a9:Int) (a10:List I3) (a11:Int) (a12:Int):x91 (k+1) a0 a1 a2 a3 a4 a5 a6 a7 a8 a9 a10 a11 a12=z2 (R:=List I2) [0,1,2,7,8] (run E (den E k) (lv 300) k (j1 Tryz.f300 0)) k (vh1 (a1,a2,a3,a4,a5,a6,a7,a8,a9,a10,a11,a12) ((mx a0 0),[])) (zb E (den E k) (lv 300) k (yd Tryz.f300) 0 [] (zd E (rs 300) Tryz.f300:Ex→St→Option (List I2))):=by kernel_rfl
theorem eispansWherev_iLitSpans_1 (k:Nat) (a0:Int) (a1:Int) (a2:Int) (a3:List I4) (a4:List I3) (a5:Int) (a6:Int) (a7:Int) (a8:Int) (a9:Int) (a10:List I3) (a11:Int) (a12:Int):x91 (k+1) a0 a1 a2 a3 a4 a5 a6 a7 a8 a9 a10 a11 a12=zq k (fun (v0:Int×(List I2))=>some v0.2) (a1,a2,a3,a4,a5,a6,a7,a8,a9,a10,a11,a12) k ((mx a0 0),[]):=by
 rw [mispansWherev_iLitSpans_1_0]
 simp only [lispansWherev_iLitSpans_1_0]
 kernel_rfl
noncomputable def FiLitSpans (k:Nat) (a0:TSky) (a1:Int) (a2:Int) (a3:Int):Option (List I2):=den E k 237 [.agg (avs sSky a0),cI a1,cI a2,cI a3]
theorem eiLitSpans (k:Nat) (a0:TSky) (a1:Int) (a2:Int) (a3:Int):FiLitSpans (k+1) a0 a1 a2 a3=(x91 k a2 a3 a0.1 a0.2.1 a0.2.2.1 a0.2.2.2.1 a0.2.2.2.2.1 a0.2.2.2.2.2.1 a0.2.2.2.2.2.2.1 a0.2.2.2.2.2.2.2.1 a0.2.2.2.2.2.2.2.2.1 a0.2.2.2.2.2.2.2.2.2 a1).bind fun p1=>some p1:=by kernel_rfl
noncomputable def FiLitOf (k:Nat) (a0:xp) (a1:Int):Option (List I2):=den E k 119 [.agg (avs y51 a0),cI a1]
theorem eiLitOf (k:Nat) (a0:xp) (a1:Int):FiLitOf (k+1) a0 a1=(FiLitSpans k a0.1 a1 0 a0.2.2.2.2.2.2.2.2.2.2.2.1).bind fun p1=>some p1:=by kernel_rfl
noncomputable def Fiticks (k:Nat) (a0:List I2):Option (List Bool):=den E k 375 [.c (.l 183 sI2 a0)]
abbrev Citicks_1:Type:=(List I2)×Int×Int×I2
abbrev vx1:Type:=Int×(List Bool)
def Stiticks_1 (c1:Citicks_1) (v1:vx1):St:=⟨29,2,[(3,.c (.ref 0)),(5,cP 1),(6,cI v1.1),(8,.c (.l 183 sI2 c1.1)),(9,cI c1.2.1),(10,cI c1.2.2.1)],[(0,.arr 4 .b v1.2),(1,.var [vI c1.2.2.2.1,vI c1.2.2.2.2])]⟩
noncomputable def Biticks_1 {R:Type} (k:Nat) (X0:vx1→Option R) (c1:Citicks_1) (rec:vx1→Option R) (v1:vx1):Option R:=if (decide (v1.1<c1.2.2.2.2))=true then if 0≤v1.1 then if v1.1<(v1.2.length:Int) then ix v1.2 v1.1.toNat fun y3=>rec ((IntKind.i64.wrap (v1.1+1)),(v1.2.set v1.1.toNat true)) else none else none else X0 v1
noncomputable def Liticks_1 {R:Type} (k:Nat) (X0:vx1→Option R) (c:Citicks_1):Nat→vx1→Option R
 | 0,_=>none
 | n+1,v=>Biticks_1 k X0 c (Liticks_1 k X0 c n) v
def Yiticks_1_0 {R:Type} (K:Ex→St→Option R) (c1:Citicks_1) (v1:vx1):Option R:=K (.exit 2) ⟨29,2,[(3,.c (.ref 0)),(5,cP 1),(6,cI v1.1),(8,.c (.l 183 sI2 c1.1)),(9,cI c1.2.1),(10,cI c1.2.2.1),(18,cI v1.1),(19,.c (.ptr 1 1)),(20,cI c1.2.2.2.2),(21,cB (decide (v1.1<c1.2.2.2.2)))],[(0,.arr 4 .b v1.2),(1,.var [vI c1.2.2.2.1,vI c1.2.2.2.2])]⟩
theorem liticks_1 {R:Type} (k:Nat) (K:Ex→St→Option R) (c1:Citicks_1):∀(n:Nat) (v:vx1),z2 [0,3,5,6,8,9,10] (run E (den E k) (lv 375) k (j1 Tryz.f375 1)) n (Stiticks_1 c1 v) K=Liticks_1 k (Yiticks_1_0 K c1) c1 n v:=j4 (B:=Biticks_1 k (Yiticks_1_0 K c1) c1) (fun _=>rfl) (fun n v=>by kernel_rfl) (fun _=>rfl) (fun _ _=>rfl)
abbrev Citicks_0:Type:=(List I2)×Int
abbrev jo1:Type:=Int×(List Bool)
def Stiticks_0 (c0:Citicks_0) (v0:jo1):St:=⟨29,1,[(3,.c (.ref 0)),(8,.c (.l 183 sI2 c0.1)),(9,cI c0.2),(10,cI v0.1)],[(0,.arr 4 .b v0.2)]⟩
noncomputable def Biticks_0 {R:Type} (k:Nat) (X0:jo1→Option R) (c0:Citicks_0) (rec:jo1→Option R) (v0:jo1):Option R:=if (decide (v0.1<c0.2))=true then if 0≤v0.1 then ix c0.1 v0.1.toNat fun x1=>(FiIsSpan k x1).bind fun p2=>if p2=true then Liticks_1 k (fun (v1:Int×(List Bool))=>rec ((IntKind.i64.wrap (v0.1+1)),v1.2)) (c0.1,c0.2,v0.1,x1) k (x1.1,v0.2) else rec ((IntKind.i64.wrap (v0.1+1)),v0.2) else none else X0 v0
noncomputable def Liticks_0 {R:Type} (k:Nat) (X0:jo1→Option R) (c:Citicks_0):Nat→jo1→Option R
 | 0,_=>none
 | n+1,v=>Biticks_0 k X0 c (Liticks_0 k X0 c n) v
def Yiticks_0_0 {R:Type} (K:Ex→St→Option R) (c0:Citicks_0) (v0:jo1):Option R:=K (.exit 0) ⟨29,1,[(3,.c (.ref 0)),(8,.c (.l 183 sI2 c0.1)),(9,cI c0.2),(10,cI v0.1),(11,cB (decide (v0.1<c0.2)))],[(0,.arr 4 .b v0.2)]⟩
theorem bmiticks_0_0 {R:Type} (k n:Nat) (K:Ex→St→Option R) (c0:Citicks_0) (v0:jo1):z2 [0,3,8,9,10] (run E (den E k) (lv 375) k (j1 Tryz.f375 0)) (n+1) (Stiticks_0 c0 v0) K=if (decide (v0.1<c0.2))=true then if 0≤v0.1 then ix c0.1 v0.1.toNat fun x1=>(FiIsSpan k x1).bind fun p2=>if p2=true then z2 [0,3,5,6,8,9,10] (run E (den E k) (lv 375) k (j1 Tryz.f375 1)) k (Stiticks_1 (c0.1,c0.2,v0.1,x1) (x1.1,v0.2)) (zb E (den E k) (lv 375) k (.loop (j1 Tryz.f375 0)) (1-0) [(n,[0,3,8,9,10])] K) else z2 [0,3,8,9,10] (run E (den E k) (lv 375) k (j1 Tryz.f375 0)) n (Stiticks_0 c0 ((IntKind.i64.wrap (v0.1+1)),v0.2)) K else none else K (.exit 0) ⟨29,1,[(3,.c (.ref 0)),(8,.c (.l 183 sI2 c0.1)),(9,cI c0.2),(10,cI v0.1),(11,cB (decide (v0.1<c0.2)))],[(0,.arr 4 .b v0.2)]⟩:=by kernel_rfl
theorem biticks_0 {R:Type} (k n:Nat) (K:Ex→St→Option R) (c0:Citicks_0) (v:jo1):z2 [0,3,8,9,10] (run E (den E k) (lv 375) k (j1 Tryz.f375 0)) (n+1) (Stiticks_0 c0 v) K=Biticks_0 k (Yiticks_0_0 K c0) c0 (fun v=>z2 [0,3,8,9,10] (run E (den E k) (lv 375) k (j1 Tryz.f375 0)) n (Stiticks_0 c0 v) K) v:=by
 rw [bmiticks_0_0]
 simp only [liticks_1]
 kernel_rfl
theorem liticks_0 {R:Type} (k:Nat) (K:Ex→St→Option R) (c0:Citicks_0):∀(n:Nat) (v:jo1),z2 [0,3,8,9,10] (run E (den E k) (lv 375) k (j1 Tryz.f375 0)) n (Stiticks_0 c0 v) K=Liticks_0 k (Yiticks_0_0 K c0) c0 n v:=j4 (B:=Biticks_0 k (Yiticks_0_0 K c0) c0) (fun _=>rfl) (fun n v=>biticks_0 k n K c0 v) (fun _=>rfl) (fun _ _=>rfl)
theorem miticks_0 (k:Nat) (a0:List I2):Fiticks (k+1) a0=z2 (R:=List Bool) [0,3,8,9,10] (run E (den E k) (lv 375) k (j1 Tryz.f375 0)) k (Stiticks_0 (a0,(a0.length:Int)) (0,(List.replicate (1000:Int).toNat (false:Bool)))) (zb E (den E k) (lv 375) k (yd Tryz.f375) 0 [] (zd E (rs 375) Tryz.f375:Ex→St→Option (List Bool))):=by kernel_rfl
theorem eiticks (k:Nat) (a0:List I2):Fiticks (k+1) a0=Liticks_0 k (fun (v0:Int×(List Bool))=>some v0.2) (a0,(a0.length:Int)) k (0,(List.replicate (1000:Int).toNat (false:Bool))):=by
 rw [miticks_0]
 simp only [liticks_0]
 kernel_rfl
noncomputable def Fineeds (k:Nat) (a0:I6) (a1:List I2) (a2:Int) (a3:Int):Option (List Int):=den E k 320 [.agg (avs sI6 a0),.c (.l 183 sI2 a1),cI a2,cI a3]
abbrev Cineeds_0:Type:=Int×(List Bool)×I6
abbrev Vineeds_0:Type:=Int×(List Int)
def Stineeds_0 (c0:Cineeds_0) (v0:Vineeds_0):St:=⟨77,2,[(2,cI c0.1),(4,cP 0),(9,.c (.l 4 .b c0.2.1)),(10,.c (.ref 1)),(11,cI v0.1)],[(0,.var (avs sI6 c0.2.2)),(1,.arr 3 (.i .i64) v0.2)]⟩
noncomputable def Bineeds_0 {R:Type} (k:Nat) (X0:Vineeds_0→Option R) (c0:Cineeds_0) (rec:Vineeds_0→Option R) (v0:Vineeds_0):Option R:=if (decide (v0.1≥c0.1))=true then if 0≤(IntKind.i64.wrap ((IntKind.i64.wrap (v0.1-c0.1))+1)) then if (IntKind.i64.wrap ((IntKind.i64.wrap (v0.1-c0.1))+1))<(v0.2.length:Int) then ix v0.2 ((IntKind.i64.wrap ((IntKind.i64.wrap (v0.1-c0.1))+1)).toNat) fun x4=>if 0≤v0.1 then ix c0.2.1 v0.1.toNat fun x5=>if x5=true then if 0≤(IntKind.i64.wrap (v0.1-c0.1)) then if (IntKind.i64.wrap (v0.1-c0.1))<(v0.2.length:Int) then ix v0.2 ((IntKind.i64.wrap (v0.1-c0.1)).toNat) fun y6=>rec ((IntKind.i64.wrap (v0.1-1)),(v0.2.set ((IntKind.i64.wrap (v0.1-c0.1)).toNat) (mx 0 (IntKind.i64.wrap ((IntKind.i64.wrap (x4+c0.2.2.2.2.2.1))-c0.2.2.2.2.2.2.2))))) else none else none else if 0≤(IntKind.i64.wrap (v0.1-c0.1)) then if (IntKind.i64.wrap (v0.1-c0.1))<(v0.2.length:Int) then ix v0.2 ((IntKind.i64.wrap (v0.1-c0.1)).toNat) fun y7=>rec ((IntKind.i64.wrap (v0.1-1)),(v0.2.set ((IntKind.i64.wrap (v0.1-c0.1)).toNat) (mx 0 (IntKind.i64.wrap (x4+c0.2.2.2.2.2.1))))) else none else none else none else none else none else X0 v0
noncomputable def Lineeds_0 {R:Type} (k:Nat) (X0:Vineeds_0→Option R) (c:Cineeds_0):Nat→Vineeds_0→Option R
 | 0,_=>none
 | n+1,v=>Bineeds_0 k X0 c (Lineeds_0 k X0 c n) v
def Yineeds_0_0 {R:Type} (K:Ex→St→Option R) (c0:Cineeds_0) (v0:Vineeds_0):Option R:=K (.exit 0) ⟨77,2,[(2,cI c0.1),(4,cP 0),(9,.c (.l 4 .b c0.2.1)),(10,.c (.ref 1)),(11,cI v0.1),(46,cI v0.1),(47,cI c0.1),(48,cB (decide (v0.1≥c0.1)))],[(0,.var (avs sI6 c0.2.2)),(1,.arr 3 (.i .i64) v0.2)]⟩
theorem lineeds_0 {R:Type} (k:Nat) (K:Ex→St→Option R) (c0:Cineeds_0):∀(n:Nat) (v:Vineeds_0),z2 [0,2,4,9,10,11] (run E (den E k) (lv 320) k (j1 Tryz.f320 0)) n (Stineeds_0 c0 v) K=Lineeds_0 k (Yineeds_0_0 K c0) c0 n v:=j4 (B:=Bineeds_0 k (Yineeds_0_0 K c0) c0) (fun _=>rfl) (fun n v=>by kernel_rfl) (fun _=>rfl) (fun _ _=>rfl)
theorem mineeds_0 (k:Nat) (a0:I6) (a1:List I2) (a2:Int) (a3:Int):Fineeds (k+1) a0 a1 a2 a3=(zl k a0.2.2.2.1 0 100).bind fun p1=>if ((!p1)==false)=true then (zl k a0.2.2.2.2.2 0 100).bind fun p2=>if ((!p2)==false)=true then if ((decide (a2<0))==false)=true then if ((decide (a3>1000))==false)=true then if (decide (a2≥a3))=true then some ([0]) else (Fiticks k a1).bind fun p3=>if ((IntKind.i64.wrap ((IntKind.i64.wrap (a3-a2))+1))==(IntKind.i64.wrap ((IntKind.i64.wrap (a3-a2))+1)))=true then if 0≤(IntKind.i64.wrap ((IntKind.i64.wrap (a3-a2))+1)) then if 8*(IntKind.i64.wrap ((IntKind.i64.wrap (a3-a2))+1)).toNat≤281474976710656 then z2 (R:=List Int) [0,2,4,9,10,11] (run E (den E k) (lv 320) k (j1 Tryz.f320 0)) k (Stineeds_0 (a2,p3,a0) ((IntKind.i64.wrap (a3-1)),(List.replicate (IntKind.i64.wrap ((IntKind.i64.wrap (a3-a2))+1)).toNat (0:Int)))) (zb E (den E k) (lv 320) k (yd Tryz.f320) 0 [] (zd E (rs 320) Tryz.f320:Ex→St→Option (List Int))) else none else none else none else some ([0]) else some ([0]) else some ([0]) else some ([0]):=by kernel_rfl
theorem eineeds (k:Nat) (a0:I6) (a1:List I2) (a2:Int) (a3:Int):Fineeds (k+1) a0 a1 a2 a3=(zl k a0.2.2.2.1 0 100).bind fun p1=>if ((!p1)==false)=true then (zl k a0.2.2.2.2.2 0 100).bind fun p2=>if ((!p2)==false)=true then if ((decide (a2<0))==false)=true then if ((decide (a3>1000))==false)=true then if (decide (a2≥a3))=true then some ([0]) else (Fiticks k a1).bind fun p3=>if ((IntKind.i64.wrap ((IntKind.i64.wrap (a3-a2))+1))==(IntKind.i64.wrap ((IntKind.i64.wrap (a3-a2))+1)))=true then if 0≤(IntKind.i64.wrap ((IntKind.i64.wrap (a3-a2))+1)) then if 8*(IntKind.i64.wrap ((IntKind.i64.wrap (a3-a2))+1)).toNat≤281474976710656 then Lineeds_0 k (fun (v0:Int×(List Int))=>some v0.2) (a2,p3,a0) k ((IntKind.i64.wrap (a3-1)),(List.replicate (IntKind.i64.wrap ((IntKind.i64.wrap (a3-a2))+1)).toNat (0:Int))) else none else none else none else some ([0]) else some ([0]) else some ([0]) else some ([0]):=by
 rw [mineeds_0]
 simp only [lineeds_0]
 kernel_rfl
noncomputable def FiNeedAt (k:Nat) (a0:I6) (a1:List I2) (a2:Int) (a3:Int):Option (Int):=den E k 257 [.agg (avs sI6 a0),.c (.l 183 sI2 a1),cI a2,cI a3]
theorem eiNeedAt (k:Nat) (a0:I6) (a1:List I2) (a2:Int) (a3:Int):FiNeedAt (k+1) a0 a1 a2 a3=(Fineeds k a0 a1 a2 a3).bind fun p1=>if 0<(p1.length:Int) then ix p1 ((0:Int).toNat) fun x2=>some x2 else none:=by kernel_rfl
noncomputable def zn (k:Nat) (a0:Int) (a1:Int):Option (Bool):=den E k 95 [cI a0,cI a1]
theorem eiisIndex (k:Nat) (a0:Int) (a1:Int):zn (k+1) a0 a1=if ((decide (a0≥0))==true)=true then some (decide (a0<a1)) else some false:=by kernel_rfl
noncomputable def FiNeedNow (k:Nat) (a0:xp) (a1:Int):Option (Int):=den E k 177 [.agg (avs y51 a0),cI a1]
theorem eiNeedNow (k:Nat) (a0:xp) (a1:Int):FiNeedNow (k+1) a0 a1=(zn k a1 (a0.2.2.2.2.1.length:Int)).bind fun p1=>if (!p1)=true then some 0 else if 0≤a1 then ix a0.2.2.2.2.1 a1.toNat fun x2=>(FiLitOf k a0 a1).bind fun p3=>(FiNeedAt k x2 p3 a0.2.2.2.2.2.2.2.2.2.2.1 a0.2.2.2.2.2.2.2.2.2.2.2.1).bind fun p4=>some p4 else none:=by kernel_rfl
noncomputable def FiCanSend (k:Nat) (a0:xp) (a1:Int):Option (Bool):=den E k 94 [.agg (avs y51 a0),cI a1]
theorem eiCanSend (k:Nat) (a0:xp) (a1:Int):FiCanSend (k+1) a0 a1=(zn k a1 a0.2.1.1).bind fun p1=>if ((!p1)==false)=true then (FiIsDown k a0.2.2.2.2.2.2.2.2.2.1 a1 a0.2.2.2.2.2.2.2.2.2.2.1).bind fun p2=>if p2=true then some false else if (decide (a1<a0.2.1.2.1))=true then (zn k a1 (a0.2.2.2.2.1.length:Int)).bind fun p3=>if (p3==true)=true then if 0≤a1 then ix a0.2.2.2.2.1 a1.toNat fun x4=>(FiNeedNow k a0 a1).bind fun p5=>(FiMaySend k x4 p5).bind fun p6=>some p6 else none else some false else some true else some false:=by kernel_rfl
noncomputable def FiIsCut (k:Nat) (a0:List I4) (a1:Int) (a2:Int) (a3:Int):Option (Bool):=den E k 352 [.c (.l 86 sI4 a0),cI a1,cI a2,cI a3]
abbrev CiIsCut_0:Type:=(List I4)×Int×Int×Int×(List I4)×Int
abbrev yw:Type:=Int
def StiIsCut_0 (c0:CiIsCut_0) (v0:yw):St:=⟨59,0,[(0,.c (.l 86 sI4 c0.1)),(1,cI c0.2.1),(2,cI c0.2.2.1),(3,cI c0.2.2.2.1),(11,.c (.l 86 sI4 c0.2.2.2.2.1)),(12,cI c0.2.2.2.2.2),(13,cI v0)],[]⟩
noncomputable def BiIsCut_0 {R:Type} (k:Nat) (X0:yw→I4→Bool→Option R) (X1:yw→I4→Bool→Option R) (X2:yw→I4→Bool→Option R) (X3:yw→Option R) (c0:CiIsCut_0) (rec:yw→Option R) (v0:yw):Option R:=if (decide (v0<c0.2.2.2.2.2))=true then if 0≤v0 then ix c0.2.2.2.2.1 v0.toNat fun x1=>if ((x1.1==c0.2.1)==true)=true then if ((x1.2.1==c0.2.2.1)==false)=true then if ((x1.1==c0.2.2.1)==true)=true then if ((x1.2.1==c0.2.1)==true)=true then (FiInSpan k x1.2.2 c0.2.2.2.1).bind fun p2=>if p2=true then X0 v0 x1 p2 else rec (IntKind.i64.wrap (v0+1)) else rec (IntKind.i64.wrap (v0+1)) else rec (IntKind.i64.wrap (v0+1)) else (FiInSpan k x1.2.2 c0.2.2.2.1).bind fun p3=>if p3=true then X1 v0 x1 p3 else rec (IntKind.i64.wrap (v0+1)) else if ((x1.1==c0.2.2.1)==true)=true then if ((x1.2.1==c0.2.1)==true)=true then (FiInSpan k x1.2.2 c0.2.2.2.1).bind fun p4=>if p4=true then X2 v0 x1 p4 else rec (IntKind.i64.wrap (v0+1)) else rec (IntKind.i64.wrap (v0+1)) else rec (IntKind.i64.wrap (v0+1)) else none else X3 v0
noncomputable def LiIsCut_0 {R:Type} (k:Nat) (X0:yw→I4→Bool→Option R) (X1:yw→I4→Bool→Option R) (X2:yw→I4→Bool→Option R) (X3:yw→Option R) (c:CiIsCut_0):Nat→yw→Option R
 | 0,_=>none
 | n+1,v=>BiIsCut_0 k X0 X1 X2 X3 c (LiIsCut_0 k X0 X1 X2 X3 c n) v
def YiIsCut_0_0 {R:Type} (K:Ex→St→Option R) (c0:CiIsCut_0) (v0:yw) (x1:I4) (p2:Bool):Option R:=K .ret ⟨59,1,[(0,.c (.l 86 sI4 c0.1)),(1,cI c0.2.1),(2,cI c0.2.2.1),(3,cI c0.2.2.2.1),(8,cB true),(10,cP 0),(11,.c (.l 86 sI4 c0.2.2.2.2.1)),(12,cI c0.2.2.2.2.2),(13,cI v0),(14,cB (decide (v0<c0.2.2.2.2.2))),(15,.c (.at_ (avs sI4 x1))),(16,.agg (avs sI4 x1)),(17,cP 0),(18,cI x1.1),(19,cI c0.2.1),(20,cB (x1.1==c0.2.1)),(21,cB true),(22,.c (.ptr 0 1)),(23,cI x1.2.1),(24,cI c0.2.2.1),(25,cB (x1.2.1==c0.2.2.1)),(26,cB (x1.2.1==c0.2.2.1)),(27,cB false),(28,cP 0),(29,cI x1.1),(30,cI c0.2.2.1),(31,cB (x1.1==c0.2.2.1)),(32,cB true),(33,.c (.ptr 0 1)),(34,cI x1.2.1),(35,cI c0.2.1),(36,cB (x1.2.1==c0.2.1)),(37,cB (x1.2.1==c0.2.1)),(38,cB (x1.2.1==c0.2.1)),(39,cB true),(40,.c (.ptr 0 2)),(41,cI x1.2.2.1),(42,.c (.ptr 0 3)),(43,cI x1.2.2.2),(44,.agg [vI x1.2.2.1,vI x1.2.2.2]),(45,cI c0.2.2.2.1),(46,cB p2),(47,cB p2)],[(0,.var (avs sI4 x1))]⟩
def YiIsCut_0_1 {R:Type} (K:Ex→St→Option R) (c0:CiIsCut_0) (v0:yw) (x1:I4) (p3:Bool):Option R:=K .ret ⟨59,1,[(0,.c (.l 86 sI4 c0.1)),(1,cI c0.2.1),(2,cI c0.2.2.1),(3,cI c0.2.2.2.1),(8,cB true),(10,cP 0),(11,.c (.l 86 sI4 c0.2.2.2.2.1)),(12,cI c0.2.2.2.2.2),(13,cI v0),(14,cB (decide (v0<c0.2.2.2.2.2))),(15,.c (.at_ (avs sI4 x1))),(16,.agg (avs sI4 x1)),(17,cP 0),(18,cI x1.1),(19,cI c0.2.1),(20,cB (x1.1==c0.2.1)),(21,cB true),(22,.c (.ptr 0 1)),(23,cI x1.2.1),(24,cI c0.2.2.1),(25,cB (x1.2.1==c0.2.2.1)),(26,cB (x1.2.1==c0.2.2.1)),(27,cB true),(28,.tup []),(29,.tup []),(30,.tup []),(31,.tup []),(32,.tup []),(33,.tup []),(34,.tup []),(35,.tup []),(36,.tup []),(37,.tup []),(38,cB true),(39,cB true),(40,.c (.ptr 0 2)),(41,cI x1.2.2.1),(42,.c (.ptr 0 3)),(43,cI x1.2.2.2),(44,.agg [vI x1.2.2.1,vI x1.2.2.2]),(45,cI c0.2.2.2.1),(46,cB p3),(47,cB p3)],[(0,.var (avs sI4 x1))]⟩
def YiIsCut_0_2 {R:Type} (K:Ex→St→Option R) (c0:CiIsCut_0) (v0:yw) (x1:I4) (p4:Bool):Option R:=K .ret ⟨59,1,[(0,.c (.l 86 sI4 c0.1)),(1,cI c0.2.1),(2,cI c0.2.2.1),(3,cI c0.2.2.2.1),(8,cB true),(10,cP 0),(11,.c (.l 86 sI4 c0.2.2.2.2.1)),(12,cI c0.2.2.2.2.2),(13,cI v0),(14,cB (decide (v0<c0.2.2.2.2.2))),(15,.c (.at_ (avs sI4 x1))),(16,.agg (avs sI4 x1)),(17,cP 0),(18,cI x1.1),(19,cI c0.2.1),(20,cB (x1.1==c0.2.1)),(21,cB false),(22,.tup []),(23,.tup []),(24,.tup []),(25,.tup []),(26,cB false),(27,cB false),(28,cP 0),(29,cI x1.1),(30,cI c0.2.2.1),(31,cB (x1.1==c0.2.2.1)),(32,cB true),(33,.c (.ptr 0 1)),(34,cI x1.2.1),(35,cI c0.2.1),(36,cB (x1.2.1==c0.2.1)),(37,cB (x1.2.1==c0.2.1)),(38,cB (x1.2.1==c0.2.1)),(39,cB true),(40,.c (.ptr 0 2)),(41,cI x1.2.2.1),(42,.c (.ptr 0 3)),(43,cI x1.2.2.2),(44,.agg [vI x1.2.2.1,vI x1.2.2.2]),(45,cI c0.2.2.2.1),(46,cB p4),(47,cB p4)],[(0,.var (avs sI4 x1))]⟩
def YiIsCut_0_3 {R:Type} (K:Ex→St→Option R) (c0:CiIsCut_0) (v0:yw):Option R:=K (.exit 0) ⟨59,0,[(0,.c (.l 86 sI4 c0.1)),(1,cI c0.2.1),(2,cI c0.2.2.1),(3,cI c0.2.2.2.1),(11,.c (.l 86 sI4 c0.2.2.2.2.1)),(12,cI c0.2.2.2.2.2),(13,cI v0),(14,cB (decide (v0<c0.2.2.2.2.2)))],[]⟩
theorem liIsCut_0 {R:Type} (k:Nat) (K:Ex→St→Option R) (c0:CiIsCut_0):∀(n:Nat) (v:yw),z2 [0,0,1,2,3,11,12,13] (run E (den E k) (lv 352) k (j1 Tryz.f352 0)) n (StiIsCut_0 c0 v) K=LiIsCut_0 k (YiIsCut_0_0 K c0) (YiIsCut_0_1 K c0) (YiIsCut_0_2 K c0) (YiIsCut_0_3 K c0) c0 n v:=j4 (B:=BiIsCut_0 k (YiIsCut_0_0 K c0) (YiIsCut_0_1 K c0) (YiIsCut_0_2 K c0) (YiIsCut_0_3 K c0) c0) (fun _=>rfl) (fun n v=>by kernel_rfl) (fun _=>rfl) (fun _ _=>rfl)
theorem miIsCut_0 (k:Nat) (a0:List I4) (a1:Int) (a2:Int) (a3:Int):FiIsCut (k+1) a0 a1 a2 a3=z2 (R:=Bool) [0,0,1,2,3,11,12,13] (run E (den E k) (lv 352) k (j1 Tryz.f352 0)) k (StiIsCut_0 (a0,a1,a2,a3,a0,(a0.length:Int)) 0) (zb E (den E k) (lv 352) k (yd Tryz.f352) 0 [] (zd E (rs 352) Tryz.f352:Ex→St→Option (Bool))):=by kernel_rfl
theorem eiIsCut (k:Nat) (a0:List I4) (a1:Int) (a2:Int) (a3:Int):FiIsCut (k+1) a0 a1 a2 a3=LiIsCut_0 k (fun (v0:Int) (x1:I4) (p2:Bool)=>some true) (fun (v0:Int) (x1:I4) (p3:Bool)=>some true) (fun (v0:Int) (x1:I4) (p4:Bool)=>some true) (fun (v0:Int)=>(FiIsDown k a0 a1 a3).bind fun p1=>if (p1==false)=true then (FiIsDown k a0 a2 a3).bind fun p2=>some p2 else some true) (a0,a1,a2,a3,a0,(a0.length:Int)) k 0:=by
 rw [miIsCut_0]
 simp only [liIsCut_0]
 kernel_rfl
noncomputable def FiisNumber (k:Nat) (a0:Int):Option (Bool):=den E k 254 [cI a0]
theorem eiisNumber (k:Nat) (a0:Int):FiisNumber (k+1) a0=(zl k a0 1 12).bind fun p1=>some p1:=by kernel_rfl
noncomputable def FiDeadFor (k:Nat) (a0:List I4) (a1:Int) (a2:Int) (a3:Int):Option (List Int):=den E k 281 [.c (.l 86 sI4 a0),cI a1,cI a2,cI a3]
abbrev CiDeadFor_0:Type:=(List I4)×Int×Int×Int
abbrev zk1:Type:=Int×(List Int)
def StiDeadFor_0 (c0:CiDeadFor_0) (v0:zk1):St:=⟨36,1,[(0,.c (.l 86 sI4 c0.1)),(1,cI c0.2.1),(2,cI c0.2.2.1),(9,.c (.ref 0)),(16,cI c0.2.2.2),(17,cI v0.1)],[(0,.arr 3 (.i .i64) v0.2)]⟩
noncomputable def BiDeadFor_0 {R:Type} (k:Nat) (X0:zk1→Option R) (c0:CiDeadFor_0) (rec:zk1→Option R) (v0:zk1):Option R:=if (decide (v0.1<c0.2.2.2))=true then if ((v0.1 !=c0.2.1)==true)=true then (FiIsCut k c0.1 c0.2.1 v0.1 c0.2.2.1).bind fun p2=>if p2=true then if (v0.2.length+([v0.1]).length)*8≤140737488355328 then rec ((IntKind.i64.wrap (v0.1+1)),(v0.2++[v0.1])) else none else rec ((IntKind.i64.wrap (v0.1+1)),v0.2) else rec ((IntKind.i64.wrap (v0.1+1)),v0.2) else X0 v0
noncomputable def LiDeadFor_0 {R:Type} (k:Nat) (X0:zk1→Option R) (c:CiDeadFor_0):Nat→zk1→Option R
 | 0,_=>none
 | n+1,v=>BiDeadFor_0 k X0 c (LiDeadFor_0 k X0 c n) v
def YiDeadFor_0_0 {R:Type} (K:Ex→St→Option R) (c0:CiDeadFor_0) (v0:zk1):Option R:=K (.exit 0) ⟨36,1,[(0,.c (.l 86 sI4 c0.1)),(1,cI c0.2.1),(2,cI c0.2.2.1),(9,.c (.ref 0)),(16,cI c0.2.2.2),(17,cI v0.1),(18,cB (decide (v0.1<c0.2.2.2)))],[(0,.arr 3 (.i .i64) v0.2)]⟩
theorem liDeadFor_0 {R:Type} (k:Nat) (K:Ex→St→Option R) (c0:CiDeadFor_0):∀(n:Nat) (v:zk1),z2 [0,0,1,2,9,16,17] (run E (den E k) (lv 281) k (j1 Tryz.f281 0)) n (StiDeadFor_0 c0 v) K=LiDeadFor_0 k (YiDeadFor_0_0 K c0) c0 n v:=j4 (B:=BiDeadFor_0 k (YiDeadFor_0_0 K c0) c0) (fun _=>rfl) (fun n v=>by kernel_rfl) (fun _=>rfl) (fun _ _=>rfl)
theorem miDeadFor_0 (k:Nat) (a0:List I4) (a1:Int) (a2:Int) (a3:Int):FiDeadFor (k+1) a0 a1 a2 a3=(FiisNumber k a3).bind fun p1=>if (!p1)=true then some ([]) else z2 (R:=List Int) [0,0,1,2,9,16,17] (run E (den E k) (lv 281) k (j1 Tryz.f281 0)) k (StiDeadFor_0 (a0,a1,a2,a3) (0,[])) (zb E (den E k) (lv 281) k (yd Tryz.f281) 0 [] (zd E (rs 281) Tryz.f281:Ex→St→Option (List Int))):=by kernel_rfl
theorem eiDeadFor (k:Nat) (a0:List I4) (a1:Int) (a2:Int) (a3:Int):FiDeadFor (k+1) a0 a1 a2 a3=(FiisNumber k a3).bind fun p1=>if (!p1)=true then some ([]) else LiDeadFor_0 k (fun (v0:Int×(List Int))=>some v0.2) (a0,a1,a2,a3) k (0,[]):=by
 rw [miDeadFor_0]
 simp only [liDeadFor_0]
 kernel_rfl
noncomputable def FiDeadNow (k:Nat) (a0:xp) (a1:Int):Option (List Int):=den E k 205 [.agg (avs y51 a0),cI a1]
theorem eiDeadNow (k:Nat) (a0:xp) (a1:Int):FiDeadNow (k+1) a0 a1=(FiDeadFor k a0.2.2.2.2.2.2.2.2.2.1 a1 a0.2.2.2.2.2.2.2.2.2.2.1 a0.2.1.1).bind fun p1=>some p1:=by kernel_rfl
noncomputable def FiHasLink_1v (k:Nat) (a0:I2) (a1:Int) (a2:Int):Option (Bool):=den E k 389 [.agg [vI a0.1,vI a0.2],.c (.at_ [vI a1]),.c (.at_ [vI a2])]
theorem eiHasLink_1v (k:Nat) (a0:I2) (a1:Int) (a2:Int):FiHasLink_1v (k+1) a0 a1 a2=if ((a0.1==a1)==true)=true then if ((a0.2==a2)==false)=true then if ((a0.1==a2)==true)=true then some (a0.2==a1) else some false else some true else if ((a0.1==a2)==true)=true then some (a0.2==a1) else some false:=by kernel_rfl
noncomputable def jy (k:Nat) (a0:List I2) (a1:Int) (a2:Int):Option (Int):=den E k 405 [.c (.l 348 sI2 a0),.c (.clo 389 [.at_ [vI a1],.at_ [vI a2]])]
abbrev wg:Type:=(List I2)×Int×Int×Int
abbrev j7:Type:=Int
def jc1 (c0:wg) (v0:j7):St:=⟨19,0,[(0,.c (.l 348 sI2 c0.1)),(1,.c (.clo 389 [.at_ [vI c0.2.1],.at_ [vI c0.2.2.1]])),(7,cI c0.2.2.2),(8,cI v0)],[]⟩
noncomputable def ze1 {R:Type} (k:Nat) (X0:j7→I2→Bool→Option R) (X1:j7→Option R) (c0:wg) (rec:j7→Option R) (v0:j7):Option R:=if (decide (v0<c0.2.2.2))=true then if 0≤v0 then ix c0.1 v0.toNat fun x1=>(FiHasLink_1v k x1 c0.2.1 c0.2.2.1).bind fun p2=>if p2=true then X0 v0 x1 p2 else rec (IntKind.i64.wrap (v0+1)) else none else X1 v0
noncomputable def vm {R:Type} (k:Nat) (X0:j7→I2→Bool→Option R) (X1:j7→Option R) (c:wg):Nat→j7→Option R
 | 0,_=>none
 | n+1,v=>ze1 k X0 X1 c (vm k X0 X1 c n) v
def j91 {R:Type} (K:Ex→St→Option R) (c0:wg) (v0:j7) (x1:I2) (p2:Bool):Option R:=K .ret ⟨19,0,[(0,.c (.l 348 sI2 c0.1)),(1,.c (.clo 389 [.at_ [vI c0.2.1],.at_ [vI c0.2.2.1]])),(4,cI v0),(5,cI v0),(7,cI c0.2.2.2),(8,cI v0),(9,cB (decide (v0<c0.2.2.2))),(10,cI v0),(11,.c (.clo 389 [.at_ [vI c0.2.1],.at_ [vI c0.2.2.1]])),(12,.c (.l 348 sI2 c0.1)),(13,cI v0),(14,.c (.at_ [vI x1.1,vI x1.2])),(15,.agg [vI x1.1,vI x1.2]),(16,cB p2),(17,cI v0)],[]⟩
def va1 {R:Type} (K:Ex→St→Option R) (c0:wg) (v0:j7):Option R:=K (.exit 0) ⟨19,0,[(0,.c (.l 348 sI2 c0.1)),(1,.c (.clo 389 [.at_ [vI c0.2.1],.at_ [vI c0.2.2.1]])),(7,cI c0.2.2.2),(8,cI v0),(9,cB (decide (v0<c0.2.2.2)))],[]⟩
theorem lgIndexFunc_Linkv_iHasLink_1_0 {R:Type} (k:Nat) (K:Ex→St→Option R) (c0:wg):∀(n:Nat) (v:j7),z2 [0,0,1,7,8] (run E (den E k) (lv 405) k (j1 Tryz.f405 0)) n (jc1 c0 v) K=vm k (j91 K c0) (va1 K c0) c0 n v:=j4 (B:=ze1 k (j91 K c0) (va1 K c0) c0) (fun _=>rfl) (fun n v=>by kernel_rfl) (fun _=>rfl) (fun _ _=>rfl)
theorem mgIndexFunc_Linkv_iHasLink_1_0 (k:Nat) (a0:List I2) (a1:Int) (a2:Int):jy (k+1) a0 a1 a2=z2 (R:=Int) [0,0,1,7,8] (run E (den E k) (lv 405) k (j1 Tryz.f405 0)) k (jc1 (a0,a1,a2,(a0.length:Int)) 0) (zb E (den E k) (lv 405) k (yd Tryz.f405) 0 [] (zd E (rs 405) Tryz.f405:Ex→St→Option (Int))):=by kernel_rfl
theorem egIndexFunc_Linkv_iHasLink_1 (k:Nat) (a0:List I2) (a1:Int) (a2:Int):jy (k+1) a0 a1 a2=vm k (fun (v0:Int) (x1:I2) (p2:Bool)=>some v0) (fun (v0:Int)=>some (-1)) (a0,a1,a2,(a0.length:Int)) k 0:=by
 rw [mgIndexFunc_Linkv_iHasLink_1_0]
 simp only [lgIndexFunc_Linkv_iHasLink_1_0]
 kernel_rfl
noncomputable def yu (k:Nat) (a0:List I2) (a1:Int) (a2:Int):Option (Bool):=den E k 388 [.c (.l 348 sI2 a0),.c (.clo 389 [.at_ [vI a1],.at_ [vI a2]])]
theorem egContainsFunc_Linkv_iHasLink_1 (k:Nat) (a0:List I2) (a1:Int) (a2:Int):yu (k+1) a0 a1 a2=(jy k a0 a1 a2).bind fun p1=>some (decide (p1≥0)):=by kernel_rfl
noncomputable def FiHasLink (k:Nat) (a0:j2) (a1:Int) (a2:Int) (a3:Int):Option (Bool):=den E k 353 [.agg (avs z7 a0),cI a1,cI a2,cI a3]
theorem eiHasLink (k:Nat) (a0:j2) (a1:Int) (a2:Int) (a3:Int):FiHasLink (k+1) a0 a1 a2 a3=(zn k a1 (a0.2.2.2.length:Int)).bind fun p1=>if (p1==true)=true then if 0≤a1 then ix a0.2.2.2 a1.toNat fun x2=>(yu k x2.2.1 a2 a3).bind fun p3=>some p3 else none else some false:=by kernel_rfl
noncomputable def FiPieceAt_1v (k:Nat) (a0:zf) (a1:Int):Option (Bool):=den E k 347 [.agg (avs wk a0),.c (.at_ [vI a1])]
theorem eiPieceAt_1v (k:Nat) (a0:zf) (a1:Int):FiPieceAt_1v (k+1) a0 a1=(FiInSpan k a0.1 a1).bind fun p1=>some p1:=by kernel_rfl
noncomputable def vx (k:Nat) (a0:List zf) (a1:Int):Option (Int):=den E k 346 [.c (.l 198 wk a0),.c (.clo 347 [.at_ [vI a1]])]
abbrev yg:Type:=(List zf)×Int×Int
abbrev j6:Type:=Int
def ya1 (c0:yg) (v0:j6):St:=⟨19,0,[(0,.c (.l 198 wk c0.1)),(1,.c (.clo 347 [.at_ [vI c0.2.1]])),(7,cI c0.2.2),(8,cI v0)],[]⟩
noncomputable def vd1 {R:Type} (k:Nat) (X0:j6→zf→Bool→Option R) (X1:j6→Option R) (c0:yg) (rec:j6→Option R) (v0:j6):Option R:=if (decide (v0<c0.2.2))=true then if 0≤v0 then ix c0.1 v0.toNat fun x1=>(FiPieceAt_1v k x1 c0.2.1).bind fun p2=>if p2=true then X0 v0 x1 p2 else rec (IntKind.i64.wrap (v0+1)) else none else X1 v0
noncomputable def xm {R:Type} (k:Nat) (X0:j6→zf→Bool→Option R) (X1:j6→Option R) (c:yg):Nat→j6→Option R
 | 0,_=>none
 | n+1,v=>vd1 k X0 X1 c (xm k X0 X1 c n) v
def x81 {R:Type} (K:Ex→St→Option R) (c0:yg) (v0:j6) (x1:zf) (p2:Bool):Option R:=K .ret ⟨19,0,[(0,.c (.l 198 wk c0.1)),(1,.c (.clo 347 [.at_ [vI c0.2.1]])),(4,cI v0),(5,cI v0),(7,cI c0.2.2),(8,cI v0),(9,cB (decide (v0<c0.2.2))),(10,cI v0),(11,.c (.clo 347 [.at_ [vI c0.2.1]])),(12,.c (.l 198 wk c0.1)),(13,cI v0),(14,.c (.at_ (avs wk x1))),(15,.agg (avs wk x1)),(16,cB p2),(17,cI v0)],[]⟩
def v81 {R:Type} (K:Ex→St→Option R) (c0:yg) (v0:j6):Option R:=K (.exit 0) ⟨19,0,[(0,.c (.l 198 wk c0.1)),(1,.c (.clo 347 [.at_ [vI c0.2.1]])),(7,cI c0.2.2),(8,cI v0),(9,cB (decide (v0<c0.2.2)))],[]⟩
theorem lgIndexFunc_Piecev_iPieceAt_1_0 {R:Type} (k:Nat) (K:Ex→St→Option R) (c0:yg):∀(n:Nat) (v:j6),z2 [0,0,1,7,8] (run E (den E k) (lv 346) k (j1 Tryz.f346 0)) n (ya1 c0 v) K=xm k (x81 K c0) (v81 K c0) c0 n v:=j4 (B:=vd1 k (x81 K c0) (v81 K c0) c0) (fun _=>rfl) (fun n v=>by kernel_rfl) (fun _=>rfl) (fun _ _=>rfl)
theorem mgIndexFunc_Piecev_iPieceAt_1_0 (k:Nat) (a0:List zf) (a1:Int):vx (k+1) a0 a1=z2 (R:=Int) [0,0,1,7,8] (run E (den E k) (lv 346) k (j1 Tryz.f346 0)) k (ya1 (a0,a1,(a0.length:Int)) 0) (zb E (den E k) (lv 346) k (yd Tryz.f346) 0 [] (zd E (rs 346) Tryz.f346:Ex→St→Option (Int))):=by kernel_rfl
theorem egIndexFunc_Piecev_iPieceAt_1 (k:Nat) (a0:List zf) (a1:Int):vx (k+1) a0 a1=xm k (fun (v0:Int) (x1:zf) (p2:Bool)=>some v0) (fun (v0:Int)=>some (-1)) (a0,a1,(a0.length:Int)) k 0:=by
 rw [mgIndexFunc_Piecev_iPieceAt_1_0]
 simp only [lgIndexFunc_Piecev_iPieceAt_1_0]
 kernel_rfl
noncomputable def FiPieceAt (k:Nat) (a0:j2) (a1:Int):Option (Int):=den E k 278 [.agg (avs z7 a0),cI a1]
theorem eiPieceAt (k:Nat) (a0:j2) (a1:Int):FiPieceAt (k+1) a0 a1=(vx k a0.2.2.2 a1).bind fun p1=>some p1:=by kernel_rfl
noncomputable def FiIsLinked (k:Nat) (a0:j2) (a1:Int) (a2:Int) (a3:Int):Option (Bool):=den E k 283 [.agg (avs z7 a0),cI a1,cI a2,cI a3]
theorem eiIsLinked (k:Nat) (a0:j2) (a1:Int) (a2:Int) (a3:Int):FiIsLinked (k+1) a0 a1 a2 a3=(FiPieceAt k a0 a3).bind fun p1=>(FiHasLink k a0 p1 a1 a2).bind fun p2=>some p2:=by kernel_rfl
noncomputable def FiisSkewed (k:Nat) (a0:j2) (a1:Int):Option (Bool):=den E k 282 [.agg (avs z7 a0),cI a1]
theorem eiisSkewed (k:Nat) (a0:j2) (a1:Int):FiisSkewed (k+1) a0 a1=(zl k a0.2.2.1 0 5).bind fun p1=>if (p1==true)=true then (zl k a1 0 1000).bind fun p2=>some p2 else some false:=by kernel_rfl
noncomputable def FiMayUse (k:Nat) (a0:j2) (a1:Int) (a2:Int) (a3:Int):Option (Bool):=den E k 206 [.agg (avs z7 a0),cI a1,cI a2,cI a3]
abbrev CiMayUse_0:Type:=Int×Int×Int×j2
abbrev jb1:Type:=Int
def StiMayUse_0 (c0:CiMayUse_0) (v0:jb1):St:=⟨32,1,[(1,cI c0.1),(2,cI c0.2.1),(3,cI c0.2.2.1),(4,cP 0),(9,cI v0)],[(0,.var (avs z7 c0.2.2.2))]⟩
noncomputable def BiMayUse_0 {R:Type} (k:Nat) (X0:jb1→Bool→Option R) (X1:jb1→Option R) (c0:CiMayUse_0) (rec:jb1→Option R) (v0:jb1):Option R:=if (decide (v0≤(IntKind.i64.wrap (c0.2.2.1+c0.2.2.2.2.2.1))))=true then (FiIsLinked k c0.2.2.2 c0.1 c0.2.1 v0).bind fun p2=>if (!p2)=true then X0 v0 p2 else rec (IntKind.i64.wrap (v0+1)) else X1 v0
noncomputable def LiMayUse_0 {R:Type} (k:Nat) (X0:jb1→Bool→Option R) (X1:jb1→Option R) (c:CiMayUse_0):Nat→jb1→Option R
 | 0,_=>none
 | n+1,v=>BiMayUse_0 k X0 X1 c (LiMayUse_0 k X0 X1 c n) v
def YiMayUse_0_0 {R:Type} (K:Ex→St→Option R) (c0:CiMayUse_0) (v0:jb1) (p2:Bool):Option R:=K .ret ⟨32,1,[(1,cI c0.1),(2,cI c0.2.1),(3,cI c0.2.2.1),(4,cP 0),(8,cB false),(9,cI v0),(18,cI v0),(19,cI c0.2.2.1),(20,.c (.ptr 0 2)),(21,cI c0.2.2.2.2.2.1),(22,cI (IntKind.i64.wrap (c0.2.2.1+c0.2.2.2.2.2.1))),(23,cB (decide (v0≤(IntKind.i64.wrap (c0.2.2.1+c0.2.2.2.2.2.1))))),(26,.agg (avs z7 c0.2.2.2)),(27,cI c0.1),(28,cI c0.2.1),(29,cI v0),(30,cB p2),(31,cB (!p2))],[(0,.var (avs z7 c0.2.2.2))]⟩
def YiMayUse_0_1 {R:Type} (K:Ex→St→Option R) (c0:CiMayUse_0) (v0:jb1):Option R:=K (.exit 0) ⟨32,1,[(1,cI c0.1),(2,cI c0.2.1),(3,cI c0.2.2.1),(4,cP 0),(9,cI v0),(18,cI v0),(19,cI c0.2.2.1),(20,.c (.ptr 0 2)),(21,cI c0.2.2.2.2.2.1),(22,cI (IntKind.i64.wrap (c0.2.2.1+c0.2.2.2.2.2.1))),(23,cB (decide (v0≤(IntKind.i64.wrap (c0.2.2.1+c0.2.2.2.2.2.1)))))],[(0,.var (avs z7 c0.2.2.2))]⟩
theorem liMayUse_0 {R:Type} (k:Nat) (K:Ex→St→Option R) (c0:CiMayUse_0):∀(n:Nat) (v:jb1),z2 [0,1,2,3,4,9] (run E (den E k) (lv 206) k (j1 Tryz.f206 0)) n (StiMayUse_0 c0 v) K=LiMayUse_0 k (YiMayUse_0_0 K c0) (YiMayUse_0_1 K c0) c0 n v:=j4 (B:=BiMayUse_0 k (YiMayUse_0_0 K c0) (YiMayUse_0_1 K c0) c0) (fun _=>rfl) (fun n v=>by kernel_rfl) (fun _=>rfl) (fun _ _=>rfl)
theorem miMayUse_0 (k:Nat) (a0:j2) (a1:Int) (a2:Int) (a3:Int):FiMayUse (k+1) a0 a1 a2 a3=(FiisSkewed k a0 a3).bind fun p1=>if (!p1)=true then some false else z2 (R:=Bool) [0,1,2,3,4,9] (run E (den E k) (lv 206) k (j1 Tryz.f206 0)) k (StiMayUse_0 (a1,a2,a3,a0) (IntKind.i64.wrap (a3-a0.2.2.1))) (zb E (den E k) (lv 206) k (yd Tryz.f206) 0 [] (zd E (rs 206) Tryz.f206:Ex→St→Option (Bool))):=by kernel_rfl
theorem eiMayUse (k:Nat) (a0:j2) (a1:Int) (a2:Int) (a3:Int):FiMayUse (k+1) a0 a1 a2 a3=(FiisSkewed k a0 a3).bind fun p1=>if (!p1)=true then some false else LiMayUse_0 k (fun (v0:Int) (p2:Bool)=>some false) (fun (v0:Int)=>some true) (a1,a2,a3,a0) k (IntKind.i64.wrap (a3-a0.2.2.1)):=by
 rw [miMayUse_0]
 simp only [liMayUse_0]
 kernel_rfl
noncomputable def FgIndex_int (k:Nat) (a0:List Int) (a1:Int):Option (Int):=den E k 344 [.c (.l 3 (.i .i64) a0),cI a1]
abbrev wl1:Type:=(List Int)×Int×Int
abbrev zr:Type:=Int
def StgIndex_int_0 (c0:wl1) (v0:zr):St:=⟨19,0,[(0,.c (.l 3 (.i .i64) c0.1)),(1,cI c0.2.1),(7,cI c0.2.2),(8,cI v0)],[]⟩
noncomputable def BgIndex_int_0 {R:Type} (k:Nat) (X0:zr→Int→Option R) (X1:zr→Option R) (c0:wl1) (rec:zr→Option R) (v0:zr):Option R:=if (decide (v0<c0.2.2))=true then if 0≤v0 then ix c0.1 v0.toNat fun x1=>if (c0.2.1==x1)=true then X0 v0 x1 else rec (IntKind.i64.wrap (v0+1)) else none else X1 v0
noncomputable def LgIndex_int_0 {R:Type} (k:Nat) (X0:zr→Int→Option R) (X1:zr→Option R) (c:wl1):Nat→zr→Option R
 | 0,_=>none
 | n+1,v=>BgIndex_int_0 k X0 X1 c (LgIndex_int_0 k X0 X1 c n) v
def YgIndex_int_0_0 {R:Type} (K:Ex→St→Option R) (c0:wl1) (v0:zr) (x1:Int):Option R:=K .ret ⟨19,0,[(0,.c (.l 3 (.i .i64) c0.1)),(1,cI c0.2.1),(4,cI v0),(5,cI v0),(7,cI c0.2.2),(8,cI v0),(9,cB (decide (v0<c0.2.2))),(10,cI v0),(11,cI c0.2.1),(12,.c (.l 3 (.i .i64) c0.1)),(13,cI v0),(14,.c (.at_ [vI x1])),(15,cI x1),(16,cB (c0.2.1==x1)),(17,cI v0)],[]⟩
def YgIndex_int_0_1 {R:Type} (K:Ex→St→Option R) (c0:wl1) (v0:zr):Option R:=K (.exit 0) ⟨19,0,[(0,.c (.l 3 (.i .i64) c0.1)),(1,cI c0.2.1),(7,cI c0.2.2),(8,cI v0),(9,cB (decide (v0<c0.2.2)))],[]⟩
theorem lgIndex_int_0 {R:Type} (k:Nat) (K:Ex→St→Option R) (c0:wl1):∀(n:Nat) (v:zr),z2 [0,0,1,7,8] (run E (den E k) (lv 344) k (j1 Tryz.f344 0)) n (StgIndex_int_0 c0 v) K=LgIndex_int_0 k (YgIndex_int_0_0 K c0) (YgIndex_int_0_1 K c0) c0 n v:=j4 (B:=BgIndex_int_0 k (YgIndex_int_0_0 K c0) (YgIndex_int_0_1 K c0) c0) (fun _=>rfl) (fun n v=>by kernel_rfl) (fun _=>rfl) (fun _ _=>rfl)
theorem mgIndex_int_0 (k:Nat) (a0:List Int) (a1:Int):FgIndex_int (k+1) a0 a1=z2 (R:=Int) [0,0,1,7,8] (run E (den E k) (lv 344) k (j1 Tryz.f344 0)) k (StgIndex_int_0 (a0,a1,(a0.length:Int)) 0) (zb E (den E k) (lv 344) k (yd Tryz.f344) 0 [] (zd E (rs 344) Tryz.f344:Ex→St→Option (Int))):=by kernel_rfl
theorem egIndex_int (k:Nat) (a0:List Int) (a1:Int):FgIndex_int (k+1) a0 a1=LgIndex_int_0 k (fun (v0:Int) (x1:Int)=>some v0) (fun (v0:Int)=>some (-1)) (a0,a1,(a0.length:Int)) k 0:=by
 rw [mgIndex_int_0]
 simp only [lgIndex_int_0]
 kernel_rfl
noncomputable def yh1 (k:Nat) (a0:List Int) (a1:Int):Option (Bool):=den E k 276 [.c (.l 3 (.i .i64) a0),cI a1]
theorem egContains_int (k:Nat) (a0:List Int) (a1:Int):yh1 (k+1) a0 a1=(FgIndex_int k a0 a1).bind fun p1=>some (decide (p1≥0)):=by kernel_rfl
noncomputable def FgisNaN_int_381 (k:Nat) (a0:Int):Option (Bool):=den E k 381 [cI a0]
theorem egisNaN_int_381 (k:Nat) (a0:Int):FgisNaN_int_381 (k+1) a0=some (a0 !=a0):=by kernel_rfl
noncomputable def FgCompare_int (k:Nat) (a0:Int) (a1:Int):Option (Int):=den E k 351 [cI a0,cI a1]
theorem egCompare_int (k:Nat) (a0:Int) (a1:Int):FgCompare_int (k+1) a0 a1=(FgisNaN_int_381 k a0).bind fun p1=>(FgisNaN_int_381 k a1).bind fun p2=>if p1=true then if p2=true then some 0 else some (-1) else if p2=true then some 1 else if (decide (a0<a1))=true then some (-1) else if (decide (a0>a1))=true then some 1 else some 0:=by kernel_rfl
noncomputable def FiAltsOf_1v (k:Nat) (a0:Int) (a1:Int) (a2:Int) (a3:List Int) (a4:List Int):Option (Int):=den E k 350 [cI a0,cI a1,.c (.at_ [vI a2,.l 3 (.i .i64) a3,.l 3 (.i .i64) a4])]
theorem eiAltsOf_1v (k:Nat) (a0:Int) (a1:Int) (a2:Int) (a3:List Int) (a4:List Int):FiAltsOf_1v (k+1) a0 a1 a2 a3 a4=if 0≤a0 then ix a3 a0.toNat fun x1=>if 0≤a1 then ix a3 a1.toNat fun x2=>(FgCompare_int k x1 x2).bind fun p3=>some p3 else none else none:=by kernel_rfl
noncomputable def yb (k:Nat) (a0:List Int) (a1:Int) (a2:Int) (a3:Int) (a4:List Int) (a5:List Int):Option (List Int):=den E k 403 [.c (.l 3 (.i .i64) a0),cI a1,cI a2,.c (.clo 350 [.at_ [vI a3,.l 3 (.i .i64) a4,.l 3 (.i .i64) a5]])]
abbrev xd:Type:=Int×Int×Int×(List Int)×(List Int)×Int
abbrev j3:Type:=Int×(List Int)
def wu (c1:xd) (v1:j3):St:=⟨53,1,[(0,.c (.ref 0)),(1,cI c1.1),(2,cI c1.2.1),(3,.c (.clo 350 [.at_ [vI c1.2.2.1,.l 3 (.i .i64) c1.2.2.2.1,.l 3 (.i .i64) c1.2.2.2.2.1]])),(8,cI c1.2.2.2.2.2),(9,cI v1.1)],[(0,.arr 3 (.i .i64) v1.2)]⟩
noncomputable def yv {R:Type} (k:Nat) (X0:j3→Int→Int→Int→Option R) (X1:j3→Option R) (c1:xd) (rec:j3→Option R) (v1:j3):Option R:=if ((decide (v1.1>c1.1))==true)=true then if 0≤v1.1 then if v1.1<(v1.2.length:Int) then ix v1.2 v1.1.toNat fun x1=>if 0≤(IntKind.i64.wrap (v1.1-1)) then if (IntKind.i64.wrap (v1.1-1))<(v1.2.length:Int) then ix v1.2 ((IntKind.i64.wrap (v1.1-1)).toNat) fun x2=>(FiAltsOf_1v k x1 x2 c1.2.2.1 c1.2.2.2.1 c1.2.2.2.2.1).bind fun p3=>if (decide (p3<0))=true then if 0≤(IntKind.i64.wrap (v1.1-1)) then if (IntKind.i64.wrap (v1.1-1))<(v1.2.length:Int) then ix v1.2 ((IntKind.i64.wrap (v1.1-1)).toNat) fun x4=>if 0≤v1.1 then if v1.1<(v1.2.length:Int) then ix v1.2 v1.1.toNat fun x5=>if 0≤v1.1 then if v1.1<(v1.2.length:Int) then ix v1.2 v1.1.toNat fun y6=>if 0≤(IntKind.i64.wrap (v1.1-1)) then if (IntKind.i64.wrap (v1.1-1))<((v1.2.set v1.1.toNat x4).length:Int) then ix (v1.2.set v1.1.toNat x4) ((IntKind.i64.wrap (v1.1-1)).toNat) fun y7=>rec ((IntKind.i64.wrap (v1.1-1)),((v1.2.set v1.1.toNat x4).set ((IntKind.i64.wrap (v1.1-1)).toNat) x5)) else none else none else none else none else none else none else none else none else X0 v1 x1 x2 p3 else none else none else none else none else X1 v1
noncomputable def yf {R:Type} (k:Nat) (X0:j3→Int→Int→Int→Option R) (X1:j3→Option R) (c:xd):Nat→j3→Option R
 | 0,_=>none
 | n+1,v=>yv k X0 X1 c (yf k X0 X1 c n) v
def zu {R:Type} (K:Ex→St→Option R) (c1:xd) (v1:j3) (x1:Int) (x2:Int) (p3:Int):Option R:=K (.exit 2) ⟨53,1,[(0,.c (.ref 0)),(1,cI c1.1),(2,cI c1.2.1),(3,.c (.clo 350 [.at_ [vI c1.2.2.1,.l 3 (.i .i64) c1.2.2.2.1,.l 3 (.i .i64) c1.2.2.2.2.1]])),(8,cI c1.2.2.2.2.2),(9,cI v1.1),(18,cI v1.1),(19,cI c1.1),(20,cB (decide (v1.1>c1.1))),(21,cB true),(22,.c (.clo 350 [.at_ [vI c1.2.2.1,.l 3 (.i .i64) c1.2.2.2.1,.l 3 (.i .i64) c1.2.2.2.2.1]])),(23,.c (.ref 0)),(24,cI v1.1),(25,.c (.el 0 1 v1.1.toNat 0)),(26,cI x1),(27,.c (.ref 0)),(28,cI v1.1),(29,cI (IntKind.i64.wrap (v1.1-1))),(30,.c (.el 0 1 ((IntKind.i64.wrap (v1.1-1)).toNat) 0)),(31,cI x2),(32,cI p3),(33,cB (decide (p3<0))),(34,cB (decide (p3<0)))],[(0,.arr 3 (.i .i64) v1.2)]⟩
def jt {R:Type} (K:Ex→St→Option R) (c1:xd) (v1:j3):Option R:=K (.exit 2) ⟨53,1,[(0,.c (.ref 0)),(1,cI c1.1),(2,cI c1.2.1),(3,.c (.clo 350 [.at_ [vI c1.2.2.1,.l 3 (.i .i64) c1.2.2.2.1,.l 3 (.i .i64) c1.2.2.2.2.1]])),(8,cI c1.2.2.2.2.2),(9,cI v1.1),(18,cI v1.1),(19,cI c1.1),(20,cB (decide (v1.1>c1.1))),(21,cB false),(22,.tup []),(23,.tup []),(24,.tup []),(25,.tup []),(26,.tup []),(27,.tup []),(28,.tup []),(29,.tup []),(30,.tup []),(31,.tup []),(32,.tup []),(33,.tup []),(34,cB false)],[(0,.arr 3 (.i .i64) v1.2)]⟩
theorem yk1 {R:Type} (k:Nat) (K:Ex→St→Option R) (c1:xd):∀(n:Nat) (v:j3),z2 [1,0,1,2,3,8,9] (run E (den E k) (lv 403) k (j1 Tryz.f403 1)) n (wu c1 v) K=yf k (zu K c1) (jt K c1) c1 n v:=j4 (B:=yv k (zu K c1) (jt K c1) c1) (fun _=>rfl) (fun n v=>by kernel_rfl) (fun _=>rfl) (fun _ _=>rfl)
abbrev wc:Type:=Int×Int×Int×(List Int)×(List Int)
abbrev j5:Type:=Int×(List Int)
def ye (c0:wc) (v0:j5):St:=⟨53,1,[(0,.c (.ref 0)),(1,cI c0.1),(2,cI c0.2.1),(3,.c (.clo 350 [.at_ (avs y9 c0.2.2)])),(8,cI v0.1)],[(0,.arr 3 (.i .i64) v0.2)]⟩
noncomputable def jl {R:Type} (k:Nat) (X0:j5→Option R) (c0:wc) (rec:j5→Option R) (v0:j5):Option R:=if (decide (v0.1<c0.2.1))=true then yf k (fun (v1:Int×(List Int)) (x1:Int) (x2:Int) (p3:Int)=>rec ((IntKind.i64.wrap (v0.1+1)),v1.2)) (fun (v1:Int×(List Int))=>rec ((IntKind.i64.wrap (v0.1+1)),v1.2)) (c0.1,c0.2.1,c0.2.2.1,c0.2.2.2.1,c0.2.2.2.2,v0.1) k v0 else X0 v0
noncomputable def xc {R:Type} (k:Nat) (X0:j5→Option R) (c:wc):Nat→j5→Option R
 | 0,_=>none
 | n+1,v=>jl k X0 c (xc k X0 c n) v
def jk {R:Type} (K:Ex→St→Option R) (c0:wc) (v0:j5):Option R:=K (.exit 0) ⟨53,1,[(0,.c (.ref 0)),(1,cI c0.1),(2,cI c0.2.1),(3,.c (.clo 350 [.at_ (avs y9 c0.2.2)])),(8,cI v0.1),(12,cI v0.1),(13,cI c0.2.1),(14,cB (decide (v0.1<c0.2.1)))],[(0,.arr 3 (.i .i64) v0.2)]⟩
theorem xg1 {R:Type} (k n:Nat) (K:Ex→St→Option R) (c0:wc) (v0:j5):z2 [1,0,1,2,3,8] (run E (den E k) (lv 403) k (j1 Tryz.f403 0)) (n+1) (ye c0 v0) K=if (decide (v0.1<c0.2.1))=true then z2 [1,0,1,2,3,8,9] (run E (den E k) (lv 403) k (j1 Tryz.f403 1)) k (wu (c0.1,c0.2.1,c0.2.2.1,c0.2.2.2.1,c0.2.2.2.2,v0.1) v0) (zb E (den E k) (lv 403) k (.loop (j1 Tryz.f403 0)) (1-0) [(n,[1,0,1,2,3,8])] K) else K (.exit 0) ⟨53,1,[(0,.c (.ref 0)),(1,cI c0.1),(2,cI c0.2.1),(3,.c (.clo 350 [.at_ (avs y9 c0.2.2)])),(8,cI v0.1),(12,cI v0.1),(13,cI c0.2.1),(14,cB (decide (v0.1<c0.2.1)))],[(0,.arr 3 (.i .i64) v0.2)]⟩:=by kernel_rfl
theorem yl1 {R:Type} (k n:Nat) (K:Ex→St→Option R) (c0:wc) (v:j5):z2 [1,0,1,2,3,8] (run E (den E k) (lv 403) k (j1 Tryz.f403 0)) (n+1) (ye c0 v) K=jl k (jk K c0) c0 (fun v=>z2 [1,0,1,2,3,8] (run E (den E k) (lv 403) k (j1 Tryz.f403 0)) n (ye c0 v) K) v:=by
 rw [xg1]
 simp only [yk1]
 kernel_rfl
theorem zi1 {R:Type} (k:Nat) (K:Ex→St→Option R) (c0:wc):∀(n:Nat) (v:j5),z2 [1,0,1,2,3,8] (run E (den E k) (lv 403) k (j1 Tryz.f403 0)) n (ye c0 v) K=xc k (jk K c0) c0 n v:=j4 (B:=jl k (jk K c0) c0) (fun _=>rfl) (fun n v=>yl1 k n K c0 v) (fun _=>rfl) (fun _ _=>rfl)
theorem jh1 (k:Nat) (a0:List Int) (a1:Int) (a2:Int) (a3:Int) (a4:List Int) (a5:List Int):yb (k+1) a0 a1 a2 a3 a4 a5=z2 (R:=List Int) [1,0,1,2,3,8] (run E (den E k) (lv 403) k (j1 Tryz.f403 0)) k (ye (a1,a2,a3,a4,a5) ((IntKind.i64.wrap (a1+1)),a0)) (zb E (den E k) (lv 403) k (yd Tryz.f403) 0 [] (zd E (rs 403) Tryz.f403:Ex→St→Option (List Int))):=by kernel_rfl
theorem xo1 (k:Nat) (a0:List Int) (a1:Int) (a2:Int) (a3:Int) (a4:List Int) (a5:List Int):yb (k+1) a0 a1 a2 a3 a4 a5=xc k (fun (v0:Int×(List Int))=>some v0.2) (a1,a2,a3,a4,a5) k ((IntKind.i64.wrap (a1+1)),a0):=by
 rw [jh1]
 simp only [zi1]
 kernel_rfl
noncomputable def vd (k:Nat) (a0:List Int) (a1:Int) (a2:Int) (a3:Int) (a4:Int) (a5:List Int) (a6:List Int):Option (List Int):=den E k 416 [.c (.l 3 (.i .i64) a0),cI a1,cI a2,cI a3,.c (.clo 350 [.at_ [vI a4,.l 3 (.i .i64) a5,.l 3 (.i .i64) a6]])]
abbrev xg:Type:=Int×Int×Int
abbrev v8:Type:=Int×(List Int)
def wz (c0:xg) (v0:v8):St:=⟨38,1,[(0,.c (.ref 0)),(1,cI c0.1),(2,cI c0.2.1),(3,cI c0.2.2),(10,cI v0.1)],[(0,.arr 3 (.i .i64) v0.2)]⟩
noncomputable def y21 {R:Type} (k:Nat) (X0:v8→Option R) (c0:xg) (rec:v8→Option R) (v0:v8):Option R:=if (decide (v0.1<c0.2.2))=true then if 0≤(IntKind.i64.wrap (c0.2.1+v0.1)) then if (IntKind.i64.wrap (c0.2.1+v0.1))<(v0.2.length:Int) then ix v0.2 ((IntKind.i64.wrap (c0.2.1+v0.1)).toNat) fun x1=>if 0≤(IntKind.i64.wrap (c0.1+v0.1)) then if (IntKind.i64.wrap (c0.1+v0.1))<(v0.2.length:Int) then ix v0.2 ((IntKind.i64.wrap (c0.1+v0.1)).toNat) fun x2=>if 0≤(IntKind.i64.wrap (c0.1+v0.1)) then if (IntKind.i64.wrap (c0.1+v0.1))<(v0.2.length:Int) then ix v0.2 ((IntKind.i64.wrap (c0.1+v0.1)).toNat) fun y3=>if 0≤(IntKind.i64.wrap (c0.2.1+v0.1)) then if (IntKind.i64.wrap (c0.2.1+v0.1))<((v0.2.set ((IntKind.i64.wrap (c0.1+v0.1)).toNat) x1).length:Int) then ix (v0.2.set ((IntKind.i64.wrap (c0.1+v0.1)).toNat) x1) ((IntKind.i64.wrap (c0.2.1+v0.1)).toNat) fun y4=>rec ((IntKind.i64.wrap (v0.1+1)),((v0.2.set ((IntKind.i64.wrap (c0.1+v0.1)).toNat) x1).set ((IntKind.i64.wrap (c0.2.1+v0.1)).toNat) x2)) else none else none else none else none else none else none else none else none else X0 v0
noncomputable def yk {R:Type} (k:Nat) (X0:v8→Option R) (c:xg):Nat→v8→Option R
 | 0,_=>none
 | n+1,v=>y21 k X0 c (yk k X0 c n) v
def yy {R:Type} (K:Ex→St→Option R) (c0:xg) (v0:v8):Option R:=K (.exit 0) ⟨38,1,[(0,.c (.ref 0)),(1,cI c0.1),(2,cI c0.2.1),(3,cI c0.2.2),(10,cI v0.1),(11,cI v0.1),(12,cI c0.2.2),(13,cB (decide (v0.1<c0.2.2)))],[(0,.arr 3 (.i .i64) v0.2)]⟩
theorem xr1 {R:Type} (k:Nat) (K:Ex→St→Option R) (c0:xg):∀(n:Nat) (v:v8),z2 [1,0,1,2,3,10] (run E (den E k) (lv 416) k (j1 Tryz.f416 0)) n (wz c0 v) K=yk k (yy K c0) c0 n v:=j4 (B:=y21 k (yy K c0) c0) (fun _=>rfl) (fun n v=>by kernel_rfl) (fun _=>rfl) (fun _ _=>rfl)
theorem wq1 (k:Nat) (a0:List Int) (a1:Int) (a2:Int) (a3:Int) (a4:Int) (a5:List Int) (a6:List Int):vd (k+1) a0 a1 a2 a3 a4 a5 a6=z2 (R:=List Int) [1,0,1,2,3,10] (run E (den E k) (lv 416) k (j1 Tryz.f416 0)) k (wz (a1,a2,a3) (0,a0)) (zb E (den E k) (lv 416) k (yd Tryz.f416) 0 [] (zd E (rs 416) Tryz.f416:Ex→St→Option (List Int))):=by kernel_rfl
theorem ww1 (k:Nat) (a0:List Int) (a1:Int) (a2:Int) (a3:Int) (a4:Int) (a5:List Int) (a6:List Int):vd (k+1) a0 a1 a2 a3 a4 a5 a6=yk k (fun (v0:Int×(List Int))=>some v0.2) (a1,a2,a3) k (0,a0):=by
 rw [wq1]
 simp only [xr1]
 kernel_rfl
noncomputable def wd (k:Nat) (a0:List Int) (a1:Int) (a2:Int) (a3:Int) (a4:Int) (a5:List Int) (a6:List Int):Option (List Int):=den E k 415 [.c (.l 3 (.i .i64) a0),cI a1,cI a2,cI a3,.c (.clo 350 [.at_ [vI a4,.l 3 (.i .i64) a5,.l 3 (.i .i64) a6]])]
abbrev ji:Type:=Int×Int×(List Int)×(List Int)
abbrev zc:Type:=Int×Int×(List Int)
def j71 (c0:ji) (v0:zc):St:=⟨58,1,[(0,.c (.ref 0)),(2,cI c0.1),(4,.c (.clo 350 [.at_ (avs y9 c0.2)])),(10,cI v0.1),(11,cI v0.2.1)],[(0,.arr 3 (.i .i64) v0.2.2)]⟩
noncomputable def wa1 {R:Type} (k:Nat) (X0:zc→Option R) (c0:ji) (rec:zc→Option R) (v0:zc):Option R:=if (v0.1 !=v0.2.1)=true then if (decide (v0.1>v0.2.1))=true then (vd k v0.2.2 (IntKind.i64.wrap (c0.1-v0.1)) c0.1 v0.2.1 c0.2.1 c0.2.2.1 c0.2.2.2).bind fun p1=>rec ((IntKind.i64.wrap (v0.1-v0.2.1)),v0.2.1,p1) else (vd k v0.2.2 (IntKind.i64.wrap (c0.1-v0.1)) (IntKind.i64.wrap ((IntKind.i64.wrap (c0.1+v0.2.1))-v0.1)) v0.1 c0.2.1 c0.2.2.1 c0.2.2.2).bind fun p2=>rec (v0.1,(IntKind.i64.wrap (v0.2.1-v0.1)),p2) else X0 v0
noncomputable def yl {R:Type} (k:Nat) (X0:zc→Option R) (c:ji):Nat→zc→Option R
 | 0,_=>none
 | n+1,v=>wa1 k X0 c (yl k X0 c n) v
def x61 {R:Type} (K:Ex→St→Option R) (c0:ji) (v0:zc):Option R:=K (.exit 0) ⟨58,1,[(0,.c (.ref 0)),(2,cI c0.1),(4,.c (.clo 350 [.at_ (avs y9 c0.2)])),(10,cI v0.1),(11,cI v0.2.1),(18,cI v0.1),(19,cI v0.2.1),(20,cB (v0.1 !=v0.2.1))],[(0,.arr 3 (.i .i64) v0.2.2)]⟩
theorem lgrotateCmpFunc_intv_iAltsOf_1_0 {R:Type} (k:Nat) (K:Ex→St→Option R) (c0:ji):∀(n:Nat) (v:zc),z2 [1,0,2,4,10,11] (run E (den E k) (lv 415) k (j1 Tryz.f415 0)) n (j71 c0 v) K=yl k (x61 K c0) c0 n v:=j4 (B:=wa1 k (x61 K c0) c0) (fun _=>rfl) (fun n v=>by kernel_rfl) (fun _=>rfl) (fun _ _=>rfl)
theorem mgrotateCmpFunc_intv_iAltsOf_1_0 (k:Nat) (a0:List Int) (a1:Int) (a2:Int) (a3:Int) (a4:Int) (a5:List Int) (a6:List Int):wd (k+1) a0 a1 a2 a3 a4 a5 a6=z2 (R:=List Int) [1,0,2,4,10,11] (run E (den E k) (lv 415) k (j1 Tryz.f415 0)) k (j71 (a2,a4,a5,a6) ((IntKind.i64.wrap (a2-a1)),(IntKind.i64.wrap (a3-a2)),a0)) (zb E (den E k) (lv 415) k (yd Tryz.f415) 0 [] (zd E (rs 415) Tryz.f415:Ex→St→Option (List Int))):=by kernel_rfl
theorem egrotateCmpFunc_intv_iAltsOf_1 (k:Nat) (a0:List Int) (a1:Int) (a2:Int) (a3:Int) (a4:Int) (a5:List Int) (a6:List Int):wd (k+1) a0 a1 a2 a3 a4 a5 a6=yl k (fun (v0:Int×Int×(List Int))=>(vd k v0.2.2 (IntKind.i64.wrap (a2-v0.1)) a2 v0.1 a4 a5 a6).bind fun p1=>some p1) (a2,a4,a5,a6) k ((IntKind.i64.wrap (a2-a1)),(IntKind.i64.wrap (a3-a2)),a0):=by
 rw [mgrotateCmpFunc_intv_iAltsOf_1_0]
 simp only [lgrotateCmpFunc_intv_iAltsOf_1_0]
 kernel_rfl
noncomputable def j0 (k:Nat) (a0:List Int) (a1:Int) (a2:Int) (a3:Int) (a4:Int) (a5:List Int) (a6:List Int):Option (List Int):=den E k 404 [.c (.l 3 (.i .i64) a0),cI a1,cI a2,cI a3,.c (.clo 350 [.at_ [vI a4,.l 3 (.i .i64) a5,.l 3 (.i .i64) a6]])]
abbrev xh:Type:=Int×Int×Int×Int×(List Int)×(List Int)×Int×Int×Int×(List Int)
abbrev za:Type:=Int×Int
def jo (c4:xh) (v4:za):St:=⟨220,1,[(0,.c (.ref 0)),(1,cI c4.1),(2,cI c4.2.1),(3,cI c4.2.2.1),(4,.c (.clo 350 [.at_ [vI c4.2.2.2.1,.l 3 (.i .i64) c4.2.2.2.2.1,.l 3 (.i .i64) c4.2.2.2.2.2.1]])),(18,cI c4.2.2.2.2.2.2.1),(19,cI c4.2.2.2.2.2.2.2.1),(20,cI v4.1),(21,cI v4.2),(22,cI c4.2.2.2.2.2.2.2.2.1)],[(0,.arr 3 (.i .i64) c4.2.2.2.2.2.2.2.2.2)]⟩
noncomputable def w51 {R:Type} (k:Nat) (X0:za→Option R) (c4:xh) (rec:za→Option R) (v4:za):Option R:=if (decide (v4.1<v4.2))=true then if 0≤(IntKind.i64.wrap (c4.2.2.2.2.2.2.2.2.1-(IntKind.i64.wrap (((IntKind.u64.wrap (IntKind.i64.wrap (v4.1+v4.2)))).fdiv (2^(min (1:Int).toNat IntKind.u64.bits)))))) then if (IntKind.i64.wrap (c4.2.2.2.2.2.2.2.2.1-(IntKind.i64.wrap (((IntKind.u64.wrap (IntKind.i64.wrap (v4.1+v4.2)))).fdiv (2^(min (1:Int).toNat IntKind.u64.bits))))))<(c4.2.2.2.2.2.2.2.2.2.length:Int) then ix c4.2.2.2.2.2.2.2.2.2 ((IntKind.i64.wrap (c4.2.2.2.2.2.2.2.2.1-(IntKind.i64.wrap (((IntKind.u64.wrap (IntKind.i64.wrap (v4.1+v4.2)))).fdiv (2^(min (1:Int).toNat IntKind.u64.bits)))))).toNat) fun x7=>if 0≤(IntKind.i64.wrap (((IntKind.u64.wrap (IntKind.i64.wrap (v4.1+v4.2)))).fdiv (2^(min (1:Int).toNat IntKind.u64.bits)))) then if (IntKind.i64.wrap (((IntKind.u64.wrap (IntKind.i64.wrap (v4.1+v4.2)))).fdiv (2^(min (1:Int).toNat IntKind.u64.bits))))<(c4.2.2.2.2.2.2.2.2.2.length:Int) then ix c4.2.2.2.2.2.2.2.2.2 ((IntKind.i64.wrap (((IntKind.u64.wrap (IntKind.i64.wrap (v4.1+v4.2)))).fdiv (2^(min (1:Int).toNat IntKind.u64.bits)))).toNat) fun x8=>(FiAltsOf_1v k x7 x8 c4.2.2.2.1 c4.2.2.2.2.1 c4.2.2.2.2.2.1).bind fun p9=>if (!(decide (p9<0)))=true then rec ((IntKind.i64.wrap ((IntKind.i64.wrap (((IntKind.u64.wrap (IntKind.i64.wrap (v4.1+v4.2)))).fdiv (2^(min (1:Int).toNat IntKind.u64.bits))))+1)),v4.2) else rec (v4.1,(IntKind.i64.wrap (((IntKind.u64.wrap (IntKind.i64.wrap (v4.1+v4.2)))).fdiv (2^(min (1:Int).toNat IntKind.u64.bits))))) else none else none else none else none else X0 v4
noncomputable def v6 {R:Type} (k:Nat) (X0:za→Option R) (c:xh):Nat→za→Option R
 | 0,_=>none
 | n+1,v=>w51 k X0 c (v6 k X0 c n) v
def z01 {R:Type} (K:Ex→St→Option R) (c4:xh) (v4:za):Option R:=K (.exit 8) ⟨220,1,[(0,.c (.ref 0)),(1,cI c4.1),(2,cI c4.2.1),(3,cI c4.2.2.1),(4,.c (.clo 350 [.at_ [vI c4.2.2.2.1,.l 3 (.i .i64) c4.2.2.2.2.1,.l 3 (.i .i64) c4.2.2.2.2.2.1]])),(18,cI c4.2.2.2.2.2.2.1),(19,cI c4.2.2.2.2.2.2.2.1),(20,cI v4.1),(21,cI v4.2),(22,cI c4.2.2.2.2.2.2.2.2.1),(149,cI v4.1),(150,cI v4.2),(151,cB (decide (v4.1<v4.2)))],[(0,.arr 3 (.i .i64) c4.2.2.2.2.2.2.2.2.2)]⟩
theorem xv1 {R:Type} (k:Nat) (K:Ex→St→Option R) (c4:xh):∀(n:Nat) (v:za),z2 [1,0,1,2,3,4,18,19,20,21,22] (run E (den E k) (lv 404) k (j1 Tryz.f404 4)) n (jo c4 v) K=v6 k (z01 K c4) c4 n v:=j4 (B:=w51 k (z01 K c4) c4) (fun _=>rfl) (fun n v=>by kernel_rfl) (fun _=>rfl) (fun _ _=>rfl)
abbrev wh:Type:=Int×Int×Int×Int×(List Int)×(List Int)×Int×Int
abbrev xa:Type:=Int×(List Int)
def j11 (c3:wh) (v3:xa):St:=⟨220,1,[(0,.c (.ref 0)),(1,cI c3.1),(2,cI c3.2.1),(3,cI c3.2.2.1),(4,.c (.clo 350 [.at_ [vI c3.2.2.2.1,.l 3 (.i .i64) c3.2.2.2.2.1,.l 3 (.i .i64) c3.2.2.2.2.2.1]])),(14,cI c3.2.2.2.2.2.2.1),(15,cI c3.2.2.2.2.2.2.2),(17,cI v3.1)],[(0,.arr 3 (.i .i64) v3.2)]⟩
noncomputable def z51 {R:Type} (k:Nat) (X0:xa→Option R) (c3:wh) (rec:xa→Option R) (v3:xa):Option R:=if (decide (v3.1>c3.2.2.2.2.2.2.1))=true then if 0≤(IntKind.i64.wrap (v3.1-1)) then if (IntKind.i64.wrap (v3.1-1))<(v3.2.length:Int) then ix v3.2 ((IntKind.i64.wrap (v3.1-1)).toNat) fun x5=>if 0≤v3.1 then if v3.1<(v3.2.length:Int) then ix v3.2 v3.1.toNat fun x6=>if 0≤v3.1 then if v3.1<(v3.2.length:Int) then ix v3.2 v3.1.toNat fun y7=>if 0≤(IntKind.i64.wrap (v3.1-1)) then if (IntKind.i64.wrap (v3.1-1))<((v3.2.set v3.1.toNat x5).length:Int) then ix (v3.2.set v3.1.toNat x5) ((IntKind.i64.wrap (v3.1-1)).toNat) fun y8=>rec ((IntKind.i64.wrap (v3.1-1)),((v3.2.set v3.1.toNat x5).set ((IntKind.i64.wrap (v3.1-1)).toNat) x6)) else none else none else none else none else none else none else none else none else X0 v3
noncomputable def vg {R:Type} (k:Nat) (X0:xa→Option R) (c:wh):Nat→xa→Option R
 | 0,_=>none
 | n+1,v=>z51 k X0 c (vg k X0 c n) v
def y01 {R:Type} (K:Ex→St→Option R) (c3:wh) (v3:xa):Option R:=K (.exit 6) ⟨220,1,[(0,.c (.ref 0)),(1,cI c3.1),(2,cI c3.2.1),(3,cI c3.2.2.1),(4,.c (.clo 350 [.at_ [vI c3.2.2.2.1,.l 3 (.i .i64) c3.2.2.2.2.1,.l 3 (.i .i64) c3.2.2.2.2.2.1]])),(14,cI c3.2.2.2.2.2.2.1),(15,cI c3.2.2.2.2.2.2.2),(17,cI v3.1),(108,cI v3.1),(109,cI c3.2.2.2.2.2.2.1),(110,cB (decide (v3.1>c3.2.2.2.2.2.2.1)))],[(0,.arr 3 (.i .i64) v3.2)]⟩
theorem zw1 {R:Type} (k:Nat) (K:Ex→St→Option R) (c3:wh):∀(n:Nat) (v:xa),z2 [1,0,1,2,3,4,14,15,17] (run E (den E k) (lv 404) k (j1 Tryz.f404 3)) n (j11 c3 v) K=vg k (y01 K c3) c3 n v:=j4 (B:=z51 k (y01 K c3) c3) (fun _=>rfl) (fun n v=>by kernel_rfl) (fun _=>rfl) (fun _ _=>rfl)
abbrev vh:Type:=Int×Int×Int×Int×(List Int)×(List Int)×(List Int)
abbrev ya:Type:=Int×Int
def j21 (c2:vh) (v2:ya):St:=⟨220,1,[(0,.c (.ref 0)),(1,cI c2.1),(2,cI c2.2.1),(3,cI c2.2.2.1),(4,.c (.clo 350 [.at_ [vI c2.2.2.2.1,.l 3 (.i .i64) c2.2.2.2.2.1,.l 3 (.i .i64) c2.2.2.2.2.2.1]])),(14,cI v2.1),(15,cI v2.2)],[(0,.arr 3 (.i .i64) c2.2.2.2.2.2.2)]⟩
noncomputable def v51 {R:Type} (k:Nat) (X0:ya→Option R) (c2:vh) (rec:ya→Option R) (v2:ya):Option R:=if (decide (v2.1<v2.2))=true then if 0≤c2.2.1 then if c2.2.1<(c2.2.2.2.2.2.2.length:Int) then ix c2.2.2.2.2.2.2 c2.2.1.toNat fun x4=>if 0≤(IntKind.i64.wrap (((IntKind.u64.wrap (IntKind.i64.wrap (v2.1+v2.2)))).fdiv (2^(min (1:Int).toNat IntKind.u64.bits)))) then if (IntKind.i64.wrap (((IntKind.u64.wrap (IntKind.i64.wrap (v2.1+v2.2)))).fdiv (2^(min (1:Int).toNat IntKind.u64.bits))))<(c2.2.2.2.2.2.2.length:Int) then ix c2.2.2.2.2.2.2 ((IntKind.i64.wrap (((IntKind.u64.wrap (IntKind.i64.wrap (v2.1+v2.2)))).fdiv (2^(min (1:Int).toNat IntKind.u64.bits)))).toNat) fun x5=>(FiAltsOf_1v k x4 x5 c2.2.2.2.1 c2.2.2.2.2.1 c2.2.2.2.2.2.1).bind fun p6=>if (!(decide (p6<0)))=true then rec ((IntKind.i64.wrap ((IntKind.i64.wrap (((IntKind.u64.wrap (IntKind.i64.wrap (v2.1+v2.2)))).fdiv (2^(min (1:Int).toNat IntKind.u64.bits))))+1)),v2.2) else rec (v2.1,(IntKind.i64.wrap (((IntKind.u64.wrap (IntKind.i64.wrap (v2.1+v2.2)))).fdiv (2^(min (1:Int).toNat IntKind.u64.bits))))) else none else none else none else none else X0 v2
noncomputable def ve {R:Type} (k:Nat) (X0:ya→Option R) (c:vh):Nat→ya→Option R
 | 0,_=>none
 | n+1,v=>v51 k X0 c (ve k X0 c n) v
def jz {R:Type} (K:Ex→St→Option R) (c2:vh) (v2:ya):Option R:=K (.exit 4) ⟨220,1,[(0,.c (.ref 0)),(1,cI c2.1),(2,cI c2.2.1),(3,cI c2.2.2.1),(4,.c (.clo 350 [.at_ [vI c2.2.2.2.1,.l 3 (.i .i64) c2.2.2.2.2.1,.l 3 (.i .i64) c2.2.2.2.2.2.1]])),(14,cI v2.1),(15,cI v2.2),(83,cI v2.1),(84,cI v2.2),(85,cB (decide (v2.1<v2.2)))],[(0,.arr 3 (.i .i64) c2.2.2.2.2.2.2)]⟩
theorem yw1 {R:Type} (k:Nat) (K:Ex→St→Option R) (c2:vh):∀(n:Nat) (v:ya),z2 [1,0,1,2,3,4,14,15] (run E (den E k) (lv 404) k (j1 Tryz.f404 2)) n (j21 c2 v) K=ve k (jz K c2) c2 n v:=j4 (B:=v51 k (jz K c2) c2) (fun _=>rfl) (fun n v=>by kernel_rfl) (fun _=>rfl) (fun _ _=>rfl)
abbrev zh:Type:=Int×Int×Int×Int×(List Int)×(List Int)×Int×Int
abbrev j9:Type:=Int×(List Int)
def w41 (c1:zh) (v1:j9):St:=⟨220,1,[(0,.c (.ref 0)),(1,cI c1.1),(2,cI c1.2.1),(3,cI c1.2.2.1),(4,.c (.clo 350 [.at_ [vI c1.2.2.2.1,.l 3 (.i .i64) c1.2.2.2.2.1,.l 3 (.i .i64) c1.2.2.2.2.2.1]])),(10,cI c1.2.2.2.2.2.2.1),(11,cI c1.2.2.2.2.2.2.2),(13,cI v1.1)],[(0,.arr 3 (.i .i64) v1.2)]⟩
noncomputable def x51 {R:Type} (k:Nat) (X0:j9→Option R) (c1:zh) (rec:j9→Option R) (v1:j9):Option R:=if (decide (v1.1<(IntKind.i64.wrap (c1.2.2.2.2.2.2.1-1))))=true then if 0≤(IntKind.i64.wrap (v1.1+1)) then if (IntKind.i64.wrap (v1.1+1))<(v1.2.length:Int) then ix v1.2 ((IntKind.i64.wrap (v1.1+1)).toNat) fun x1=>if 0≤v1.1 then if v1.1<(v1.2.length:Int) then ix v1.2 v1.1.toNat fun x2=>if 0≤v1.1 then if v1.1<(v1.2.length:Int) then ix v1.2 v1.1.toNat fun y3=>if 0≤(IntKind.i64.wrap (v1.1+1)) then if (IntKind.i64.wrap (v1.1+1))<((v1.2.set v1.1.toNat x1).length:Int) then ix (v1.2.set v1.1.toNat x1) ((IntKind.i64.wrap (v1.1+1)).toNat) fun y4=>rec ((IntKind.i64.wrap (v1.1+1)),((v1.2.set v1.1.toNat x1).set ((IntKind.i64.wrap (v1.1+1)).toNat) x2)) else none else none else none else none else none else none else none else none else X0 v1
noncomputable def jg {R:Type} (k:Nat) (X0:j9→Option R) (c:zh):Nat→j9→Option R
 | 0,_=>none
 | n+1,v=>x51 k X0 c (jg k X0 c n) v
def vz {R:Type} (K:Ex→St→Option R) (c1:zh) (v1:j9):Option R:=K (.exit 2) ⟨220,1,[(0,.c (.ref 0)),(1,cI c1.1),(2,cI c1.2.1),(3,cI c1.2.2.1),(4,.c (.clo 350 [.at_ [vI c1.2.2.2.1,.l 3 (.i .i64) c1.2.2.2.2.1,.l 3 (.i .i64) c1.2.2.2.2.2.1]])),(10,cI c1.2.2.2.2.2.2.1),(11,cI c1.2.2.2.2.2.2.2),(13,cI v1.1),(55,cI v1.1),(56,cI c1.2.2.2.2.2.2.1),(57,cI (IntKind.i64.wrap (c1.2.2.2.2.2.2.1-1))),(58,cB (decide (v1.1<(IntKind.i64.wrap (c1.2.2.2.2.2.2.1-1)))))],[(0,.arr 3 (.i .i64) v1.2)]⟩
theorem yv1 {R:Type} (k:Nat) (K:Ex→St→Option R) (c1:zh):∀(n:Nat) (v:j9),z2 [1,0,1,2,3,4,10,11,13] (run E (den E k) (lv 404) k (j1 Tryz.f404 1)) n (w41 c1 v) K=jg k (vz K c1) c1 n v:=j4 (B:=x51 k (vz K c1) c1) (fun _=>rfl) (fun n v=>by kernel_rfl) (fun _=>rfl) (fun _ _=>rfl)
abbrev yh:Type:=Int×Int×Int×Int×(List Int)×(List Int)×(List Int)
abbrev va:Type:=Int×Int
def y41 (c0:yh) (v0:va):St:=⟨220,1,[(0,.c (.ref 0)),(1,cI c0.1),(2,cI c0.2.1),(3,cI c0.2.2.1),(4,.c (.clo 350 [.at_ [vI c0.2.2.2.1,.l 3 (.i .i64) c0.2.2.2.2.1,.l 3 (.i .i64) c0.2.2.2.2.2.1]])),(10,cI v0.1),(11,cI v0.2)],[(0,.arr 3 (.i .i64) c0.2.2.2.2.2.2)]⟩
noncomputable def z61 {R:Type} (k:Nat) (X0:va→Option R) (c0:yh) (rec:va→Option R) (v0:va):Option R:=if (decide (v0.1<v0.2))=true then if 0≤(IntKind.i64.wrap (((IntKind.u64.wrap (IntKind.i64.wrap (v0.1+v0.2)))).fdiv (2^(min (1:Int).toNat IntKind.u64.bits)))) then if (IntKind.i64.wrap (((IntKind.u64.wrap (IntKind.i64.wrap (v0.1+v0.2)))).fdiv (2^(min (1:Int).toNat IntKind.u64.bits))))<(c0.2.2.2.2.2.2.length:Int) then ix c0.2.2.2.2.2.2 ((IntKind.i64.wrap (((IntKind.u64.wrap (IntKind.i64.wrap (v0.1+v0.2)))).fdiv (2^(min (1:Int).toNat IntKind.u64.bits)))).toNat) fun x1=>if 0≤c0.1 then if c0.1<(c0.2.2.2.2.2.2.length:Int) then ix c0.2.2.2.2.2.2 c0.1.toNat fun x2=>(FiAltsOf_1v k x1 x2 c0.2.2.2.1 c0.2.2.2.2.1 c0.2.2.2.2.2.1).bind fun p3=>if (decide (p3<0))=true then rec ((IntKind.i64.wrap ((IntKind.i64.wrap (((IntKind.u64.wrap (IntKind.i64.wrap (v0.1+v0.2)))).fdiv (2^(min (1:Int).toNat IntKind.u64.bits))))+1)),v0.2) else rec (v0.1,(IntKind.i64.wrap (((IntKind.u64.wrap (IntKind.i64.wrap (v0.1+v0.2)))).fdiv (2^(min (1:Int).toNat IntKind.u64.bits))))) else none else none else none else none else X0 v0
noncomputable def we {R:Type} (k:Nat) (X0:va→Option R) (c:yh):Nat→va→Option R
 | 0,_=>none
 | n+1,v=>z61 k X0 c (we k X0 c n) v
def w01 {R:Type} (K:Ex→St→Option R) (c0:yh) (v0:va):Option R:=K (.exit 0) ⟨220,1,[(0,.c (.ref 0)),(1,cI c0.1),(2,cI c0.2.1),(3,cI c0.2.2.1),(4,.c (.clo 350 [.at_ [vI c0.2.2.2.1,.l 3 (.i .i64) c0.2.2.2.2.1,.l 3 (.i .i64) c0.2.2.2.2.2.1]])),(10,cI v0.1),(11,cI v0.2),(31,cI v0.1),(32,cI v0.2),(33,cB (decide (v0.1<v0.2)))],[(0,.arr 3 (.i .i64) c0.2.2.2.2.2.2)]⟩
theorem vv1 {R:Type} (k:Nat) (K:Ex→St→Option R) (c0:yh):∀(n:Nat) (v:va),z2 [1,0,1,2,3,4,10,11] (run E (den E k) (lv 404) k (j1 Tryz.f404 0)) n (y41 c0 v) K=we k (w01 K c0) c0 n v:=j4 (B:=z61 k (w01 K c0) c0) (fun _=>rfl) (fun n v=>by kernel_rfl) (fun _=>rfl) (fun _ _=>rfl)
theorem jv1 (k:Nat) (a0:List Int) (a1:Int) (a2:Int) (a3:Int) (a4:Int) (a5:List Int) (a6:List Int):j0 (k+1) a0 a1 a2 a3 a4 a5 a6=if ((IntKind.i64.wrap (a2-a1))==1)=true then z2 (R:=List Int) [1,0,1,2,3,4,10,11] (run E (den E k) (lv 404) k (j1 Tryz.f404 0)) k (y41 (a1,a2,a3,a4,a5,a6,a0) (a2,a3)) (zb E (den E k) (lv 404) k (yd Tryz.f404) 0 [] (zd E (rs 404) Tryz.f404:Ex→St→Option (List Int))) else if ((IntKind.i64.wrap (a3-a2))==1)=true then z2 (R:=List Int) [1,0,1,2,3,4,14,15] (run E (den E k) (lv 404) k (j1 Tryz.f404 2)) k (j21 (a1,a2,a3,a4,a5,a6,a0) (a1,a2)) (zb E (den E k) (lv 404) k (yd Tryz.f404) 2 [] (zd E (rs 404) Tryz.f404:Ex→St→Option (List Int))) else if (decide (a2>(IntKind.i64.wrap (((IntKind.u64.wrap (IntKind.i64.wrap (a1+a3)))).fdiv (2^(min (1:Int).toNat IntKind.u64.bits))))))=true then z2 (R:=List Int) [1,0,1,2,3,4,18,19,20,21,22] (run E (den E k) (lv 404) k (j1 Tryz.f404 4)) k (jo (a1,a2,a3,a4,a5,a6,(IntKind.i64.wrap (((IntKind.u64.wrap (IntKind.i64.wrap (a1+a3)))).fdiv (2^(min (1:Int).toNat IntKind.u64.bits)))),(IntKind.i64.wrap ((IntKind.i64.wrap (((IntKind.u64.wrap (IntKind.i64.wrap (a1+a3)))).fdiv (2^(min (1:Int).toNat IntKind.u64.bits))))+a2)),(IntKind.i64.wrap ((IntKind.i64.wrap ((IntKind.i64.wrap (((IntKind.u64.wrap (IntKind.i64.wrap (a1+a3)))).fdiv (2^(min (1:Int).toNat IntKind.u64.bits))))+a2))-1)),a0) ((IntKind.i64.wrap ((IntKind.i64.wrap ((IntKind.i64.wrap (((IntKind.u64.wrap (IntKind.i64.wrap (a1+a3)))).fdiv (2^(min (1:Int).toNat IntKind.u64.bits))))+a2))-a3)),(IntKind.i64.wrap (((IntKind.u64.wrap (IntKind.i64.wrap (a1+a3)))).fdiv (2^(min (1:Int).toNat IntKind.u64.bits)))))) (zb E (den E k) (lv 404) k (yd Tryz.f404) 4 [] (zd E (rs 404) Tryz.f404:Ex→St→Option (List Int))) else z2 (R:=List Int) [1,0,1,2,3,4,18,19,20,21,22] (run E (den E k) (lv 404) k (j1 Tryz.f404 4)) k (jo (a1,a2,a3,a4,a5,a6,(IntKind.i64.wrap (((IntKind.u64.wrap (IntKind.i64.wrap (a1+a3)))).fdiv (2^(min (1:Int).toNat IntKind.u64.bits)))),(IntKind.i64.wrap ((IntKind.i64.wrap (((IntKind.u64.wrap (IntKind.i64.wrap (a1+a3)))).fdiv (2^(min (1:Int).toNat IntKind.u64.bits))))+a2)),(IntKind.i64.wrap ((IntKind.i64.wrap ((IntKind.i64.wrap (((IntKind.u64.wrap (IntKind.i64.wrap (a1+a3)))).fdiv (2^(min (1:Int).toNat IntKind.u64.bits))))+a2))-1)),a0) (a1,a2)) (zb E (den E k) (lv 404) k (yd Tryz.f404) 4 [] (zd E (rs 404) Tryz.f404:Ex→St→Option (List Int))):=by kernel_rfl
theorem wv1 (k:Nat) (a0:List Int) (a1:Int) (a2:Int) (a3:Int) (a4:Int) (a5:List Int) (a6:List Int):j0 (k+1) a0 a1 a2 a3 a4 a5 a6=if ((IntKind.i64.wrap (a2-a1))==1)=true then we k (fun (v0:I2)=>z2 (R:=List Int) [1,0,1,2,3,4,10,11,13] (run E (den E k) (lv 404) k (j1 Tryz.f404 1)) k (w41 (a1,a2,a3,a4,a5,a6,v0.1,v0.2) (a1,a0)) (zb E (den E k) (lv 404) k (yd Tryz.f404) 1 [] (zd E (rs 404) Tryz.f404:Ex→St→Option (List Int)))) (a1,a2,a3,a4,a5,a6,a0) k (a2,a3) else if ((IntKind.i64.wrap (a3-a2))==1)=true then ve k (fun (v2:I2)=>z2 (R:=List Int) [1,0,1,2,3,4,14,15,17] (run E (den E k) (lv 404) k (j1 Tryz.f404 3)) k (j11 (a1,a2,a3,a4,a5,a6,v2.1,v2.2) (a2,a0)) (zb E (den E k) (lv 404) k (yd Tryz.f404) 3 [] (zd E (rs 404) Tryz.f404:Ex→St→Option (List Int)))) (a1,a2,a3,a4,a5,a6,a0) k (a1,a2) else if (decide (a2>(IntKind.i64.wrap (((IntKind.u64.wrap (IntKind.i64.wrap (a1+a3)))).fdiv (2^(min (1:Int).toNat IntKind.u64.bits))))))=true then v6 k (fun (v4:I2)=>if ((decide (v4.1<a2))==true)=true then if (decide (a2<(IntKind.i64.wrap ((IntKind.i64.wrap ((IntKind.i64.wrap (((IntKind.u64.wrap (IntKind.i64.wrap (a1+a3)))).fdiv (2^(min (1:Int).toNat IntKind.u64.bits))))+a2))-v4.1))))=true then (wd k a0 v4.1 a2 (IntKind.i64.wrap ((IntKind.i64.wrap ((IntKind.i64.wrap (((IntKind.u64.wrap (IntKind.i64.wrap (a1+a3)))).fdiv (2^(min (1:Int).toNat IntKind.u64.bits))))+a2))-v4.1)) a4 a5 a6).bind fun p9=>if ((decide (a1<v4.1))==true)=true then if (decide (v4.1<(IntKind.i64.wrap (((IntKind.u64.wrap (IntKind.i64.wrap (a1+a3)))).fdiv (2^(min (1:Int).toNat IntKind.u64.bits))))))=true then (j0 k p9 a1 v4.1 (IntKind.i64.wrap (((IntKind.u64.wrap (IntKind.i64.wrap (a1+a3)))).fdiv (2^(min (1:Int).toNat IntKind.u64.bits)))) a4 a5 a6).bind fun p10=>if ((decide ((IntKind.i64.wrap (((IntKind.u64.wrap (IntKind.i64.wrap (a1+a3)))).fdiv (2^(min (1:Int).toNat IntKind.u64.bits))))<(IntKind.i64.wrap ((IntKind.i64.wrap ((IntKind.i64.wrap (((IntKind.u64.wrap (IntKind.i64.wrap (a1+a3)))).fdiv (2^(min (1:Int).toNat IntKind.u64.bits))))+a2))-v4.1))))==true)=true then if (decide ((IntKind.i64.wrap ((IntKind.i64.wrap ((IntKind.i64.wrap (((IntKind.u64.wrap (IntKind.i64.wrap (a1+a3)))).fdiv (2^(min (1:Int).toNat IntKind.u64.bits))))+a2))-v4.1))<a3))=true then (j0 k p10 (IntKind.i64.wrap (((IntKind.u64.wrap (IntKind.i64.wrap (a1+a3)))).fdiv (2^(min (1:Int).toNat IntKind.u64.bits)))) (IntKind.i64.wrap ((IntKind.i64.wrap ((IntKind.i64.wrap (((IntKind.u64.wrap (IntKind.i64.wrap (a1+a3)))).fdiv (2^(min (1:Int).toNat IntKind.u64.bits))))+a2))-v4.1)) a3 a4 a5 a6).bind fun p11=>some p11 else some p10 else some p10 else if ((decide ((IntKind.i64.wrap (((IntKind.u64.wrap (IntKind.i64.wrap (a1+a3)))).fdiv (2^(min (1:Int).toNat IntKind.u64.bits))))<(IntKind.i64.wrap ((IntKind.i64.wrap ((IntKind.i64.wrap (((IntKind.u64.wrap (IntKind.i64.wrap (a1+a3)))).fdiv (2^(min (1:Int).toNat IntKind.u64.bits))))+a2))-v4.1))))==true)=true then if (decide ((IntKind.i64.wrap ((IntKind.i64.wrap ((IntKind.i64.wrap (((IntKind.u64.wrap (IntKind.i64.wrap (a1+a3)))).fdiv (2^(min (1:Int).toNat IntKind.u64.bits))))+a2))-v4.1))<a3))=true then (j0 k p9 (IntKind.i64.wrap (((IntKind.u64.wrap (IntKind.i64.wrap (a1+a3)))).fdiv (2^(min (1:Int).toNat IntKind.u64.bits)))) (IntKind.i64.wrap ((IntKind.i64.wrap ((IntKind.i64.wrap (((IntKind.u64.wrap (IntKind.i64.wrap (a1+a3)))).fdiv (2^(min (1:Int).toNat IntKind.u64.bits))))+a2))-v4.1)) a3 a4 a5 a6).bind fun p12=>some p12 else some p9 else some p9 else if ((decide ((IntKind.i64.wrap (((IntKind.u64.wrap (IntKind.i64.wrap (a1+a3)))).fdiv (2^(min (1:Int).toNat IntKind.u64.bits))))<(IntKind.i64.wrap ((IntKind.i64.wrap ((IntKind.i64.wrap (((IntKind.u64.wrap (IntKind.i64.wrap (a1+a3)))).fdiv (2^(min (1:Int).toNat IntKind.u64.bits))))+a2))-v4.1))))==true)=true then if (decide ((IntKind.i64.wrap ((IntKind.i64.wrap ((IntKind.i64.wrap (((IntKind.u64.wrap (IntKind.i64.wrap (a1+a3)))).fdiv (2^(min (1:Int).toNat IntKind.u64.bits))))+a2))-v4.1))<a3))=true then (j0 k p9 (IntKind.i64.wrap (((IntKind.u64.wrap (IntKind.i64.wrap (a1+a3)))).fdiv (2^(min (1:Int).toNat IntKind.u64.bits)))) (IntKind.i64.wrap ((IntKind.i64.wrap ((IntKind.i64.wrap (((IntKind.u64.wrap (IntKind.i64.wrap (a1+a3)))).fdiv (2^(min (1:Int).toNat IntKind.u64.bits))))+a2))-v4.1)) a3 a4 a5 a6).bind fun p13=>some p13 else some p9 else some p9 else if ((decide (a1<v4.1))==true)=true then if (decide (v4.1<(IntKind.i64.wrap (((IntKind.u64.wrap (IntKind.i64.wrap (a1+a3)))).fdiv (2^(min (1:Int).toNat IntKind.u64.bits))))))=true then (j0 k a0 a1 v4.1 (IntKind.i64.wrap (((IntKind.u64.wrap (IntKind.i64.wrap (a1+a3)))).fdiv (2^(min (1:Int).toNat IntKind.u64.bits)))) a4 a5 a6).bind fun p14=>if ((decide ((IntKind.i64.wrap (((IntKind.u64.wrap (IntKind.i64.wrap (a1+a3)))).fdiv (2^(min (1:Int).toNat IntKind.u64.bits))))<(IntKind.i64.wrap ((IntKind.i64.wrap ((IntKind.i64.wrap (((IntKind.u64.wrap (IntKind.i64.wrap (a1+a3)))).fdiv (2^(min (1:Int).toNat IntKind.u64.bits))))+a2))-v4.1))))==true)=true then if (decide ((IntKind.i64.wrap ((IntKind.i64.wrap ((IntKind.i64.wrap (((IntKind.u64.wrap (IntKind.i64.wrap (a1+a3)))).fdiv (2^(min (1:Int).toNat IntKind.u64.bits))))+a2))-v4.1))<a3))=true then (j0 k p14 (IntKind.i64.wrap (((IntKind.u64.wrap (IntKind.i64.wrap (a1+a3)))).fdiv (2^(min (1:Int).toNat IntKind.u64.bits)))) (IntKind.i64.wrap ((IntKind.i64.wrap ((IntKind.i64.wrap (((IntKind.u64.wrap (IntKind.i64.wrap (a1+a3)))).fdiv (2^(min (1:Int).toNat IntKind.u64.bits))))+a2))-v4.1)) a3 a4 a5 a6).bind fun p15=>some p15 else some p14 else some p14 else if ((decide ((IntKind.i64.wrap (((IntKind.u64.wrap (IntKind.i64.wrap (a1+a3)))).fdiv (2^(min (1:Int).toNat IntKind.u64.bits))))<(IntKind.i64.wrap ((IntKind.i64.wrap ((IntKind.i64.wrap (((IntKind.u64.wrap (IntKind.i64.wrap (a1+a3)))).fdiv (2^(min (1:Int).toNat IntKind.u64.bits))))+a2))-v4.1))))==true)=true then if (decide ((IntKind.i64.wrap ((IntKind.i64.wrap ((IntKind.i64.wrap (((IntKind.u64.wrap (IntKind.i64.wrap (a1+a3)))).fdiv (2^(min (1:Int).toNat IntKind.u64.bits))))+a2))-v4.1))<a3))=true then (j0 k a0 (IntKind.i64.wrap (((IntKind.u64.wrap (IntKind.i64.wrap (a1+a3)))).fdiv (2^(min (1:Int).toNat IntKind.u64.bits)))) (IntKind.i64.wrap ((IntKind.i64.wrap ((IntKind.i64.wrap (((IntKind.u64.wrap (IntKind.i64.wrap (a1+a3)))).fdiv (2^(min (1:Int).toNat IntKind.u64.bits))))+a2))-v4.1)) a3 a4 a5 a6).bind fun p16=>some p16 else some a0 else some a0 else if ((decide ((IntKind.i64.wrap (((IntKind.u64.wrap (IntKind.i64.wrap (a1+a3)))).fdiv (2^(min (1:Int).toNat IntKind.u64.bits))))<(IntKind.i64.wrap ((IntKind.i64.wrap ((IntKind.i64.wrap (((IntKind.u64.wrap (IntKind.i64.wrap (a1+a3)))).fdiv (2^(min (1:Int).toNat IntKind.u64.bits))))+a2))-v4.1))))==true)=true then if (decide ((IntKind.i64.wrap ((IntKind.i64.wrap ((IntKind.i64.wrap (((IntKind.u64.wrap (IntKind.i64.wrap (a1+a3)))).fdiv (2^(min (1:Int).toNat IntKind.u64.bits))))+a2))-v4.1))<a3))=true then (j0 k a0 (IntKind.i64.wrap (((IntKind.u64.wrap (IntKind.i64.wrap (a1+a3)))).fdiv (2^(min (1:Int).toNat IntKind.u64.bits)))) (IntKind.i64.wrap ((IntKind.i64.wrap ((IntKind.i64.wrap (((IntKind.u64.wrap (IntKind.i64.wrap (a1+a3)))).fdiv (2^(min (1:Int).toNat IntKind.u64.bits))))+a2))-v4.1)) a3 a4 a5 a6).bind fun p17=>some p17 else some a0 else some a0 else if ((decide (a1<v4.1))==true)=true then if (decide (v4.1<(IntKind.i64.wrap (((IntKind.u64.wrap (IntKind.i64.wrap (a1+a3)))).fdiv (2^(min (1:Int).toNat IntKind.u64.bits))))))=true then (j0 k a0 a1 v4.1 (IntKind.i64.wrap (((IntKind.u64.wrap (IntKind.i64.wrap (a1+a3)))).fdiv (2^(min (1:Int).toNat IntKind.u64.bits)))) a4 a5 a6).bind fun p18=>if ((decide ((IntKind.i64.wrap (((IntKind.u64.wrap (IntKind.i64.wrap (a1+a3)))).fdiv (2^(min (1:Int).toNat IntKind.u64.bits))))<(IntKind.i64.wrap ((IntKind.i64.wrap ((IntKind.i64.wrap (((IntKind.u64.wrap (IntKind.i64.wrap (a1+a3)))).fdiv (2^(min (1:Int).toNat IntKind.u64.bits))))+a2))-v4.1))))==true)=true then if (decide ((IntKind.i64.wrap ((IntKind.i64.wrap ((IntKind.i64.wrap (((IntKind.u64.wrap (IntKind.i64.wrap (a1+a3)))).fdiv (2^(min (1:Int).toNat IntKind.u64.bits))))+a2))-v4.1))<a3))=true then (j0 k p18 (IntKind.i64.wrap (((IntKind.u64.wrap (IntKind.i64.wrap (a1+a3)))).fdiv (2^(min (1:Int).toNat IntKind.u64.bits)))) (IntKind.i64.wrap ((IntKind.i64.wrap ((IntKind.i64.wrap (((IntKind.u64.wrap (IntKind.i64.wrap (a1+a3)))).fdiv (2^(min (1:Int).toNat IntKind.u64.bits))))+a2))-v4.1)) a3 a4 a5 a6).bind fun p19=>some p19 else some p18 else some p18 else if ((decide ((IntKind.i64.wrap (((IntKind.u64.wrap (IntKind.i64.wrap (a1+a3)))).fdiv (2^(min (1:Int).toNat IntKind.u64.bits))))<(IntKind.i64.wrap ((IntKind.i64.wrap ((IntKind.i64.wrap (((IntKind.u64.wrap (IntKind.i64.wrap (a1+a3)))).fdiv (2^(min (1:Int).toNat IntKind.u64.bits))))+a2))-v4.1))))==true)=true then if (decide ((IntKind.i64.wrap ((IntKind.i64.wrap ((IntKind.i64.wrap (((IntKind.u64.wrap (IntKind.i64.wrap (a1+a3)))).fdiv (2^(min (1:Int).toNat IntKind.u64.bits))))+a2))-v4.1))<a3))=true then (j0 k a0 (IntKind.i64.wrap (((IntKind.u64.wrap (IntKind.i64.wrap (a1+a3)))).fdiv (2^(min (1:Int).toNat IntKind.u64.bits)))) (IntKind.i64.wrap ((IntKind.i64.wrap ((IntKind.i64.wrap (((IntKind.u64.wrap (IntKind.i64.wrap (a1+a3)))).fdiv (2^(min (1:Int).toNat IntKind.u64.bits))))+a2))-v4.1)) a3 a4 a5 a6).bind fun p20=>some p20 else some a0 else some a0 else if ((decide ((IntKind.i64.wrap (((IntKind.u64.wrap (IntKind.i64.wrap (a1+a3)))).fdiv (2^(min (1:Int).toNat IntKind.u64.bits))))<(IntKind.i64.wrap ((IntKind.i64.wrap ((IntKind.i64.wrap (((IntKind.u64.wrap (IntKind.i64.wrap (a1+a3)))).fdiv (2^(min (1:Int).toNat IntKind.u64.bits))))+a2))-v4.1))))==true)=true then if (decide ((IntKind.i64.wrap ((IntKind.i64.wrap ((IntKind.i64.wrap (((IntKind.u64.wrap (IntKind.i64.wrap (a1+a3)))).fdiv (2^(min (1:Int).toNat IntKind.u64.bits))))+a2))-v4.1))<a3))=true then (j0 k a0 (IntKind.i64.wrap (((IntKind.u64.wrap (IntKind.i64.wrap (a1+a3)))).fdiv (2^(min (1:Int).toNat IntKind.u64.bits)))) (IntKind.i64.wrap ((IntKind.i64.wrap ((IntKind.i64.wrap (((IntKind.u64.wrap (IntKind.i64.wrap (a1+a3)))).fdiv (2^(min (1:Int).toNat IntKind.u64.bits))))+a2))-v4.1)) a3 a4 a5 a6).bind fun p21=>some p21 else some a0 else some a0) (a1,a2,a3,a4,a5,a6,(IntKind.i64.wrap (((IntKind.u64.wrap (IntKind.i64.wrap (a1+a3)))).fdiv (2^(min (1:Int).toNat IntKind.u64.bits)))),(IntKind.i64.wrap ((IntKind.i64.wrap (((IntKind.u64.wrap (IntKind.i64.wrap (a1+a3)))).fdiv (2^(min (1:Int).toNat IntKind.u64.bits))))+a2)),(IntKind.i64.wrap ((IntKind.i64.wrap ((IntKind.i64.wrap (((IntKind.u64.wrap (IntKind.i64.wrap (a1+a3)))).fdiv (2^(min (1:Int).toNat IntKind.u64.bits))))+a2))-1)),a0) k ((IntKind.i64.wrap ((IntKind.i64.wrap ((IntKind.i64.wrap (((IntKind.u64.wrap (IntKind.i64.wrap (a1+a3)))).fdiv (2^(min (1:Int).toNat IntKind.u64.bits))))+a2))-a3)),(IntKind.i64.wrap (((IntKind.u64.wrap (IntKind.i64.wrap (a1+a3)))).fdiv (2^(min (1:Int).toNat IntKind.u64.bits))))) else v6 k (fun (v4:I2)=>if ((decide (v4.1<a2))==true)=true then if (decide (a2<(IntKind.i64.wrap ((IntKind.i64.wrap ((IntKind.i64.wrap (((IntKind.u64.wrap (IntKind.i64.wrap (a1+a3)))).fdiv (2^(min (1:Int).toNat IntKind.u64.bits))))+a2))-v4.1))))=true then (wd k a0 v4.1 a2 (IntKind.i64.wrap ((IntKind.i64.wrap ((IntKind.i64.wrap (((IntKind.u64.wrap (IntKind.i64.wrap (a1+a3)))).fdiv (2^(min (1:Int).toNat IntKind.u64.bits))))+a2))-v4.1)) a4 a5 a6).bind fun p22=>if ((decide (a1<v4.1))==true)=true then if (decide (v4.1<(IntKind.i64.wrap (((IntKind.u64.wrap (IntKind.i64.wrap (a1+a3)))).fdiv (2^(min (1:Int).toNat IntKind.u64.bits))))))=true then (j0 k p22 a1 v4.1 (IntKind.i64.wrap (((IntKind.u64.wrap (IntKind.i64.wrap (a1+a3)))).fdiv (2^(min (1:Int).toNat IntKind.u64.bits)))) a4 a5 a6).bind fun p23=>if ((decide ((IntKind.i64.wrap (((IntKind.u64.wrap (IntKind.i64.wrap (a1+a3)))).fdiv (2^(min (1:Int).toNat IntKind.u64.bits))))<(IntKind.i64.wrap ((IntKind.i64.wrap ((IntKind.i64.wrap (((IntKind.u64.wrap (IntKind.i64.wrap (a1+a3)))).fdiv (2^(min (1:Int).toNat IntKind.u64.bits))))+a2))-v4.1))))==true)=true then if (decide ((IntKind.i64.wrap ((IntKind.i64.wrap ((IntKind.i64.wrap (((IntKind.u64.wrap (IntKind.i64.wrap (a1+a3)))).fdiv (2^(min (1:Int).toNat IntKind.u64.bits))))+a2))-v4.1))<a3))=true then (j0 k p23 (IntKind.i64.wrap (((IntKind.u64.wrap (IntKind.i64.wrap (a1+a3)))).fdiv (2^(min (1:Int).toNat IntKind.u64.bits)))) (IntKind.i64.wrap ((IntKind.i64.wrap ((IntKind.i64.wrap (((IntKind.u64.wrap (IntKind.i64.wrap (a1+a3)))).fdiv (2^(min (1:Int).toNat IntKind.u64.bits))))+a2))-v4.1)) a3 a4 a5 a6).bind fun p24=>some p24 else some p23 else some p23 else if ((decide ((IntKind.i64.wrap (((IntKind.u64.wrap (IntKind.i64.wrap (a1+a3)))).fdiv (2^(min (1:Int).toNat IntKind.u64.bits))))<(IntKind.i64.wrap ((IntKind.i64.wrap ((IntKind.i64.wrap (((IntKind.u64.wrap (IntKind.i64.wrap (a1+a3)))).fdiv (2^(min (1:Int).toNat IntKind.u64.bits))))+a2))-v4.1))))==true)=true then if (decide ((IntKind.i64.wrap ((IntKind.i64.wrap ((IntKind.i64.wrap (((IntKind.u64.wrap (IntKind.i64.wrap (a1+a3)))).fdiv (2^(min (1:Int).toNat IntKind.u64.bits))))+a2))-v4.1))<a3))=true then (j0 k p22 (IntKind.i64.wrap (((IntKind.u64.wrap (IntKind.i64.wrap (a1+a3)))).fdiv (2^(min (1:Int).toNat IntKind.u64.bits)))) (IntKind.i64.wrap ((IntKind.i64.wrap ((IntKind.i64.wrap (((IntKind.u64.wrap (IntKind.i64.wrap (a1+a3)))).fdiv (2^(min (1:Int).toNat IntKind.u64.bits))))+a2))-v4.1)) a3 a4 a5 a6).bind fun p25=>some p25 else some p22 else some p22 else if ((decide ((IntKind.i64.wrap (((IntKind.u64.wrap (IntKind.i64.wrap (a1+a3)))).fdiv (2^(min (1:Int).toNat IntKind.u64.bits))))<(IntKind.i64.wrap ((IntKind.i64.wrap ((IntKind.i64.wrap (((IntKind.u64.wrap (IntKind.i64.wrap (a1+a3)))).fdiv (2^(min (1:Int).toNat IntKind.u64.bits))))+a2))-v4.1))))==true)=true then if (decide ((IntKind.i64.wrap ((IntKind.i64.wrap ((IntKind.i64.wrap (((IntKind.u64.wrap (IntKind.i64.wrap (a1+a3)))).fdiv (2^(min (1:Int).toNat IntKind.u64.bits))))+a2))-v4.1))<a3))=true then (j0 k p22 (IntKind.i64.wrap (((IntKind.u64.wrap (IntKind.i64.wrap (a1+a3)))).fdiv (2^(min (1:Int).toNat IntKind.u64.bits)))) (IntKind.i64.wrap ((IntKind.i64.wrap ((IntKind.i64.wrap (((IntKind.u64.wrap (IntKind.i64.wrap (a1+a3)))).fdiv (2^(min (1:Int).toNat IntKind.u64.bits))))+a2))-v4.1)) a3 a4 a5 a6).bind fun p26=>some p26 else some p22 else some p22 else if ((decide (a1<v4.1))==true)=true then if (decide (v4.1<(IntKind.i64.wrap (((IntKind.u64.wrap (IntKind.i64.wrap (a1+a3)))).fdiv (2^(min (1:Int).toNat IntKind.u64.bits))))))=true then (j0 k a0 a1 v4.1 (IntKind.i64.wrap (((IntKind.u64.wrap (IntKind.i64.wrap (a1+a3)))).fdiv (2^(min (1:Int).toNat IntKind.u64.bits)))) a4 a5 a6).bind fun p27=>if ((decide ((IntKind.i64.wrap (((IntKind.u64.wrap (IntKind.i64.wrap (a1+a3)))).fdiv (2^(min (1:Int).toNat IntKind.u64.bits))))<(IntKind.i64.wrap ((IntKind.i64.wrap ((IntKind.i64.wrap (((IntKind.u64.wrap (IntKind.i64.wrap (a1+a3)))).fdiv (2^(min (1:Int).toNat IntKind.u64.bits))))+a2))-v4.1))))==true)=true then if (decide ((IntKind.i64.wrap ((IntKind.i64.wrap ((IntKind.i64.wrap (((IntKind.u64.wrap (IntKind.i64.wrap (a1+a3)))).fdiv (2^(min (1:Int).toNat IntKind.u64.bits))))+a2))-v4.1))<a3))=true then (j0 k p27 (IntKind.i64.wrap (((IntKind.u64.wrap (IntKind.i64.wrap (a1+a3)))).fdiv (2^(min (1:Int).toNat IntKind.u64.bits)))) (IntKind.i64.wrap ((IntKind.i64.wrap ((IntKind.i64.wrap (((IntKind.u64.wrap (IntKind.i64.wrap (a1+a3)))).fdiv (2^(min (1:Int).toNat IntKind.u64.bits))))+a2))-v4.1)) a3 a4 a5 a6).bind fun p28=>some p28 else some p27 else some p27 else if ((decide ((IntKind.i64.wrap (((IntKind.u64.wrap (IntKind.i64.wrap (a1+a3)))).fdiv (2^(min (1:Int).toNat IntKind.u64.bits))))<(IntKind.i64.wrap ((IntKind.i64.wrap ((IntKind.i64.wrap (((IntKind.u64.wrap (IntKind.i64.wrap (a1+a3)))).fdiv (2^(min (1:Int).toNat IntKind.u64.bits))))+a2))-v4.1))))==true)=true then if (decide ((IntKind.i64.wrap ((IntKind.i64.wrap ((IntKind.i64.wrap (((IntKind.u64.wrap (IntKind.i64.wrap (a1+a3)))).fdiv (2^(min (1:Int).toNat IntKind.u64.bits))))+a2))-v4.1))<a3))=true then (j0 k a0 (IntKind.i64.wrap (((IntKind.u64.wrap (IntKind.i64.wrap (a1+a3)))).fdiv (2^(min (1:Int).toNat IntKind.u64.bits)))) (IntKind.i64.wrap ((IntKind.i64.wrap ((IntKind.i64.wrap (((IntKind.u64.wrap (IntKind.i64.wrap (a1+a3)))).fdiv (2^(min (1:Int).toNat IntKind.u64.bits))))+a2))-v4.1)) a3 a4 a5 a6).bind fun p29=>some p29 else some a0 else some a0 else if ((decide ((IntKind.i64.wrap (((IntKind.u64.wrap (IntKind.i64.wrap (a1+a3)))).fdiv (2^(min (1:Int).toNat IntKind.u64.bits))))<(IntKind.i64.wrap ((IntKind.i64.wrap ((IntKind.i64.wrap (((IntKind.u64.wrap (IntKind.i64.wrap (a1+a3)))).fdiv (2^(min (1:Int).toNat IntKind.u64.bits))))+a2))-v4.1))))==true)=true then if (decide ((IntKind.i64.wrap ((IntKind.i64.wrap ((IntKind.i64.wrap (((IntKind.u64.wrap (IntKind.i64.wrap (a1+a3)))).fdiv (2^(min (1:Int).toNat IntKind.u64.bits))))+a2))-v4.1))<a3))=true then (j0 k a0 (IntKind.i64.wrap (((IntKind.u64.wrap (IntKind.i64.wrap (a1+a3)))).fdiv (2^(min (1:Int).toNat IntKind.u64.bits)))) (IntKind.i64.wrap ((IntKind.i64.wrap ((IntKind.i64.wrap (((IntKind.u64.wrap (IntKind.i64.wrap (a1+a3)))).fdiv (2^(min (1:Int).toNat IntKind.u64.bits))))+a2))-v4.1)) a3 a4 a5 a6).bind fun p30=>some p30 else some a0 else some a0 else if ((decide (a1<v4.1))==true)=true then if (decide (v4.1<(IntKind.i64.wrap (((IntKind.u64.wrap (IntKind.i64.wrap (a1+a3)))).fdiv (2^(min (1:Int).toNat IntKind.u64.bits))))))=true then (j0 k a0 a1 v4.1 (IntKind.i64.wrap (((IntKind.u64.wrap (IntKind.i64.wrap (a1+a3)))).fdiv (2^(min (1:Int).toNat IntKind.u64.bits)))) a4 a5 a6).bind fun p31=>if ((decide ((IntKind.i64.wrap (((IntKind.u64.wrap (IntKind.i64.wrap (a1+a3)))).fdiv (2^(min (1:Int).toNat IntKind.u64.bits))))<(IntKind.i64.wrap ((IntKind.i64.wrap ((IntKind.i64.wrap (((IntKind.u64.wrap (IntKind.i64.wrap (a1+a3)))).fdiv (2^(min (1:Int).toNat IntKind.u64.bits))))+a2))-v4.1))))==true)=true then if (decide ((IntKind.i64.wrap ((IntKind.i64.wrap ((IntKind.i64.wrap (((IntKind.u64.wrap (IntKind.i64.wrap (a1+a3)))).fdiv (2^(min (1:Int).toNat IntKind.u64.bits))))+a2))-v4.1))<a3))=true then (j0 k p31 (IntKind.i64.wrap (((IntKind.u64.wrap (IntKind.i64.wrap (a1+a3)))).fdiv (2^(min (1:Int).toNat IntKind.u64.bits)))) (IntKind.i64.wrap ((IntKind.i64.wrap ((IntKind.i64.wrap (((IntKind.u64.wrap (IntKind.i64.wrap (a1+a3)))).fdiv (2^(min (1:Int).toNat IntKind.u64.bits))))+a2))-v4.1)) a3 a4 a5 a6).bind fun p32=>some p32 else some p31 else some p31 else if ((decide ((IntKind.i64.wrap (((IntKind.u64.wrap (IntKind.i64.wrap (a1+a3)))).fdiv (2^(min (1:Int).toNat IntKind.u64.bits))))<(IntKind.i64.wrap ((IntKind.i64.wrap ((IntKind.i64.wrap (((IntKind.u64.wrap (IntKind.i64.wrap (a1+a3)))).fdiv (2^(min (1:Int).toNat IntKind.u64.bits))))+a2))-v4.1))))==true)=true then if (decide ((IntKind.i64.wrap ((IntKind.i64.wrap ((IntKind.i64.wrap (((IntKind.u64.wrap (IntKind.i64.wrap (a1+a3)))).fdiv (2^(min (1:Int).toNat IntKind.u64.bits))))+a2))-v4.1))<a3))=true then (j0 k a0 (IntKind.i64.wrap (((IntKind.u64.wrap (IntKind.i64.wrap (a1+a3)))).fdiv (2^(min (1:Int).toNat IntKind.u64.bits)))) (IntKind.i64.wrap ((IntKind.i64.wrap ((IntKind.i64.wrap (((IntKind.u64.wrap (IntKind.i64.wrap (a1+a3)))).fdiv (2^(min (1:Int).toNat IntKind.u64.bits))))+a2))-v4.1)) a3 a4 a5 a6).bind fun p33=>some p33 else some a0 else some a0 else if ((decide ((IntKind.i64.wrap (((IntKind.u64.wrap (IntKind.i64.wrap (a1+a3)))).fdiv (2^(min (1:Int).toNat IntKind.u64.bits))))<(IntKind.i64.wrap ((IntKind.i64.wrap ((IntKind.i64.wrap (((IntKind.u64.wrap (IntKind.i64.wrap (a1+a3)))).fdiv (2^(min (1:Int).toNat IntKind.u64.bits))))+a2))-v4.1))))==true)=true then if (decide ((IntKind.i64.wrap ((IntKind.i64.wrap ((IntKind.i64.wrap (((IntKind.u64.wrap (IntKind.i64.wrap (a1+a3)))).fdiv (2^(min (1:Int).toNat IntKind.u64.bits))))+a2))-v4.1))<a3))=true then (j0 k a0 (IntKind.i64.wrap (((IntKind.u64.wrap (IntKind.i64.wrap (a1+a3)))).fdiv (2^(min (1:Int).toNat IntKind.u64.bits)))) (IntKind.i64.wrap ((IntKind.i64.wrap ((IntKind.i64.wrap (((IntKind.u64.wrap (IntKind.i64.wrap (a1+a3)))).fdiv (2^(min (1:Int).toNat IntKind.u64.bits))))+a2))-v4.1)) a3 a4 a5 a6).bind fun p34=>some p34 else some a0 else some a0) (a1,a2,a3,a4,a5,a6,(IntKind.i64.wrap (((IntKind.u64.wrap (IntKind.i64.wrap (a1+a3)))).fdiv (2^(min (1:Int).toNat IntKind.u64.bits)))),(IntKind.i64.wrap ((IntKind.i64.wrap (((IntKind.u64.wrap (IntKind.i64.wrap (a1+a3)))).fdiv (2^(min (1:Int).toNat IntKind.u64.bits))))+a2)),(IntKind.i64.wrap ((IntKind.i64.wrap ((IntKind.i64.wrap (((IntKind.u64.wrap (IntKind.i64.wrap (a1+a3)))).fdiv (2^(min (1:Int).toNat IntKind.u64.bits))))+a2))-1)),a0) k (a1,a2):=by 
 rw [jv1]
 simp only [vv1,yw1,xv1]
 kernel_rfl
theorem vt (k:Nat) (a0:List Int) (a1:Int) (a2:Int) (a3:Int) (a4:Int) (a5:List Int) (a6:List Int):j0 (k+1) a0 a1 a2 a3 a4 a5 a6=if ((IntKind.i64.wrap (a2-a1))==1)=true then we k (fun (v0:I2)=>jg k (fun (v1:Int×(List Int))=>some v1.2) (a1,a2,a3,a4,a5,a6,v0.1,v0.2) k (a1,a0)) (a1,a2,a3,a4,a5,a6,a0) k (a2,a3) else if ((IntKind.i64.wrap (a3-a2))==1)=true then ve k (fun (v2:I2)=>vg k (fun (v3:Int×(List Int))=>some v3.2) (a1,a2,a3,a4,a5,a6,v2.1,v2.2) k (a2,a0)) (a1,a2,a3,a4,a5,a6,a0) k (a1,a2) else if (decide (a2>(IntKind.i64.wrap (((IntKind.u64.wrap (IntKind.i64.wrap (a1+a3)))).fdiv (2^(min (1:Int).toNat IntKind.u64.bits))))))=true then v6 k (fun (v4:I2)=>if ((decide (v4.1<a2))==true)=true then if (decide (a2<(IntKind.i64.wrap ((IntKind.i64.wrap ((IntKind.i64.wrap (((IntKind.u64.wrap (IntKind.i64.wrap (a1+a3)))).fdiv (2^(min (1:Int).toNat IntKind.u64.bits))))+a2))-v4.1))))=true then (wd k a0 v4.1 a2 (IntKind.i64.wrap ((IntKind.i64.wrap ((IntKind.i64.wrap (((IntKind.u64.wrap (IntKind.i64.wrap (a1+a3)))).fdiv (2^(min (1:Int).toNat IntKind.u64.bits))))+a2))-v4.1)) a4 a5 a6).bind fun p1=>if ((decide (a1<v4.1))==true)=true then if (decide (v4.1<(IntKind.i64.wrap (((IntKind.u64.wrap (IntKind.i64.wrap (a1+a3)))).fdiv (2^(min (1:Int).toNat IntKind.u64.bits))))))=true then (j0 k p1 a1 v4.1 (IntKind.i64.wrap (((IntKind.u64.wrap (IntKind.i64.wrap (a1+a3)))).fdiv (2^(min (1:Int).toNat IntKind.u64.bits)))) a4 a5 a6).bind fun p2=>if ((decide ((IntKind.i64.wrap (((IntKind.u64.wrap (IntKind.i64.wrap (a1+a3)))).fdiv (2^(min (1:Int).toNat IntKind.u64.bits))))<(IntKind.i64.wrap ((IntKind.i64.wrap ((IntKind.i64.wrap (((IntKind.u64.wrap (IntKind.i64.wrap (a1+a3)))).fdiv (2^(min (1:Int).toNat IntKind.u64.bits))))+a2))-v4.1))))==true)=true then if (decide ((IntKind.i64.wrap ((IntKind.i64.wrap ((IntKind.i64.wrap (((IntKind.u64.wrap (IntKind.i64.wrap (a1+a3)))).fdiv (2^(min (1:Int).toNat IntKind.u64.bits))))+a2))-v4.1))<a3))=true then (j0 k p2 (IntKind.i64.wrap (((IntKind.u64.wrap (IntKind.i64.wrap (a1+a3)))).fdiv (2^(min (1:Int).toNat IntKind.u64.bits)))) (IntKind.i64.wrap ((IntKind.i64.wrap ((IntKind.i64.wrap (((IntKind.u64.wrap (IntKind.i64.wrap (a1+a3)))).fdiv (2^(min (1:Int).toNat IntKind.u64.bits))))+a2))-v4.1)) a3 a4 a5 a6).bind fun p3=>some p3 else some p2 else some p2 else if ((decide ((IntKind.i64.wrap (((IntKind.u64.wrap (IntKind.i64.wrap (a1+a3)))).fdiv (2^(min (1:Int).toNat IntKind.u64.bits))))<(IntKind.i64.wrap ((IntKind.i64.wrap ((IntKind.i64.wrap (((IntKind.u64.wrap (IntKind.i64.wrap (a1+a3)))).fdiv (2^(min (1:Int).toNat IntKind.u64.bits))))+a2))-v4.1))))==true)=true then if (decide ((IntKind.i64.wrap ((IntKind.i64.wrap ((IntKind.i64.wrap (((IntKind.u64.wrap (IntKind.i64.wrap (a1+a3)))).fdiv (2^(min (1:Int).toNat IntKind.u64.bits))))+a2))-v4.1))<a3))=true then (j0 k p1 (IntKind.i64.wrap (((IntKind.u64.wrap (IntKind.i64.wrap (a1+a3)))).fdiv (2^(min (1:Int).toNat IntKind.u64.bits)))) (IntKind.i64.wrap ((IntKind.i64.wrap ((IntKind.i64.wrap (((IntKind.u64.wrap (IntKind.i64.wrap (a1+a3)))).fdiv (2^(min (1:Int).toNat IntKind.u64.bits))))+a2))-v4.1)) a3 a4 a5 a6).bind fun p4=>some p4 else some p1 else some p1 else if ((decide ((IntKind.i64.wrap (((IntKind.u64.wrap (IntKind.i64.wrap (a1+a3)))).fdiv (2^(min (1:Int).toNat IntKind.u64.bits))))<(IntKind.i64.wrap ((IntKind.i64.wrap ((IntKind.i64.wrap (((IntKind.u64.wrap (IntKind.i64.wrap (a1+a3)))).fdiv (2^(min (1:Int).toNat IntKind.u64.bits))))+a2))-v4.1))))==true)=true then if (decide ((IntKind.i64.wrap ((IntKind.i64.wrap ((IntKind.i64.wrap (((IntKind.u64.wrap (IntKind.i64.wrap (a1+a3)))).fdiv (2^(min (1:Int).toNat IntKind.u64.bits))))+a2))-v4.1))<a3))=true then (j0 k p1 (IntKind.i64.wrap (((IntKind.u64.wrap (IntKind.i64.wrap (a1+a3)))).fdiv (2^(min (1:Int).toNat IntKind.u64.bits)))) (IntKind.i64.wrap ((IntKind.i64.wrap ((IntKind.i64.wrap (((IntKind.u64.wrap (IntKind.i64.wrap (a1+a3)))).fdiv (2^(min (1:Int).toNat IntKind.u64.bits))))+a2))-v4.1)) a3 a4 a5 a6).bind fun p5=>some p5 else some p1 else some p1 else if ((decide (a1<v4.1))==true)=true then if (decide (v4.1<(IntKind.i64.wrap (((IntKind.u64.wrap (IntKind.i64.wrap (a1+a3)))).fdiv (2^(min (1:Int).toNat IntKind.u64.bits))))))=true then (j0 k a0 a1 v4.1 (IntKind.i64.wrap (((IntKind.u64.wrap (IntKind.i64.wrap (a1+a3)))).fdiv (2^(min (1:Int).toNat IntKind.u64.bits)))) a4 a5 a6).bind fun p6=>if ((decide ((IntKind.i64.wrap (((IntKind.u64.wrap (IntKind.i64.wrap (a1+a3)))).fdiv (2^(min (1:Int).toNat IntKind.u64.bits))))<(IntKind.i64.wrap ((IntKind.i64.wrap ((IntKind.i64.wrap (((IntKind.u64.wrap (IntKind.i64.wrap (a1+a3)))).fdiv (2^(min (1:Int).toNat IntKind.u64.bits))))+a2))-v4.1))))==true)=true then if (decide ((IntKind.i64.wrap ((IntKind.i64.wrap ((IntKind.i64.wrap (((IntKind.u64.wrap (IntKind.i64.wrap (a1+a3)))).fdiv (2^(min (1:Int).toNat IntKind.u64.bits))))+a2))-v4.1))<a3))=true then (j0 k p6 (IntKind.i64.wrap (((IntKind.u64.wrap (IntKind.i64.wrap (a1+a3)))).fdiv (2^(min (1:Int).toNat IntKind.u64.bits)))) (IntKind.i64.wrap ((IntKind.i64.wrap ((IntKind.i64.wrap (((IntKind.u64.wrap (IntKind.i64.wrap (a1+a3)))).fdiv (2^(min (1:Int).toNat IntKind.u64.bits))))+a2))-v4.1)) a3 a4 a5 a6).bind fun p7=>some p7 else some p6 else some p6 else if ((decide ((IntKind.i64.wrap (((IntKind.u64.wrap (IntKind.i64.wrap (a1+a3)))).fdiv (2^(min (1:Int).toNat IntKind.u64.bits))))<(IntKind.i64.wrap ((IntKind.i64.wrap ((IntKind.i64.wrap (((IntKind.u64.wrap (IntKind.i64.wrap (a1+a3)))).fdiv (2^(min (1:Int).toNat IntKind.u64.bits))))+a2))-v4.1))))==true)=true then if (decide ((IntKind.i64.wrap ((IntKind.i64.wrap ((IntKind.i64.wrap (((IntKind.u64.wrap (IntKind.i64.wrap (a1+a3)))).fdiv (2^(min (1:Int).toNat IntKind.u64.bits))))+a2))-v4.1))<a3))=true then (j0 k a0 (IntKind.i64.wrap (((IntKind.u64.wrap (IntKind.i64.wrap (a1+a3)))).fdiv (2^(min (1:Int).toNat IntKind.u64.bits)))) (IntKind.i64.wrap ((IntKind.i64.wrap ((IntKind.i64.wrap (((IntKind.u64.wrap (IntKind.i64.wrap (a1+a3)))).fdiv (2^(min (1:Int).toNat IntKind.u64.bits))))+a2))-v4.1)) a3 a4 a5 a6).bind fun p8=>some p8 else some a0 else some a0 else if ((decide ((IntKind.i64.wrap (((IntKind.u64.wrap (IntKind.i64.wrap (a1+a3)))).fdiv (2^(min (1:Int).toNat IntKind.u64.bits))))<(IntKind.i64.wrap ((IntKind.i64.wrap ((IntKind.i64.wrap (((IntKind.u64.wrap (IntKind.i64.wrap (a1+a3)))).fdiv (2^(min (1:Int).toNat IntKind.u64.bits))))+a2))-v4.1))))==true)=true then if (decide ((IntKind.i64.wrap ((IntKind.i64.wrap ((IntKind.i64.wrap (((IntKind.u64.wrap (IntKind.i64.wrap (a1+a3)))).fdiv (2^(min (1:Int).toNat IntKind.u64.bits))))+a2))-v4.1))<a3))=true then (j0 k a0 (IntKind.i64.wrap (((IntKind.u64.wrap (IntKind.i64.wrap (a1+a3)))).fdiv (2^(min (1:Int).toNat IntKind.u64.bits)))) (IntKind.i64.wrap ((IntKind.i64.wrap ((IntKind.i64.wrap (((IntKind.u64.wrap (IntKind.i64.wrap (a1+a3)))).fdiv (2^(min (1:Int).toNat IntKind.u64.bits))))+a2))-v4.1)) a3 a4 a5 a6).bind fun p9=>some p9 else some a0 else some a0 else if ((decide (a1<v4.1))==true)=true then if (decide (v4.1<(IntKind.i64.wrap (((IntKind.u64.wrap (IntKind.i64.wrap (a1+a3)))).fdiv (2^(min (1:Int).toNat IntKind.u64.bits))))))=true then (j0 k a0 a1 v4.1 (IntKind.i64.wrap (((IntKind.u64.wrap (IntKind.i64.wrap (a1+a3)))).fdiv (2^(min (1:Int).toNat IntKind.u64.bits)))) a4 a5 a6).bind fun p10=>if ((decide ((IntKind.i64.wrap (((IntKind.u64.wrap (IntKind.i64.wrap (a1+a3)))).fdiv (2^(min (1:Int).toNat IntKind.u64.bits))))<(IntKind.i64.wrap ((IntKind.i64.wrap ((IntKind.i64.wrap (((IntKind.u64.wrap (IntKind.i64.wrap (a1+a3)))).fdiv (2^(min (1:Int).toNat IntKind.u64.bits))))+a2))-v4.1))))==true)=true then if (decide ((IntKind.i64.wrap ((IntKind.i64.wrap ((IntKind.i64.wrap (((IntKind.u64.wrap (IntKind.i64.wrap (a1+a3)))).fdiv (2^(min (1:Int).toNat IntKind.u64.bits))))+a2))-v4.1))<a3))=true then (j0 k p10 (IntKind.i64.wrap (((IntKind.u64.wrap (IntKind.i64.wrap (a1+a3)))).fdiv (2^(min (1:Int).toNat IntKind.u64.bits)))) (IntKind.i64.wrap ((IntKind.i64.wrap ((IntKind.i64.wrap (((IntKind.u64.wrap (IntKind.i64.wrap (a1+a3)))).fdiv (2^(min (1:Int).toNat IntKind.u64.bits))))+a2))-v4.1)) a3 a4 a5 a6).bind fun p11=>some p11 else some p10 else some p10 else if ((decide ((IntKind.i64.wrap (((IntKind.u64.wrap (IntKind.i64.wrap (a1+a3)))).fdiv (2^(min (1:Int).toNat IntKind.u64.bits))))<(IntKind.i64.wrap ((IntKind.i64.wrap ((IntKind.i64.wrap (((IntKind.u64.wrap (IntKind.i64.wrap (a1+a3)))).fdiv (2^(min (1:Int).toNat IntKind.u64.bits))))+a2))-v4.1))))==true)=true then if (decide ((IntKind.i64.wrap ((IntKind.i64.wrap ((IntKind.i64.wrap (((IntKind.u64.wrap (IntKind.i64.wrap (a1+a3)))).fdiv (2^(min (1:Int).toNat IntKind.u64.bits))))+a2))-v4.1))<a3))=true then (j0 k a0 (IntKind.i64.wrap (((IntKind.u64.wrap (IntKind.i64.wrap (a1+a3)))).fdiv (2^(min (1:Int).toNat IntKind.u64.bits)))) (IntKind.i64.wrap ((IntKind.i64.wrap ((IntKind.i64.wrap (((IntKind.u64.wrap (IntKind.i64.wrap (a1+a3)))).fdiv (2^(min (1:Int).toNat IntKind.u64.bits))))+a2))-v4.1)) a3 a4 a5 a6).bind fun p12=>some p12 else some a0 else some a0 else if ((decide ((IntKind.i64.wrap (((IntKind.u64.wrap (IntKind.i64.wrap (a1+a3)))).fdiv (2^(min (1:Int).toNat IntKind.u64.bits))))<(IntKind.i64.wrap ((IntKind.i64.wrap ((IntKind.i64.wrap (((IntKind.u64.wrap (IntKind.i64.wrap (a1+a3)))).fdiv (2^(min (1:Int).toNat IntKind.u64.bits))))+a2))-v4.1))))==true)=true then if (decide ((IntKind.i64.wrap ((IntKind.i64.wrap ((IntKind.i64.wrap (((IntKind.u64.wrap (IntKind.i64.wrap (a1+a3)))).fdiv (2^(min (1:Int).toNat IntKind.u64.bits))))+a2))-v4.1))<a3))=true then (j0 k a0 (IntKind.i64.wrap (((IntKind.u64.wrap (IntKind.i64.wrap (a1+a3)))).fdiv (2^(min (1:Int).toNat IntKind.u64.bits)))) (IntKind.i64.wrap ((IntKind.i64.wrap ((IntKind.i64.wrap (((IntKind.u64.wrap (IntKind.i64.wrap (a1+a3)))).fdiv (2^(min (1:Int).toNat IntKind.u64.bits))))+a2))-v4.1)) a3 a4 a5 a6).bind fun p13=>some p13 else some a0 else some a0) (a1,a2,a3,a4,a5,a6,(IntKind.i64.wrap (((IntKind.u64.wrap (IntKind.i64.wrap (a1+a3)))).fdiv (2^(min (1:Int).toNat IntKind.u64.bits)))),(IntKind.i64.wrap ((IntKind.i64.wrap (((IntKind.u64.wrap (IntKind.i64.wrap (a1+a3)))).fdiv (2^(min (1:Int).toNat IntKind.u64.bits))))+a2)),(IntKind.i64.wrap ((IntKind.i64.wrap ((IntKind.i64.wrap (((IntKind.u64.wrap (IntKind.i64.wrap (a1+a3)))).fdiv (2^(min (1:Int).toNat IntKind.u64.bits))))+a2))-1)),a0) k ((IntKind.i64.wrap ((IntKind.i64.wrap ((IntKind.i64.wrap (((IntKind.u64.wrap (IntKind.i64.wrap (a1+a3)))).fdiv (2^(min (1:Int).toNat IntKind.u64.bits))))+a2))-a3)),(IntKind.i64.wrap (((IntKind.u64.wrap (IntKind.i64.wrap (a1+a3)))).fdiv (2^(min (1:Int).toNat IntKind.u64.bits))))) else v6 k (fun (v4:I2)=>if ((decide (v4.1<a2))==true)=true then if (decide (a2<(IntKind.i64.wrap ((IntKind.i64.wrap ((IntKind.i64.wrap (((IntKind.u64.wrap (IntKind.i64.wrap (a1+a3)))).fdiv (2^(min (1:Int).toNat IntKind.u64.bits))))+a2))-v4.1))))=true then (wd k a0 v4.1 a2 (IntKind.i64.wrap ((IntKind.i64.wrap ((IntKind.i64.wrap (((IntKind.u64.wrap (IntKind.i64.wrap (a1+a3)))).fdiv (2^(min (1:Int).toNat IntKind.u64.bits))))+a2))-v4.1)) a4 a5 a6).bind fun p14=>if ((decide (a1<v4.1))==true)=true then if (decide (v4.1<(IntKind.i64.wrap (((IntKind.u64.wrap (IntKind.i64.wrap (a1+a3)))).fdiv (2^(min (1:Int).toNat IntKind.u64.bits))))))=true then (j0 k p14 a1 v4.1 (IntKind.i64.wrap (((IntKind.u64.wrap (IntKind.i64.wrap (a1+a3)))).fdiv (2^(min (1:Int).toNat IntKind.u64.bits)))) a4 a5 a6).bind fun p15=>if ((decide ((IntKind.i64.wrap (((IntKind.u64.wrap (IntKind.i64.wrap (a1+a3)))).fdiv (2^(min (1:Int).toNat IntKind.u64.bits))))<(IntKind.i64.wrap ((IntKind.i64.wrap ((IntKind.i64.wrap (((IntKind.u64.wrap (IntKind.i64.wrap (a1+a3)))).fdiv (2^(min (1:Int).toNat IntKind.u64.bits))))+a2))-v4.1))))==true)=true then if (decide ((IntKind.i64.wrap ((IntKind.i64.wrap ((IntKind.i64.wrap (((IntKind.u64.wrap (IntKind.i64.wrap (a1+a3)))).fdiv (2^(min (1:Int).toNat IntKind.u64.bits))))+a2))-v4.1))<a3))=true then (j0 k p15 (IntKind.i64.wrap (((IntKind.u64.wrap (IntKind.i64.wrap (a1+a3)))).fdiv (2^(min (1:Int).toNat IntKind.u64.bits)))) (IntKind.i64.wrap ((IntKind.i64.wrap ((IntKind.i64.wrap (((IntKind.u64.wrap (IntKind.i64.wrap (a1+a3)))).fdiv (2^(min (1:Int).toNat IntKind.u64.bits))))+a2))-v4.1)) a3 a4 a5 a6).bind fun p16=>some p16 else some p15 else some p15 else if ((decide ((IntKind.i64.wrap (((IntKind.u64.wrap (IntKind.i64.wrap (a1+a3)))).fdiv (2^(min (1:Int).toNat IntKind.u64.bits))))<(IntKind.i64.wrap ((IntKind.i64.wrap ((IntKind.i64.wrap (((IntKind.u64.wrap (IntKind.i64.wrap (a1+a3)))).fdiv (2^(min (1:Int).toNat IntKind.u64.bits))))+a2))-v4.1))))==true)=true then if (decide ((IntKind.i64.wrap ((IntKind.i64.wrap ((IntKind.i64.wrap (((IntKind.u64.wrap (IntKind.i64.wrap (a1+a3)))).fdiv (2^(min (1:Int).toNat IntKind.u64.bits))))+a2))-v4.1))<a3))=true then (j0 k p14 (IntKind.i64.wrap (((IntKind.u64.wrap (IntKind.i64.wrap (a1+a3)))).fdiv (2^(min (1:Int).toNat IntKind.u64.bits)))) (IntKind.i64.wrap ((IntKind.i64.wrap ((IntKind.i64.wrap (((IntKind.u64.wrap (IntKind.i64.wrap (a1+a3)))).fdiv (2^(min (1:Int).toNat IntKind.u64.bits))))+a2))-v4.1)) a3 a4 a5 a6).bind fun p17=>some p17 else some p14 else some p14 else if ((decide ((IntKind.i64.wrap (((IntKind.u64.wrap (IntKind.i64.wrap (a1+a3)))).fdiv (2^(min (1:Int).toNat IntKind.u64.bits))))<(IntKind.i64.wrap ((IntKind.i64.wrap ((IntKind.i64.wrap (((IntKind.u64.wrap (IntKind.i64.wrap (a1+a3)))).fdiv (2^(min (1:Int).toNat IntKind.u64.bits))))+a2))-v4.1))))==true)=true then if (decide ((IntKind.i64.wrap ((IntKind.i64.wrap ((IntKind.i64.wrap (((IntKind.u64.wrap (IntKind.i64.wrap (a1+a3)))).fdiv (2^(min (1:Int).toNat IntKind.u64.bits))))+a2))-v4.1))<a3))=true then (j0 k p14 (IntKind.i64.wrap (((IntKind.u64.wrap (IntKind.i64.wrap (a1+a3)))).fdiv (2^(min (1:Int).toNat IntKind.u64.bits)))) (IntKind.i64.wrap ((IntKind.i64.wrap ((IntKind.i64.wrap (((IntKind.u64.wrap (IntKind.i64.wrap (a1+a3)))).fdiv (2^(min (1:Int).toNat IntKind.u64.bits))))+a2))-v4.1)) a3 a4 a5 a6).bind fun p18=>some p18 else some p14 else some p14 else if ((decide (a1<v4.1))==true)=true then if (decide (v4.1<(IntKind.i64.wrap (((IntKind.u64.wrap (IntKind.i64.wrap (a1+a3)))).fdiv (2^(min (1:Int).toNat IntKind.u64.bits))))))=true then (j0 k a0 a1 v4.1 (IntKind.i64.wrap (((IntKind.u64.wrap (IntKind.i64.wrap (a1+a3)))).fdiv (2^(min (1:Int).toNat IntKind.u64.bits)))) a4 a5 a6).bind fun p19=>if ((decide ((IntKind.i64.wrap (((IntKind.u64.wrap (IntKind.i64.wrap (a1+a3)))).fdiv (2^(min (1:Int).toNat IntKind.u64.bits))))<(IntKind.i64.wrap ((IntKind.i64.wrap ((IntKind.i64.wrap (((IntKind.u64.wrap (IntKind.i64.wrap (a1+a3)))).fdiv (2^(min (1:Int).toNat IntKind.u64.bits))))+a2))-v4.1))))==true)=true then if (decide ((IntKind.i64.wrap ((IntKind.i64.wrap ((IntKind.i64.wrap (((IntKind.u64.wrap (IntKind.i64.wrap (a1+a3)))).fdiv (2^(min (1:Int).toNat IntKind.u64.bits))))+a2))-v4.1))<a3))=true then (j0 k p19 (IntKind.i64.wrap (((IntKind.u64.wrap (IntKind.i64.wrap (a1+a3)))).fdiv (2^(min (1:Int).toNat IntKind.u64.bits)))) (IntKind.i64.wrap ((IntKind.i64.wrap ((IntKind.i64.wrap (((IntKind.u64.wrap (IntKind.i64.wrap (a1+a3)))).fdiv (2^(min (1:Int).toNat IntKind.u64.bits))))+a2))-v4.1)) a3 a4 a5 a6).bind fun p20=>some p20 else some p19 else some p19 else if ((decide ((IntKind.i64.wrap (((IntKind.u64.wrap (IntKind.i64.wrap (a1+a3)))).fdiv (2^(min (1:Int).toNat IntKind.u64.bits))))<(IntKind.i64.wrap ((IntKind.i64.wrap ((IntKind.i64.wrap (((IntKind.u64.wrap (IntKind.i64.wrap (a1+a3)))).fdiv (2^(min (1:Int).toNat IntKind.u64.bits))))+a2))-v4.1))))==true)=true then if (decide ((IntKind.i64.wrap ((IntKind.i64.wrap ((IntKind.i64.wrap (((IntKind.u64.wrap (IntKind.i64.wrap (a1+a3)))).fdiv (2^(min (1:Int).toNat IntKind.u64.bits))))+a2))-v4.1))<a3))=true then (j0 k a0 (IntKind.i64.wrap (((IntKind.u64.wrap (IntKind.i64.wrap (a1+a3)))).fdiv (2^(min (1:Int).toNat IntKind.u64.bits)))) (IntKind.i64.wrap ((IntKind.i64.wrap ((IntKind.i64.wrap (((IntKind.u64.wrap (IntKind.i64.wrap (a1+a3)))).fdiv (2^(min (1:Int).toNat IntKind.u64.bits))))+a2))-v4.1)) a3 a4 a5 a6).bind fun p21=>some p21 else some a0 else some a0 else if ((decide ((IntKind.i64.wrap (((IntKind.u64.wrap (IntKind.i64.wrap (a1+a3)))).fdiv (2^(min (1:Int).toNat IntKind.u64.bits))))<(IntKind.i64.wrap ((IntKind.i64.wrap ((IntKind.i64.wrap (((IntKind.u64.wrap (IntKind.i64.wrap (a1+a3)))).fdiv (2^(min (1:Int).toNat IntKind.u64.bits))))+a2))-v4.1))))==true)=true then if (decide ((IntKind.i64.wrap ((IntKind.i64.wrap ((IntKind.i64.wrap (((IntKind.u64.wrap (IntKind.i64.wrap (a1+a3)))).fdiv (2^(min (1:Int).toNat IntKind.u64.bits))))+a2))-v4.1))<a3))=true then (j0 k a0 (IntKind.i64.wrap (((IntKind.u64.wrap (IntKind.i64.wrap (a1+a3)))).fdiv (2^(min (1:Int).toNat IntKind.u64.bits)))) (IntKind.i64.wrap ((IntKind.i64.wrap ((IntKind.i64.wrap (((IntKind.u64.wrap (IntKind.i64.wrap (a1+a3)))).fdiv (2^(min (1:Int).toNat IntKind.u64.bits))))+a2))-v4.1)) a3 a4 a5 a6).bind fun p22=>some p22 else some a0 else some a0 else if ((decide (a1<v4.1))==true)=true then if (decide (v4.1<(IntKind.i64.wrap (((IntKind.u64.wrap (IntKind.i64.wrap (a1+a3)))).fdiv (2^(min (1:Int).toNat IntKind.u64.bits))))))=true then (j0 k a0 a1 v4.1 (IntKind.i64.wrap (((IntKind.u64.wrap (IntKind.i64.wrap (a1+a3)))).fdiv (2^(min (1:Int).toNat IntKind.u64.bits)))) a4 a5 a6).bind fun p23=>if ((decide ((IntKind.i64.wrap (((IntKind.u64.wrap (IntKind.i64.wrap (a1+a3)))).fdiv (2^(min (1:Int).toNat IntKind.u64.bits))))<(IntKind.i64.wrap ((IntKind.i64.wrap ((IntKind.i64.wrap (((IntKind.u64.wrap (IntKind.i64.wrap (a1+a3)))).fdiv (2^(min (1:Int).toNat IntKind.u64.bits))))+a2))-v4.1))))==true)=true then if (decide ((IntKind.i64.wrap ((IntKind.i64.wrap ((IntKind.i64.wrap (((IntKind.u64.wrap (IntKind.i64.wrap (a1+a3)))).fdiv (2^(min (1:Int).toNat IntKind.u64.bits))))+a2))-v4.1))<a3))=true then (j0 k p23 (IntKind.i64.wrap (((IntKind.u64.wrap (IntKind.i64.wrap (a1+a3)))).fdiv (2^(min (1:Int).toNat IntKind.u64.bits)))) (IntKind.i64.wrap ((IntKind.i64.wrap ((IntKind.i64.wrap (((IntKind.u64.wrap (IntKind.i64.wrap (a1+a3)))).fdiv (2^(min (1:Int).toNat IntKind.u64.bits))))+a2))-v4.1)) a3 a4 a5 a6).bind fun p24=>some p24 else some p23 else some p23 else if ((decide ((IntKind.i64.wrap (((IntKind.u64.wrap (IntKind.i64.wrap (a1+a3)))).fdiv (2^(min (1:Int).toNat IntKind.u64.bits))))<(IntKind.i64.wrap ((IntKind.i64.wrap ((IntKind.i64.wrap (((IntKind.u64.wrap (IntKind.i64.wrap (a1+a3)))).fdiv (2^(min (1:Int).toNat IntKind.u64.bits))))+a2))-v4.1))))==true)=true then if (decide ((IntKind.i64.wrap ((IntKind.i64.wrap ((IntKind.i64.wrap (((IntKind.u64.wrap (IntKind.i64.wrap (a1+a3)))).fdiv (2^(min (1:Int).toNat IntKind.u64.bits))))+a2))-v4.1))<a3))=true then (j0 k a0 (IntKind.i64.wrap (((IntKind.u64.wrap (IntKind.i64.wrap (a1+a3)))).fdiv (2^(min (1:Int).toNat IntKind.u64.bits)))) (IntKind.i64.wrap ((IntKind.i64.wrap ((IntKind.i64.wrap (((IntKind.u64.wrap (IntKind.i64.wrap (a1+a3)))).fdiv (2^(min (1:Int).toNat IntKind.u64.bits))))+a2))-v4.1)) a3 a4 a5 a6).bind fun p25=>some p25 else some a0 else some a0 else if ((decide ((IntKind.i64.wrap (((IntKind.u64.wrap (IntKind.i64.wrap (a1+a3)))).fdiv (2^(min (1:Int).toNat IntKind.u64.bits))))<(IntKind.i64.wrap ((IntKind.i64.wrap ((IntKind.i64.wrap (((IntKind.u64.wrap (IntKind.i64.wrap (a1+a3)))).fdiv (2^(min (1:Int).toNat IntKind.u64.bits))))+a2))-v4.1))))==true)=true then if (decide ((IntKind.i64.wrap ((IntKind.i64.wrap ((IntKind.i64.wrap (((IntKind.u64.wrap (IntKind.i64.wrap (a1+a3)))).fdiv (2^(min (1:Int).toNat IntKind.u64.bits))))+a2))-v4.1))<a3))=true then (j0 k a0 (IntKind.i64.wrap (((IntKind.u64.wrap (IntKind.i64.wrap (a1+a3)))).fdiv (2^(min (1:Int).toNat IntKind.u64.bits)))) (IntKind.i64.wrap ((IntKind.i64.wrap ((IntKind.i64.wrap (((IntKind.u64.wrap (IntKind.i64.wrap (a1+a3)))).fdiv (2^(min (1:Int).toNat IntKind.u64.bits))))+a2))-v4.1)) a3 a4 a5 a6).bind fun p26=>some p26 else some a0 else some a0) (a1,a2,a3,a4,a5,a6,(IntKind.i64.wrap (((IntKind.u64.wrap (IntKind.i64.wrap (a1+a3)))).fdiv (2^(min (1:Int).toNat IntKind.u64.bits)))),(IntKind.i64.wrap ((IntKind.i64.wrap (((IntKind.u64.wrap (IntKind.i64.wrap (a1+a3)))).fdiv (2^(min (1:Int).toNat IntKind.u64.bits))))+a2)),(IntKind.i64.wrap ((IntKind.i64.wrap ((IntKind.i64.wrap (((IntKind.u64.wrap (IntKind.i64.wrap (a1+a3)))).fdiv (2^(min (1:Int).toNat IntKind.u64.bits))))+a2))-1)),a0) k (a1,a2):=by
 rw [wv1]
 simp only [yv1,zw1]
 kernel_rfl
noncomputable def jm (k:Nat) (a0:List Int) (a1:Int) (a2:Int) (a3:List Int) (a4:List Int):Option (List Int):=den E k 387 [.c (.l 3 (.i .i64) a0),cI a1,.c (.clo 350 [.at_ [vI a2,.l 3 (.i .i64) a3,.l 3 (.i .i64) a4]])]
abbrev yj:Type:=Int×Int×(List Int)×(List Int)×Int
abbrev yc:Type:=Int×Int×(List Int)
def j81 (c2:yj) (v2:yc):St:=⟨63,1,[(0,.c (.ref 0)),(1,cI c2.1),(2,.c (.clo 350 [.at_ [vI c2.2.1,.l 3 (.i .i64) c2.2.2.1,.l 3 (.i .i64) c2.2.2.2.1]])),(6,cI c2.2.2.2.2),(7,cI v2.1),(8,cI v2.2.1)],[(0,.arr 3 (.i .i64) v2.2.2)]⟩
noncomputable def xa1 {R:Type} (k:Nat) (X0:yc→Option R) (c2:yj) (rec:yc→Option R) (v2:yc):Option R:=if (decide (v2.2.1≤c2.1))=true then (j0 k v2.2.2 v2.1 (IntKind.i64.wrap (v2.1+c2.2.2.2.2)) v2.2.1 c2.2.1 c2.2.2.1 c2.2.2.2.1).bind fun p2=>rec (v2.2.1,(IntKind.i64.wrap (v2.2.1+(IntKind.i64.wrap (2*c2.2.2.2.2)))),p2) else X0 v2
noncomputable def xl {R:Type} (k:Nat) (X0:yc→Option R) (c:yj):Nat→yc→Option R
 | 0,_=>none
 | n+1,v=>xa1 k X0 c (xl k X0 c n) v
def y61 {R:Type} (K:Ex→St→Option R) (c2:yj) (v2:yc):Option R:=K (.exit 4) ⟨63,1,[(0,.c (.ref 0)),(1,cI c2.1),(2,.c (.clo 350 [.at_ [vI c2.2.1,.l 3 (.i .i64) c2.2.2.1,.l 3 (.i .i64) c2.2.2.2.1]])),(6,cI c2.2.2.2.2),(7,cI v2.1),(8,cI v2.2.1),(33,cI v2.2.1),(34,cI c2.1),(35,cB (decide (v2.2.1≤c2.1)))],[(0,.arr 3 (.i .i64) v2.2.2)]⟩
theorem lgstableCmpFunc_intv_iAltsOf_1_2 {R:Type} (k:Nat) (K:Ex→St→Option R) (c2:yj):∀(n:Nat) (v:yc),z2 [1,0,1,2,6,7,8] (run E (den E k) (lv 387) k (j1 Tryz.f387 2)) n (j81 c2 v) K=xl k (y61 K c2) c2 n v:=j4 (B:=xa1 k (y61 K c2) c2) (fun _=>rfl) (fun n v=>by kernel_rfl) (fun _=>rfl) (fun _ _=>rfl)
abbrev ze:Type:=Int×Int×(List Int)×(List Int)
abbrev j8:Type:=Int×Int×Int×(List Int)
def wi (c1:ze) (v1:j8):St:=⟨63,1,[(0,.c (.ref 0)),(1,cI c1.1),(2,.c (.clo 350 [.at_ (avs y9 c1.2)])),(6,cI v1.1),(7,cI v1.2.1),(8,cI v1.2.2.1)],[(0,.arr 3 (.i .i64) v1.2.2.2)]⟩
noncomputable def wt {R:Type} (k:Nat) (X0:j8→Option R) (c1:ze) (rec:j8→Option R) (v1:j8):Option R:=if (decide (v1.1<c1.1))=true then xl k (fun (v2:Int×Int×(List Int))=>if (decide ((IntKind.i64.wrap (v2.1+v1.1))<c1.1))=true then (j0 k v2.2.2 v2.1 (IntKind.i64.wrap (v2.1+v1.1)) c1.1 c1.2.1 c1.2.2.1 c1.2.2.2).bind fun p2=>rec ((IntKind.i64.wrap (v1.1*2)),v2.1,v2.2.1,p2) else rec ((IntKind.i64.wrap (v1.1*2)),v2.1,v2.2.1,v2.2.2)) (c1.1,c1.2.1,c1.2.2.1,c1.2.2.2,v1.1) k (0,(IntKind.i64.wrap (2*v1.1)),v1.2.2.2) else X0 v1
noncomputable def jb {R:Type} (k:Nat) (X0:j8→Option R) (c:ze):Nat→j8→Option R
 | 0,_=>none
 | n+1,v=>wt k X0 c (jb k X0 c n) v
def yp {R:Type} (K:Ex→St→Option R) (c1:ze) (v1:j8):Option R:=K (.exit 2) ⟨63,1,[(0,.c (.ref 0)),(1,cI c1.1),(2,.c (.clo 350 [.at_ (avs y9 c1.2)])),(6,cI v1.1),(7,cI v1.2.1),(8,cI v1.2.2.1),(28,cI v1.1),(29,cI c1.1),(30,cB (decide (v1.1<c1.1)))],[(0,.arr 3 (.i .i64) v1.2.2.2)]⟩
theorem jr1 {R:Type} (k n:Nat) (K:Ex→St→Option R) (c1:ze) (v1:j8):z2 [1,0,1,2,6,7,8] (run E (den E k) (lv 387) k (j1 Tryz.f387 1)) (n+1) (wi c1 v1) K=if (decide (v1.1<c1.1))=true then z2 [1,0,1,2,6,7,8] (run E (den E k) (lv 387) k (j1 Tryz.f387 2)) k (j81 (c1.1,c1.2.1,c1.2.2.1,c1.2.2.2,v1.1) (0,(IntKind.i64.wrap (2*v1.1)),v1.2.2.2)) (zb E (den E k) (lv 387) k (.loop (j1 Tryz.f387 1)) (2-1) [(n,[1,0,1,2,6,7,8])] K) else K (.exit 2) ⟨63,1,[(0,.c (.ref 0)),(1,cI c1.1),(2,.c (.clo 350 [.at_ (avs y9 c1.2)])),(6,cI v1.1),(7,cI v1.2.1),(8,cI v1.2.2.1),(28,cI v1.1),(29,cI c1.1),(30,cB (decide (v1.1<c1.1)))],[(0,.arr 3 (.i .i64) v1.2.2.2)]⟩:=by kernel_rfl
theorem bgstableCmpFunc_intv_iAltsOf_1_1 {R:Type} (k n:Nat) (K:Ex→St→Option R) (c1:ze) (v:j8):z2 [1,0,1,2,6,7,8] (run E (den E k) (lv 387) k (j1 Tryz.f387 1)) (n+1) (wi c1 v) K=wt k (yp K c1) c1 (fun v=>z2 [1,0,1,2,6,7,8] (run E (den E k) (lv 387) k (j1 Tryz.f387 1)) n (wi c1 v) K) v:=by
 rw [jr1]
 simp only [lgstableCmpFunc_intv_iAltsOf_1_2]
 kernel_rfl
theorem lgstableCmpFunc_intv_iAltsOf_1_1 {R:Type} (k:Nat) (K:Ex→St→Option R) (c1:ze):∀(n:Nat) (v:j8),z2 [1,0,1,2,6,7,8] (run E (den E k) (lv 387) k (j1 Tryz.f387 1)) n (wi c1 v) K=jb k (yp K c1) c1 n v:=j4 (B:=wt k (yp K c1) c1) (fun _=>rfl) (fun n v=>bgstableCmpFunc_intv_iAltsOf_1_1 k n K c1 v) (fun _=>rfl) (fun _ _=>rfl)
abbrev zj:Type:=Int×Int×(List Int)×(List Int)×Int
abbrev xb:Type:=Int×Int×(List Int)
def w71 (c0:zj) (v0:xb):St:=⟨63,1,[(0,.c (.ref 0)),(1,cI c0.1),(2,.c (.clo 350 [.at_ [vI c0.2.1,.l 3 (.i .i64) c0.2.2.1,.l 3 (.i .i64) c0.2.2.2.1]])),(6,cI c0.2.2.2.2),(7,cI v0.1),(8,cI v0.2.1)],[(0,.arr 3 (.i .i64) v0.2.2)]⟩
noncomputable def w91 {R:Type} (k:Nat) (X0:xb→Option R) (c0:zj) (rec:xb→Option R) (v0:xb):Option R:=if (decide (v0.2.1≤c0.1))=true then (yb k v0.2.2 v0.1 v0.2.1 c0.2.1 c0.2.2.1 c0.2.2.2.1).bind fun p1=>rec (v0.2.1,(IntKind.i64.wrap (v0.2.1+c0.2.2.2.2)),p1) else X0 v0
noncomputable def xj {R:Type} (k:Nat) (X0:xb→Option R) (c:zj):Nat→xb→Option R
 | 0,_=>none
 | n+1,v=>w91 k X0 c (xj k X0 c n) v
def j51 {R:Type} (K:Ex→St→Option R) (c0:zj) (v0:xb):Option R:=K (.exit 0) ⟨63,1,[(0,.c (.ref 0)),(1,cI c0.1),(2,.c (.clo 350 [.at_ [vI c0.2.1,.l 3 (.i .i64) c0.2.2.1,.l 3 (.i .i64) c0.2.2.2.1]])),(6,cI c0.2.2.2.2),(7,cI v0.1),(8,cI v0.2.1),(11,cI v0.2.1),(12,cI c0.1),(13,cB (decide (v0.2.1≤c0.1)))],[(0,.arr 3 (.i .i64) v0.2.2)]⟩
theorem lgstableCmpFunc_intv_iAltsOf_1_0 {R:Type} (k:Nat) (K:Ex→St→Option R) (c0:zj):∀(n:Nat) (v:xb),z2 [1,0,1,2,6,7,8] (run E (den E k) (lv 387) k (j1 Tryz.f387 0)) n (w71 c0 v) K=xj k (j51 K c0) c0 n v:=j4 (B:=w91 k (j51 K c0) c0) (fun _=>rfl) (fun n v=>by kernel_rfl) (fun _=>rfl) (fun _ _=>rfl)
theorem mgstableCmpFunc_intv_iAltsOf_1_0 (k:Nat) (a0:List Int) (a1:Int) (a2:Int) (a3:List Int) (a4:List Int):jm (k+1) a0 a1 a2 a3 a4=z2 (R:=List Int) [1,0,1,2,6,7,8] (run E (den E k) (lv 387) k (j1 Tryz.f387 0)) k (w71 (a1,a2,a3,a4,20) (0,20,a0)) (zb E (den E k) (lv 387) k (yd Tryz.f387) 0 [] (zd E (rs 387) Tryz.f387:Ex→St→Option (List Int))):=by kernel_rfl
theorem mgstableCmpFunc_intv_iAltsOf_1_1 (k:Nat) (a0:List Int) (a1:Int) (a2:Int) (a3:List Int) (a4:List Int):jm (k+1) a0 a1 a2 a3 a4=xj k (fun (v0:Int×Int×(List Int))=>(yb k v0.2.2 v0.1 a1 a2 a3 a4).bind fun p1=>z2 (R:=List Int) [1,0,1,2,6,7,8] (run E (den E k) (lv 387) k (j1 Tryz.f387 1)) k (wi (a1,a2,a3,a4) (20,v0.1,v0.2.1,p1)) (zb E (den E k) (lv 387) k (yd Tryz.f387) 1 [] (zd E (rs 387) Tryz.f387:Ex→St→Option (List Int)))) (a1,a2,a3,a4,20) k (0,20,a0):=by 
 rw [mgstableCmpFunc_intv_iAltsOf_1_0]
 simp only [lgstableCmpFunc_intv_iAltsOf_1_0]
 kernel_rfl
theorem egstableCmpFunc_intv_iAltsOf_1 (k:Nat) (a0:List Int) (a1:Int) (a2:Int) (a3:List Int) (a4:List Int):jm (k+1) a0 a1 a2 a3 a4=xj k (fun (v0:Int×Int×(List Int))=>(yb k v0.2.2 v0.1 a1 a2 a3 a4).bind fun p1=>jb k (fun (v1:Int×Int×Int×(List Int))=>some v1.2.2.2) (a1,a2,a3,a4) k (20,v0.1,v0.2.1,p1)) (a1,a2,a3,a4,20) k (0,20,a0):=by
 rw [mgstableCmpFunc_intv_iAltsOf_1_1]
 simp only [lgstableCmpFunc_intv_iAltsOf_1_1]
 kernel_rfl
noncomputable def y5 (k:Nat) (a0:List Int) (a1:Int) (a2:List Int) (a3:List Int):Option (List Int):=den E k 349 [.c (.l 3 (.i .i64) a0),.c (.clo 350 [.at_ [vI a1,.l 3 (.i .i64) a2,.l 3 (.i .i64) a3]])]
theorem egSortStableFunc_intv_iAltsOf_1 (k:Nat) (a0:List Int) (a1:Int) (a2:List Int) (a3:List Int):y5 (k+1) a0 a1 a2 a3=(jm k a0 (a0.length:Int) a1 a2 a3).bind fun p1=>some p1:=by kernel_rfl
noncomputable def vw1 (k:Nat) (a0:List Int):Option (List Int):=den E k 386 [.c (.l 3 (.i .i64) a0)]
theorem egCompact_int (k:Nat) (a0:List Int):vw1 (k+1) a0=some (compactB a0):=by kernel_rfl
noncomputable def FgSort_int (k:Nat) (a0:List Int):Option (List Int):=den E k 185 [.c (.l 3 (.i .i64) a0)]
theorem egSort_int (k:Nat) (a0:List Int):FgSort_int (k+1) a0=if a0.length≤1099511627776 then some (sortB a0) else none:=by kernel_rfl
noncomputable def xx1 (k:Nat) (a0:List I2) (a1:Int):Option (List Int):=den E k 348 [.c (.l 348 sI2 a0),cI a1]
abbrev vj1:Type:=Int×(List I2)×Int
abbrev ju:Type:=Int×(List Int)
def StiNeighborsIn_0 (c0:vj1) (v0:ju):St:=⟨38,1,[(1,cI c0.1),(5,.c (.ref 0)),(9,.c (.l 348 sI2 c0.2.1)),(10,cI c0.2.2),(11,cI v0.1)],[(0,.arr 3 (.i .i64) v0.2)]⟩
noncomputable def BiNeighborsIn_0 {R:Type} (k:Nat) (X0:ju→Option R) (c0:vj1) (rec:ju→Option R) (v0:ju):Option R:=if (decide (v0.1<c0.2.2))=true then if 0≤v0.1 then ix c0.2.1 v0.1.toNat fun x1=>if (x1.1==c0.1)=true then if (v0.2.length+([x1.2]).length)*8≤140737488355328 then if (x1.2==c0.1)=true then if ((v0.2++[x1.2]).length+([x1.1]).length)*8≤140737488355328 then rec ((IntKind.i64.wrap (v0.1+1)),((v0.2++[x1.2])++[x1.1])) else none else rec ((IntKind.i64.wrap (v0.1+1)),(v0.2++[x1.2])) else none else if (x1.2==c0.1)=true then if (v0.2.length+([x1.1]).length)*8≤140737488355328 then rec ((IntKind.i64.wrap (v0.1+1)),(v0.2++[x1.1])) else none else rec ((IntKind.i64.wrap (v0.1+1)),v0.2) else none else X0 v0
noncomputable def yx1 {R:Type} (k:Nat) (X0:ju→Option R) (c:vj1):Nat→ju→Option R
 | 0,_=>none
 | n+1,v=>BiNeighborsIn_0 k X0 c (yx1 k X0 c n) v
def YiNeighborsIn_0_0 {R:Type} (K:Ex→St→Option R) (c0:vj1) (v0:ju):Option R:=K (.exit 0) ⟨38,1,[(1,cI c0.1),(5,.c (.ref 0)),(9,.c (.l 348 sI2 c0.2.1)),(10,cI c0.2.2),(11,cI v0.1),(12,cB (decide (v0.1<c0.2.2)))],[(0,.arr 3 (.i .i64) v0.2)]⟩
theorem liNeighborsIn_0 {R:Type} (k:Nat) (K:Ex→St→Option R) (c0:vj1):∀(n:Nat) (v:ju),z2 [0,1,5,9,10,11] (run E (den E k) (lv 348) k (j1 Tryz.f348 0)) n (StiNeighborsIn_0 c0 v) K=yx1 k (YiNeighborsIn_0_0 K c0) c0 n v:=j4 (B:=BiNeighborsIn_0 k (YiNeighborsIn_0_0 K c0) c0) (fun _=>rfl) (fun n v=>by kernel_rfl) (fun _=>rfl) (fun _ _=>rfl)
theorem miNeighborsIn_0 (k:Nat) (a0:List I2) (a1:Int):xx1 (k+1) a0 a1=z2 (R:=List Int) [0,1,5,9,10,11] (run E (den E k) (lv 348) k (j1 Tryz.f348 0)) k (StiNeighborsIn_0 (a1,a0,(a0.length:Int)) (0,[])) (zb E (den E k) (lv 348) k (yd Tryz.f348) 0 [] (zd E (rs 348) Tryz.f348:Ex→St→Option (List Int))):=by kernel_rfl
theorem eiNeighborsIn (k:Nat) (a0:List I2) (a1:Int):xx1 (k+1) a0 a1=yx1 k (fun (v0:Int×(List Int))=>(FgSort_int k v0.2).bind fun p1=>(vw1 k p1).bind fun p2=>some p2) (a1,a0,(a0.length:Int)) k (0,[]):=by
 rw [miNeighborsIn_0]
 simp only [liNeighborsIn_0]
 kernel_rfl
noncomputable def FiAltsOf (k:Nat) (a0:Int×(List Int)×List Int) (a1:List I2) (a2:Int) (a3:Int):Option (List Int):=den E k 280 [.agg (avs y9 a0),.c (.l 348 sI2 a1),cI a2,cI a3]
abbrev CiAltsOf_0:Type:=Int×Int×Int×(Int×(List Int)×List Int)×(List Int)
abbrev xu1:Type:=Int×(List Int)
def StiAltsOf_0 (c0:CiAltsOf_0) (v0:xu1):St:=⟨91,3,[(2,cI c0.1),(3,cI c0.2.1),(4,cP 0),(9,.c (.ref 1)),(30,.c (.ref 2)),(31,cI c0.2.2.1),(32,cI v0.1)],[(0,.var (avs y9 c0.2.2.2.1)),(1,.arr 3 (.i .i64) v0.2),(2,.arr 3 (.i .i64) c0.2.2.2.2)]⟩
noncomputable def BiAltsOf_0 {R:Type} (k:Nat) (X0:xu1→Option R) (c0:CiAltsOf_0) (rec:xu1→Option R) (v0:xu1):Option R:=if (decide (v0.1<c0.2.2.1))=true then if 0≤v0.1 then if v0.1<(c0.2.2.2.2.length:Int) then ix c0.2.2.2.2 v0.1.toNat fun x4=>if 0≤c0.2.1 then ix c0.2.2.2.1.2.2 c0.2.1.toNat fun x5=>if ((x4 !=x5)==true)=true then if ((decide (x4<c0.1))==false)=true then if ((x4==c0.2.2.2.1.1)==true)=true then (zn k x4 (c0.2.2.2.1.2.1.length:Int)).bind fun p6=>if (p6==true)=true then if 0≤x4 then ix c0.2.2.2.1.2.1 x4.toNat fun x7=>if ((decide (x7≥0))==true)=true then if 0≤x4 then ix c0.2.2.2.1.2.1 x4.toNat fun x8=>if 0≤c0.2.1 then ix c0.2.2.2.1.2.1 c0.2.1.toNat fun x9=>if (decide (x8<x9))=true then if (v0.2.length+([x4]).length)*8≤140737488355328 then rec ((IntKind.i64.wrap (v0.1+1)),(v0.2++[x4])) else none else rec ((IntKind.i64.wrap (v0.1+1)),v0.2) else none else none else rec ((IntKind.i64.wrap (v0.1+1)),v0.2) else none else rec ((IntKind.i64.wrap (v0.1+1)),v0.2) else rec ((IntKind.i64.wrap (v0.1+1)),v0.2) else (zn k x4 (c0.2.2.2.1.2.1.length:Int)).bind fun p10=>if (p10==true)=true then if 0≤x4 then ix c0.2.2.2.1.2.1 x4.toNat fun x11=>if ((decide (x11≥0))==true)=true then if 0≤x4 then ix c0.2.2.2.1.2.1 x4.toNat fun x12=>if 0≤c0.2.1 then ix c0.2.2.2.1.2.1 c0.2.1.toNat fun x13=>if (decide (x12<x13))=true then if (v0.2.length+([x4]).length)*8≤140737488355328 then rec ((IntKind.i64.wrap (v0.1+1)),(v0.2++[x4])) else none else rec ((IntKind.i64.wrap (v0.1+1)),v0.2) else none else none else rec ((IntKind.i64.wrap (v0.1+1)),v0.2) else none else rec ((IntKind.i64.wrap (v0.1+1)),v0.2) else rec ((IntKind.i64.wrap (v0.1+1)),v0.2) else none else none else none else X0 v0
noncomputable def jm1 {R:Type} (k:Nat) (X0:xu1→Option R) (c:CiAltsOf_0):Nat→xu1→Option R
 | 0,_=>none
 | n+1,v=>BiAltsOf_0 k X0 c (jm1 k X0 c n) v
def YiAltsOf_0_0 {R:Type} (K:Ex→St→Option R) (c0:CiAltsOf_0) (v0:xu1):Option R:=K (.exit 0) ⟨91,3,[(2,cI c0.1),(3,cI c0.2.1),(4,cP 0),(9,.c (.ref 1)),(30,.c (.ref 2)),(31,cI c0.2.2.1),(32,cI v0.1),(33,cB (decide (v0.1<c0.2.2.1)))],[(0,.var (avs y9 c0.2.2.2.1)),(1,.arr 3 (.i .i64) v0.2),(2,.arr 3 (.i .i64) c0.2.2.2.2)]⟩
theorem liAltsOf_0 {R:Type} (k:Nat) (K:Ex→St→Option R) (c0:CiAltsOf_0):∀(n:Nat) (v:xu1),z2 [0,2,3,4,9,30,31,32] (run E (den E k) (lv 280) k (j1 Tryz.f280 0)) n (StiAltsOf_0 c0 v) K=jm1 k (YiAltsOf_0_0 K c0) c0 n v:=j4 (B:=BiAltsOf_0 k (YiAltsOf_0_0 K c0) c0) (fun _=>rfl) (fun n v=>by kernel_rfl) (fun _=>rfl) (fun _ _=>rfl)
theorem miAltsOf_0 (k:Nat) (a0:Int×(List Int)×List Int) (a1:List I2) (a2:Int) (a3:Int):FiAltsOf (k+1) a0 a1 a2 a3=(zn k a3 (a0.2.1.length:Int)).bind fun p1=>if ((!p1)==false)=true then (zn k a3 (a0.2.2.length:Int)).bind fun p2=>if (!p2)=true then some ([]) else (xx1 k a1 a3).bind fun p3=>z2 (R:=List Int) [0,2,3,4,9,30,31,32] (run E (den E k) (lv 280) k (j1 Tryz.f280 0)) k (StiAltsOf_0 (a2,a3,(p3.length:Int),a0,p3) (0,[])) (zb E (den E k) (lv 280) k (yd Tryz.f280) 0 [] (zd E (rs 280) Tryz.f280:Ex→St→Option (List Int))) else some ([]):=by kernel_rfl
theorem eiAltsOf (k:Nat) (a0:Int×(List Int)×List Int) (a1:List I2) (a2:Int) (a3:Int):FiAltsOf (k+1) a0 a1 a2 a3=(zn k a3 (a0.2.1.length:Int)).bind fun p1=>if ((!p1)==false)=true then (zn k a3 (a0.2.2.length:Int)).bind fun p2=>if (!p2)=true then some ([]) else (xx1 k a1 a3).bind fun p3=>jm1 k (fun (v0:Int×(List Int))=>(y5 k v0.2 a0.1 a0.2.1 a0.2.2).bind fun p4=>some p4) (a2,a3,(p3.length:Int),a0,p3) k (0,[]) else some ([]):=by
 rw [miAltsOf_0]
 simp only [liAltsOf_0]
 kernel_rfl
noncomputable def FiPiecesIn (k:Nat) (a0:j2) (a1:Int) (a2:Int):Option (List Int):=den E k 345 [.agg (avs z7 a0),cI a1,cI a2]
abbrev CiPiecesIn_0:Type:=Int×Int×(List zf)×Int
abbrev je1:Type:=Int×(List Int)
def StiPiecesIn_0 (c0:CiPiecesIn_0) (v0:je1):St:=⟨47,1,[(1,cI c0.1),(2,cI c0.2.1),(7,.c (.ref 0)),(12,.c (.l 198 wk c0.2.2.1)),(13,cI c0.2.2.2),(14,cI v0.1)],[(0,.arr 3 (.i .i64) v0.2)]⟩
noncomputable def BiPiecesIn_0 {R:Type} (k:Nat) (X0:je1→Option R) (c0:CiPiecesIn_0) (rec:je1→Option R) (v0:je1):Option R:=if (decide (v0.1<c0.2.2.2))=true then if 0≤v0.1 then ix c0.2.2.1 v0.1.toNat fun x1=>(FiIsSpan k x1.1).bind fun p2=>if (p2==true)=true then if ((decide (c0.1≤c0.2.1))==true)=true then if ((decide (x1.1.1≤c0.2.1))==true)=true then if (decide (x1.1.2>c0.1))=true then if (v0.2.length+([v0.1]).length)*8≤140737488355328 then rec ((IntKind.i64.wrap (v0.1+1)),(v0.2++[v0.1])) else none else rec ((IntKind.i64.wrap (v0.1+1)),v0.2) else rec ((IntKind.i64.wrap (v0.1+1)),v0.2) else rec ((IntKind.i64.wrap (v0.1+1)),v0.2) else rec ((IntKind.i64.wrap (v0.1+1)),v0.2) else none else X0 v0
noncomputable def LiPiecesIn_0 {R:Type} (k:Nat) (X0:je1→Option R) (c:CiPiecesIn_0):Nat→je1→Option R
 | 0,_=>none
 | n+1,v=>BiPiecesIn_0 k X0 c (LiPiecesIn_0 k X0 c n) v
def YiPiecesIn_0_0 {R:Type} (K:Ex→St→Option R) (c0:CiPiecesIn_0) (v0:je1):Option R:=K (.exit 0) ⟨47,1,[(1,cI c0.1),(2,cI c0.2.1),(7,.c (.ref 0)),(12,.c (.l 198 wk c0.2.2.1)),(13,cI c0.2.2.2),(14,cI v0.1),(15,cB (decide (v0.1<c0.2.2.2)))],[(0,.arr 3 (.i .i64) v0.2)]⟩
theorem liPiecesIn_0 {R:Type} (k:Nat) (K:Ex→St→Option R) (c0:CiPiecesIn_0):∀(n:Nat) (v:je1),z2 [0,1,2,7,12,13,14] (run E (den E k) (lv 345) k (j1 Tryz.f345 0)) n (StiPiecesIn_0 c0 v) K=LiPiecesIn_0 k (YiPiecesIn_0_0 K c0) c0 n v:=j4 (B:=BiPiecesIn_0 k (YiPiecesIn_0_0 K c0) c0) (fun _=>rfl) (fun n v=>by kernel_rfl) (fun _=>rfl) (fun _ _=>rfl)
theorem miPiecesIn_0 (k:Nat) (a0:j2) (a1:Int) (a2:Int):FiPiecesIn (k+1) a0 a1 a2=z2 (R:=List Int) [0,1,2,7,12,13,14] (run E (den E k) (lv 345) k (j1 Tryz.f345 0)) k (StiPiecesIn_0 (a1,a2,a0.2.2.2,(a0.2.2.2.length:Int)) (0,[])) (zb E (den E k) (lv 345) k (yd Tryz.f345) 0 [] (zd E (rs 345) Tryz.f345:Ex→St→Option (List Int))):=by kernel_rfl
theorem eiPiecesIn (k:Nat) (a0:j2) (a1:Int) (a2:Int):FiPiecesIn (k+1) a0 a1 a2=LiPiecesIn_0 k (fun (v0:Int×(List Int))=>some v0.2) (a1,a2,a0.2.2.2,(a0.2.2.2.length:Int)) k (0,[]):=by
 rw [miPiecesIn_0]
 simp only [liPiecesIn_0]
 kernel_rfl
noncomputable def FgClone_int (k:Nat) (a0:List Int):Option (List Int):=den E k 224 [.c (.l 3 (.i .i64) a0)]
theorem egClone_int (k:Nat) (a0:List Int):FgClone_int (k+1) a0=agree (a0.isEmpty) (some ([])) (if (0+a0.length)*8≤140737488355328 then some a0 else none):=by kernel_rfl
noncomputable def FicloneTable (k:Nat) (a0:Int×(List Int)×List Int):Option (Int×(List Int)×List Int):=den E k 294 [.agg (avs y9 a0)]
theorem eicloneTable (k:Nat) (a0:Int×(List Int)×List Int):FicloneTable (k+1) a0=(FgClone_int k a0.2.1).bind fun p1=>(FgClone_int k a0.2.2).bind fun p2=>some (a0.1,p1,p2):=by kernel_rfl
noncomputable def FiTableIn (k:Nat) (a0:j2) (a1:Int) (a2:Int):Option ((Int×(List Int)×List Int)×Bool):=den E k 279 [.agg (avs z7 a0),cI a1,cI a2]
theorem eiTableIn (k:Nat) (a0:j2) (a1:Int) (a2:Int):FiTableIn (k+1) a0 a1 a2=(zn k a1 (a0.2.2.2.length:Int)).bind fun p1=>if ((!p1)==false)=true then if 0≤a1 then ix a0.2.2.2 a1.toNat fun x2=>(zn k a2 (x2.2.2.length:Int)).bind fun p3=>if (!p3)=true then some ((0,[],[]),false) else if 0≤a1 then ix a0.2.2.2 a1.toNat fun x4=>if 0≤a2 then ix x4.2.2 a2.toNat fun x5=>(FicloneTable k x5).bind fun p6=>some (p6,true) else none else none else none else some ((0,[],[]),false):=by kernel_rfl
noncomputable def jp (k:Nat) (a0:List (List Int)):Option (Bool):=den E k 385 [.c (.l 30 (.l 3 (.i .i64)) a0)]
abbrev jx:Type:=(List (List Int))×Int×Bool×(List (List Int))×Int×Int×Int×(List Bool)
abbrev vk:Type:=Int
def StiUnionHasLoop_4 (c4:jx) (v4:vk):St:=⟨83,1,[(0,.c (.l 30 (.l 3 (.i .i64)) c4.1)),(3,cI c4.2.1),(6,.c (.ref 0)),(7,cB c4.2.2.1),(13,.c (.l 30 (.l 3 (.i .i64)) c4.2.2.2.1)),(14,cI c4.2.2.2.2.1),(15,cI c4.2.2.2.2.2.1),(73,cI c4.2.2.2.2.2.2.1),(74,cI v4)],[(0,.arr 4 .b c4.2.2.2.2.2.2.2)]⟩
noncomputable def wp1 {R:Type} (k:Nat) (X0:vk→Bool→Option R) (X1:vk→Option R) (c4:jx) (rec:vk→Option R) (v4:vk):Option R:=if (decide (v4<c4.2.2.2.2.2.2.1))=true then if 0≤v4 then if v4<(c4.2.2.2.2.2.2.2.length:Int) then ix c4.2.2.2.2.2.2.2 v4.toNat fun x1=>if (!x1)=true then X0 v4 x1 else rec (IntKind.i64.wrap (v4+1)) else none else none else X1 v4
noncomputable def xx {R:Type} (k:Nat) (X0:vk→Bool→Option R) (X1:vk→Option R) (c:jx):Nat→vk→Option R
 | 0,_=>none
 | n+1,v=>wp1 k X0 X1 c (xx k X0 X1 c n) v
def YiUnionHasLoop_4_0 {R:Type} (K:Ex→St→Option R) (c4:jx) (v4:vk) (x1:Bool):Option R:=K .ret ⟨83,1,[(0,.c (.l 30 (.l 3 (.i .i64)) c4.1)),(2,cB true),(3,cI c4.2.1),(6,.c (.ref 0)),(7,cB c4.2.2.1),(12,cI v4),(13,.c (.l 30 (.l 3 (.i .i64)) c4.2.2.2.1)),(14,cI c4.2.2.2.2.1),(15,cI c4.2.2.2.2.2.1),(73,cI c4.2.2.2.2.2.2.1),(74,cI v4),(75,cB (decide (v4<c4.2.2.2.2.2.2.1))),(76,cI v4),(77,.c (.ref 0)),(78,cI v4),(79,.c (.el 0 1 v4.toNat 0)),(80,cB x1),(81,cB (!x1))],[(0,.arr 4 .b c4.2.2.2.2.2.2.2)]⟩
def YiUnionHasLoop_4_1 {R:Type} (K:Ex→St→Option R) (c4:jx) (v4:vk):Option R:=K (.exit 8) ⟨83,1,[(0,.c (.l 30 (.l 3 (.i .i64)) c4.1)),(3,cI c4.2.1),(6,.c (.ref 0)),(7,cB c4.2.2.1),(13,.c (.l 30 (.l 3 (.i .i64)) c4.2.2.2.1)),(14,cI c4.2.2.2.2.1),(15,cI c4.2.2.2.2.2.1),(73,cI c4.2.2.2.2.2.2.1),(74,cI v4),(75,cB (decide (v4<c4.2.2.2.2.2.2.1)))],[(0,.arr 4 .b c4.2.2.2.2.2.2.2)]⟩
theorem liUnionHasLoop_4 {R:Type} (k:Nat) (K:Ex→St→Option R) (c4:jx):∀(n:Nat) (v:vk),z2 [0,0,3,6,7,13,14,15,73,74] (run E (den E k) (lv 385) k (j1 Tryz.f385 4)) n (StiUnionHasLoop_4 c4 v) K=xx k (YiUnionHasLoop_4_0 K c4) (YiUnionHasLoop_4_1 K c4) c4 n v:=j4 (B:=wp1 k (YiUnionHasLoop_4_0 K c4) (YiUnionHasLoop_4_1 K c4) c4) (fun _=>rfl) (fun n v=>by kernel_rfl) (fun _=>rfl) (fun _ _=>rfl)
abbrev j61:Type:=(List (List Int))×Int×Bool×Int×(List (List Int))×Int×Int×Int×Int×(List (List Int))×Int×(List Bool)
abbrev jn:Type:=Bool×Int
def StiUnionHasLoop_3 (c3:j61) (v3:jn):St:=⟨83,1,[(0,.c (.l 30 (.l 3 (.i .i64)) c3.1)),(3,cI c3.2.1),(6,.c (.ref 0)),(7,cB c3.2.2.1),(8,cI c3.2.2.2.1),(9,cB v3.1),(13,.c (.l 30 (.l 3 (.i .i64)) c3.2.2.2.2.1)),(14,cI c3.2.2.2.2.2.1),(15,cI c3.2.2.2.2.2.2.1),(27,cI c3.2.2.2.2.2.2.2.1),(28,cI c3.2.2.2.2.2.2.2.2.1),(35,.c (.l 30 (.l 3 (.i .i64)) c3.2.2.2.2.2.2.2.2.2.1)),(36,cI c3.2.2.2.2.2.2.2.2.2.2.1),(37,cI v3.2)],[(0,.arr 4 .b c3.2.2.2.2.2.2.2.2.2.2.2)]⟩
noncomputable def BiUnionHasLoop_3 {R:Type} (k:Nat) (X0:jn→Option R) (c3:j61) (rec:jn→Option R) (v3:jn):Option R:=if (decide (v3.2<c3.2.2.2.2.2.2.2.2.2.2.1))=true then if 0≤v3.2 then ix c3.2.2.2.2.2.2.2.2.2.1 v3.2.toNat fun x2=>if (v3.1==false)=true then if ((decide (c3.2.2.2.1<(x2.length:Int)))==true)=true then if 0≤c3.2.2.2.1 then ix x2 c3.2.2.2.1.toNat fun x3=>(zn k x3 c3.2.1).bind fun p4=>if (p4==true)=true then if 0≤c3.2.2.2.1 then ix x2 c3.2.2.2.1.toNat fun x5=>if 0≤x5 then if x5<(c3.2.2.2.2.2.2.2.2.2.2.2.length:Int) then ix c3.2.2.2.2.2.2.2.2.2.2.2 x5.toNat fun x6=>rec ((!x6),(IntKind.i64.wrap (v3.2+1))) else none else none else none else rec (false,(IntKind.i64.wrap (v3.2+1))) else none else rec (false,(IntKind.i64.wrap (v3.2+1))) else rec (true,(IntKind.i64.wrap (v3.2+1))) else none else X0 v3
noncomputable def zo {R:Type} (k:Nat) (X0:jn→Option R) (c:j61):Nat→jn→Option R
 | 0,_=>none
 | n+1,v=>BiUnionHasLoop_3 k X0 c (zo k X0 c n) v
def YiUnionHasLoop_3_0 {R:Type} (K:Ex→St→Option R) (c3:j61) (v3:jn):Option R:=K (.exit 6) ⟨83,1,[(0,.c (.l 30 (.l 3 (.i .i64)) c3.1)),(3,cI c3.2.1),(6,.c (.ref 0)),(7,cB c3.2.2.1),(8,cI c3.2.2.2.1),(9,cB v3.1),(13,.c (.l 30 (.l 3 (.i .i64)) c3.2.2.2.2.1)),(14,cI c3.2.2.2.2.2.1),(15,cI c3.2.2.2.2.2.2.1),(27,cI c3.2.2.2.2.2.2.2.1),(28,cI c3.2.2.2.2.2.2.2.2.1),(35,.c (.l 30 (.l 3 (.i .i64)) c3.2.2.2.2.2.2.2.2.2.1)),(36,cI c3.2.2.2.2.2.2.2.2.2.2.1),(37,cI v3.2),(38,cB (decide (v3.2<c3.2.2.2.2.2.2.2.2.2.2.1)))],[(0,.arr 4 .b c3.2.2.2.2.2.2.2.2.2.2.2)]⟩
theorem liUnionHasLoop_3 {R:Type} (k:Nat) (K:Ex→St→Option R) (c3:j61):∀(n:Nat) (v:jn),z2 [0,0,3,6,7,8,9,13,14,15,27,28,35,36,37] (run E (den E k) (lv 385) k (j1 Tryz.f385 3)) n (StiUnionHasLoop_3 c3 v) K=zo k (YiUnionHasLoop_3_0 K c3) c3 n v:=j4 (B:=BiUnionHasLoop_3 k (YiUnionHasLoop_3_0 K c3) c3) (fun _=>rfl) (fun n v=>by kernel_rfl) (fun _=>rfl) (fun _ _=>rfl)
abbrev xt:Type:=(List (List Int))×Int×(List (List Int))×Int×Int×Int
abbrev xk:Type:=Bool×Int×(List Bool)
def j01 (c2:xt) (v2:xk):St:=⟨83,1,[(0,.c (.l 30 (.l 3 (.i .i64)) c2.1)),(3,cI c2.2.1),(6,.c (.ref 0)),(7,cB v2.1),(13,.c (.l 30 (.l 3 (.i .i64)) c2.2.2.1)),(14,cI c2.2.2.2.1),(15,cI c2.2.2.2.2.1),(27,cI c2.2.2.2.2.2),(28,cI v2.2.1)],[(0,.arr 4 .b v2.2.2)]⟩
noncomputable def BiUnionHasLoop_2 {R:Type} (k:Nat) (X0:xk→Option R) (c2:xt) (rec:xk→Option R) (v2:xk):Option R:=if (decide (v2.2.1<c2.2.2.2.2.2))=true then if 0≤v2.2.1 then if v2.2.1<(v2.2.2.length:Int) then ix v2.2.2 v2.2.1.toNat fun x1=>if x1=true then rec (v2.1,(IntKind.i64.wrap (v2.2.1+1)),v2.2.2) else zo k (fun (v3:Bool×Int)=>if (!v3.1)=true then if 0≤v2.2.1 then if v2.2.1<(v2.2.2.length:Int) then ix v2.2.2 v2.2.1.toNat fun y2=>rec (true,(IntKind.i64.wrap (v2.2.1+1)),(v2.2.2.set v2.2.1.toNat true)) else none else none else rec (v2.1,(IntKind.i64.wrap (v2.2.1+1)),v2.2.2)) (c2.1,c2.2.1,v2.1,v2.2.1,c2.2.2.1,c2.2.2.2.1,c2.2.2.2.2.1,c2.2.2.2.2.2,v2.2.1,c2.1,(c2.1.length:Int),v2.2.2) k (false,0) else none else none else X0 v2
noncomputable def zg1 {R:Type} (k:Nat) (X0:xk→Option R) (c:xt):Nat→xk→Option R
 | 0,_=>none
 | n+1,v=>BiUnionHasLoop_2 k X0 c (zg1 k X0 c n) v
def zy1 {R:Type} (K:Ex→St→Option R) (c2:xt) (v2:xk):Option R:=K (.exit 4) ⟨83,1,[(0,.c (.l 30 (.l 3 (.i .i64)) c2.1)),(3,cI c2.2.1),(6,.c (.ref 0)),(7,cB v2.1),(13,.c (.l 30 (.l 3 (.i .i64)) c2.2.2.1)),(14,cI c2.2.2.2.1),(15,cI c2.2.2.2.2.1),(27,cI c2.2.2.2.2.2),(28,cI v2.2.1),(29,cB (decide (v2.2.1<c2.2.2.2.2.2)))],[(0,.arr 4 .b v2.2.2)]⟩
theorem bmiUnionHasLoop_2_0 {R:Type} (k n:Nat) (K:Ex→St→Option R) (c2:xt) (v2:xk):z2 [0,0,3,6,7,13,14,15,27,28] (run E (den E k) (lv 385) k (j1 Tryz.f385 2)) (n+1) (j01 c2 v2) K=if (decide (v2.2.1<c2.2.2.2.2.2))=true then if 0≤v2.2.1 then if v2.2.1<(v2.2.2.length:Int) then ix v2.2.2 v2.2.1.toNat fun x1=>if x1=true then z2 [0,0,3,6,7,13,14,15,27,28] (run E (den E k) (lv 385) k (j1 Tryz.f385 2)) n (j01 c2 (v2.1,(IntKind.i64.wrap (v2.2.1+1)),v2.2.2)) K else z2 [0,0,3,6,7,8,9,13,14,15,27,28,35,36,37] (run E (den E k) (lv 385) k (j1 Tryz.f385 3)) k (StiUnionHasLoop_3 (c2.1,c2.2.1,v2.1,v2.2.1,c2.2.2.1,c2.2.2.2.1,c2.2.2.2.2.1,c2.2.2.2.2.2,v2.2.1,c2.1,(c2.1.length:Int),v2.2.2) (false,0)) (zb E (den E k) (lv 385) k (.loop (j1 Tryz.f385 2)) (3-2) [(n,[0,0,3,6,7,13,14,15,27,28])] K) else none else none else K (.exit 4) ⟨83,1,[(0,.c (.l 30 (.l 3 (.i .i64)) c2.1)),(3,cI c2.2.1),(6,.c (.ref 0)),(7,cB v2.1),(13,.c (.l 30 (.l 3 (.i .i64)) c2.2.2.1)),(14,cI c2.2.2.2.1),(15,cI c2.2.2.2.2.1),(27,cI c2.2.2.2.2.2),(28,cI v2.2.1),(29,cB (decide (v2.2.1<c2.2.2.2.2.2)))],[(0,.arr 4 .b v2.2.2)]⟩:=by kernel_rfl
theorem biUnionHasLoop_2 {R:Type} (k n:Nat) (K:Ex→St→Option R) (c2:xt) (v:xk):z2 [0,0,3,6,7,13,14,15,27,28] (run E (den E k) (lv 385) k (j1 Tryz.f385 2)) (n+1) (j01 c2 v) K=BiUnionHasLoop_2 k (zy1 K c2) c2 (fun v=>z2 [0,0,3,6,7,13,14,15,27,28] (run E (den E k) (lv 385) k (j1 Tryz.f385 2)) n (j01 c2 v) K) v:=by
 rw [bmiUnionHasLoop_2_0]
 simp only [liUnionHasLoop_3]
 kernel_rfl
theorem liUnionHasLoop_2 {R:Type} (k:Nat) (K:Ex→St→Option R) (c2:xt):∀(n:Nat) (v:xk),z2 [0,0,3,6,7,13,14,15,27,28] (run E (den E k) (lv 385) k (j1 Tryz.f385 2)) n (j01 c2 v) K=zg1 k (zy1 K c2) c2 n v:=j4 (B:=BiUnionHasLoop_2 k (zy1 K c2) c2) (fun _=>rfl) (fun n v=>biUnionHasLoop_2 k n K c2 v) (fun _=>rfl) (fun _ _=>rfl)
abbrev ym:Type:=(List (List Int))×Int×(List (List Int))×Int×Int
abbrev zi:Type:=Bool×(List Bool)
def yb1 (c1:ym) (v1:zi):St:=⟨83,1,[(0,.c (.l 30 (.l 3 (.i .i64)) c1.1)),(3,cI c1.2.1),(6,.c (.ref 0)),(7,cB v1.1),(13,.c (.l 30 (.l 3 (.i .i64)) c1.2.2.1)),(14,cI c1.2.2.2.1),(15,cI c1.2.2.2.2)],[(0,.arr 4 .b v1.2)]⟩
noncomputable def wx {R:Type} (k:Nat) (X0:zi→Option R) (c1:ym) (rec:zi→Option R) (v1:zi):Option R:=if v1.1=true then zg1 k (fun (v2:Bool×Int×(List Bool))=>rec (v2.1,v2.2.2)) (c1.1,c1.2.1,c1.2.2.1,c1.2.2.2.1,c1.2.2.2.2,c1.2.1) k (false,0,v1.2) else X0 v1
noncomputable def vf {R:Type} (k:Nat) (X0:zi→Option R) (c:ym):Nat→zi→Option R
 | 0,_=>none
 | n+1,v=>wx k X0 c (vf k X0 c n) v
def YiUnionHasLoop_1_0 {R:Type} (K:Ex→St→Option R) (c1:ym) (v1:zi):Option R:=K (.exit 2) ⟨83,1,[(0,.c (.l 30 (.l 3 (.i .i64)) c1.1)),(3,cI c1.2.1),(6,.c (.ref 0)),(7,cB v1.1),(13,.c (.l 30 (.l 3 (.i .i64)) c1.2.2.1)),(14,cI c1.2.2.2.1),(15,cI c1.2.2.2.2),(26,cB v1.1)],[(0,.arr 4 .b v1.2)]⟩
theorem bmiUnionHasLoop_1_0 {R:Type} (k n:Nat) (K:Ex→St→Option R) (c1:ym) (v1:zi):z2 [0,0,3,6,7,13,14,15] (run E (den E k) (lv 385) k (j1 Tryz.f385 1)) (n+1) (yb1 c1 v1) K=if v1.1=true then z2 [0,0,3,6,7,13,14,15,27,28] (run E (den E k) (lv 385) k (j1 Tryz.f385 2)) k (j01 (c1.1,c1.2.1,c1.2.2.1,c1.2.2.2.1,c1.2.2.2.2,c1.2.1) (false,0,v1.2)) (zb E (den E k) (lv 385) k (.loop (j1 Tryz.f385 1)) (2-1) [(n,[0,0,3,6,7,13,14,15])] K) else K (.exit 2) ⟨83,1,[(0,.c (.l 30 (.l 3 (.i .i64)) c1.1)),(3,cI c1.2.1),(6,.c (.ref 0)),(7,cB v1.1),(13,.c (.l 30 (.l 3 (.i .i64)) c1.2.2.1)),(14,cI c1.2.2.2.1),(15,cI c1.2.2.2.2),(26,cB v1.1)],[(0,.arr 4 .b v1.2)]⟩:=by kernel_rfl
theorem biUnionHasLoop_1 {R:Type} (k n:Nat) (K:Ex→St→Option R) (c1:ym) (v:zi):z2 [0,0,3,6,7,13,14,15] (run E (den E k) (lv 385) k (j1 Tryz.f385 1)) (n+1) (yb1 c1 v) K=wx k (YiUnionHasLoop_1_0 K c1) c1 (fun v=>z2 [0,0,3,6,7,13,14,15] (run E (den E k) (lv 385) k (j1 Tryz.f385 1)) n (yb1 c1 v) K) v:=by
 rw [bmiUnionHasLoop_1_0]
 simp only [liUnionHasLoop_2]
 kernel_rfl
theorem liUnionHasLoop_1 {R:Type} (k:Nat) (K:Ex→St→Option R) (c1:ym):∀(n:Nat) (v:zi),z2 [0,0,3,6,7,13,14,15] (run E (den E k) (lv 385) k (j1 Tryz.f385 1)) n (yb1 c1 v) K=vf k (YiUnionHasLoop_1_0 K c1) c1 n v:=j4 (B:=wx k (YiUnionHasLoop_1_0 K c1) c1) (fun _=>rfl) (fun n v=>biUnionHasLoop_1 k n K c1 v) (fun _=>rfl) (fun _ _=>rfl)
abbrev yg1:Type:=(List (List Int))×(List (List Int))×Int
abbrev wo:Type:=Int×Int
def StiUnionHasLoop_0 (c0:yg1) (v0:wo):St:=⟨83,0,[(0,.c (.l 30 (.l 3 (.i .i64)) c0.1)),(3,cI v0.1),(13,.c (.l 30 (.l 3 (.i .i64)) c0.2.1)),(14,cI c0.2.2),(15,cI v0.2)],[]⟩
noncomputable def BiUnionHasLoop_0 {R:Type} (k:Nat) (X0:wo→Option R) (c0:yg1) (rec:wo→Option R) (v0:wo):Option R:=if (decide (v0.2<c0.2.2))=true then if 0≤v0.2 then ix c0.2.1 v0.2.toNat fun x1=>rec ((mx v0.1 (x1.length:Int)),(IntKind.i64.wrap (v0.2+1))) else none else X0 v0
noncomputable def zy {R:Type} (k:Nat) (X0:wo→Option R) (c:yg1):Nat→wo→Option R
 | 0,_=>none
 | n+1,v=>BiUnionHasLoop_0 k X0 c (zy k X0 c n) v
def YiUnionHasLoop_0_0 {R:Type} (K:Ex→St→Option R) (c0:yg1) (v0:wo):Option R:=K (.exit 0) ⟨83,0,[(0,.c (.l 30 (.l 3 (.i .i64)) c0.1)),(3,cI v0.1),(13,.c (.l 30 (.l 3 (.i .i64)) c0.2.1)),(14,cI c0.2.2),(15,cI v0.2),(16,cB (decide (v0.2<c0.2.2)))],[]⟩
theorem liUnionHasLoop_0 {R:Type} (k:Nat) (K:Ex→St→Option R) (c0:yg1):∀(n:Nat) (v:wo),z2 [0,0,3,13,14,15] (run E (den E k) (lv 385) k (j1 Tryz.f385 0)) n (StiUnionHasLoop_0 c0 v) K=zy k (YiUnionHasLoop_0_0 K c0) c0 n v:=j4 (B:=BiUnionHasLoop_0 k (YiUnionHasLoop_0_0 K c0) c0) (fun _=>rfl) (fun n v=>by kernel_rfl) (fun _=>rfl) (fun _ _=>rfl)
theorem miUnionHasLoop_0 (k:Nat) (a0:List (List Int)):jp (k+1) a0=z2 (R:=Bool) [0,0,3,13,14,15] (run E (den E k) (lv 385) k (j1 Tryz.f385 0)) k (StiUnionHasLoop_0 (a0,a0,(a0.length:Int)) (0,0)) (zb E (den E k) (lv 385) k (yd Tryz.f385) 0 [] (zd E (rs 385) Tryz.f385:Ex→St→Option (Bool))):=by kernel_rfl
theorem miUnionHasLoop_1 (k:Nat) (a0:List (List Int)):jp (k+1) a0=zy k (fun (v0:I2)=>if (v0.1==v0.1)=true then if 0≤v0.1 then if 1*v0.1.toNat≤281474976710656 then z2 (R:=Bool) [0,0,3,6,7,13,14,15] (run E (den E k) (lv 385) k (j1 Tryz.f385 1)) k (yb1 (a0,v0.1,a0,(a0.length:Int),v0.2) (true,(List.replicate v0.1.toNat (false:Bool)))) (zb E (den E k) (lv 385) k (yd Tryz.f385) 1 [] (zd E (rs 385) Tryz.f385:Ex→St→Option (Bool))) else none else none else none) (a0,a0,(a0.length:Int)) k (0,0):=by 
 rw [miUnionHasLoop_0]
 simp only [liUnionHasLoop_0]
 kernel_rfl
theorem miUnionHasLoop_2 (k:Nat) (a0:List (List Int)):jp (k+1) a0=zy k (fun (v0:I2)=>if (v0.1==v0.1)=true then if 0≤v0.1 then if 1*v0.1.toNat≤281474976710656 then vf k (fun (v1:Bool×(List Bool))=>z2 (R:=Bool) [0,0,3,6,7,13,14,15,73,74] (run E (den E k) (lv 385) k (j1 Tryz.f385 4)) k (StiUnionHasLoop_4 (a0,v0.1,v1.1,a0,(a0.length:Int),v0.2,v0.1,v1.2) 0) (zb E (den E k) (lv 385) k (yd Tryz.f385) 4 [] (zd E (rs 385) Tryz.f385:Ex→St→Option (Bool)))) (a0,v0.1,a0,(a0.length:Int),v0.2) k (true,(List.replicate v0.1.toNat (false:Bool))) else none else none else none) (a0,a0,(a0.length:Int)) k (0,0):=by 
 rw [miUnionHasLoop_1]
 simp only [liUnionHasLoop_1]
 kernel_rfl
theorem eiUnionHasLoop (k:Nat) (a0:List (List Int)):jp (k+1) a0=zy k (fun (v0:I2)=>if (v0.1==v0.1)=true then if 0≤v0.1 then if 1*v0.1.toNat≤281474976710656 then vf k (fun (v1:Bool×(List Bool))=>xx k (fun (v4:Int) (x1:Bool)=>some true) (fun (v4:Int)=>some false) (a0,v0.1,v1.1,a0,(a0.length:Int),v0.2,v0.1,v1.2) k 0) (a0,v0.1,a0,(a0.length:Int),v0.2) k (true,(List.replicate v0.1.toNat (false:Bool))) else none else none else none) (a0,a0,(a0.length:Int)) k (0,0):=by
 rw [miUnionHasLoop_2]
 simp only [liUnionHasLoop_4]
 kernel_rfl
noncomputable def FiIsSafeMix (k:Nat) (a0:j2) (a1:Int) (a2:Int) (a3:Int):Option (Bool):=den E k 343 [.agg (avs z7 a0),cI a1,cI a2,cI a3]
abbrev CiIsSafeMix_0:Type:=Int×Int×j2×(List Int)
abbrev z91:Type:=Int×(List (List Int))
def StiIsSafeMix_0 (c0:CiIsSafeMix_0) (v0:z91):St:=⟨40,3,[(1,cI c0.1),(4,cP 0),(9,.c (.ref 1)),(18,.c (.ref 2)),(19,cI c0.2.1),(20,cI v0.1)],[(0,.var (avs z7 c0.2.2.1)),(1,.arr 30 (.l 3 (.i .i64)) v0.2),(2,.arr 3 (.i .i64) c0.2.2.2)]⟩
noncomputable def BiIsSafeMix_0 {R:Type} (k:Nat) (X0:z91→Option R) (c0:CiIsSafeMix_0) (rec:z91→Option R) (v0:z91):Option R:=if (decide (v0.1<c0.2.1))=true then if 0≤v0.1 then if v0.1<(c0.2.2.2.length:Int) then ix c0.2.2.2 v0.1.toNat fun x2=>(FiTableIn k c0.2.2.1 x2 c0.1).bind fun p3=>if (v0.2.length+([p3.1.2.2]).length)*24≤140737488355328 then rec ((IntKind.i64.wrap (v0.1+1)),(v0.2++[p3.1.2.2])) else none else none else none else X0 v0
noncomputable def LiIsSafeMix_0 {R:Type} (k:Nat) (X0:z91→Option R) (c:CiIsSafeMix_0):Nat→z91→Option R
 | 0,_=>none
 | n+1,v=>BiIsSafeMix_0 k X0 c (LiIsSafeMix_0 k X0 c n) v
def YiIsSafeMix_0_0 {R:Type} (K:Ex→St→Option R) (c0:CiIsSafeMix_0) (v0:z91):Option R:=K (.exit 0) ⟨40,3,[(1,cI c0.1),(4,cP 0),(9,.c (.ref 1)),(18,.c (.ref 2)),(19,cI c0.2.1),(20,cI v0.1),(21,cB (decide (v0.1<c0.2.1)))],[(0,.var (avs z7 c0.2.2.1)),(1,.arr 30 (.l 3 (.i .i64)) v0.2),(2,.arr 3 (.i .i64) c0.2.2.2)]⟩
theorem liIsSafeMix_0 {R:Type} (k:Nat) (K:Ex→St→Option R) (c0:CiIsSafeMix_0):∀(n:Nat) (v:z91),z2 [0,1,4,9,18,19,20] (run E (den E k) (lv 343) k (j1 Tryz.f343 0)) n (StiIsSafeMix_0 c0 v) K=LiIsSafeMix_0 k (YiIsSafeMix_0_0 K c0) c0 n v:=j4 (B:=BiIsSafeMix_0 k (YiIsSafeMix_0_0 K c0) c0) (fun _=>rfl) (fun n v=>by kernel_rfl) (fun _=>rfl) (fun _ _=>rfl)
theorem miIsSafeMix_0 (k:Nat) (a0:j2) (a1:Int) (a2:Int) (a3:Int):FiIsSafeMix (k+1) a0 a1 a2 a3=(FiPiecesIn k a0 a2 a3).bind fun p1=>z2 (R:=Bool) [0,1,4,9,18,19,20] (run E (den E k) (lv 343) k (j1 Tryz.f343 0)) k (StiIsSafeMix_0 (a1,(p1.length:Int),a0,p1) (0,[])) (zb E (den E k) (lv 343) k (yd Tryz.f343) 0 [] (zd E (rs 343) Tryz.f343:Ex→St→Option (Bool))):=by kernel_rfl
theorem eiIsSafeMix (k:Nat) (a0:j2) (a1:Int) (a2:Int) (a3:Int):FiIsSafeMix (k+1) a0 a1 a2 a3=(FiPiecesIn k a0 a2 a3).bind fun p1=>LiIsSafeMix_0 k (fun (v0:Int×(List (List Int)))=>(jp k v0.2).bind fun p2=>some (!p2)) (a1,(p1.length:Int),a0,p1) k (0,[]):=by
 rw [miIsSafeMix_0]
 simp only [liIsSafeMix_0]
 kernel_rfl
noncomputable def FinextIn (k:Nat) (a0:j2) (a1:Int) (a2:Int) (a3:Int):Option (Int×Bool):=den E k 342 [.agg (avs z7 a0),cI a1,cI a2,cI a3]
theorem einextIn (k:Nat) (a0:j2) (a1:Int) (a2:Int) (a3:Int):FinextIn (k+1) a0 a1 a2 a3=(FiTableIn k a0 a1 a2).bind fun p1=>if ((!p1.2)==false)=true then (zn k a3 (p1.1.2.2.length:Int)).bind fun p2=>if (!p2)=true then some (-1,false) else if 0≤a3 then if a3<(p1.1.2.2.length:Int) then ix p1.1.2.2 a3.toNat fun x3=>some (x3,true) else none else none else some (-1,false):=by kernel_rfl
noncomputable def FiHopAt (k:Nat) (a0:j2) (a1:Int) (a2:Int) (a3:Int):Option (Int):=den E k 275 [.agg (avs z7 a0),cI a1,cI a2,cI a3]
theorem eiHopAt (k:Nat) (a0:j2) (a1:Int) (a2:Int) (a3:Int):FiHopAt (k+1) a0 a1 a2 a3=(FiPieceAt k a0 a3).bind fun p1=>(FinextIn k a0 p1 a2 a1).bind fun p2=>if ((!p2.2)==false)=true then (FiisSkewed k a0 a3).bind fun p3=>if ((!p3)==false)=true then (FiIsSafeMix k a0 a2 (IntKind.i64.wrap (a3-(IntKind.i64.wrap (2*a0.2.2.1)))) (IntKind.i64.wrap (a3+(IntKind.i64.wrap (2*a0.2.2.1))))).bind fun p4=>if (!p4)=true then some (-1) else some p2.1 else some (-1) else some (-1):=by kernel_rfl
noncomputable def FiIsCalm (k:Nat) (a0:j2) (a1:Int):Option (Bool):=den E k 277 [.agg (avs z7 a0),cI a1]
theorem eiIsCalm (k:Nat) (a0:j2) (a1:Int):FiIsCalm (k+1) a0 a1=(FiisSkewed k a0 a1).bind fun p1=>if (p1==true)=true then (FiPiecesIn k a0 (IntKind.i64.wrap (a1-(IntKind.i64.wrap (2*a0.2.2.1)))) (IntKind.i64.wrap (a1+(IntKind.i64.wrap (2*a0.2.2.1))))).bind fun p2=>some ((p2.length:Int)==1) else some false:=by kernel_rfl
noncomputable def FiRepairHop (k:Nat) (a0:j2) (a1:Int) (a2:Int) (a3:Int) (a4:List Int):Option (Int):=den E k 204 [.agg (avs z7 a0),cI a1,cI a2,cI a3,.c (.l 3 (.i .i64) a4)]
abbrev zm1:Type:=(List Int)×(List Int)×Int
abbrev wq:Type:=Int
def StiRepairHop_0 (c0:zm1) (v0:wq):St:=⟨67,0,[(4,.c (.l 3 (.i .i64) c0.1)),(55,.c (.l 3 (.i .i64) c0.2.1)),(56,cI c0.2.2),(57,cI v0)],[]⟩
noncomputable def BiRepairHop_0 {R:Type} (k:Nat) (X0:wq→Int→Bool→Option R) (X1:wq→Option R) (c0:zm1) (rec:wq→Option R) (v0:wq):Option R:=if (decide (v0<c0.2.2))=true then if 0≤v0 then ix c0.2.1 v0.toNat fun x8=>(yh1 k c0.1 x8).bind fun p9=>if (!p9)=true then X0 v0 x8 p9 else rec (IntKind.i64.wrap (v0+1)) else none else X1 v0
noncomputable def vl1 {R:Type} (k:Nat) (X0:wq→Int→Bool→Option R) (X1:wq→Option R) (c:zm1):Nat→wq→Option R
 | 0,_=>none
 | n+1,v=>BiRepairHop_0 k X0 X1 c (vl1 k X0 X1 c n) v
def YiRepairHop_0_0 {R:Type} (K:Ex→St→Option R) (c0:zm1) (v0:wq) (x8:Int) (p9:Bool):Option R:=K .ret ⟨67,0,[(4,.c (.l 3 (.i .i64) c0.1)),(10,cI x8),(16,cI x8),(55,.c (.l 3 (.i .i64) c0.2.1)),(56,cI c0.2.2),(57,cI v0),(58,cB (decide (v0<c0.2.2))),(59,.c (.at_ [vI x8])),(60,cI x8),(61,.c (.l 3 (.i .i64) c0.1)),(62,cI x8),(63,cB p9),(64,cB (!p9)),(65,cI x8)],[]⟩
def YiRepairHop_0_1 {R:Type} (K:Ex→St→Option R) (c0:zm1) (v0:wq):Option R:=K (.exit 0) ⟨67,0,[(4,.c (.l 3 (.i .i64) c0.1)),(55,.c (.l 3 (.i .i64) c0.2.1)),(56,cI c0.2.2),(57,cI v0),(58,cB (decide (v0<c0.2.2)))],[]⟩
theorem liRepairHop_0 {R:Type} (k:Nat) (K:Ex→St→Option R) (c0:zm1):∀(n:Nat) (v:wq),z2 [0,4,55,56,57] (run E (den E k) (lv 204) k (j1 Tryz.f204 0)) n (StiRepairHop_0 c0 v) K=vl1 k (YiRepairHop_0_0 K c0) (YiRepairHop_0_1 K c0) c0 n v:=j4 (B:=BiRepairHop_0 k (YiRepairHop_0_0 K c0) (YiRepairHop_0_1 K c0) c0) (fun _=>rfl) (fun n v=>by kernel_rfl) (fun _=>rfl) (fun _ _=>rfl)
theorem miRepairHop_0 (k:Nat) (a0:j2) (a1:Int) (a2:Int) (a3:Int) (a4:List Int):FiRepairHop (k+1) a0 a1 a2 a3 a4=(FiHopAt k a0 a1 a2 a3).bind fun p1=>(yh1 k a4 p1).bind fun p2=>if (!p2)=true then some p1 else if ((decide (p1<0))==false)=true then (FiIsCalm k a0 a3).bind fun p3=>if (!p3)=true then some (-1) else (FiPieceAt k a0 a3).bind fun p4=>(FiTableIn k a0 p4 a2).bind fun p5=>if 0≤p4 then ix a0.2.2.2 p4.toNat fun x6=>(FiAltsOf k p5.1 x6.2.1 a0.2.1 a1).bind fun p7=>z2 (R:=Int) [0,4,55,56,57] (run E (den E k) (lv 204) k (j1 Tryz.f204 0)) k (StiRepairHop_0 (a4,p7,(p7.length:Int)) 0) (zb E (den E k) (lv 204) k (yd Tryz.f204) 0 [] (zd E (rs 204) Tryz.f204:Ex→St→Option (Int))) else none else some (-1):=by kernel_rfl
theorem eiRepairHop (k:Nat) (a0:j2) (a1:Int) (a2:Int) (a3:Int) (a4:List Int):FiRepairHop (k+1) a0 a1 a2 a3 a4=(FiHopAt k a0 a1 a2 a3).bind fun p1=>(yh1 k a4 p1).bind fun p2=>if (!p2)=true then some p1 else if ((decide (p1<0))==false)=true then (FiIsCalm k a0 a3).bind fun p3=>if (!p3)=true then some (-1) else (FiPieceAt k a0 a3).bind fun p4=>(FiTableIn k a0 p4 a2).bind fun p5=>if 0≤p4 then ix a0.2.2.2 p4.toNat fun x6=>(FiAltsOf k p5.1 x6.2.1 a0.2.1 a1).bind fun p7=>vl1 k (fun (v0:Int) (x8:Int) (p9:Bool)=>some x8) (fun (v0:Int)=>some (-1)) (a4,p7,(p7.length:Int)) k 0 else none else some (-1):=by
 rw [miRepairHop_0]
 simp only [liRepairHop_0]
 kernel_rfl
noncomputable def FiHopFor (k:Nat) (a0:xp) (a1:Int) (a2:Int):Option (Int):=den E k 97 [.agg (avs y51 a0),cI a1,cI a2]
theorem eiHopFor (k:Nat) (a0:xp) (a1:Int) (a2:Int):FiHopFor (k+1) a0 a1 a2=(zn k a1 (a0.2.2.2.1.length:Int)).bind fun p1=>if ((!p1)==false)=true then (zl k a0.2.2.2.2.2.2.2.2.2.2.1 0 1000).bind fun p2=>if ((!p2)==false)=true then if 0≤a1 then ix a0.2.2.2.1 a1.toNat fun x3=>(zl k x3 (-5) 5).bind fun p4=>if (!p4)=true then some (-1) else if 0≤a1 then ix a0.2.2.2.1 a1.toNat fun x5=>(FiDeadNow k a0 a1).bind fun p6=>(FiRepairHop k a0.2.1 a1 a2 (IntKind.i64.wrap (a0.2.2.2.2.2.2.2.2.2.2.1+x5)) p6).bind fun p7=>if ((decide (p7<0))==false)=true then (FiMayUse k a0.2.1 a1 p7 (IntKind.i64.wrap (a0.2.2.2.2.2.2.2.2.2.2.1+x5))).bind fun p8=>if (!p8)=true then some (-1) else some p7 else some (-1) else none else none else some (-1) else some (-1):=by kernel_rfl
noncomputable def FiOrderOf (k:Nat) (a0:List I6):Option (List Int):=den E k 96 [.agg [.l 66 sI6 a0]]
abbrev CiOrderOf_0:Type:=(List I6)×Int
abbrev xk1:Type:=Int×(List Int)×(List Int)
def StiOrderOf_0 (c0:CiOrderOf_0) (v0:xk1):St:=⟨32,2,[(3,.c (.ref 0)),(4,.c (.ref 1)),(10,.c (.l 66 sI6 c0.1)),(11,cI c0.2),(12,cI v0.1)],[(0,.arr 3 (.i .i64) v0.2.1),(1,.arr 3 (.i .i64) v0.2.2)]⟩
noncomputable def BiOrderOf_0 {R:Type} (k:Nat) (X0:xk1→Option R) (c0:CiOrderOf_0) (rec:xk1→Option R) (v0:xk1):Option R:=if (decide (v0.1<c0.2))=true then if 0≤v0.1 then ix c0.1 v0.1.toNat fun x1=>if (x1.2.2.2.2.2==1)=true then if (v0.2.1.length+([v0.1]).length)*8≤140737488355328 then rec ((IntKind.i64.wrap (v0.1+1)),(v0.2.1++[v0.1]),v0.2.2) else none else if (v0.2.2.length+([v0.1]).length)*8≤140737488355328 then rec ((IntKind.i64.wrap (v0.1+1)),v0.2.1,(v0.2.2++[v0.1])) else none else none else X0 v0
noncomputable def LiOrderOf_0 {R:Type} (k:Nat) (X0:xk1→Option R) (c:CiOrderOf_0):Nat→xk1→Option R
 | 0,_=>none
 | n+1,v=>BiOrderOf_0 k X0 c (LiOrderOf_0 k X0 c n) v
def YiOrderOf_0_0 {R:Type} (K:Ex→St→Option R) (c0:CiOrderOf_0) (v0:xk1):Option R:=K (.exit 0) ⟨32,2,[(3,.c (.ref 0)),(4,.c (.ref 1)),(10,.c (.l 66 sI6 c0.1)),(11,cI c0.2),(12,cI v0.1),(13,cB (decide (v0.1<c0.2)))],[(0,.arr 3 (.i .i64) v0.2.1),(1,.arr 3 (.i .i64) v0.2.2)]⟩
theorem liOrderOf_0 {R:Type} (k:Nat) (K:Ex→St→Option R) (c0:CiOrderOf_0):∀(n:Nat) (v:xk1),z2 [0,3,4,10,11,12] (run E (den E k) (lv 96) k (j1 Tryz.f96 0)) n (StiOrderOf_0 c0 v) K=LiOrderOf_0 k (YiOrderOf_0_0 K c0) c0 n v:=j4 (B:=BiOrderOf_0 k (YiOrderOf_0_0 K c0) c0) (fun _=>rfl) (fun n v=>by kernel_rfl) (fun _=>rfl) (fun _ _=>rfl)
theorem miOrderOf_0 (k:Nat) (a0:List I6):FiOrderOf (k+1) a0=z2 (R:=List Int) [0,3,4,10,11,12] (run E (den E k) (lv 96) k (j1 Tryz.f96 0)) k (StiOrderOf_0 (a0,(a0.length:Int)) (0,[],[])) (zb E (den E k) (lv 96) k (yd Tryz.f96) 0 [] (zd E (rs 96) Tryz.f96:Ex→St→Option (List Int))):=by kernel_rfl
theorem eiOrderOf (k:Nat) (a0:List I6):FiOrderOf (k+1) a0=LiOrderOf_0 k (fun (v0:Int×(List Int)×(List Int))=>if (v0.2.1.length+v0.2.2.length)*8≤140737488355328 then some (v0.2.1++v0.2.2) else none) (a0,(a0.length:Int)) k (0,[],[]):=by
 rw [miOrderOf_0]
 simp only [liOrderOf_0]
 kernel_rfl
noncomputable def FiChoiceFor (k:Nat) (a0:xp) (a1:Int):Option (I6×Int×Bool):=den E k 16 [.agg (avs y51 a0),cI a1]
abbrev xn1:Type:=Int×Int×xp×Int×Int×Int×Int×Int×Int×(List I6)×(List Int)
abbrev xq:Type:=Int
def StiChoiceFor_0 (c0:xn1) (v0:xq):St:=⟨52,4,[(1,cI c0.1),(2,cP 0),(4,cP 1),(7,cP 2),(27,.c (.ref 3)),(28,cI c0.2.1),(29,cI v0)],[(0,.var (avs y51 c0.2.2.1)),(1,.var [vI c0.2.2.2.1,vI c0.2.2.2.2.1,vI c0.2.2.2.2.2.1,vI c0.2.2.2.2.2.2.1,vI c0.2.2.2.2.2.2.2.1,vI c0.2.2.2.2.2.2.2.2.1]),(2,.var [.l 66 sI6 c0.2.2.2.2.2.2.2.2.2.1]),(3,.arr 3 (.i .i64) c0.2.2.2.2.2.2.2.2.2.2)]⟩
noncomputable def BiChoiceFor_0 {R:Type} (k:Nat) (X0:xq→Int→I6→Int→I6→Option R) (X1:xq→Option R) (c0:xn1) (rec:xq→Option R) (v0:xq):Option R:=if (decide (v0<c0.2.1))=true then if 0≤v0 then if v0<(c0.2.2.2.2.2.2.2.2.2.2.length:Int) then ix c0.2.2.2.2.2.2.2.2.2.2 v0.toNat fun x5=>if 0≤x5 then ix c0.2.2.2.2.2.2.2.2.2.1 x5.toNat fun x6=>(FiHopFor k c0.2.2.1 c0.1 x6.2.2.2.2.1).bind fun p7=>if (decide (p7≥0))=true then if 0≤x5 then ix c0.2.2.2.2.2.2.2.2.2.1 x5.toNat fun x8=>X0 v0 x5 x6 p7 x8 else none else rec (IntKind.i64.wrap (v0+1)) else none else none else none else X1 v0
noncomputable def LiChoiceFor_0 {R:Type} (k:Nat) (X0:xq→Int→I6→Int→I6→Option R) (X1:xq→Option R) (c:xn1):Nat→xq→Option R
 | 0,_=>none
 | n+1,v=>BiChoiceFor_0 k X0 X1 c (LiChoiceFor_0 k X0 X1 c n) v
def YiChoiceFor_0_0 {R:Type} (K:Ex→St→Option R) (c0:xn1) (v0:xq) (x5:Int) (x6:I6) (p7:Int) (x8:I6):Option R:=K .ret ⟨52,4,[(1,cI c0.1),(2,cP 0),(4,cP 1),(5,cI p7),(6,cB true),(7,cP 2),(9,cI x5),(10,cI p7),(27,.c (.ref 3)),(28,cI c0.2.1),(29,cI v0),(30,cB (decide (v0<c0.2.1))),(31,.c (.el 3 1 v0.toNat 0)),(32,cI x5),(33,.agg (avs y51 c0.2.2.1)),(34,cI c0.1),(35,cP 2),(36,.c (.l 66 sI6 c0.2.2.2.2.2.2.2.2.2.1)),(37,cI x5),(38,.c (.at_ (avs sI6 x6))),(39,.c (.at_ [vI x6.2.2.2.2.1,vI x6.2.2.2.2.2])),(40,cI x6.2.2.2.2.1),(41,cI p7),(42,cI p7),(43,cB (decide (p7≥0))),(44,cP 2),(45,.c (.l 66 sI6 c0.2.2.2.2.2.2.2.2.2.1)),(46,cI x5),(47,.c (.at_ (avs sI6 x8))),(48,.agg (avs sI6 x8)),(49,cI p7)],[(0,.var (avs y51 c0.2.2.1)),(1,.var (avs sI6 x8)),(2,.var [.l 66 sI6 c0.2.2.2.2.2.2.2.2.2.1]),(3,.arr 3 (.i .i64) c0.2.2.2.2.2.2.2.2.2.2)]⟩
def YiChoiceFor_0_1 {R:Type} (K:Ex→St→Option R) (c0:xn1) (v0:xq):Option R:=K (.exit 0) ⟨52,4,[(1,cI c0.1),(2,cP 0),(4,cP 1),(7,cP 2),(27,.c (.ref 3)),(28,cI c0.2.1),(29,cI v0),(30,cB (decide (v0<c0.2.1)))],[(0,.var (avs y51 c0.2.2.1)),(1,.var [vI c0.2.2.2.1,vI c0.2.2.2.2.1,vI c0.2.2.2.2.2.1,vI c0.2.2.2.2.2.2.1,vI c0.2.2.2.2.2.2.2.1,vI c0.2.2.2.2.2.2.2.2.1]),(2,.var [.l 66 sI6 c0.2.2.2.2.2.2.2.2.2.1]),(3,.arr 3 (.i .i64) c0.2.2.2.2.2.2.2.2.2.2)]⟩
theorem liChoiceFor_0 {R:Type} (k:Nat) (K:Ex→St→Option R) (c0:xn1):∀(n:Nat) (v:xq),z2 [0,1,2,4,7,27,28,29] (run E (den E k) (lv 16) k (j1 Tryz.f16 0)) n (StiChoiceFor_0 c0 v) K=LiChoiceFor_0 k (YiChoiceFor_0_0 K c0) (YiChoiceFor_0_1 K c0) c0 n v:=j4 (B:=BiChoiceFor_0 k (YiChoiceFor_0_0 K c0) (YiChoiceFor_0_1 K c0) c0) (fun _=>rfl) (fun n v=>by kernel_rfl) (fun _=>rfl) (fun _ _=>rfl)
theorem miChoiceFor_0 (k:Nat) (a0:xp) (a1:Int):FiChoiceFor (k+1) a0 a1=(FiCanSend k a0 a1).bind fun p1=>if (p1==true)=true then (zn k a1 (a0.2.2.2.2.2.1.length:Int)).bind fun p2=>if p2=true then if 0≤a1 then ix a0.2.2.2.2.2.1 a1.toNat fun x3=>(FiOrderOf k x3).bind fun p4=>z2 (R:=I6×Int×Bool) [0,1,2,4,7,27,28,29] (run E (den E k) (lv 16) k (j1 Tryz.f16 0)) k (StiChoiceFor_0 (a1,(p4.length:Int),a0,0,0,0,0,0,0,x3,p4) 0) (zb E (den E k) (lv 16) k (yd Tryz.f16) 0 [] (zd E (rs 16) Tryz.f16:Ex→St→Option (I6×Int×Bool))) else none else some ((0,0,0,0,0,0),-1,false) else some ((0,0,0,0,0,0),-1,false):=by kernel_rfl
theorem eiChoiceFor (k:Nat) (a0:xp) (a1:Int):FiChoiceFor (k+1) a0 a1=(FiCanSend k a0 a1).bind fun p1=>if (p1==true)=true then (zn k a1 (a0.2.2.2.2.2.1.length:Int)).bind fun p2=>if p2=true then if 0≤a1 then ix a0.2.2.2.2.2.1 a1.toNat fun x3=>(FiOrderOf k x3).bind fun p4=>LiChoiceFor_0 k (fun (v0:Int) (x5:Int) (x6:I6) (p7:Int) (x8:I6)=>some (x8,p7,true)) (fun (v0:Int)=>some ((0,0,0,0,0,0),-1,false)) (a1,(p4.length:Int),a0,0,0,0,0,0,0,x3,p4) k 0 else none else some ((0,0,0,0,0,0),-1,false) else some ((0,0,0,0,0,0),-1,false):=by
 rw [miChoiceFor_0]
 simp only [liChoiceFor_0]
 kernel_rfl
noncomputable def FleqPacket (k:Nat) (a0:I6) (a1:I6):Option (Bool):=den E k 17 [.agg (avs sI6 a0),.agg (avs sI6 a1)]
theorem eleqPacket (k:Nat) (a0:I6) (a1:I6):FleqPacket (k+1) a0 a1=if (a0.1 !=a1.1)=true then some false else if (a0.2.1 !=a1.2.1)=true then some false else if (a0.2.2.1 !=a1.2.2.1)=true then some false else if (a0.2.2.2.1 !=a1.2.2.2.1)=true then some false else if (a0.2.2.2.2.1 !=a1.2.2.2.2.1)=true then some false else if (a0.2.2.2.2.2 !=a1.2.2.2.2.2)=true then some false else some true:=by kernel_rfl
noncomputable def FleqBattery (k:Nat) (a0:I6) (a1:I6):Option (Bool):=den E k 191 [.agg (avs sI6 a0),.agg (avs sI6 a1)]
theorem eleqBattery (k:Nat) (a0:I6) (a1:I6):FleqBattery (k+1) a0 a1=if (a0.1 !=a1.1)=true then some false else if (a0.2.1 !=a1.2.1)=true then some false else if (a0.2.2.1 !=a1.2.2.1)=true then some false else if (a0.2.2.2.1 !=a1.2.2.2.1)=true then some false else if (a0.2.2.2.2.1 !=a1.2.2.2.2.1)=true then some false else if (a0.2.2.2.2.2 !=a1.2.2.2.2.2)=true then some false else some true:=by kernel_rfl
noncomputable def FleqBatteryS (k:Nat) (a0:List I6) (a1:List I6):Option (Bool):=den E k 85 [.c (.l 159 sI6 a0),.c (.l 159 sI6 a1)]
abbrev xh1:Type:=(List I6)×(List I6)
abbrev xn:Type:=Int
def StleqBatteryS_0 (c0:xh1) (v0:xn):St:=⟨27,0,[(0,.c (.l 159 sI6 c0.1)),(1,.c (.l 159 sI6 c0.2)),(5,cI v0)],[]⟩
noncomputable def BleqBatteryS_0 {R:Type} (k:Nat) (X0:xn→I6→I6→Bool→Option R) (X1:xn→Option R) (c0:xh1) (rec:xn→Option R) (v0:xn):Option R:=if (decide (v0<(c0.1.length:Int)))=true then if 0≤v0 then ix c0.1 v0.toNat fun x1=>if 0≤v0 then ix c0.2 v0.toNat fun x2=>(FleqBattery k x1 x2).bind fun p3=>if (!p3)=true then X0 v0 x1 x2 p3 else rec (IntKind.i64.wrap (v0+1)) else none else none else X1 v0
noncomputable def LleqBatteryS_0 {R:Type} (k:Nat) (X0:xn→I6→I6→Bool→Option R) (X1:xn→Option R) (c:xh1):Nat→xn→Option R
 | 0,_=>none
 | n+1,v=>BleqBatteryS_0 k X0 X1 c (LleqBatteryS_0 k X0 X1 c n) v
def YleqBatteryS_0_0 {R:Type} (K:Ex→St→Option R) (c0:xh1) (v0:xn) (x1:I6) (x2:I6) (p3:Bool):Option R:=K .ret ⟨27,0,[(0,.c (.l 159 sI6 c0.1)),(1,.c (.l 159 sI6 c0.2)),(4,cB false),(5,cI v0),(11,cI v0),(12,.c (.l 159 sI6 c0.1)),(13,cI (c0.1.length:Int)),(14,cB (decide (v0<(c0.1.length:Int)))),(17,.c (.l 159 sI6 c0.1)),(18,cI v0),(19,.c (.at_ (avs sI6 x1))),(20,.agg (avs sI6 x1)),(21,.c (.l 159 sI6 c0.2)),(22,cI v0),(23,.c (.at_ (avs sI6 x2))),(24,.agg (avs sI6 x2)),(25,cB p3),(26,cB (!p3))],[]⟩
def YleqBatteryS_0_1 {R:Type} (K:Ex→St→Option R) (c0:xh1) (v0:xn):Option R:=K (.exit 0) ⟨27,0,[(0,.c (.l 159 sI6 c0.1)),(1,.c (.l 159 sI6 c0.2)),(5,cI v0),(11,cI v0),(12,.c (.l 159 sI6 c0.1)),(13,cI (c0.1.length:Int)),(14,cB (decide (v0<(c0.1.length:Int))))],[]⟩
theorem lleqBatteryS_0 {R:Type} (k:Nat) (K:Ex→St→Option R) (c0:xh1):∀(n:Nat) (v:xn),z2 [0,0,1,5] (run E (den E k) (lv 85) k (j1 Tryz.f85 0)) n (StleqBatteryS_0 c0 v) K=LleqBatteryS_0 k (YleqBatteryS_0_0 K c0) (YleqBatteryS_0_1 K c0) c0 n v:=j4 (B:=BleqBatteryS_0 k (YleqBatteryS_0_0 K c0) (YleqBatteryS_0_1 K c0) c0) (fun _=>rfl) (fun n v=>by kernel_rfl) (fun _=>rfl) (fun _ _=>rfl)
theorem mleqBatteryS_0 (k:Nat) (a0:List I6) (a1:List I6):FleqBatteryS (k+1) a0 a1=if ((a0.length:Int) !=(a1.length:Int))=true then some false else z2 (R:=Bool) [0,0,1,5] (run E (den E k) (lv 85) k (j1 Tryz.f85 0)) k (StleqBatteryS_0 (a0,a1) 0) (zb E (den E k) (lv 85) k (yd Tryz.f85) 0 [] (zd E (rs 85) Tryz.f85:Ex→St→Option (Bool))):=by kernel_rfl
theorem eleqBatteryS (k:Nat) (a0:List I6) (a1:List I6):FleqBatteryS (k+1) a0 a1=if ((a0.length:Int) !=(a1.length:Int))=true then some false else LleqBatteryS_0 k (fun (v0:Int) (x1:I6) (x2:I6) (p3:Bool)=>some false) (fun (v0:Int)=>some true) (a0,a1) k 0:=by
 rw [mleqBatteryS_0]
 simp only [lleqBatteryS_0]
 kernel_rfl
noncomputable def FleqFault (k:Nat) (a0:I4) (a1:I4):Option (Bool):=den E k 195 [.agg (avs sI4 a0),.agg (avs sI4 a1)]
theorem eleqFault (k:Nat) (a0:I4) (a1:I4):FleqFault (k+1) a0 a1=if (a0.1 !=a1.1)=true then some false else if (a0.2.1 !=a1.2.1)=true then some false else if (a0.2.2.1 !=a1.2.2.1)=true then some false else if (a0.2.2.2 !=a1.2.2.2)=true then some false else some true:=by kernel_rfl
noncomputable def FleqFaultS (k:Nat) (a0:List I4) (a1:List I4):Option (Bool):=den E k 89 [.c (.l 86 sI4 a0),.c (.l 86 sI4 a1)]
abbrev ys1:Type:=(List I4)×(List I4)
abbrev wv:Type:=Int
def StleqFaultS_0 (c0:ys1) (v0:wv):St:=⟨27,0,[(0,.c (.l 86 sI4 c0.1)),(1,.c (.l 86 sI4 c0.2)),(5,cI v0)],[]⟩
noncomputable def BleqFaultS_0 {R:Type} (k:Nat) (X0:wv→I4→I4→Bool→Option R) (X1:wv→Option R) (c0:ys1) (rec:wv→Option R) (v0:wv):Option R:=if (decide (v0<(c0.1.length:Int)))=true then if 0≤v0 then ix c0.1 v0.toNat fun x1=>if 0≤v0 then ix c0.2 v0.toNat fun x2=>(FleqFault k x1 x2).bind fun p3=>if (!p3)=true then X0 v0 x1 x2 p3 else rec (IntKind.i64.wrap (v0+1)) else none else none else X1 v0
noncomputable def LleqFaultS_0 {R:Type} (k:Nat) (X0:wv→I4→I4→Bool→Option R) (X1:wv→Option R) (c:ys1):Nat→wv→Option R
 | 0,_=>none
 | n+1,v=>BleqFaultS_0 k X0 X1 c (LleqFaultS_0 k X0 X1 c n) v
def YleqFaultS_0_0 {R:Type} (K:Ex→St→Option R) (c0:ys1) (v0:wv) (x1:I4) (x2:I4) (p3:Bool):Option R:=K .ret ⟨27,0,[(0,.c (.l 86 sI4 c0.1)),(1,.c (.l 86 sI4 c0.2)),(4,cB false),(5,cI v0),(11,cI v0),(12,.c (.l 86 sI4 c0.1)),(13,cI (c0.1.length:Int)),(14,cB (decide (v0<(c0.1.length:Int)))),(17,.c (.l 86 sI4 c0.1)),(18,cI v0),(19,.c (.at_ (avs sI4 x1))),(20,.agg (avs sI4 x1)),(21,.c (.l 86 sI4 c0.2)),(22,cI v0),(23,.c (.at_ (avs sI4 x2))),(24,.agg (avs sI4 x2)),(25,cB p3),(26,cB (!p3))],[]⟩
def YleqFaultS_0_1 {R:Type} (K:Ex→St→Option R) (c0:ys1) (v0:wv):Option R:=K (.exit 0) ⟨27,0,[(0,.c (.l 86 sI4 c0.1)),(1,.c (.l 86 sI4 c0.2)),(5,cI v0),(11,cI v0),(12,.c (.l 86 sI4 c0.1)),(13,cI (c0.1.length:Int)),(14,cB (decide (v0<(c0.1.length:Int))))],[]⟩
theorem lleqFaultS_0 {R:Type} (k:Nat) (K:Ex→St→Option R) (c0:ys1):∀(n:Nat) (v:wv),z2 [0,0,1,5] (run E (den E k) (lv 89) k (j1 Tryz.f89 0)) n (StleqFaultS_0 c0 v) K=LleqFaultS_0 k (YleqFaultS_0_0 K c0) (YleqFaultS_0_1 K c0) c0 n v:=j4 (B:=BleqFaultS_0 k (YleqFaultS_0_0 K c0) (YleqFaultS_0_1 K c0) c0) (fun _=>rfl) (fun n v=>by kernel_rfl) (fun _=>rfl) (fun _ _=>rfl)
theorem mleqFaultS_0 (k:Nat) (a0:List I4) (a1:List I4):FleqFaultS (k+1) a0 a1=if ((a0.length:Int) !=(a1.length:Int))=true then some false else z2 (R:=Bool) [0,0,1,5] (run E (den E k) (lv 89) k (j1 Tryz.f89 0)) k (StleqFaultS_0 (a0,a1) 0) (zb E (den E k) (lv 89) k (yd Tryz.f89) 0 [] (zd E (rs 89) Tryz.f89:Ex→St→Option (Bool))):=by kernel_rfl
theorem eleqFaultS (k:Nat) (a0:List I4) (a1:List I4):FleqFaultS (k+1) a0 a1=if ((a0.length:Int) !=(a1.length:Int))=true then some false else LleqFaultS_0 k (fun (v0:Int) (x1:I4) (x2:I4) (p3:Bool)=>some false) (fun (v0:Int)=>some true) (a0,a1) k 0:=by
 rw [mleqFaultS_0]
 simp only [lleqFaultS_0]
 kernel_rfl
noncomputable def FleqFlow (k:Nat) (a0:I4) (a1:I4):Option (Bool):=den E k 193 [.agg (avs sI4 a0),.agg (avs sI4 a1)]
theorem eleqFlow (k:Nat) (a0:I4) (a1:I4):FleqFlow (k+1) a0 a1=if (a0.1 !=a1.1)=true then some false else if (a0.2.1 !=a1.2.1)=true then some false else if (a0.2.2.1 !=a1.2.2.1)=true then some false else if (a0.2.2.2 !=a1.2.2.2)=true then some false else some true:=by kernel_rfl
noncomputable def FleqFlowS (k:Nat) (a0:List I4) (a1:List I4):Option (Bool):=den E k 87 [.c (.l 85 sI4 a0),.c (.l 85 sI4 a1)]
abbrev CleqFlowS_0:Type:=(List I4)×(List I4)
abbrev x21:Type:=Int
def StleqFlowS_0 (c0:CleqFlowS_0) (v0:x21):St:=⟨27,0,[(0,.c (.l 85 sI4 c0.1)),(1,.c (.l 85 sI4 c0.2)),(5,cI v0)],[]⟩
noncomputable def BleqFlowS_0 {R:Type} (k:Nat) (X0:x21→I4→I4→Bool→Option R) (X1:x21→Option R) (c0:CleqFlowS_0) (rec:x21→Option R) (v0:x21):Option R:=if (decide (v0<(c0.1.length:Int)))=true then if 0≤v0 then ix c0.1 v0.toNat fun x1=>if 0≤v0 then ix c0.2 v0.toNat fun x2=>(FleqFlow k x1 x2).bind fun p3=>if (!p3)=true then X0 v0 x1 x2 p3 else rec (IntKind.i64.wrap (v0+1)) else none else none else X1 v0
noncomputable def LleqFlowS_0 {R:Type} (k:Nat) (X0:x21→I4→I4→Bool→Option R) (X1:x21→Option R) (c:CleqFlowS_0):Nat→x21→Option R
 | 0,_=>none
 | n+1,v=>BleqFlowS_0 k X0 X1 c (LleqFlowS_0 k X0 X1 c n) v
def YleqFlowS_0_0 {R:Type} (K:Ex→St→Option R) (c0:CleqFlowS_0) (v0:x21) (x1:I4) (x2:I4) (p3:Bool):Option R:=K .ret ⟨27,0,[(0,.c (.l 85 sI4 c0.1)),(1,.c (.l 85 sI4 c0.2)),(4,cB false),(5,cI v0),(11,cI v0),(12,.c (.l 85 sI4 c0.1)),(13,cI (c0.1.length:Int)),(14,cB (decide (v0<(c0.1.length:Int)))),(17,.c (.l 85 sI4 c0.1)),(18,cI v0),(19,.c (.at_ (avs sI4 x1))),(20,.agg (avs sI4 x1)),(21,.c (.l 85 sI4 c0.2)),(22,cI v0),(23,.c (.at_ (avs sI4 x2))),(24,.agg (avs sI4 x2)),(25,cB p3),(26,cB (!p3))],[]⟩
def YleqFlowS_0_1 {R:Type} (K:Ex→St→Option R) (c0:CleqFlowS_0) (v0:x21):Option R:=K (.exit 0) ⟨27,0,[(0,.c (.l 85 sI4 c0.1)),(1,.c (.l 85 sI4 c0.2)),(5,cI v0),(11,cI v0),(12,.c (.l 85 sI4 c0.1)),(13,cI (c0.1.length:Int)),(14,cB (decide (v0<(c0.1.length:Int))))],[]⟩
theorem lleqFlowS_0 {R:Type} (k:Nat) (K:Ex→St→Option R) (c0:CleqFlowS_0):∀(n:Nat) (v:x21),z2 [0,0,1,5] (run E (den E k) (lv 87) k (j1 Tryz.f87 0)) n (StleqFlowS_0 c0 v) K=LleqFlowS_0 k (YleqFlowS_0_0 K c0) (YleqFlowS_0_1 K c0) c0 n v:=j4 (B:=BleqFlowS_0 k (YleqFlowS_0_0 K c0) (YleqFlowS_0_1 K c0) c0) (fun _=>rfl) (fun n v=>by kernel_rfl) (fun _=>rfl) (fun _ _=>rfl)
theorem mleqFlowS_0 (k:Nat) (a0:List I4) (a1:List I4):FleqFlowS (k+1) a0 a1=if ((a0.length:Int) !=(a1.length:Int))=true then some false else z2 (R:=Bool) [0,0,1,5] (run E (den E k) (lv 87) k (j1 Tryz.f87 0)) k (StleqFlowS_0 (a0,a1) 0) (zb E (den E k) (lv 87) k (yd Tryz.f87) 0 [] (zd E (rs 87) Tryz.f87:Ex→St→Option (Bool))):=by kernel_rfl
theorem eleqFlowS (k:Nat) (a0:List I4) (a1:List I4):FleqFlowS (k+1) a0 a1=if ((a0.length:Int) !=(a1.length:Int))=true then some false else LleqFlowS_0 k (fun (v0:Int) (x1:I4) (x2:I4) (p3:Bool)=>some false) (fun (v0:Int)=>some true) (a0,a1) k 0:=by
 rw [mleqFlowS_0]
 simp only [lleqFlowS_0]
 kernel_rfl
noncomputable def vf1 (k:Nat) (a0:List Int) (a1:List Int):Option (Bool):=den E k 84 [.c (.l 3 (.i .i64) a0),.c (.l 3 (.i .i64) a1)]
abbrev CleqIntS_0:Type:=(List Int)×(List Int)
abbrev xb1:Type:=Int
def StleqIntS_0 (c0:CleqIntS_0) (v0:xb1):St:=⟨26,0,[(0,.c (.l 3 (.i .i64) c0.1)),(1,.c (.l 3 (.i .i64) c0.2)),(5,cI v0)],[]⟩
noncomputable def BleqIntS_0 {R:Type} (k:Nat) (X0:xb1→Int→Int→Option R) (X1:xb1→Option R) (c0:CleqIntS_0) (rec:xb1→Option R) (v0:xb1):Option R:=if (decide (v0<(c0.1.length:Int)))=true then if 0≤v0 then ix c0.1 v0.toNat fun x1=>if 0≤v0 then ix c0.2 v0.toNat fun x2=>if (x1 !=x2)=true then X0 v0 x1 x2 else rec (IntKind.i64.wrap (v0+1)) else none else none else X1 v0
noncomputable def LleqIntS_0 {R:Type} (k:Nat) (X0:xb1→Int→Int→Option R) (X1:xb1→Option R) (c:CleqIntS_0):Nat→xb1→Option R
 | 0,_=>none
 | n+1,v=>BleqIntS_0 k X0 X1 c (LleqIntS_0 k X0 X1 c n) v
def YleqIntS_0_0 {R:Type} (K:Ex→St→Option R) (c0:CleqIntS_0) (v0:xb1) (x1:Int) (x2:Int):Option R:=K .ret ⟨26,0,[(0,.c (.l 3 (.i .i64) c0.1)),(1,.c (.l 3 (.i .i64) c0.2)),(4,cB false),(5,cI v0),(11,cI v0),(12,.c (.l 3 (.i .i64) c0.1)),(13,cI (c0.1.length:Int)),(14,cB (decide (v0<(c0.1.length:Int)))),(17,.c (.l 3 (.i .i64) c0.1)),(18,cI v0),(19,.c (.at_ [vI x1])),(20,cI x1),(21,.c (.l 3 (.i .i64) c0.2)),(22,cI v0),(23,.c (.at_ [vI x2])),(24,cI x2),(25,cB (x1 !=x2))],[]⟩
def YleqIntS_0_1 {R:Type} (K:Ex→St→Option R) (c0:CleqIntS_0) (v0:xb1):Option R:=K (.exit 0) ⟨26,0,[(0,.c (.l 3 (.i .i64) c0.1)),(1,.c (.l 3 (.i .i64) c0.2)),(5,cI v0),(11,cI v0),(12,.c (.l 3 (.i .i64) c0.1)),(13,cI (c0.1.length:Int)),(14,cB (decide (v0<(c0.1.length:Int))))],[]⟩
theorem lleqIntS_0 {R:Type} (k:Nat) (K:Ex→St→Option R) (c0:CleqIntS_0):∀(n:Nat) (v:xb1),z2 [0,0,1,5] (run E (den E k) (lv 84) k (j1 Tryz.f84 0)) n (StleqIntS_0 c0 v) K=LleqIntS_0 k (YleqIntS_0_0 K c0) (YleqIntS_0_1 K c0) c0 n v:=j4 (B:=BleqIntS_0 k (YleqIntS_0_0 K c0) (YleqIntS_0_1 K c0) c0) (fun _=>rfl) (fun n v=>by kernel_rfl) (fun _=>rfl) (fun _ _=>rfl)
theorem mleqIntS_0 (k:Nat) (a0:List Int) (a1:List Int):vf1 (k+1) a0 a1=if ((a0.length:Int) !=(a1.length:Int))=true then some false else z2 (R:=Bool) [0,0,1,5] (run E (den E k) (lv 84) k (j1 Tryz.f84 0)) k (StleqIntS_0 (a0,a1) 0) (zb E (den E k) (lv 84) k (yd Tryz.f84) 0 [] (zd E (rs 84) Tryz.f84:Ex→St→Option (Bool))):=by kernel_rfl
theorem eleqIntS (k:Nat) (a0:List Int) (a1:List Int):vf1 (k+1) a0 a1=if ((a0.length:Int) !=(a1.length:Int))=true then some false else LleqIntS_0 k (fun (v0:Int) (x1:Int) (x2:Int)=>some false) (fun (v0:Int)=>some true) (a0,a1) k 0:=by
 rw [mleqIntS_0]
 simp only [lleqIntS_0]
 kernel_rfl
noncomputable def FleqLaw (k:Nat) (a0:List Int) (a1:List Int):Option (Bool):=den E k 83 [.agg [.l 3 (.i .i64) a0],.agg [.l 3 (.i .i64) a1]]
theorem eleqLaw (k:Nat) (a0:List Int) (a1:List Int):FleqLaw (k+1) a0 a1=(vf1 k a0 a1).bind fun p1=>if (!p1)=true then some false else some true:=by kernel_rfl
noncomputable def wr1 (k:Nat) (a0:List I6) (a1:List I6):Option (Bool):=den E k 90 [.c (.l 66 sI6 a0),.c (.l 66 sI6 a1)]
abbrev vm1:Type:=(List I6)×(List I6)
abbrev jr:Type:=Int
def StleqPacketS_0 (c0:vm1) (v0:jr):St:=⟨27,0,[(0,.c (.l 66 sI6 c0.1)),(1,.c (.l 66 sI6 c0.2)),(5,cI v0)],[]⟩
noncomputable def BleqPacketS_0 {R:Type} (k:Nat) (X0:jr→I6→I6→Bool→Option R) (X1:jr→Option R) (c0:vm1) (rec:jr→Option R) (v0:jr):Option R:=if (decide (v0<(c0.1.length:Int)))=true then if 0≤v0 then ix c0.1 v0.toNat fun x1=>if 0≤v0 then ix c0.2 v0.toNat fun x2=>(FleqPacket k x1 x2).bind fun p3=>if (!p3)=true then X0 v0 x1 x2 p3 else rec (IntKind.i64.wrap (v0+1)) else none else none else X1 v0
noncomputable def LleqPacketS_0 {R:Type} (k:Nat) (X0:jr→I6→I6→Bool→Option R) (X1:jr→Option R) (c:vm1):Nat→jr→Option R
 | 0,_=>none
 | n+1,v=>BleqPacketS_0 k X0 X1 c (LleqPacketS_0 k X0 X1 c n) v
def YleqPacketS_0_0 {R:Type} (K:Ex→St→Option R) (c0:vm1) (v0:jr) (x1:I6) (x2:I6) (p3:Bool):Option R:=K .ret ⟨27,0,[(0,.c (.l 66 sI6 c0.1)),(1,.c (.l 66 sI6 c0.2)),(4,cB false),(5,cI v0),(11,cI v0),(12,.c (.l 66 sI6 c0.1)),(13,cI (c0.1.length:Int)),(14,cB (decide (v0<(c0.1.length:Int)))),(17,.c (.l 66 sI6 c0.1)),(18,cI v0),(19,.c (.at_ (avs sI6 x1))),(20,.agg (avs sI6 x1)),(21,.c (.l 66 sI6 c0.2)),(22,cI v0),(23,.c (.at_ (avs sI6 x2))),(24,.agg (avs sI6 x2)),(25,cB p3),(26,cB (!p3))],[]⟩
def YleqPacketS_0_1 {R:Type} (K:Ex→St→Option R) (c0:vm1) (v0:jr):Option R:=K (.exit 0) ⟨27,0,[(0,.c (.l 66 sI6 c0.1)),(1,.c (.l 66 sI6 c0.2)),(5,cI v0),(11,cI v0),(12,.c (.l 66 sI6 c0.1)),(13,cI (c0.1.length:Int)),(14,cB (decide (v0<(c0.1.length:Int))))],[]⟩
theorem lleqPacketS_0 {R:Type} (k:Nat) (K:Ex→St→Option R) (c0:vm1):∀(n:Nat) (v:jr),z2 [0,0,1,5] (run E (den E k) (lv 90) k (j1 Tryz.f90 0)) n (StleqPacketS_0 c0 v) K=LleqPacketS_0 k (YleqPacketS_0_0 K c0) (YleqPacketS_0_1 K c0) c0 n v:=j4 (B:=BleqPacketS_0 k (YleqPacketS_0_0 K c0) (YleqPacketS_0_1 K c0) c0) (fun _=>rfl) (fun n v=>by kernel_rfl) (fun _=>rfl) (fun _ _=>rfl)
theorem mleqPacketS_0 (k:Nat) (a0:List I6) (a1:List I6):wr1 (k+1) a0 a1=if ((a0.length:Int) !=(a1.length:Int))=true then some false else z2 (R:=Bool) [0,0,1,5] (run E (den E k) (lv 90) k (j1 Tryz.f90 0)) k (StleqPacketS_0 (a0,a1) 0) (zb E (den E k) (lv 90) k (yd Tryz.f90) 0 [] (zd E (rs 90) Tryz.f90:Ex→St→Option (Bool))):=by kernel_rfl
theorem eleqPacketS (k:Nat) (a0:List I6) (a1:List I6):wr1 (k+1) a0 a1=if ((a0.length:Int) !=(a1.length:Int))=true then some false else LleqPacketS_0 k (fun (v0:Int) (x1:I6) (x2:I6) (p3:Bool)=>some false) (fun (v0:Int)=>some true) (a0,a1) k 0:=by
 rw [mleqPacketS_0]
 simp only [lleqPacketS_0]
 kernel_rfl
noncomputable def FleqLink (k:Nat) (a0:I2) (a1:I2):Option (Bool):=den E k 382 [.agg [vI a0.1,vI a0.2],.agg [vI a1.1,vI a1.2]]
theorem eleqLink (k:Nat) (a0:I2) (a1:I2):FleqLink (k+1) a0 a1=if (a0.1 !=a1.1)=true then some false else if (a0.2 !=a1.2)=true then some false else some true:=by kernel_rfl
noncomputable def FleqLinkS (k:Nat) (a0:List I2) (a1:List I2):Option (Bool):=den E k 334 [.c (.l 348 sI2 a0),.c (.l 348 sI2 a1)]
abbrev CleqLinkS_0:Type:=(List I2)×(List I2)
abbrev v31:Type:=Int
def StleqLinkS_0 (c0:CleqLinkS_0) (v0:v31):St:=⟨27,0,[(0,.c (.l 348 sI2 c0.1)),(1,.c (.l 348 sI2 c0.2)),(5,cI v0)],[]⟩
noncomputable def BleqLinkS_0 {R:Type} (k:Nat) (X0:v31→I2→I2→Bool→Option R) (X1:v31→Option R) (c0:CleqLinkS_0) (rec:v31→Option R) (v0:v31):Option R:=if (decide (v0<(c0.1.length:Int)))=true then if 0≤v0 then ix c0.1 v0.toNat fun x1=>if 0≤v0 then ix c0.2 v0.toNat fun x2=>(FleqLink k x1 x2).bind fun p3=>if (!p3)=true then X0 v0 x1 x2 p3 else rec (IntKind.i64.wrap (v0+1)) else none else none else X1 v0
noncomputable def LleqLinkS_0 {R:Type} (k:Nat) (X0:v31→I2→I2→Bool→Option R) (X1:v31→Option R) (c:CleqLinkS_0):Nat→v31→Option R
 | 0,_=>none
 | n+1,v=>BleqLinkS_0 k X0 X1 c (LleqLinkS_0 k X0 X1 c n) v
def YleqLinkS_0_0 {R:Type} (K:Ex→St→Option R) (c0:CleqLinkS_0) (v0:v31) (x1:I2) (x2:I2) (p3:Bool):Option R:=K .ret ⟨27,0,[(0,.c (.l 348 sI2 c0.1)),(1,.c (.l 348 sI2 c0.2)),(4,cB false),(5,cI v0),(11,cI v0),(12,.c (.l 348 sI2 c0.1)),(13,cI (c0.1.length:Int)),(14,cB (decide (v0<(c0.1.length:Int)))),(17,.c (.l 348 sI2 c0.1)),(18,cI v0),(19,.c (.at_ [vI x1.1,vI x1.2])),(20,.agg [vI x1.1,vI x1.2]),(21,.c (.l 348 sI2 c0.2)),(22,cI v0),(23,.c (.at_ [vI x2.1,vI x2.2])),(24,.agg [vI x2.1,vI x2.2]),(25,cB p3),(26,cB (!p3))],[]⟩
def YleqLinkS_0_1 {R:Type} (K:Ex→St→Option R) (c0:CleqLinkS_0) (v0:v31):Option R:=K (.exit 0) ⟨27,0,[(0,.c (.l 348 sI2 c0.1)),(1,.c (.l 348 sI2 c0.2)),(5,cI v0),(11,cI v0),(12,.c (.l 348 sI2 c0.1)),(13,cI (c0.1.length:Int)),(14,cB (decide (v0<(c0.1.length:Int))))],[]⟩
theorem lleqLinkS_0 {R:Type} (k:Nat) (K:Ex→St→Option R) (c0:CleqLinkS_0):∀(n:Nat) (v:v31),z2 [0,0,1,5] (run E (den E k) (lv 334) k (j1 Tryz.f334 0)) n (StleqLinkS_0 c0 v) K=LleqLinkS_0 k (YleqLinkS_0_0 K c0) (YleqLinkS_0_1 K c0) c0 n v:=j4 (B:=BleqLinkS_0 k (YleqLinkS_0_0 K c0) (YleqLinkS_0_1 K c0) c0) (fun _=>rfl) (fun n v=>by kernel_rfl) (fun _=>rfl) (fun _ _=>rfl)
theorem mleqLinkS_0 (k:Nat) (a0:List I2) (a1:List I2):FleqLinkS (k+1) a0 a1=if ((a0.length:Int) !=(a1.length:Int))=true then some false else z2 (R:=Bool) [0,0,1,5] (run E (den E k) (lv 334) k (j1 Tryz.f334 0)) k (StleqLinkS_0 (a0,a1) 0) (zb E (den E k) (lv 334) k (yd Tryz.f334) 0 [] (zd E (rs 334) Tryz.f334:Ex→St→Option (Bool))):=by kernel_rfl
theorem eleqLinkS (k:Nat) (a0:List I2) (a1:List I2):FleqLinkS (k+1) a0 a1=if ((a0.length:Int) !=(a1.length:Int))=true then some false else LleqLinkS_0 k (fun (v0:Int) (x1:I2) (x2:I2) (p3:Bool)=>some false) (fun (v0:Int)=>some true) (a0,a1) k 0:=by
 rw [mleqLinkS_0]
 simp only [lleqLinkS_0]
 kernel_rfl
noncomputable def FleqSpan (k:Nat) (a0:I2) (a1:I2):Option (Bool):=den E k 333 [.agg [vI a0.1,vI a0.2],.agg [vI a1.1,vI a1.2]]
theorem eleqSpan (k:Nat) (a0:I2) (a1:I2):FleqSpan (k+1) a0 a1=if (a0.1 !=a1.1)=true then some false else if (a0.2 !=a1.2)=true then some false else some true:=by kernel_rfl
noncomputable def FleqTable (k:Nat) (a0:Int×(List Int)×List Int) (a1:Int×(List Int)×List Int):Option (Bool):=den E k 383 [.agg (avs y9 a0),.agg (avs y9 a1)]
theorem eleqTable (k:Nat) (a0:Int×(List Int)×List Int) (a1:Int×(List Int)×List Int):FleqTable (k+1) a0 a1=if (a0.1 !=a1.1)=true then some false else (vf1 k a0.2.1 a1.2.1).bind fun p1=>if (!p1)=true then some false else (vf1 k a0.2.2 a1.2.2).bind fun p2=>if (!p2)=true then some false else some true:=by kernel_rfl
noncomputable def FleqTableS (k:Nat) (a0:List (Int×(List Int)×List Int)) (a1:List (Int×(List Int)×List Int)):Option (Bool):=den E k 335 [.c (.l 220 y9 a0),.c (.l 220 y9 a1)]
abbrev ju1:Type:=(List (Int×(List Int)×List Int))×(List (Int×(List Int)×List Int))
abbrev ww:Type:=Int
def StleqTableS_0 (c0:ju1) (v0:ww):St:=⟨27,0,[(0,.c (.l 220 y9 c0.1)),(1,.c (.l 220 y9 c0.2)),(5,cI v0)],[]⟩
noncomputable def BleqTableS_0 {R:Type} (k:Nat) (X0:ww→(Int×(List Int)×List Int)→(Int×(List Int)×List Int)→Bool→Option R) (X1:ww→Option R) (c0:ju1) (rec:ww→Option R) (v0:ww):Option R:=if (decide (v0<(c0.1.length:Int)))=true then if 0≤v0 then ix c0.1 v0.toNat fun x1=>if 0≤v0 then ix c0.2 v0.toNat fun x2=>(FleqTable k x1 x2).bind fun p3=>if (!p3)=true then X0 v0 x1 x2 p3 else rec (IntKind.i64.wrap (v0+1)) else none else none else X1 v0
noncomputable def LleqTableS_0 {R:Type} (k:Nat) (X0:ww→(Int×(List Int)×List Int)→(Int×(List Int)×List Int)→Bool→Option R) (X1:ww→Option R) (c:ju1):Nat→ww→Option R
 | 0,_=>none
 | n+1,v=>BleqTableS_0 k X0 X1 c (LleqTableS_0 k X0 X1 c n) v
def YleqTableS_0_0 {R:Type} (K:Ex→St→Option R) (c0:ju1) (v0:ww) (x1:Int×(List Int)×List Int) (x2:Int×(List Int)×List Int) (p3:Bool):Option R:=K .ret ⟨27,0,[(0,.c (.l 220 y9 c0.1)),(1,.c (.l 220 y9 c0.2)),(4,cB false),(5,cI v0),(11,cI v0),(12,.c (.l 220 y9 c0.1)),(13,cI (c0.1.length:Int)),(14,cB (decide (v0<(c0.1.length:Int)))),(17,.c (.l 220 y9 c0.1)),(18,cI v0),(19,.c (.at_ (avs y9 x1))),(20,.agg (avs y9 x1)),(21,.c (.l 220 y9 c0.2)),(22,cI v0),(23,.c (.at_ (avs y9 x2))),(24,.agg (avs y9 x2)),(25,cB p3),(26,cB (!p3))],[]⟩
def YleqTableS_0_1 {R:Type} (K:Ex→St→Option R) (c0:ju1) (v0:ww):Option R:=K (.exit 0) ⟨27,0,[(0,.c (.l 220 y9 c0.1)),(1,.c (.l 220 y9 c0.2)),(5,cI v0),(11,cI v0),(12,.c (.l 220 y9 c0.1)),(13,cI (c0.1.length:Int)),(14,cB (decide (v0<(c0.1.length:Int))))],[]⟩
theorem lleqTableS_0 {R:Type} (k:Nat) (K:Ex→St→Option R) (c0:ju1):∀(n:Nat) (v:ww),z2 [0,0,1,5] (run E (den E k) (lv 335) k (j1 Tryz.f335 0)) n (StleqTableS_0 c0 v) K=LleqTableS_0 k (YleqTableS_0_0 K c0) (YleqTableS_0_1 K c0) c0 n v:=j4 (B:=BleqTableS_0 k (YleqTableS_0_0 K c0) (YleqTableS_0_1 K c0) c0) (fun _=>rfl) (fun n v=>by kernel_rfl) (fun _=>rfl) (fun _ _=>rfl)
theorem mleqTableS_0 (k:Nat) (a0:List (Int×(List Int)×List Int)) (a1:List (Int×(List Int)×List Int)):FleqTableS (k+1) a0 a1=if ((a0.length:Int) !=(a1.length:Int))=true then some false else z2 (R:=Bool) [0,0,1,5] (run E (den E k) (lv 335) k (j1 Tryz.f335 0)) k (StleqTableS_0 (a0,a1) 0) (zb E (den E k) (lv 335) k (yd Tryz.f335) 0 [] (zd E (rs 335) Tryz.f335:Ex→St→Option (Bool))):=by kernel_rfl
theorem eleqTableS (k:Nat) (a0:List (Int×(List Int)×List Int)) (a1:List (Int×(List Int)×List Int)):FleqTableS (k+1) a0 a1=if ((a0.length:Int) !=(a1.length:Int))=true then some false else LleqTableS_0 k (fun (v0:Int) (x1:Int×(List Int)×List Int) (x2:Int×(List Int)×List Int) (p3:Bool)=>some false) (fun (v0:Int)=>some true) (a0,a1) k 0:=by
 rw [mleqTableS_0]
 simp only [lleqTableS_0]
 kernel_rfl
noncomputable def FleqPiece (k:Nat) (a0:zf) (a1:zf):Option (Bool):=den E k 265 [.agg (avs wk a0),.agg (avs wk a1)]
theorem eleqPiece (k:Nat) (a0:zf) (a1:zf):FleqPiece (k+1) a0 a1=(FleqSpan k a0.1 a1.1).bind fun p1=>if (!p1)=true then some false else (FleqLinkS k a0.2.1 a1.2.1).bind fun p2=>if (!p2)=true then some false else (FleqTableS k a0.2.2 a1.2.2).bind fun p3=>if (!p3)=true then some false else some true:=by kernel_rfl
noncomputable def FleqPieceS (k:Nat) (a0:List zf) (a1:List zf):Option (Bool):=den E k 190 [.c (.l 198 wk a0),.c (.l 198 wk a1)]
abbrev xs1:Type:=(List zf)×(List zf)
abbrev vw:Type:=Int
def StleqPieceS_0 (c0:xs1) (v0:vw):St:=⟨27,0,[(0,.c (.l 198 wk c0.1)),(1,.c (.l 198 wk c0.2)),(5,cI v0)],[]⟩
noncomputable def BleqPieceS_0 {R:Type} (k:Nat) (X0:vw→zf→zf→Bool→Option R) (X1:vw→Option R) (c0:xs1) (rec:vw→Option R) (v0:vw):Option R:=if (decide (v0<(c0.1.length:Int)))=true then if 0≤v0 then ix c0.1 v0.toNat fun x1=>if 0≤v0 then ix c0.2 v0.toNat fun x2=>(FleqPiece k x1 x2).bind fun p3=>if (!p3)=true then X0 v0 x1 x2 p3 else rec (IntKind.i64.wrap (v0+1)) else none else none else X1 v0
noncomputable def LleqPieceS_0 {R:Type} (k:Nat) (X0:vw→zf→zf→Bool→Option R) (X1:vw→Option R) (c:xs1):Nat→vw→Option R
 | 0,_=>none
 | n+1,v=>BleqPieceS_0 k X0 X1 c (LleqPieceS_0 k X0 X1 c n) v
def YleqPieceS_0_0 {R:Type} (K:Ex→St→Option R) (c0:xs1) (v0:vw) (x1:zf) (x2:zf) (p3:Bool):Option R:=K .ret ⟨27,0,[(0,.c (.l 198 wk c0.1)),(1,.c (.l 198 wk c0.2)),(4,cB false),(5,cI v0),(11,cI v0),(12,.c (.l 198 wk c0.1)),(13,cI (c0.1.length:Int)),(14,cB (decide (v0<(c0.1.length:Int)))),(17,.c (.l 198 wk c0.1)),(18,cI v0),(19,.c (.at_ (avs wk x1))),(20,.agg (avs wk x1)),(21,.c (.l 198 wk c0.2)),(22,cI v0),(23,.c (.at_ (avs wk x2))),(24,.agg (avs wk x2)),(25,cB p3),(26,cB (!p3))],[]⟩
def YleqPieceS_0_1 {R:Type} (K:Ex→St→Option R) (c0:xs1) (v0:vw):Option R:=K (.exit 0) ⟨27,0,[(0,.c (.l 198 wk c0.1)),(1,.c (.l 198 wk c0.2)),(5,cI v0),(11,cI v0),(12,.c (.l 198 wk c0.1)),(13,cI (c0.1.length:Int)),(14,cB (decide (v0<(c0.1.length:Int))))],[]⟩
theorem lleqPieceS_0 {R:Type} (k:Nat) (K:Ex→St→Option R) (c0:xs1):∀(n:Nat) (v:vw),z2 [0,0,1,5] (run E (den E k) (lv 190) k (j1 Tryz.f190 0)) n (StleqPieceS_0 c0 v) K=LleqPieceS_0 k (YleqPieceS_0_0 K c0) (YleqPieceS_0_1 K c0) c0 n v:=j4 (B:=BleqPieceS_0 k (YleqPieceS_0_0 K c0) (YleqPieceS_0_1 K c0) c0) (fun _=>rfl) (fun n v=>by kernel_rfl) (fun _=>rfl) (fun _ _=>rfl)
theorem mleqPieceS_0 (k:Nat) (a0:List zf) (a1:List zf):FleqPieceS (k+1) a0 a1=if ((a0.length:Int) !=(a1.length:Int))=true then some false else z2 (R:=Bool) [0,0,1,5] (run E (den E k) (lv 190) k (j1 Tryz.f190 0)) k (StleqPieceS_0 (a0,a1) 0) (zb E (den E k) (lv 190) k (yd Tryz.f190) 0 [] (zd E (rs 190) Tryz.f190:Ex→St→Option (Bool))):=by kernel_rfl
theorem eleqPieceS (k:Nat) (a0:List zf) (a1:List zf):FleqPieceS (k+1) a0 a1=if ((a0.length:Int) !=(a1.length:Int))=true then some false else LleqPieceS_0 k (fun (v0:Int) (x1:zf) (x2:zf) (p3:Bool)=>some false) (fun (v0:Int)=>some true) (a0,a1) k 0:=by
 rw [mleqPieceS_0]
 simp only [lleqPieceS_0]
 kernel_rfl
noncomputable def FleqProgram (k:Nat) (a0:j2) (a1:j2):Option (Bool):=den E k 82 [.agg (avs z7 a0),.agg (avs z7 a1)]
theorem eleqProgram (k:Nat) (a0:j2) (a1:j2):FleqProgram (k+1) a0 a1=if (a0.1 !=a1.1)=true then some false else if (a0.2.1 !=a1.2.1)=true then some false else if (a0.2.2.1 !=a1.2.2.1)=true then some false else (FleqPieceS k a0.2.2.2 a1.2.2.2).bind fun p1=>if (!p1)=true then some false else some true:=by kernel_rfl
noncomputable def FleqQueue (k:Nat) (a0:List I6) (a1:List I6):Option (Bool):=den E k 192 [.agg [.l 66 sI6 a0],.agg [.l 66 sI6 a1]]
theorem eleqQueue (k:Nat) (a0:List I6) (a1:List I6):FleqQueue (k+1) a0 a1=(wr1 k a0 a1).bind fun p1=>if (!p1)=true then some false else some true:=by kernel_rfl
noncomputable def FleqQueueS (k:Nat) (a0:List (List I6)) (a1:List (List I6)):Option (Bool):=den E k 86 [.c (.l 140 x71 a0),.c (.l 140 x71 a1)]
abbrev jt1:Type:=(List (List I6))×(List (List I6))
abbrev xv:Type:=Int
def StleqQueueS_0 (c0:jt1) (v0:xv):St:=⟨27,0,[(0,.c (.l 140 x71 c0.1)),(1,.c (.l 140 x71 c0.2)),(5,cI v0)],[]⟩
noncomputable def BleqQueueS_0 {R:Type} (k:Nat) (X0:xv→(List I6)→(List I6)→Bool→Option R) (X1:xv→Option R) (c0:jt1) (rec:xv→Option R) (v0:xv):Option R:=if (decide (v0<(c0.1.length:Int)))=true then if 0≤v0 then ix c0.1 v0.toNat fun x1=>if 0≤v0 then ix c0.2 v0.toNat fun x2=>(FleqQueue k x1 x2).bind fun p3=>if (!p3)=true then X0 v0 x1 x2 p3 else rec (IntKind.i64.wrap (v0+1)) else none else none else X1 v0
noncomputable def LleqQueueS_0 {R:Type} (k:Nat) (X0:xv→(List I6)→(List I6)→Bool→Option R) (X1:xv→Option R) (c:jt1):Nat→xv→Option R
 | 0,_=>none
 | n+1,v=>BleqQueueS_0 k X0 X1 c (LleqQueueS_0 k X0 X1 c n) v
def YleqQueueS_0_0 {R:Type} (K:Ex→St→Option R) (c0:jt1) (v0:xv) (x1:List I6) (x2:List I6) (p3:Bool):Option R:=K .ret ⟨27,0,[(0,.c (.l 140 x71 c0.1)),(1,.c (.l 140 x71 c0.2)),(4,cB false),(5,cI v0),(11,cI v0),(12,.c (.l 140 x71 c0.1)),(13,cI (c0.1.length:Int)),(14,cB (decide (v0<(c0.1.length:Int)))),(17,.c (.l 140 x71 c0.1)),(18,cI v0),(19,.c (.at_ [.l 66 sI6 x1])),(20,.agg [.l 66 sI6 x1]),(21,.c (.l 140 x71 c0.2)),(22,cI v0),(23,.c (.at_ [.l 66 sI6 x2])),(24,.agg [.l 66 sI6 x2]),(25,cB p3),(26,cB (!p3))],[]⟩
def YleqQueueS_0_1 {R:Type} (K:Ex→St→Option R) (c0:jt1) (v0:xv):Option R:=K (.exit 0) ⟨27,0,[(0,.c (.l 140 x71 c0.1)),(1,.c (.l 140 x71 c0.2)),(5,cI v0),(11,cI v0),(12,.c (.l 140 x71 c0.1)),(13,cI (c0.1.length:Int)),(14,cB (decide (v0<(c0.1.length:Int))))],[]⟩
theorem lleqQueueS_0 {R:Type} (k:Nat) (K:Ex→St→Option R) (c0:jt1):∀(n:Nat) (v:xv),z2 [0,0,1,5] (run E (den E k) (lv 86) k (j1 Tryz.f86 0)) n (StleqQueueS_0 c0 v) K=LleqQueueS_0 k (YleqQueueS_0_0 K c0) (YleqQueueS_0_1 K c0) c0 n v:=j4 (B:=BleqQueueS_0 k (YleqQueueS_0_0 K c0) (YleqQueueS_0_1 K c0) c0) (fun _=>rfl) (fun n v=>by kernel_rfl) (fun _=>rfl) (fun _ _=>rfl)
theorem mleqQueueS_0 (k:Nat) (a0:List (List I6)) (a1:List (List I6)):FleqQueueS (k+1) a0 a1=if ((a0.length:Int) !=(a1.length:Int))=true then some false else z2 (R:=Bool) [0,0,1,5] (run E (den E k) (lv 86) k (j1 Tryz.f86 0)) k (StleqQueueS_0 (a0,a1) 0) (zb E (den E k) (lv 86) k (yd Tryz.f86) 0 [] (zd E (rs 86) Tryz.f86:Ex→St→Option (Bool))):=by kernel_rfl
theorem eleqQueueS (k:Nat) (a0:List (List I6)) (a1:List (List I6)):FleqQueueS (k+1) a0 a1=if ((a0.length:Int) !=(a1.length:Int))=true then some false else LleqQueueS_0 k (fun (v0:Int) (x1:List I6) (x2:List I6) (p3:Bool)=>some false) (fun (v0:Int)=>some true) (a0,a1) k 0:=by
 rw [mleqQueueS_0]
 simp only [lleqQueueS_0]
 kernel_rfl
noncomputable def FleqSent (k:Nat) (a0:I4) (a1:I4):Option (Bool):=den E k 99 [.agg (avs sI4 a0),.agg (avs sI4 a1)]
theorem eleqSent (k:Nat) (a0:I4) (a1:I4):FleqSent (k+1) a0 a1=if (a0.1 !=a1.1)=true then some false else if (a0.2.1 !=a1.2.1)=true then some false else if (a0.2.2.1 !=a1.2.2.1)=true then some false else if (a0.2.2.2 !=a1.2.2.2)=true then some false else some true:=by kernel_rfl
end Go.Proofs.YtkgjmgaccfmhpaaGreat.World
