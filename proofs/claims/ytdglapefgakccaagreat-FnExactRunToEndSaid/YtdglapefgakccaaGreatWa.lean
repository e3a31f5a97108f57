/- The equations of the functions that a law reaches, part 1. No condition. -/
import Derived.Test.YtdglapefgakccaaGreatV4
import Derived.Test.YtdglapefgakccaaGreatProg
import Derived.KernelRfl
set_option linter.unusedSimpArgs false
set_option linter.unusedVariables false
namespace Go.Proofs.YtdglapefgakccaaGreat.World
open Go Go.V Go.Proofs
open Go.IntKind (i64 u64)
variable {R:Type}
set_option maxRecDepth 100000
set_option maxHeartbeats 4000000
abbrev I6:=Int×Int×Int×Int×Int×Int
abbrev I4:=Int×Int×Int×Int
abbrev I3:=Int×Int×Int
abbrev I2:=Int×Int
abbrev TLPiece:=I2×(List I2)×List (Int×(List Int)×List Int)
abbrev TPiece:=I2×(List I2)×List (Int×(List Int)×List Int)
abbrev TLProgram:=Int×Int×Int×List TPiece
abbrev W0:=Int×Int×Int×List TPiece
abbrev TLSky:=Int×(List I4)×(List I3)×Int×Int×Int×Int×Int×(List I3)×Int
abbrev TSky:=Int×(List I4)×(List I3)×Int×Int×Int×Int×Int×(List I3)×Int
abbrev TLWorld:=TSky×W0×(List Int)×(List Int)×(List I6)×(List (List I6))×(List I4)×(List Int)×(List (Int×Int×List Int))×(List I4)×Int×Int×(List I6)×List I4
abbrev z2:=TSky×W0×(List Int)×(List Int)×(List I6)×(List (List I6))×(List I4)×(List Int)×(List (Int×Int×List Int))×(List I4)×Int×Int×(List I6)×List I4
abbrev sI4:Sh:=(.a [(.i .i64),(.i .i64),(.i .i64),(.i .i64)])
abbrev sI3:Sh:=(.a [(.i .i64),(.i .i64),(.i .i64)])
abbrev sI2:Sh:=(.a [(.i .i64),(.i .i64)])
abbrev sZone:Sh:=(.a [(.i .i64),sI2])
abbrev sLSky:Sh:=(.a [(.i .i64),(.l 207 sI4),(.l 209 sI3),(.i .i64),(.i .i64),(.i .i64),(.i .i64),(.i .i64),(.l 213 sZone),(.i .i64)])
abbrev sLaw:Sh:=(.a [(.l 3 (.i .i64))])
abbrev sSky:Sh:=(.a [(.i .i64),(.l 181 sI4),(.l 183 sI3),(.i .i64),(.i .i64),(.i .i64),(.i .i64),(.i .i64),(.l 188 sZone),(.i .i64)])
abbrev sTable:Sh:=(.a [(.i .i64),(.l 3 (.i .i64)),(.l 3 (.i .i64))])
abbrev sPiece:Sh:=(.a [sI2,(.l 288 sI2),(.l 290 sTable)])
abbrev m0:Sh:=(.a [(.i .i64),(.i .i64),(.i .i64),(.l 198 sPiece)])
abbrev sI6:Sh:=(.a [(.i .i64),(.i .i64),(.i .i64),(.i .i64),(.i .i64),(.i .i64)])
abbrev J0:Sh:=(.a [(.l 229 sI6)])
abbrev T0:Sh:=(.a [(.i .i64),(.i .i64),(.l 3 (.i .i64))])
abbrev Q0:Sh:=(.a [sSky,m0,sLaw,(.l 3 (.i .i64)),(.l 119 sI6),(.l 117 J0),(.l 89 sI4),(.l 3 (.i .i64)),(.l 225 T0),(.l 90 sI4),(.i .i64),(.i .i64),(.l 229 sI6),(.l 168 sI4)])
abbrev sLPiece:Sh:=(.a [sI2,(.l 382 sI2),(.l 380 sTable)])
abbrev sLProgram:Sh:=(.a [(.i .i64),(.i .i64),(.i .i64),(.l 311 sLPiece)])
abbrev sLQueue:Sh:=(.a [(.l 256 sI6)])
abbrev sLWorld:Sh:=(.a [sLSky,sLProgram,sLaw,(.l 3 (.i .i64)),(.l 252 sI6),(.l 238 sLQueue),(.l 83 sI4),(.l 3 (.i .i64)),(.l 240 T0),(.l 85 sI4),(.i .i64),(.i .i64),(.l 256 sI6),(.l 258 sI4)])
noncomputable def ty:Nat->Option TyI
 | 3=>some ⟨.one,1,8,[(.int .i64 0)],(.i .i64)⟩
 | 4=>some ⟨.one,1,1,[(.bool false)],.b⟩
 | 22=>some ⟨.slc 207,1,24,[(.slice none 0 0)],(.l 207 sI4)⟩
 | 23=>some ⟨.slc 209,1,24,[(.slice none 0 0)],(.l 209 sI3)⟩
 | 24=>some ⟨.slc 213,1,24,[(.slice none 0 0)],(.l 213 sZone)⟩
 | 26=>some ⟨.agg [(0,3),(1,22),(2,23),(3,3),(4,3),(5,3),(6,3),(7,3),(8,24),(9,3)],10,128,[(.int .i64 0),(.slice none 0 0),(.slice none 0 0),(.int .i64 0),(.int .i64 0),(.int .i64 0),(.int .i64 0),(.int .i64 0),(.slice none 0 0),(.int .i64 0)],sLSky⟩
 | 27=>some ⟨.slc 3,1,24,[(.slice none 0 0)],(.l 3 (.i .i64))⟩
 | 29=>some ⟨.agg [(0,27)],1,24,[(.slice none 0 0)],sLaw⟩
 | 32=>some ⟨.slc 181,1,24,[(.slice none 0 0)],(.l 181 sI4)⟩
 | 33=>some ⟨.slc 183,1,24,[(.slice none 0 0)],(.l 183 sI3)⟩
 | 34=>some ⟨.slc 188,1,24,[(.slice none 0 0)],(.l 188 sZone)⟩
 | 36=>some ⟨.agg [(0,3),(1,32),(2,33),(3,3),(4,3),(5,3),(6,3),(7,3),(8,34),(9,3)],10,128,[(.int .i64 0),(.slice none 0 0),(.slice none 0 0),(.int .i64 0),(.int .i64 0),(.int .i64 0),(.int .i64 0),(.int .i64 0),(.slice none 0 0),(.int .i64 0)],sSky⟩
 | 37=>some ⟨.slc 198,1,24,[(.slice none 0 0)],(.l 198 sPiece)⟩
 | 39=>some ⟨.agg [(0,3),(1,3),(2,3),(3,37)],4,48,[(.int .i64 0),(.int .i64 0),(.int .i64 0),(.slice none 0 0)],m0⟩
 | 40=>some ⟨.agg [(0,27)],1,24,[(.slice none 0 0)],sLaw⟩
 | 41=>some ⟨.slc 119,1,24,[(.slice none 0 0)],(.l 119 sI6)⟩
 | 42=>some ⟨.slc 117,1,24,[(.slice none 0 0)],(.l 117 J0)⟩
 | 43=>some ⟨.slc 89,1,24,[(.slice none 0 0)],(.l 89 sI4)⟩
 | 44=>some ⟨.slc 225,1,24,[(.slice none 0 0)],(.l 225 T0)⟩
 | 45=>some ⟨.slc 90,1,24,[(.slice none 0 0)],(.l 90 sI4)⟩
 | 46=>some ⟨.slc 229,1,24,[(.slice none 0 0)],(.l 229 sI6)⟩
 | 47=>some ⟨.slc 168,1,24,[(.slice none 0 0)],(.l 168 sI4)⟩
 | 49=>some ⟨.agg [(0,36),(10,39),(14,40),(15,27),(16,41),(17,42),(18,43),(19,27),(20,44),(21,45),(22,3),(23,3),(24,46),(25,47)],26,432,[(.int .i64 0),(.slice none 0 0),(.slice none 0 0),(.int .i64 0),(.int .i64 0),(.int .i64 0),(.int .i64 0),(.int .i64 0),(.slice none 0 0),(.int .i64 0),(.int .i64 0),(.int .i64 0),(.int .i64 0),(.slice none 0 0),(.slice none 0 0),(.slice none 0 0),(.slice none 0 0),(.slice none 0 0),(.slice none 0 0),(.slice none 0 0),(.slice none 0 0),(.slice none 0 0),(.int .i64 0),(.int .i64 0),(.slice none 0 0),(.slice none 0 0)],Q0⟩
 | 64=>some ⟨.slc 311,1,24,[(.slice none 0 0)],(.l 311 sLPiece)⟩
 | 66=>some ⟨.agg [(0,3),(1,3),(2,3),(3,64)],4,48,[(.int .i64 0),(.int .i64 0),(.int .i64 0),(.slice none 0 0)],sLProgram⟩
 | 67=>some ⟨.slc 252,1,24,[(.slice none 0 0)],(.l 252 sI6)⟩
 | 68=>some ⟨.slc 238,1,24,[(.slice none 0 0)],(.l 238 sLQueue)⟩
 | 69=>some ⟨.slc 83,1,24,[(.slice none 0 0)],(.l 83 sI4)⟩
 | 70=>some ⟨.slc 240,1,24,[(.slice none 0 0)],(.l 240 T0)⟩
 | 71=>some ⟨.slc 85,1,24,[(.slice none 0 0)],(.l 85 sI4)⟩
 | 72=>some ⟨.slc 256,1,24,[(.slice none 0 0)],(.l 256 sI6)⟩
 | 73=>some ⟨.slc 258,1,24,[(.slice none 0 0)],(.l 258 sI4)⟩
 | 75=>some ⟨.agg [(0,26),(10,66),(14,29),(15,27),(16,67),(17,68),(18,69),(19,27),(20,70),(21,71),(22,3),(23,3),(24,72),(25,73)],26,432,[(.int .i64 0),(.slice none 0 0),(.slice none 0 0),(.int .i64 0),(.int .i64 0),(.int .i64 0),(.int .i64 0),(.int .i64 0),(.slice none 0 0),(.int .i64 0),(.int .i64 0),(.int .i64 0),(.int .i64 0),(.slice none 0 0),(.slice none 0 0),(.slice none 0 0),(.slice none 0 0),(.slice none 0 0),(.slice none 0 0),(.slice none 0 0),(.slice none 0 0),(.slice none 0 0),(.int .i64 0),(.int .i64 0),(.slice none 0 0),(.slice none 0 0)],sLWorld⟩
 | 83=>some ⟨.agg [(0,3),(1,3),(2,3),(3,3)],4,32,[(.int .i64 0),(.int .i64 0),(.int .i64 0),(.int .i64 0)],sI4⟩
 | 85=>some ⟨.agg [(0,3),(1,3),(2,3),(3,3)],4,32,[(.int .i64 0),(.int .i64 0),(.int .i64 0),(.int .i64 0)],sI4⟩
 | 89=>some ⟨.agg [(0,3),(1,3),(2,3),(3,3)],4,32,[(.int .i64 0),(.int .i64 0),(.int .i64 0),(.int .i64 0)],sI4⟩
 | 90=>some ⟨.agg [(0,3),(1,3),(2,3),(3,3)],4,32,[(.int .i64 0),(.int .i64 0),(.int .i64 0),(.int .i64 0)],sI4⟩
 | 117=>some ⟨.agg [(0,46)],1,24,[(.slice none 0 0)],J0⟩
 | 119=>some ⟨.agg [(0,3),(1,3),(2,3),(3,3),(4,3),(5,3)],6,48,[(.int .i64 0),(.int .i64 0),(.int .i64 0),(.int .i64 0),(.int .i64 0),(.int .i64 0)],sI6⟩
 | 121=>some ⟨.slc 194,1,24,[(.slice none 0 0)],(.l 194 sI2)⟩
 | 168=>some ⟨.agg [(0,3),(1,3),(2,3),(3,3)],4,32,[(.int .i64 0),(.int .i64 0),(.int .i64 0),(.int .i64 0)],sI4⟩
 | 181=>some ⟨.agg [(0,3),(1,3),(2,3),(3,3)],4,32,[(.int .i64 0),(.int .i64 0),(.int .i64 0),(.int .i64 0)],sI4⟩
 | 183=>some ⟨.agg [(0,3),(1,3),(2,3)],3,24,[(.int .i64 0),(.int .i64 0),(.int .i64 0)],sI3⟩
 | 186=>some ⟨.agg [(0,3),(1,3)],2,16,[(.int .i64 0),(.int .i64 0)],sI2⟩
 | 188=>some ⟨.agg [(0,3),(1,186)],3,24,[(.int .i64 0),(.int .i64 0),(.int .i64 0)],sZone⟩
 | 191=>some ⟨.slc 288,1,24,[(.slice none 0 0)],(.l 288 sI2)⟩
 | 194=>some ⟨.agg [(0,3),(1,3)],2,16,[(.int .i64 0),(.int .i64 0)],sI2⟩
 | 195=>some ⟨.slc 290,1,24,[(.slice none 0 0)],(.l 290 sTable)⟩
 | 198=>some ⟨.agg [(0,194),(2,191),(3,195)],4,64,[(.int .i64 0),(.int .i64 0),(.slice none 0 0),(.slice none 0 0)],sPiece⟩
 | 207=>some ⟨.agg [(0,3),(1,3),(2,3),(3,3)],4,32,[(.int .i64 0),(.int .i64 0),(.int .i64 0),(.int .i64 0)],sI4⟩
 | 209=>some ⟨.agg [(0,3),(1,3),(2,3)],3,24,[(.int .i64 0),(.int .i64 0),(.int .i64 0)],sI3⟩
 | 211=>some ⟨.agg [(0,3),(1,3)],2,16,[(.int .i64 0),(.int .i64 0)],sI2⟩
 | 213=>some ⟨.agg [(0,3),(1,211)],3,24,[(.int .i64 0),(.int .i64 0),(.int .i64 0)],sZone⟩
 | 225=>some ⟨.agg [(0,3),(1,3),(2,27)],3,40,[(.int .i64 0),(.int .i64 0),(.slice none 0 0)],T0⟩
 | 229=>some ⟨.agg [(0,3),(1,3),(2,3),(3,3),(4,3),(5,3)],6,48,[(.int .i64 0),(.int .i64 0),(.int .i64 0),(.int .i64 0),(.int .i64 0),(.int .i64 0)],sI6⟩
 | 238=>some ⟨.agg [(0,72)],1,24,[(.slice none 0 0)],sLQueue⟩
 | 240=>some ⟨.agg [(0,3),(1,3),(2,27)],3,40,[(.int .i64 0),(.int .i64 0),(.slice none 0 0)],T0⟩
 | 252=>some ⟨.agg [(0,3),(1,3),(2,3),(3,3),(4,3),(5,3)],6,48,[(.int .i64 0),(.int .i64 0),(.int .i64 0),(.int .i64 0),(.int .i64 0),(.int .i64 0)],sI6⟩
 | 256=>some ⟨.agg [(0,3),(1,3),(2,3),(3,3),(4,3),(5,3)],6,48,[(.int .i64 0),(.int .i64 0),(.int .i64 0),(.int .i64 0),(.int .i64 0),(.int .i64 0)],sI6⟩
 | 258=>some ⟨.agg [(0,3),(1,3),(2,3),(3,3)],4,32,[(.int .i64 0),(.int .i64 0),(.int .i64 0),(.int .i64 0)],sI4⟩
 | 288=>some ⟨.agg [(0,3),(1,3)],2,16,[(.int .i64 0),(.int .i64 0)],sI2⟩
 | 290=>some ⟨.agg [(0,3),(1,27),(2,27)],3,56,[(.int .i64 0),(.slice none 0 0),(.slice none 0 0)],sTable⟩
 | 300=>some ⟨.slc 4,1,24,[(.slice none 0 0)],(.l 4 .b)⟩
 | 307=>some ⟨.agg [(0,3),(1,3)],2,16,[(.int .i64 0),(.int .i64 0)],sI2⟩
 | 308=>some ⟨.slc 382,1,24,[(.slice none 0 0)],(.l 382 sI2)⟩
 | 309=>some ⟨.slc 380,1,24,[(.slice none 0 0)],(.l 380 sTable)⟩
 | 311=>some ⟨.agg [(0,307),(2,308),(3,309)],4,64,[(.int .i64 0),(.int .i64 0),(.slice none 0 0),(.slice none 0 0)],sLPiece⟩
 | 359=>some ⟨.one,1,8,[(.int .u64 0)],(.i .u64)⟩
 | 365=>some ⟨.slc 27,1,24,[(.slice none 0 0)],(.l 27 (.l 3 (.i .i64)))⟩
 | 380=>some ⟨.agg [(0,3),(1,27),(2,27)],3,56,[(.int .i64 0),(.slice none 0 0),(.slice none 0 0)],sTable⟩
 | 382=>some ⟨.agg [(0,3),(1,3)],2,16,[(.int .i64 0),(.int .i64 0)],sI2⟩
 | _=>none
noncomputable def fn0:Nat->Option Func
 | 6=>some Tryz.f6
 | 9=>some Tryz.f9
 | 10=>some Tryz.f10
 | 12=>some Tryz.f12
 | 13=>some Tryz.f13
 | 14=>some Tryz.f14
 | 16=>some Tryz.f16
 | 17=>some Tryz.f17
 | 18=>some Tryz.f18
 | 19=>some Tryz.f19
 | 20=>some Tryz.f20
 | 21=>some Tryz.f21
 | 22=>some Tryz.f22
 | 23=>some Tryz.f23
 | 24=>some Tryz.f24
 | 25=>some Tryz.f25
 | 27=>some Tryz.f27
 | 29=>some Tryz.f29
 | 30=>some Tryz.f30
 | 31=>some Tryz.f31
 | 32=>some Tryz.f32
 | 42=>some Tryz.f42
 | 43=>some Tryz.f43
 | 44=>some Tryz.f44
 | 45=>some Tryz.f45
 | 47=>some Tryz.f47
 | 50=>some Tryz.f50
 | 53=>some Tryz.f53
 | 55=>some Tryz.f55
 | 56=>some Tryz.f56
 | 57=>some Tryz.f57
 | 58=>some Tryz.f58
 | 60=>some Tryz.f60
 | 63=>some Tryz.f63
 | 66=>some Tryz.f66
 | 67=>some Tryz.f67
 | 69=>some Tryz.f69
 | 70=>some Tryz.f70
 | 71=>some Tryz.f71
 | 72=>some Tryz.f72
 | 73=>some Tryz.f73
 | 74=>some Tryz.f74
 | 75=>some Tryz.f75
 | 76=>some Tryz.f76
 | 77=>some Tryz.f77
 | 78=>some Tryz.f78
 | 79=>some Tryz.f79
 | 80=>some Tryz.f80
 | 81=>some Tryz.f81
 | 82=>some Tryz.f82
 | 83=>some Tryz.f83
 | 84=>some Tryz.f84
 | 85=>some Tryz.f85
 | 86=>some Tryz.f86
 | 87=>some Tryz.f87
 | 88=>some Tryz.f88
 | 89=>some Tryz.f89
 | 90=>some Tryz.f90
 | 91=>some Tryz.f91
 | 92=>some Tryz.f92
 | _=>none
noncomputable def fn1:Nat->Option Func
 | 93=>some Tryz.f93
 | 94=>some Tryz.f94
 | 95=>some Tryz.f95
 | 96=>some Tryz.f96
 | 97=>some Tryz.f97
 | 98=>some Tryz.f98
 | 99=>some Tryz.f99
 | 100=>some Tryz.f100
 | 101=>some Tryz.f101
 | 102=>some Tryz.f102
 | 103=>some Tryz.f103
 | 104=>some Tryz.f104
 | 105=>some Tryz.f105
 | 106=>some Tryz.f106
 | 107=>some Tryz.f107
 | 108=>some Tryz.f108
 | 109=>some Tryz.f109
 | 110=>some Tryz.f110
 | 117=>some Tryz.f117
 | 118=>some Tryz.f118
 | 119=>some Tryz.f119
 | 120=>some Tryz.f120
 | 121=>some Tryz.f121
 | 122=>some Tryz.f122
 | 123=>some Tryz.f123
 | 124=>some Tryz.f124
 | 131=>some Tryz.f131
 | 132=>some Tryz.f132
 | 133=>some Tryz.f133
 | 134=>some Tryz.f134
 | 135=>some Tryz.f135
 | 136=>some Tryz.f136
 | 137=>some Tryz.f137
 | 138=>some Tryz.f138
 | 139=>some Tryz.f139
 | 140=>some Tryz.f140
 | 141=>some Tryz.f141
 | 142=>some Tryz.f142
 | 143=>some Tryz.f143
 | 147=>some Tryz.f147
 | 148=>some Tryz.f148
 | 162=>some Tryz.f162
 | 163=>some Tryz.f163
 | 164=>some Tryz.f164
 | 165=>some Tryz.f165
 | 166=>some Tryz.f166
 | 167=>some Tryz.f167
 | 168=>some Tryz.f168
 | 169=>some Tryz.f169
 | 171=>some Tryz.f171
 | 178=>some Tryz.f178
 | 179=>some Tryz.f179
 | 180=>some Tryz.f180
 | 181=>some Tryz.f181
 | 182=>some Tryz.f182
 | 183=>some Tryz.f183
 | 184=>some Tryz.f184
 | 185=>some Tryz.f185
 | 186=>some Tryz.f186
 | 187=>some Tryz.f187
 | _=>none
noncomputable def fn2:Nat->Option Func
 | 188=>some Tryz.f188
 | 189=>some Tryz.f189
 | 190=>some Tryz.f190
 | 191=>some Tryz.f191
 | 192=>some Tryz.f192
 | 193=>some Tryz.f193
 | 194=>some Tryz.f194
 | 195=>some Tryz.f195
 | 196=>some Tryz.f196
 | 197=>some Tryz.f197
 | 198=>some Tryz.f198
 | 199=>some Tryz.f199
 | 200=>some Tryz.f200
 | 201=>some Tryz.f201
 | 202=>some Tryz.f202
 | 203=>some Tryz.f203
 | 204=>some Tryz.f204
 | 212=>some Tryz.f212
 | 213=>some Tryz.f213
 | 215=>some Tryz.f215
 | 216=>some Tryz.f216
 | 218=>some Tryz.f218
 | 219=>some Tryz.f219
 | 220=>some Tryz.f220
 | 221=>some Tryz.f221
 | 222=>some Tryz.f222
 | 223=>some Tryz.f223
 | 230=>some Tryz.f230
 | 231=>some Tryz.f231
 | 233=>some Tryz.f233
 | 235=>some Tryz.f235
 | 236=>some Tryz.f236
 | 237=>some Tryz.f237
 | 238=>some Tryz.f238
 | 239=>some Tryz.f239
 | 240=>some Tryz.f240
 | 241=>some Tryz.f241
 | 242=>some Tryz.f242
 | 243=>some Tryz.f243
 | 244=>some Tryz.f244
 | 245=>some Tryz.f245
 | 246=>some Tryz.f246
 | 247=>some Tryz.f247
 | 248=>some Tryz.f248
 | 249=>some Tryz.f249
 | 250=>some Tryz.f250
 | 251=>some Tryz.f251
 | 252=>some Tryz.f252
 | 253=>some Tryz.f253
 | 254=>some Tryz.f254
 | 255=>some Tryz.f255
 | 256=>some Tryz.f256
 | 257=>some Tryz.f257
 | 258=>some Tryz.f258
 | 259=>some Tryz.f259
 | 260=>some Tryz.f260
 | 261=>some Tryz.f261
 | 270=>some Tryz.f270
 | 275=>some Tryz.f275
 | 276=>some Tryz.f276
 | _=>none
noncomputable def fn3:Nat->Option Func
 | 277=>some Tryz.f277
 | 278=>some Tryz.f278
 | 279=>some Tryz.f279
 | 280=>some Tryz.f280
 | 281=>some Tryz.f281
 | 284=>some Tryz.f284
 | 285=>some Tryz.f285
 | 292=>some Tryz.f292
 | 293=>some Tryz.f293
 | 294=>some Tryz.f294
 | 295=>some Tryz.f295
 | 296=>some Tryz.f296
 | 297=>some Tryz.f297
 | 298=>some Tryz.f298
 | 299=>some Tryz.f299
 | 300=>some Tryz.f300
 | 301=>some Tryz.f301
 | 302=>some Tryz.f302
 | 303=>some Tryz.f303
 | 304=>some Tryz.f304
 | 307=>some Tryz.f307
 | 310=>some Tryz.f310
 | 311=>some Tryz.f311
 | 312=>some Tryz.f312
 | 313=>some Tryz.f313
 | 314=>some Tryz.f314
 | 317=>some Tryz.f317
 | 320=>some Tryz.f320
 | 322=>some Tryz.f322
 | 326=>some Tryz.f326
 | 327=>some Tryz.f327
 | 328=>some Tryz.f328
 | 329=>some Tryz.f329
 | 332=>some Tryz.f332
 | 333=>some Tryz.f333
 | 334=>some Tryz.f334
 | 335=>some Tryz.f335
 | 336=>some Tryz.f336
 | 337=>some Tryz.f337
 | 338=>some Tryz.f338
 | 339=>some Tryz.f339
 | 340=>some Tryz.f340
 | 342=>some Tryz.f342
 | 343=>some Tryz.f343
 | 344=>some Tryz.f344
 | 345=>some Tryz.f345
 | 346=>some Tryz.f346
 | 359=>some Tryz.f359
 | 360=>some Tryz.f360
 | 361=>some Tryz.f361
 | 362=>some Tryz.f362
 | 372=>some Tryz.f372
 | 373=>some Tryz.f373
 | 374=>some Tryz.f374
 | 375=>some Tryz.f375
 | 376=>some Tryz.f376
 | 377=>some Tryz.f377
 | 378=>some Tryz.f378
 | 379=>some Tryz.f379
 | 382=>some Tryz.f382
 | _=>none
noncomputable def fn4:Nat->Option Func
 | 383=>some Tryz.f383
 | 384=>some Tryz.f384
 | 385=>some Tryz.f385
 | 387=>some Tryz.f387
 | 391=>some Tryz.f391
 | 392=>some Tryz.f392
 | 393=>some Tryz.f393
 | 394=>some Tryz.f394
 | 395=>some Tryz.f395
 | 396=>some Tryz.f396
 | 398=>some Tryz.f398
 | 399=>some Tryz.f399
 | 400=>some Tryz.f400
 | 401=>some Tryz.f401
 | 402=>some Tryz.f402
 | 403=>some Tryz.f403
 | 404=>some Tryz.f404
 | 405=>some Tryz.f405
 | 406=>some Tryz.f406
 | 407=>some Tryz.f407
 | 408=>some Tryz.f408
 | 409=>some Tryz.f409
 | 410=>some Tryz.f410
 | 418=>some Tryz.f418
 | 421=>some Tryz.f421
 | 422=>some Tryz.f422
 | 423=>some Tryz.f423
 | 425=>some Tryz.f425
 | 432=>some Tryz.f432
 | 433=>some Tryz.f433
 | 434=>some Tryz.f434
 | 435=>some Tryz.f435
 | 436=>some Tryz.f436
 | 437=>some Tryz.f437
 | 439=>some Tryz.f439
 | 440=>some Tryz.f440
 | 441=>some Tryz.f441
 | 442=>some Tryz.f442
 | 453=>some Tryz.f453
 | 454=>some Tryz.f454
 | 455=>some Tryz.f455
 | 456=>some Tryz.f456
 | 457=>some Tryz.f457
 | 458=>some Tryz.f458
 | 459=>some Tryz.f459
 | 460=>some Tryz.f460
 | 461=>some Tryz.f461
 | 462=>some Tryz.f462
 | 463=>some Tryz.f463
 | 464=>some Tryz.f464
 | 472=>some Tryz.f472
 | 473=>some Tryz.f473
 | 479=>some Tryz.f479
 | 480=>some Tryz.f480
 | 481=>some Tryz.f481
 | 487=>some Tryz.f487
 | 488=>some Tryz.f488
 | 490=>some Tryz.f490
 | 495=>some Tryz.f495
 | 496=>some Tryz.f496
 | _=>none
noncomputable def fn5:Nat->Option Func
 | 497=>some Tryz.f497
 | 498=>some Tryz.f498
 | _=>none
noncomputable def fn (f:Nat):Option Func:=(match fn0 f with
 | some F=>some F
 | none=>(match fn1 f with
 | some F=>some F
 | none=>(match fn2 f with
 | some F=>some F
 | none=>(match fn3 f with
 | some F=>some F
 | none=>(match fn4 f with
 | some F=>some F
 | none=>fn5 f)))))
def lv:Nat->List Nat
 | 13=>[0,0,3,4]
 | 18=>[0,0,1,5]
 | 20=>[3]
 | 21=>[1,0,1,5]
 | 22=>[1]
 | 23=>[14]
 | 29=>[0,1,2,4,5,6,7,8,11]
 | 30=>[0,1,2,4,5,24,25,26,50,51,52]
 | 31=>[0,2,3,4]
 | 55=>[0,1,4,9,11,12]
 | 56=>[0,0,3,4]
 | 57=>[0,0,3,4]
 | 58=>[0,0,3,4]
 | 71=>[0,0,1,5]
 | 72=>[0,0,1,5]
 | 73=>[0,0,1,5]
 | 74=>[0,0,1,5]
 | 75=>[0,0,1,5]
 | 76=>[0,0,1,5]
 | 77=>[0,0,1,5]
 | 78=>[0,0,1,5]
 | 79=>[0,0,1,5]
 | 80=>[0,0,1,5]
 | 81=>[1,0,1,5]
 | 82=>[1,0,1,5]
 | 83=>[1,0,1,5]
 | 84=>[1]
 | 85=>[1,0,1,5]
 | 86=>[1,0,1,5]
 | 87=>[1,0,1,5]
 | 88=>[1,0,1,5]
 | 89=>[1,0,1,5]
 | 90=>[1,0,1,5]
 | 91=>[1,0,1,5]
 | 95=>[0,0,1,5]
 | 96=>[0,0,1,5]
 | 97=>[0,0,1,5]
 | 98=>[0,0,1,5]
 | 99=>[0,0,1,5]
 | 100=>[0,0,1,5]
 | 101=>[0,0,1,5]
 | 102=>[0,0,1,5]
 | 105=>[0,0,1,5]
 | 107=>[0,0,1,5]
 | 118=>[0,0,3,4]
 | 119=>[0,0,3,4]
 | 120=>[0,0,3,4]
 | 121=>[0,0,3,4]
 | 122=>[0,0,3,4]
 | 123=>[0,0,3,4]
 | 124=>[0,0,3,4]
 | 131=>[0,1,2,3,4,5,14745717,14942433,1099511627777,2199023263743]
 | 132=>[0,1,3,4]
 | 135=>[0,0,1,5]
 | 137=>[0,1,2,3,54,55,56,69,70,71,14745717,14942433,1099511627777,2199023267839]
 | 138=>[0,1,3,13,14]
 | 139=>[0,1099511627778,1099511627779,2199023300617,2199023304714]
 | 141=>[0,1,7,8,9]
 | 143=>[0,1,4,5,6,7]
 | 163=>[0,1,2,4,9,10]
 | 182=>[0,2,4,9,10,11]
 | 183=>[0,1,2,7,8]
 | 186=>[0,0,1,5]
 | 197=>[1,0,1,5]
 | 198=>[0,0,1,5]
 | 199=>[0,0,1,5]
 | 200=>[0,0,1,5]
 | 201=>[0,0,1,5]
 | 202=>[0,0,1,5]
 | 213=>[0,0,1,2,3,9]
 | 218=>[0,0,3,4]
 | 231=>[0,0,1,2,3,11,12,13]
 | 235=>[0,1,2,3,4,5,6,13828294,22216994]
 | 238=>[0,1,2,4,7,8,9]
 | 239=>[0,1099511627778,2199023271935]
 | 240=>[0,1,2,5]
 | 241=>[0,1,2,5]
 | 242=>[0,1,2,4,7,8,9]
 | 246=>[0,1,2,3,6,11,12,13,24,25,26,26411298]
 | 254=>[0,1,2,4,7,27,28,29]
 | 256=>[0,1099511627778,2199023276032]
 | 259=>[0,2,4,7,8]
 | 292=>[0,3,5,6,8,9,10]
 | 300=>[1,0,1,5]
 | 301=>[1,0,1,5]
 | 302=>[0,0,1,5]
 | 303=>[0,0,1,5]
 | 307=>[0,1,3]
 | 310=>[0,2,3,9,10]
 | 311=>[0,1,2,5]
 | 313=>[0,0,1,2,7]
 | 314=>[0,0,1,5]
 | 322=>[0,1,22,23,24]
 | 324=>[1]
 | 328=>[0,1,2,9,10,11]
 | 334=>[0,1,3,4,5]
 | 339=>[0,3,4,10,11,12]
 | 342=>[0,0,1,7,8]
 | 344=>[0,0,1,7,8]
 | 346=>[0,0,1,6,7,8]
 | 376=>[0,0,1,5]
 | 377=>[0,0,1,5]
 | 379=>[0,0,1,5]
 | 384=>[0,0,3,4]
 | 385=>[0,0,3,4]
 | 393=>[0,0,1,7,8]
 | 395=>[0,0,1,7,8]
 | 396=>[0,0,3,6,7,8,9,13,14,15,27,28,35,36,37,73,74]
 | 401=>[0,4,15,16]
 | 403=>[0,1,2,3,4,9]
 | 406=>[0,4,55,56,57]
 | 408=>[0,1,2,3,4,9]
 | 418=>[0,0,1,5,6,7,8]
 | 425=>[0,1,5,9,10,11]
 | 439=>[0,1,4,9,10,11]
 | 453=>[0,0,1,7,8]
 | 456=>[0,1,4,9,18,19,20]
 | 459=>[0,2,3,4,9,10,11,12,13]
 | 460=>[0,0,1,2,3,9,10]
 | 463=>[0,2,3,4,9,30,31,32]
 | 464=>[0,0,1,2,9,16,17]
 | 472=>[0,1,2,3,7,8]
 | 473=>[0,0,3,4,5,6,7,8]
 | 479=>[0,1,2,7,12,13,14]
 | 480=>[1]
 | 487=>[0,0,3,4]
 | 488=>[0,0,1,2,7,8]
 | 490=>[1,0,1,2,6,7,8]
 | 495=>[1,0,1,2,3,8,9,2199023284223]
 | 496=>[1,0,1,2,3,4,10,11,13,14,15,17,18,19,20,21,22,2199023304703,2199023353855]
 | 497=>[1,0,2,4,10,11]
 | 498=>[1,0,1,2,3,10,2199023271935]
 | _=>[]
def rs:Nat->RSh
 | 6=>⟨false,[.b],0⟩
 | 9=>⟨false,[(.i .i64)],0⟩
 | 10=>⟨false,[(.i .i64)],0⟩
 | 12=>⟨true,[sSky],0⟩
 | 13=>⟨true,[(.l 3 (.i .i64))],0⟩
 | 14=>⟨true,[sLaw],0⟩
 | 16=>⟨false,[.b],0⟩
 | 17=>⟨false,[.b],0⟩
 | 18=>⟨false,[.b],0⟩
 | 19=>⟨false,[.b],0⟩
 | 20=>⟨true,[(.i .i64),(.l 181 sI4),(.l 183 sI3),(.l 188 sZone)],3⟩
 | 21=>⟨true,[(.i .i64),(.l 3 (.i .i64))],1⟩
 | 22=>⟨true,[(.i .i64),(.l 3 (.i .i64))],1⟩
 | 23=>⟨true,[(.i .i64),(.l 181 sI4),(.l 183 sI3),(.l 188 sZone),(.l 198 sPiece),(.l 3 (.i .i64)),(.l 3 (.i .i64)),(.l 119 sI6),(.l 117 J0),(.l 89 sI4),(.l 3 (.i .i64)),(.l 225 T0),(.l 90 sI4),(.l 229 sI6),(.l 168 sI4)],14⟩
 | 24=>⟨false,[(.i .i64)],0⟩
 | 25=>⟨false,[(.i .i64)],0⟩
 | 27=>⟨true,[Q0],0⟩
 | 29=>⟨true,[Q0,.b],0⟩
 | 30=>⟨true,[Q0,.b],0⟩
 | 31=>⟨true,[Q0],0⟩
 | 32=>⟨true,[Q0],0⟩
 | 42=>⟨false,[(.i .i64)],0⟩
 | 43=>⟨false,[(.i .i64)],0⟩
 | 44=>⟨false,[(.i .i64)],0⟩
 | 45=>⟨false,[(.i .i64)],0⟩
 | 47=>⟨false,[.b],0⟩
 | 50=>⟨false,[(.i .i64)],0⟩
 | 53=>⟨true,[sSky],0⟩
 | 55=>⟨true,[(.l 194 sI2)],0⟩
 | 56=>⟨true,[(.l 181 sI4)],0⟩
 | 57=>⟨true,[(.l 183 sI3)],0⟩
 | 58=>⟨true,[(.l 188 sZone)],0⟩
 | 60=>⟨false,[.b],0⟩
 | 63=>⟨false,[(.i .i64)],0⟩
 | 66=>⟨true,[sSky],0⟩
 | 67=>⟨true,[(.l 3 (.i .i64))],0⟩
 | 69=>⟨true,[(.l 194 sI2)],0⟩
 | 70=>⟨false,[.b],0⟩
 | 71=>⟨false,[.b],0⟩
 | 72=>⟨false,[.b],0⟩
 | 73=>⟨false,[.b],0⟩
 | 74=>⟨false,[.b],0⟩
 | 75=>⟨false,[.b],0⟩
 | 76=>⟨false,[.b],0⟩
 | 77=>⟨false,[.b],0⟩
 | 78=>⟨false,[.b],0⟩
 | 79=>⟨false,[.b],0⟩
 | 80=>⟨false,[.b],0⟩
 | 81=>⟨true,[(.i .i64),(.l 181 sI4)],1⟩
 | 82=>⟨true,[(.i .i64),(.l 183 sI3)],1⟩
 | 83=>⟨true,[(.i .i64),(.l 188 sZone)],1⟩
 | 84=>⟨true,[(.i .i64),(.l 198 sPiece)],1⟩
 | 85=>⟨true,[(.i .i64),(.l 119 sI6)],1⟩
 | 86=>⟨true,[(.i .i64),(.l 117 J0)],1⟩
 | 87=>⟨true,[(.i .i64),(.l 89 sI4)],1⟩
 | 88=>⟨true,[(.i .i64),(.l 225 T0)],1⟩
 | 89=>⟨true,[(.i .i64),(.l 90 sI4)],1⟩
 | 90=>⟨true,[(.i .i64),(.l 229 sI6)],1⟩
 | 91=>⟨true,[(.i .i64),(.l 168 sI4)],1⟩
 | 92=>⟨false,[(.i .i64)],0⟩
 | 93=>⟨false,[(.i .i64)],0⟩
 | 94=>⟨false,[(.i .i64)],0⟩
 | 95=>⟨false,[(.i .i64)],0⟩
 | 96=>⟨false,[(.i .i64)],0⟩
 | 97=>⟨false,[(.i .i64)],0⟩
 | 98=>⟨false,[(.i .i64)],0⟩
 | 99=>⟨false,[(.i .i64)],0⟩
 | 100=>⟨false,[(.i .i64)],0⟩
 | 101=>⟨false,[(.i .i64)],0⟩
 | 102=>⟨false,[(.i .i64)],0⟩
 | 103=>⟨false,[(.i .i64)],0⟩
 | 104=>⟨false,[(.i .i64)],0⟩
 | 105=>⟨false,[(.i .i64)],0⟩
 | 106=>⟨false,[(.i .i64)],0⟩
 | 107=>⟨false,[(.i .i64)],0⟩
 | 108=>⟨false,[(.i .i64)],0⟩
 | 109=>⟨false,[(.i .i64)],0⟩
 | 110=>⟨false,[(.i .i64)],0⟩
 | 117=>⟨true,[m0],0⟩
 | 118=>⟨true,[(.l 119 sI6)],0⟩
 | 119=>⟨true,[(.l 117 J0)],0⟩
 | 120=>⟨true,[(.l 89 sI4)],0⟩
 | 121=>⟨true,[(.l 225 T0)],0⟩
 | 122=>⟨true,[(.l 90 sI4)],0⟩
 | 123=>⟨true,[(.l 229 sI6)],0⟩
 | 124=>⟨true,[(.l 168 sI4)],0⟩
 | 131=>⟨true,[Q0],0⟩
 | 132=>⟨true,[(.l 168 sI4)],0⟩
 | 133=>⟨true,[Q0,.b],0⟩
 | 134=>⟨false,[sI6],0⟩
 | 135=>⟨false,[.b],0⟩
 | 136=>⟨true,[(.l 194 sI2)],0⟩
 | 137=>⟨true,[Q0],0⟩
 | 138=>⟨true,[(.l 168 sI4)],0⟩
 | 139=>⟨true,[Q0,.b],0⟩
 | 140=>⟨false,[sI6],0⟩
 | 141=>⟨false,[.b],0⟩
 | 142=>⟨true,[(.l 194 sI2)],0⟩
 | 143=>⟨true,[Q0],0⟩
 | 147=>⟨false,[sI4],0⟩
 | 148=>⟨false,[sI4],0⟩
 | 162=>⟨false,[.b],0⟩
 | 163=>⟨false,[(.i .i64)],0⟩
 | 164=>⟨false,[(.i .i64),(.i .i64)],0⟩
 | 165=>⟨false,[(.i .i64)],0⟩
 | 166=>⟨true,[(.l 194 sI2)],0⟩
 | 167=>⟨false,[sI4],0⟩
 | 168=>⟨false,[sI3],0⟩
 | 169=>⟨false,[sZone],0⟩
 | 171=>⟨false,[.b],0⟩
 | 178=>⟨true,[(.l 181 sI4)],0⟩
 | 179=>⟨true,[(.l 183 sI3)],0⟩
 | 180=>⟨true,[(.l 188 sZone)],0⟩
 | 181=>⟨false,[.b],0⟩
 | 182=>⟨true,[(.l 3 (.i .i64))],0⟩
 | 183=>⟨true,[(.l 194 sI2)],0⟩
 | 184=>⟨false,[.b],0⟩
 | 185=>⟨false,[(.i .i64)],0⟩
 | 186=>⟨false,[.b],0⟩
 | 187=>⟨false,[.b],0⟩
 | 188=>⟨false,[.b],0⟩
 | 189=>⟨false,[.b],0⟩
 | 190=>⟨false,[.b],0⟩
 | 191=>⟨false,[.b],0⟩
 | 192=>⟨false,[.b],0⟩
 | 193=>⟨false,[.b],0⟩
 | 194=>⟨false,[.b],0⟩
 | 195=>⟨false,[.b],0⟩
 | 196=>⟨false,[.b],0⟩
 | 197=>⟨true,[(.i .i64),(.l 198 sPiece)],1⟩
 | 198=>⟨false,[(.i .i64)],0⟩
 | 199=>⟨false,[(.i .i64)],0⟩
 | 200=>⟨false,[(.i .i64)],0⟩
 | 201=>⟨false,[(.i .i64)],0⟩
 | 202=>⟨false,[(.i .i64)],0⟩
 | 203=>⟨false,[(.i .i64)],0⟩
 | 204=>⟨false,[(.i .i64)],0⟩
 | 212=>⟨false,[.b],0⟩
 | 213=>⟨false,[.b],0⟩
 | 215=>⟨false,[.b],0⟩
 | 216=>⟨false,[(.i .i64)],0⟩
 | 218=>⟨true,[(.l 198 sPiece)],0⟩
 | 219=>⟨false,[sI6],0⟩
 | 220=>⟨true,[J0],0⟩
 | 221=>⟨true,[T0],0⟩
 | 222=>⟨false,[sI6],0⟩
 | 223=>⟨false,[sI4],0⟩
 | 230=>⟨false,[.b],0⟩
 | 231=>⟨false,[.b],0⟩
 | 233=>⟨false,[.b],0⟩
 | 235=>⟨true,[m0],0⟩
 | 236=>⟨true,[J0],0⟩
 | 237=>⟨true,[T0],0⟩
 | 238=>⟨false,[sI6,(.i .i64),.b],0⟩
 | 239=>⟨true,[J0,sI6,.b],0⟩
 | 240=>⟨false,[(.i .i64)],0⟩
 | 241=>⟨false,[(.i .i64)],0⟩
 | 242=>⟨true,[T0,(.l 3 (.i .i64)),.b],0⟩
 | 243=>⟨true,[J0,.b],0⟩
 | 244=>⟨false,[(.i .i64)],0⟩
 | 245=>⟨false,[.b],0⟩
 | 246=>⟨true,[m0],0⟩
 | 247=>⟨true,[(.l 119 sI6)],0⟩
 | 248=>⟨true,[(.l 89 sI4)],0⟩
 | 249=>⟨true,[(.l 90 sI4)],0⟩
 | 250=>⟨true,[(.l 229 sI6)],0⟩
 | 251=>⟨true,[(.l 168 sI4)],0⟩
 | 252=>⟨true,[J0],0⟩
 | 253=>⟨true,[T0],0⟩
 | 254=>⟨false,[sI6,(.i .i64),.b],0⟩
 | 255=>⟨false,[.b],0⟩
 | 256=>⟨true,[J0,sI6,.b],0⟩
 | 257=>⟨false,[(.i .i64)],0⟩
 | 258=>⟨false,[(.i .i64)],0⟩
 | 259=>⟨true,[T0,(.l 3 (.i .i64)),.b],0⟩
 | 260=>⟨true,[J0,.b],0⟩
 | 261=>⟨false,[.b],0⟩
 | 270=>⟨false,[.b],0⟩
 | 275=>⟨false,[.b],0⟩
 | 276=>⟨false,[sI2],0⟩
 | 277=>⟨false,[(.i .i64)],0⟩
 | 278=>⟨false,[(.i .i64)],0⟩
 | 279=>⟨false,[(.i .i64)],0⟩
 | 280=>⟨false,[sI2],0⟩
 | 281=>⟨false,[.b],0⟩
 | 284=>⟨false,[(.i .i64)],0⟩
 | 285=>⟨false,[.b],0⟩
 | 292=>⟨true,[(.l 4 .b)],0⟩
 | 293=>⟨false,[.b],0⟩
 | 294=>⟨false,[sI2],0⟩
 | 295=>⟨false,[(.i .i64)],0⟩
 | 296=>⟨false,[(.i .i64)],0⟩
 | 297=>⟨false,[(.i .i64)],0⟩
 | 298=>⟨false,[.b],0⟩
 | 299=>⟨false,[.b],0⟩
 | 300=>⟨true,[(.i .i64),(.l 288 sI2)],1⟩
 | 301=>⟨true,[(.i .i64),(.l 290 sTable)],1⟩
 | 302=>⟨false,[(.i .i64)],0⟩
 | 303=>⟨false,[(.i .i64)],0⟩
 | 304=>⟨false,[(.i .i64)],0⟩
 | 307=>⟨false,[.b],0⟩
 | 310=>⟨false,[.b],0⟩
 | 311=>⟨false,[(.i .i64)],0⟩
 | 312=>⟨false,[.b],0⟩
 | 313=>⟨false,[.b],0⟩
 | 314=>⟨false,[.b],0⟩
 | 317=>⟨true,[sPiece],0⟩
 | 320=>⟨false,[(.i .i64)],0⟩
 | 322=>⟨false,[.b],0⟩
 | 324=>⟨true,[(.l 3 (.i .i64))],1⟩
 | 326=>⟨false,[.b],0⟩
 | 327=>⟨false,[(.i .i64)],0⟩
 | 328=>⟨false,[.b],0⟩
 | 329=>⟨false,[.b],0⟩
 | 332=>⟨true,[sTable],0⟩
 | 333=>⟨false,[.b],0⟩
 | 334=>⟨true,[(.l 3 (.i .i64))],0⟩
 | 335=>⟨false,[(.i .i64)],0⟩
 | 336=>⟨true,[(.l 288 sI2)],0⟩
 | 337=>⟨true,[sTable],0⟩
 | 338=>⟨false,[.b],0⟩
 | 339=>⟨true,[(.l 3 (.i .i64))],0⟩
 | 340=>⟨false,[(.i .i64)],0⟩
 | 341=>⟨true,[(.l 229 sI6)],0⟩
 | 342=>⟨false,[(.i .i64)],0⟩
 | 343=>⟨false,[.b],0⟩
 | 344=>⟨false,[(.i .i64)],0⟩
 | 345=>⟨false,[.b],0⟩
 | 346=>⟨false,[(.i .i64),.b],0⟩
 | 347=>⟨true,[(.l 3 (.i .i64))],0⟩
 | 359=>⟨false,[sI2],0⟩
 | 360=>⟨false,[(.i .i64)],0⟩
 | 361=>⟨false,[(.i .i64)],0⟩
 | 362=>⟨false,[.b],0⟩
 | 372=>⟨false,[sI2],0⟩
 | 373=>⟨false,[(.i .i64)],0⟩
 | 374=>⟨false,[(.i .i64)],0⟩
 | 375=>⟨false,[.b],0⟩
 | 376=>⟨false,[.b],0⟩
 | 377=>⟨false,[.b],0⟩
 | 378=>⟨false,[(.i .i64)],0⟩
 | 379=>⟨false,[(.i .i64)],0⟩
 | 382=>⟨false,[(.i .i64)],0⟩
 | 383=>⟨false,[sI2],0⟩
 | 384=>⟨true,[(.l 288 sI2)],0⟩
 | 385=>⟨true,[(.l 290 sTable)],0⟩
 | 387=>⟨false,[(.i .i64)],0⟩
 | 391=>⟨false,[.b],0⟩
 | 392=>⟨false,[.b],0⟩
 | 393=>⟨false,[(.i .i64)],0⟩
 | 394=>⟨false,[.b],0⟩
 | 395=>⟨false,[(.i .i64)],0⟩
 | 396=>⟨false,[.b],0⟩
 | 398=>⟨false,[(.i .i64)],0⟩
 | 399=>⟨false,[.b],0⟩
 | 400=>⟨false,[(.i .i64)],0⟩
 | 401=>⟨false,[(.i .i64)],0⟩
 | 402=>⟨true,[(.l 3 (.i .i64))],0⟩
 | 403=>⟨false,[.b],0⟩
 | 404=>⟨true,[(.l 288 sI2)],0⟩
 | 405=>⟨false,[.b],0⟩
 | 406=>⟨false,[(.i .i64)],0⟩
 | 407=>⟨true,[(.l 3 (.i .i64))],0⟩
 | 408=>⟨false,[.b],0⟩
 | 409=>⟨false,[.b],0⟩
 | 410=>⟨false,[.b],0⟩
 | 418=>⟨true,[(.l 3 (.i .i64))],0⟩
 | 421=>⟨false,[sI2],0⟩
 | 422=>⟨false,[(.i .i64)],0⟩
 | 423=>⟨false,[(.i .i64)],0⟩
 | 425=>⟨true,[(.l 3 (.i .i64))],0⟩
 | 432=>⟨false,[sI2],0⟩
 | 433=>⟨false,[(.i .i64)],0⟩
 | 434=>⟨false,[(.i .i64)],0⟩
 | 435=>⟨false,[.b],0⟩
 | 436=>⟨false,[.b],0⟩
 | 437=>⟨false,[(.i .i64)],0⟩
 | 439=>⟨false,[.b],0⟩
 | 440=>⟨false,[(.i .i64)],0⟩
 | 441=>⟨false,[sI2],0⟩
 | 442=>⟨true,[sTable],0⟩
 | 453=>⟨false,[(.i .i64)],0⟩
 | 454=>⟨false,[(.i .i64),.b],0⟩
 | 455=>⟨false,[.b],0⟩
 | 456=>⟨false,[.b],0⟩
 | 457=>⟨true,[sTable,.b],0⟩
 | 458=>⟨false,[.b],0⟩
 | 459=>⟨true,[(.l 3 (.i .i64))],0⟩
 | 460=>⟨true,[(.l 3 (.i .i64))],0⟩
 | 461=>⟨false,[.b],0⟩
 | 462=>⟨true,[sTable,.b],0⟩
 | 463=>⟨true,[(.l 3 (.i .i64))],0⟩
 | 464=>⟨true,[(.l 3 (.i .i64))],0⟩
 | 470=>⟨true,[(.l 3 (.i .i64))],0⟩
 | 472=>⟨true,[(.l 3 (.i .i64))],0⟩
 | 473=>⟨false,[.b],0⟩
 | 479=>⟨true,[(.l 3 (.i .i64))],0⟩
 | 480=>⟨true,[(.l 3 (.i .i64))],1⟩
 | 481=>⟨false,[(.i .i64)],0⟩
 | 487=>⟨false,[(.i .i64)],0⟩
 | 488=>⟨true,[(.l 3 (.i .i64))],0⟩
 | 490=>⟨true,[(.l 3 (.i .i64))],1⟩
 | 495=>⟨true,[(.l 3 (.i .i64))],1⟩
 | 496=>⟨true,[(.l 3 (.i .i64))],1⟩
 | 497=>⟨true,[(.l 3 (.i .i64))],1⟩
 | 498=>⟨true,[(.l 3 (.i .i64))],1⟩
 | _=>⟨false,[],0⟩
def tk:Nat->List (Option Sh)
 | 20=>[some sSky]
 | 21=>[some (.l 3 (.i .i64))]
 | 22=>[some sLaw]
 | 23=>[some Q0]
 | 81=>[some (.l 181 sI4)]
 | 82=>[some (.l 183 sI3)]
 | 83=>[some (.l 188 sZone)]
 | 84=>[some m0]
 | 85=>[some (.l 119 sI6)]
 | 86=>[some (.l 117 J0)]
 | 87=>[some (.l 89 sI4)]
 | 88=>[some (.l 225 T0)]
 | 89=>[some (.l 90 sI4)]
 | 90=>[some (.l 229 sI6)]
 | 91=>[some (.l 168 sI4)]
 | 166=>[some (.l 194 sI2)]
 | 197=>[some (.l 198 sPiece)]
 | 300=>[some (.l 288 sI2)]
 | 301=>[some (.l 290 sTable)]
 | 324=>[some (.l 3 (.i .i64))]
 | 341=>[some (.l 229 sI6)]
 | 347=>[some (.l 3 (.i .i64)),none,some (.l 3 (.i .i64))]
 | 470=>[some (.l 3 (.i .i64))]
 | 480=>[some (.l 3 (.i .i64))]
 | 490=>[some (.l 3 (.i .i64))]
 | 495=>[some (.l 3 (.i .i64))]
 | 496=>[some (.l 3 (.i .i64))]
 | 497=>[some (.l 3 (.i .i64))]
 | 498=>[some (.l 3 (.i .i64))]
 | _=>[]
def ext:(f:Nat)->Option (List AV->Option (RTy (rs f)))
 | 324=>some extSort
 | 341=>some (extDelete (sh:= .a [.i .i64,.i .i64,.i .i64,.i .i64,.i .i64,.i .i64]))
 | 347=>some extInsert
 | 470=>some extCompact
 | _=>none
noncomputable def E:Env:={ P:=Tryz.prog,fn:=fn,ty:=ty,lv:=lv,rs:=rs,tk:=tk,ext:=ext }
def heldI (l:List Int):Bool:=l.all fun x=>x==x
theorem lq {R V:Type} {f g:Nat->V->Option R} {B:(V->Option R)->V->Option R} (hf:QL f B) (hg:∀n v,g (n+1) v=B (g n) v) (f0:∀v,f 0 v=none) (g0:∀v,g 0 v=none) (n:Nat) (v:V):g n v=f n v:=(loop_law f0 hf g0 hg n v).symm
noncomputable def lpf {R V:Type} (E:Env) (k g:Nat) (F:Func) (j:Nat) (keys:List Nat) (s:V->St) (K:Ex->St->Option R) (n:Nat) (v:V):Option R:=lpr E k g F j keys n (s v) K
noncomputable def FiIsSpan (k:Nat) (a0:I2):Option (Bool):=den E k 285 [.agg [vI a0.1,vI a0.2]]
theorem eiIsSpan (k:Nat) (a0):FiIsSpan (k+1) a0=if ((decide (a0.1>=0))==true)=true then if ((decide (a0.2<=1000))==true)=true then some (decide (a0.1<a0.2)) else some false else some false:=by kernel_rfl
noncomputable def FiInSpan (k:Nat) (a0:I2) (a1:Int):Option (Bool):=den E k 261 [.agg [vI a0.1,vI a0.2],cI a1]
theorem eiInSpan (k:Nat) (a0 a1):FiInSpan (k+1) a0 a1=(FiIsSpan k a0).bind fun p1=>if (p1==true)=true then if ((decide (a0.1<=a1))==true)=true then some (decide (a1<a0.2)) else some false else some false:=by kernel_rfl
noncomputable def FiIsDown (k:Nat) (a0:List I4) (a1:Int) (a2:Int):Option (Bool):=den E k 328 [.c (.l 90 sI4 a0),cI a1,cI a2]
abbrev CiIsDown_0:=Int×Int×(List I4)×Int
abbrev ViIsDown_0:=Int
def StiIsDown_0:CiIsDown_0->ViIsDown_0->St
 | (a,b,d,e),f=>⟨34,0,[(1,cI a),(2,cI b),(9,.c (.l 90 sI4 d)),(10,cI e),(11,cI f)],[]⟩
noncomputable def BiIsDown_0 {R:Type} (k:Nat) (X0:ViIsDown_0->I4->Bool->Option R) (X1:ViIsDown_0->Option R) (c0:CiIsDown_0) (rec:ViIsDown_0->Option R) (v0:ViIsDown_0):Option R:=if (decide (v0<c0.2.2.2))=true then if 0<=v0 then ix c0.2.2.1 v0.toNat fun x1=>if ((x1.1==c0.1)==true)=true then if ((x1.2.1== -1)==true)=true then (FiInSpan k x1.2.2 c0.2.1).bind fun p2=>if p2=true then X0 v0 x1 p2 else rec (i64.wrap (v0+1)) else rec (i64.wrap (v0+1)) else rec (i64.wrap (v0+1)) else none else X1 v0
noncomputable def LiIsDown_0 {R:Type} (k:Nat) (X0:ViIsDown_0->I4->Bool->Option R) (X1:ViIsDown_0->Option R) (c:CiIsDown_0):Nat->ViIsDown_0->Option R
 | 0,_=>none
 | n+1,v=>BiIsDown_0 k X0 X1 c (LiIsDown_0 k X0 X1 c n) v
noncomputable def fiIsDown_0 {R:Type} (k:Nat) (K:Ex->St->Option R) (c:CiIsDown_0):=lpf E k 328 Tryz.f328 0 [0,1,2,9,10,11] (StiIsDown_0 c) K
theorem qiIsDown_0 (k:Nat) (K:Ex->St->Option R) (X0 X1 c) (h:QL (fiIsDown_0 k K c) (BiIsDown_0 k X0 X1 c)) (v):LiIsDown_0 k X0 X1 c k v=fiIsDown_0 k K c k v:=lq h (fun _ _=>rfl) (fun _=>rfl) (fun _=>rfl) k v
noncomputable def NiIsDown:Ex->St->Option (Bool):=C1 E (rs 328) Tryz.f328
theorem eiIsDown (k:Nat) (a0 a1 a2):FiIsDown (k+1) a0 a1 a2=LiIsDown_0 k (fun (v0:Int) x1 p2=>some true) (fun (v0:Int)=>some false) (a1,a2,a0,(a0.length:Int)) k 0:=by
 simp (disch:=(refine QL.mk fun n0 v=> ?_;kernel_rfl)) only [↓qiIsDown_0 k (kon0 E k 328 Tryz.f328 0 NiIsDown)]
 kernel_rfl
noncomputable def FiInRange (k:Nat) (a0:Int) (a1:Int) (a2:Int):Option (Bool):=den E k 60 [cI a0,cI a1,cI a2]
theorem eiInRange (k:Nat) (a0 a1 a2):FiInRange (k+1) a0 a1 a2=if ((decide (a1<=a0))==true)=true then some (decide (a0<=a2)) else some false:=by kernel_rfl
noncomputable def FiIsBattery (k:Nat) (a0:I6):Option (Bool):=den E k 181 [.agg (avs sI6 a0)]
theorem eiIsBattery (k:Nat) (a0):FiIsBattery (k+1) a0=(FiInRange k a0.2.2.2.1 0 100).bind fun p1=>if (p1==true)=true then (FiInRange k a0.2.2.2.2.1 0 100).bind fun p2=>if (p2==true)=true then (FiInRange k a0.2.2.2.2.2 0 100).bind fun p3=>if (p3==true)=true then (FiInRange k a0.2.1 0 10000).bind fun p4=>if (p4==true)=true then (FiInRange k a0.2.2.1 0 a0.2.1).bind fun p5=>if (p5==true)=true then (FiInRange k a0.1 a0.2.2.1 a0.2.1).bind fun p6=>some p6 else some false else some false else some false else some false else some false:=by kernel_rfl
noncomputable def FiMaySend (k:Nat) (a0:I6) (a1:Int):Option (Bool):=den E k 405 [.agg (avs sI6 a0),cI a1]
theorem eiMaySend (k:Nat) (a0 a1):FiMaySend (k+1) a0 a1=(FiIsBattery k a0).bind fun p1=>if (p1==true)=true then (FiInRange k a1 0 10000).bind fun p2=>if (p2==true)=true then some (decide ((i64.wrap (a0.1-a0.2.2.2.2.1))>=(i64.wrap (a0.2.2.1+a1)))) else some false else some false:=by kernel_rfl
noncomputable def FiMod (k:Nat) (a0:Int) (a1:Int):Option (Int):=den E k 434 [cI a0,cI a1]
theorem eiMod (k:Nat) (a0 a1):FiMod (k+1) a0 a1=(FiInRange k a1 1 1000000000000).bind fun p1=>if (!p1)=true then some 0 else if a1=0 then none else if (decide (((a0).tmod a1)<0))=true then some (i64.wrap (((a0).tmod a1)+a1)) else some ((a0).tmod a1):=by kernel_rfl
noncomputable def FiAngleOf (k:Nat) (a0:Int):Option (Int):=den E k 374 [cI a0]
theorem eiAngleOf (k:Nat) (a0):FiAngleOf (k+1) a0=(FiMod k a0 360).bind fun p1=>some p1:=by kernel_rfl
noncomputable def FiGapOf (k:Nat) (a0:Int) (a1:Int):Option (Int):=den E k 295 [cI a0,cI a1]
theorem eiGapOf (k:Nat) (a0 a1):FiGapOf (k+1) a0 a1=(FiAngleOf k a0).bind fun p1=>(FiAngleOf k a1).bind fun p2=>(FiAngleOf k (i64.wrap (p1-p2))).bind fun p3=>some (mn p3 (i64.wrap (360-p3))):=by kernel_rfl
noncomputable def FiisWidth (k:Nat) (a0:Int):Option (Bool):=den E k 171 [cI a0]
theorem eiisWidth (k:Nat) (a0):FiisWidth (k+1) a0=(FiInRange k a0 0 359).bind fun p1=>some p1:=by kernel_rfl
noncomputable def FiMiddleOf (k:Nat) (a0:I2):Option (Int):=den E k 296 [.agg [vI a0.1,vI a0.2]]
theorem eiMiddleOf (k:Nat) (a0):FiMiddleOf (k+1) a0=(FiisWidth k a0.2).bind fun p1=>if (!p1)=true then (FiAngleOf k a0.1).bind fun p2=>some p2 else (FiAngleOf k a0.1).bind fun p3=>(FiAngleOf k (i64.wrap (p3+(i64.wrap ((a0.2).tdiv 2))))).bind fun p4=>some p4:=by kernel_rfl
noncomputable def FiNodesOf (k:Nat) (a0:TSky):Option (Int):=den E k 63 [.agg (avs sSky a0)]
noncomputable def FiIsSite (k:Nat) (a0:TSky) (a1:Int):Option (Bool):=den E k 233 [.agg (avs sSky a0),cI a1]
noncomputable def FispeedOf (k:Nat) (a0:I4):Option (Int):=den E k 433 [.agg (avs sI4 a0)]
theorem eispeedOf (k:Nat) (a0):FispeedOf (k+1) a0=(FiInRange k a0.2.2.1 (-60) 60).bind fun p1=>if (!p1)=true then some 0 else some a0.2.2.1:=by kernel_rfl
noncomputable def FiPlaceAt (k:Nat) (a0:I4) (a1:Int):Option (Int):=den E k 373 [.agg (avs sI4 a0),cI a1]
theorem eiPlaceAt (k:Nat) (a0 a1):FiPlaceAt (k+1) a0 a1=(FiInRange k a1 0 1000).bind fun p1=>if (!p1)=true then (FiAngleOf k a0.2.1).bind fun p2=>(FispeedOf k a0).bind fun p3=>(FiAngleOf k (i64.wrap (p2+(i64.wrap (p3*0))))).bind fun p4=>some p4 else (FiAngleOf k a0.2.1).bind fun p5=>(FispeedOf k a0).bind fun p6=>(FiAngleOf k (i64.wrap (p5+(i64.wrap (p6*a1))))).bind fun p7=>some p7:=by kernel_rfl
noncomputable def FiWidenArc (k:Nat) (a0:I2) (a1:Int):Option I2:=den E k 432 [.agg [vI a0.1,vI a0.2],cI a1]
theorem eiWidenArc (k:Nat) (a0 a1):FiWidenArc (k+1) a0 a1=(FiAngleOf k a0.1).bind fun p1=>(FiInRange k a1 0 360).bind fun p2=>if ((!p2)==false)=true then (FiisWidth k a0.2).bind fun p3=>if (!p3)=true then some (p1,a0.2) else (FiAngleOf k (i64.wrap (p1-a1))).bind fun p4=>some (p4,(mn (i64.wrap (a0.2+(i64.wrap (2*a1)))) 359)) else some (p1,a0.2):=by kernel_rfl
noncomputable def FiPlacesAt (k:Nat) (a0:I4) (a1:Int):Option I2:=den E k 372 [.agg (avs sI4 a0),cI a1]
theorem eiPlacesAt (k:Nat) (a0 a1):FiPlacesAt (k+1) a0 a1=(FiPlaceAt k a0 a1).bind fun p1=>(FiWidenArc k (p1,0) a0.2.2.2).bind fun p2=>some p2:=by kernel_rfl
noncomputable def FiisSatellite (k:Nat) (a0:TSky) (a1:Int):Option (Bool):=den E k 293 [.agg (avs sSky a0),cI a1]
theorem eiisSatellite (k:Nat) (a0 a1):FiisSatellite (k+1) a0 a1=(FiInRange k a1 0 (i64.wrap ((a0.2.1.length:Int)-1))).bind fun p1=>some p1:=by kernel_rfl
noncomputable def FiNodeAt (k:Nat) (a0:TSky) (a1:Int) (a2:Int):Option I2:=den E k 294 [.agg (avs sSky a0),cI a1,cI a2]
theorem eiNodeAt (k:Nat) (a0 a1 a2):FiNodeAt (k+1) a0 a1 a2=(FiisSatellite k a0 a1).bind fun p1=>if p1=true then if 0<=a1 then ix a0.2.1 a1.toNat fun x2=>(FiPlacesAt k x2 a2).bind fun p3=>some p3 else none else (FiIsSite k a0 a1).bind fun p4=>if p4=true then if 0<=(i64.wrap (a1-(a0.2.1.length:Int))) then ix a0.2.2.1 ((i64.wrap (a1-(a0.2.1.length:Int))).toNat) fun x5=>(FiPlaceAt k (0,x5.2.1,x5.2.2,0) a2).bind fun p6=>some (p6,0) else none else some (0,0):=by kernel_rfl
noncomputable def FiSunAt (k:Nat) (a0:TSky) (a1:Int):Option (Int):=den E k 297 [.agg (avs sSky a0),cI a1]
theorem eiSunAt (k:Nat) (a0 a1):FiSunAt (k+1) a0 a1=(FiPlaceAt k (0,0,a0.2.2.2.2.2.2.1,0) a1).bind fun p1=>some p1:=by kernel_rfl
noncomputable def FiShadowAt (k:Nat) (a0:TSky) (a1:Int) (a2:Int):Option (Int):=den E k 185 [.agg (avs sSky a0),cI a1,cI a2]
theorem eiShadowAt (k:Nat) (a0 a1 a2):FiShadowAt (k+1) a0 a1 a2=(FiisSatellite k a0 a1).bind fun p1=>if (!p1)=true then some 0 else (FiNodeAt k a0 a1 a2).bind fun p2=>(FiMiddleOf k p2).bind fun p3=>(FiSunAt k a0 a2).bind fun p4=>(FiGapOf k p3 (i64.wrap (p4+180))).bind fun p5=>if (decide ((i64.wrap (p5-(i64.wrap ((p2.2).tdiv 2))))>a0.2.2.2.2.2.2.2.1))=true then some 0 else if (decide ((i64.wrap (p5+(i64.wrap ((p2.2).tdiv 2))))<=a0.2.2.2.2.2.2.2.1))=true then some 2 else some 1:=by kernel_rfl
noncomputable def FiLitSpans_1v (k:Nat) (a0:Int) (a1:Int) (a2:List I4) (a3:List I3) (a4:Int) (a5:Int) (a6:Int) (a7:Int) (a8:Int) (a9:List I3) (a10:Int) (a11:Int):Option (Bool):=den E k 184 [cI a0,.c (.at_ [vI a1,.l 181 sI4 a2,.l 183 sI3 a3,vI a4,vI a5,vI a6,vI a7,vI a8,.l 188 sZone a9,vI a10]),.c (.at_ [vI a11])]
theorem eiLitSpans_1v (k:Nat) (a0 a1 a2 a3 a4 a5 a6 a7 a8 a9 a10 a11):FiLitSpans_1v (k+1) a0 a1 a2 a3 a4 a5 a6 a7 a8 a9 a10 a11=(FiShadowAt k (a1,a2,a3,a4,a5,a6,a7,a8,a9,a10) a11 a0).bind fun p1=>some (p1==0):=by kernel_rfl
noncomputable def FispansWherev_iLitSpans_1 (k:Nat) (a0:Int) (a1:Int) (a2:Int) (a3:List I4) (a4:List I3) (a5:Int) (a6:Int) (a7:Int) (a8:Int) (a9:Int) (a10:List I3) (a11:Int) (a12:Int):Option (List I2):=den E k 183 [cI a0,cI a1,.c (.clo 184 [.at_ [vI a2,.l 181 sI4 a3,.l 183 sI3 a4,vI a5,vI a6,vI a7,vI a8,vI a9,.l 188 sZone a10,vI a11],.at_ [vI a12]])]
abbrev CispansWherev_iLitSpans_1_0:=Int×Int×(List I4)×(List I3)×Int×Int×Int×Int×Int×(List I3)×Int×Int
abbrev VispansWherev_iLitSpans_1_0:=Int×(List I2)
def StispansWherev_iLitSpans_1_0:CispansWherev_iLitSpans_1_0->VispansWherev_iLitSpans_1_0->St
 | (a,b,d,e,f,g,h,i,j,k,m,n),(o,p)=>⟨53,1,[(1,cI a),(2,.c (.clo 184 [.at_ [vI b,.l 181 sI4 d,.l 183 sI3 e,vI f,vI g,vI h,vI i,vI j,.l 188 sZone k,vI m],.at_ [vI n]])),(7,.c (.ref 0)),(8,cI o)],[(0,.arr 194 sI2 p)]⟩
noncomputable def BispansWherev_iLitSpans_1_0 {R:Type} (k:Nat) (X0:VispansWherev_iLitSpans_1_0->Option R) (c0:CispansWherev_iLitSpans_1_0) (rec:VispansWherev_iLitSpans_1_0->Option R) (v0:VispansWherev_iLitSpans_1_0):Option R:=if (decide (v0.1<(mn c0.1 1000)))=true then (FiLitSpans_1v k v0.1 c0.2.1 c0.2.2.1 c0.2.2.2.1 c0.2.2.2.2.1 c0.2.2.2.2.2.1 c0.2.2.2.2.2.2.1 c0.2.2.2.2.2.2.2.1 c0.2.2.2.2.2.2.2.2.1 c0.2.2.2.2.2.2.2.2.2.1 c0.2.2.2.2.2.2.2.2.2.2.1 c0.2.2.2.2.2.2.2.2.2.2.2).bind fun p1=>if (!p1)=true then rec ((i64.wrap (v0.1+1)),v0.2) else if ((decide ((i64.wrap ((v0.2.length:Int)-1))>=0))==true)=true then if 0<=(i64.wrap ((v0.2.length:Int)-1)) then if (i64.wrap ((v0.2.length:Int)-1))<(v0.2.length:Int) then ix v0.2 ((i64.wrap ((v0.2.length:Int)-1)).toNat) fun x2=>if (x2.2==v0.1)=true then if 0<=(i64.wrap ((v0.2.length:Int)-1)) then if (i64.wrap ((v0.2.length:Int)-1))<(v0.2.length:Int) then ix v0.2 ((i64.wrap ((v0.2.length:Int)-1)).toNat) fun x3=>if 0<=(i64.wrap ((v0.2.length:Int)-1)) then if (i64.wrap ((v0.2.length:Int)-1))<(v0.2.length:Int) then ix v0.2 ((i64.wrap ((v0.2.length:Int)-1)).toNat) fun y4=>rec ((i64.wrap (v0.1+1)),(v0.2.set ((i64.wrap ((v0.2.length:Int)-1)).toNat) (y4.1,(i64.wrap (x3.2+1))))) else none else none else none else none else if (v0.2.length+([(v0.1,(i64.wrap (v0.1+1)))]).length)*16<=140737488355328 then rec ((i64.wrap (v0.1+1)),(v0.2++[(v0.1,(i64.wrap (v0.1+1)))])) else none else none else none else if (v0.2.length+([(v0.1,(i64.wrap (v0.1+1)))]).length)*16<=140737488355328 then rec ((i64.wrap (v0.1+1)),(v0.2++[(v0.1,(i64.wrap (v0.1+1)))])) else none else X0 v0
noncomputable def LispansWherev_iLitSpans_1_0 {R:Type} (k:Nat) (X0:VispansWherev_iLitSpans_1_0->Option R) (c:CispansWherev_iLitSpans_1_0):Nat->VispansWherev_iLitSpans_1_0->Option R
 | 0,_=>none
 | n+1,v=>BispansWherev_iLitSpans_1_0 k X0 c (LispansWherev_iLitSpans_1_0 k X0 c n) v
noncomputable def fispansWherev_iLitSpans_1_0 {R:Type} (k:Nat) (K:Ex->St->Option R) (c:CispansWherev_iLitSpans_1_0):=lpf E k 183 Tryz.f183 0 [0,1,2,7,8] (StispansWherev_iLitSpans_1_0 c) K
theorem qispansWherev_iLitSpans_1_0 (k:Nat) (K:Ex->St->Option R) (X0 c) (h:QL (fispansWherev_iLitSpans_1_0 k K c) (BispansWherev_iLitSpans_1_0 k X0 c)) (v):LispansWherev_iLitSpans_1_0 k X0 c k v=fispansWherev_iLitSpans_1_0 k K c k v:=lq h (fun _ _=>rfl) (fun _=>rfl) (fun _=>rfl) k v
noncomputable def NispansWherev_iLitSpans_1:Ex->St->Option (List I2):=C1 E (rs 183) Tryz.f183
theorem eispansWherev_iLitSpans_1 (k:Nat) (a0 a1 a2 a3 a4 a5 a6 a7 a8 a9 a10 a11 a12):FispansWherev_iLitSpans_1 (k+1) a0 a1 a2 a3 a4 a5 a6 a7 a8 a9 a10 a11 a12=LispansWherev_iLitSpans_1_0 k (fun v0=>some v0.2) (a1,a2,a3,a4,a5,a6,a7,a8,a9,a10,a11,a12) k ((mx a0 0),[]):=by
 simp (disch:=(refine QL.mk fun n0 v=> ?_;kernel_rfl)) only [↓qispansWherev_iLitSpans_1_0 k (kon0 E k 183 Tryz.f183 0 NispansWherev_iLitSpans_1)]
 kernel_rfl
noncomputable def FiLitSpans (k:Nat) (a0:TSky) (a1:Int) (a2:Int) (a3:Int):Option (List I2):=den E k 69 [.agg (avs sSky a0),cI a1,cI a2,cI a3]
theorem eiLitSpans (k:Nat) (a0 a1 a2 a3):FiLitSpans (k+1) a0 a1 a2 a3=(FispansWherev_iLitSpans_1 k a2 a3 a0.1 a0.2.1 a0.2.2.1 a0.2.2.2.1 a0.2.2.2.2.1 a0.2.2.2.2.2.1 a0.2.2.2.2.2.2.1 a0.2.2.2.2.2.2.2.1 a0.2.2.2.2.2.2.2.2.1 a0.2.2.2.2.2.2.2.2.2 a1).bind fun p1=>some p1:=by kernel_rfl
noncomputable def FiLitOf (k:Nat) (a0:z2) (a1:Int):Option (List I2):=den E k 142 [.agg (avs Q0 a0),cI a1]
theorem eiLitOf (k:Nat) (a0 a1):FiLitOf (k+1) a0 a1=(FiLitSpans k a0.1 a1 0 a0.2.2.2.2.2.2.2.2.2.2.2.1).bind fun p1=>some p1:=by kernel_rfl
noncomputable def Fiticks (k:Nat) (a0:List I2):Option (List Bool):=den E k 292 [.c (.l 194 sI2 a0)]
abbrev Citicks_1:=(List I2)×Int×Int×I2
abbrev Viticks_1:=Int×(List Bool)
def Stiticks_1:Citicks_1->Viticks_1->St
 | (a,d,e,f),(g,h)=>⟨29,2,[(3,.c (.ref 0)),(5,cP 1),(6,cI g),(8,.c (.l 194 sI2 a)),(9,cI d),(10,cI e)],[(0,.arr 4 .b h),(1,.var [vI f.1,vI f.2])]⟩
noncomputable def Biticks_1 {R:Type} (k:Nat) (X0:Viticks_1->Option R) (c1:Citicks_1) (rec:Viticks_1->Option R) (v1:Viticks_1):Option R:=if (decide (v1.1<c1.2.2.2.2))=true then if 0<=v1.1 then if v1.1<(v1.2.length:Int) then ix v1.2 v1.1.toNat fun y3=>rec ((i64.wrap (v1.1+1)),(v1.2.set v1.1.toNat true)) else none else none else X0 v1
noncomputable def Liticks_1 {R:Type} (k:Nat) (X0:Viticks_1->Option R) (c:Citicks_1):Nat->Viticks_1->Option R
 | 0,_=>none
 | n+1,v=>Biticks_1 k X0 c (Liticks_1 k X0 c n) v
noncomputable def fiticks_1 {R:Type} (k:Nat) (K:Ex->St->Option R) (c:Citicks_1):=lpf E k 292 Tryz.f292 1 [0,3,5,6,8,9,10] (Stiticks_1 c) K
theorem qiticks_1 (k:Nat) (K:Ex->St->Option R) (X0 c) (h:QL (fiticks_1 k K c) (Biticks_1 k X0 c)) (v):Liticks_1 k X0 c k v=fiticks_1 k K c k v:=lq h (fun _ _=>rfl) (fun _=>rfl) (fun _=>rfl) k v
abbrev Citicks_0:=(List I2)×Int
abbrev Viticks_0:=Int×(List Bool)
def Stiticks_0:Citicks_0->Viticks_0->St
 | (a,d),(e,f)=>⟨29,1,[(3,.c (.ref 0)),(8,.c (.l 194 sI2 a)),(9,cI d),(10,cI e)],[(0,.arr 4 .b f)]⟩
noncomputable def Biticks_0 {R:Type} (k:Nat) (X0:Viticks_0->Option R) (c0:Citicks_0) (rec:Viticks_0->Option R) (v0:Viticks_0):Option R:=if (decide (v0.1<c0.2))=true then if 0<=v0.1 then ix c0.1 v0.1.toNat fun x1=>(FiIsSpan k x1).bind fun p2=>if p2=true then Liticks_1 k (fun v1=>rec ((i64.wrap (v0.1+1)),v1.2)) (c0.1,c0.2,v0.1,x1) k (x1.1,v0.2) else rec ((i64.wrap (v0.1+1)),v0.2) else none else X0 v0
noncomputable def Liticks_0 {R:Type} (k:Nat) (X0:Viticks_0->Option R) (c:Citicks_0):Nat->Viticks_0->Option R
 | 0,_=>none
 | n+1,v=>Biticks_0 k X0 c (Liticks_0 k X0 c n) v
noncomputable def fiticks_0 {R:Type} (k:Nat) (K:Ex->St->Option R) (c:Citicks_0):=lpf E k 292 Tryz.f292 0 [0,3,8,9,10] (Stiticks_0 c) K
theorem qiticks_0 (k:Nat) (K:Ex->St->Option R) (X0 c) (h:QL (fiticks_0 k K c) (Biticks_0 k X0 c)) (v):Liticks_0 k X0 c k v=fiticks_0 k K c k v:=lq h (fun _ _=>rfl) (fun _=>rfl) (fun _=>rfl) k v
noncomputable def Niticks:Ex->St->Option (List Bool):=C1 E (rs 292) Tryz.f292
theorem eiticks (k:Nat) (a0):Fiticks (k+1) a0=Liticks_0 k (fun v0=>some v0.2) (a0,(a0.length:Int)) k (0,(List.replicate (1000:Int).toNat (false:Bool))):=by
 simp (maxSteps:=9999999) (disch:=(refine QL.mk fun n0 v=> ?_;unfold Biticks_0;simp (maxSteps:=9999999) (disch:=(refine QL.mk fun n1 v=> ?_;kernel_rfl)) only [↓qiticks_1 (R:=List Bool) k (kon1 E k 292 Tryz.f292 0 1 n0 [0,3,8,9,10] (kon0 E k 292 Tryz.f292 0 Niticks))];kernel_rfl)) only [↓qiticks_0 (R:=List Bool) k (kon0 E k 292 Tryz.f292 0 Niticks)]
 kernel_rfl
noncomputable def Fineeds (k:Nat) (a0:I6) (a1:List I2) (a2:Int) (a3:Int):Option (List Int):=den E k 182 [.agg (avs sI6 a0),.c (.l 194 sI2 a1),cI a2,cI a3]
abbrev Cineeds_0:=Int×(List Bool)×I6
abbrev Vineeds_0:=Int×(List Int)
def Stineeds_0:Cineeds_0->Vineeds_0->St
 | (a,d,e),(f,g)=>⟨77,2,[(2,cI a),(4,cP 0),(9,.c (.l 4 .b d)),(10,.c (.ref 1)),(11,cI f)],[(0,.var (avs sI6 e)),(1,.arr 3 (.i .i64) g)]⟩
noncomputable def Bineeds_0 {R:Type} (k:Nat) (X0:Vineeds_0->Option R) (c0:Cineeds_0) (rec:Vineeds_0->Option R) (v0:Vineeds_0):Option R:=if (decide (v0.1>=c0.1))=true then if 0<=(i64.wrap ((i64.wrap (v0.1-c0.1))+1)) then if (i64.wrap ((i64.wrap (v0.1-c0.1))+1))<(v0.2.length:Int) then ix v0.2 ((i64.wrap ((i64.wrap (v0.1-c0.1))+1)).toNat) fun x4=>if 0<=v0.1 then ix c0.2.1 v0.1.toNat fun x5=>if x5=true then if 0<=(i64.wrap (v0.1-c0.1)) then if (i64.wrap (v0.1-c0.1))<(v0.2.length:Int) then ix v0.2 ((i64.wrap (v0.1-c0.1)).toNat) fun y6=>rec ((i64.wrap (v0.1-1)),(v0.2.set ((i64.wrap (v0.1-c0.1)).toNat) (mx 0 (i64.wrap ((i64.wrap (x4+c0.2.2.2.2.2.1))-c0.2.2.2.2.2.2.2))))) else none else none else if 0<=(i64.wrap (v0.1-c0.1)) then if (i64.wrap (v0.1-c0.1))<(v0.2.length:Int) then ix v0.2 ((i64.wrap (v0.1-c0.1)).toNat) fun y7=>rec ((i64.wrap (v0.1-1)),(v0.2.set ((i64.wrap (v0.1-c0.1)).toNat) (mx 0 (i64.wrap (x4+c0.2.2.2.2.2.1))))) else none else none else none else none else none else X0 v0
noncomputable def Lineeds_0 {R:Type} (k:Nat) (X0:Vineeds_0->Option R) (c:Cineeds_0):Nat->Vineeds_0->Option R
 | 0,_=>none
 | n+1,v=>Bineeds_0 k X0 c (Lineeds_0 k X0 c n) v
noncomputable def fineeds_0 {R:Type} (k:Nat) (K:Ex->St->Option R) (c:Cineeds_0):=lpf E k 182 Tryz.f182 0 [0,2,4,9,10,11] (Stineeds_0 c) K
theorem qineeds_0 (k:Nat) (K:Ex->St->Option R) (X0 c) (h:QL (fineeds_0 k K c) (Bineeds_0 k X0 c)) (v):Lineeds_0 k X0 c k v=fineeds_0 k K c k v:=lq h (fun _ _=>rfl) (fun _=>rfl) (fun _=>rfl) k v
noncomputable def Nineeds:Ex->St->Option (List Int):=C1 E (rs 182) Tryz.f182
theorem eineeds (k:Nat) (a0 a1 a2 a3):Fineeds (k+1) a0 a1 a2 a3=(FiInRange k a0.2.2.2.1 0 100).bind fun p1=>if ((!p1)==false)=true then (FiInRange k a0.2.2.2.2.2 0 100).bind fun p2=>if ((!p2)==false)=true then if ((decide (a2<0))==false)=true then if ((decide (a3>1000))==false)=true then if (decide (a2>=a3))=true then some ([0]) else (Fiticks k a1).bind fun p3=>if ((i64.wrap ((i64.wrap (a3-a2))+1))==(i64.wrap ((i64.wrap (a3-a2))+1)))=true then if 0<=(i64.wrap ((i64.wrap (a3-a2))+1)) then if 8*(i64.wrap ((i64.wrap (a3-a2))+1)).toNat<=281474976710656 then Lineeds_0 k (fun v0=>some v0.2) (a2,p3,a0) k ((i64.wrap (a3-1)),(List.replicate (i64.wrap ((i64.wrap (a3-a2))+1)).toNat (0:Int))) else none else none else none else some ([0]) else some ([0]) else some ([0]) else some ([0]):=by
 simp (disch:=(refine QL.mk fun n0 v=> ?_;kernel_rfl)) only [↓qineeds_0 k (kon0 E k 182 Tryz.f182 0 Nineeds)]
 kernel_rfl
noncomputable def FiNeedAt (k:Nat) (a0:I6) (a1:List I2) (a2:Int) (a3:Int):Option (Int):=den E k 387 [.agg (avs sI6 a0),.c (.l 194 sI2 a1),cI a2,cI a3]
theorem eiNeedAt (k:Nat) (a0 a1 a2 a3):FiNeedAt (k+1) a0 a1 a2 a3=(Fineeds k a0 a1 a2 a3).bind fun p1=>if 0<(p1.length:Int) then ix p1 ((0:Int).toNat) fun x2=>some x2 else none:=by kernel_rfl
noncomputable def FiisIndex (k:Nat) (a0:Int) (a1:Int):Option (Bool):=den E k 255 [cI a0,cI a1]
theorem eiisIndex (k:Nat) (a0 a1):FiisIndex (k+1) a0 a1=if ((decide (a0>=0))==true)=true then some (decide (a0<a1)) else some false:=by kernel_rfl
noncomputable def FiNeedNow (k:Nat) (a0:z2) (a1:Int):Option (Int):=den E k 320 [.agg (avs Q0 a0),cI a1]
theorem eiNeedNow (k:Nat) (a0 a1):FiNeedNow (k+1) a0 a1=(FiisIndex k a1 (a0.2.2.2.2.1.length:Int)).bind fun p1=>if (!p1)=true then some 0 else if 0<=a1 then ix a0.2.2.2.2.1 a1.toNat fun x2=>(FiLitOf k a0 a1).bind fun p3=>(FiNeedAt k x2 p3 a0.2.2.2.2.2.2.2.2.2.2.1 a0.2.2.2.2.2.2.2.2.2.2.2.1).bind fun p4=>some p4 else none:=by kernel_rfl
noncomputable def FiCanSend (k:Nat) (a0:z2) (a1:Int):Option (Bool):=den E k 338 [.agg (avs Q0 a0),cI a1]
theorem eiCanSend (k:Nat) (a0 a1):FiCanSend (k+1) a0 a1=(FiisIndex k a1 a0.2.1.1).bind fun p1=>if ((!p1)==false)=true then (FiIsDown k a0.2.2.2.2.2.2.2.2.2.1 a1 a0.2.2.2.2.2.2.2.2.2.2.1).bind fun p2=>if p2=true then some false else if (decide (a1<a0.2.1.2.1))=true then (FiisIndex k a1 (a0.2.2.2.2.1.length:Int)).bind fun p3=>if (p3==true)=true then if 0<=a1 then ix a0.2.2.2.2.1 a1.toNat fun x4=>(FiNeedNow k a0 a1).bind fun p5=>(FiMaySend k x4 p5).bind fun p6=>some p6 else none else some false else some true else some false:=by kernel_rfl
noncomputable def FiIsCut (k:Nat) (a0:List I4) (a1:Int) (a2:Int) (a3:Int):Option (Bool):=den E k 231 [.c (.l 90 sI4 a0),cI a1,cI a2,cI a3]
abbrev CiIsCut_0:=(List I4)×Int×Int×Int×(List I4)×Int
abbrev ViIsCut_0:=Int
def StiIsCut_0:CiIsCut_0->ViIsCut_0->St
 | (a,b,d,e,f,g),h=>⟨59,0,[(0,.c (.l 90 sI4 a)),(1,cI b),(2,cI d),(3,cI e),(11,.c (.l 90 sI4 f)),(12,cI g),(13,cI h)],[]⟩
noncomputable def BiIsCut_0 {R:Type} (k:Nat) (X0:ViIsCut_0->I4->Bool->Option R) (X1:ViIsCut_0->I4->Bool->Option R) (X2:ViIsCut_0->I4->Bool->Option R) (X3:ViIsCut_0->Option R) (c0:CiIsCut_0) (rec:ViIsCut_0->Option R) (v0:ViIsCut_0):Option R:=if (decide (v0<c0.2.2.2.2.2))=true then if 0<=v0 then ix c0.2.2.2.2.1 v0.toNat fun x1=>if ((x1.1==c0.2.1)==true)=true then if ((x1.2.1==c0.2.2.1)==false)=true then if ((x1.1==c0.2.2.1)==true)=true then if ((x1.2.1==c0.2.1)==true)=true then (FiInSpan k x1.2.2 c0.2.2.2.1).bind fun p2=>if p2=true then X0 v0 x1 p2 else rec (i64.wrap (v0+1)) else rec (i64.wrap (v0+1)) else rec (i64.wrap (v0+1)) else (FiInSpan k x1.2.2 c0.2.2.2.1).bind fun p3=>if p3=true then X1 v0 x1 p3 else rec (i64.wrap (v0+1)) else if ((x1.1==c0.2.2.1)==true)=true then if ((x1.2.1==c0.2.1)==true)=true then (FiInSpan k x1.2.2 c0.2.2.2.1).bind fun p4=>if p4=true then X2 v0 x1 p4 else rec (i64.wrap (v0+1)) else rec (i64.wrap (v0+1)) else rec (i64.wrap (v0+1)) else none else X3 v0
noncomputable def LiIsCut_0 {R:Type} (k:Nat) (X0:ViIsCut_0->I4->Bool->Option R) (X1:ViIsCut_0->I4->Bool->Option R) (X2:ViIsCut_0->I4->Bool->Option R) (X3:ViIsCut_0->Option R) (c:CiIsCut_0):Nat->ViIsCut_0->Option R
 | 0,_=>none
 | n+1,v=>BiIsCut_0 k X0 X1 X2 X3 c (LiIsCut_0 k X0 X1 X2 X3 c n) v
noncomputable def fiIsCut_0 {R:Type} (k:Nat) (K:Ex->St->Option R) (c:CiIsCut_0):=lpf E k 231 Tryz.f231 0 [0,0,1,2,3,11,12,13] (StiIsCut_0 c) K
theorem qiIsCut_0 (k:Nat) (K:Ex->St->Option R) (X0 X1 X2 X3 c) (h:QL (fiIsCut_0 k K c) (BiIsCut_0 k X0 X1 X2 X3 c)) (v):LiIsCut_0 k X0 X1 X2 X3 c k v=fiIsCut_0 k K c k v:=lq h (fun _ _=>rfl) (fun _=>rfl) (fun _=>rfl) k v
noncomputable def NiIsCut:Ex->St->Option (Bool):=C1 E (rs 231) Tryz.f231
theorem eiIsCut (k:Nat) (a0 a1 a2 a3):FiIsCut (k+1) a0 a1 a2 a3=LiIsCut_0 k (fun (v0:Int) x1 p2=>some true) (fun (v0:Int) x1 p3=>some true) (fun (v0:Int) x1 p4=>some true) (fun (v0:Int)=>(FiIsDown k a0 a1 a3).bind fun p5=>if (p5==false)=true then (FiIsDown k a0 a2 a3).bind fun p6=>some p6 else some true) (a0,a1,a2,a3,a0,(a0.length:Int)) k 0:=by
 simp (disch:=(refine QL.mk fun n0 v=> ?_;kernel_rfl)) only [↓qiIsCut_0 k (kon0 E k 231 Tryz.f231 0 NiIsCut)]
 kernel_rfl
noncomputable def FiisNumber (k:Nat) (a0:Int):Option (Bool):=den E k 281 [cI a0]
theorem eiisNumber (k:Nat) (a0):FiisNumber (k+1) a0=(FiInRange k a0 1 12).bind fun p1=>some p1:=by kernel_rfl
noncomputable def FiDeadFor (k:Nat) (a0:List I4) (a1:Int) (a2:Int) (a3:Int):Option (List Int):=den E k 464 [.c (.l 90 sI4 a0),cI a1,cI a2,cI a3]
abbrev CiDeadFor_0:=(List I4)×Int×Int×Int
abbrev ViDeadFor_0:=Int×(List Int)
def StiDeadFor_0:CiDeadFor_0->ViDeadFor_0->St
 | (a,b,d,e),(f,g)=>⟨36,1,[(0,.c (.l 90 sI4 a)),(1,cI b),(2,cI d),(9,.c (.ref 0)),(16,cI e),(17,cI f)],[(0,.arr 3 (.i .i64) g)]⟩
noncomputable def BiDeadFor_0 {R:Type} (k:Nat) (X0:ViDeadFor_0->Option R) (c0:CiDeadFor_0) (rec:ViDeadFor_0->Option R) (v0:ViDeadFor_0):Option R:=if (decide (v0.1<c0.2.2.2))=true then if ((v0.1 !=c0.2.1)==true)=true then (FiIsCut k c0.1 c0.2.1 v0.1 c0.2.2.1).bind fun p2=>if p2=true then if (v0.2.length+([v0.1]).length)*8<=140737488355328 then rec ((i64.wrap (v0.1+1)),(v0.2++[v0.1])) else none else rec ((i64.wrap (v0.1+1)),v0.2) else rec ((i64.wrap (v0.1+1)),v0.2) else X0 v0
noncomputable def LiDeadFor_0 {R:Type} (k:Nat) (X0:ViDeadFor_0->Option R) (c:CiDeadFor_0):Nat->ViDeadFor_0->Option R
 | 0,_=>none
 | n+1,v=>BiDeadFor_0 k X0 c (LiDeadFor_0 k X0 c n) v
noncomputable def fiDeadFor_0 {R:Type} (k:Nat) (K:Ex->St->Option R) (c:CiDeadFor_0):=lpf E k 464 Tryz.f464 0 [0,0,1,2,9,16,17] (StiDeadFor_0 c) K
theorem qiDeadFor_0 (k:Nat) (K:Ex->St->Option R) (X0 c) (h:QL (fiDeadFor_0 k K c) (BiDeadFor_0 k X0 c)) (v):LiDeadFor_0 k X0 c k v=fiDeadFor_0 k K c k v:=lq h (fun _ _=>rfl) (fun _=>rfl) (fun _=>rfl) k v
noncomputable def NiDeadFor:Ex->St->Option (List Int):=C1 E (rs 464) Tryz.f464
theorem eiDeadFor (k:Nat) (a0 a1 a2 a3):FiDeadFor (k+1) a0 a1 a2 a3=(FiisNumber k a3).bind fun p1=>if (!p1)=true then some ([]) else LiDeadFor_0 k (fun v0=>some v0.2) (a0,a1,a2,a3) k (0,[]):=by
 simp (disch:=(refine QL.mk fun n0 v=> ?_;kernel_rfl)) only [↓qiDeadFor_0 k (kon0 E k 464 Tryz.f464 0 NiDeadFor)]
 kernel_rfl
noncomputable def FiDeadNow (k:Nat) (a0:z2) (a1:Int):Option (List Int):=den E k 407 [.agg (avs Q0 a0),cI a1]
theorem eiDeadNow (k:Nat) (a0 a1):FiDeadNow (k+1) a0 a1=(FiDeadFor k a0.2.2.2.2.2.2.2.2.2.1 a1 a0.2.2.2.2.2.2.2.2.2.2.1 a0.2.1.1).bind fun p1=>some p1:=by kernel_rfl
noncomputable def FiHasLink_1v (k:Nat) (a0:I2) (a1:Int) (a2:Int):Option (Bool):=den E k 392 [.agg [vI a0.1,vI a0.2],.c (.at_ [vI a1]),.c (.at_ [vI a2])]
theorem eiHasLink_1v (k:Nat) (a0 a1 a2):FiHasLink_1v (k+1) a0 a1 a2=if ((a0.1==a1)==true)=true then if ((a0.2==a2)==false)=true then if ((a0.1==a2)==true)=true then some (a0.2==a1) else some false else some true else if ((a0.1==a2)==true)=true then some (a0.2==a1) else some false:=by kernel_rfl
noncomputable def FgIndexFunc_Linkv_iHasLink_1 (k:Nat) (a0:List I2) (a1:Int) (a2:Int):Option (Int):=den E k 453 [.c (.l 288 sI2 a0),.c (.clo 392 [.at_ [vI a1],.at_ [vI a2]])]
abbrev CgIndexFunc_Linkv_iHasLink_1_0:=(List I2)×Int×Int×Int
abbrev Y1:=Int
def StgIndexFunc_Linkv_iHasLink_1_0:CgIndexFunc_Linkv_iHasLink_1_0->Y1->St
 | (a,b,d,e),f=>⟨19,0,[(0,.c (.l 288 sI2 a)),(1,.c (.clo 392 [.at_ [vI b],.at_ [vI d]])),(7,cI e),(8,cI f)],[]⟩
noncomputable def BgIndexFunc_Linkv_iHasLink_1_0 {R:Type} (k:Nat) (X0:Y1->I2->Bool->Option R) (X1:Y1->Option R) (c0:CgIndexFunc_Linkv_iHasLink_1_0) (rec:Y1->Option R) (v0:Y1):Option R:=if (decide (v0<c0.2.2.2))=true then if 0<=v0 then ix c0.1 v0.toNat fun x1=>(FiHasLink_1v k x1 c0.2.1 c0.2.2.1).bind fun p2=>if p2=true then X0 v0 x1 p2 else rec (i64.wrap (v0+1)) else none else X1 v0
noncomputable def LgIndexFunc_Linkv_iHasLink_1_0 {R:Type} (k:Nat) (X0:Y1->I2->Bool->Option R) (X1:Y1->Option R) (c:CgIndexFunc_Linkv_iHasLink_1_0):Nat->Y1->Option R
 | 0,_=>none
 | n+1,v=>BgIndexFunc_Linkv_iHasLink_1_0 k X0 X1 c (LgIndexFunc_Linkv_iHasLink_1_0 k X0 X1 c n) v
noncomputable def fgIndexFunc_Linkv_iHasLink_1_0 {R:Type} (k:Nat) (K:Ex->St->Option R) (c:CgIndexFunc_Linkv_iHasLink_1_0):=lpf E k 453 Tryz.f453 0 [0,0,1,7,8] (StgIndexFunc_Linkv_iHasLink_1_0 c) K
theorem qgIndexFunc_Linkv_iHasLink_1_0 (k:Nat) (K:Ex->St->Option R) (X0 X1 c) (h:QL (fgIndexFunc_Linkv_iHasLink_1_0 k K c) (BgIndexFunc_Linkv_iHasLink_1_0 k X0 X1 c)) (v):LgIndexFunc_Linkv_iHasLink_1_0 k X0 X1 c k v=fgIndexFunc_Linkv_iHasLink_1_0 k K c k v:=lq h (fun _ _=>rfl) (fun _=>rfl) (fun _=>rfl) k v
noncomputable def NgIndexFunc_Linkv_iHasLink_1:Ex->St->Option (Int):=C1 E (rs 453) Tryz.f453
theorem egIndexFunc_Linkv_iHasLink_1 (k:Nat) (a0 a1 a2):FgIndexFunc_Linkv_iHasLink_1 (k+1) a0 a1 a2=LgIndexFunc_Linkv_iHasLink_1_0 k (fun (v0:Int) x1 p2=>some v0) (fun (v0:Int)=>some (-1)) (a0,a1,a2,(a0.length:Int)) k 0:=by
 simp (disch:=(refine QL.mk fun n0 v=> ?_;kernel_rfl)) only [↓qgIndexFunc_Linkv_iHasLink_1_0 k (kon0 E k 453 Tryz.f453 0 NgIndexFunc_Linkv_iHasLink_1)]
 kernel_rfl
noncomputable def FgContainsFunc_Linkv_iHasLink_1 (k:Nat) (a0:List I2) (a1:Int) (a2:Int):Option (Bool):=den E k 391 [.c (.l 288 sI2 a0),.c (.clo 392 [.at_ [vI a1],.at_ [vI a2]])]
theorem egContainsFunc_Linkv_iHasLink_1 (k:Nat) (a0 a1 a2):FgContainsFunc_Linkv_iHasLink_1 (k+1) a0 a1 a2=(FgIndexFunc_Linkv_iHasLink_1 k a0 a1 a2).bind fun p1=>some (decide (p1>=0)):=by kernel_rfl
noncomputable def FiHasLink (k:Nat) (a0:W0) (a1:Int) (a2:Int) (a3:Int):Option (Bool):=den E k 326 [.agg (avs m0 a0),cI a1,cI a2,cI a3]
theorem eiHasLink (k:Nat) (a0 a1 a2 a3):FiHasLink (k+1) a0 a1 a2 a3=(FiisIndex k a1 (a0.2.2.2.length:Int)).bind fun p1=>if (p1==true)=true then if 0<=a1 then ix a0.2.2.2 a1.toNat fun x2=>(FgContainsFunc_Linkv_iHasLink_1 k x2.2.1 a2 a3).bind fun p3=>some p3 else none else some false:=by kernel_rfl
noncomputable def FiPieceAt_1v (k:Nat) (a0:TPiece) (a1:Int):Option (Bool):=den E k 394 [.agg (avs sPiece a0),.c (.at_ [vI a1])]
theorem eiPieceAt_1v (k:Nat) (a0 a1):FiPieceAt_1v (k+1) a0 a1=(FiInSpan k a0.1 a1).bind fun p1=>some p1:=by kernel_rfl
noncomputable def FgIndexFunc_Piecev_iPieceAt_1 (k:Nat) (a0:List TPiece) (a1:Int):Option (Int):=den E k 393 [.c (.l 198 sPiece a0),.c (.clo 394 [.at_ [vI a1]])]
abbrev CgIndexFunc_Piecev_iPieceAt_1_0:=(List TPiece)×Int×Int
abbrev H0:=Int
def StgIndexFunc_Piecev_iPieceAt_1_0:CgIndexFunc_Piecev_iPieceAt_1_0->H0->St
 | (a,b,d),e=>⟨19,0,[(0,.c (.l 198 sPiece a)),(1,.c (.clo 394 [.at_ [vI b]])),(7,cI d),(8,cI e)],[]⟩
noncomputable def BgIndexFunc_Piecev_iPieceAt_1_0 {R:Type} (k:Nat) (X0:H0->TPiece->Bool->Option R) (X1:H0->Option R) (c0:CgIndexFunc_Piecev_iPieceAt_1_0) (rec:H0->Option R) (v0:H0):Option R:=if (decide (v0<c0.2.2))=true then if 0<=v0 then ix c0.1 v0.toNat fun x1=>(FiPieceAt_1v k x1 c0.2.1).bind fun p2=>if p2=true then X0 v0 x1 p2 else rec (i64.wrap (v0+1)) else none else X1 v0
noncomputable def LgIndexFunc_Piecev_iPieceAt_1_0 {R:Type} (k:Nat) (X0:H0->TPiece->Bool->Option R) (X1:H0->Option R) (c:CgIndexFunc_Piecev_iPieceAt_1_0):Nat->H0->Option R
 | 0,_=>none
 | n+1,v=>BgIndexFunc_Piecev_iPieceAt_1_0 k X0 X1 c (LgIndexFunc_Piecev_iPieceAt_1_0 k X0 X1 c n) v
noncomputable def fgIndexFunc_Piecev_iPieceAt_1_0 {R:Type} (k:Nat) (K:Ex->St->Option R) (c:CgIndexFunc_Piecev_iPieceAt_1_0):=lpf E k 393 Tryz.f393 0 [0,0,1,7,8] (StgIndexFunc_Piecev_iPieceAt_1_0 c) K
theorem qgIndexFunc_Piecev_iPieceAt_1_0 (k:Nat) (K:Ex->St->Option R) (X0 X1 c) (h:QL (fgIndexFunc_Piecev_iPieceAt_1_0 k K c) (BgIndexFunc_Piecev_iPieceAt_1_0 k X0 X1 c)) (v):LgIndexFunc_Piecev_iPieceAt_1_0 k X0 X1 c k v=fgIndexFunc_Piecev_iPieceAt_1_0 k K c k v:=lq h (fun _ _=>rfl) (fun _=>rfl) (fun _=>rfl) k v
noncomputable def NgIndexFunc_Piecev_iPieceAt_1:Ex->St->Option (Int):=C1 E (rs 393) Tryz.f393
theorem egIndexFunc_Piecev_iPieceAt_1 (k:Nat) (a0 a1):FgIndexFunc_Piecev_iPieceAt_1 (k+1) a0 a1=LgIndexFunc_Piecev_iPieceAt_1_0 k (fun (v0:Int) x1 p2=>some v0) (fun (v0:Int)=>some (-1)) (a0,a1,(a0.length:Int)) k 0:=by
 simp (disch:=(refine QL.mk fun n0 v=> ?_;kernel_rfl)) only [↓qgIndexFunc_Piecev_iPieceAt_1_0 k (kon0 E k 393 Tryz.f393 0 NgIndexFunc_Piecev_iPieceAt_1)]
 kernel_rfl
noncomputable def FiPieceAt (k:Nat) (a0:W0) (a1:Int):Option (Int):=den E k 327 [.agg (avs m0 a0),cI a1]
theorem eiPieceAt (k:Nat) (a0 a1):FiPieceAt (k+1) a0 a1=(FgIndexFunc_Piecev_iPieceAt_1 k a0.2.2.2 a1).bind fun p1=>some p1:=by kernel_rfl
noncomputable def FiIsLinked (k:Nat) (a0:W0) (a1:Int) (a2:Int) (a3:Int):Option (Bool):=den E k 230 [.agg (avs m0 a0),cI a1,cI a2,cI a3]
theorem eiIsLinked (k:Nat) (a0 a1 a2 a3):FiIsLinked (k+1) a0 a1 a2 a3=(FiPieceAt k a0 a3).bind fun p1=>(FiHasLink k a0 p1 a1 a2).bind fun p2=>some p2:=by kernel_rfl
noncomputable def FiisSkewed (k:Nat) (a0:W0) (a1:Int):Option (Bool):=den E k 455 [.agg (avs m0 a0),cI a1]
theorem eiisSkewed (k:Nat) (a0 a1):FiisSkewed (k+1) a0 a1=(FiInRange k a0.2.2.1 0 5).bind fun p1=>if (p1==true)=true then (FiInRange k a1 0 1000).bind fun p2=>some p2 else some false:=by kernel_rfl
noncomputable def FiMayUse (k:Nat) (a0:W0) (a1:Int) (a2:Int) (a3:Int):Option (Bool):=den E k 408 [.agg (avs m0 a0),cI a1,cI a2,cI a3]
abbrev CiMayUse_0:=Int×Int×Int×W0
abbrev ViMayUse_0:=Int
def StiMayUse_0:CiMayUse_0->ViMayUse_0->St
 | (a,b,c,d),e=>⟨32,1,[(1,cI a),(2,cI b),(3,cI c),(4,cP 0),(9,cI e)],[(0,.var (avs m0 d))]⟩
noncomputable def BiMayUse_0 {R:Type} (k:Nat) (X0:ViMayUse_0->Bool->Option R) (X1:ViMayUse_0->Option R) (c0:CiMayUse_0) (rec:ViMayUse_0->Option R) (v0:ViMayUse_0):Option R:=if (decide (v0<=(i64.wrap (c0.2.2.1+c0.2.2.2.2.2.1))))=true then (FiIsLinked k c0.2.2.2 c0.1 c0.2.1 v0).bind fun p2=>if (!p2)=true then X0 v0 p2 else rec (i64.wrap (v0+1)) else X1 v0
noncomputable def LiMayUse_0 {R:Type} (k:Nat) (X0:ViMayUse_0->Bool->Option R) (X1:ViMayUse_0->Option R) (c:CiMayUse_0):Nat->ViMayUse_0->Option R
 | 0,_=>none
 | n+1,v=>BiMayUse_0 k X0 X1 c (LiMayUse_0 k X0 X1 c n) v
noncomputable def fiMayUse_0 {R:Type} (k:Nat) (K:Ex->St->Option R) (c:CiMayUse_0):=lpf E k 408 Tryz.f408 0 [0,1,2,3,4,9] (StiMayUse_0 c) K
theorem qiMayUse_0 (k:Nat) (K:Ex->St->Option R) (X0 X1 c) (h:QL (fiMayUse_0 k K c) (BiMayUse_0 k X0 X1 c)) (v):LiMayUse_0 k X0 X1 c k v=fiMayUse_0 k K c k v:=lq h (fun _ _=>rfl) (fun _=>rfl) (fun _=>rfl) k v
noncomputable def NiMayUse:Ex->St->Option (Bool):=C1 E (rs 408) Tryz.f408
theorem eiMayUse (k:Nat) (a0 a1 a2 a3):FiMayUse (k+1) a0 a1 a2 a3=(FiisSkewed k a0 a3).bind fun p1=>if (!p1)=true then some false else LiMayUse_0 k (fun (v0:Int) p2=>some false) (fun (v0:Int)=>some true) (a1,a2,a3,a0) k (i64.wrap (a3-a0.2.2.1)):=by
 simp (disch:=(refine QL.mk fun n0 v=> ?_;kernel_rfl)) only [↓qiMayUse_0 k (kon0 E k 408 Tryz.f408 0 NiMayUse)]
 kernel_rfl
noncomputable def FgIndex_int (k:Nat) (a0:List Int) (a1:Int):Option (Int):=den E k 395 [.c (.l 3 (.i .i64) a0),cI a1]
abbrev CgIndex_int_0:=(List Int)×Int×Int
abbrev VgIndex_int_0:=Int
def StgIndex_int_0:CgIndex_int_0->VgIndex_int_0->St
 | (a,b,d),e=>⟨19,0,[(0,.c (.l 3 (.i .i64) a)),(1,cI b),(7,cI d),(8,cI e)],[]⟩
noncomputable def BgIndex_int_0 {R:Type} (k:Nat) (X0:VgIndex_int_0->Int->Option R) (X1:VgIndex_int_0->Option R) (c0:CgIndex_int_0) (rec:VgIndex_int_0->Option R) (v0:VgIndex_int_0):Option R:=if (decide (v0<c0.2.2))=true then if 0<=v0 then ix c0.1 v0.toNat fun x1=>if (c0.2.1==x1)=true then X0 v0 x1 else rec (i64.wrap (v0+1)) else none else X1 v0
noncomputable def LgIndex_int_0 {R:Type} (k:Nat) (X0:VgIndex_int_0->Int->Option R) (X1:VgIndex_int_0->Option R) (c:CgIndex_int_0):Nat->VgIndex_int_0->Option R
 | 0,_=>none
 | n+1,v=>BgIndex_int_0 k X0 X1 c (LgIndex_int_0 k X0 X1 c n) v
noncomputable def fgIndex_int_0 {R:Type} (k:Nat) (K:Ex->St->Option R) (c:CgIndex_int_0):=lpf E k 395 Tryz.f395 0 [0,0,1,7,8] (StgIndex_int_0 c) K
theorem qgIndex_int_0 (k:Nat) (K:Ex->St->Option R) (X0 X1 c) (h:QL (fgIndex_int_0 k K c) (BgIndex_int_0 k X0 X1 c)) (v):LgIndex_int_0 k X0 X1 c k v=fgIndex_int_0 k K c k v:=lq h (fun _ _=>rfl) (fun _=>rfl) (fun _=>rfl) k v
noncomputable def NgIndex_int:Ex->St->Option (Int):=C1 E (rs 395) Tryz.f395
theorem egIndex_int (k:Nat) (a0 a1):FgIndex_int (k+1) a0 a1=LgIndex_int_0 k (fun (v0:Int) (x1:Int)=>some v0) (fun (v0:Int)=>some (-1)) (a0,a1,(a0.length:Int)) k 0:=by
 simp (disch:=(refine QL.mk fun n0 v=> ?_;kernel_rfl)) only [↓qgIndex_int_0 k (kon0 E k 395 Tryz.f395 0 NgIndex_int)]
 kernel_rfl
noncomputable def FgContains_int (k:Nat) (a0:List Int) (a1:Int):Option (Bool):=den E k 329 [.c (.l 3 (.i .i64) a0),cI a1]
theorem egContains_int (k:Nat) (a0 a1):FgContains_int (k+1) a0 a1=(FgIndex_int k a0 a1).bind fun p1=>some (decide (p1>=0)):=by kernel_rfl
noncomputable def FgisNaN_int (k:Nat) (a0:Int):Option (Bool):=den E k 362 [cI a0]
theorem egisNaN_int (k:Nat) (a0):FgisNaN_int (k+1) a0=some (a0 !=a0):=by kernel_rfl
noncomputable def FgCompare_int (k:Nat) (a0:Int) (a1:Int):Option (Int):=den E k 284 [cI a0,cI a1]
theorem egCompare_int (k:Nat) (a0 a1):FgCompare_int (k+1) a0 a1=(FgisNaN_int k a0).bind fun p1=>(FgisNaN_int k a1).bind fun p2=>if p1=true then if p2=true then some 0 else some (-1) else if p2=true then some 1 else if (decide (a0<a1))=true then some (-1) else if (decide (a0>a1))=true then some 1 else some 0:=by kernel_rfl
noncomputable def FiAltsOf_1v (k:Nat) (a0:Int) (a1:Int) (a2:Int) (a3:List Int) (a4:List Int):Option (Int):=den E k 481 [cI a0,cI a1,.c (.at_ [vI a2,.l 3 (.i .i64) a3,.l 3 (.i .i64) a4])]
theorem eiAltsOf_1v (k:Nat) (a0 a1 a2 a3 a4):FiAltsOf_1v (k+1) a0 a1 a2 a3 a4=if 0<=a0 then ix a3 a0.toNat fun x1=>if 0<=a1 then ix a3 a1.toNat fun x2=>(FgCompare_int k x1 x2).bind fun p3=>some p3 else none else none:=by kernel_rfl
noncomputable def P1 (k:Nat) (a0:List Int) (a1:Int) (a2:Int) (a3:Int) (a4:List Int) (a5:List Int):Option (List Int):=den E k 495 [.c (.l 3 (.i .i64) a0),cI a1,cI a2,.c (.clo 481 [.at_ [vI a3,.l 3 (.i .i64) a4,.l 3 (.i .i64) a5]])]
abbrev CginsertionSortCmpFunc_intv_iAltsOf_1_1:=Int×Int×Int×(List Int)×(List Int)×Int
abbrev U0:=Int×(List Int)
def StginsertionSortCmpFunc_intv_iAltsOf_1_1:CginsertionSortCmpFunc_intv_iAltsOf_1_1->U0->St
 | (a,b,d,e,f,g),(h,j)=>⟨53,1,[(0,.c (.ref 0)),(1,cI a),(2,cI b),(3,.c (.clo 481 [.at_ [vI d,.l 3 (.i .i64) e,.l 3 (.i .i64) f]])),(8,cI g),(9,cI h)],[(0,.arr 3 (.i .i64) j)]⟩
noncomputable def BginsertionSortCmpFunc_intv_iAltsOf_1_1 {R:Type} (k:Nat) (X0:U0->Int->Int->Int->Option R) (X1:U0->Option R) (c1:CginsertionSortCmpFunc_intv_iAltsOf_1_1) (rec:U0->Option R) (v1:U0):Option R:=if ((decide (v1.1>c1.1))==true)=true then if 0<=v1.1 then if v1.1<(v1.2.length:Int) then ix v1.2 v1.1.toNat fun x1=>if 0<=(i64.wrap (v1.1-1)) then if (i64.wrap (v1.1-1))<(v1.2.length:Int) then ix v1.2 ((i64.wrap (v1.1-1)).toNat) fun x2=>(FiAltsOf_1v k x1 x2 c1.2.2.1 c1.2.2.2.1 c1.2.2.2.2.1).bind fun p3=>if (decide (p3<0))=true then if 0<=(i64.wrap (v1.1-1)) then if (i64.wrap (v1.1-1))<(v1.2.length:Int) then ix v1.2 ((i64.wrap (v1.1-1)).toNat) fun x4=>if 0<=v1.1 then if v1.1<(v1.2.length:Int) then ix v1.2 v1.1.toNat fun x5=>if 0<=v1.1 then if v1.1<(v1.2.length:Int) then ix v1.2 v1.1.toNat fun y6=>if 0<=(i64.wrap (v1.1-1)) then if (i64.wrap (v1.1-1))<((v1.2.set v1.1.toNat x4).length:Int) then ix (v1.2.set v1.1.toNat x4) ((i64.wrap (v1.1-1)).toNat) fun y7=>rec ((i64.wrap (v1.1-1)),((v1.2.set v1.1.toNat x4).set ((i64.wrap (v1.1-1)).toNat) x5)) else none else none else none else none else none else none else none else none else X0 v1 x1 x2 p3 else none else none else none else none else X1 v1
noncomputable def D1 {R:Type} (k:Nat) (X0:U0->Int->Int->Int->Option R) (X1:U0->Option R) (c:CginsertionSortCmpFunc_intv_iAltsOf_1_1):Nat->U0->Option R
 | 0,_=>none
 | n+1,v=>BginsertionSortCmpFunc_intv_iAltsOf_1_1 k X0 X1 c (D1 k X0 X1 c n) v
noncomputable def fginsertionSortCmpFunc_intv_iAltsOf_1_1 {R:Type} (k:Nat) (K:Ex->St->Option R) (c:CginsertionSortCmpFunc_intv_iAltsOf_1_1):=lpf E k 495 Tryz.f495 1 [1,0,1,2,3,8,9] (StginsertionSortCmpFunc_intv_iAltsOf_1_1 c) K
theorem qginsertionSortCmpFunc_intv_iAltsOf_1_1 (k:Nat) (K:Ex->St->Option R) (X0 X1 c) (h:QL (fginsertionSortCmpFunc_intv_iAltsOf_1_1 k K c) (BginsertionSortCmpFunc_intv_iAltsOf_1_1 k X0 X1 c)) (v):D1 k X0 X1 c k v=fginsertionSortCmpFunc_intv_iAltsOf_1_1 k K c k v:=lq h (fun _ _=>rfl) (fun _=>rfl) (fun _=>rfl) k v
abbrev CginsertionSortCmpFunc_intv_iAltsOf_1_0:=Int×Int×Int×(List Int)×(List Int)
abbrev O0:=Int×(List Int)
def StginsertionSortCmpFunc_intv_iAltsOf_1_0 (c0:CginsertionSortCmpFunc_intv_iAltsOf_1_0) (v0:O0):St:=⟨53,1,[(0,.c (.ref 0)),(1,cI c0.1),(2,cI c0.2.1),(3,.c (.clo 481 [.at_ (avs sTable c0.2.2)])),(8,cI v0.1)],[(0,.arr 3 (.i .i64) v0.2)]⟩
noncomputable def BginsertionSortCmpFunc_intv_iAltsOf_1_0 {R:Type} (k:Nat) (X0:O0->Option R) (c0:CginsertionSortCmpFunc_intv_iAltsOf_1_0) (rec:O0->Option R) (v0:O0):Option R:=if (decide (v0.1<c0.2.1))=true then D1 k (fun v1 (x1:Int) (x2:Int) (p3:Int)=>rec ((i64.wrap (v0.1+1)),v1.2)) (fun v1=>rec ((i64.wrap (v0.1+1)),v1.2)) (c0.1,c0.2.1,c0.2.2.1,c0.2.2.2.1,c0.2.2.2.2,v0.1) k v0 else X0 v0
noncomputable def N0 {R:Type} (k:Nat) (X0:O0->Option R) (c:CginsertionSortCmpFunc_intv_iAltsOf_1_0):Nat->O0->Option R
 | 0,_=>none
 | n+1,v=>BginsertionSortCmpFunc_intv_iAltsOf_1_0 k X0 c (N0 k X0 c n) v
noncomputable def fginsertionSortCmpFunc_intv_iAltsOf_1_0 {R:Type} (k:Nat) (K:Ex->St->Option R) (c:CginsertionSortCmpFunc_intv_iAltsOf_1_0):=lpf E k 495 Tryz.f495 0 [1,0,1,2,3,8] (StginsertionSortCmpFunc_intv_iAltsOf_1_0 c) K
theorem qginsertionSortCmpFunc_intv_iAltsOf_1_0 (k:Nat) (K:Ex->St->Option R) (X0 c) (h:QL (fginsertionSortCmpFunc_intv_iAltsOf_1_0 k K c) (BginsertionSortCmpFunc_intv_iAltsOf_1_0 k X0 c)) (v):N0 k X0 c k v=fginsertionSortCmpFunc_intv_iAltsOf_1_0 k K c k v:=lq h (fun _ _=>rfl) (fun _=>rfl) (fun _=>rfl) k v
noncomputable def NginsertionSortCmpFunc_intv_iAltsOf_1:Ex->St->Option (List Int):=C1 E (rs 495) Tryz.f495
theorem eginsertionSortCmpFunc_intv_iAltsOf_1 (k:Nat) (a0 a1 a2 a3 a4 a5):P1 (k+1) a0 a1 a2 a3 a4 a5=N0 k (fun v0=>some v0.2) (a1,a2,a3,a4,a5) k ((i64.wrap (a1+1)),a0):=by
 simp (maxSteps:=9999999) (disch:=(refine QL.mk fun n0 v=> ?_;unfold BginsertionSortCmpFunc_intv_iAltsOf_1_0;simp (maxSteps:=9999999) (disch:=(refine QL.mk fun n1 v=> ?_;kernel_rfl)) only [↓qginsertionSortCmpFunc_intv_iAltsOf_1_1 (R:=List Int) k (kon1 E k 495 Tryz.f495 0 1 n0 [1,0,1,2,3,8] (kon0 E k 495 Tryz.f495 0 NginsertionSortCmpFunc_intv_iAltsOf_1))];kernel_rfl)) only [↓qginsertionSortCmpFunc_intv_iAltsOf_1_0 (R:=List Int) k (kon0 E k 495 Tryz.f495 0 NginsertionSortCmpFunc_intv_iAltsOf_1)]
 kernel_rfl
noncomputable def j2 (k:Nat) (a0:List Int) (a1:Int) (a2:Int) (a3:Int) (a4:Int) (a5:List Int) (a6:List Int):Option (List Int):=den E k 498 [.c (.l 3 (.i .i64) a0),cI a1,cI a2,cI a3,.c (.clo 481 [.at_ [vI a4,.l 3 (.i .i64) a5,.l 3 (.i .i64) a6]])]
abbrev CgswapRangeCmpFunc_intv_iAltsOf_1_0:=Int×Int×Int
abbrev I0:=Int×(List Int)
def StgswapRangeCmpFunc_intv_iAltsOf_1_0:CgswapRangeCmpFunc_intv_iAltsOf_1_0->I0->St
 | (a,b,d),(e,f)=>⟨38,1,[(0,.c (.ref 0)),(1,cI a),(2,cI b),(3,cI d),(10,cI e)],[(0,.arr 3 (.i .i64) f)]⟩
noncomputable def BgswapRangeCmpFunc_intv_iAltsOf_1_0 {R:Type} (k:Nat) (X0:I0->Option R) (c0:CgswapRangeCmpFunc_intv_iAltsOf_1_0) (rec:I0->Option R) (v0:I0):Option R:=if (decide (v0.1<c0.2.2))=true then if 0<=(i64.wrap (c0.2.1+v0.1)) then if (i64.wrap (c0.2.1+v0.1))<(v0.2.length:Int) then ix v0.2 ((i64.wrap (c0.2.1+v0.1)).toNat) fun x1=>if 0<=(i64.wrap (c0.1+v0.1)) then if (i64.wrap (c0.1+v0.1))<(v0.2.length:Int) then ix v0.2 ((i64.wrap (c0.1+v0.1)).toNat) fun x2=>if 0<=(i64.wrap (c0.1+v0.1)) then if (i64.wrap (c0.1+v0.1))<(v0.2.length:Int) then ix v0.2 ((i64.wrap (c0.1+v0.1)).toNat) fun y3=>if 0<=(i64.wrap (c0.2.1+v0.1)) then if (i64.wrap (c0.2.1+v0.1))<((v0.2.set ((i64.wrap (c0.1+v0.1)).toNat) x1).length:Int) then ix (v0.2.set ((i64.wrap (c0.1+v0.1)).toNat) x1) ((i64.wrap (c0.2.1+v0.1)).toNat) fun y4=>rec ((i64.wrap (v0.1+1)),((v0.2.set ((i64.wrap (c0.1+v0.1)).toNat) x1).set ((i64.wrap (c0.2.1+v0.1)).toNat) x2)) else none else none else none else none else none else none else none else none else X0 v0
noncomputable def LgswapRangeCmpFunc_intv_iAltsOf_1_0 {R:Type} (k:Nat) (X0:I0->Option R) (c:CgswapRangeCmpFunc_intv_iAltsOf_1_0):Nat->I0->Option R
 | 0,_=>none
 | n+1,v=>BgswapRangeCmpFunc_intv_iAltsOf_1_0 k X0 c (LgswapRangeCmpFunc_intv_iAltsOf_1_0 k X0 c n) v
noncomputable def fgswapRangeCmpFunc_intv_iAltsOf_1_0 {R:Type} (k:Nat) (K:Ex->St->Option R) (c:CgswapRangeCmpFunc_intv_iAltsOf_1_0):=lpf E k 498 Tryz.f498 0 [1,0,1,2,3,10] (StgswapRangeCmpFunc_intv_iAltsOf_1_0 c) K
theorem qgswapRangeCmpFunc_intv_iAltsOf_1_0 (k:Nat) (K:Ex->St->Option R) (X0 c) (h:QL (fgswapRangeCmpFunc_intv_iAltsOf_1_0 k K c) (BgswapRangeCmpFunc_intv_iAltsOf_1_0 k X0 c)) (v):LgswapRangeCmpFunc_intv_iAltsOf_1_0 k X0 c k v=fgswapRangeCmpFunc_intv_iAltsOf_1_0 k K c k v:=lq h (fun _ _=>rfl) (fun _=>rfl) (fun _=>rfl) k v
noncomputable def NgswapRangeCmpFunc_intv_iAltsOf_1:Ex->St->Option (List Int):=C1 E (rs 498) Tryz.f498
theorem egswapRangeCmpFunc_intv_iAltsOf_1 (k:Nat) (a0 a1 a2 a3 a4 a5 a6):j2 (k+1) a0 a1 a2 a3 a4 a5 a6=LgswapRangeCmpFunc_intv_iAltsOf_1_0 k (fun v0=>some v0.2) (a1,a2,a3) k (0,a0):=by
 simp (disch:=(refine QL.mk fun n0 v=> ?_;kernel_rfl)) only [↓qgswapRangeCmpFunc_intv_iAltsOf_1_0 k (kon0 E k 498 Tryz.f498 0 NgswapRangeCmpFunc_intv_iAltsOf_1)]
 kernel_rfl
noncomputable def FgrotateCmpFunc_intv_iAltsOf_1 (k:Nat) (a0:List Int) (a1:Int) (a2:Int) (a3:Int) (a4:Int) (a5:List Int) (a6:List Int):Option (List Int):=den E k 497 [.c (.l 3 (.i .i64) a0),cI a1,cI a2,cI a3,.c (.clo 481 [.at_ [vI a4,.l 3 (.i .i64) a5,.l 3 (.i .i64) a6]])]
abbrev CgrotateCmpFunc_intv_iAltsOf_1_0:=Int×Int×(List Int)×(List Int)
abbrev N1:=Int×Int×(List Int)
def StgrotateCmpFunc_intv_iAltsOf_1_0 (c0:CgrotateCmpFunc_intv_iAltsOf_1_0) (v0:N1):St:=⟨58,1,[(0,.c (.ref 0)),(2,cI c0.1),(4,.c (.clo 481 [.at_ (avs sTable c0.2)])),(10,cI v0.1),(11,cI v0.2.1)],[(0,.arr 3 (.i .i64) v0.2.2)]⟩
noncomputable def BgrotateCmpFunc_intv_iAltsOf_1_0 {R:Type} (k:Nat) (X0:N1->Option R) (c0:CgrotateCmpFunc_intv_iAltsOf_1_0) (rec:N1->Option R) (v0:N1):Option R:=if (v0.1 !=v0.2.1)=true then if (decide (v0.1>v0.2.1))=true then (j2 k v0.2.2 (i64.wrap (c0.1-v0.1)) c0.1 v0.2.1 c0.2.1 c0.2.2.1 c0.2.2.2).bind fun p1=>rec ((i64.wrap (v0.1-v0.2.1)),v0.2.1,p1) else (j2 k v0.2.2 (i64.wrap (c0.1-v0.1)) (i64.wrap ((i64.wrap (c0.1+v0.2.1))-v0.1)) v0.1 c0.2.1 c0.2.2.1 c0.2.2.2).bind fun p2=>rec (v0.1,(i64.wrap (v0.2.1-v0.1)),p2) else X0 v0
noncomputable def LgrotateCmpFunc_intv_iAltsOf_1_0 {R:Type} (k:Nat) (X0:N1->Option R) (c:CgrotateCmpFunc_intv_iAltsOf_1_0):Nat->N1->Option R
 | 0,_=>none
 | n+1,v=>BgrotateCmpFunc_intv_iAltsOf_1_0 k X0 c (LgrotateCmpFunc_intv_iAltsOf_1_0 k X0 c n) v
noncomputable def fgrotateCmpFunc_intv_iAltsOf_1_0 {R:Type} (k:Nat) (K:Ex->St->Option R) (c:CgrotateCmpFunc_intv_iAltsOf_1_0):=lpf E k 497 Tryz.f497 0 [1,0,2,4,10,11] (StgrotateCmpFunc_intv_iAltsOf_1_0 c) K
theorem qgrotateCmpFunc_intv_iAltsOf_1_0 (k:Nat) (K:Ex->St->Option R) (X0 c) (h:QL (fgrotateCmpFunc_intv_iAltsOf_1_0 k K c) (BgrotateCmpFunc_intv_iAltsOf_1_0 k X0 c)) (v):LgrotateCmpFunc_intv_iAltsOf_1_0 k X0 c k v=fgrotateCmpFunc_intv_iAltsOf_1_0 k K c k v:=lq h (fun _ _=>rfl) (fun _=>rfl) (fun _=>rfl) k v
noncomputable def NgrotateCmpFunc_intv_iAltsOf_1:Ex->St->Option (List Int):=C1 E (rs 497) Tryz.f497
theorem egrotateCmpFunc_intv_iAltsOf_1 (k:Nat) (a0 a1 a2 a3 a4 a5 a6):FgrotateCmpFunc_intv_iAltsOf_1 (k+1) a0 a1 a2 a3 a4 a5 a6=LgrotateCmpFunc_intv_iAltsOf_1_0 k (fun v0=>(j2 k v0.2.2 (i64.wrap (a2-v0.1)) a2 v0.1 a4 a5 a6).bind fun p3=>some p3) (a2,a4,a5,a6) k ((i64.wrap (a2-a1)),(i64.wrap (a3-a2)),a0):=by
 simp (disch:=(refine QL.mk fun n0 v=> ?_;kernel_rfl)) only [↓qgrotateCmpFunc_intv_iAltsOf_1_0 k (kon0 E k 497 Tryz.f497 0 NgrotateCmpFunc_intv_iAltsOf_1)]
 kernel_rfl
noncomputable def u0 (k:Nat) (a0:List Int) (a1:Int) (a2:Int) (a3:Int) (a4:Int) (a5:List Int) (a6:List Int):Option (List Int):=den E k 496 [.c (.l 3 (.i .i64) a0),cI a1,cI a2,cI a3,.c (.clo 481 [.at_ [vI a4,.l 3 (.i .i64) a5,.l 3 (.i .i64) a6]])]
abbrev CgsymMergeCmpFunc_intv_iAltsOf_1_4:=Int×Int×Int×Int×(List Int)×(List Int)×Int×Int×Int×(List Int)
abbrev Z1:=Int×Int
def StgsymMergeCmpFunc_intv_iAltsOf_1_4:CgsymMergeCmpFunc_intv_iAltsOf_1_4->Z1->St
 | (a,b,d,e,f,g,h,j,k,m),(n,o)=>⟨220,1,[(0,.c (.ref 0)),(1,cI a),(2,cI b),(3,cI d),(4,.c (.clo 481 [.at_ [vI e,.l 3 (.i .i64) f,.l 3 (.i .i64) g]])),(18,cI h),(19,cI j),(20,cI n),(21,cI o),(22,cI k)],[(0,.arr 3 (.i .i64) m)]⟩
noncomputable def BgsymMergeCmpFunc_intv_iAltsOf_1_4 {R:Type} (k:Nat) (X0:Z1->Option R) (c4:CgsymMergeCmpFunc_intv_iAltsOf_1_4) (rec:Z1->Option R) (v4:Z1):Option R:=if (decide (v4.1<v4.2))=true then if 0<=(i64.wrap (c4.2.2.2.2.2.2.2.2.1-(i64.wrap (((u64.wrap (i64.wrap (v4.1+v4.2)))).fdiv (2^(min (1:Int).toNat u64.bits)))))) then if (i64.wrap (c4.2.2.2.2.2.2.2.2.1-(i64.wrap (((u64.wrap (i64.wrap (v4.1+v4.2)))).fdiv (2^(min (1:Int).toNat u64.bits))))))<(c4.2.2.2.2.2.2.2.2.2.length:Int) then ix c4.2.2.2.2.2.2.2.2.2 ((i64.wrap (c4.2.2.2.2.2.2.2.2.1-(i64.wrap (((u64.wrap (i64.wrap (v4.1+v4.2)))).fdiv (2^(min (1:Int).toNat u64.bits)))))).toNat) fun x15=>if 0<=(i64.wrap (((u64.wrap (i64.wrap (v4.1+v4.2)))).fdiv (2^(min (1:Int).toNat u64.bits)))) then if (i64.wrap (((u64.wrap (i64.wrap (v4.1+v4.2)))).fdiv (2^(min (1:Int).toNat u64.bits))))<(c4.2.2.2.2.2.2.2.2.2.length:Int) then ix c4.2.2.2.2.2.2.2.2.2 ((i64.wrap (((u64.wrap (i64.wrap (v4.1+v4.2)))).fdiv (2^(min (1:Int).toNat u64.bits)))).toNat) fun x16=>(FiAltsOf_1v k x15 x16 c4.2.2.2.1 c4.2.2.2.2.1 c4.2.2.2.2.2.1).bind fun p17=>if (!(decide (p17<0)))=true then rec ((i64.wrap ((i64.wrap (((u64.wrap (i64.wrap (v4.1+v4.2)))).fdiv (2^(min (1:Int).toNat u64.bits))))+1)),v4.2) else rec (v4.1,(i64.wrap (((u64.wrap (i64.wrap (v4.1+v4.2)))).fdiv (2^(min (1:Int).toNat u64.bits))))) else none else none else none else none else X0 v4
noncomputable def K0 {R:Type} (k:Nat) (X0:Z1->Option R) (c:CgsymMergeCmpFunc_intv_iAltsOf_1_4):Nat->Z1->Option R
 | 0,_=>none
 | n+1,v=>BgsymMergeCmpFunc_intv_iAltsOf_1_4 k X0 c (K0 k X0 c n) v
noncomputable def fgsymMergeCmpFunc_intv_iAltsOf_1_4 {R:Type} (k:Nat) (K:Ex->St->Option R) (c:CgsymMergeCmpFunc_intv_iAltsOf_1_4):=lpf E k 496 Tryz.f496 4 [1,0,1,2,3,4,18,19,20,21,22] (StgsymMergeCmpFunc_intv_iAltsOf_1_4 c) K
theorem qgsymMergeCmpFunc_intv_iAltsOf_1_4 (k:Nat) (K:Ex->St->Option R) (X0 c) (h:QL (fgsymMergeCmpFunc_intv_iAltsOf_1_4 k K c) (BgsymMergeCmpFunc_intv_iAltsOf_1_4 k X0 c)) (v):K0 k X0 c k v=fgsymMergeCmpFunc_intv_iAltsOf_1_4 k K c k v:=lq h (fun _ _=>rfl) (fun _=>rfl) (fun _=>rfl) k v
abbrev CgsymMergeCmpFunc_intv_iAltsOf_1_3:=Int×Int×Int×Int×(List Int)×(List Int)×Int×Int
abbrev C0:=Int×(List Int)
def StgsymMergeCmpFunc_intv_iAltsOf_1_3:CgsymMergeCmpFunc_intv_iAltsOf_1_3->C0->St
 | (a,b,d,e,f,g,h,j),(k,m)=>⟨220,1,[(0,.c (.ref 0)),(1,cI a),(2,cI b),(3,cI d),(4,.c (.clo 481 [.at_ [vI e,.l 3 (.i .i64) f,.l 3 (.i .i64) g]])),(14,cI h),(15,cI j),(17,cI k)],[(0,.arr 3 (.i .i64) m)]⟩
noncomputable def BgsymMergeCmpFunc_intv_iAltsOf_1_3 {R:Type} (k:Nat) (X0:C0->Option R) (c3:CgsymMergeCmpFunc_intv_iAltsOf_1_3) (rec:C0->Option R) (v3:C0):Option R:=if (decide (v3.1>c3.2.2.2.2.2.2.1))=true then if 0<=(i64.wrap (v3.1-1)) then if (i64.wrap (v3.1-1))<(v3.2.length:Int) then ix v3.2 ((i64.wrap (v3.1-1)).toNat) fun x11=>if 0<=v3.1 then if v3.1<(v3.2.length:Int) then ix v3.2 v3.1.toNat fun x12=>if 0<=v3.1 then if v3.1<(v3.2.length:Int) then ix v3.2 v3.1.toNat fun y13=>if 0<=(i64.wrap (v3.1-1)) then if (i64.wrap (v3.1-1))<((v3.2.set v3.1.toNat x11).length:Int) then ix (v3.2.set v3.1.toNat x11) ((i64.wrap (v3.1-1)).toNat) fun y14=>rec ((i64.wrap (v3.1-1)),((v3.2.set v3.1.toNat x11).set ((i64.wrap (v3.1-1)).toNat) x12)) else none else none else none else none else none else none else none else none else X0 v3
noncomputable def LgsymMergeCmpFunc_intv_iAltsOf_1_3 {R:Type} (k:Nat) (X0:C0->Option R) (c:CgsymMergeCmpFunc_intv_iAltsOf_1_3):Nat->C0->Option R
 | 0,_=>none
 | n+1,v=>BgsymMergeCmpFunc_intv_iAltsOf_1_3 k X0 c (LgsymMergeCmpFunc_intv_iAltsOf_1_3 k X0 c n) v
noncomputable def fgsymMergeCmpFunc_intv_iAltsOf_1_3 {R:Type} (k:Nat) (K:Ex->St->Option R) (c:CgsymMergeCmpFunc_intv_iAltsOf_1_3):=lpf E k 496 Tryz.f496 3 [1,0,1,2,3,4,14,15,17] (StgsymMergeCmpFunc_intv_iAltsOf_1_3 c) K
theorem qgsymMergeCmpFunc_intv_iAltsOf_1_3 (k:Nat) (K:Ex->St->Option R) (X0 c) (h:QL (fgsymMergeCmpFunc_intv_iAltsOf_1_3 k K c) (BgsymMergeCmpFunc_intv_iAltsOf_1_3 k X0 c)) (v):LgsymMergeCmpFunc_intv_iAltsOf_1_3 k X0 c k v=fgsymMergeCmpFunc_intv_iAltsOf_1_3 k K c k v:=lq h (fun _ _=>rfl) (fun _=>rfl) (fun _=>rfl) k v
abbrev CgsymMergeCmpFunc_intv_iAltsOf_1_2:=Int×Int×Int×Int×(List Int)×(List Int)×(List Int)
abbrev D0:=Int×Int
def StgsymMergeCmpFunc_intv_iAltsOf_1_2:CgsymMergeCmpFunc_intv_iAltsOf_1_2->D0->St
 | (a,b,d,e,f,g,h),(j,k)=>⟨220,1,[(0,.c (.ref 0)),(1,cI a),(2,cI b),(3,cI d),(4,.c (.clo 481 [.at_ [vI e,.l 3 (.i .i64) f,.l 3 (.i .i64) g]])),(14,cI j),(15,cI k)],[(0,.arr 3 (.i .i64) h)]⟩
noncomputable def BgsymMergeCmpFunc_intv_iAltsOf_1_2 {R:Type} (k:Nat) (X0:D0->Option R) (c2:CgsymMergeCmpFunc_intv_iAltsOf_1_2) (rec:D0->Option R) (v2:D0):Option R:=if (decide (v2.1<v2.2))=true then if 0<=c2.2.1 then if c2.2.1<(c2.2.2.2.2.2.2.length:Int) then ix c2.2.2.2.2.2.2 c2.2.1.toNat fun x8=>if 0<=(i64.wrap (((u64.wrap (i64.wrap (v2.1+v2.2)))).fdiv (2^(min (1:Int).toNat u64.bits)))) then if (i64.wrap (((u64.wrap (i64.wrap (v2.1+v2.2)))).fdiv (2^(min (1:Int).toNat u64.bits))))<(c2.2.2.2.2.2.2.length:Int) then ix c2.2.2.2.2.2.2 ((i64.wrap (((u64.wrap (i64.wrap (v2.1+v2.2)))).fdiv (2^(min (1:Int).toNat u64.bits)))).toNat) fun x9=>(FiAltsOf_1v k x8 x9 c2.2.2.2.1 c2.2.2.2.2.1 c2.2.2.2.2.2.1).bind fun p10=>if (!(decide (p10<0)))=true then rec ((i64.wrap ((i64.wrap (((u64.wrap (i64.wrap (v2.1+v2.2)))).fdiv (2^(min (1:Int).toNat u64.bits))))+1)),v2.2) else rec (v2.1,(i64.wrap (((u64.wrap (i64.wrap (v2.1+v2.2)))).fdiv (2^(min (1:Int).toNat u64.bits))))) else none else none else none else none else X0 v2
noncomputable def LgsymMergeCmpFunc_intv_iAltsOf_1_2 {R:Type} (k:Nat) (X0:D0->Option R) (c:CgsymMergeCmpFunc_intv_iAltsOf_1_2):Nat->D0->Option R
 | 0,_=>none
 | n+1,v=>BgsymMergeCmpFunc_intv_iAltsOf_1_2 k X0 c (LgsymMergeCmpFunc_intv_iAltsOf_1_2 k X0 c n) v
noncomputable def fgsymMergeCmpFunc_intv_iAltsOf_1_2 {R:Type} (k:Nat) (K:Ex->St->Option R) (c:CgsymMergeCmpFunc_intv_iAltsOf_1_2):=lpf E k 496 Tryz.f496 2 [1,0,1,2,3,4,14,15] (StgsymMergeCmpFunc_intv_iAltsOf_1_2 c) K
theorem qgsymMergeCmpFunc_intv_iAltsOf_1_2 (k:Nat) (K:Ex->St->Option R) (X0 c) (h:QL (fgsymMergeCmpFunc_intv_iAltsOf_1_2 k K c) (BgsymMergeCmpFunc_intv_iAltsOf_1_2 k X0 c)) (v):LgsymMergeCmpFunc_intv_iAltsOf_1_2 k X0 c k v=fgsymMergeCmpFunc_intv_iAltsOf_1_2 k K c k v:=lq h (fun _ _=>rfl) (fun _=>rfl) (fun _=>rfl) k v
abbrev CgsymMergeCmpFunc_intv_iAltsOf_1_1:=Int×Int×Int×Int×(List Int)×(List Int)×Int×Int
abbrev j1:=Int×(List Int)
def StgsymMergeCmpFunc_intv_iAltsOf_1_1:CgsymMergeCmpFunc_intv_iAltsOf_1_1->j1->St
 | (a,b,d,e,f,g,h,j),(k,m)=>⟨220,1,[(0,.c (.ref 0)),(1,cI a),(2,cI b),(3,cI d),(4,.c (.clo 481 [.at_ [vI e,.l 3 (.i .i64) f,.l 3 (.i .i64) g]])),(10,cI h),(11,cI j),(13,cI k)],[(0,.arr 3 (.i .i64) m)]⟩
noncomputable def BgsymMergeCmpFunc_intv_iAltsOf_1_1 {R:Type} (k:Nat) (X0:j1->Option R) (c1:CgsymMergeCmpFunc_intv_iAltsOf_1_1) (rec:j1->Option R) (v1:j1):Option R:=if (decide (v1.1<(i64.wrap (c1.2.2.2.2.2.2.1-1))))=true then if 0<=(i64.wrap (v1.1+1)) then if (i64.wrap (v1.1+1))<(v1.2.length:Int) then ix v1.2 ((i64.wrap (v1.1+1)).toNat) fun x4=>if 0<=v1.1 then if v1.1<(v1.2.length:Int) then ix v1.2 v1.1.toNat fun x5=>if 0<=v1.1 then if v1.1<(v1.2.length:Int) then ix v1.2 v1.1.toNat fun y6=>if 0<=(i64.wrap (v1.1+1)) then if (i64.wrap (v1.1+1))<((v1.2.set v1.1.toNat x4).length:Int) then ix (v1.2.set v1.1.toNat x4) ((i64.wrap (v1.1+1)).toNat) fun y7=>rec ((i64.wrap (v1.1+1)),((v1.2.set v1.1.toNat x4).set ((i64.wrap (v1.1+1)).toNat) x5)) else none else none else none else none else none else none else none else none else X0 v1
noncomputable def LgsymMergeCmpFunc_intv_iAltsOf_1_1 {R:Type} (k:Nat) (X0:j1->Option R) (c:CgsymMergeCmpFunc_intv_iAltsOf_1_1):Nat->j1->Option R
 | 0,_=>none
 | n+1,v=>BgsymMergeCmpFunc_intv_iAltsOf_1_1 k X0 c (LgsymMergeCmpFunc_intv_iAltsOf_1_1 k X0 c n) v
noncomputable def fgsymMergeCmpFunc_intv_iAltsOf_1_1 {R:Type} (k:Nat) (K:Ex->St->Option R) (c:CgsymMergeCmpFunc_intv_iAltsOf_1_1):=lpf E k 496 Tryz.f496 1 [1,0,1,2,3,4,10,11,13] (StgsymMergeCmpFunc_intv_iAltsOf_1_1 c) K
theorem qgsymMergeCmpFunc_intv_iAltsOf_1_1 (k:Nat) (K:Ex->St->Option R) (X0 c) (h:QL (fgsymMergeCmpFunc_intv_iAltsOf_1_1 k K c) (BgsymMergeCmpFunc_intv_iAltsOf_1_1 k X0 c)) (v):LgsymMergeCmpFunc_intv_iAltsOf_1_1 k X0 c k v=fgsymMergeCmpFunc_intv_iAltsOf_1_1 k K c k v:=lq h (fun _ _=>rfl) (fun _=>rfl) (fun _=>rfl) k v
abbrev CgsymMergeCmpFunc_intv_iAltsOf_1_0:=Int×Int×Int×Int×(List Int)×(List Int)×(List Int)
abbrev B0:=Int×Int
def StgsymMergeCmpFunc_intv_iAltsOf_1_0:CgsymMergeCmpFunc_intv_iAltsOf_1_0->B0->St
 | (a,b,d,e,f,g,h),(j,k)=>⟨220,1,[(0,.c (.ref 0)),(1,cI a),(2,cI b),(3,cI d),(4,.c (.clo 481 [.at_ [vI e,.l 3 (.i .i64) f,.l 3 (.i .i64) g]])),(10,cI j),(11,cI k)],[(0,.arr 3 (.i .i64) h)]⟩
noncomputable def BgsymMergeCmpFunc_intv_iAltsOf_1_0 {R:Type} (k:Nat) (X0:B0->Option R) (c0:CgsymMergeCmpFunc_intv_iAltsOf_1_0) (rec:B0->Option R) (v0:B0):Option R:=if (decide (v0.1<v0.2))=true then if 0<=(i64.wrap (((u64.wrap (i64.wrap (v0.1+v0.2)))).fdiv (2^(min (1:Int).toNat u64.bits)))) then if (i64.wrap (((u64.wrap (i64.wrap (v0.1+v0.2)))).fdiv (2^(min (1:Int).toNat u64.bits))))<(c0.2.2.2.2.2.2.length:Int) then ix c0.2.2.2.2.2.2 ((i64.wrap (((u64.wrap (i64.wrap (v0.1+v0.2)))).fdiv (2^(min (1:Int).toNat u64.bits)))).toNat) fun x1=>if 0<=c0.1 then if c0.1<(c0.2.2.2.2.2.2.length:Int) then ix c0.2.2.2.2.2.2 c0.1.toNat fun x2=>(FiAltsOf_1v k x1 x2 c0.2.2.2.1 c0.2.2.2.2.1 c0.2.2.2.2.2.1).bind fun p3=>if (decide (p3<0))=true then rec ((i64.wrap ((i64.wrap (((u64.wrap (i64.wrap (v0.1+v0.2)))).fdiv (2^(min (1:Int).toNat u64.bits))))+1)),v0.2) else rec (v0.1,(i64.wrap (((u64.wrap (i64.wrap (v0.1+v0.2)))).fdiv (2^(min (1:Int).toNat u64.bits))))) else none else none else none else none else X0 v0
noncomputable def LgsymMergeCmpFunc_intv_iAltsOf_1_0 {R:Type} (k:Nat) (X0:B0->Option R) (c:CgsymMergeCmpFunc_intv_iAltsOf_1_0):Nat->B0->Option R
 | 0,_=>none
 | n+1,v=>BgsymMergeCmpFunc_intv_iAltsOf_1_0 k X0 c (LgsymMergeCmpFunc_intv_iAltsOf_1_0 k X0 c n) v
noncomputable def fgsymMergeCmpFunc_intv_iAltsOf_1_0 {R:Type} (k:Nat) (K:Ex->St->Option R) (c:CgsymMergeCmpFunc_intv_iAltsOf_1_0):=lpf E k 496 Tryz.f496 0 [1,0,1,2,3,4,10,11] (StgsymMergeCmpFunc_intv_iAltsOf_1_0 c) K
theorem qgsymMergeCmpFunc_intv_iAltsOf_1_0 (k:Nat) (K:Ex->St->Option R) (X0 c) (h:QL (fgsymMergeCmpFunc_intv_iAltsOf_1_0 k K c) (BgsymMergeCmpFunc_intv_iAltsOf_1_0 k X0 c)) (v):LgsymMergeCmpFunc_intv_iAltsOf_1_0 k X0 c k v=fgsymMergeCmpFunc_intv_iAltsOf_1_0 k K c k v:=lq h (fun _ _=>rfl) (fun _=>rfl) (fun _=>rfl) k v
noncomputable def NgsymMergeCmpFunc_intv_iAltsOf_1:Ex->St->Option (List Int):=C1 E (rs 496) Tryz.f496
theorem egsymMergeCmpFunc_intv_iAltsOf_1 (k:Nat) (a0 a1 a2 a3 a4 a5 a6):u0 (k+1) a0 a1 a2 a3 a4 a5 a6=if ((i64.wrap (a2-a1))==1)=true then LgsymMergeCmpFunc_intv_iAltsOf_1_0 k (fun v0=>LgsymMergeCmpFunc_intv_iAltsOf_1_1 k (fun v1=>some v1.2) (a1,a2,a3,a4,a5,a6,v0.1,v0.2) k (a1,a0)) (a1,a2,a3,a4,a5,a6,a0) k (a2,a3) else if ((i64.wrap (a3-a2))==1)=true then LgsymMergeCmpFunc_intv_iAltsOf_1_2 k (fun v2=>LgsymMergeCmpFunc_intv_iAltsOf_1_3 k (fun v3=>some v3.2) (a1,a2,a3,a4,a5,a6,v2.1,v2.2) k (a2,a0)) (a1,a2,a3,a4,a5,a6,a0) k (a1,a2) else if (decide (a2>(i64.wrap (((u64.wrap (i64.wrap (a1+a3)))).fdiv (2^(min (1:Int).toNat u64.bits))))))=true then K0 k (fun v4=>if ((decide (v4.1<a2))==true)=true then if (decide (a2<(i64.wrap ((i64.wrap ((i64.wrap (((u64.wrap (i64.wrap (a1+a3)))).fdiv (2^(min (1:Int).toNat u64.bits))))+a2))-v4.1))))=true then (FgrotateCmpFunc_intv_iAltsOf_1 k a0 v4.1 a2 (i64.wrap ((i64.wrap ((i64.wrap (((u64.wrap (i64.wrap (a1+a3)))).fdiv (2^(min (1:Int).toNat u64.bits))))+a2))-v4.1)) a4 a5 a6).bind fun p18=>if ((decide (a1<v4.1))==true)=true then if (decide (v4.1<(i64.wrap (((u64.wrap (i64.wrap (a1+a3)))).fdiv (2^(min (1:Int).toNat u64.bits))))))=true then (u0 k p18 a1 v4.1 (i64.wrap (((u64.wrap (i64.wrap (a1+a3)))).fdiv (2^(min (1:Int).toNat u64.bits)))) a4 a5 a6).bind fun p19=>if ((decide ((i64.wrap (((u64.wrap (i64.wrap (a1+a3)))).fdiv (2^(min (1:Int).toNat u64.bits))))<(i64.wrap ((i64.wrap ((i64.wrap (((u64.wrap (i64.wrap (a1+a3)))).fdiv (2^(min (1:Int).toNat u64.bits))))+a2))-v4.1))))==true)=true then if (decide ((i64.wrap ((i64.wrap ((i64.wrap (((u64.wrap (i64.wrap (a1+a3)))).fdiv (2^(min (1:Int).toNat u64.bits))))+a2))-v4.1))<a3))=true then (u0 k p19 (i64.wrap (((u64.wrap (i64.wrap (a1+a3)))).fdiv (2^(min (1:Int).toNat u64.bits)))) (i64.wrap ((i64.wrap ((i64.wrap (((u64.wrap (i64.wrap (a1+a3)))).fdiv (2^(min (1:Int).toNat u64.bits))))+a2))-v4.1)) a3 a4 a5 a6).bind fun p20=>some p20 else some p19 else some p19 else if ((decide ((i64.wrap (((u64.wrap (i64.wrap (a1+a3)))).fdiv (2^(min (1:Int).toNat u64.bits))))<(i64.wrap ((i64.wrap ((i64.wrap (((u64.wrap (i64.wrap (a1+a3)))).fdiv (2^(min (1:Int).toNat u64.bits))))+a2))-v4.1))))==true)=true then if (decide ((i64.wrap ((i64.wrap ((i64.wrap (((u64.wrap (i64.wrap (a1+a3)))).fdiv (2^(min (1:Int).toNat u64.bits))))+a2))-v4.1))<a3))=true then (u0 k p18 (i64.wrap (((u64.wrap (i64.wrap (a1+a3)))).fdiv (2^(min (1:Int).toNat u64.bits)))) (i64.wrap ((i64.wrap ((i64.wrap (((u64.wrap (i64.wrap (a1+a3)))).fdiv (2^(min (1:Int).toNat u64.bits))))+a2))-v4.1)) a3 a4 a5 a6).bind fun p21=>some p21 else some p18 else some p18 else if ((decide ((i64.wrap (((u64.wrap (i64.wrap (a1+a3)))).fdiv (2^(min (1:Int).toNat u64.bits))))<(i64.wrap ((i64.wrap ((i64.wrap (((u64.wrap (i64.wrap (a1+a3)))).fdiv (2^(min (1:Int).toNat u64.bits))))+a2))-v4.1))))==true)=true then if (decide ((i64.wrap ((i64.wrap ((i64.wrap (((u64.wrap (i64.wrap (a1+a3)))).fdiv (2^(min (1:Int).toNat u64.bits))))+a2))-v4.1))<a3))=true then (u0 k p18 (i64.wrap (((u64.wrap (i64.wrap (a1+a3)))).fdiv (2^(min (1:Int).toNat u64.bits)))) (i64.wrap ((i64.wrap ((i64.wrap (((u64.wrap (i64.wrap (a1+a3)))).fdiv (2^(min (1:Int).toNat u64.bits))))+a2))-v4.1)) a3 a4 a5 a6).bind fun p22=>some p22 else some p18 else some p18 else if ((decide (a1<v4.1))==true)=true then if (decide (v4.1<(i64.wrap (((u64.wrap (i64.wrap (a1+a3)))).fdiv (2^(min (1:Int).toNat u64.bits))))))=true then (u0 k a0 a1 v4.1 (i64.wrap (((u64.wrap (i64.wrap (a1+a3)))).fdiv (2^(min (1:Int).toNat u64.bits)))) a4 a5 a6).bind fun p23=>if ((decide ((i64.wrap (((u64.wrap (i64.wrap (a1+a3)))).fdiv (2^(min (1:Int).toNat u64.bits))))<(i64.wrap ((i64.wrap ((i64.wrap (((u64.wrap (i64.wrap (a1+a3)))).fdiv (2^(min (1:Int).toNat u64.bits))))+a2))-v4.1))))==true)=true then if (decide ((i64.wrap ((i64.wrap ((i64.wrap (((u64.wrap (i64.wrap (a1+a3)))).fdiv (2^(min (1:Int).toNat u64.bits))))+a2))-v4.1))<a3))=true then (u0 k p23 (i64.wrap (((u64.wrap (i64.wrap (a1+a3)))).fdiv (2^(min (1:Int).toNat u64.bits)))) (i64.wrap ((i64.wrap ((i64.wrap (((u64.wrap (i64.wrap (a1+a3)))).fdiv (2^(min (1:Int).toNat u64.bits))))+a2))-v4.1)) a3 a4 a5 a6).bind fun p24=>some p24 else some p23 else some p23 else if ((decide ((i64.wrap (((u64.wrap (i64.wrap (a1+a3)))).fdiv (2^(min (1:Int).toNat u64.bits))))<(i64.wrap ((i64.wrap ((i64.wrap (((u64.wrap (i64.wrap (a1+a3)))).fdiv (2^(min (1:Int).toNat u64.bits))))+a2))-v4.1))))==true)=true then if (decide ((i64.wrap ((i64.wrap ((i64.wrap (((u64.wrap (i64.wrap (a1+a3)))).fdiv (2^(min (1:Int).toNat u64.bits))))+a2))-v4.1))<a3))=true then (u0 k a0 (i64.wrap (((u64.wrap (i64.wrap (a1+a3)))).fdiv (2^(min (1:Int).toNat u64.bits)))) (i64.wrap ((i64.wrap ((i64.wrap (((u64.wrap (i64.wrap (a1+a3)))).fdiv (2^(min (1:Int).toNat u64.bits))))+a2))-v4.1)) a3 a4 a5 a6).bind fun p25=>some p25 else some a0 else some a0 else if ((decide ((i64.wrap (((u64.wrap (i64.wrap (a1+a3)))).fdiv (2^(min (1:Int).toNat u64.bits))))<(i64.wrap ((i64.wrap ((i64.wrap (((u64.wrap (i64.wrap (a1+a3)))).fdiv (2^(min (1:Int).toNat u64.bits))))+a2))-v4.1))))==true)=true then if (decide ((i64.wrap ((i64.wrap ((i64.wrap (((u64.wrap (i64.wrap (a1+a3)))).fdiv (2^(min (1:Int).toNat u64.bits))))+a2))-v4.1))<a3))=true then (u0 k a0 (i64.wrap (((u64.wrap (i64.wrap (a1+a3)))).fdiv (2^(min (1:Int).toNat u64.bits)))) (i64.wrap ((i64.wrap ((i64.wrap (((u64.wrap (i64.wrap (a1+a3)))).fdiv (2^(min (1:Int).toNat u64.bits))))+a2))-v4.1)) a3 a4 a5 a6).bind fun p26=>some p26 else some a0 else some a0 else if ((decide (a1<v4.1))==true)=true then if (decide (v4.1<(i64.wrap (((u64.wrap (i64.wrap (a1+a3)))).fdiv (2^(min (1:Int).toNat u64.bits))))))=true then (u0 k a0 a1 v4.1 (i64.wrap (((u64.wrap (i64.wrap (a1+a3)))).fdiv (2^(min (1:Int).toNat u64.bits)))) a4 a5 a6).bind fun p27=>if ((decide ((i64.wrap (((u64.wrap (i64.wrap (a1+a3)))).fdiv (2^(min (1:Int).toNat u64.bits))))<(i64.wrap ((i64.wrap ((i64.wrap (((u64.wrap (i64.wrap (a1+a3)))).fdiv (2^(min (1:Int).toNat u64.bits))))+a2))-v4.1))))==true)=true then if (decide ((i64.wrap ((i64.wrap ((i64.wrap (((u64.wrap (i64.wrap (a1+a3)))).fdiv (2^(min (1:Int).toNat u64.bits))))+a2))-v4.1))<a3))=true then (u0 k p27 (i64.wrap (((u64.wrap (i64.wrap (a1+a3)))).fdiv (2^(min (1:Int).toNat u64.bits)))) (i64.wrap ((i64.wrap ((i64.wrap (((u64.wrap (i64.wrap (a1+a3)))).fdiv (2^(min (1:Int).toNat u64.bits))))+a2))-v4.1)) a3 a4 a5 a6).bind fun p28=>some p28 else some p27 else some p27 else if ((decide ((i64.wrap (((u64.wrap (i64.wrap (a1+a3)))).fdiv (2^(min (1:Int).toNat u64.bits))))<(i64.wrap ((i64.wrap ((i64.wrap (((u64.wrap (i64.wrap (a1+a3)))).fdiv (2^(min (1:Int).toNat u64.bits))))+a2))-v4.1))))==true)=true then if (decide ((i64.wrap ((i64.wrap ((i64.wrap (((u64.wrap (i64.wrap (a1+a3)))).fdiv (2^(min (1:Int).toNat u64.bits))))+a2))-v4.1))<a3))=true then (u0 k a0 (i64.wrap (((u64.wrap (i64.wrap (a1+a3)))).fdiv (2^(min (1:Int).toNat u64.bits)))) (i64.wrap ((i64.wrap ((i64.wrap (((u64.wrap (i64.wrap (a1+a3)))).fdiv (2^(min (1:Int).toNat u64.bits))))+a2))-v4.1)) a3 a4 a5 a6).bind fun p29=>some p29 else some a0 else some a0 else if ((decide ((i64.wrap (((u64.wrap (i64.wrap (a1+a3)))).fdiv (2^(min (1:Int).toNat u64.bits))))<(i64.wrap ((i64.wrap ((i64.wrap (((u64.wrap (i64.wrap (a1+a3)))).fdiv (2^(min (1:Int).toNat u64.bits))))+a2))-v4.1))))==true)=true then if (decide ((i64.wrap ((i64.wrap ((i64.wrap (((u64.wrap (i64.wrap (a1+a3)))).fdiv (2^(min (1:Int).toNat u64.bits))))+a2))-v4.1))<a3))=true then (u0 k a0 (i64.wrap (((u64.wrap (i64.wrap (a1+a3)))).fdiv (2^(min (1:Int).toNat u64.bits)))) (i64.wrap ((i64.wrap ((i64.wrap (((u64.wrap (i64.wrap (a1+a3)))).fdiv (2^(min (1:Int).toNat u64.bits))))+a2))-v4.1)) a3 a4 a5 a6).bind fun p30=>some p30 else some a0 else some a0) (a1,a2,a3,a4,a5,a6,(i64.wrap (((u64.wrap (i64.wrap (a1+a3)))).fdiv (2^(min (1:Int).toNat u64.bits)))),(i64.wrap ((i64.wrap (((u64.wrap (i64.wrap (a1+a3)))).fdiv (2^(min (1:Int).toNat u64.bits))))+a2)),(i64.wrap ((i64.wrap ((i64.wrap (((u64.wrap (i64.wrap (a1+a3)))).fdiv (2^(min (1:Int).toNat u64.bits))))+a2))-1)),a0) k ((i64.wrap ((i64.wrap ((i64.wrap (((u64.wrap (i64.wrap (a1+a3)))).fdiv (2^(min (1:Int).toNat u64.bits))))+a2))-a3)),(i64.wrap (((u64.wrap (i64.wrap (a1+a3)))).fdiv (2^(min (1:Int).toNat u64.bits))))) else K0 k (fun v4=>if ((decide (v4.1<a2))==true)=true then if (decide (a2<(i64.wrap ((i64.wrap ((i64.wrap (((u64.wrap (i64.wrap (a1+a3)))).fdiv (2^(min (1:Int).toNat u64.bits))))+a2))-v4.1))))=true then (FgrotateCmpFunc_intv_iAltsOf_1 k a0 v4.1 a2 (i64.wrap ((i64.wrap ((i64.wrap (((u64.wrap (i64.wrap (a1+a3)))).fdiv (2^(min (1:Int).toNat u64.bits))))+a2))-v4.1)) a4 a5 a6).bind fun p31=>if ((decide (a1<v4.1))==true)=true then if (decide (v4.1<(i64.wrap (((u64.wrap (i64.wrap (a1+a3)))).fdiv (2^(min (1:Int).toNat u64.bits))))))=true then (u0 k p31 a1 v4.1 (i64.wrap (((u64.wrap (i64.wrap (a1+a3)))).fdiv (2^(min (1:Int).toNat u64.bits)))) a4 a5 a6).bind fun p32=>if ((decide ((i64.wrap (((u64.wrap (i64.wrap (a1+a3)))).fdiv (2^(min (1:Int).toNat u64.bits))))<(i64.wrap ((i64.wrap ((i64.wrap (((u64.wrap (i64.wrap (a1+a3)))).fdiv (2^(min (1:Int).toNat u64.bits))))+a2))-v4.1))))==true)=true then if (decide ((i64.wrap ((i64.wrap ((i64.wrap (((u64.wrap (i64.wrap (a1+a3)))).fdiv (2^(min (1:Int).toNat u64.bits))))+a2))-v4.1))<a3))=true then (u0 k p32 (i64.wrap (((u64.wrap (i64.wrap (a1+a3)))).fdiv (2^(min (1:Int).toNat u64.bits)))) (i64.wrap ((i64.wrap ((i64.wrap (((u64.wrap (i64.wrap (a1+a3)))).fdiv (2^(min (1:Int).toNat u64.bits))))+a2))-v4.1)) a3 a4 a5 a6).bind fun p33=>some p33 else some p32 else some p32 else if ((decide ((i64.wrap (((u64.wrap (i64.wrap (a1+a3)))).fdiv (2^(min (1:Int).toNat u64.bits))))<(i64.wrap ((i64.wrap ((i64.wrap (((u64.wrap (i64.wrap (a1+a3)))).fdiv (2^(min (1:Int).toNat u64.bits))))+a2))-v4.1))))==true)=true then if (decide ((i64.wrap ((i64.wrap ((i64.wrap (((u64.wrap (i64.wrap (a1+a3)))).fdiv (2^(min (1:Int).toNat u64.bits))))+a2))-v4.1))<a3))=true then (u0 k p31 (i64.wrap (((u64.wrap (i64.wrap (a1+a3)))).fdiv (2^(min (1:Int).toNat u64.bits)))) (i64.wrap ((i64.wrap ((i64.wrap (((u64.wrap (i64.wrap (a1+a3)))).fdiv (2^(min (1:Int).toNat u64.bits))))+a2))-v4.1)) a3 a4 a5 a6).bind fun p34=>some p34 else some p31 else some p31 else if ((decide ((i64.wrap (((u64.wrap (i64.wrap (a1+a3)))).fdiv (2^(min (1:Int).toNat u64.bits))))<(i64.wrap ((i64.wrap ((i64.wrap (((u64.wrap (i64.wrap (a1+a3)))).fdiv (2^(min (1:Int).toNat u64.bits))))+a2))-v4.1))))==true)=true then if (decide ((i64.wrap ((i64.wrap ((i64.wrap (((u64.wrap (i64.wrap (a1+a3)))).fdiv (2^(min (1:Int).toNat u64.bits))))+a2))-v4.1))<a3))=true then (u0 k p31 (i64.wrap (((u64.wrap (i64.wrap (a1+a3)))).fdiv (2^(min (1:Int).toNat u64.bits)))) (i64.wrap ((i64.wrap ((i64.wrap (((u64.wrap (i64.wrap (a1+a3)))).fdiv (2^(min (1:Int).toNat u64.bits))))+a2))-v4.1)) a3 a4 a5 a6).bind fun p35=>some p35 else some p31 else some p31 else if ((decide (a1<v4.1))==true)=true then if (decide (v4.1<(i64.wrap (((u64.wrap (i64.wrap (a1+a3)))).fdiv (2^(min (1:Int).toNat u64.bits))))))=true then (u0 k a0 a1 v4.1 (i64.wrap (((u64.wrap (i64.wrap (a1+a3)))).fdiv (2^(min (1:Int).toNat u64.bits)))) a4 a5 a6).bind fun p36=>if ((decide ((i64.wrap (((u64.wrap (i64.wrap (a1+a3)))).fdiv (2^(min (1:Int).toNat u64.bits))))<(i64.wrap ((i64.wrap ((i64.wrap (((u64.wrap (i64.wrap (a1+a3)))).fdiv (2^(min (1:Int).toNat u64.bits))))+a2))-v4.1))))==true)=true then if (decide ((i64.wrap ((i64.wrap ((i64.wrap (((u64.wrap (i64.wrap (a1+a3)))).fdiv (2^(min (1:Int).toNat u64.bits))))+a2))-v4.1))<a3))=true then (u0 k p36 (i64.wrap (((u64.wrap (i64.wrap (a1+a3)))).fdiv (2^(min (1:Int).toNat u64.bits)))) (i64.wrap ((i64.wrap ((i64.wrap (((u64.wrap (i64.wrap (a1+a3)))).fdiv (2^(min (1:Int).toNat u64.bits))))+a2))-v4.1)) a3 a4 a5 a6).bind fun p37=>some p37 else some p36 else some p36 else if ((decide ((i64.wrap (((u64.wrap (i64.wrap (a1+a3)))).fdiv (2^(min (1:Int).toNat u64.bits))))<(i64.wrap ((i64.wrap ((i64.wrap (((u64.wrap (i64.wrap (a1+a3)))).fdiv (2^(min (1:Int).toNat u64.bits))))+a2))-v4.1))))==true)=true then if (decide ((i64.wrap ((i64.wrap ((i64.wrap (((u64.wrap (i64.wrap (a1+a3)))).fdiv (2^(min (1:Int).toNat u64.bits))))+a2))-v4.1))<a3))=true then (u0 k a0 (i64.wrap (((u64.wrap (i64.wrap (a1+a3)))).fdiv (2^(min (1:Int).toNat u64.bits)))) (i64.wrap ((i64.wrap ((i64.wrap (((u64.wrap (i64.wrap (a1+a3)))).fdiv (2^(min (1:Int).toNat u64.bits))))+a2))-v4.1)) a3 a4 a5 a6).bind fun p38=>some p38 else some a0 else some a0 else if ((decide ((i64.wrap (((u64.wrap (i64.wrap (a1+a3)))).fdiv (2^(min (1:Int).toNat u64.bits))))<(i64.wrap ((i64.wrap ((i64.wrap (((u64.wrap (i64.wrap (a1+a3)))).fdiv (2^(min (1:Int).toNat u64.bits))))+a2))-v4.1))))==true)=true then if (decide ((i64.wrap ((i64.wrap ((i64.wrap (((u64.wrap (i64.wrap (a1+a3)))).fdiv (2^(min (1:Int).toNat u64.bits))))+a2))-v4.1))<a3))=true then (u0 k a0 (i64.wrap (((u64.wrap (i64.wrap (a1+a3)))).fdiv (2^(min (1:Int).toNat u64.bits)))) (i64.wrap ((i64.wrap ((i64.wrap (((u64.wrap (i64.wrap (a1+a3)))).fdiv (2^(min (1:Int).toNat u64.bits))))+a2))-v4.1)) a3 a4 a5 a6).bind fun p39=>some p39 else some a0 else some a0 else if ((decide (a1<v4.1))==true)=true then if (decide (v4.1<(i64.wrap (((u64.wrap (i64.wrap (a1+a3)))).fdiv (2^(min (1:Int).toNat u64.bits))))))=true then (u0 k a0 a1 v4.1 (i64.wrap (((u64.wrap (i64.wrap (a1+a3)))).fdiv (2^(min (1:Int).toNat u64.bits)))) a4 a5 a6).bind fun p40=>if ((decide ((i64.wrap (((u64.wrap (i64.wrap (a1+a3)))).fdiv (2^(min (1:Int).toNat u64.bits))))<(i64.wrap ((i64.wrap ((i64.wrap (((u64.wrap (i64.wrap (a1+a3)))).fdiv (2^(min (1:Int).toNat u64.bits))))+a2))-v4.1))))==true)=true then if (decide ((i64.wrap ((i64.wrap ((i64.wrap (((u64.wrap (i64.wrap (a1+a3)))).fdiv (2^(min (1:Int).toNat u64.bits))))+a2))-v4.1))<a3))=true then (u0 k p40 (i64.wrap (((u64.wrap (i64.wrap (a1+a3)))).fdiv (2^(min (1:Int).toNat u64.bits)))) (i64.wrap ((i64.wrap ((i64.wrap (((u64.wrap (i64.wrap (a1+a3)))).fdiv (2^(min (1:Int).toNat u64.bits))))+a2))-v4.1)) a3 a4 a5 a6).bind fun p41=>some p41 else some p40 else some p40 else if ((decide ((i64.wrap (((u64.wrap (i64.wrap (a1+a3)))).fdiv (2^(min (1:Int).toNat u64.bits))))<(i64.wrap ((i64.wrap ((i64.wrap (((u64.wrap (i64.wrap (a1+a3)))).fdiv (2^(min (1:Int).toNat u64.bits))))+a2))-v4.1))))==true)=true then if (decide ((i64.wrap ((i64.wrap ((i64.wrap (((u64.wrap (i64.wrap (a1+a3)))).fdiv (2^(min (1:Int).toNat u64.bits))))+a2))-v4.1))<a3))=true then (u0 k a0 (i64.wrap (((u64.wrap (i64.wrap (a1+a3)))).fdiv (2^(min (1:Int).toNat u64.bits)))) (i64.wrap ((i64.wrap ((i64.wrap (((u64.wrap (i64.wrap (a1+a3)))).fdiv (2^(min (1:Int).toNat u64.bits))))+a2))-v4.1)) a3 a4 a5 a6).bind fun p42=>some p42 else some a0 else some a0 else if ((decide ((i64.wrap (((u64.wrap (i64.wrap (a1+a3)))).fdiv (2^(min (1:Int).toNat u64.bits))))<(i64.wrap ((i64.wrap ((i64.wrap (((u64.wrap (i64.wrap (a1+a3)))).fdiv (2^(min (1:Int).toNat u64.bits))))+a2))-v4.1))))==true)=true then if (decide ((i64.wrap ((i64.wrap ((i64.wrap (((u64.wrap (i64.wrap (a1+a3)))).fdiv (2^(min (1:Int).toNat u64.bits))))+a2))-v4.1))<a3))=true then (u0 k a0 (i64.wrap (((u64.wrap (i64.wrap (a1+a3)))).fdiv (2^(min (1:Int).toNat u64.bits)))) (i64.wrap ((i64.wrap ((i64.wrap (((u64.wrap (i64.wrap (a1+a3)))).fdiv (2^(min (1:Int).toNat u64.bits))))+a2))-v4.1)) a3 a4 a5 a6).bind fun p43=>some p43 else some a0 else some a0) (a1,a2,a3,a4,a5,a6,(i64.wrap (((u64.wrap (i64.wrap (a1+a3)))).fdiv (2^(min (1:Int).toNat u64.bits)))),(i64.wrap ((i64.wrap (((u64.wrap (i64.wrap (a1+a3)))).fdiv (2^(min (1:Int).toNat u64.bits))))+a2)),(i64.wrap ((i64.wrap ((i64.wrap (((u64.wrap (i64.wrap (a1+a3)))).fdiv (2^(min (1:Int).toNat u64.bits))))+a2))-1)),a0) k (a1,a2):=by
 simp (maxSteps:=9999999) (disch:=(refine QL.mk fun n0 v=> ?_;first | (unfold BgsymMergeCmpFunc_intv_iAltsOf_1_0;simp (maxSteps:=9999999) (disch:=(refine QL.mk fun n1 v=> ?_;kernel_rfl)) only [↓qgsymMergeCmpFunc_intv_iAltsOf_1_1 (R:=List Int) k (kon0 E k 496 Tryz.f496 1 NgsymMergeCmpFunc_intv_iAltsOf_1)];kernel_rfl) | (unfold BgsymMergeCmpFunc_intv_iAltsOf_1_2;simp (maxSteps:=9999999) (disch:=(refine QL.mk fun n1 v=> ?_;kernel_rfl)) only [↓qgsymMergeCmpFunc_intv_iAltsOf_1_3 (R:=List Int) k (kon0 E k 496 Tryz.f496 3 NgsymMergeCmpFunc_intv_iAltsOf_1)];kernel_rfl) | kernel_rfl)) only [↓qgsymMergeCmpFunc_intv_iAltsOf_1_0 (R:=List Int) k (kon0 E k 496 Tryz.f496 0 NgsymMergeCmpFunc_intv_iAltsOf_1),↓qgsymMergeCmpFunc_intv_iAltsOf_1_2 (R:=List Int) k (kon0 E k 496 Tryz.f496 2 NgsymMergeCmpFunc_intv_iAltsOf_1),↓qgsymMergeCmpFunc_intv_iAltsOf_1_4 (R:=List Int) k (kon0 E k 496 Tryz.f496 4 NgsymMergeCmpFunc_intv_iAltsOf_1)]
 kernel_rfl
noncomputable def FgstableCmpFunc_intv_iAltsOf_1 (k:Nat) (a0:List Int) (a1:Int) (a2:Int) (a3:List Int) (a4:List Int):Option (List Int):=den E k 490 [.c (.l 3 (.i .i64) a0),cI a1,.c (.clo 481 [.at_ [vI a2,.l 3 (.i .i64) a3,.l 3 (.i .i64) a4]])]
abbrev CgstableCmpFunc_intv_iAltsOf_1_2:=Int×Int×(List Int)×(List Int)×Int
abbrev K1:=Int×Int×(List Int)
def StgstableCmpFunc_intv_iAltsOf_1_2:CgstableCmpFunc_intv_iAltsOf_1_2->K1->St
 | (a,b,d,e,f),(g,h,j)=>⟨63,1,[(0,.c (.ref 0)),(1,cI a),(2,.c (.clo 481 [.at_ [vI b,.l 3 (.i .i64) d,.l 3 (.i .i64) e]])),(6,cI f),(7,cI g),(8,cI h)],[(0,.arr 3 (.i .i64) j)]⟩
noncomputable def BgstableCmpFunc_intv_iAltsOf_1_2 {R:Type} (k:Nat) (X0:K1->Option R) (c2:CgstableCmpFunc_intv_iAltsOf_1_2) (rec:K1->Option R) (v2:K1):Option R:=if (decide (v2.2.1<=c2.1))=true then (u0 k v2.2.2 v2.1 (i64.wrap (v2.1+c2.2.2.2.2)) v2.2.1 c2.2.1 c2.2.2.1 c2.2.2.2.1).bind fun p3=>rec (v2.2.1,(i64.wrap (v2.2.1+(i64.wrap (2*c2.2.2.2.2)))),p3) else X0 v2
noncomputable def LgstableCmpFunc_intv_iAltsOf_1_2 {R:Type} (k:Nat) (X0:K1->Option R) (c:CgstableCmpFunc_intv_iAltsOf_1_2):Nat->K1->Option R
 | 0,_=>none
 | n+1,v=>BgstableCmpFunc_intv_iAltsOf_1_2 k X0 c (LgstableCmpFunc_intv_iAltsOf_1_2 k X0 c n) v
noncomputable def fgstableCmpFunc_intv_iAltsOf_1_2 {R:Type} (k:Nat) (K:Ex->St->Option R) (c:CgstableCmpFunc_intv_iAltsOf_1_2):=lpf E k 490 Tryz.f490 2 [1,0,1,2,6,7,8] (StgstableCmpFunc_intv_iAltsOf_1_2 c) K
theorem qgstableCmpFunc_intv_iAltsOf_1_2 (k:Nat) (K:Ex->St->Option R) (X0 c) (h:QL (fgstableCmpFunc_intv_iAltsOf_1_2 k K c) (BgstableCmpFunc_intv_iAltsOf_1_2 k X0 c)) (v):LgstableCmpFunc_intv_iAltsOf_1_2 k X0 c k v=fgstableCmpFunc_intv_iAltsOf_1_2 k K c k v:=lq h (fun _ _=>rfl) (fun _=>rfl) (fun _=>rfl) k v
abbrev CgstableCmpFunc_intv_iAltsOf_1_1:=Int×Int×(List Int)×(List Int)
abbrev Y2:=Int×Int×Int×(List Int)
def StgstableCmpFunc_intv_iAltsOf_1_1 (c1:CgstableCmpFunc_intv_iAltsOf_1_1) (v1:Y2):St:=⟨63,1,[(0,.c (.ref 0)),(1,cI c1.1),(2,.c (.clo 481 [.at_ (avs sTable c1.2)])),(6,cI v1.1),(7,cI v1.2.1),(8,cI v1.2.2.1)],[(0,.arr 3 (.i .i64) v1.2.2.2)]⟩
noncomputable def BgstableCmpFunc_intv_iAltsOf_1_1 {R:Type} (k:Nat) (X0:Y2->Option R) (c1:CgstableCmpFunc_intv_iAltsOf_1_1) (rec:Y2->Option R) (v1:Y2):Option R:=if (decide (v1.1<c1.1))=true then LgstableCmpFunc_intv_iAltsOf_1_2 k (fun v2=>if (decide ((i64.wrap (v2.1+v1.1))<c1.1))=true then (u0 k v2.2.2 v2.1 (i64.wrap (v2.1+v1.1)) c1.1 c1.2.1 c1.2.2.1 c1.2.2.2).bind fun p4=>rec ((i64.wrap (v1.1*2)),v2.1,v2.2.1,p4) else rec ((i64.wrap (v1.1*2)),v2.1,v2.2.1,v2.2.2)) (c1.1,c1.2.1,c1.2.2.1,c1.2.2.2,v1.1) k (0,(i64.wrap (2*v1.1)),v1.2.2.2) else X0 v1
noncomputable def P0 {R:Type} (k:Nat) (X0:Y2->Option R) (c:CgstableCmpFunc_intv_iAltsOf_1_1):Nat->Y2->Option R
 | 0,_=>none
 | n+1,v=>BgstableCmpFunc_intv_iAltsOf_1_1 k X0 c (P0 k X0 c n) v
noncomputable def fgstableCmpFunc_intv_iAltsOf_1_1 {R:Type} (k:Nat) (K:Ex->St->Option R) (c:CgstableCmpFunc_intv_iAltsOf_1_1):=lpf E k 490 Tryz.f490 1 [1,0,1,2,6,7,8] (StgstableCmpFunc_intv_iAltsOf_1_1 c) K
theorem qgstableCmpFunc_intv_iAltsOf_1_1 (k:Nat) (K:Ex->St->Option R) (X0 c) (h:QL (fgstableCmpFunc_intv_iAltsOf_1_1 k K c) (BgstableCmpFunc_intv_iAltsOf_1_1 k X0 c)) (v):P0 k X0 c k v=fgstableCmpFunc_intv_iAltsOf_1_1 k K c k v:=lq h (fun _ _=>rfl) (fun _=>rfl) (fun _=>rfl) k v
abbrev CgstableCmpFunc_intv_iAltsOf_1_0:=Int×Int×(List Int)×(List Int)×Int
abbrev H1:=Int×Int×(List Int)
def StgstableCmpFunc_intv_iAltsOf_1_0:CgstableCmpFunc_intv_iAltsOf_1_0->H1->St
 | (a,b,d,e,f),(g,h,j)=>⟨63,1,[(0,.c (.ref 0)),(1,cI a),(2,.c (.clo 481 [.at_ [vI b,.l 3 (.i .i64) d,.l 3 (.i .i64) e]])),(6,cI f),(7,cI g),(8,cI h)],[(0,.arr 3 (.i .i64) j)]⟩
noncomputable def BgstableCmpFunc_intv_iAltsOf_1_0 {R:Type} (k:Nat) (X0:H1->Option R) (c0:CgstableCmpFunc_intv_iAltsOf_1_0) (rec:H1->Option R) (v0:H1):Option R:=if (decide (v0.2.1<=c0.1))=true then (P1 k v0.2.2 v0.1 v0.2.1 c0.2.1 c0.2.2.1 c0.2.2.2.1).bind fun p1=>rec (v0.2.1,(i64.wrap (v0.2.1+c0.2.2.2.2)),p1) else X0 v0
noncomputable def LgstableCmpFunc_intv_iAltsOf_1_0 {R:Type} (k:Nat) (X0:H1->Option R) (c:CgstableCmpFunc_intv_iAltsOf_1_0):Nat->H1->Option R
 | 0,_=>none
 | n+1,v=>BgstableCmpFunc_intv_iAltsOf_1_0 k X0 c (LgstableCmpFunc_intv_iAltsOf_1_0 k X0 c n) v
noncomputable def fgstableCmpFunc_intv_iAltsOf_1_0 {R:Type} (k:Nat) (K:Ex->St->Option R) (c:CgstableCmpFunc_intv_iAltsOf_1_0):=lpf E k 490 Tryz.f490 0 [1,0,1,2,6,7,8] (StgstableCmpFunc_intv_iAltsOf_1_0 c) K
theorem qgstableCmpFunc_intv_iAltsOf_1_0 (k:Nat) (K:Ex->St->Option R) (X0 c) (h:QL (fgstableCmpFunc_intv_iAltsOf_1_0 k K c) (BgstableCmpFunc_intv_iAltsOf_1_0 k X0 c)) (v):LgstableCmpFunc_intv_iAltsOf_1_0 k X0 c k v=fgstableCmpFunc_intv_iAltsOf_1_0 k K c k v:=lq h (fun _ _=>rfl) (fun _=>rfl) (fun _=>rfl) k v
noncomputable def NgstableCmpFunc_intv_iAltsOf_1:Ex->St->Option (List Int):=C1 E (rs 490) Tryz.f490
theorem egstableCmpFunc_intv_iAltsOf_1 (k:Nat) (a0 a1 a2 a3 a4):FgstableCmpFunc_intv_iAltsOf_1 (k+1) a0 a1 a2 a3 a4=LgstableCmpFunc_intv_iAltsOf_1_0 k (fun v0=>(P1 k v0.2.2 v0.1 a1 a2 a3 a4).bind fun p2=>P0 k (fun v1=>some v1.2.2.2) (a1,a2,a3,a4) k (20,v0.1,v0.2.1,p2)) (a1,a2,a3,a4,20) k (0,20,a0):=by
 simp (maxSteps:=9999999) (disch:=(refine QL.mk fun n0 v=> ?_;unfold BgstableCmpFunc_intv_iAltsOf_1_0;simp (maxSteps:=9999999) (disch:=(refine QL.mk fun n1 v=> ?_;unfold BgstableCmpFunc_intv_iAltsOf_1_1;simp (maxSteps:=9999999) (disch:=(refine QL.mk fun n2 v=> ?_;kernel_rfl)) only [↓qgstableCmpFunc_intv_iAltsOf_1_2 (R:=List Int) k (kon1 E k 490 Tryz.f490 1 1 n1 [1,0,1,2,6,7,8] (kon0 E k 490 Tryz.f490 1 NgstableCmpFunc_intv_iAltsOf_1))];kernel_rfl)) only [↓qgstableCmpFunc_intv_iAltsOf_1_1 (R:=List Int) k (kon0 E k 490 Tryz.f490 1 NgstableCmpFunc_intv_iAltsOf_1)];kernel_rfl)) only [↓qgstableCmpFunc_intv_iAltsOf_1_0 (R:=List Int) k (kon0 E k 490 Tryz.f490 0 NgstableCmpFunc_intv_iAltsOf_1)]
 kernel_rfl
noncomputable def V0 (k:Nat) (a0:List Int) (a1:Int) (a2:List Int) (a3:List Int):Option (List Int):=den E k 480 [.c (.l 3 (.i .i64) a0),.c (.clo 481 [.at_ [vI a1,.l 3 (.i .i64) a2,.l 3 (.i .i64) a3]])]
theorem egSortStableFunc_intv_iAltsOf_1 (k:Nat) (a0 a1 a2 a3):V0 (k+1) a0 a1 a2 a3=(FgstableCmpFunc_intv_iAltsOf_1 k a0 (a0.length:Int) a1 a2 a3).bind fun p1=>some p1:=by kernel_rfl
noncomputable def FgCompact_int (k:Nat) (a0:List Int):Option (List Int):=den E k 470 [.c (.l 3 (.i .i64) a0)]
theorem egCompact_int (k:Nat) (a0):FgCompact_int (k+1) a0=some (compactB a0):=by kernel_rfl
noncomputable def FgSort_int (k:Nat) (a0:List Int):Option (List Int):=den E k 324 [.c (.l 3 (.i .i64) a0)]
theorem egSort_int (k:Nat) (a0):FgSort_int (k+1) a0=if a0.length<=1099511627776 then some (sortB a0) else none:=by kernel_rfl
noncomputable def FiNeighborsIn (k:Nat) (a0:List I2) (a1:Int):Option (List Int):=den E k 425 [.c (.l 288 sI2 a0),cI a1]
abbrev CiNeighborsIn_0:=Int×(List I2)×Int
abbrev ViNeighborsIn_0:=Int×(List Int)
def StiNeighborsIn_0:CiNeighborsIn_0->ViNeighborsIn_0->St
 | (a,b,d),(e,f)=>⟨38,1,[(1,cI a),(5,.c (.ref 0)),(9,.c (.l 288 sI2 b)),(10,cI d),(11,cI e)],[(0,.arr 3 (.i .i64) f)]⟩
noncomputable def BiNeighborsIn_0 {R:Type} (k:Nat) (X0:ViNeighborsIn_0->Option R) (c0:CiNeighborsIn_0) (rec:ViNeighborsIn_0->Option R) (v0:ViNeighborsIn_0):Option R:=if (decide (v0.1<c0.2.2))=true then if 0<=v0.1 then ix c0.2.1 v0.1.toNat fun x1=>if (x1.1==c0.1)=true then if (v0.2.length+([x1.2]).length)*8<=140737488355328 then if (x1.2==c0.1)=true then if ((v0.2++[x1.2]).length+([x1.1]).length)*8<=140737488355328 then rec ((i64.wrap (v0.1+1)),((v0.2++[x1.2])++[x1.1])) else none else rec ((i64.wrap (v0.1+1)),(v0.2++[x1.2])) else none else if (x1.2==c0.1)=true then if (v0.2.length+([x1.1]).length)*8<=140737488355328 then rec ((i64.wrap (v0.1+1)),(v0.2++[x1.1])) else none else rec ((i64.wrap (v0.1+1)),v0.2) else none else X0 v0
noncomputable def LiNeighborsIn_0 {R:Type} (k:Nat) (X0:ViNeighborsIn_0->Option R) (c:CiNeighborsIn_0):Nat->ViNeighborsIn_0->Option R
 | 0,_=>none
 | n+1,v=>BiNeighborsIn_0 k X0 c (LiNeighborsIn_0 k X0 c n) v
noncomputable def fiNeighborsIn_0 {R:Type} (k:Nat) (K:Ex->St->Option R) (c:CiNeighborsIn_0):=lpf E k 425 Tryz.f425 0 [0,1,5,9,10,11] (StiNeighborsIn_0 c) K
theorem qiNeighborsIn_0 (k:Nat) (K:Ex->St->Option R) (X0 c) (h:QL (fiNeighborsIn_0 k K c) (BiNeighborsIn_0 k X0 c)) (v):LiNeighborsIn_0 k X0 c k v=fiNeighborsIn_0 k K c k v:=lq h (fun _ _=>rfl) (fun _=>rfl) (fun _=>rfl) k v
noncomputable def NiNeighborsIn:Ex->St->Option (List Int):=C1 E (rs 425) Tryz.f425
theorem eiNeighborsIn (k:Nat) (a0 a1):FiNeighborsIn (k+1) a0 a1=LiNeighborsIn_0 k (fun v0=>(FgSort_int k v0.2).bind fun p2=>(FgCompact_int k p2).bind fun p3=>some p3) (a1,a0,(a0.length:Int)) k (0,[]):=by
 simp (disch:=(refine QL.mk fun n0 v=> ?_;kernel_rfl)) only [↓qiNeighborsIn_0 k (kon0 E k 425 Tryz.f425 0 NiNeighborsIn)]
 kernel_rfl
noncomputable def FiAltsOf (k:Nat) (a0:Int×(List Int)×List Int) (a1:List I2) (a2:Int) (a3:Int):Option (List Int):=den E k 463 [.agg (avs sTable a0),.c (.l 288 sI2 a1),cI a2,cI a3]
abbrev CiAltsOf_0:=Int×Int×Int×(Int×(List Int)×List Int)×(List Int)
abbrev ViAltsOf_0:=Int×(List Int)
def StiAltsOf_0:CiAltsOf_0->ViAltsOf_0->St
 | (a,b,d,e,f),(g,h)=>⟨91,3,[(2,cI a),(3,cI b),(4,cP 0),(9,.c (.ref 1)),(30,.c (.ref 2)),(31,cI d),(32,cI g)],[(0,.var (avs sTable e)),(1,.arr 3 (.i .i64) h),(2,.arr 3 (.i .i64) f)]⟩
noncomputable def BiAltsOf_0 {R:Type} (k:Nat) (X0:ViAltsOf_0->Option R) (c0:CiAltsOf_0) (rec:ViAltsOf_0->Option R) (v0:ViAltsOf_0):Option R:=if (decide (v0.1<c0.2.2.1))=true then if 0<=v0.1 then if v0.1<(c0.2.2.2.2.length:Int) then ix c0.2.2.2.2 v0.1.toNat fun x4=>if 0<=c0.2.1 then ix c0.2.2.2.1.2.2 c0.2.1.toNat fun x5=>if ((x4 !=x5)==true)=true then if ((decide (x4<c0.1))==false)=true then if ((x4==c0.2.2.2.1.1)==true)=true then (FiisIndex k x4 (c0.2.2.2.1.2.1.length:Int)).bind fun p6=>if (p6==true)=true then if 0<=x4 then ix c0.2.2.2.1.2.1 x4.toNat fun x7=>if ((decide (x7>=0))==true)=true then if 0<=x4 then ix c0.2.2.2.1.2.1 x4.toNat fun x8=>if 0<=c0.2.1 then ix c0.2.2.2.1.2.1 c0.2.1.toNat fun x9=>if (decide (x8<x9))=true then if (v0.2.length+([x4]).length)*8<=140737488355328 then rec ((i64.wrap (v0.1+1)),(v0.2++[x4])) else none else rec ((i64.wrap (v0.1+1)),v0.2) else none else none else rec ((i64.wrap (v0.1+1)),v0.2) else none else rec ((i64.wrap (v0.1+1)),v0.2) else rec ((i64.wrap (v0.1+1)),v0.2) else (FiisIndex k x4 (c0.2.2.2.1.2.1.length:Int)).bind fun p10=>if (p10==true)=true then if 0<=x4 then ix c0.2.2.2.1.2.1 x4.toNat fun x11=>if ((decide (x11>=0))==true)=true then if 0<=x4 then ix c0.2.2.2.1.2.1 x4.toNat fun x12=>if 0<=c0.2.1 then ix c0.2.2.2.1.2.1 c0.2.1.toNat fun x13=>if (decide (x12<x13))=true then if (v0.2.length+([x4]).length)*8<=140737488355328 then rec ((i64.wrap (v0.1+1)),(v0.2++[x4])) else none else rec ((i64.wrap (v0.1+1)),v0.2) else none else none else rec ((i64.wrap (v0.1+1)),v0.2) else none else rec ((i64.wrap (v0.1+1)),v0.2) else rec ((i64.wrap (v0.1+1)),v0.2) else none else none else none else X0 v0
noncomputable def LiAltsOf_0 {R:Type} (k:Nat) (X0:ViAltsOf_0->Option R) (c:CiAltsOf_0):Nat->ViAltsOf_0->Option R
 | 0,_=>none
 | n+1,v=>BiAltsOf_0 k X0 c (LiAltsOf_0 k X0 c n) v
noncomputable def fiAltsOf_0 {R:Type} (k:Nat) (K:Ex->St->Option R) (c:CiAltsOf_0):=lpf E k 463 Tryz.f463 0 [0,2,3,4,9,30,31,32] (StiAltsOf_0 c) K
theorem qiAltsOf_0 (k:Nat) (K:Ex->St->Option R) (X0 c) (h:QL (fiAltsOf_0 k K c) (BiAltsOf_0 k X0 c)) (v):LiAltsOf_0 k X0 c k v=fiAltsOf_0 k K c k v:=lq h (fun _ _=>rfl) (fun _=>rfl) (fun _=>rfl) k v
noncomputable def NiAltsOf:Ex->St->Option (List Int):=C1 E (rs 463) Tryz.f463
theorem eiAltsOf (k:Nat) (a0 a1 a2 a3):FiAltsOf (k+1) a0 a1 a2 a3=(FiisIndex k a3 (a0.2.1.length:Int)).bind fun p1=>if ((!p1)==false)=true then (FiisIndex k a3 (a0.2.2.length:Int)).bind fun p2=>if (!p2)=true then some ([]) else (FiNeighborsIn k a1 a3).bind fun p3=>LiAltsOf_0 k (fun v0=>(V0 k v0.2 a0.1 a0.2.1 a0.2.2).bind fun p14=>some p14) (a2,a3,(p3.length:Int),a0,p3) k (0,[]) else some ([]):=by
 simp (disch:=(refine QL.mk fun n0 v=> ?_;kernel_rfl)) only [↓qiAltsOf_0 k (kon0 E k 463 Tryz.f463 0 NiAltsOf)]
 kernel_rfl
noncomputable def FiPiecesIn (k:Nat) (a0:W0) (a1:Int) (a2:Int):Option (List Int):=den E k 479 [.agg (avs m0 a0),cI a1,cI a2]
abbrev CiPiecesIn_0:=Int×Int×(List TPiece)×Int
abbrev ViPiecesIn_0:=Int×(List Int)
def StiPiecesIn_0:CiPiecesIn_0->ViPiecesIn_0->St
 | (a,b,d,e),(f,g)=>⟨47,1,[(1,cI a),(2,cI b),(7,.c (.ref 0)),(12,.c (.l 198 sPiece d)),(13,cI e),(14,cI f)],[(0,.arr 3 (.i .i64) g)]⟩
noncomputable def BiPiecesIn_0 {R:Type} (k:Nat) (X0:ViPiecesIn_0->Option R) (c0:CiPiecesIn_0) (rec:ViPiecesIn_0->Option R) (v0:ViPiecesIn_0):Option R:=if (decide (v0.1<c0.2.2.2))=true then if 0<=v0.1 then ix c0.2.2.1 v0.1.toNat fun x1=>(FiIsSpan k x1.1).bind fun p2=>if (p2==true)=true then if ((decide (c0.1<=c0.2.1))==true)=true then if ((decide (x1.1.1<=c0.2.1))==true)=true then if (decide (x1.1.2>c0.1))=true then if (v0.2.length+([v0.1]).length)*8<=140737488355328 then rec ((i64.wrap (v0.1+1)),(v0.2++[v0.1])) else none else rec ((i64.wrap (v0.1+1)),v0.2) else rec ((i64.wrap (v0.1+1)),v0.2) else rec ((i64.wrap (v0.1+1)),v0.2) else rec ((i64.wrap (v0.1+1)),v0.2) else none else X0 v0
noncomputable def LiPiecesIn_0 {R:Type} (k:Nat) (X0:ViPiecesIn_0->Option R) (c:CiPiecesIn_0):Nat->ViPiecesIn_0->Option R
 | 0,_=>none
 | n+1,v=>BiPiecesIn_0 k X0 c (LiPiecesIn_0 k X0 c n) v
noncomputable def fiPiecesIn_0 {R:Type} (k:Nat) (K:Ex->St->Option R) (c:CiPiecesIn_0):=lpf E k 479 Tryz.f479 0 [0,1,2,7,12,13,14] (StiPiecesIn_0 c) K
theorem qiPiecesIn_0 (k:Nat) (K:Ex->St->Option R) (X0 c) (h:QL (fiPiecesIn_0 k K c) (BiPiecesIn_0 k X0 c)) (v):LiPiecesIn_0 k X0 c k v=fiPiecesIn_0 k K c k v:=lq h (fun _ _=>rfl) (fun _=>rfl) (fun _=>rfl) k v
noncomputable def NiPiecesIn:Ex->St->Option (List Int):=C1 E (rs 479) Tryz.f479
theorem eiPiecesIn (k:Nat) (a0 a1 a2):FiPiecesIn (k+1) a0 a1 a2=LiPiecesIn_0 k (fun v0=>some v0.2) (a1,a2,a0.2.2.2,(a0.2.2.2.length:Int)) k (0,[]):=by
 simp (disch:=(refine QL.mk fun n0 v=> ?_;kernel_rfl)) only [↓qiPiecesIn_0 k (kon0 E k 479 Tryz.f479 0 NiPiecesIn)]
 kernel_rfl
noncomputable def FgClone_int (k:Nat) (a0:List Int):Option (List Int):=den E k 67 [.c (.l 3 (.i .i64) a0)]
theorem egClone_int (k:Nat) (a0):FgClone_int (k+1) a0=agree (a0.isEmpty) (some ([])) (if (0+a0.length)*8<=140737488355328 then some a0 else none):=by kernel_rfl
noncomputable def FicloneTable (k:Nat) (a0:Int×(List Int)×List Int):Option (Int×(List Int)×List Int):=den E k 337 [.agg (avs sTable a0)]
theorem eicloneTable (k:Nat) (a0):FicloneTable (k+1) a0=(FgClone_int k a0.2.1).bind fun p1=>(FgClone_int k a0.2.2).bind fun p2=>some (a0.1,p1,p2):=by kernel_rfl
noncomputable def FiTableIn (k:Nat) (a0:W0) (a1:Int) (a2:Int):Option ((Int×(List Int)×List Int)×Bool):=den E k 462 [.agg (avs m0 a0),cI a1,cI a2]
theorem eiTableIn (k:Nat) (a0 a1 a2):FiTableIn (k+1) a0 a1 a2=(FiisIndex k a1 (a0.2.2.2.length:Int)).bind fun p1=>if ((!p1)==false)=true then if 0<=a1 then ix a0.2.2.2 a1.toNat fun x2=>(FiisIndex k a2 (x2.2.2.length:Int)).bind fun p3=>if (!p3)=true then some ((0,[],[]),false) else if 0<=a1 then ix a0.2.2.2 a1.toNat fun x4=>if 0<=a2 then ix x4.2.2 a2.toNat fun x5=>(FicloneTable k x5).bind fun p6=>some (p6,true) else none else none else none else some ((0,[],[]),false):=by kernel_rfl
noncomputable def FiUnionHasLoop (k:Nat) (a0:List (List Int)):Option (Bool):=den E k 396 [.c (.l 27 (.l 3 (.i .i64)) a0)]
abbrev CiUnionHasLoop_4:=(List (List Int))×Int×Bool×(List (List Int))×Int×Int×Int×(List Bool)
abbrev ViUnionHasLoop_4:=Int
def StiUnionHasLoop_4:CiUnionHasLoop_4->ViUnionHasLoop_4->St
 | (a,d,e,f,g,h,j,k),m=>⟨83,1,[(0,.c (.l 27 (.l 3 (.i .i64)) a)),(3,cI d),(6,.c (.ref 0)),(7,cB e),(13,.c (.l 27 (.l 3 (.i .i64)) f)),(14,cI g),(15,cI h),(73,cI j),(74,cI m)],[(0,.arr 4 .b k)]⟩
noncomputable def BiUnionHasLoop_4 {R:Type} (k:Nat) (X0:ViUnionHasLoop_4->Bool->Option R) (X1:ViUnionHasLoop_4->Option R) (c4:CiUnionHasLoop_4) (rec:ViUnionHasLoop_4->Option R) (v4:ViUnionHasLoop_4):Option R:=if (decide (v4<c4.2.2.2.2.2.2.1))=true then if 0<=v4 then if v4<(c4.2.2.2.2.2.2.2.length:Int) then ix c4.2.2.2.2.2.2.2 v4.toNat fun x9=>if (!x9)=true then X0 v4 x9 else rec (i64.wrap (v4+1)) else none else none else X1 v4
noncomputable def LiUnionHasLoop_4 {R:Type} (k:Nat) (X0:ViUnionHasLoop_4->Bool->Option R) (X1:ViUnionHasLoop_4->Option R) (c:CiUnionHasLoop_4):Nat->ViUnionHasLoop_4->Option R
 | 0,_=>none
 | n+1,v=>BiUnionHasLoop_4 k X0 X1 c (LiUnionHasLoop_4 k X0 X1 c n) v
noncomputable def fiUnionHasLoop_4 {R:Type} (k:Nat) (K:Ex->St->Option R) (c:CiUnionHasLoop_4):=lpf E k 396 Tryz.f396 4 [0,0,3,6,7,13,14,15,73,74] (StiUnionHasLoop_4 c) K
theorem qiUnionHasLoop_4 (k:Nat) (K:Ex->St->Option R) (X0 X1 c) (h:QL (fiUnionHasLoop_4 k K c) (BiUnionHasLoop_4 k X0 X1 c)) (v):LiUnionHasLoop_4 k X0 X1 c k v=fiUnionHasLoop_4 k K c k v:=lq h (fun _ _=>rfl) (fun _=>rfl) (fun _=>rfl) k v
abbrev CiUnionHasLoop_3:=(List (List Int))×Int×Bool×Int×(List (List Int))×Int×Int×Int×Int×(List (List Int))×Int×(List Bool)
abbrev ViUnionHasLoop_3:=Bool×Int
def StiUnionHasLoop_3:CiUnionHasLoop_3->ViUnionHasLoop_3->St
 | (a,d,e,f,g,h,j,k,m,n,o,p),(q,r)=>⟨83,1,[(0,.c (.l 27 (.l 3 (.i .i64)) a)),(3,cI d),(6,.c (.ref 0)),(7,cB e),(8,cI f),(9,cB q),(13,.c (.l 27 (.l 3 (.i .i64)) g)),(14,cI h),(15,cI j),(27,cI k),(28,cI m),(35,.c (.l 27 (.l 3 (.i .i64)) n)),(36,cI o),(37,cI r)],[(0,.arr 4 .b p)]⟩
noncomputable def BiUnionHasLoop_3 {R:Type} (k:Nat) (X0:ViUnionHasLoop_3->Option R) (c3:CiUnionHasLoop_3) (rec:ViUnionHasLoop_3->Option R) (v3:ViUnionHasLoop_3):Option R:=if (decide (v3.2<c3.2.2.2.2.2.2.2.2.2.2.1))=true then if 0<=v3.2 then ix c3.2.2.2.2.2.2.2.2.2.1 v3.2.toNat fun x3=>if (v3.1==false)=true then if ((decide (c3.2.2.2.1<(x3.length:Int)))==true)=true then if 0<=c3.2.2.2.1 then ix x3 c3.2.2.2.1.toNat fun x4=>(FiisIndex k x4 c3.2.1).bind fun p5=>if (p5==true)=true then if 0<=c3.2.2.2.1 then ix x3 c3.2.2.2.1.toNat fun x6=>if 0<=x6 then if x6<(c3.2.2.2.2.2.2.2.2.2.2.2.length:Int) then ix c3.2.2.2.2.2.2.2.2.2.2.2 x6.toNat fun x7=>rec ((!x7),(i64.wrap (v3.2+1))) else none else none else none else rec (false,(i64.wrap (v3.2+1))) else none else rec (false,(i64.wrap (v3.2+1))) else rec (true,(i64.wrap (v3.2+1))) else none else X0 v3
noncomputable def LiUnionHasLoop_3 {R:Type} (k:Nat) (X0:ViUnionHasLoop_3->Option R) (c:CiUnionHasLoop_3):Nat->ViUnionHasLoop_3->Option R
 | 0,_=>none
 | n+1,v=>BiUnionHasLoop_3 k X0 c (LiUnionHasLoop_3 k X0 c n) v
noncomputable def fiUnionHasLoop_3 {R:Type} (k:Nat) (K:Ex->St->Option R) (c:CiUnionHasLoop_3):=lpf E k 396 Tryz.f396 3 [0,0,3,6,7,8,9,13,14,15,27,28,35,36,37] (StiUnionHasLoop_3 c) K
theorem qiUnionHasLoop_3 (k:Nat) (K:Ex->St->Option R) (X0 c) (h:QL (fiUnionHasLoop_3 k K c) (BiUnionHasLoop_3 k X0 c)) (v):LiUnionHasLoop_3 k X0 c k v=fiUnionHasLoop_3 k K c k v:=lq h (fun _ _=>rfl) (fun _=>rfl) (fun _=>rfl) k v
abbrev CiUnionHasLoop_2:=(List (List Int))×Int×(List (List Int))×Int×Int×Int
abbrev ViUnionHasLoop_2:=Bool×Int×(List Bool)
def StiUnionHasLoop_2:CiUnionHasLoop_2->ViUnionHasLoop_2->St
 | (a,d,e,f,g,h),(j,k,m)=>⟨83,1,[(0,.c (.l 27 (.l 3 (.i .i64)) a)),(3,cI d),(6,.c (.ref 0)),(7,cB j),(13,.c (.l 27 (.l 3 (.i .i64)) e)),(14,cI f),(15,cI g),(27,cI h),(28,cI k)],[(0,.arr 4 .b m)]⟩
noncomputable def BiUnionHasLoop_2 {R:Type} (k:Nat) (X0:ViUnionHasLoop_2->Option R) (c2:CiUnionHasLoop_2) (rec:ViUnionHasLoop_2->Option R) (v2:ViUnionHasLoop_2):Option R:=if (decide (v2.2.1<c2.2.2.2.2.2))=true then if 0<=v2.2.1 then if v2.2.1<(v2.2.2.length:Int) then ix v2.2.2 v2.2.1.toNat fun x2=>if x2=true then rec (v2.1,(i64.wrap (v2.2.1+1)),v2.2.2) else LiUnionHasLoop_3 k (fun v3=>if (!v3.1)=true then if 0<=v2.2.1 then if v2.2.1<(v2.2.2.length:Int) then ix v2.2.2 v2.2.1.toNat fun y8=>rec (true,(i64.wrap (v2.2.1+1)),(v2.2.2.set v2.2.1.toNat true)) else none else none else rec (v2.1,(i64.wrap (v2.2.1+1)),v2.2.2)) (c2.1,c2.2.1,v2.1,v2.2.1,c2.2.2.1,c2.2.2.2.1,c2.2.2.2.2.1,c2.2.2.2.2.2,v2.2.1,c2.1,(c2.1.length:Int),v2.2.2) k (false,0) else none else none else X0 v2
noncomputable def LiUnionHasLoop_2 {R:Type} (k:Nat) (X0:ViUnionHasLoop_2->Option R) (c:CiUnionHasLoop_2):Nat->ViUnionHasLoop_2->Option R
 | 0,_=>none
 | n+1,v=>BiUnionHasLoop_2 k X0 c (LiUnionHasLoop_2 k X0 c n) v
noncomputable def fiUnionHasLoop_2 {R:Type} (k:Nat) (K:Ex->St->Option R) (c:CiUnionHasLoop_2):=lpf E k 396 Tryz.f396 2 [0,0,3,6,7,13,14,15,27,28] (StiUnionHasLoop_2 c) K
theorem qiUnionHasLoop_2 (k:Nat) (K:Ex->St->Option R) (X0 c) (h:QL (fiUnionHasLoop_2 k K c) (BiUnionHasLoop_2 k X0 c)) (v):LiUnionHasLoop_2 k X0 c k v=fiUnionHasLoop_2 k K c k v:=lq h (fun _ _=>rfl) (fun _=>rfl) (fun _=>rfl) k v
abbrev CiUnionHasLoop_1:=(List (List Int))×Int×(List (List Int))×Int×Int
abbrev ViUnionHasLoop_1:=Bool×(List Bool)
def StiUnionHasLoop_1:CiUnionHasLoop_1->ViUnionHasLoop_1->St
 | (a,d,e,f,g),(h,j)=>⟨83,1,[(0,.c (.l 27 (.l 3 (.i .i64)) a)),(3,cI d),(6,.c (.ref 0)),(7,cB h),(13,.c (.l 27 (.l 3 (.i .i64)) e)),(14,cI f),(15,cI g)],[(0,.arr 4 .b j)]⟩
noncomputable def BiUnionHasLoop_1 {R:Type} (k:Nat) (X0:ViUnionHasLoop_1->Option R) (c1:CiUnionHasLoop_1) (rec:ViUnionHasLoop_1->Option R) (v1:ViUnionHasLoop_1):Option R:=if v1.1=true then LiUnionHasLoop_2 k (fun v2=>rec (v2.1,v2.2.2)) (c1.1,c1.2.1,c1.2.2.1,c1.2.2.2.1,c1.2.2.2.2,c1.2.1) k (false,0,v1.2) else X0 v1
noncomputable def LiUnionHasLoop_1 {R:Type} (k:Nat) (X0:ViUnionHasLoop_1->Option R) (c:CiUnionHasLoop_1):Nat->ViUnionHasLoop_1->Option R
 | 0,_=>none
 | n+1,v=>BiUnionHasLoop_1 k X0 c (LiUnionHasLoop_1 k X0 c n) v
noncomputable def fiUnionHasLoop_1 {R:Type} (k:Nat) (K:Ex->St->Option R) (c:CiUnionHasLoop_1):=lpf E k 396 Tryz.f396 1 [0,0,3,6,7,13,14,15] (StiUnionHasLoop_1 c) K
theorem qiUnionHasLoop_1 (k:Nat) (K:Ex->St->Option R) (X0 c) (h:QL (fiUnionHasLoop_1 k K c) (BiUnionHasLoop_1 k X0 c)) (v):LiUnionHasLoop_1 k X0 c k v=fiUnionHasLoop_1 k K c k v:=lq h (fun _ _=>rfl) (fun _=>rfl) (fun _=>rfl) k v
abbrev CiUnionHasLoop_0:=(List (List Int))×(List (List Int))×Int
abbrev ViUnionHasLoop_0:=Int×Int
def StiUnionHasLoop_0:CiUnionHasLoop_0->ViUnionHasLoop_0->St
 | (a,b,d),(e,f)=>⟨83,0,[(0,.c (.l 27 (.l 3 (.i .i64)) a)),(3,cI e),(13,.c (.l 27 (.l 3 (.i .i64)) b)),(14,cI d),(15,cI f)],[]⟩
noncomputable def BiUnionHasLoop_0 {R:Type} (k:Nat) (X0:ViUnionHasLoop_0->Option R) (c0:CiUnionHasLoop_0) (rec:ViUnionHasLoop_0->Option R) (v0:ViUnionHasLoop_0):Option R:=if (decide (v0.2<c0.2.2))=true then if 0<=v0.2 then ix c0.2.1 v0.2.toNat fun x1=>rec ((mx v0.1 (x1.length:Int)),(i64.wrap (v0.2+1))) else none else X0 v0
noncomputable def LiUnionHasLoop_0 {R:Type} (k:Nat) (X0:ViUnionHasLoop_0->Option R) (c:CiUnionHasLoop_0):Nat->ViUnionHasLoop_0->Option R
 | 0,_=>none
 | n+1,v=>BiUnionHasLoop_0 k X0 c (LiUnionHasLoop_0 k X0 c n) v
noncomputable def fiUnionHasLoop_0 {R:Type} (k:Nat) (K:Ex->St->Option R) (c:CiUnionHasLoop_0):=lpf E k 396 Tryz.f396 0 [0,0,3,13,14,15] (StiUnionHasLoop_0 c) K
theorem qiUnionHasLoop_0 (k:Nat) (K:Ex->St->Option R) (X0 c) (h:QL (fiUnionHasLoop_0 k K c) (BiUnionHasLoop_0 k X0 c)) (v):LiUnionHasLoop_0 k X0 c k v=fiUnionHasLoop_0 k K c k v:=lq h (fun _ _=>rfl) (fun _=>rfl) (fun _=>rfl) k v
noncomputable def NiUnionHasLoop:Ex->St->Option (Bool):=C1 E (rs 396) Tryz.f396
theorem eiUnionHasLoop (k:Nat) (a0):FiUnionHasLoop (k+1) a0=LiUnionHasLoop_0 k (fun v0=>if (v0.1==v0.1)=true then if 0<=v0.1 then if 1*v0.1.toNat<=281474976710656 then LiUnionHasLoop_1 k (fun v1=>LiUnionHasLoop_4 k (fun (v4:Int) x9=>some true) (fun (v4:Int)=>some false) (a0,v0.1,v1.1,a0,(a0.length:Int),v0.2,v0.1,v1.2) k 0) (a0,v0.1,a0,(a0.length:Int),v0.2) k (true,(List.replicate v0.1.toNat (false:Bool))) else none else none else none) (a0,a0,(a0.length:Int)) k (0,0):=by
 simp (maxSteps:=9999999) (disch:=(refine QL.mk fun n0 v=> ?_;unfold BiUnionHasLoop_0;simp (maxSteps:=9999999) (disch:=(refine QL.mk fun n1 v=> ?_;unfold BiUnionHasLoop_1;simp (maxSteps:=9999999) (disch:=(refine QL.mk fun n2 v=> ?_;first | (unfold BiUnionHasLoop_2;simp (maxSteps:=9999999) (disch:=(refine QL.mk fun n3 v=> ?_;kernel_rfl)) only [↓qiUnionHasLoop_3 (R:=Bool) k (kon1 E k 396 Tryz.f396 2 1 n2 [0,0,3,6,7,13,14,15,27,28] (kon1 E k 396 Tryz.f396 1 1 n1 [0,0,3,6,7,13,14,15] (kon0 E k 396 Tryz.f396 1 NiUnionHasLoop)))];kernel_rfl) | kernel_rfl)) only [↓qiUnionHasLoop_4 (R:=Bool) k (kon0 E k 396 Tryz.f396 4 NiUnionHasLoop),↓qiUnionHasLoop_2 (R:=Bool) k (kon1 E k 396 Tryz.f396 1 1 n1 [0,0,3,6,7,13,14,15] (kon0 E k 396 Tryz.f396 1 NiUnionHasLoop))];kernel_rfl)) only [↓qiUnionHasLoop_1 (R:=Bool) k (kon0 E k 396 Tryz.f396 1 NiUnionHasLoop)];kernel_rfl)) only [↓qiUnionHasLoop_0 (R:=Bool) k (kon0 E k 396 Tryz.f396 0 NiUnionHasLoop)]
 kernel_rfl
noncomputable def FiIsSafeMix (k:Nat) (a0:W0) (a1:Int) (a2:Int) (a3:Int):Option (Bool):=den E k 456 [.agg (avs m0 a0),cI a1,cI a2,cI a3]
abbrev CiIsSafeMix_0:=Int×Int×W0×(List Int)
abbrev ViIsSafeMix_0:=Int×(List (List Int))
def StiIsSafeMix_0:CiIsSafeMix_0->ViIsSafeMix_0->St
 | (a,b,d,e),(f,g)=>⟨40,3,[(1,cI a),(4,cP 0),(9,.c (.ref 1)),(18,.c (.ref 2)),(19,cI b),(20,cI f)],[(0,.var (avs m0 d)),(1,.arr 27 (.l 3 (.i .i64)) g),(2,.arr 3 (.i .i64) e)]⟩
noncomputable def BiIsSafeMix_0 {R:Type} (k:Nat) (X0:ViIsSafeMix_0->Option R) (c0:CiIsSafeMix_0) (rec:ViIsSafeMix_0->Option R) (v0:ViIsSafeMix_0):Option R:=if (decide (v0.1<c0.2.1))=true then if 0<=v0.1 then if v0.1<(c0.2.2.2.length:Int) then ix c0.2.2.2 v0.1.toNat fun x2=>(FiTableIn k c0.2.2.1 x2 c0.1).bind fun p3=>if (v0.2.length+([p3.1.2.2]).length)*24<=140737488355328 then rec ((i64.wrap (v0.1+1)),(v0.2++[p3.1.2.2])) else none else none else none else X0 v0
noncomputable def LiIsSafeMix_0 {R:Type} (k:Nat) (X0:ViIsSafeMix_0->Option R) (c:CiIsSafeMix_0):Nat->ViIsSafeMix_0->Option R
 | 0,_=>none
 | n+1,v=>BiIsSafeMix_0 k X0 c (LiIsSafeMix_0 k X0 c n) v
noncomputable def fiIsSafeMix_0 {R:Type} (k:Nat) (K:Ex->St->Option R) (c:CiIsSafeMix_0):=lpf E k 456 Tryz.f456 0 [0,1,4,9,18,19,20] (StiIsSafeMix_0 c) K
theorem qiIsSafeMix_0 (k:Nat) (K:Ex->St->Option R) (X0 c) (h:QL (fiIsSafeMix_0 k K c) (BiIsSafeMix_0 k X0 c)) (v):LiIsSafeMix_0 k X0 c k v=fiIsSafeMix_0 k K c k v:=lq h (fun _ _=>rfl) (fun _=>rfl) (fun _=>rfl) k v
noncomputable def NiIsSafeMix:Ex->St->Option (Bool):=C1 E (rs 456) Tryz.f456
theorem eiIsSafeMix (k:Nat) (a0 a1 a2 a3):FiIsSafeMix (k+1) a0 a1 a2 a3=(FiPiecesIn k a0 a2 a3).bind fun p1=>LiIsSafeMix_0 k (fun v0=>(FiUnionHasLoop k v0.2).bind fun p4=>some (!p4)) (a1,(p1.length:Int),a0,p1) k (0,[]):=by
 simp (disch:=(refine QL.mk fun n0 v=> ?_;kernel_rfl)) only [↓qiIsSafeMix_0 k (kon0 E k 456 Tryz.f456 0 NiIsSafeMix)]
 kernel_rfl
noncomputable def FinextIn (k:Nat) (a0:W0) (a1:Int) (a2:Int) (a3:Int):Option (Int×Bool):=den E k 454 [.agg (avs m0 a0),cI a1,cI a2,cI a3]
theorem einextIn (k:Nat) (a0 a1 a2 a3):FinextIn (k+1) a0 a1 a2 a3=(FiTableIn k a0 a1 a2).bind fun p1=>if ((!p1.2)==false)=true then (FiisIndex k a3 (p1.1.2.2.length:Int)).bind fun p2=>if (!p2)=true then some (-1,false) else if 0<=a3 then if a3<(p1.1.2.2.length:Int) then ix p1.1.2.2 a3.toNat fun x3=>some (x3,true) else none else none else some (-1,false):=by kernel_rfl
noncomputable def FiHopAt (k:Nat) (a0:W0) (a1:Int) (a2:Int) (a3:Int):Option (Int):=den E k 398 [.agg (avs m0 a0),cI a1,cI a2,cI a3]
theorem eiHopAt (k:Nat) (a0 a1 a2 a3):FiHopAt (k+1) a0 a1 a2 a3=(FiPieceAt k a0 a3).bind fun p1=>(FinextIn k a0 p1 a2 a1).bind fun p2=>if ((!p2.2)==false)=true then (FiisSkewed k a0 a3).bind fun p3=>if ((!p3)==false)=true then (FiIsSafeMix k a0 a2 (i64.wrap (a3-(i64.wrap (2*a0.2.2.1)))) (i64.wrap (a3+(i64.wrap (2*a0.2.2.1))))).bind fun p4=>if (!p4)=true then some (-1) else some p2.1 else some (-1) else some (-1):=by kernel_rfl
noncomputable def FiIsCalm (k:Nat) (a0:W0) (a1:Int):Option (Bool):=den E k 461 [.agg (avs m0 a0),cI a1]
theorem eiIsCalm (k:Nat) (a0 a1):FiIsCalm (k+1) a0 a1=(FiisSkewed k a0 a1).bind fun p1=>if (p1==true)=true then (FiPiecesIn k a0 (i64.wrap (a1-(i64.wrap (2*a0.2.2.1)))) (i64.wrap (a1+(i64.wrap (2*a0.2.2.1))))).bind fun p2=>some ((p2.length:Int)==1) else some false:=by kernel_rfl
noncomputable def FiRepairHop (k:Nat) (a0:W0) (a1:Int) (a2:Int) (a3:Int) (a4:List Int):Option (Int):=den E k 406 [.agg (avs m0 a0),cI a1,cI a2,cI a3,.c (.l 3 (.i .i64) a4)]
abbrev CiRepairHop_0:=(List Int)×(List Int)×Int
abbrev ViRepairHop_0:=Int
def StiRepairHop_0:CiRepairHop_0->ViRepairHop_0->St
 | (a,b,d),e=>⟨67,0,[(4,.c (.l 3 (.i .i64) a)),(55,.c (.l 3 (.i .i64) b)),(56,cI d),(57,cI e)],[]⟩
noncomputable def BiRepairHop_0 {R:Type} (k:Nat) (X0:ViRepairHop_0->Int->Bool->Option R) (X1:ViRepairHop_0->Option R) (c0:CiRepairHop_0) (rec:ViRepairHop_0->Option R) (v0:ViRepairHop_0):Option R:=if (decide (v0<c0.2.2))=true then if 0<=v0 then ix c0.2.1 v0.toNat fun x8=>(FgContains_int k c0.1 x8).bind fun p9=>if (!p9)=true then X0 v0 x8 p9 else rec (i64.wrap (v0+1)) else none else X1 v0
noncomputable def LiRepairHop_0 {R:Type} (k:Nat) (X0:ViRepairHop_0->Int->Bool->Option R) (X1:ViRepairHop_0->Option R) (c:CiRepairHop_0):Nat->ViRepairHop_0->Option R
 | 0,_=>none
 | n+1,v=>BiRepairHop_0 k X0 X1 c (LiRepairHop_0 k X0 X1 c n) v
noncomputable def fiRepairHop_0 {R:Type} (k:Nat) (K:Ex->St->Option R) (c:CiRepairHop_0):=lpf E k 406 Tryz.f406 0 [0,4,55,56,57] (StiRepairHop_0 c) K
theorem qiRepairHop_0 (k:Nat) (K:Ex->St->Option R) (X0 X1 c) (h:QL (fiRepairHop_0 k K c) (BiRepairHop_0 k X0 X1 c)) (v):LiRepairHop_0 k X0 X1 c k v=fiRepairHop_0 k K c k v:=lq h (fun _ _=>rfl) (fun _=>rfl) (fun _=>rfl) k v
noncomputable def NiRepairHop:Ex->St->Option (Int):=C1 E (rs 406) Tryz.f406
theorem eiRepairHop (k:Nat) (a0 a1 a2 a3 a4):FiRepairHop (k+1) a0 a1 a2 a3 a4=(FiHopAt k a0 a1 a2 a3).bind fun p1=>(FgContains_int k a4 p1).bind fun p2=>if (!p2)=true then some p1 else if ((decide (p1<0))==false)=true then (FiIsCalm k a0 a3).bind fun p3=>if (!p3)=true then some (-1) else (FiPieceAt k a0 a3).bind fun p4=>(FiTableIn k a0 p4 a2).bind fun p5=>if 0<=p4 then ix a0.2.2.2 p4.toNat fun x6=>(FiAltsOf k p5.1 x6.2.1 a0.2.1 a1).bind fun p7=>LiRepairHop_0 k (fun (v0:Int) (x8:Int) p9=>some x8) (fun (v0:Int)=>some (-1)) (a4,p7,(p7.length:Int)) k 0 else none else some (-1):=by
 simp (disch:=(refine QL.mk fun n0 v=> ?_;kernel_rfl)) only [↓qiRepairHop_0 k (kon0 E k 406 Tryz.f406 0 NiRepairHop)]
 kernel_rfl
noncomputable def FiHopFor (k:Nat) (a0:z2) (a1:Int) (a2:Int):Option (Int):=den E k 340 [.agg (avs Q0 a0),cI a1,cI a2]
theorem eiHopFor (k:Nat) (a0 a1 a2):FiHopFor (k+1) a0 a1 a2=(FiisIndex k a1 (a0.2.2.2.1.length:Int)).bind fun p1=>if ((!p1)==false)=true then (FiInRange k a0.2.2.2.2.2.2.2.2.2.2.1 0 1000).bind fun p2=>if ((!p2)==false)=true then if 0<=a1 then ix a0.2.2.2.1 a1.toNat fun x3=>(FiInRange k x3 (-5) 5).bind fun p4=>if (!p4)=true then some (-1) else if 0<=a1 then ix a0.2.2.2.1 a1.toNat fun x5=>(FiDeadNow k a0 a1).bind fun p6=>(FiRepairHop k a0.2.1 a1 a2 (i64.wrap (a0.2.2.2.2.2.2.2.2.2.2.1+x5)) p6).bind fun p7=>if ((decide (p7<0))==false)=true then (FiMayUse k a0.2.1 a1 p7 (i64.wrap (a0.2.2.2.2.2.2.2.2.2.2.1+x5))).bind fun p8=>if (!p8)=true then some (-1) else some p7 else some (-1) else none else none else some (-1) else some (-1):=by kernel_rfl
noncomputable def FiOrderOf (k:Nat) (a0:List I6):Option (List Int):=den E k 339 [.agg [.l 229 sI6 a0]]
abbrev CiOrderOf_0:=(List I6)×Int
abbrev ViOrderOf_0:=Int×(List Int)×(List Int)
def StiOrderOf_0:CiOrderOf_0->ViOrderOf_0->St
 | (a,b),(d,e,f)=>⟨32,2,[(3,.c (.ref 0)),(4,.c (.ref 1)),(10,.c (.l 229 sI6 a)),(11,cI b),(12,cI d)],[(0,.arr 3 (.i .i64) e),(1,.arr 3 (.i .i64) f)]⟩
noncomputable def BiOrderOf_0 {R:Type} (k:Nat) (X0:ViOrderOf_0->Option R) (c0:CiOrderOf_0) (rec:ViOrderOf_0->Option R) (v0:ViOrderOf_0):Option R:=if (decide (v0.1<c0.2))=true then if 0<=v0.1 then ix c0.1 v0.1.toNat fun x1=>if (x1.2.2.2.2.2==1)=true then if (v0.2.1.length+([v0.1]).length)*8<=140737488355328 then rec ((i64.wrap (v0.1+1)),(v0.2.1++[v0.1]),v0.2.2) else none else if (v0.2.2.length+([v0.1]).length)*8<=140737488355328 then rec ((i64.wrap (v0.1+1)),v0.2.1,(v0.2.2++[v0.1])) else none else none else X0 v0
noncomputable def LiOrderOf_0 {R:Type} (k:Nat) (X0:ViOrderOf_0->Option R) (c:CiOrderOf_0):Nat->ViOrderOf_0->Option R
 | 0,_=>none
 | n+1,v=>BiOrderOf_0 k X0 c (LiOrderOf_0 k X0 c n) v
noncomputable def fiOrderOf_0 {R:Type} (k:Nat) (K:Ex->St->Option R) (c:CiOrderOf_0):=lpf E k 339 Tryz.f339 0 [0,3,4,10,11,12] (StiOrderOf_0 c) K
theorem qiOrderOf_0 (k:Nat) (K:Ex->St->Option R) (X0 c) (h:QL (fiOrderOf_0 k K c) (BiOrderOf_0 k X0 c)) (v):LiOrderOf_0 k X0 c k v=fiOrderOf_0 k K c k v:=lq h (fun _ _=>rfl) (fun _=>rfl) (fun _=>rfl) k v
noncomputable def NiOrderOf:Ex->St->Option (List Int):=C1 E (rs 339) Tryz.f339
theorem eiOrderOf (k:Nat) (a0):FiOrderOf (k+1) a0=LiOrderOf_0 k (fun v0=>if (v0.2.1.length+v0.2.2.length)*8<=140737488355328 then some (v0.2.1++v0.2.2) else none) (a0,(a0.length:Int)) k (0,[],[]):=by
 simp (disch:=(refine QL.mk fun n0 v=> ?_;kernel_rfl)) only [↓qiOrderOf_0 k (kon0 E k 339 Tryz.f339 0 NiOrderOf)]
 kernel_rfl
noncomputable def FiChoiceFor (k:Nat) (a0:z2) (a1:Int):Option (I6×Int×Bool):=den E k 254 [.agg (avs Q0 a0),cI a1]
abbrev CiChoiceFor_0:=Int×Int×z2×Int×Int×Int×Int×Int×Int×(List I6)×(List Int)
abbrev ViChoiceFor_0:=Int
def StiChoiceFor_0:CiChoiceFor_0->ViChoiceFor_0->St
 | (a,b,d,e,f,g,h,j,k,m,n),o=>⟨52,4,[(1,cI a),(2,cP 0),(4,cP 1),(7,cP 2),(27,.c (.ref 3)),(28,cI b),(29,cI o)],[(0,.var (avs Q0 d)),(1,.var [vI e,vI f,vI g,vI h,vI j,vI k]),(2,.var [.l 229 sI6 m]),(3,.arr 3 (.i .i64) n)]⟩
noncomputable def BiChoiceFor_0 {R:Type} (k:Nat) (X0:ViChoiceFor_0->Int->I6->Int->I6->Option R) (X1:ViChoiceFor_0->Option R) (c0:CiChoiceFor_0) (rec:ViChoiceFor_0->Option R) (v0:ViChoiceFor_0):Option R:=if (decide (v0<c0.2.1))=true then if 0<=v0 then if v0<(c0.2.2.2.2.2.2.2.2.2.2.length:Int) then ix c0.2.2.2.2.2.2.2.2.2.2 v0.toNat fun x5=>if 0<=x5 then ix c0.2.2.2.2.2.2.2.2.2.1 x5.toNat fun x6=>(FiHopFor k c0.2.2.1 c0.1 x6.2.2.2.2.1).bind fun p7=>if (decide (p7>=0))=true then if 0<=x5 then ix c0.2.2.2.2.2.2.2.2.2.1 x5.toNat fun x8=>X0 v0 x5 x6 p7 x8 else none else rec (i64.wrap (v0+1)) else none else none else none else X1 v0
noncomputable def LiChoiceFor_0 {R:Type} (k:Nat) (X0:ViChoiceFor_0->Int->I6->Int->I6->Option R) (X1:ViChoiceFor_0->Option R) (c:CiChoiceFor_0):Nat->ViChoiceFor_0->Option R
 | 0,_=>none
 | n+1,v=>BiChoiceFor_0 k X0 X1 c (LiChoiceFor_0 k X0 X1 c n) v
noncomputable def fiChoiceFor_0 {R:Type} (k:Nat) (K:Ex->St->Option R) (c:CiChoiceFor_0):=lpf E k 254 Tryz.f254 0 [0,1,2,4,7,27,28,29] (StiChoiceFor_0 c) K
theorem qiChoiceFor_0 (k:Nat) (K:Ex->St->Option R) (X0 X1 c) (h:QL (fiChoiceFor_0 k K c) (BiChoiceFor_0 k X0 X1 c)) (v):LiChoiceFor_0 k X0 X1 c k v=fiChoiceFor_0 k K c k v:=lq h (fun _ _=>rfl) (fun _=>rfl) (fun _=>rfl) k v
noncomputable def NiChoiceFor:Ex->St->Option (I6×Int×Bool):=C1 E (rs 254) Tryz.f254
theorem eiChoiceFor (k:Nat) (a0 a1):FiChoiceFor (k+1) a0 a1=(FiCanSend k a0 a1).bind fun p1=>if (p1==true)=true then (FiisIndex k a1 (a0.2.2.2.2.2.1.length:Int)).bind fun p2=>if p2=true then if 0<=a1 then ix a0.2.2.2.2.2.1 a1.toNat fun x3=>(FiOrderOf k x3).bind fun p4=>LiChoiceFor_0 k (fun (v0:Int) (x5:Int) x6 (p7:Int) x8=>some (x8,p7,true)) (fun (v0:Int)=>some ((0,0,0,0,0,0),-1,false)) (a1,(p4.length:Int),a0,0,0,0,0,0,0,x3,p4) k 0 else none else some ((0,0,0,0,0,0),-1,false) else some ((0,0,0,0,0,0),-1,false):=by
 simp (disch:=(refine QL.mk fun n0 v=> ?_;kernel_rfl)) only [↓qiChoiceFor_0 k (kon0 E k 254 Tryz.f254 0 NiChoiceFor)]
 kernel_rfl
noncomputable def FiChoices (k:Nat) (a0:z2):Option (List I4):=den E k 138 [.agg (avs Q0 a0)]
abbrev CiChoices_0:=Int×z2
abbrev ViChoices_0:=Int×(List I4)
def StiChoices_0:CiChoices_0->ViChoices_0->St
 | (a,b),(d,e)=>⟨37,2,[(1,cP 0),(3,.c (.ref 1)),(13,cI a),(14,cI d)],[(0,.var (avs Q0 b)),(1,.arr 168 sI4 e)]⟩
noncomputable def BiChoices_0 {R:Type} (k:Nat) (X0:ViChoices_0->Option R) (c0:CiChoices_0) (rec:ViChoices_0->Option R) (v0:ViChoices_0):Option R:=if (decide (v0.1<c0.1))=true then (FiChoiceFor k c0.2 v0.1).bind fun p1=>if p1.2.2=true then if (v0.2.length+([(c0.2.2.2.2.2.2.2.2.2.2.2.1,v0.1,p1.2.1,p1.1.1)]).length)*32<=140737488355328 then rec ((i64.wrap (v0.1+1)),(v0.2++[(c0.2.2.2.2.2.2.2.2.2.2.2.1,v0.1,p1.2.1,p1.1.1)])) else none else rec ((i64.wrap (v0.1+1)),v0.2) else X0 v0
noncomputable def LiChoices_0 {R:Type} (k:Nat) (X0:ViChoices_0->Option R) (c:CiChoices_0):Nat->ViChoices_0->Option R
 | 0,_=>none
 | n+1,v=>BiChoices_0 k X0 c (LiChoices_0 k X0 c n) v
noncomputable def fiChoices_0 {R:Type} (k:Nat) (K:Ex->St->Option R) (c:CiChoices_0):=lpf E k 138 Tryz.f138 0 [0,1,3,13,14] (StiChoices_0 c) K
theorem qiChoices_0 (k:Nat) (K:Ex->St->Option R) (X0 c) (h:QL (fiChoices_0 k K c) (BiChoices_0 k X0 c)) (v):LiChoices_0 k X0 c k v=fiChoices_0 k K c k v:=lq h (fun _ _=>rfl) (fun _=>rfl) (fun _=>rfl) k v
noncomputable def NiChoices:Ex->St->Option (List I4):=C1 E (rs 138) Tryz.f138
theorem eiChoices (k:Nat) (a0):FiChoices (k+1) a0=LiChoices_0 k (fun v0=>some v0.2) ((mx 0 (mn a0.2.1.1 12)),a0) k (0,[]):=by
 simp (disch:=(refine QL.mk fun n0 v=> ?_;kernel_rfl)) only [↓qiChoices_0 k (kon0 E k 138 Tryz.f138 0 NiChoices)]
 kernel_rfl
noncomputable def FgLess_int (k:Nat) (a0:Int) (a1:Int):Option (Bool):=den E k 409 [cI a0,cI a1]
theorem egLess_int (k:Nat) (a0 a1):FgLess_int (k+1) a0 a1=(FgisNaN_int k a0).bind fun p1=>if (p1==true)=true then (FgisNaN_int k a1).bind fun p2=>if ((!p2)==false)=true then some (decide (a0<a1)) else some true else some (decide (a0<a1)):=by kernel_rfl
noncomputable def FgisNaN_int_410 (k:Nat) (a0:Int):Option (Bool):=den E k 410 [cI a0]
theorem egisNaN_int_410 (k:Nat) (a0):FgisNaN_int_410 (k+1) a0=some (a0 !=a0):=by kernel_rfl
noncomputable def FgBinarySearch_int (k:Nat) (a0:List Int) (a1:Int):Option (Int×Bool):=den E k 346 [.c (.l 3 (.i .i64) a0),cI a1]
abbrev CgBinarySearch_int_0:=(List Int)×Int×Int
abbrev VgBinarySearch_int_0:=Int×Int
def StgBinarySearch_int_0:CgBinarySearch_int_0->VgBinarySearch_int_0->St
 | (a,b,d),(e,f)=>⟨54,0,[(0,.c (.l 3 (.i .i64) a)),(1,cI b),(6,cI d),(7,cI e),(8,cI f)],[]⟩
noncomputable def BgBinarySearch_int_0 {R:Type} (k:Nat) (X0:VgBinarySearch_int_0->Option R) (c0:CgBinarySearch_int_0) (rec:VgBinarySearch_int_0->Option R) (v0:VgBinarySearch_int_0):Option R:=if (decide (v0.1<v0.2))=true then if 0<=(i64.wrap (((u64.wrap (i64.wrap (v0.1+v0.2)))).fdiv (2^(min (1:Int).toNat u64.bits)))) then ix c0.1 ((i64.wrap (((u64.wrap (i64.wrap (v0.1+v0.2)))).fdiv (2^(min (1:Int).toNat u64.bits)))).toNat) fun x1=>(FgLess_int k x1 c0.2.1).bind fun p2=>if p2=true then rec ((i64.wrap ((i64.wrap (((u64.wrap (i64.wrap (v0.1+v0.2)))).fdiv (2^(min (1:Int).toNat u64.bits))))+1)),v0.2) else rec (v0.1,(i64.wrap (((u64.wrap (i64.wrap (v0.1+v0.2)))).fdiv (2^(min (1:Int).toNat u64.bits))))) else none else X0 v0
noncomputable def LgBinarySearch_int_0 {R:Type} (k:Nat) (X0:VgBinarySearch_int_0->Option R) (c:CgBinarySearch_int_0):Nat->VgBinarySearch_int_0->Option R
 | 0,_=>none
 | n+1,v=>BgBinarySearch_int_0 k X0 c (LgBinarySearch_int_0 k X0 c n) v
noncomputable def fgBinarySearch_int_0 {R:Type} (k:Nat) (K:Ex->St->Option R) (c:CgBinarySearch_int_0):=lpf E k 346 Tryz.f346 0 [0,0,1,6,7,8] (StgBinarySearch_int_0 c) K
theorem qgBinarySearch_int_0 (k:Nat) (K:Ex->St->Option R) (X0 c) (h:QL (fgBinarySearch_int_0 k K c) (BgBinarySearch_int_0 k X0 c)) (v):LgBinarySearch_int_0 k X0 c k v=fgBinarySearch_int_0 k K c k v:=lq h (fun _ _=>rfl) (fun _=>rfl) (fun _=>rfl) k v
noncomputable def NgBinarySearch_int:Ex->St->Option (Int×Bool):=C1 E (rs 346) Tryz.f346
theorem egBinarySearch_int (k:Nat) (a0 a1):FgBinarySearch_int (k+1) a0 a1=LgBinarySearch_int_0 k (fun v0=>if ((decide (v0.1<(a0.length:Int)))==true)=true then if 0<=v0.1 then ix a0 v0.1.toNat fun x3=>if ((x3==a1)==false)=true then if 0<=v0.1 then ix a0 v0.1.toNat fun x4=>(FgisNaN_int_410 k x4).bind fun p5=>if (p5==true)=true then (FgisNaN_int_410 k a1).bind fun p6=>some (v0.1,p6) else some (v0.1,false) else none else some (v0.1,true) else none else some (v0.1,false)) (a0,a1,(a0.length:Int)) k (0,(a0.length:Int)):=by
 simp (disch:=(refine QL.mk fun n0 v=> ?_;kernel_rfl)) only [↓qgBinarySearch_int_0 k (kon0 E k 346 Tryz.f346 0 NgBinarySearch_int)]
 kernel_rfl
noncomputable def FgInsert_int (k:Nat) (a0:List Int) (a1:Int) (a2:List Int):Option (List Int):=den E k 347 [.c (.l 3 (.i .i64) a0),cI a1,.c (.l 3 (.i .i64) a2)]
theorem egInsert_int (k:Nat) (a0 a1 a2):FgInsert_int (k+1) a0 a1 a2=match a2 with | [x]=>if 0<=a1 then if a1<=(a0.length:Int) then if (a0.length+1)*8<=140737488355328 then some (insB a0 a1.toNat x) else none else none else none | _=>none:=by kernel_rfl
noncomputable def FiIsStream (k:Nat) (a0:Int×Int×List Int):Option (Bool):=den E k 322 [.agg (avs T0 a0)]
abbrev CiIsStream_0:=(List Int)×Int×(Int×Int×List Int)
abbrev ViIsStream_0:=Int
def StiIsStream_0:CiIsStream_0->ViIsStream_0->St
 | (a,b,d),e=>⟨52,1,[(1,cP 0),(22,.c (.l 3 (.i .i64) a)),(23,cI b),(24,cI e)],[(0,.var (avs T0 d))]⟩
noncomputable def BiIsStream_0 {R:Type} (k:Nat) (X0:ViIsStream_0->Int->Int->Option R) (X1:ViIsStream_0->Int->Option R) (X2:ViIsStream_0->Int->Option R) (X3:ViIsStream_0->Option R) (c0:CiIsStream_0) (rec:ViIsStream_0->Option R) (v0:ViIsStream_0):Option R:=if (decide (v0<c0.2.1))=true then if 0<=v0 then ix c0.1 v0.toNat fun x3=>if ((decide (x3<=c0.2.2.2.1))==false)=true then if ((decide (x3>9999))==false)=true then if ((decide (v0>0))==true)=true then if 0<=(i64.wrap (v0-1)) then ix c0.2.2.2.2 ((i64.wrap (v0-1)).toNat) fun x4=>if (decide (x3<=x4))=true then X0 v0 x3 x4 else rec (i64.wrap (v0+1)) else none else rec (i64.wrap (v0+1)) else X1 v0 x3 else X2 v0 x3 else none else X3 v0
noncomputable def LiIsStream_0 {R:Type} (k:Nat) (X0:ViIsStream_0->Int->Int->Option R) (X1:ViIsStream_0->Int->Option R) (X2:ViIsStream_0->Int->Option R) (X3:ViIsStream_0->Option R) (c:CiIsStream_0):Nat->ViIsStream_0->Option R
 | 0,_=>none
 | n+1,v=>BiIsStream_0 k X0 X1 X2 X3 c (LiIsStream_0 k X0 X1 X2 X3 c n) v
noncomputable def fiIsStream_0 {R:Type} (k:Nat) (K:Ex->St->Option R) (c:CiIsStream_0):=lpf E k 322 Tryz.f322 0 [0,1,22,23,24] (StiIsStream_0 c) K
theorem qiIsStream_0 (k:Nat) (K:Ex->St->Option R) (X0 X1 X2 X3 c) (h:QL (fiIsStream_0 k K c) (BiIsStream_0 k X0 X1 X2 X3 c)) (v):LiIsStream_0 k X0 X1 X2 X3 c k v=fiIsStream_0 k K c k v:=lq h (fun _ _=>rfl) (fun _=>rfl) (fun _=>rfl) k v
noncomputable def NiIsStream:Ex->St->Option (Bool):=C1 E (rs 322) Tryz.f322
theorem eiIsStream (k:Nat) (a0):FiIsStream (k+1) a0=(FiInRange k a0.1 0 10000).bind fun p1=>if ((!p1)==false)=true then (FiInRange k a0.2.1 0 10000).bind fun p2=>if ((!p2)==false)=true then if (decide ((a0.2.2.length:Int)>20))=true then some false else LiIsStream_0 k (fun (v0:Int) (x3:Int) (x4:Int)=>some false) (fun (v0:Int) (x3:Int)=>some false) (fun (v0:Int) (x3:Int)=>some false) (fun (v0:Int)=>some true) (a0.2.2,(a0.2.2.length:Int),a0) k 0 else some false else some false:=by
 simp (disch:=(refine QL.mk fun n0 v=> ?_;kernel_rfl)) only [↓qiIsStream_0 k (kon0 E k 322 Tryz.f322 0 NiIsStream)]
 kernel_rfl
noncomputable def FicloneStream (k:Nat) (a0:Int×Int×List Int):Option (Int×Int×List Int):=den E k 253 [.agg (avs T0 a0)]
theorem eicloneStream (k:Nat) (a0):FicloneStream (k+1) a0=(FgClone_int k a0.2.2).bind fun p1=>some (a0.1,a0.2.1,p1):=by kernel_rfl
noncomputable def FiAcceptSeq (k:Nat) (a0:Int×Int×List Int) (a1:Int):Option ((Int×Int×List Int)×(List Int)×Bool):=den E k 259 [.agg (avs T0 a0),cI a1]
abbrev CiAcceptSeq_0:=(Int×Int×List Int)×Int×Int×Int
abbrev ViAcceptSeq_0:=Int×(List Int)×(List Int)
def StiAcceptSeq_0:CiAcceptSeq_0->ViAcceptSeq_0->St
 | (a,b,d,e),(f,g,h)=>⟨85,5,[(2,cP 0),(4,cP 1),(7,cP 2),(8,.c (.ref 3))],[(0,.var (avs T0 a)),(1,.var [vI b,vI d,.v (.slice none 0 0)]),(2,.var [vI e,vI f,.ref 4]),(3,.arr 3 (.i .i64) g),(4,.arr 3 (.i .i64) h)]⟩
noncomputable def BiAcceptSeq_0 {R:Type} (k:Nat) (X0:ViAcceptSeq_0->Int->Option R) (X1:ViAcceptSeq_0->Option R) (c0:CiAcceptSeq_0) (rec:ViAcceptSeq_0->Option R) (v0:ViAcceptSeq_0):Option R:=if ((decide ((v0.2.2.length:Int)>0))==true)=true then if 0<(v0.2.2.length:Int) then ix v0.2.2 ((0:Int).toNat) fun x8=>if (x8==v0.1)=true then if (v0.2.1.length+([v0.1]).length)*8<=140737488355328 then if 1<=(v0.2.2.length:Int) then if (v0.2.2.length:Int)<=(v0.2.2.length:Int) then rec ((i64.wrap (v0.1+1)),(v0.2.1++[v0.1]),((v0.2.2.take ((v0.2.2.length:Int).toNat)).drop ((1:Int).toNat))) else none else none else none else X0 v0 x8 else none else X1 v0
noncomputable def LiAcceptSeq_0 {R:Type} (k:Nat) (X0:ViAcceptSeq_0->Int->Option R) (X1:ViAcceptSeq_0->Option R) (c:CiAcceptSeq_0):Nat->ViAcceptSeq_0->Option R
 | 0,_=>none
 | n+1,v=>BiAcceptSeq_0 k X0 X1 c (LiAcceptSeq_0 k X0 X1 c n) v
noncomputable def fiAcceptSeq_0 {R:Type} (k:Nat) (K:Ex->St->Option R) (c:CiAcceptSeq_0):=lpf E k 259 Tryz.f259 0 [0,2,4,7,8] (StiAcceptSeq_0 c) K
theorem qiAcceptSeq_0 (k:Nat) (K:Ex->St->Option R) (X0 X1 c) (h:QL (fiAcceptSeq_0 k K c) (BiAcceptSeq_0 k X0 X1 c)) (v):LiAcceptSeq_0 k X0 X1 c k v=fiAcceptSeq_0 k K c k v:=lq h (fun _ _=>rfl) (fun _=>rfl) (fun _=>rfl) k v
noncomputable def NiAcceptSeq:Ex->St->Option ((Int×Int×List Int)×(List Int)×Bool):=C1 E (rs 259) Tryz.f259
theorem eiAcceptSeq (k:Nat) (a0 a1):FiAcceptSeq (k+1) a0 a1=(FiIsStream k a0).bind fun p1=>if ((!p1)==false)=true then (FiInRange k a1 0 9999).bind fun p2=>if (!p2)=true then (FicloneStream k a0).bind fun p3=>some (p3,[],false) else (FicloneStream k a0).bind fun p4=>if ((decide (a1<a0.2.1))==false)=true then (FgContains_int k a0.2.2 a1).bind fun p5=>if p5=true then some (p4,[],true) else (FgBinarySearch_int k p4.2.2 a1).bind fun p6=>(FgInsert_int k p4.2.2 p6.1 [a1]).bind fun p7=>LiAcceptSeq_0 k (fun v0 (x8:Int)=>(FiIsStream k (p4.1,v0.1,v0.2.2)).bind fun p9=>if (!p9)=true then (FicloneStream k a0).bind fun p10=>some (p10,[],false) else some ((p4.1,v0.1,v0.2.2),v0.2.1,true)) (fun v0=>(FiIsStream k (p4.1,v0.1,v0.2.2)).bind fun p11=>if (!p11)=true then (FicloneStream k a0).bind fun p12=>some (p12,[],false) else some ((p4.1,v0.1,v0.2.2),v0.2.1,true)) (a0,0,0,p4.1) k (p4.2.1,[],p7) else some (p4,[],true) else (FicloneStream k a0).bind fun p13=>some (p13,[],false):=by
 simp (disch:=(refine QL.mk fun n0 v=> ?_;kernel_rfl)) only [↓qiAcceptSeq_0 k (kon0 E k 259 Tryz.f259 0 NiAcceptSeq)]
 kernel_rfl
noncomputable def FiFindPacket_1v (k:Nat) (a0:I6) (a1:Int):Option (Bool):=den E k 343 [.agg (avs sI6 a0),.c (.at_ [vI a1])]
theorem eiFindPacket_1v (k:Nat) (a0 a1):FiFindPacket_1v (k+1) a0 a1=some (a0.1==a1):=by kernel_rfl
noncomputable def FgIndexFunc_Packetv_iFindPacket_1 (k:Nat) (a0:List I6) (a1:Int):Option (Int):=den E k 342 [.c (.l 229 sI6 a0),.c (.clo 343 [.at_ [vI a1]])]
abbrev CgIndexFunc_Packetv_iFindPacket_1_0:=(List I6)×Int×Int
abbrev M0:=Int
def StgIndexFunc_Packetv_iFindPacket_1_0:CgIndexFunc_Packetv_iFindPacket_1_0->M0->St
 | (a,b,d),e=>⟨19,0,[(0,.c (.l 229 sI6 a)),(1,.c (.clo 343 [.at_ [vI b]])),(7,cI d),(8,cI e)],[]⟩
noncomputable def BgIndexFunc_Packetv_iFindPacket_1_0 {R:Type} (k:Nat) (X0:M0->I6->Bool->Option R) (X1:M0->Option R) (c0:CgIndexFunc_Packetv_iFindPacket_1_0) (rec:M0->Option R) (v0:M0):Option R:=if (decide (v0<c0.2.2))=true then if 0<=v0 then ix c0.1 v0.toNat fun x1=>(FiFindPacket_1v k x1 c0.2.1).bind fun p2=>if p2=true then X0 v0 x1 p2 else rec (i64.wrap (v0+1)) else none else X1 v0
noncomputable def LgIndexFunc_Packetv_iFindPacket_1_0 {R:Type} (k:Nat) (X0:M0->I6->Bool->Option R) (X1:M0->Option R) (c:CgIndexFunc_Packetv_iFindPacket_1_0):Nat->M0->Option R
 | 0,_=>none
 | n+1,v=>BgIndexFunc_Packetv_iFindPacket_1_0 k X0 X1 c (LgIndexFunc_Packetv_iFindPacket_1_0 k X0 X1 c n) v
noncomputable def fgIndexFunc_Packetv_iFindPacket_1_0 {R:Type} (k:Nat) (K:Ex->St->Option R) (c:CgIndexFunc_Packetv_iFindPacket_1_0):=lpf E k 342 Tryz.f342 0 [0,0,1,7,8] (StgIndexFunc_Packetv_iFindPacket_1_0 c) K
theorem qgIndexFunc_Packetv_iFindPacket_1_0 (k:Nat) (K:Ex->St->Option R) (X0 X1 c) (h:QL (fgIndexFunc_Packetv_iFindPacket_1_0 k K c) (BgIndexFunc_Packetv_iFindPacket_1_0 k X0 X1 c)) (v):LgIndexFunc_Packetv_iFindPacket_1_0 k X0 X1 c k v=fgIndexFunc_Packetv_iFindPacket_1_0 k K c k v:=lq h (fun _ _=>rfl) (fun _=>rfl) (fun _=>rfl) k v
noncomputable def NgIndexFunc_Packetv_iFindPacket_1:Ex->St->Option (Int):=C1 E (rs 342) Tryz.f342
theorem egIndexFunc_Packetv_iFindPacket_1 (k:Nat) (a0 a1):FgIndexFunc_Packetv_iFindPacket_1 (k+1) a0 a1=LgIndexFunc_Packetv_iFindPacket_1_0 k (fun (v0:Int) x1 p2=>some v0) (fun (v0:Int)=>some (-1)) (a0,a1,(a0.length:Int)) k 0:=by
 simp (disch:=(refine QL.mk fun n0 v=> ?_;kernel_rfl)) only [↓qgIndexFunc_Packetv_iFindPacket_1_0 k (kon0 E k 342 Tryz.f342 0 NgIndexFunc_Packetv_iFindPacket_1)]
 kernel_rfl
noncomputable def FiFindPacket (k:Nat) (a0:List I6) (a1:Int):Option (Int):=den E k 257 [.agg [.l 229 sI6 a0],cI a1]
theorem eiFindPacket (k:Nat) (a0 a1):FiFindPacket (k+1) a0 a1=(FgIndexFunc_Packetv_iFindPacket_1 k a0 a1).bind fun p1=>some p1:=by kernel_rfl
noncomputable def FgClone_Packet (k:Nat) (a0:List I6):Option (List I6):=den E k 250 [.c (.l 229 sI6 a0)]
theorem egClone_Packet (k:Nat) (a0):FgClone_Packet (k+1) a0=agree (a0.isEmpty) (some ([])) (if (0+a0.length)*48<=140737488355328 then some a0 else none):=by kernel_rfl
noncomputable def FicloneQueue (k:Nat) (a0:List I6):Option (List I6):=den E k 252 [.agg [.l 229 sI6 a0]]
theorem eicloneQueue (k:Nat) (a0):FicloneQueue (k+1) a0=(FgClone_Packet k a0).bind fun p1=>some p1:=by kernel_rfl
noncomputable def FiPushPacket (k:Nat) (a0:List I6) (a1:I6):Option ((List I6)×Bool):=den E k 260 [.agg [.l 229 sI6 a0],.agg (avs sI6 a1)]
theorem eiPushPacket (k:Nat) (a0 a1):FiPushPacket (k+1) a0 a1=(FicloneQueue k a0).bind fun p1=>if ((decide ((a0.length:Int)>=12))==false)=true then (FiFindPacket k a0 a1.1).bind fun p2=>if (decide (p2>=0))=true then some (p1,false) else if (p1.length+([a1]).length)*48<=140737488355328 then some ((p1++[a1]),true) else none else some (p1,false):=by kernel_rfl
noncomputable def FgDelete_Packet (k:Nat) (a0:List I6) (a1:Int) (a2:Int):Option (List I6):=den E k 341 [.c (.l 229 sI6 a0),cI a1,cI a2]
theorem egDelete_Packet (k:Nat) (a0 a1 a2):FgDelete_Packet (k+1) a0 a1 a2=if 0<=a1 then if a1<a2 then if a2<=(a0.length:Int) then some (a0.take a1.toNat++a0.drop a2.toNat) else none else none else none:=by kernel_rfl
noncomputable def FiTakePacket (k:Nat) (a0:List I6) (a1:Int):Option ((List I6)×I6×Bool):=den E k 256 [.agg [.l 229 sI6 a0],cI a1]
theorem eiTakePacket (k:Nat) (a0 a1):FiTakePacket (k+1) a0 a1=(FicloneQueue k a0).bind fun p1=>(FiisIndex k a1 (a0.length:Int)).bind fun p2=>if (!p2)=true then some (p1,(0,0,0,0,0,0),false) else (FgDelete_Packet k p1 a1 (i64.wrap (a1+1))).bind fun p3=>if 0<=a1 then ix a0 a1.toNat fun x4=>some (p3,x4,true) else none:=by kernel_rfl
noncomputable def FgClone_Battery (k:Nat) (a0:List I6):Option (List I6):=den E k 247 [.c (.l 119 sI6 a0)]
theorem egClone_Battery (k:Nat) (a0):FgClone_Battery (k+1) a0=agree (a0.isEmpty) (some ([])) (if (0+a0.length)*48<=140737488355328 then some a0 else none):=by kernel_rfl
noncomputable def FgClone_Fault (k:Nat) (a0:List I4):Option (List I4):=den E k 249 [.c (.l 90 sI4 a0)]
theorem egClone_Fault (k:Nat) (a0):FgClone_Fault (k+1) a0=agree (a0.isEmpty) (some ([])) (if (0+a0.length)*32<=140737488355328 then some a0 else none):=by kernel_rfl
noncomputable def FgClone_Flow (k:Nat) (a0:List I4):Option (List I4):=den E k 248 [.c (.l 89 sI4 a0)]
theorem egClone_Flow (k:Nat) (a0):FgClone_Flow (k+1) a0=agree (a0.isEmpty) (some ([])) (if (0+a0.length)*32<=140737488355328 then some a0 else none):=by kernel_rfl
noncomputable def FgClone_Sent (k:Nat) (a0:List I4):Option (List I4):=den E k 251 [.c (.l 168 sI4 a0)]
theorem egClone_Sent (k:Nat) (a0):FgClone_Sent (k+1) a0=agree (a0.isEmpty) (some ([])) (if (0+a0.length)*32<=140737488355328 then some a0 else none):=by kernel_rfl
noncomputable def FgClone_Link (k:Nat) (a0:List I2):Option (List I2):=den E k 404 [.c (.l 288 sI2 a0)]
theorem egClone_Link (k:Nat) (a0):FgClone_Link (k+1) a0=agree (a0.isEmpty) (some ([])) (if (0+a0.length)*16<=140737488355328 then some a0 else none):=by kernel_rfl
noncomputable def FicloneLinks (k:Nat) (a0:List I2):Option (List I2):=den E k 336 [.c (.l 288 sI2 a0)]
theorem eicloneLinks (k:Nat) (a0):FicloneLinks (k+1) a0=(FgClone_Link k a0).bind fun p1=>some p1:=by kernel_rfl
noncomputable def FicloneProgram (k:Nat) (a0:W0):Option W0:=den E k 246 [.agg (avs m0 a0)]
abbrev CicloneProgram_1:=(List TPiece)×Int×Int×(List (Int×(List Int)×List Int))×Int×W0×Int×Int×Int×(List TPiece)×I2×(List I2)
abbrev VicloneProgram_1:=Int×(List (Int×(List Int)×List Int))
def SticloneProgram_1:CicloneProgram_1->VicloneProgram_1->St
 | (a,b,d,e,f,g,h,i,j,k,m,n),(o,p)=>⟨46,6,[(1,cP 0),(2,cP 1),(3,.c (.ref 2)),(6,cP 3),(11,.c (.l 198 sPiece a)),(12,cI b),(13,cI d),(24,.c (.l 290 sTable e)),(25,cI f),(26,cI o)],[(0,.var (avs m0 g)),(1,.var [vI h,vI i,vI j,.v (.slice none 0 0)]),(2,.arr 198 sPiece k),(3,.var [vI m.1,vI m.2,.ref 4,.ref 5]),(4,.arr 288 sI2 n),(5,.arr 290 sTable p)]⟩
noncomputable def BicloneProgram_1 {R:Type} (k:Nat) (X0:VicloneProgram_1->Option R) (c1:CicloneProgram_1) (rec:VicloneProgram_1->Option R) (v1:VicloneProgram_1):Option R:=if (decide (v1.1<c1.2.2.2.2.1))=true then if 0<=v1.1 then ix c1.2.2.2.1 v1.1.toNat fun x3=>(FicloneTable k x3).bind fun p4=>if (v1.2.length+([p4]).length)*56<=140737488355328 then rec ((i64.wrap (v1.1+1)),(v1.2++[p4])) else none else none else X0 v1
noncomputable def LicloneProgram_1 {R:Type} (k:Nat) (X0:VicloneProgram_1->Option R) (c:CicloneProgram_1):Nat->VicloneProgram_1->Option R
 | 0,_=>none
 | n+1,v=>BicloneProgram_1 k X0 c (LicloneProgram_1 k X0 c n) v
noncomputable def ficloneProgram_1 {R:Type} (k:Nat) (K:Ex->St->Option R) (c:CicloneProgram_1):=lpf E k 246 Tryz.f246 1 [0,1,2,3,6,11,12,13,24,25,26] (SticloneProgram_1 c) K
theorem qicloneProgram_1 (k:Nat) (K:Ex->St->Option R) (X0 c) (h:QL (ficloneProgram_1 k K c) (BicloneProgram_1 k X0 c)) (v):LicloneProgram_1 k X0 c k v=ficloneProgram_1 k K c k v:=lq h (fun _ _=>rfl) (fun _=>rfl) (fun _=>rfl) k v
abbrev CicloneProgram_0:=(List TPiece)×Int×W0×Int×Int×Int
abbrev VicloneProgram_0:=Int×(List TPiece)
def SticloneProgram_0:CicloneProgram_0->VicloneProgram_0->St
 | (a,b,d,e,f,g),(h,i)=>⟨46,3,[(1,cP 0),(2,cP 1),(3,.c (.ref 2)),(11,.c (.l 198 sPiece a)),(12,cI b),(13,cI h)],[(0,.var (avs m0 d)),(1,.var [vI e,vI f,vI g,.v (.slice none 0 0)]),(2,.arr 198 sPiece i)]⟩
noncomputable def BicloneProgram_0 {R:Type} (k:Nat) (X0:VicloneProgram_0->Option R) (c0:CicloneProgram_0) (rec:VicloneProgram_0->Option R) (v0:VicloneProgram_0):Option R:=if (decide (v0.1<c0.2.1))=true then if 0<=v0.1 then ix c0.1 v0.1.toNat fun x1=>(FicloneLinks k x1.2.1).bind fun p2=>LicloneProgram_1 k (fun v1=>if (v0.2.length+([(x1.1,p2,v1.2)]).length)*64<=140737488355328 then rec ((i64.wrap (v0.1+1)),(v0.2++[(x1.1,p2,v1.2)])) else none) (c0.1,c0.2.1,v0.1,x1.2.2,(x1.2.2.length:Int),c0.2.2.1,c0.2.2.2.1,c0.2.2.2.2.1,c0.2.2.2.2.2,v0.2,x1.1,p2) k (0,[]) else none else X0 v0
noncomputable def LicloneProgram_0 {R:Type} (k:Nat) (X0:VicloneProgram_0->Option R) (c:CicloneProgram_0):Nat->VicloneProgram_0->Option R
 | 0,_=>none
 | n+1,v=>BicloneProgram_0 k X0 c (LicloneProgram_0 k X0 c n) v
noncomputable def ficloneProgram_0 {R:Type} (k:Nat) (K:Ex->St->Option R) (c:CicloneProgram_0):=lpf E k 246 Tryz.f246 0 [0,1,2,3,11,12,13] (SticloneProgram_0 c) K
theorem qicloneProgram_0 (k:Nat) (K:Ex->St->Option R) (X0 c) (h:QL (ficloneProgram_0 k K c) (BicloneProgram_0 k X0 c)) (v):LicloneProgram_0 k X0 c k v=ficloneProgram_0 k K c k v:=lq h (fun _ _=>rfl) (fun _=>rfl) (fun _=>rfl) k v
noncomputable def NicloneProgram:Ex->St->Option W0:=C1 E (rs 246) Tryz.f246
theorem eicloneProgram (k:Nat) (a0):FicloneProgram (k+1) a0=LicloneProgram_0 k (fun v0=>some (a0.1,a0.2.1,a0.2.2.1,v0.2)) (a0.2.2.2,(a0.2.2.2.length:Int),a0,0,0,0) k (0,[]):=by
 simp (maxSteps:=9999999) (disch:=(refine QL.mk fun n0 v=> ?_;unfold BicloneProgram_0;simp (maxSteps:=9999999) (disch:=(refine QL.mk fun n1 v=> ?_;kernel_rfl)) only [↓qicloneProgram_1 (R:=Int×Int×Int×List TPiece) k (kon1 E k 246 Tryz.f246 0 1 n0 [0,1,2,3,11,12,13] (kon0 E k 246 Tryz.f246 0 NicloneProgram))];kernel_rfl)) only [↓qicloneProgram_0 (R:=Int×Int×Int×List TPiece) k (kon0 E k 246 Tryz.f246 0 NicloneProgram)]
 kernel_rfl
noncomputable def FgClone_Sat (k:Nat) (a0:List I4):Option (List I4):=den E k 178 [.c (.l 181 sI4 a0)]
theorem egClone_Sat (k:Nat) (a0):FgClone_Sat (k+1) a0=agree (a0.isEmpty) (some ([])) (if (0+a0.length)*32<=140737488355328 then some a0 else none):=by kernel_rfl
noncomputable def FgClone_Site (k:Nat) (a0:List I3):Option (List I3):=den E k 179 [.c (.l 183 sI3 a0)]
theorem egClone_Site (k:Nat) (a0):FgClone_Site (k+1) a0=agree (a0.isEmpty) (some ([])) (if (0+a0.length)*24<=140737488355328 then some a0 else none):=by kernel_rfl
noncomputable def FgClone_Zone (k:Nat) (a0:List I3):Option (List I3):=den E k 180 [.c (.l 188 sZone a0)]
theorem egClone_Zone (k:Nat) (a0):FgClone_Zone (k+1) a0=agree (a0.isEmpty) (some ([])) (if (0+a0.length)*24<=140737488355328 then some a0 else none):=by kernel_rfl
noncomputable def FicloneSky (k:Nat) (a0:TSky):Option TSky:=den E k 66 [.agg (avs sSky a0)]
theorem eicloneSky (k:Nat) (a0):FicloneSky (k+1) a0=(FgClone_Sat k a0.2.1).bind fun p1=>(FgClone_Site k a0.2.2.1).bind fun p2=>(FgClone_Zone k a0.2.2.2.2.2.2.2.2.1).bind fun p3=>some (a0.1,p1,p2,a0.2.2.2.1,a0.2.2.2.2.1,a0.2.2.2.2.2.1,a0.2.2.2.2.2.2.1,a0.2.2.2.2.2.2.2.1,p3,a0.2.2.2.2.2.2.2.2.2):=by kernel_rfl
noncomputable def FicloneWorld (k:Nat) (a0:z2):Option z2:=den E k 137 [.agg (avs Q0 a0)]
abbrev CicloneWorld_1:=z2×(List (List I6))×Int×Int×(List (Int×Int×List Int))×Int×Int×Int×Int×Int×Int×Int×Int×Int×Int×Int×Int×Int×Int×Int×Int×Int×Int×Int×Int×Int×Int×Int×Int×Int×(List I4)×(List I3)×(List I3)×(List TPiece)×(List Int)×(List Int)×(List I6)×(List (List I6))×(List I4)×(List Int)×(List I4)×(List I6)×(List I4)
abbrev VicloneWorld_1:=Int×(List (Int×Int×List Int))
def SticloneWorld_1:CicloneWorld_1->VicloneWorld_1->St
 | (a,b,d,e,f,g,h,j,k,m,n,o,p,q,r,s,t,u,w,x,y,z,A,B,C,D,F,G,H,I,J,L,M,N,O,P,Q,R,S,T,U,V,W),(X,Y)=>⟨84,16,[(1,.c (.at_ (avs Q0 a))),(2,cP 0),(3,cP 1),(54,.c (.l 117 J0 b)),(55,cI d),(56,cI e),(69,.c (.l 225 T0 f)),(70,cI g),(71,cI X)],[(0,.var [vI h,.v (.slice none 0 0),.v (.slice none 0 0),vI j,vI k,vI m,vI n,vI o,.v (.slice none 0 0),vI p,vI q,vI r,vI s,.v (.slice none 0 0),.v (.slice none 0 0),.v (.slice none 0 0),.v (.slice none 0 0),.v (.slice none 0 0),.v (.slice none 0 0),.v (.slice none 0 0),.v (.slice none 0 0),.v (.slice none 0 0),vI t,vI u,.v (.slice none 0 0),.v (.slice none 0 0)]),(1,.var [vI w,.ref 2,.ref 3,vI x,vI y,vI z,vI A,vI B,.ref 4,vI C,vI D,vI F,vI G,.ref 5,.ref 6,.ref 7,.ref 8,.ref 9,.ref 10,.ref 11,.ref 12,.ref 13,vI H,vI I,.ref 14,.ref 15]),(2,.arr 181 sI4 J),(3,.arr 183 sI3 L),(4,.arr 188 sZone M),(5,.arr 198 sPiece N),(6,.arr 3 (.i .i64) O),(7,.arr 3 (.i .i64) P),(8,.arr 119 sI6 Q),(9,.arr 117 J0 R),(10,.arr 89 sI4 S),(11,.arr 3 (.i .i64) T),(12,.arr 225 T0 Y),(13,.arr 90 sI4 U),(14,.arr 229 sI6 V),(15,.arr 168 sI4 W)]⟩
noncomputable def BicloneWorld_1 {R:Type} (k:Nat) (X0:VicloneWorld_1->Option R) (c1:CicloneWorld_1) (rec:VicloneWorld_1->Option R) (v1:VicloneWorld_1):Option R:=if (decide (v1.1<c1.2.2.2.2.2.1))=true then if 0<=v1.1 then ix c1.2.2.2.2.1 v1.1.toNat fun x13=>(FicloneStream k x13).bind fun p14=>if (v1.2.length+([p14]).length)*40<=140737488355328 then rec ((i64.wrap (v1.1+1)),(v1.2++[p14])) else none else none else X0 v1
noncomputable def LicloneWorld_1 {R:Type} (k:Nat) (X0:VicloneWorld_1->Option R) (c:CicloneWorld_1):Nat->VicloneWorld_1->Option R
 | 0,_=>none
 | n+1,v=>BicloneWorld_1 k X0 c (LicloneWorld_1 k X0 c n) v
noncomputable def ficloneWorld_1 {R:Type} (k:Nat) (K:Ex->St->Option R) (c:CicloneWorld_1):=lpf E k 137 Tryz.f137 1 [0,1,2,3,54,55,56,69,70,71] (SticloneWorld_1 c) K
theorem qicloneWorld_1 (k:Nat) (K:Ex->St->Option R) (X0 c) (h:QL (ficloneWorld_1 k K c) (BicloneWorld_1 k X0 c)) (v):LicloneWorld_1 k X0 c k v=ficloneWorld_1 k K c k v:=lq h (fun _ _=>rfl) (fun _=>rfl) (fun _=>rfl) k v
abbrev CicloneWorld_0:=z2×(List (List I6))×Int×Int×Int×Int×Int×Int×Int×Int×Int×Int×Int×Int×Int×Int×Int×Int×Int×Int×Int×Int×Int×Int×Int×Int×Int×(List I4)×(List I3)×(List I3)×(List TPiece)×(List Int)×(List Int)×(List I6)×(List I4)×(List Int)×(List (Int×Int×List Int))×(List I4)×(List I6)×(List I4)
abbrev VicloneWorld_0:=Int×(List (List I6))
def SticloneWorld_0:CicloneWorld_0->VicloneWorld_0->St
 | (a,b,d,e,f,g,h,j,k,m,n,o,p,q,r,s,t,u,w,x,y,z,A,B,C,D,F,G,H,I,J,L,M,N,O,P,Q,R,S,T),(U,V)=>⟨84,16,[(1,.c (.at_ (avs Q0 a))),(2,cP 0),(3,cP 1),(54,.c (.l 117 J0 b)),(55,cI d),(56,cI U)],[(0,.var [vI e,.v (.slice none 0 0),.v (.slice none 0 0),vI f,vI g,vI h,vI j,vI k,.v (.slice none 0 0),vI m,vI n,vI o,vI p,.v (.slice none 0 0),.v (.slice none 0 0),.v (.slice none 0 0),.v (.slice none 0 0),.v (.slice none 0 0),.v (.slice none 0 0),.v (.slice none 0 0),.v (.slice none 0 0),.v (.slice none 0 0),vI q,vI r,.v (.slice none 0 0),.v (.slice none 0 0)]),(1,.var [vI s,.ref 2,.ref 3,vI t,vI u,vI w,vI x,vI y,.ref 4,vI z,vI A,vI B,vI C,.ref 5,.ref 6,.ref 7,.ref 8,.ref 9,.ref 10,.ref 11,.ref 12,.ref 13,vI D,vI F,.ref 14,.ref 15]),(2,.arr 181 sI4 G),(3,.arr 183 sI3 H),(4,.arr 188 sZone I),(5,.arr 198 sPiece J),(6,.arr 3 (.i .i64) L),(7,.arr 3 (.i .i64) M),(8,.arr 119 sI6 N),(9,.arr 117 J0 V),(10,.arr 89 sI4 O),(11,.arr 3 (.i .i64) P),(12,.arr 225 T0 Q),(13,.arr 90 sI4 R),(14,.arr 229 sI6 S),(15,.arr 168 sI4 T)]⟩
noncomputable def BicloneWorld_0 {R:Type} (k:Nat) (X0:VicloneWorld_0->Option R) (c0:CicloneWorld_0) (rec:VicloneWorld_0->Option R) (v0:VicloneWorld_0):Option R:=if (decide (v0.1<c0.2.2.1))=true then if 0<=v0.1 then ix c0.2.1 v0.1.toNat fun x11=>(FicloneQueue k x11).bind fun p12=>if (v0.2.length+([p12]).length)*24<=140737488355328 then rec ((i64.wrap (v0.1+1)),(v0.2++[p12])) else none else none else X0 v0
noncomputable def LicloneWorld_0 {R:Type} (k:Nat) (X0:VicloneWorld_0->Option R) (c:CicloneWorld_0):Nat->VicloneWorld_0->Option R
 | 0,_=>none
 | n+1,v=>BicloneWorld_0 k X0 c (LicloneWorld_0 k X0 c n) v
noncomputable def ficloneWorld_0 {R:Type} (k:Nat) (K:Ex->St->Option R) (c:CicloneWorld_0):=lpf E k 137 Tryz.f137 0 [0,1,2,3,54,55,56] (SticloneWorld_0 c) K
theorem qicloneWorld_0 (k:Nat) (K:Ex->St->Option R) (X0 c) (h:QL (ficloneWorld_0 k K c) (BicloneWorld_0 k X0 c)) (v):LicloneWorld_0 k X0 c k v=ficloneWorld_0 k K c k v:=lq h (fun _ _=>rfl) (fun _=>rfl) (fun _=>rfl) k v
noncomputable def NicloneWorld:Ex->St->Option z2:=C1 E (rs 137) Tryz.f137
theorem eicloneWorld (k:Nat) (a0):FicloneWorld (k+1) a0=(FicloneSky k a0.1).bind fun p1=>(FicloneProgram k a0.2.1).bind fun p2=>(FgClone_int k a0.2.2.1).bind fun p3=>(FgClone_int k a0.2.2.2.1).bind fun p4=>(FgClone_Battery k a0.2.2.2.2.1).bind fun p5=>(FgClone_Flow k a0.2.2.2.2.2.2.1).bind fun p6=>(FgClone_int k a0.2.2.2.2.2.2.2.1).bind fun p7=>(FgClone_Fault k a0.2.2.2.2.2.2.2.2.2.1).bind fun p8=>(FgClone_Packet k a0.2.2.2.2.2.2.2.2.2.2.2.2.1).bind fun p9=>(FgClone_Sent k a0.2.2.2.2.2.2.2.2.2.2.2.2.2).bind fun p10=>LicloneWorld_0 k (fun v0=>LicloneWorld_1 k (fun v1=>some (p1,p2,p3,p4,p5,v0.2,p6,p7,v1.2,p8,a0.2.2.2.2.2.2.2.2.2.2.1,a0.2.2.2.2.2.2.2.2.2.2.2.1,p9,p10)) (a0,a0.2.2.2.2.2.1,(a0.2.2.2.2.2.1.length:Int),v0.1,a0.2.2.2.2.2.2.2.2.1,(a0.2.2.2.2.2.2.2.2.1.length:Int),0,0,0,0,0,0,0,0,0,0,0,0,p1.1,p1.2.2.2.1,p1.2.2.2.2.1,p1.2.2.2.2.2.1,p1.2.2.2.2.2.2.1,p1.2.2.2.2.2.2.2.1,p1.2.2.2.2.2.2.2.2.2,p2.1,p2.2.1,p2.2.2.1,a0.2.2.2.2.2.2.2.2.2.2.1,a0.2.2.2.2.2.2.2.2.2.2.2.1,p1.2.1,p1.2.2.1,p1.2.2.2.2.2.2.2.2.1,p2.2.2.2,p3,p4,p5,v0.2,p6,p7,p8,p9,p10) k (0,([]))) (a0,a0.2.2.2.2.2.1,(a0.2.2.2.2.2.1.length:Int),0,0,0,0,0,0,0,0,0,0,0,0,p1.1,p1.2.2.2.1,p1.2.2.2.2.1,p1.2.2.2.2.2.1,p1.2.2.2.2.2.2.1,p1.2.2.2.2.2.2.2.1,p1.2.2.2.2.2.2.2.2.2,p2.1,p2.2.1,p2.2.2.1,a0.2.2.2.2.2.2.2.2.2.2.1,a0.2.2.2.2.2.2.2.2.2.2.2.1,p1.2.1,p1.2.2.1,p1.2.2.2.2.2.2.2.2.1,p2.2.2.2,p3,p4,p5,p6,p7,[],p8,p9,p10) k (0,[]):=by
 simp (maxSteps:=9999999) (disch:=(refine QL.mk fun n0 v=> ?_;unfold BicloneWorld_0;simp (maxSteps:=9999999) (disch:=(refine QL.mk fun n1 v=> ?_;kernel_rfl)) only [↓qicloneWorld_1 (R:=TSky×W0×(List Int)×(List Int)×(List I6)×(List (List I6))×(List I4)×(List Int)×(List (Int×Int×List Int))×(List I4)×Int×Int×(List I6)×List I4) k (kon0 E k 137 Tryz.f137 1 NicloneWorld)];kernel_rfl)) only [↓qicloneWorld_0 (R:=TSky×W0×(List Int)×(List Int)×(List I6)×(List (List I6))×(List I4)×(List Int)×(List (Int×Int×List Int))×(List I4)×Int×Int×(List I6)×List I4) k (kon0 E k 137 Tryz.f137 0 NicloneWorld)]
 kernel_rfl
noncomputable def FiflowAt_1v (k:Nat) (a0:I4) (a1:Int):Option (Bool):=den E k 345 [.agg (avs sI4 a0),.c (.at_ [vI a1])]
theorem eiflowAt_1v (k:Nat) (a0 a1):FiflowAt_1v (k+1) a0 a1=some (a0.1==a1):=by kernel_rfl
noncomputable def FgIndexFunc_Flowv_iflowAt_1 (k:Nat) (a0:List I4) (a1:Int):Option (Int):=den E k 344 [.c (.l 89 sI4 a0),.c (.clo 345 [.at_ [vI a1]])]
abbrev CgIndexFunc_Flowv_iflowAt_1_0:=(List I4)×Int×Int
abbrev O1:=Int
def StgIndexFunc_Flowv_iflowAt_1_0:CgIndexFunc_Flowv_iflowAt_1_0->O1->St
 | (a,b,d),e=>⟨19,0,[(0,.c (.l 89 sI4 a)),(1,.c (.clo 345 [.at_ [vI b]])),(7,cI d),(8,cI e)],[]⟩
noncomputable def BgIndexFunc_Flowv_iflowAt_1_0 {R:Type} (k:Nat) (X0:O1->I4->Bool->Option R) (X1:O1->Option R) (c0:CgIndexFunc_Flowv_iflowAt_1_0) (rec:O1->Option R) (v0:O1):Option R:=if (decide (v0<c0.2.2))=true then if 0<=v0 then ix c0.1 v0.toNat fun x1=>(FiflowAt_1v k x1 c0.2.1).bind fun p2=>if p2=true then X0 v0 x1 p2 else rec (i64.wrap (v0+1)) else none else X1 v0
noncomputable def LgIndexFunc_Flowv_iflowAt_1_0 {R:Type} (k:Nat) (X0:O1->I4->Bool->Option R) (X1:O1->Option R) (c:CgIndexFunc_Flowv_iflowAt_1_0):Nat->O1->Option R
 | 0,_=>none
 | n+1,v=>BgIndexFunc_Flowv_iflowAt_1_0 k X0 X1 c (LgIndexFunc_Flowv_iflowAt_1_0 k X0 X1 c n) v
noncomputable def fgIndexFunc_Flowv_iflowAt_1_0 {R:Type} (k:Nat) (K:Ex->St->Option R) (c:CgIndexFunc_Flowv_iflowAt_1_0):=lpf E k 344 Tryz.f344 0 [0,0,1,7,8] (StgIndexFunc_Flowv_iflowAt_1_0 c) K
theorem qgIndexFunc_Flowv_iflowAt_1_0 (k:Nat) (K:Ex->St->Option R) (X0 X1 c) (h:QL (fgIndexFunc_Flowv_iflowAt_1_0 k K c) (BgIndexFunc_Flowv_iflowAt_1_0 k X0 X1 c)) (v):LgIndexFunc_Flowv_iflowAt_1_0 k X0 X1 c k v=fgIndexFunc_Flowv_iflowAt_1_0 k K c k v:=lq h (fun _ _=>rfl) (fun _=>rfl) (fun _=>rfl) k v
noncomputable def NgIndexFunc_Flowv_iflowAt_1:Ex->St->Option (Int):=C1 E (rs 344) Tryz.f344
theorem egIndexFunc_Flowv_iflowAt_1 (k:Nat) (a0 a1):FgIndexFunc_Flowv_iflowAt_1 (k+1) a0 a1=LgIndexFunc_Flowv_iflowAt_1_0 k (fun (v0:Int) x1 p2=>some v0) (fun (v0:Int)=>some (-1)) (a0,a1,(a0.length:Int)) k 0:=by
 simp (disch:=(refine QL.mk fun n0 v=> ?_;kernel_rfl)) only [↓qgIndexFunc_Flowv_iflowAt_1_0 k (kon0 E k 344 Tryz.f344 0 NgIndexFunc_Flowv_iflowAt_1)]
 kernel_rfl
noncomputable def FiflowAt (k:Nat) (a0:z2) (a1:Int):Option (Int):=den E k 258 [.agg (avs Q0 a0),cI a1]
theorem eiflowAt (k:Nat) (a0 a1):FiflowAt (k+1) a0 a1=(FgIndexFunc_Flowv_iflowAt_1 k a0.2.2.2.2.2.2.1 a1).bind fun p1=>some p1:=by kernel_rfl
noncomputable def FiDeliver (k:Nat) (a0:z2) (a1:I4):Option (z2×Bool):=den E k 139 [.agg (avs Q0 a0),.agg (avs sI4 a1)]
theorem eiDeliver (k:Nat) (a0 a1):FiDeliver (k+1) a0 a1=(FiisIndex k a1.2.1 (a0.2.2.2.2.2.1.length:Int)).bind fun p1=>if ((!p1)==false)=true then (FiisIndex k a1.2.2.1 (a0.2.2.2.2.2.1.length:Int)).bind fun p2=>if ((!p2)==false)=true then if (a1.2.1==a1.2.2.1)=true then (FicloneWorld k a0).bind fun p3=>some (p3,false) else (FicloneWorld k a0).bind fun p4=>if 0<=a1.2.1 then ix a0.2.2.2.2.2.1 a1.2.1.toNat fun x5=>if 0<=a1.2.1 then ix a0.2.2.2.2.2.1 a1.2.1.toNat fun x6=>(FiFindPacket k x6 a1.2.2.2).bind fun p7=>(FiTakePacket k x5 p7).bind fun p8=>(FiflowAt k a0 p8.2.1.2.1).bind fun p9=>if ((!p8.2.2)==false)=true then if ((decide (p9<0))==false)=true then if (decide (p9>=(a0.2.2.2.2.2.2.2.2.1.length:Int)))=true then (FicloneWorld k a0).bind fun p10=>some (p10,false) else if 0<=a1.2.1 then if a1.2.1<(p4.2.2.2.2.2.1.length:Int) then ix p4.2.2.2.2.2.1 a1.2.1.toNat fun y11=>if (a1.2.2.1==p8.2.1.2.2.2.2.1)=true then if (p4.2.2.2.2.2.2.2.2.2.2.2.2.1.length+([p8.2.1]).length)*48<=140737488355328 then if 0<=p9 then ix a0.2.2.2.2.2.2.2.2.1 p9.toNat fun x12=>(FiAcceptSeq k x12 p8.2.1.2.2.1).bind fun p13=>if 0<=p9 then if p9<(p4.2.2.2.2.2.2.2.2.1.length:Int) then ix p4.2.2.2.2.2.2.2.2.1 p9.toNat fun y14=>if (!p13.2.2)=true then (FicloneWorld k a0).bind fun p15=>some (p15,false) else if (p4.2.2.2.2.2.2.2.2.2.2.2.2.2.length+([a1]).length)*32<=140737488355328 then some ((p4.1,p4.2.1,p4.2.2.1,p4.2.2.2.1,p4.2.2.2.2.1,(p4.2.2.2.2.2.1.set a1.2.1.toNat p8.1),p4.2.2.2.2.2.2.1,p4.2.2.2.2.2.2.2.1,(p4.2.2.2.2.2.2.2.2.1.set p9.toNat p13.1),p4.2.2.2.2.2.2.2.2.2.1,p4.2.2.2.2.2.2.2.2.2.2.1,p4.2.2.2.2.2.2.2.2.2.2.2.1,(p4.2.2.2.2.2.2.2.2.2.2.2.2.1++[p8.2.1]),(p4.2.2.2.2.2.2.2.2.2.2.2.2.2++[a1])),true) else none else none else none else none else none else if 0<=a1.2.2.1 then ix a0.2.2.2.2.2.1 a1.2.2.1.toNat fun x16=>(FiPushPacket k x16 p8.2.1).bind fun p17=>if 0<=a1.2.2.1 then if a1.2.2.1<((p4.2.2.2.2.2.1.set a1.2.1.toNat p8.1).length:Int) then ix (p4.2.2.2.2.2.1.set a1.2.1.toNat p8.1) a1.2.2.1.toNat fun y18=>if (!p17.2)=true then (FicloneWorld k a0).bind fun p19=>some (p19,false) else if (p4.2.2.2.2.2.2.2.2.2.2.2.2.2.length+([a1]).length)*32<=140737488355328 then some ((p4.1,p4.2.1,p4.2.2.1,p4.2.2.2.1,p4.2.2.2.2.1,((p4.2.2.2.2.2.1.set a1.2.1.toNat p8.1).set a1.2.2.1.toNat p17.1),p4.2.2.2.2.2.2.1,p4.2.2.2.2.2.2.2.1,p4.2.2.2.2.2.2.2.2.1,p4.2.2.2.2.2.2.2.2.2.1,p4.2.2.2.2.2.2.2.2.2.2.1,p4.2.2.2.2.2.2.2.2.2.2.2.1,p4.2.2.2.2.2.2.2.2.2.2.2.2.1,(p4.2.2.2.2.2.2.2.2.2.2.2.2.2++[a1])),true) else none else none else none else none else none else none else (FicloneWorld k a0).bind fun p20=>some (p20,false) else (FicloneWorld k a0).bind fun p21=>some (p21,false) else none else none else (FicloneWorld k a0).bind fun p22=>some (p22,false) else (FicloneWorld k a0).bind fun p23=>some (p23,false):=by kernel_rfl
noncomputable def FiInSpans (k:Nat) (a0:List I2) (a1:Int):Option (Bool):=den E k 141 [.c (.l 194 sI2 a0),cI a1]
abbrev CiInSpans_0:=Int×(List I2)×Int
abbrev ViInSpans_0:=Int
def StiInSpans_0:CiInSpans_0->ViInSpans_0->St
 | (a,b,d),e=>⟨17,0,[(1,cI a),(7,.c (.l 194 sI2 b)),(8,cI d),(9,cI e)],[]⟩
noncomputable def BiInSpans_0 {R:Type} (k:Nat) (X0:ViInSpans_0->I2->Bool->Option R) (X1:ViInSpans_0->Option R) (c0:CiInSpans_0) (rec:ViInSpans_0->Option R) (v0:ViInSpans_0):Option R:=if (decide (v0<c0.2.2))=true then if 0<=v0 then ix c0.2.1 v0.toNat fun x1=>(FiInSpan k x1 c0.1).bind fun p2=>if p2=true then X0 v0 x1 p2 else rec (i64.wrap (v0+1)) else none else X1 v0
noncomputable def LiInSpans_0 {R:Type} (k:Nat) (X0:ViInSpans_0->I2->Bool->Option R) (X1:ViInSpans_0->Option R) (c:CiInSpans_0):Nat->ViInSpans_0->Option R
 | 0,_=>none
 | n+1,v=>BiInSpans_0 k X0 X1 c (LiInSpans_0 k X0 X1 c n) v
noncomputable def fiInSpans_0 {R:Type} (k:Nat) (K:Ex->St->Option R) (c:CiInSpans_0):=lpf E k 141 Tryz.f141 0 [0,1,7,8,9] (StiInSpans_0 c) K
theorem qiInSpans_0 (k:Nat) (K:Ex->St->Option R) (X0 X1 c) (h:QL (fiInSpans_0 k K c) (BiInSpans_0 k X0 X1 c)) (v):LiInSpans_0 k X0 X1 c k v=fiInSpans_0 k K c k v:=lq h (fun _ _=>rfl) (fun _=>rfl) (fun _=>rfl) k v
noncomputable def NiInSpans:Ex->St->Option (Bool):=C1 E (rs 141) Tryz.f141
theorem eiInSpans (k:Nat) (a0 a1):FiInSpans (k+1) a0 a1=LiInSpans_0 k (fun (v0:Int) x1 p2=>some true) (fun (v0:Int)=>some false) (a1,a0,(a0.length:Int)) k 0:=by
 simp (disch:=(refine QL.mk fun n0 v=> ?_;kernel_rfl)) only [↓qiInSpans_0 k (kon0 E k 141 Tryz.f141 0 NiInSpans)]
 kernel_rfl
noncomputable def FiTickBattery (k:Nat) (a0:I6) (a1:Bool) (a2:Int):Option I6:=den E k 140 [.agg (avs sI6 a0),cB a1,cI a2]
theorem eiTickBattery (k:Nat) (a0 a1 a2):FiTickBattery (k+1) a0 a1 a2=(FiIsBattery k a0).bind fun p1=>if (!p1)=true then some a0 else (FiInRange k a2 0 100).bind fun p2=>if (!p2)=true then if a1=true then some ((mx 0 (mn (i64.wrap ((i64.wrap (a0.1-(i64.wrap (a0.2.2.2.1+(i64.wrap (0*a0.2.2.2.2.1))))))+a0.2.2.2.2.2)) a0.2.1)),a0.2.1,a0.2.2.1,a0.2.2.2.1,a0.2.2.2.2.1,a0.2.2.2.2.2) else some ((mx 0 (mn (i64.wrap (a0.1-(i64.wrap (a0.2.2.2.1+(i64.wrap (0*a0.2.2.2.2.1)))))) a0.2.1)),a0.2.1,a0.2.2.1,a0.2.2.2.1,a0.2.2.2.2.1,a0.2.2.2.2.2) else if a1=true then some ((mx 0 (mn (i64.wrap ((i64.wrap (a0.1-(i64.wrap (a0.2.2.2.1+(i64.wrap (a2*a0.2.2.2.2.1))))))+a0.2.2.2.2.2)) a0.2.1)),a0.2.1,a0.2.2.1,a0.2.2.2.1,a0.2.2.2.2.1,a0.2.2.2.2.2) else some ((mx 0 (mn (i64.wrap (a0.1-(i64.wrap (a0.2.2.2.1+(i64.wrap (a2*a0.2.2.2.2.1)))))) a0.2.1)),a0.2.1,a0.2.2.1,a0.2.2.2.1,a0.2.2.2.2.1,a0.2.2.2.2.2):=by kernel_rfl
noncomputable def FiStepTick (k:Nat) (a0:z2):Option (z2×Bool):=den E k 30 [.agg (avs Q0 a0)]
abbrev CiStepTick_1:=Int×Int×(List I6)×Int×z2×Int×Int×Int×Int×Int×Int×Int×Int×Int×Int×Int×Int×Int×Int×Int×Int×Int×Int×Int×Int×Int×Int×Int×Int×(List Int)×(List I4)×(List I4)×(List I3)×(List I3)×(List TPiece)×(List Int)×(List Int)×(List (List I6))×(List I4)×(List Int)×(List (Int×Int×List Int))×(List I4)×(List I6)×(List I4)
abbrev ViStepTick_1:=Int×(List I6)
def StiStepTick_1:CiStepTick_1->ViStepTick_1->St
 | (a,b,d,e,f,g,h,j,k,m,n,o,p,q,r,s,t,u,w,x,y,z,A,B,C,D,F,G,H,I,J,L,M,N,O,P,Q,R,S,T,U,V,W,X),(Y,Z)=>⟨79,19,[(1,cP 0),(2,cP 1),(4,cP 2),(5,.c (.ref 3)),(24,.c (.ref 4)),(25,cI a),(26,cI b),(50,.c (.l 119 sI6 d)),(51,cI e),(52,cI Y)],[(0,.var (avs Q0 f)),(1,.var [vI g,.v (.slice none 0 0),.v (.slice none 0 0),vI h,vI j,vI k,vI m,vI n,.v (.slice none 0 0),vI o,vI p,vI q,vI r,.v (.slice none 0 0),.v (.slice none 0 0),.v (.slice none 0 0),.v (.slice none 0 0),.v (.slice none 0 0),.v (.slice none 0 0),.v (.slice none 0 0),.v (.slice none 0 0),.v (.slice none 0 0),vI s,vI t,.v (.slice none 0 0),.v (.slice none 0 0)]),(2,.var [vI u,.ref 5,.ref 6,vI w,vI x,vI y,vI z,vI A,.ref 7,vI B,vI C,vI D,vI F,.ref 8,.ref 9,.ref 10,.ref 11,.ref 12,.ref 13,.ref 14,.ref 15,.ref 16,vI G,vI H,.ref 17,.ref 18]),(3,.arr 3 (.i .i64) I),(4,.arr 168 sI4 J),(5,.arr 181 sI4 L),(6,.arr 183 sI3 M),(7,.arr 188 sZone N),(8,.arr 198 sPiece O),(9,.arr 3 (.i .i64) P),(10,.arr 3 (.i .i64) Q),(11,.arr 119 sI6 Z),(12,.arr 117 J0 R),(13,.arr 89 sI4 S),(14,.arr 3 (.i .i64) T),(15,.arr 225 T0 U),(16,.arr 90 sI4 V),(17,.arr 229 sI6 W),(18,.arr 168 sI4 X)]⟩
noncomputable def BiStepTick_1 {R:Type} (k:Nat) (X0:ViStepTick_1->Option R) (c1:CiStepTick_1) (rec:ViStepTick_1->Option R) (v1:ViStepTick_1):Option R:=if (decide (v1.1<c1.2.2.2.1))=true then if 0<=v1.1 then ix c1.2.2.1 v1.1.toNat fun x6=>(FiLitOf k c1.2.2.2.2.1 v1.1).bind fun p7=>(FiInSpans k p7 c1.2.2.2.2.1.2.2.2.2.2.2.2.2.2.2.1).bind fun p8=>if 0<=v1.1 then if v1.1<(c1.2.2.2.2.2.2.2.2.2.2.2.2.2.2.2.2.2.2.2.2.2.2.2.2.2.2.2.2.2.1.length:Int) then ix c1.2.2.2.2.2.2.2.2.2.2.2.2.2.2.2.2.2.2.2.2.2.2.2.2.2.2.2.2.2.1 v1.1.toNat fun x9=>(FiTickBattery k x6 p8 x9).bind fun p10=>if 0<=v1.1 then if v1.1<(v1.2.length:Int) then ix v1.2 v1.1.toNat fun y11=>rec ((i64.wrap (v1.1+1)),(v1.2.set v1.1.toNat p10)) else none else none else none else none else none else X0 v1
noncomputable def LiStepTick_1 {R:Type} (k:Nat) (X0:ViStepTick_1->Option R) (c:CiStepTick_1):Nat->ViStepTick_1->Option R
 | 0,_=>none
 | n+1,v=>BiStepTick_1 k X0 c (LiStepTick_1 k X0 c n) v
noncomputable def fiStepTick_1 {R:Type} (k:Nat) (K:Ex->St->Option R) (c:CiStepTick_1):=lpf E k 30 Tryz.f30 1 [0,1,2,4,5,24,25,26,50,51,52] (StiStepTick_1 c) K
theorem qiStepTick_1 (k:Nat) (K:Ex->St->Option R) (X0 c) (h:QL (fiStepTick_1 k K c) (BiStepTick_1 k X0 c)) (v):LiStepTick_1 k X0 c k v=fiStepTick_1 k K c k v:=lq h (fun _ _=>rfl) (fun _=>rfl) (fun _=>rfl) k v
abbrev CiStepTick_0:=Int×z2×Int×Int×Int×Int×Int×Int×Int×Int×Int×Int×Int×Int×(List I4)
abbrev ViStepTick_0:=Int×Int×Int×Int×Int×Int×Int×Int×Int×Int×Int×Int×Int×(List Int)×(List I4)×(List I3)×(List I3)×(List TPiece)×(List Int)×(List Int)×(List I6)×(List (List I6))×(List I4)×(List Int)×(List (Int×Int×List Int))×(List I4)×(List I6)×(List I4)
def StiStepTick_0:CiStepTick_0->ViStepTick_0->St
 | (a,b,d,e,f,g,h,j,k,l,m,n,o,p,q),(r,s,t,u,w,x,y,z,A,B,C,D,F,G,H,I,J,L,M,N,O,P,Q,R,S,T,U,V)=>⟨79,19,[(1,cP 0),(2,cP 1),(4,cP 2),(5,.c (.ref 3)),(24,.c (.ref 4)),(25,cI a),(26,cI r)],[(0,.var (avs Q0 b)),(1,.var [vI d,.v (.slice none 0 0),.v (.slice none 0 0),vI e,vI f,vI g,vI h,vI j,.v (.slice none 0 0),vI k,vI l,vI m,vI n,.v (.slice none 0 0),.v (.slice none 0 0),.v (.slice none 0 0),.v (.slice none 0 0),.v (.slice none 0 0),.v (.slice none 0 0),.v (.slice none 0 0),.v (.slice none 0 0),.v (.slice none 0 0),vI o,vI p,.v (.slice none 0 0),.v (.slice none 0 0)]),(2,.var [vI s,.ref 5,.ref 6,vI t,vI u,vI w,vI x,vI y,.ref 7,vI z,vI A,vI B,vI C,.ref 8,.ref 9,.ref 10,.ref 11,.ref 12,.ref 13,.ref 14,.ref 15,.ref 16,vI D,vI F,.ref 17,.ref 18]),(3,.arr 3 (.i .i64) G),(4,.arr 168 sI4 q),(5,.arr 181 sI4 H),(6,.arr 183 sI3 I),(7,.arr 188 sZone J),(8,.arr 198 sPiece L),(9,.arr 3 (.i .i64) M),(10,.arr 3 (.i .i64) N),(11,.arr 119 sI6 O),(12,.arr 117 J0 P),(13,.arr 89 sI4 Q),(14,.arr 3 (.i .i64) R),(15,.arr 225 T0 S),(16,.arr 90 sI4 T),(17,.arr 229 sI6 U),(18,.arr 168 sI4 V)]⟩
noncomputable def BiStepTick_0 {R:Type} (k:Nat) (X0:ViStepTick_0->Option R) (c0:CiStepTick_0) (rec:ViStepTick_0->Option R) (v0:ViStepTick_0):Option R:=if (decide (v0.1<c0.1))=true then if 0<=v0.1 then if v0.1<(c0.2.2.2.2.2.2.2.2.2.2.2.2.2.2.length:Int) then ix c0.2.2.2.2.2.2.2.2.2.2.2.2.2.2 v0.1.toNat fun x3=>(FiDeliver k ((v0.2.1,v0.2.2.2.2.2.2.2.2.2.2.2.2.2.2.1,v0.2.2.2.2.2.2.2.2.2.2.2.2.2.2.2.1,v0.2.2.1,v0.2.2.2.1,v0.2.2.2.2.1,v0.2.2.2.2.2.1,v0.2.2.2.2.2.2.1,v0.2.2.2.2.2.2.2.2.2.2.2.2.2.2.2.2.1,v0.2.2.2.2.2.2.2.1),(v0.2.2.2.2.2.2.2.2.1,v0.2.2.2.2.2.2.2.2.2.1,v0.2.2.2.2.2.2.2.2.2.2.1,v0.2.2.2.2.2.2.2.2.2.2.2.2.2.2.2.2.2.1),v0.2.2.2.2.2.2.2.2.2.2.2.2.2.2.2.2.2.2.1,v0.2.2.2.2.2.2.2.2.2.2.2.2.2.2.2.2.2.2.2.1,v0.2.2.2.2.2.2.2.2.2.2.2.2.2.2.2.2.2.2.2.2.1,v0.2.2.2.2.2.2.2.2.2.2.2.2.2.2.2.2.2.2.2.2.2.1,v0.2.2.2.2.2.2.2.2.2.2.2.2.2.2.2.2.2.2.2.2.2.2.1,v0.2.2.2.2.2.2.2.2.2.2.2.2.2.2.2.2.2.2.2.2.2.2.2.1,v0.2.2.2.2.2.2.2.2.2.2.2.2.2.2.2.2.2.2.2.2.2.2.2.2.1,v0.2.2.2.2.2.2.2.2.2.2.2.2.2.2.2.2.2.2.2.2.2.2.2.2.2.1,v0.2.2.2.2.2.2.2.2.2.2.2.1,v0.2.2.2.2.2.2.2.2.2.2.2.2.1,v0.2.2.2.2.2.2.2.2.2.2.2.2.2.2.2.2.2.2.2.2.2.2.2.2.2.2.1,v0.2.2.2.2.2.2.2.2.2.2.2.2.2.2.2.2.2.2.2.2.2.2.2.2.2.2.2) x3).bind fun p4=>if (p4.2==true)=true then if (decide (x3.2.1<(v0.2.2.2.2.2.2.2.2.2.2.2.2.2.1.length:Int)))=true then if 0<=x3.2.1 then if x3.2.1<(v0.2.2.2.2.2.2.2.2.2.2.2.2.2.1.length:Int) then ix v0.2.2.2.2.2.2.2.2.2.2.2.2.2.1 x3.2.1.toNat fun y5=>rec ((i64.wrap (v0.1+1)),p4.1.1.1,p4.1.1.2.2.2.1,p4.1.1.2.2.2.2.1,p4.1.1.2.2.2.2.2.1,p4.1.1.2.2.2.2.2.2.1,p4.1.1.2.2.2.2.2.2.2.1,p4.1.1.2.2.2.2.2.2.2.2.2,p4.1.2.1.1,p4.1.2.1.2.1,p4.1.2.1.2.2.1,p4.1.2.2.2.2.2.2.2.2.2.2.1,p4.1.2.2.2.2.2.2.2.2.2.2.2.1,(v0.2.2.2.2.2.2.2.2.2.2.2.2.2.1.set x3.2.1.toNat 1),p4.1.1.2.1,p4.1.1.2.2.1,p4.1.1.2.2.2.2.2.2.2.2.1,p4.1.2.1.2.2.2,p4.1.2.2.1,p4.1.2.2.2.1,p4.1.2.2.2.2.1,p4.1.2.2.2.2.2.1,p4.1.2.2.2.2.2.2.1,p4.1.2.2.2.2.2.2.2.1,p4.1.2.2.2.2.2.2.2.2.1,p4.1.2.2.2.2.2.2.2.2.2.1,p4.1.2.2.2.2.2.2.2.2.2.2.2.2.1,p4.1.2.2.2.2.2.2.2.2.2.2.2.2.2) else none else none else rec ((i64.wrap (v0.1+1)),p4.1.1.1,p4.1.1.2.2.2.1,p4.1.1.2.2.2.2.1,p4.1.1.2.2.2.2.2.1,p4.1.1.2.2.2.2.2.2.1,p4.1.1.2.2.2.2.2.2.2.1,p4.1.1.2.2.2.2.2.2.2.2.2,p4.1.2.1.1,p4.1.2.1.2.1,p4.1.2.1.2.2.1,p4.1.2.2.2.2.2.2.2.2.2.2.1,p4.1.2.2.2.2.2.2.2.2.2.2.2.1,v0.2.2.2.2.2.2.2.2.2.2.2.2.2.1,p4.1.1.2.1,p4.1.1.2.2.1,p4.1.1.2.2.2.2.2.2.2.2.1,p4.1.2.1.2.2.2,p4.1.2.2.1,p4.1.2.2.2.1,p4.1.2.2.2.2.1,p4.1.2.2.2.2.2.1,p4.1.2.2.2.2.2.2.1,p4.1.2.2.2.2.2.2.2.1,p4.1.2.2.2.2.2.2.2.2.1,p4.1.2.2.2.2.2.2.2.2.2.1,p4.1.2.2.2.2.2.2.2.2.2.2.2.2.1,p4.1.2.2.2.2.2.2.2.2.2.2.2.2.2) else rec ((i64.wrap (v0.1+1)),p4.1.1.1,p4.1.1.2.2.2.1,p4.1.1.2.2.2.2.1,p4.1.1.2.2.2.2.2.1,p4.1.1.2.2.2.2.2.2.1,p4.1.1.2.2.2.2.2.2.2.1,p4.1.1.2.2.2.2.2.2.2.2.2,p4.1.2.1.1,p4.1.2.1.2.1,p4.1.2.1.2.2.1,p4.1.2.2.2.2.2.2.2.2.2.2.1,p4.1.2.2.2.2.2.2.2.2.2.2.2.1,v0.2.2.2.2.2.2.2.2.2.2.2.2.2.1,p4.1.1.2.1,p4.1.1.2.2.1,p4.1.1.2.2.2.2.2.2.2.2.1,p4.1.2.1.2.2.2,p4.1.2.2.1,p4.1.2.2.2.1,p4.1.2.2.2.2.1,p4.1.2.2.2.2.2.1,p4.1.2.2.2.2.2.2.1,p4.1.2.2.2.2.2.2.2.1,p4.1.2.2.2.2.2.2.2.2.1,p4.1.2.2.2.2.2.2.2.2.2.1,p4.1.2.2.2.2.2.2.2.2.2.2.2.2.1,p4.1.2.2.2.2.2.2.2.2.2.2.2.2.2) else none else none else X0 v0
noncomputable def LiStepTick_0 {R:Type} (k:Nat) (X0:ViStepTick_0->Option R) (c:CiStepTick_0):Nat->ViStepTick_0->Option R
 | 0,_=>none
 | n+1,v=>BiStepTick_0 k X0 c (LiStepTick_0 k X0 c n) v
noncomputable def fiStepTick_0 {R:Type} (k:Nat) (K:Ex->St->Option R) (c:CiStepTick_0):=lpf E k 30 Tryz.f30 0 [0,1,2,4,5,24,25,26] (StiStepTick_0 c) K
theorem qiStepTick_0 (k:Nat) (K:Ex->St->Option R) (X0 c) (h:QL (fiStepTick_0 k K c) (BiStepTick_0 k X0 c)) (v):LiStepTick_0 k X0 c k v=fiStepTick_0 k K c k v:=lq h (fun _ _=>rfl) (fun _=>rfl) (fun _=>rfl) k v
noncomputable def NiStepTick:Ex->St->Option (z2×Bool):=C1 E (rs 30) Tryz.f30
theorem eiStepTick (k:Nat) (a0):FiStepTick (k+1) a0=(FicloneWorld k a0).bind fun p1=>if (decide (a0.2.2.2.2.2.2.2.2.2.2.1>=a0.2.2.2.2.2.2.2.2.2.2.2.1))=true then some (p1,false) else if ((a0.2.2.2.2.1.length:Int)==(a0.2.2.2.2.1.length:Int))=true then if 0<=(a0.2.2.2.2.1.length:Int) then if 8*(a0.2.2.2.2.1.length:Int).toNat<=281474976710656 then (FiChoices k a0).bind fun p2=>LiStepTick_0 k (fun v0=>LiStepTick_1 k (fun v1=>some (((v0.2.1,v0.2.2.2.2.2.2.2.2.2.2.2.2.2.2.1,v0.2.2.2.2.2.2.2.2.2.2.2.2.2.2.2.1,v0.2.2.1,v0.2.2.2.1,v0.2.2.2.2.1,v0.2.2.2.2.2.1,v0.2.2.2.2.2.2.1,v0.2.2.2.2.2.2.2.2.2.2.2.2.2.2.2.2.1,v0.2.2.2.2.2.2.2.1),(v0.2.2.2.2.2.2.2.2.1,v0.2.2.2.2.2.2.2.2.2.1,v0.2.2.2.2.2.2.2.2.2.2.1,v0.2.2.2.2.2.2.2.2.2.2.2.2.2.2.2.2.2.1),v0.2.2.2.2.2.2.2.2.2.2.2.2.2.2.2.2.2.2.1,v0.2.2.2.2.2.2.2.2.2.2.2.2.2.2.2.2.2.2.2.1,v1.2,v0.2.2.2.2.2.2.2.2.2.2.2.2.2.2.2.2.2.2.2.2.2.1,v0.2.2.2.2.2.2.2.2.2.2.2.2.2.2.2.2.2.2.2.2.2.2.1,v0.2.2.2.2.2.2.2.2.2.2.2.2.2.2.2.2.2.2.2.2.2.2.2.1,v0.2.2.2.2.2.2.2.2.2.2.2.2.2.2.2.2.2.2.2.2.2.2.2.2.1,v0.2.2.2.2.2.2.2.2.2.2.2.2.2.2.2.2.2.2.2.2.2.2.2.2.2.1,(i64.wrap (v0.2.2.2.2.2.2.2.2.2.2.2.1+1)),v0.2.2.2.2.2.2.2.2.2.2.2.2.1,v0.2.2.2.2.2.2.2.2.2.2.2.2.2.2.2.2.2.2.2.2.2.2.2.2.2.2.1,v0.2.2.2.2.2.2.2.2.2.2.2.2.2.2.2.2.2.2.2.2.2.2.2.2.2.2.2),true)) ((p2.length:Int),v0.1,a0.2.2.2.2.1,(a0.2.2.2.2.1.length:Int),a0,0,0,0,0,0,0,0,0,0,0,0,0,v0.2.1,v0.2.2.1,v0.2.2.2.1,v0.2.2.2.2.1,v0.2.2.2.2.2.1,v0.2.2.2.2.2.2.1,v0.2.2.2.2.2.2.2.1,v0.2.2.2.2.2.2.2.2.1,v0.2.2.2.2.2.2.2.2.2.1,v0.2.2.2.2.2.2.2.2.2.2.1,v0.2.2.2.2.2.2.2.2.2.2.2.1,v0.2.2.2.2.2.2.2.2.2.2.2.2.1,v0.2.2.2.2.2.2.2.2.2.2.2.2.2.1,p2,v0.2.2.2.2.2.2.2.2.2.2.2.2.2.2.1,v0.2.2.2.2.2.2.2.2.2.2.2.2.2.2.2.1,v0.2.2.2.2.2.2.2.2.2.2.2.2.2.2.2.2.1,v0.2.2.2.2.2.2.2.2.2.2.2.2.2.2.2.2.2.1,v0.2.2.2.2.2.2.2.2.2.2.2.2.2.2.2.2.2.2.1,v0.2.2.2.2.2.2.2.2.2.2.2.2.2.2.2.2.2.2.2.1,v0.2.2.2.2.2.2.2.2.2.2.2.2.2.2.2.2.2.2.2.2.2.1,v0.2.2.2.2.2.2.2.2.2.2.2.2.2.2.2.2.2.2.2.2.2.2.1,v0.2.2.2.2.2.2.2.2.2.2.2.2.2.2.2.2.2.2.2.2.2.2.2.1,v0.2.2.2.2.2.2.2.2.2.2.2.2.2.2.2.2.2.2.2.2.2.2.2.2.1,v0.2.2.2.2.2.2.2.2.2.2.2.2.2.2.2.2.2.2.2.2.2.2.2.2.2.1,v0.2.2.2.2.2.2.2.2.2.2.2.2.2.2.2.2.2.2.2.2.2.2.2.2.2.2.1,v0.2.2.2.2.2.2.2.2.2.2.2.2.2.2.2.2.2.2.2.2.2.2.2.2.2.2.2) k (0,v0.2.2.2.2.2.2.2.2.2.2.2.2.2.2.2.2.2.2.2.2.1)) ((p2.length:Int),a0,0,0,0,0,0,0,0,0,0,0,0,0,p2) k (0,p1.1.1,p1.1.2.2.2.1,p1.1.2.2.2.2.1,p1.1.2.2.2.2.2.1,p1.1.2.2.2.2.2.2.1,p1.1.2.2.2.2.2.2.2.1,p1.1.2.2.2.2.2.2.2.2.2,p1.2.1.1,p1.2.1.2.1,p1.2.1.2.2.1,p1.2.2.2.2.2.2.2.2.2.2.1,p1.2.2.2.2.2.2.2.2.2.2.2.1,(List.replicate (a0.2.2.2.2.1.length:Int).toNat (0:Int)),p1.1.2.1,p1.1.2.2.1,p1.1.2.2.2.2.2.2.2.2.1,p1.2.1.2.2.2,p1.2.2.1,p1.2.2.2.1,p1.2.2.2.2.1,p1.2.2.2.2.2.1,p1.2.2.2.2.2.2.1,p1.2.2.2.2.2.2.2.1,p1.2.2.2.2.2.2.2.2.1,p1.2.2.2.2.2.2.2.2.2.1,p1.2.2.2.2.2.2.2.2.2.2.2.2.1,p1.2.2.2.2.2.2.2.2.2.2.2.2.2) else none else none else none:=by
 simp (maxSteps:=9999999) (disch:=(refine QL.mk fun n0 v=> ?_;unfold BiStepTick_0;simp (maxSteps:=9999999) (disch:=(refine QL.mk fun n1 v=> ?_;kernel_rfl)) only [↓qiStepTick_1 (R:=z2×Bool) k (kon0 E k 30 Tryz.f30 1 NiStepTick)];kernel_rfl)) only [↓qiStepTick_0 (R:=z2×Bool) k (kon0 E k 30 Tryz.f30 0 NiStepTick)]
 kernel_rfl
noncomputable def Fiticked (k:Nat) (a0:z2) (a1:Int):Option z2:=den E k 143 [.agg (avs Q0 a0),cI a1]
abbrev Citicked_0:=Int×Int×Int×Int×Int×Int×Int×Int×Int×Int×Int×Int×Int
abbrev Viticked_0:=Bool×Int×Int×Int×Int×Int×Int×Int×Int×Int×Int×Int×Int×Int×(List I4)×(List I3)×(List I3)×(List TPiece)×(List Int)×(List Int)×(List I6)×(List (List I6))×(List I4)×(List Int)×(List (Int×Int×List Int))×(List I4)×(List I6)×(List I4)
def Stiticked_0:Citicked_0->Viticked_0->St
 | (a,b,c,d,e,f,g,h,j,k,l,m,n),(o,p,q,r,s,t,u,w,x,y,z,A,B,C,D,F,G,H,I,J,L,M,N,O,P,Q,R,S)=>⟨24,16,[(1,cI a),(4,cP 0),(5,cP 1),(6,cB o),(7,cI p)],[(0,.var [vI b,.v (.slice none 0 0),.v (.slice none 0 0),vI c,vI d,vI e,vI f,vI g,.v (.slice none 0 0),vI h,vI j,vI k,vI l,.v (.slice none 0 0),.v (.slice none 0 0),.v (.slice none 0 0),.v (.slice none 0 0),.v (.slice none 0 0),.v (.slice none 0 0),.v (.slice none 0 0),.v (.slice none 0 0),.v (.slice none 0 0),vI m,vI n,.v (.slice none 0 0),.v (.slice none 0 0)]),(1,.var [vI q,.ref 2,.ref 3,vI r,vI s,vI t,vI u,vI w,.ref 4,vI x,vI y,vI z,vI A,.ref 5,.ref 6,.ref 7,.ref 8,.ref 9,.ref 10,.ref 11,.ref 12,.ref 13,vI B,vI C,.ref 14,.ref 15]),(2,.arr 181 sI4 D),(3,.arr 183 sI3 F),(4,.arr 188 sZone G),(5,.arr 198 sPiece H),(6,.arr 3 (.i .i64) I),(7,.arr 3 (.i .i64) J),(8,.arr 119 sI6 L),(9,.arr 117 J0 M),(10,.arr 89 sI4 N),(11,.arr 3 (.i .i64) O),(12,.arr 225 T0 P),(13,.arr 90 sI4 Q),(14,.arr 229 sI6 R),(15,.arr 168 sI4 S)]⟩
noncomputable def Biticked_0 {R:Type} (k:Nat) (X0:Viticked_0->Option R) (X1:Viticked_0->Option R) (c0:Citicked_0) (rec:Viticked_0->Option R) (v0:Viticked_0):Option R:=if ((decide (v0.2.1<c0.1))==true)=true then if v0.1=true then (FiStepTick k ((v0.2.2.1,v0.2.2.2.2.2.2.2.2.2.2.2.2.2.2.1,v0.2.2.2.2.2.2.2.2.2.2.2.2.2.2.2.1,v0.2.2.2.1,v0.2.2.2.2.1,v0.2.2.2.2.2.1,v0.2.2.2.2.2.2.1,v0.2.2.2.2.2.2.2.1,v0.2.2.2.2.2.2.2.2.2.2.2.2.2.2.2.2.1,v0.2.2.2.2.2.2.2.2.1),(v0.2.2.2.2.2.2.2.2.2.1,v0.2.2.2.2.2.2.2.2.2.2.1,v0.2.2.2.2.2.2.2.2.2.2.2.1,v0.2.2.2.2.2.2.2.2.2.2.2.2.2.2.2.2.2.1),v0.2.2.2.2.2.2.2.2.2.2.2.2.2.2.2.2.2.2.1,v0.2.2.2.2.2.2.2.2.2.2.2.2.2.2.2.2.2.2.2.1,v0.2.2.2.2.2.2.2.2.2.2.2.2.2.2.2.2.2.2.2.2.1,v0.2.2.2.2.2.2.2.2.2.2.2.2.2.2.2.2.2.2.2.2.2.1,v0.2.2.2.2.2.2.2.2.2.2.2.2.2.2.2.2.2.2.2.2.2.2.1,v0.2.2.2.2.2.2.2.2.2.2.2.2.2.2.2.2.2.2.2.2.2.2.2.1,v0.2.2.2.2.2.2.2.2.2.2.2.2.2.2.2.2.2.2.2.2.2.2.2.2.1,v0.2.2.2.2.2.2.2.2.2.2.2.2.2.2.2.2.2.2.2.2.2.2.2.2.2.1,v0.2.2.2.2.2.2.2.2.2.2.2.2.1,v0.2.2.2.2.2.2.2.2.2.2.2.2.2.1,v0.2.2.2.2.2.2.2.2.2.2.2.2.2.2.2.2.2.2.2.2.2.2.2.2.2.2.1,v0.2.2.2.2.2.2.2.2.2.2.2.2.2.2.2.2.2.2.2.2.2.2.2.2.2.2.2)).bind fun p2=>rec (p2.2,(i64.wrap (v0.2.1+1)),p2.1.1.1,p2.1.1.2.2.2.1,p2.1.1.2.2.2.2.1,p2.1.1.2.2.2.2.2.1,p2.1.1.2.2.2.2.2.2.1,p2.1.1.2.2.2.2.2.2.2.1,p2.1.1.2.2.2.2.2.2.2.2.2,p2.1.2.1.1,p2.1.2.1.2.1,p2.1.2.1.2.2.1,p2.1.2.2.2.2.2.2.2.2.2.2.1,p2.1.2.2.2.2.2.2.2.2.2.2.2.1,p2.1.1.2.1,p2.1.1.2.2.1,p2.1.1.2.2.2.2.2.2.2.2.1,p2.1.2.1.2.2.2,p2.1.2.2.1,p2.1.2.2.2.1,p2.1.2.2.2.2.1,p2.1.2.2.2.2.2.1,p2.1.2.2.2.2.2.2.1,p2.1.2.2.2.2.2.2.2.1,p2.1.2.2.2.2.2.2.2.2.1,p2.1.2.2.2.2.2.2.2.2.2.1,p2.1.2.2.2.2.2.2.2.2.2.2.2.2.1,p2.1.2.2.2.2.2.2.2.2.2.2.2.2.2) else X0 v0 else X1 v0
noncomputable def Liticked_0 {R:Type} (k:Nat) (X0:Viticked_0->Option R) (X1:Viticked_0->Option R) (c:Citicked_0):Nat->Viticked_0->Option R
 | 0,_=>none
 | n+1,v=>Biticked_0 k X0 X1 c (Liticked_0 k X0 X1 c n) v
noncomputable def fiticked_0 {R:Type} (k:Nat) (K:Ex->St->Option R) (c:Citicked_0):=lpf E k 143 Tryz.f143 0 [0,1,4,5,6,7] (Stiticked_0 c) K
theorem qiticked_0 (k:Nat) (K:Ex->St->Option R) (X0 X1 c) (h:QL (fiticked_0 k K c) (Biticked_0 k X0 X1 c)) (v):Liticked_0 k X0 X1 c k v=fiticked_0 k K c k v:=lq h (fun _ _=>rfl) (fun _=>rfl) (fun _=>rfl) k v
noncomputable def Niticked:Ex->St->Option z2:=C1 E (rs 143) Tryz.f143
theorem eiticked (k:Nat) (a0 a1):Fiticked (k+1) a0 a1=(FicloneWorld k a0).bind fun p1=>Liticked_0 k (fun v0=>some ((v0.2.2.1,v0.2.2.2.2.2.2.2.2.2.2.2.2.2.2.1,v0.2.2.2.2.2.2.2.2.2.2.2.2.2.2.2.1,v0.2.2.2.1,v0.2.2.2.2.1,v0.2.2.2.2.2.1,v0.2.2.2.2.2.2.1,v0.2.2.2.2.2.2.2.1,v0.2.2.2.2.2.2.2.2.2.2.2.2.2.2.2.2.1,v0.2.2.2.2.2.2.2.2.1),(v0.2.2.2.2.2.2.2.2.2.1,v0.2.2.2.2.2.2.2.2.2.2.1,v0.2.2.2.2.2.2.2.2.2.2.2.1,v0.2.2.2.2.2.2.2.2.2.2.2.2.2.2.2.2.2.1),v0.2.2.2.2.2.2.2.2.2.2.2.2.2.2.2.2.2.2.1,v0.2.2.2.2.2.2.2.2.2.2.2.2.2.2.2.2.2.2.2.1,v0.2.2.2.2.2.2.2.2.2.2.2.2.2.2.2.2.2.2.2.2.1,v0.2.2.2.2.2.2.2.2.2.2.2.2.2.2.2.2.2.2.2.2.2.1,v0.2.2.2.2.2.2.2.2.2.2.2.2.2.2.2.2.2.2.2.2.2.2.1,v0.2.2.2.2.2.2.2.2.2.2.2.2.2.2.2.2.2.2.2.2.2.2.2.1,v0.2.2.2.2.2.2.2.2.2.2.2.2.2.2.2.2.2.2.2.2.2.2.2.2.1,v0.2.2.2.2.2.2.2.2.2.2.2.2.2.2.2.2.2.2.2.2.2.2.2.2.2.1,v0.2.2.2.2.2.2.2.2.2.2.2.2.1,v0.2.2.2.2.2.2.2.2.2.2.2.2.2.1,v0.2.2.2.2.2.2.2.2.2.2.2.2.2.2.2.2.2.2.2.2.2.2.2.2.2.2.1,v0.2.2.2.2.2.2.2.2.2.2.2.2.2.2.2.2.2.2.2.2.2.2.2.2.2.2.2)) (fun v0=>some ((v0.2.2.1,v0.2.2.2.2.2.2.2.2.2.2.2.2.2.2.1,v0.2.2.2.2.2.2.2.2.2.2.2.2.2.2.2.1,v0.2.2.2.1,v0.2.2.2.2.1,v0.2.2.2.2.2.1,v0.2.2.2.2.2.2.1,v0.2.2.2.2.2.2.2.1,v0.2.2.2.2.2.2.2.2.2.2.2.2.2.2.2.2.1,v0.2.2.2.2.2.2.2.2.1),(v0.2.2.2.2.2.2.2.2.2.1,v0.2.2.2.2.2.2.2.2.2.2.1,v0.2.2.2.2.2.2.2.2.2.2.2.1,v0.2.2.2.2.2.2.2.2.2.2.2.2.2.2.2.2.2.1),v0.2.2.2.2.2.2.2.2.2.2.2.2.2.2.2.2.2.2.1,v0.2.2.2.2.2.2.2.2.2.2.2.2.2.2.2.2.2.2.2.1,v0.2.2.2.2.2.2.2.2.2.2.2.2.2.2.2.2.2.2.2.2.1,v0.2.2.2.2.2.2.2.2.2.2.2.2.2.2.2.2.2.2.2.2.2.1,v0.2.2.2.2.2.2.2.2.2.2.2.2.2.2.2.2.2.2.2.2.2.2.1,v0.2.2.2.2.2.2.2.2.2.2.2.2.2.2.2.2.2.2.2.2.2.2.2.1,v0.2.2.2.2.2.2.2.2.2.2.2.2.2.2.2.2.2.2.2.2.2.2.2.2.1,v0.2.2.2.2.2.2.2.2.2.2.2.2.2.2.2.2.2.2.2.2.2.2.2.2.2.1,v0.2.2.2.2.2.2.2.2.2.2.2.2.1,v0.2.2.2.2.2.2.2.2.2.2.2.2.2.1,v0.2.2.2.2.2.2.2.2.2.2.2.2.2.2.2.2.2.2.2.2.2.2.2.2.2.2.1,v0.2.2.2.2.2.2.2.2.2.2.2.2.2.2.2.2.2.2.2.2.2.2.2.2.2.2.2)) (a1,0,0,0,0,0,0,0,0,0,0,0,0) k (true,0,p1.1.1,p1.1.2.2.2.1,p1.1.2.2.2.2.1,p1.1.2.2.2.2.2.1,p1.1.2.2.2.2.2.2.1,p1.1.2.2.2.2.2.2.2.1,p1.1.2.2.2.2.2.2.2.2.2,p1.2.1.1,p1.2.1.2.1,p1.2.1.2.2.1,p1.2.2.2.2.2.2.2.2.2.2.1,p1.2.2.2.2.2.2.2.2.2.2.2.1,p1.1.2.1,p1.1.2.2.1,p1.1.2.2.2.2.2.2.2.2.1,p1.2.1.2.2.2,p1.2.2.1,p1.2.2.2.1,p1.2.2.2.2.1,p1.2.2.2.2.2.1,p1.2.2.2.2.2.2.1,p1.2.2.2.2.2.2.2.1,p1.2.2.2.2.2.2.2.2.1,p1.2.2.2.2.2.2.2.2.2.1,p1.2.2.2.2.2.2.2.2.2.2.2.2.1,p1.2.2.2.2.2.2.2.2.2.2.2.2.2):=by
 simp (disch:=(refine QL.mk fun n0 v=> ?_;kernel_rfl)) only [↓qiticked_0 k (kon0 E k 143 Tryz.f143 0 Niticked)]
 kernel_rfl
noncomputable def FiRunToEnd (k:Nat) (a0:z2):Option z2:=den E k 32 [.agg (avs Q0 a0)]
theorem eiRunToEnd (k:Nat) (a0):FiRunToEnd (k+1) a0=(Fiticked k a0 60).bind fun p1=>some p1:=by kernel_rfl
noncomputable def FleqBattery (k:Nat) (a0:I6) (a1:I6):Option (Bool):=den E k 187 [.agg (avs sI6 a0),.agg (avs sI6 a1)]
noncomputable def FleqBatteryS (k:Nat) (a0:List I6) (a1:List I6):Option (Bool):=den E k 71 [.c (.l 119 sI6 a0),.c (.l 119 sI6 a1)]
noncomputable def FleqFault (k:Nat) (a0:I4) (a1:I4):Option (Bool):=den E k 191 [.agg (avs sI4 a0),.agg (avs sI4 a1)]
noncomputable def FleqFaultS (k:Nat) (a0:List I4) (a1:List I4):Option (Bool):=den E k 75 [.c (.l 90 sI4 a0),.c (.l 90 sI4 a1)]
noncomputable def FleqFlow (k:Nat) (a0:I4) (a1:I4):Option (Bool):=den E k 189 [.agg (avs sI4 a0),.agg (avs sI4 a1)]
noncomputable def FleqFlowS (k:Nat) (a0:List I4) (a1:List I4):Option (Bool):=den E k 73 [.c (.l 89 sI4 a0),.c (.l 89 sI4 a1)]
noncomputable def FleqIntS (k:Nat) (a0:List Int) (a1:List Int):Option (Bool):=den E k 18 [.c (.l 3 (.i .i64) a0),.c (.l 3 (.i .i64) a1)]
noncomputable def FleqLaw (k:Nat) (a0:List Int) (a1:List Int):Option (Bool):=den E k 19 [.agg [.l 3 (.i .i64) a0],.agg [.l 3 (.i .i64) a1]]
noncomputable def FleqPacket (k:Nat) (a0:I6) (a1:I6):Option (Bool):=den E k 192 [.agg (avs sI6 a0),.agg (avs sI6 a1)]
noncomputable def FleqPacketS (k:Nat) (a0:List I6) (a1:List I6):Option (Bool):=den E k 76 [.c (.l 229 sI6 a0),.c (.l 229 sI6 a1)]
noncomputable def FleqLink (k:Nat) (a0:I2) (a1:I2):Option (Bool):=den E k 435 [.agg [vI a0.1,vI a0.2],.agg [vI a1.1,vI a1.2]]
noncomputable def FleqLinkS (k:Nat) (a0:List I2) (a1:List I2):Option (Bool):=den E k 376 [.c (.l 288 sI2 a0),.c (.l 288 sI2 a1)]
noncomputable def FleqSpan (k:Nat) (a0:I2) (a1:I2):Option (Bool):=den E k 375 [.agg [vI a0.1,vI a0.2],.agg [vI a1.1,vI a1.2]]
noncomputable def FleqTable (k:Nat) (a0:Int×(List Int)×List Int) (a1:Int×(List Int)×List Int):Option (Bool):=den E k 436 [.agg (avs sTable a0),.agg (avs sTable a1)]
noncomputable def FleqTableS (k:Nat) (a0:List (Int×(List Int)×List Int)) (a1:List (Int×(List Int)×List Int)):Option (Bool):=den E k 377 [.c (.l 290 sTable a0),.c (.l 290 sTable a1)]
noncomputable def FleqPiece (k:Nat) (a0:TPiece) (a1:TPiece):Option (Bool):=den E k 298 [.agg (avs sPiece a0),.agg (avs sPiece a1)]
noncomputable def FleqPieceS (k:Nat) (a0:List TPiece) (a1:List TPiece):Option (Bool):=den E k 186 [.c (.l 198 sPiece a0),.c (.l 198 sPiece a1)]
noncomputable def FleqProgram (k:Nat) (a0:W0) (a1:W0):Option (Bool):=den E k 70 [.agg (avs m0 a0),.agg (avs m0 a1)]
noncomputable def FleqQueue (k:Nat) (a0:List I6) (a1:List I6):Option (Bool):=den E k 188 [.agg [.l 229 sI6 a0],.agg [.l 229 sI6 a1]]
noncomputable def FleqQueueS (k:Nat) (a0:List (List I6)) (a1:List (List I6)):Option (Bool):=den E k 72 [.c (.l 117 J0 a0),.c (.l 117 J0 a1)]
noncomputable def FleqSent (k:Nat) (a0:I4) (a1:I4):Option (Bool):=den E k 193 [.agg (avs sI4 a0),.agg (avs sI4 a1)]
noncomputable def FleqSentS (k:Nat) (a0:List I4) (a1:List I4):Option (Bool):=den E k 77 [.c (.l 168 sI4 a0),.c (.l 168 sI4 a1)]
noncomputable def FleqSat (k:Nat) (a0:I4) (a1:I4):Option (Bool):=den E k 194 [.agg (avs sI4 a0),.agg (avs sI4 a1)]
noncomputable def FleqSatS (k:Nat) (a0:List I4) (a1:List I4):Option (Bool):=den E k 78 [.c (.l 181 sI4 a0),.c (.l 181 sI4 a1)]
noncomputable def FleqSite (k:Nat) (a0:I3) (a1:I3):Option (Bool):=den E k 195 [.agg (avs sI3 a0),.agg (avs sI3 a1)]
noncomputable def FleqSiteS (k:Nat) (a0:List I3) (a1:List I3):Option (Bool):=den E k 79 [.c (.l 183 sI3 a0),.c (.l 183 sI3 a1)]
noncomputable def FleqArc (k:Nat) (a0:I2) (a1:I2):Option (Bool):=den E k 299 [.agg [vI a0.1,vI a0.2],.agg [vI a1.1,vI a1.2]]
noncomputable def FleqZone (k:Nat) (a0:I3) (a1:I3):Option (Bool):=den E k 196 [.agg (avs sI3 a0),.agg (avs sI3 a1)]
noncomputable def FleqZoneS (k:Nat) (a0:List I3) (a1:List I3):Option (Bool):=den E k 80 [.c (.l 188 sZone a0),.c (.l 188 sZone a1)]
noncomputable def FleqSky (k:Nat) (a0:TSky) (a1:TSky):Option (Bool):=den E k 17 [.agg (avs sSky a0),.agg (avs sSky a1)]
noncomputable def FleqStream (k:Nat) (a0:Int×Int×List Int) (a1:Int×Int×List Int):Option (Bool):=den E k 190 [.agg (avs T0 a0),.agg (avs T0 a1)]
noncomputable def FleqStreamS (k:Nat) (a0:List (Int×Int×List Int)) (a1:List (Int×Int×List Int)):Option (Bool):=den E k 74 [.c (.l 225 T0 a0),.c (.l 225 T0 a1)]
noncomputable def FleqWorld (k:Nat) (a0:z2) (a1:z2):Option (Bool):=den E k 16 [.agg (avs Q0 a0),.agg (avs Q0 a1)]
noncomputable def FlheldBatteryS (k:Nat) (a0:List I6) (a1:Int):Option (Int):=den E k 96 [.c (.l 119 sI6 a0),cI a1]
noncomputable def FlheldFaultS (k:Nat) (a0:List I4) (a1:Int):Option (Int):=den E k 100 [.c (.l 90 sI4 a0),cI a1]
noncomputable def FlheldFlowS (k:Nat) (a0:List I4) (a1:Int):Option (Int):=den E k 98 [.c (.l 89 sI4 a0),cI a1]
noncomputable def FlheldIntS (k:Nat) (a0:List Int) (a1:Int):Option (Int):=den E k 95 [.c (.l 3 (.i .i64) a0),cI a1]
noncomputable def FlheldLaw (k:Nat) (a0:List Int) (a1:Int):Option (Int):=den E k 94 [.agg [.l 3 (.i .i64) a0],cI a1]
theorem elheldLaw (k:Nat) (a0 a1):FlheldLaw (k+1) a0 a1=(FlheldIntS k a0 a1).bind fun p1=>if (decide (p1<0))=true then some (-1) else some p1:=by kernel_rfl
noncomputable def FlheldPacketS (k:Nat) (a0:List I6) (a1:Int):Option (Int):=den E k 101 [.c (.l 229 sI6 a0),cI a1]
noncomputable def FlheldLinkS (k:Nat) (a0:List I2) (a1:Int):Option (Int):=den E k 302 [.c (.l 288 sI2 a0),cI a1]
noncomputable def FlheldTableS (k:Nat) (a0:List (Int×(List Int)×List Int)) (a1:Int):Option (Int):=den E k 303 [.c (.l 290 sTable a0),cI a1]
noncomputable def FlheldPieceS (k:Nat) (a0:List TPiece) (a1:Int):Option (Int):=den E k 201 [.c (.l 198 sPiece a0),cI a1]
noncomputable def FlheldProgram (k:Nat) (a0:W0) (a1:Int):Option (Int):=den E k 93 [.agg (avs m0 a0),cI a1]
theorem elheldProgram (k:Nat) (a0 a1):FlheldProgram (k+1) a0 a1=(FlheldPieceS k a0.2.2.2 a1).bind fun p1=>if (decide (p1<0))=true then some (-1) else some p1:=by kernel_rfl
noncomputable def FlheldQueueS (k:Nat) (a0:List (List I6)) (a1:Int):Option (Int):=den E k 97 [.c (.l 117 J0 a0),cI a1]
noncomputable def FlheldSentS (k:Nat) (a0:List I4) (a1:Int):Option (Int):=den E k 102 [.c (.l 168 sI4 a0),cI a1]
noncomputable def FlheldSatS (k:Nat) (a0:List I4) (a1:Int):Option (Int):=den E k 198 [.c (.l 181 sI4 a0),cI a1]
noncomputable def FlheldSiteS (k:Nat) (a0:List I3) (a1:Int):Option (Int):=den E k 199 [.c (.l 183 sI3 a0),cI a1]
noncomputable def FlheldZoneS (k:Nat) (a0:List I3) (a1:Int):Option (Int):=den E k 200 [.c (.l 188 sZone a0),cI a1]
noncomputable def FlheldSky (k:Nat) (a0:TSky) (a1:Int):Option (Int):=den E k 92 [.agg (avs sSky a0),cI a1]
theorem elheldSky (k:Nat) (a0 a1):FlheldSky (k+1) a0 a1=(FlheldSatS k a0.2.1 a1).bind fun p1=>if (decide (p1<0))=true then some (-1) else (FlheldSiteS k a0.2.2.1 p1).bind fun p2=>if (decide (p2<0))=true then some (-1) else (FlheldZoneS k a0.2.2.2.2.2.2.2.2.1 p2).bind fun p3=>if (decide (p3<0))=true then some (-1) else some p3:=by kernel_rfl
noncomputable def FlheldStreamS (k:Nat) (a0:List (Int×Int×List Int)) (a1:Int):Option (Int):=den E k 99 [.c (.l 225 T0 a0),cI a1]
noncomputable def FlheldWorld (k:Nat) (a0:z2) (a1:Int):Option (Int):=den E k 24 [.agg (avs Q0 a0),cI a1]
theorem elheldWorld (k:Nat) (a0 a1):FlheldWorld (k+1) a0 a1=(FlheldSky k a0.1 a1).bind fun p1=>if (decide (p1<0))=true then some (-1) else (FlheldProgram k a0.2.1 p1).bind fun p2=>if (decide (p2<0))=true then some (-1) else (FlheldLaw k a0.2.2.1 p2).bind fun p3=>if (decide (p3<0))=true then some (-1) else (FlheldIntS k a0.2.2.2.1 p3).bind fun p4=>if (decide (p4<0))=true then some (-1) else (FlheldBatteryS k a0.2.2.2.2.1 p4).bind fun p5=>if (decide (p5<0))=true then some (-1) else (FlheldQueueS k a0.2.2.2.2.2.1 p5).bind fun p6=>if (decide (p6<0))=true then some (-1) else (FlheldFlowS k a0.2.2.2.2.2.2.1 p6).bind fun p7=>if (decide (p7<0))=true then some (-1) else (FlheldIntS k a0.2.2.2.2.2.2.2.1 p7).bind fun p8=>if (decide (p8<0))=true then some (-1) else (FlheldStreamS k a0.2.2.2.2.2.2.2.2.1 p8).bind fun p9=>if (decide (p9<0))=true then some (-1) else (FlheldFaultS k a0.2.2.2.2.2.2.2.2.2.1 p9).bind fun p10=>if (decide (p10<0))=true then some (-1) else (FlheldPacketS k a0.2.2.2.2.2.2.2.2.2.2.2.2.1 p10).bind fun p11=>if (decide (p11<0))=true then some (-1) else (FlheldSentS k a0.2.2.2.2.2.2.2.2.2.2.2.2.2 p11).bind fun p12=>if (decide (p12<0))=true then some (-1) else some p12:=by kernel_rfl
noncomputable def FlmarkBatteryS (k:Nat) (a0:List I6) (a1:Int):Option (Int×List I6):=den E k 85 [.c (.l 119 sI6 a0),cI a1]
noncomputable def FlmarkFaultS (k:Nat) (a0:List I4) (a1:Int):Option (Int×List I4):=den E k 89 [.c (.l 90 sI4 a0),cI a1]
noncomputable def FlmarkFlowS (k:Nat) (a0:List I4) (a1:Int):Option (Int×List I4):=den E k 87 [.c (.l 89 sI4 a0),cI a1]
noncomputable def FlmarkIntS (k:Nat) (a0:List Int) (a1:Int):Option (Int×List Int):=den E k 21 [.c (.l 3 (.i .i64) a0),cI a1]
noncomputable def FlmarkLaw (k:Nat) (a0:List Int) (a1:Int):Option (Int×List Int):=den E k 22 [.agg [.l 3 (.i .i64) a0],cI a1]
theorem elmarkLaw (k:Nat) (a0 a1):FlmarkLaw (k+1) a0 a1=(FlmarkIntS k a0 a1).bind fun p1=>some p1:=by kernel_rfl
noncomputable def FlmarkPacketS (k:Nat) (a0:List I6) (a1:Int):Option (Int×List I6):=den E k 90 [.c (.l 229 sI6 a0),cI a1]
noncomputable def FlmarkLinkS (k:Nat) (a0:List I2) (a1:Int):Option (Int×List I2):=den E k 300 [.c (.l 288 sI2 a0),cI a1]
noncomputable def FlmarkTableS (k:Nat) (a0:List (Int×(List Int)×List Int)) (a1:Int):Option (Int×List (Int×(List Int)×List Int)):=den E k 301 [.c (.l 290 sTable a0),cI a1]
noncomputable def FlmarkPieceS (k:Nat) (a0:List TPiece) (a1:Int):Option (Int×List TPiece):=den E k 197 [.c (.l 198 sPiece a0),cI a1]
noncomputable def FlmarkProgram (k:Nat) (a0:W0) (a1:Int):Option (Int×List TPiece):=den E k 84 [.agg (avs m0 a0),cI a1]
theorem elmarkProgram (k:Nat) (a0 a1):FlmarkProgram (k+1) a0 a1=(FlmarkPieceS k a0.2.2.2 a1).bind fun p1=>some p1:=by kernel_rfl
noncomputable def FlmarkQueueS (k:Nat) (a0:List (List I6)) (a1:Int):Option (Int×List (List I6)):=den E k 86 [.c (.l 117 J0 a0),cI a1]
noncomputable def FlmarkSentS (k:Nat) (a0:List I4) (a1:Int):Option (Int×List I4):=den E k 91 [.c (.l 168 sI4 a0),cI a1]
noncomputable def FlmarkSatS (k:Nat) (a0:List I4) (a1:Int):Option (Int×List I4):=den E k 81 [.c (.l 181 sI4 a0),cI a1]
noncomputable def FlmarkSiteS (k:Nat) (a0:List I3) (a1:Int):Option (Int×List I3):=den E k 82 [.c (.l 183 sI3 a0),cI a1]
noncomputable def FlmarkZoneS (k:Nat) (a0:List I3) (a1:Int):Option (Int×List I3):=den E k 83 [.c (.l 188 sZone a0),cI a1]
noncomputable def FlmarkSky (k:Nat) (a0:TSky) (a1:Int):Option (Int×(List I4)×(List I3)×List I3):=den E k 20 [.agg (avs sSky a0),cI a1]
theorem elmarkSky (k:Nat) (a0 a1):FlmarkSky (k+1) a0 a1=(FlmarkSatS k a0.2.1 a1).bind fun p1=>(FlmarkSiteS k a0.2.2.1 p1.1).bind fun p2=>(FlmarkZoneS k a0.2.2.2.2.2.2.2.2.1 p2.1).bind fun p3=>some (p3.1,p1.2,p2.2,p3.2):=by kernel_rfl
noncomputable def FlmarkStreamS (k:Nat) (a0:List (Int×Int×List Int)) (a1:Int):Option (Int×List (Int×Int×List Int)):=den E k 88 [.c (.l 225 T0 a0),cI a1]
noncomputable def FlmarkWorld (k:Nat) (a0:z2) (a1:Int):Option (Int×(List I4)×(List I3)×(List I3)×(List TPiece)×(List Int)×(List Int)×(List I6)×(List (List I6))×(List I4)×(List Int)×(List (Int×Int×List Int))×(List I4)×(List I6)×List I4):=den E k 23 [.agg (avs Q0 a0),cI a1]
theorem elmarkWorld (k:Nat) (a0 a1):FlmarkWorld (k+1) a0 a1=(FlmarkSky k a0.1 a1).bind fun p1=>(FlmarkProgram k a0.2.1 p1.1).bind fun p2=>(FlmarkLaw k a0.2.2.1 p2.1).bind fun p3=>(FlmarkIntS k a0.2.2.2.1 p3.1).bind fun p4=>(FlmarkBatteryS k a0.2.2.2.2.1 p4.1).bind fun p5=>(FlmarkQueueS k a0.2.2.2.2.2.1 p5.1).bind fun p6=>(FlmarkFlowS k a0.2.2.2.2.2.2.1 p6.1).bind fun p7=>(FlmarkIntS k a0.2.2.2.2.2.2.2.1 p7.1).bind fun p8=>(FlmarkStreamS k a0.2.2.2.2.2.2.2.2.1 p8.1).bind fun p9=>(FlmarkFaultS k a0.2.2.2.2.2.2.2.2.2.1 p9.1).bind fun p10=>(FlmarkPacketS k a0.2.2.2.2.2.2.2.2.2.2.2.2.1 p10.1).bind fun p11=>(FlmarkSentS k a0.2.2.2.2.2.2.2.2.2.2.2.2.2 p11.1).bind fun p12=>some (p12.1,p1.2.1,p1.2.2.1,p1.2.2.2,p2.2,p3.2,p4.2,p5.2,p6.2,p7.2,p8.2,p9.2,p10.2,p11.2,p12.2):=by kernel_rfl
noncomputable def FlszBatteryS (k:Nat) (a0:List I6) (a1:Int):Option (Int):=den E k 104 [.c (.l 252 sI6 a0),cI a1]
noncomputable def FlszFaultS (k:Nat) (a0:List I4) (a1:Int):Option (Int):=den E k 108 [.c (.l 85 sI4 a0),cI a1]
noncomputable def FlszFlowS (k:Nat) (a0:List I4) (a1:Int):Option (Int):=den E k 106 [.c (.l 83 sI4 a0),cI a1]
noncomputable def FlszIntS (k:Nat) (a0:List Int) (a1:Int):Option (Int):=den E k 45 [.c (.l 3 (.i .i64) a0),cI a1]
noncomputable def FlszLaw (k:Nat) (a0:List Int) (a1:Int):Option (Int):=den E k 10 [.agg [.l 3 (.i .i64) a0],cI a1]
noncomputable def FlszPacketS (k:Nat) (a0:List I6) (a1:Int):Option (Int):=den E k 109 [.c (.l 256 sI6 a0),cI a1]
noncomputable def FlszLinkS (k:Nat) (a0:List I2) (a1:Int):Option (Int):=den E k 378 [.c (.l 382 sI2 a0),cI a1]
noncomputable def FlszTable (k:Nat) (a0:Int×(List Int)×List Int) (a1:Int):Option (Int):=den E k 437 [.agg (avs sTable a0),cI a1]
noncomputable def FlszTableS (k:Nat) (a0:List (Int×(List Int)×List Int)) (a1:Int):Option (Int):=den E k 379 [.c (.l 380 sTable a0),cI a1]
noncomputable def FlszPiece (k:Nat) (a0:TPiece) (a1:Int):Option (Int):=den E k 304 [.agg (avs sLPiece a0),cI a1]
noncomputable def FlszPieceS (k:Nat) (a0:List TPiece) (a1:Int):Option (Int):=den E k 202 [.c (.l 311 sLPiece a0),cI a1]
noncomputable def FlszProgram (k:Nat) (a0:W0) (a1:Int):Option (Int):=den E k 103 [.agg (avs sLProgram a0),cI a1]
noncomputable def FlszQueue (k:Nat) (a0:List I6) (a1:Int):Option (Int):=den E k 203 [.agg [.l 256 sI6 a0],cI a1]
noncomputable def FlszQueueS (k:Nat) (a0:List (List I6)) (a1:Int):Option (Int):=den E k 105 [.c (.l 238 sLQueue a0),cI a1]
noncomputable def FlszSentS (k:Nat) (a0:List I4) (a1:Int):Option (Int):=den E k 110 [.c (.l 258 sI4 a0),cI a1]
noncomputable def FlszSatS (k:Nat) (a0:List I4) (a1:Int):Option (Int):=den E k 42 [.c (.l 207 sI4 a0),cI a1]
noncomputable def FlszSiteS (k:Nat) (a0:List I3) (a1:Int):Option (Int):=den E k 43 [.c (.l 209 sI3 a0),cI a1]
noncomputable def FlszZoneS (k:Nat) (a0:List I3) (a1:Int):Option (Int):=den E k 44 [.c (.l 213 sZone a0),cI a1]
noncomputable def FlszSky (k:Nat) (a0:TSky) (a1:Int):Option (Int):=den E k 9 [.agg (avs sLSky a0),cI a1]
noncomputable def FlszStream (k:Nat) (a0:Int×Int×List Int) (a1:Int):Option (Int):=den E k 204 [.agg (avs T0 a0),cI a1]
noncomputable def FlszStreamS (k:Nat) (a0:List (Int×Int×List Int)) (a1:Int):Option (Int):=den E k 107 [.c (.l 240 T0 a0),cI a1]
noncomputable def FlszWorld (k:Nat) (a0:z2) (a1:Int):Option (Int):=den E k 25 [.agg (avs sLWorld a0),cI a1]
noncomputable def FltoBattery (k:Nat) (a0:I6):Option I6:=den E k 219 [.agg (avs sI6 a0)]
noncomputable def FltoBatteryS (k:Nat) (a0:List I6):Option (List I6):=den E k 118 [.c (.l 252 sI6 a0)]
noncomputable def FltoFault (k:Nat) (a0:I4):Option I4:=den E k 148 [.agg (avs sI4 a0)]
noncomputable def FltoFaultS (k:Nat) (a0:List I4):Option (List I4):=den E k 122 [.c (.l 85 sI4 a0)]
noncomputable def FltoFlow (k:Nat) (a0:I4):Option I4:=den E k 147 [.agg (avs sI4 a0)]
noncomputable def FltoFlowS (k:Nat) (a0:List I4):Option (List I4):=den E k 120 [.c (.l 83 sI4 a0)]
noncomputable def FltoIntS (k:Nat) (a0:List Int):Option (List Int):=den E k 13 [.c (.l 3 (.i .i64) a0)]
noncomputable def FltoLaw (k:Nat) (a0:List Int):Option (List Int):=den E k 14 [.agg [.l 3 (.i .i64) a0]]
noncomputable def FltoPacket (k:Nat) (a0:I6):Option I6:=den E k 222 [.agg (avs sI6 a0)]
noncomputable def FltoPacketS (k:Nat) (a0:List I6):Option (List I6):=den E k 123 [.c (.l 256 sI6 a0)]
noncomputable def FltoLink (k:Nat) (a0:I2):Option I2:=den E k 441 [.agg [vI a0.1,vI a0.2]]
noncomputable def FltoLinkS (k:Nat) (a0:List I2):Option (List I2):=den E k 384 [.c (.l 382 sI2 a0)]
noncomputable def FltoSpan (k:Nat) (a0:I2):Option I2:=den E k 383 [.agg [vI a0.1,vI a0.2]]
noncomputable def FltoTable (k:Nat) (a0:Int×(List Int)×List Int):Option (Int×(List Int)×List Int):=den E k 442 [.agg (avs sTable a0)]
noncomputable def FltoTableS (k:Nat) (a0:List (Int×(List Int)×List Int)):Option (List (Int×(List Int)×List Int)):=den E k 385 [.c (.l 380 sTable a0)]
noncomputable def FltoPiece (k:Nat) (a0:TPiece):Option TPiece:=den E k 317 [.agg (avs sLPiece a0)]
noncomputable def FltoPieceS (k:Nat) (a0:List TPiece):Option (List TPiece):=den E k 218 [.c (.l 311 sLPiece a0)]
noncomputable def FltoProgram (k:Nat) (a0:W0):Option W0:=den E k 117 [.agg (avs sLProgram a0)]
noncomputable def FltoQueue (k:Nat) (a0:List I6):Option (List I6):=den E k 220 [.agg [.l 256 sI6 a0]]
noncomputable def FltoQueueS (k:Nat) (a0:List (List I6)):Option (List (List I6)):=den E k 119 [.c (.l 238 sLQueue a0)]
noncomputable def FltoSent (k:Nat) (a0:I4):Option I4:=den E k 223 [.agg (avs sI4 a0)]
noncomputable def FltoSentS (k:Nat) (a0:List I4):Option (List I4):=den E k 124 [.c (.l 258 sI4 a0)]
noncomputable def FltoSat (k:Nat) (a0:I4):Option I4:=den E k 167 [.agg (avs sI4 a0)]
noncomputable def FltoSatS (k:Nat) (a0:List I4):Option (List I4):=den E k 56 [.c (.l 207 sI4 a0)]
noncomputable def FltoSite (k:Nat) (a0:I3):Option I3:=den E k 168 [.agg (avs sI3 a0)]
noncomputable def FltoSiteS (k:Nat) (a0:List I3):Option (List I3):=den E k 57 [.c (.l 209 sI3 a0)]
noncomputable def FltoArc (k:Nat) (a0:I2):Option I2:=den E k 280 [.agg [vI a0.1,vI a0.2]]
noncomputable def FltoZone (k:Nat) (a0:I3):Option I3:=den E k 169 [.agg (avs sI3 a0)]
noncomputable def FltoZoneS (k:Nat) (a0:List I3):Option (List I3):=den E k 58 [.c (.l 213 sZone a0)]
noncomputable def FltoSky (k:Nat) (a0:TSky):Option TSky:=den E k 12 [.agg (avs sLSky a0)]
noncomputable def FltoStream (k:Nat) (a0:Int×Int×List Int):Option (Int×Int×List Int):=den E k 221 [.agg (avs T0 a0)]
noncomputable def FltoStreamS (k:Nat) (a0:List (Int×Int×List Int)):Option (List (Int×Int×List Int)):=den E k 121 [.c (.l 240 T0 a0)]
noncomputable def FltoWorld (k:Nat) (a0:z2):Option z2:=den E k 27 [.agg (avs sLWorld a0)]
noncomputable def FsIsSpan (k:Nat) (a0:I2):Option (Bool):=den E k 270 [.agg [vI a0.1,vI a0.2]]
theorem esIsSpan (k:Nat) (a0):FsIsSpan (k+1) a0=if ((decide (a0.1>=0))==true)=true then if ((decide (a0.2<=1000))==true)=true then some (decide (a0.1<a0.2)) else some false else some false:=by kernel_rfl
noncomputable def FsInSpan (k:Nat) (a0:I2) (a1:Int):Option (Bool):=den E k 245 [.agg [vI a0.1,vI a0.2],cI a1]
theorem esInSpan (k:Nat) (a0 a1):FsInSpan (k+1) a0 a1=(FsIsSpan k a0).bind fun p1=>if (p1==true)=true then if ((decide (a0.1<=a1))==true)=true then some (decide (a1<a0.2)) else some false else some false:=by kernel_rfl
noncomputable def Fsl31Now (k:Nat) (a0:I4) (a1:Int):Option (Bool):=den E k 312 [.agg (avs sI4 a0),cI a1]
theorem esl31Now (k:Nat) (a0 a1):Fsl31Now (k+1) a0 a1=(FsInSpan k a0.2.2 a1).bind fun p1=>some p1:=by kernel_rfl
noncomputable def FsIsDown (k:Nat) (a0:List I4) (a1:Int) (a2:Int):Option (Bool):=den E k 313 [.c (.l 90 sI4 a0),cI a1,cI a2]
abbrev CsIsDown_0:=(List I4)×Int×Int
abbrev VsIsDown_0:=Int
def StsIsDown_0:CsIsDown_0->VsIsDown_0->St
 | (a,b,d),e=>⟨37,0,[(0,.c (.l 90 sI4 a)),(1,cI b),(2,cI d),(7,cI e)],[]⟩
noncomputable def BsIsDown_0 {R:Type} (k:Nat) (X0:VsIsDown_0->I4->I4->I4->Bool->Option R) (X1:VsIsDown_0->Option R) (c0:CsIsDown_0) (rec:VsIsDown_0->Option R) (v0:VsIsDown_0):Option R:=if (decide (v0<(c0.1.length:Int)))=true then if 0<=v0 then ix c0.1 v0.toNat fun x1=>if ((x1.1==c0.2.1)==true)=true then if 0<=v0 then ix c0.1 v0.toNat fun x2=>if ((x2.2.1== -1)==true)=true then if 0<=v0 then ix c0.1 v0.toNat fun x3=>(Fsl31Now k x3 c0.2.2).bind fun p4=>if p4=true then X0 v0 x1 x2 x3 p4 else rec (i64.wrap (v0+1)) else none else rec (i64.wrap (v0+1)) else none else rec (i64.wrap (v0+1)) else none else X1 v0
noncomputable def LsIsDown_0 {R:Type} (k:Nat) (X0:VsIsDown_0->I4->I4->I4->Bool->Option R) (X1:VsIsDown_0->Option R) (c:CsIsDown_0):Nat->VsIsDown_0->Option R
 | 0,_=>none
 | n+1,v=>BsIsDown_0 k X0 X1 c (LsIsDown_0 k X0 X1 c n) v
noncomputable def fsIsDown_0 {R:Type} (k:Nat) (K:Ex->St->Option R) (c:CsIsDown_0):=lpf E k 313 Tryz.f313 0 [0,0,1,2,7] (StsIsDown_0 c) K
theorem qsIsDown_0 (k:Nat) (K:Ex->St->Option R) (X0 X1 c) (h:QL (fsIsDown_0 k K c) (BsIsDown_0 k X0 X1 c)) (v):LsIsDown_0 k X0 X1 c k v=fsIsDown_0 k K c k v:=lq h (fun _ _=>rfl) (fun _=>rfl) (fun _=>rfl) k v
noncomputable def NsIsDown:Ex->St->Option (Bool):=C1 E (rs 313) Tryz.f313
theorem esIsDown (k:Nat) (a0 a1 a2):FsIsDown (k+1) a0 a1 a2=LsIsDown_0 k (fun (v0:Int) x1 x2 x3 p4=>some true) (fun (v0:Int)=>some false) (a0,a1,a2) k 0:=by
 simp (disch:=(refine QL.mk fun n0 v=> ?_;kernel_rfl)) only [↓qsIsDown_0 k (kon0 E k 313 Tryz.f313 0 NsIsDown)]
 kernel_rfl
noncomputable def Fsl1In (k:Nat) (a0:Int) (a1:Int) (a2:Int):Option (Bool):=den E k 47 [cI a0,cI a1,cI a2]
theorem esl1In (k:Nat) (a0 a1 a2):Fsl1In (k+1) a0 a1 a2=if ((decide (a0>=a1))==true)=true then some (decide (a0<=a2)) else some false:=by kernel_rfl
noncomputable def Fsl22Rates (k:Nat) (a0:I6):Option (Bool):=den E k 275 [.agg (avs sI6 a0)]
theorem esl22Rates (k:Nat) (a0):Fsl22Rates (k+1) a0=(Fsl1In k a0.2.2.2.1 0 100).bind fun p1=>if (p1==true)=true then (Fsl1In k a0.2.2.2.2.2 0 100).bind fun p2=>some p2 else some false:=by kernel_rfl
noncomputable def FsIsBattery (k:Nat) (a0:I6):Option (Bool):=den E k 162 [.agg (avs sI6 a0)]
theorem esIsBattery (k:Nat) (a0):FsIsBattery (k+1) a0=(Fsl22Rates k a0).bind fun p1=>if (p1==true)=true then (Fsl1In k a0.2.2.2.2.1 0 100).bind fun p2=>if (p2==true)=true then (Fsl1In k a0.2.1 0 10000).bind fun p3=>if (p3==true)=true then (Fsl1In k a0.2.2.1 0 a0.2.1).bind fun p4=>if (p4==true)=true then (Fsl1In k a0.1 a0.2.2.1 a0.2.1).bind fun p5=>some p5 else some false else some false else some false else some false:=by kernel_rfl
noncomputable def FsMaySend (k:Nat) (a0:I6) (a1:Int):Option (Bool):=den E k 399 [.agg (avs sI6 a0),cI a1]
theorem esMaySend (k:Nat) (a0 a1):FsMaySend (k+1) a0 a1=(FsIsBattery k a0).bind fun p1=>if (p1==true)=true then (Fsl1In k a1 0 10000).bind fun p2=>if (p2==true)=true then some (decide ((i64.wrap (a0.1-a0.2.2.2.2.1))>=(i64.wrap (a0.2.2.1+a1)))) else some false else some false:=by kernel_rfl
noncomputable def FsMod (k:Nat) (a0:Int) (a1:Int):Option (Int):=den E k 423 [cI a0,cI a1]
theorem esMod (k:Nat) (a0 a1):FsMod (k+1) a0 a1=(Fsl1In k a1 1 1000000000000).bind fun p1=>if (!p1)=true then some 0 else if a1=0 then none else if a1=0 then none else some (((i64.wrap (((a0).tmod a1)+a1))).tmod a1):=by kernel_rfl
end Go.Proofs.YtdglapefgakccaaGreat.World
