/- The equations of the functions that a law reaches, part 1. No condition. -/
import Derived.Test.YtdglapefgakccaaGreatV4
import Derived.Test.YtdglapefgakccaaGreatProg
import Derived.KernelRfl
set_option linter.unusedSimpArgs false
set_option linter.unusedVariables false
namespace Go.Proofs.YtdglapefgakccaaGreat.World
open Go Go.V Go.Proofs
open Go.IntKind (i64 u64)
variable {R:Type}
set_option maxRecDepth 100000
set_option maxHeartbeats 4000000
abbrev I6:=Int×Int×Int×Int×Int×Int
abbrev I4:=Int×Int×Int×Int
abbrev I3:=Int×Int×Int
abbrev I2:=Int×Int
abbrev TLPiece:=I2×(List I2)×List (Int×(List Int)×List Int)
abbrev TPiece:=I2×(List I2)×List (Int×(List Int)×List Int)
abbrev TLProgram:=Int×Int×Int×List TPiece
abbrev TProgram:=Int×Int×Int×List TPiece
abbrev TLSky:=Int×(List I4)×(List I3)×Int×Int×Int×Int×Int×(List I3)×Int
abbrev TSky:=Int×(List I4)×(List I3)×Int×Int×Int×Int×Int×(List I3)×Int
abbrev TLWorld:=TSky×TProgram×(List Int)×(List Int)×(List I6)×(List (List I6))×(List I4)×(List Int)×(List (Int×Int×List Int))×(List I4)×Int×Int×(List I6)×List I4
abbrev TWorld:=TSky×TProgram×(List Int)×(List Int)×(List I6)×(List (List I6))×(List I4)×(List Int)×(List (Int×Int×List Int))×(List I4)×Int×Int×(List I6)×List I4
abbrev sI4:Sh:=(.a [(.i .i64),(.i .i64),(.i .i64),(.i .i64)])
abbrev sI3:Sh:=(.a [(.i .i64),(.i .i64),(.i .i64)])
abbrev sI2:Sh:=(.a [(.i .i64),(.i .i64)])
abbrev sZone:Sh:=(.a [(.i .i64),sI2])
abbrev sLSky:Sh:=(.a [(.i .i64),(.l 207 sI4),(.l 209 sI3),(.i .i64),(.i .i64),(.i .i64),(.i .i64),(.i .i64),(.l 213 sZone),(.i .i64)])
abbrev sLaw:Sh:=(.a [(.l 3 (.i .i64))])
abbrev sSky:Sh:=(.a [(.i .i64),(.l 181 sI4),(.l 183 sI3),(.i .i64),(.i .i64),(.i .i64),(.i .i64),(.i .i64),(.l 188 sZone),(.i .i64)])
abbrev sTable:Sh:=(.a [(.i .i64),(.l 3 (.i .i64)),(.l 3 (.i .i64))])
abbrev sPiece:Sh:=(.a [sI2,(.l 288 sI2),(.l 290 sTable)])
abbrev sProgram:Sh:=(.a [(.i .i64),(.i .i64),(.i .i64),(.l 198 sPiece)])
abbrev sI6:Sh:=(.a [(.i .i64),(.i .i64),(.i .i64),(.i .i64),(.i .i64),(.i .i64)])
abbrev sQueue:Sh:=(.a [(.l 229 sI6)])
abbrev sStream:Sh:=(.a [(.i .i64),(.i .i64),(.l 3 (.i .i64))])
abbrev sWorld:Sh:=(.a [sSky,sProgram,sLaw,(.l 3 (.i .i64)),(.l 119 sI6),(.l 117 sQueue),(.l 89 sI4),(.l 3 (.i .i64)),(.l 225 sStream),(.l 90 sI4),(.i .i64),(.i .i64),(.l 229 sI6),(.l 168 sI4)])
abbrev sLPiece:Sh:=(.a [sI2,(.l 382 sI2),(.l 380 sTable)])
abbrev sLProgram:Sh:=(.a [(.i .i64),(.i .i64),(.i .i64),(.l 311 sLPiece)])
abbrev sLQueue:Sh:=(.a [(.l 256 sI6)])
abbrev sLWorld:Sh:=(.a [sLSky,sLProgram,sLaw,(.l 3 (.i .i64)),(.l 252 sI6),(.l 238 sLQueue),(.l 83 sI4),(.l 3 (.i .i64)),(.l 240 sStream),(.l 85 sI4),(.i .i64),(.i .i64),(.l 256 sI6),(.l 258 sI4)])
noncomputable def ty:Nat->Option TyI
 | 3=>some ⟨.one,1,8,[(.int .i64 0)],(.i .i64)⟩
 | 4=>some ⟨.one,1,1,[(.bool false)],.b⟩
 | 9=>some ⟨.one,1,16,[(.string (⟨#[]⟩:ByteArray))],.s⟩
 | 22=>some ⟨.slc 207,1,24,[(.slice none 0 0)],(.l 207 sI4)⟩
 | 23=>some ⟨.slc 209,1,24,[(.slice none 0 0)],(.l 209 sI3)⟩
 | 24=>some ⟨.slc 213,1,24,[(.slice none 0 0)],(.l 213 sZone)⟩
 | 26=>some ⟨.agg [(0,3),(1,22),(2,23),(3,3),(4,3),(5,3),(6,3),(7,3),(8,24),(9,3)],10,128,[(.int .i64 0),(.slice none 0 0),(.slice none 0 0),(.int .i64 0),(.int .i64 0),(.int .i64 0),(.int .i64 0),(.int .i64 0),(.slice none 0 0),(.int .i64 0)],sLSky⟩
 | 27=>some ⟨.slc 3,1,24,[(.slice none 0 0)],(.l 3 (.i .i64))⟩
 | 29=>some ⟨.agg [(0,27)],1,24,[(.slice none 0 0)],sLaw⟩
 | 32=>some ⟨.slc 181,1,24,[(.slice none 0 0)],(.l 181 sI4)⟩
 | 33=>some ⟨.slc 183,1,24,[(.slice none 0 0)],(.l 183 sI3)⟩
 | 34=>some ⟨.slc 188,1,24,[(.slice none 0 0)],(.l 188 sZone)⟩
 | 36=>some ⟨.agg [(0,3),(1,32),(2,33),(3,3),(4,3),(5,3),(6,3),(7,3),(8,34),(9,3)],10,128,[(.int .i64 0),(.slice none 0 0),(.slice none 0 0),(.int .i64 0),(.int .i64 0),(.int .i64 0),(.int .i64 0),(.int .i64 0),(.slice none 0 0),(.int .i64 0)],sSky⟩
 | 37=>some ⟨.slc 198,1,24,[(.slice none 0 0)],(.l 198 sPiece)⟩
 | 39=>some ⟨.agg [(0,3),(1,3),(2,3),(3,37)],4,48,[(.int .i64 0),(.int .i64 0),(.int .i64 0),(.slice none 0 0)],sProgram⟩
 | 40=>some ⟨.agg [(0,27)],1,24,[(.slice none 0 0)],sLaw⟩
 | 41=>some ⟨.slc 119,1,24,[(.slice none 0 0)],(.l 119 sI6)⟩
 | 42=>some ⟨.slc 117,1,24,[(.slice none 0 0)],(.l 117 sQueue)⟩
 | 43=>some ⟨.slc 89,1,24,[(.slice none 0 0)],(.l 89 sI4)⟩
 | 44=>some ⟨.slc 225,1,24,[(.slice none 0 0)],(.l 225 sStream)⟩
 | 45=>some ⟨.slc 90,1,24,[(.slice none 0 0)],(.l 90 sI4)⟩
 | 46=>some ⟨.slc 229,1,24,[(.slice none 0 0)],(.l 229 sI6)⟩
 | 47=>some ⟨.slc 168,1,24,[(.slice none 0 0)],(.l 168 sI4)⟩
 | 49=>some ⟨.agg [(0,36),(10,39),(14,40),(15,27),(16,41),(17,42),(18,43),(19,27),(20,44),(21,45),(22,3),(23,3),(24,46),(25,47)],26,432,[(.int .i64 0),(.slice none 0 0),(.slice none 0 0),(.int .i64 0),(.int .i64 0),(.int .i64 0),(.int .i64 0),(.int .i64 0),(.slice none 0 0),(.int .i64 0),(.int .i64 0),(.int .i64 0),(.int .i64 0),(.slice none 0 0),(.slice none 0 0),(.slice none 0 0),(.slice none 0 0),(.slice none 0 0),(.slice none 0 0),(.slice none 0 0),(.slice none 0 0),(.slice none 0 0),(.int .i64 0),(.int .i64 0),(.slice none 0 0),(.slice none 0 0)],sWorld⟩
 | 64=>some ⟨.slc 311,1,24,[(.slice none 0 0)],(.l 311 sLPiece)⟩
 | 66=>some ⟨.agg [(0,3),(1,3),(2,3),(3,64)],4,48,[(.int .i64 0),(.int .i64 0),(.int .i64 0),(.slice none 0 0)],sLProgram⟩
 | 67=>some ⟨.slc 252,1,24,[(.slice none 0 0)],(.l 252 sI6)⟩
 | 68=>some ⟨.slc 238,1,24,[(.slice none 0 0)],(.l 238 sLQueue)⟩
 | 69=>some ⟨.slc 83,1,24,[(.slice none 0 0)],(.l 83 sI4)⟩
 | 70=>some ⟨.slc 240,1,24,[(.slice none 0 0)],(.l 240 sStream)⟩
 | 71=>some ⟨.slc 85,1,24,[(.slice none 0 0)],(.l 85 sI4)⟩
 | 72=>some ⟨.slc 256,1,24,[(.slice none 0 0)],(.l 256 sI6)⟩
 | 73=>some ⟨.slc 258,1,24,[(.slice none 0 0)],(.l 258 sI4)⟩
 | 75=>some ⟨.agg [(0,26),(10,66),(14,29),(15,27),(16,67),(17,68),(18,69),(19,27),(20,70),(21,71),(22,3),(23,3),(24,72),(25,73)],26,432,[(.int .i64 0),(.slice none 0 0),(.slice none 0 0),(.int .i64 0),(.int .i64 0),(.int .i64 0),(.int .i64 0),(.int .i64 0),(.slice none 0 0),(.int .i64 0),(.int .i64 0),(.int .i64 0),(.int .i64 0),(.slice none 0 0),(.slice none 0 0),(.slice none 0 0),(.slice none 0 0),(.slice none 0 0),(.slice none 0 0),(.slice none 0 0),(.slice none 0 0),(.slice none 0 0),(.int .i64 0),(.int .i64 0),(.slice none 0 0),(.slice none 0 0)],sLWorld⟩
 | 83=>some ⟨.agg [(0,3),(1,3),(2,3),(3,3)],4,32,[(.int .i64 0),(.int .i64 0),(.int .i64 0),(.int .i64 0)],sI4⟩
 | 85=>some ⟨.agg [(0,3),(1,3),(2,3),(3,3)],4,32,[(.int .i64 0),(.int .i64 0),(.int .i64 0),(.int .i64 0)],sI4⟩
 | 89=>some ⟨.agg [(0,3),(1,3),(2,3),(3,3)],4,32,[(.int .i64 0),(.int .i64 0),(.int .i64 0),(.int .i64 0)],sI4⟩
 | 90=>some ⟨.agg [(0,3),(1,3),(2,3),(3,3)],4,32,[(.int .i64 0),(.int .i64 0),(.int .i64 0),(.int .i64 0)],sI4⟩
 | 117=>some ⟨.agg [(0,46)],1,24,[(.slice none 0 0)],sQueue⟩
 | 119=>some ⟨.agg [(0,3),(1,3),(2,3),(3,3),(4,3),(5,3)],6,48,[(.int .i64 0),(.int .i64 0),(.int .i64 0),(.int .i64 0),(.int .i64 0),(.int .i64 0)],sI6⟩
 | 121=>some ⟨.slc 194,1,24,[(.slice none 0 0)],(.l 194 sI2)⟩
 | 168=>some ⟨.agg [(0,3),(1,3),(2,3),(3,3)],4,32,[(.int .i64 0),(.int .i64 0),(.int .i64 0),(.int .i64 0)],sI4⟩
 | 181=>some ⟨.agg [(0,3),(1,3),(2,3),(3,3)],4,32,[(.int .i64 0),(.int .i64 0),(.int .i64 0),(.int .i64 0)],sI4⟩
 | 183=>some ⟨.agg [(0,3),(1,3),(2,3)],3,24,[(.int .i64 0),(.int .i64 0),(.int .i64 0)],sI3⟩
 | 186=>some ⟨.agg [(0,3),(1,3)],2,16,[(.int .i64 0),(.int .i64 0)],sI2⟩
 | 188=>some ⟨.agg [(0,3),(1,186)],3,24,[(.int .i64 0),(.int .i64 0),(.int .i64 0)],sZone⟩
 | 191=>some ⟨.slc 288,1,24,[(.slice none 0 0)],(.l 288 sI2)⟩
 | 194=>some ⟨.agg [(0,3),(1,3)],2,16,[(.int .i64 0),(.int .i64 0)],sI2⟩
 | 195=>some ⟨.slc 290,1,24,[(.slice none 0 0)],(.l 290 sTable)⟩
 | 198=>some ⟨.agg [(0,194),(2,191),(3,195)],4,64,[(.int .i64 0),(.int .i64 0),(.slice none 0 0),(.slice none 0 0)],sPiece⟩
 | 207=>some ⟨.agg [(0,3),(1,3),(2,3),(3,3)],4,32,[(.int .i64 0),(.int .i64 0),(.int .i64 0),(.int .i64 0)],sI4⟩
 | 209=>some ⟨.agg [(0,3),(1,3),(2,3)],3,24,[(.int .i64 0),(.int .i64 0),(.int .i64 0)],sI3⟩
 | 211=>some ⟨.agg [(0,3),(1,3)],2,16,[(.int .i64 0),(.int .i64 0)],sI2⟩
 | 213=>some ⟨.agg [(0,3),(1,211)],3,24,[(.int .i64 0),(.int .i64 0),(.int .i64 0)],sZone⟩
 | 225=>some ⟨.agg [(0,3),(1,3),(2,27)],3,40,[(.int .i64 0),(.int .i64 0),(.slice none 0 0)],sStream⟩
 | 229=>some ⟨.agg [(0,3),(1,3),(2,3),(3,3),(4,3),(5,3)],6,48,[(.int .i64 0),(.int .i64 0),(.int .i64 0),(.int .i64 0),(.int .i64 0),(.int .i64 0)],sI6⟩
 | 238=>some ⟨.agg [(0,72)],1,24,[(.slice none 0 0)],sLQueue⟩
 | 240=>some ⟨.agg [(0,3),(1,3),(2,27)],3,40,[(.int .i64 0),(.int .i64 0),(.slice none 0 0)],sStream⟩
 | 252=>some ⟨.agg [(0,3),(1,3),(2,3),(3,3),(4,3),(5,3)],6,48,[(.int .i64 0),(.int .i64 0),(.int .i64 0),(.int .i64 0),(.int .i64 0),(.int .i64 0)],sI6⟩
 | 256=>some ⟨.agg [(0,3),(1,3),(2,3),(3,3),(4,3),(5,3)],6,48,[(.int .i64 0),(.int .i64 0),(.int .i64 0),(.int .i64 0),(.int .i64 0),(.int .i64 0)],sI6⟩
 | 258=>some ⟨.agg [(0,3),(1,3),(2,3),(3,3)],4,32,[(.int .i64 0),(.int .i64 0),(.int .i64 0),(.int .i64 0)],sI4⟩
 | 288=>some ⟨.agg [(0,3),(1,3)],2,16,[(.int .i64 0),(.int .i64 0)],sI2⟩
 | 290=>some ⟨.agg [(0,3),(1,27),(2,27)],3,56,[(.int .i64 0),(.slice none 0 0),(.slice none 0 0)],sTable⟩
 | 300=>some ⟨.slc 4,1,24,[(.slice none 0 0)],(.l 4 .b)⟩
 | 307=>some ⟨.agg [(0,3),(1,3)],2,16,[(.int .i64 0),(.int .i64 0)],sI2⟩
 | 308=>some ⟨.slc 382,1,24,[(.slice none 0 0)],(.l 382 sI2)⟩
 | 309=>some ⟨.slc 380,1,24,[(.slice none 0 0)],(.l 380 sTable)⟩
 | 311=>some ⟨.agg [(0,307),(2,308),(3,309)],4,64,[(.int .i64 0),(.int .i64 0),(.slice none 0 0),(.slice none 0 0)],sLPiece⟩
 | 365=>some ⟨.slc 27,1,24,[(.slice none 0 0)],(.l 27 (.l 3 (.i .i64)))⟩
 | 380=>some ⟨.agg [(0,3),(1,27),(2,27)],3,56,[(.int .i64 0),(.slice none 0 0),(.slice none 0 0)],sTable⟩
 | 382=>some ⟨.agg [(0,3),(1,3)],2,16,[(.int .i64 0),(.int .i64 0)],sI2⟩
 | _=>none
noncomputable def fn0:Nat->Option Func
 | 4=>some Tryz.f4
 | 9=>some Tryz.f9
 | 10=>some Tryz.f10
 | 12=>some Tryz.f12
 | 13=>some Tryz.f13
 | 14=>some Tryz.f14
 | 16=>some Tryz.f16
 | 17=>some Tryz.f17
 | 18=>some Tryz.f18
 | 19=>some Tryz.f19
 | 25=>some Tryz.f25
 | 26=>some Tryz.f26
 | 27=>some Tryz.f27
 | 28=>some Tryz.f28
 | 42=>some Tryz.f42
 | 43=>some Tryz.f43
 | 44=>some Tryz.f44
 | 45=>some Tryz.f45
 | 46=>some Tryz.f46
 | 47=>some Tryz.f47
 | 50=>some Tryz.f50
 | 51=>some Tryz.f51
 | 52=>some Tryz.f52
 | 55=>some Tryz.f55
 | 56=>some Tryz.f56
 | 57=>some Tryz.f57
 | 58=>some Tryz.f58
 | 59=>some Tryz.f59
 | 60=>some Tryz.f60
 | 63=>some Tryz.f63
 | 64=>some Tryz.f64
 | 65=>some Tryz.f65
 | 67=>some Tryz.f67
 | 69=>some Tryz.f69
 | 70=>some Tryz.f70
 | 71=>some Tryz.f71
 | 72=>some Tryz.f72
 | 73=>some Tryz.f73
 | 74=>some Tryz.f74
 | 75=>some Tryz.f75
 | 76=>some Tryz.f76
 | 77=>some Tryz.f77
 | 78=>some Tryz.f78
 | 79=>some Tryz.f79
 | 80=>some Tryz.f80
 | 103=>some Tryz.f103
 | 104=>some Tryz.f104
 | 105=>some Tryz.f105
 | 106=>some Tryz.f106
 | 107=>some Tryz.f107
 | 108=>some Tryz.f108
 | 109=>some Tryz.f109
 | 110=>some Tryz.f110
 | 111=>some Tryz.f111
 | 112=>some Tryz.f112
 | 113=>some Tryz.f113
 | 114=>some Tryz.f114
 | 115=>some Tryz.f115
 | 116=>some Tryz.f116
 | 117=>some Tryz.f117
 | _=>none
noncomputable def fn1:Nat->Option Func
 | 118=>some Tryz.f118
 | 119=>some Tryz.f119
 | 120=>some Tryz.f120
 | 121=>some Tryz.f121
 | 122=>some Tryz.f122
 | 123=>some Tryz.f123
 | 124=>some Tryz.f124
 | 125=>some Tryz.f125
 | 126=>some Tryz.f126
 | 127=>some Tryz.f127
 | 128=>some Tryz.f128
 | 129=>some Tryz.f129
 | 130=>some Tryz.f130
 | 135=>some Tryz.f135
 | 136=>some Tryz.f136
 | 142=>some Tryz.f142
 | 147=>some Tryz.f147
 | 148=>some Tryz.f148
 | 153=>some Tryz.f153
 | 154=>some Tryz.f154
 | 155=>some Tryz.f155
 | 156=>some Tryz.f156
 | 162=>some Tryz.f162
 | 163=>some Tryz.f163
 | 164=>some Tryz.f164
 | 165=>some Tryz.f165
 | 166=>some Tryz.f166
 | 167=>some Tryz.f167
 | 168=>some Tryz.f168
 | 169=>some Tryz.f169
 | 170=>some Tryz.f170
 | 171=>some Tryz.f171
 | 172=>some Tryz.f172
 | 176=>some Tryz.f176
 | 181=>some Tryz.f181
 | 182=>some Tryz.f182
 | 183=>some Tryz.f183
 | 184=>some Tryz.f184
 | 185=>some Tryz.f185
 | 186=>some Tryz.f186
 | 187=>some Tryz.f187
 | 188=>some Tryz.f188
 | 189=>some Tryz.f189
 | 190=>some Tryz.f190
 | 191=>some Tryz.f191
 | 192=>some Tryz.f192
 | 193=>some Tryz.f193
 | 194=>some Tryz.f194
 | 195=>some Tryz.f195
 | 196=>some Tryz.f196
 | 202=>some Tryz.f202
 | 203=>some Tryz.f203
 | 204=>some Tryz.f204
 | 205=>some Tryz.f205
 | 206=>some Tryz.f206
 | 207=>some Tryz.f207
 | 208=>some Tryz.f208
 | 209=>some Tryz.f209
 | 210=>some Tryz.f210
 | 211=>some Tryz.f211
 | _=>none
noncomputable def fn2:Nat->Option Func
 | 212=>some Tryz.f212
 | 213=>some Tryz.f213
 | 214=>some Tryz.f214
 | 215=>some Tryz.f215
 | 216=>some Tryz.f216
 | 217=>some Tryz.f217
 | 218=>some Tryz.f218
 | 219=>some Tryz.f219
 | 220=>some Tryz.f220
 | 221=>some Tryz.f221
 | 222=>some Tryz.f222
 | 223=>some Tryz.f223
 | 224=>some Tryz.f224
 | 225=>some Tryz.f225
 | 226=>some Tryz.f226
 | 227=>some Tryz.f227
 | 228=>some Tryz.f228
 | 229=>some Tryz.f229
 | 230=>some Tryz.f230
 | 231=>some Tryz.f231
 | 232=>some Tryz.f232
 | 233=>some Tryz.f233
 | 234=>some Tryz.f234
 | 241=>some Tryz.f241
 | 244=>some Tryz.f244
 | 245=>some Tryz.f245
 | 250=>some Tryz.f250
 | 255=>some Tryz.f255
 | 258=>some Tryz.f258
 | 261=>some Tryz.f261
 | 263=>some Tryz.f263
 | 265=>some Tryz.f265
 | 266=>some Tryz.f266
 | 267=>some Tryz.f267
 | 270=>some Tryz.f270
 | 272=>some Tryz.f272
 | 275=>some Tryz.f275
 | 276=>some Tryz.f276
 | 277=>some Tryz.f277
 | 278=>some Tryz.f278
 | 279=>some Tryz.f279
 | 280=>some Tryz.f280
 | 281=>some Tryz.f281
 | 285=>some Tryz.f285
 | 289=>some Tryz.f289
 | 292=>some Tryz.f292
 | 293=>some Tryz.f293
 | 294=>some Tryz.f294
 | 295=>some Tryz.f295
 | 296=>some Tryz.f296
 | 297=>some Tryz.f297
 | 298=>some Tryz.f298
 | 299=>some Tryz.f299
 | 304=>some Tryz.f304
 | 305=>some Tryz.f305
 | 306=>some Tryz.f306
 | 307=>some Tryz.f307
 | 308=>some Tryz.f308
 | 309=>some Tryz.f309
 | 310=>some Tryz.f310
 | _=>none
noncomputable def fn3:Nat->Option Func
 | 311=>some Tryz.f311
 | 312=>some Tryz.f312
 | 313=>some Tryz.f313
 | 314=>some Tryz.f314
 | 315=>some Tryz.f315
 | 316=>some Tryz.f316
 | 317=>some Tryz.f317
 | 318=>some Tryz.f318
 | 319=>some Tryz.f319
 | 320=>some Tryz.f320
 | 321=>some Tryz.f321
 | 322=>some Tryz.f322
 | 323=>some Tryz.f323
 | 325=>some Tryz.f325
 | 326=>some Tryz.f326
 | 327=>some Tryz.f327
 | 328=>some Tryz.f328
 | 329=>some Tryz.f329
 | 330=>some Tryz.f330
 | 331=>some Tryz.f331
 | 332=>some Tryz.f332
 | 337=>some Tryz.f337
 | 344=>some Tryz.f344
 | 345=>some Tryz.f345
 | 353=>some Tryz.f353
 | 354=>some Tryz.f354
 | 359=>some Tryz.f359
 | 360=>some Tryz.f360
 | 361=>some Tryz.f361
 | 365=>some Tryz.f365
 | 366=>some Tryz.f366
 | 372=>some Tryz.f372
 | 373=>some Tryz.f373
 | 374=>some Tryz.f374
 | 375=>some Tryz.f375
 | 376=>some Tryz.f376
 | 377=>some Tryz.f377
 | 378=>some Tryz.f378
 | 379=>some Tryz.f379
 | 380=>some Tryz.f380
 | 381=>some Tryz.f381
 | 382=>some Tryz.f382
 | 383=>some Tryz.f383
 | 384=>some Tryz.f384
 | 385=>some Tryz.f385
 | 386=>some Tryz.f386
 | 387=>some Tryz.f387
 | 390=>some Tryz.f390
 | 391=>some Tryz.f391
 | 392=>some Tryz.f392
 | 393=>some Tryz.f393
 | 394=>some Tryz.f394
 | 395=>some Tryz.f395
 | 396=>some Tryz.f396
 | 397=>some Tryz.f397
 | 398=>some Tryz.f398
 | 417=>some Tryz.f417
 | 418=>some Tryz.f418
 | 421=>some Tryz.f421
 | 422=>some Tryz.f422
 | _=>none
noncomputable def fn4:Nat->Option Func
 | 423=>some Tryz.f423
 | 425=>some Tryz.f425
 | 432=>some Tryz.f432
 | 433=>some Tryz.f433
 | 434=>some Tryz.f434
 | 435=>some Tryz.f435
 | 436=>some Tryz.f436
 | 437=>some Tryz.f437
 | 438=>some Tryz.f438
 | 439=>some Tryz.f439
 | 440=>some Tryz.f440
 | 441=>some Tryz.f441
 | 442=>some Tryz.f442
 | 453=>some Tryz.f453
 | 454=>some Tryz.f454
 | 455=>some Tryz.f455
 | 456=>some Tryz.f456
 | 457=>some Tryz.f457
 | 462=>some Tryz.f462
 | 472=>some Tryz.f472
 | 473=>some Tryz.f473
 | 479=>some Tryz.f479
 | 487=>some Tryz.f487
 | 488=>some Tryz.f488
 | _=>none
noncomputable def fn (f:Nat):Option Func:=(match fn0 f with
 | some F=>some F
 | none=>(match fn1 f with
 | some F=>some F
 | none=>(match fn2 f with
 | some F=>some F
 | none=>(match fn3 f with
 | some F=>some F
 | none=>fn4 f))))
def lv:Nat->List Nat
 | 13=>[0,0,3,4]
 | 18=>[0,0,1,5]
 | 46=>[0,1,3,4,6]
 | 51=>[0,1,2,5]
 | 52=>[0,2,3,5]
 | 55=>[0,1,4,9,11,12]
 | 56=>[0,0,3,4]
 | 57=>[0,0,3,4]
 | 58=>[0,0,3,4]
 | 59=>[0,1,35,36,37,48,49,50,75,76,77,104,105,106]
 | 64=>[0,2,12,13,14]
 | 65=>[0,2,3,8,9,10]
 | 71=>[0,0,1,5]
 | 72=>[0,0,1,5]
 | 73=>[0,0,1,5]
 | 74=>[0,0,1,5]
 | 75=>[0,0,1,5]
 | 76=>[0,0,1,5]
 | 77=>[0,0,1,5]
 | 78=>[0,0,1,5]
 | 79=>[0,0,1,5]
 | 80=>[0,0,1,5]
 | 105=>[0,0,1,5]
 | 107=>[0,0,1,5]
 | 111=>[0,1,3]
 | 112=>[0,1,3]
 | 113=>[0,1,3]
 | 114=>[0,1,3]
 | 115=>[0,1,3,4,5,6]
 | 116=>[0,1,3]
 | 118=>[0,0,3,4]
 | 119=>[0,0,3,4]
 | 120=>[0,0,3,4]
 | 121=>[0,0,3,4]
 | 122=>[0,0,3,4]
 | 123=>[0,0,3,4]
 | 124=>[0,0,3,4]
 | 126=>[0,1,6,7,8]
 | 127=>[0,1,6,7,8]
 | 128=>[0,6,7,8]
 | 129=>[0,1,5,12,13,14,28,29,30,36,37,38,55,56,57]
 | 130=>[0,1,3]
 | 135=>[0,0,1,5]
 | 163=>[0,1,2,4,9,10]
 | 176=>[0,0,1,2,7,10,11]
 | 182=>[0,2,4,9,10,11]
 | 183=>[0,1,2,7,8]
 | 186=>[0,0,1,5]
 | 202=>[0,0,1,5]
 | 206=>[0,1,3]
 | 207=>[0,1,3]
 | 208=>[0,1,3,4,5]
 | 209=>[0,1,3]
 | 210=>[0,1,3,4,5,6,7]
 | 211=>[0,1,2,3,7]
 | 213=>[0,0,1,2,3,9]
 | 217=>[0,1,2,3,7]
 | 218=>[0,0,3,4]
 | 224=>[0,1,21,22,23]
 | 225=>[0,1,14,15,16]
 | 226=>[0,1,3,15,16,17,27,28,29]
 | 227=>[0,1,36,37,38,88,89,90]
 | 228=>[0,1,3,10,11,12,24,25,26]
 | 229=>[0,1,3,7,19,20,21]
 | 231=>[0,0,1,2,3,11,12,13]
 | 234=>[0,1,2,3,9,10]
 | 241=>[0,1,2,5]
 | 265=>[0,3,6,7,8]
 | 292=>[0,3,5,6,8,9,10]
 | 305=>[0,2,3,5]
 | 307=>[0,1,3]
 | 308=>[0,1,2,5,6,7,8]
 | 310=>[0,2,3,9,10]
 | 311=>[0,1,2,5]
 | 313=>[0,0,1,2,7]
 | 314=>[0,0,1,5]
 | 315=>[0,0,3,4,5]
 | 316=>[0,1,2,3,4,9,10]
 | 318=>[0,1,2,15,16,17]
 | 322=>[0,1,22,23,24]
 | 323=>[0,3,10,11,12]
 | 324=>[1]
 | 325=>[0,2,3,6]
 | 328=>[0,1,2,9,10,11]
 | 331=>[0,1,2,4,9,19,20,21]
 | 344=>[0,0,1,7,8]
 | 353=>[0,0,1,2,3,9,10,11,12,13,14,15]
 | 354=>[0,0,1,2,3,9,10,11,12,13,14]
 | 365=>[0,0,1,2,3,9,10,11,25,26,55,56,57]
 | 366=>[0,0,1,2,3,9,10,12,13,22,23,24,31,32,33]
 | 376=>[0,0,1,5]
 | 377=>[0,0,1,5]
 | 379=>[0,0,1,5]
 | 384=>[0,0,3,4]
 | 385=>[0,0,3,4]
 | 386=>[0,0,1,12,13]
 | 393=>[0,0,1,7,8]
 | 395=>[0,0,1,7,8]
 | 396=>[0,0,3,6,7,8,9,13,14,15,27,28,35,36,37,73,74]
 | 418=>[0,0,1,5,6,7,8]
 | 425=>[0,1,5,9,10,11]
 | 438=>[0,0,1,5]
 | 439=>[0,1,4,9,10,11]
 | 453=>[0,0,1,7,8]
 | 456=>[0,1,4,9,18,19,20]
 | 472=>[0,1,2,3,7,8]
 | 473=>[0,0,3,4,5,6,7,8]
 | 479=>[0,1,2,7,12,13,14]
 | 487=>[0,0,3,4]
 | 488=>[0,0,1,2,7,8]
 | _=>[]
def rs:Nat->RSh
 | 4=>⟨false,[.b],0⟩
 | 9=>⟨false,[(.i .i64)],0⟩
 | 10=>⟨false,[(.i .i64)],0⟩
 | 12=>⟨true,[sSky],0⟩
 | 13=>⟨true,[(.l 3 (.i .i64))],0⟩
 | 14=>⟨true,[sLaw],0⟩
 | 16=>⟨false,[.b],0⟩
 | 17=>⟨false,[.b],0⟩
 | 18=>⟨false,[.b],0⟩
 | 19=>⟨false,[.b],0⟩
 | 25=>⟨false,[(.i .i64)],0⟩
 | 26=>⟨false,[.s],0⟩
 | 27=>⟨true,[sWorld],0⟩
 | 28=>⟨false,[.s],0⟩
 | 42=>⟨false,[(.i .i64)],0⟩
 | 43=>⟨false,[(.i .i64)],0⟩
 | 44=>⟨false,[(.i .i64)],0⟩
 | 45=>⟨false,[(.i .i64)],0⟩
 | 46=>⟨false,[.b],0⟩
 | 47=>⟨false,[.b],0⟩
 | 50=>⟨false,[(.i .i64)],0⟩
 | 51=>⟨false,[.b],0⟩
 | 52=>⟨false,[.b],0⟩
 | 55=>⟨true,[(.l 194 sI2)],0⟩
 | 56=>⟨true,[(.l 181 sI4)],0⟩
 | 57=>⟨true,[(.l 183 sI3)],0⟩
 | 58=>⟨true,[(.l 188 sZone)],0⟩
 | 59=>⟨false,[.b],0⟩
 | 60=>⟨false,[.b],0⟩
 | 63=>⟨false,[(.i .i64)],0⟩
 | 64=>⟨false,[.b],0⟩
 | 65=>⟨false,[.b],0⟩
 | 67=>⟨true,[(.l 3 (.i .i64))],0⟩
 | 69=>⟨true,[(.l 194 sI2)],0⟩
 | 70=>⟨false,[.b],0⟩
 | 71=>⟨false,[.b],0⟩
 | 72=>⟨false,[.b],0⟩
 | 73=>⟨false,[.b],0⟩
 | 74=>⟨false,[.b],0⟩
 | 75=>⟨false,[.b],0⟩
 | 76=>⟨false,[.b],0⟩
 | 77=>⟨false,[.b],0⟩
 | 78=>⟨false,[.b],0⟩
 | 79=>⟨false,[.b],0⟩
 | 80=>⟨false,[.b],0⟩
 | 103=>⟨false,[(.i .i64)],0⟩
 | 104=>⟨false,[(.i .i64)],0⟩
 | 105=>⟨false,[(.i .i64)],0⟩
 | 106=>⟨false,[(.i .i64)],0⟩
 | 107=>⟨false,[(.i .i64)],0⟩
 | 108=>⟨false,[(.i .i64)],0⟩
 | 109=>⟨false,[(.i .i64)],0⟩
 | 110=>⟨false,[(.i .i64)],0⟩
 | 111=>⟨false,[.b],0⟩
 | 112=>⟨false,[.b],0⟩
 | 113=>⟨false,[.b],0⟩
 | 114=>⟨false,[.b],0⟩
 | 115=>⟨false,[.b],0⟩
 | 116=>⟨false,[.b],0⟩
 | 117=>⟨true,[sProgram],0⟩
 | 118=>⟨true,[(.l 119 sI6)],0⟩
 | 119=>⟨true,[(.l 117 sQueue)],0⟩
 | 120=>⟨true,[(.l 89 sI4)],0⟩
 | 121=>⟨true,[(.l 225 sStream)],0⟩
 | 122=>⟨true,[(.l 90 sI4)],0⟩
 | 123=>⟨true,[(.l 229 sI6)],0⟩
 | 124=>⟨true,[(.l 168 sI4)],0⟩
 | 125=>⟨false,[.b],0⟩
 | 126=>⟨false,[.b],0⟩
 | 127=>⟨false,[.b],0⟩
 | 128=>⟨false,[.b],0⟩
 | 129=>⟨false,[.b],0⟩
 | 130=>⟨false,[.b],0⟩
 | 135=>⟨false,[.b],0⟩
 | 136=>⟨true,[(.l 194 sI2)],0⟩
 | 142=>⟨true,[(.l 194 sI2)],0⟩
 | 147=>⟨false,[sI4],0⟩
 | 148=>⟨false,[sI4],0⟩
 | 153=>⟨false,[.b],0⟩
 | 154=>⟨false,[.b],0⟩
 | 155=>⟨false,[.b],0⟩
 | 156=>⟨false,[.b],0⟩
 | 162=>⟨false,[.b],0⟩
 | 163=>⟨false,[(.i .i64)],0⟩
 | 164=>⟨false,[(.i .i64),(.i .i64)],0⟩
 | 165=>⟨false,[(.i .i64)],0⟩
 | 166=>⟨true,[(.l 194 sI2)],0⟩
 | 167=>⟨false,[sI4],0⟩
 | 168=>⟨false,[sI3],0⟩
 | 169=>⟨false,[sZone],0⟩
 | 170=>⟨false,[.b],0⟩
 | 171=>⟨false,[.b],0⟩
 | 172=>⟨false,[.b],0⟩
 | 176=>⟨true,[(.l 290 sTable)],0⟩
 | 181=>⟨false,[.b],0⟩
 | 182=>⟨true,[(.l 3 (.i .i64))],0⟩
 | 183=>⟨true,[(.l 194 sI2)],0⟩
 | 184=>⟨false,[.b],0⟩
 | 185=>⟨false,[(.i .i64)],0⟩
 | 186=>⟨false,[.b],0⟩
 | 187=>⟨false,[.b],0⟩
 | 188=>⟨false,[.b],0⟩
 | 189=>⟨false,[.b],0⟩
 | 190=>⟨false,[.b],0⟩
 | 191=>⟨false,[.b],0⟩
 | 192=>⟨false,[.b],0⟩
 | 193=>⟨false,[.b],0⟩
 | 194=>⟨false,[.b],0⟩
 | 195=>⟨false,[.b],0⟩
 | 196=>⟨false,[.b],0⟩
 | 202=>⟨false,[(.i .i64)],0⟩
 | 203=>⟨false,[(.i .i64)],0⟩
 | 204=>⟨false,[(.i .i64)],0⟩
 | 205=>⟨false,[.b],0⟩
 | 206=>⟨false,[.b],0⟩
 | 207=>⟨false,[.b],0⟩
 | 208=>⟨false,[.b],0⟩
 | 209=>⟨false,[.b],0⟩
 | 210=>⟨false,[.b],0⟩
 | 211=>⟨false,[.b],0⟩
 | 212=>⟨false,[.b],0⟩
 | 213=>⟨false,[.b],0⟩
 | 214=>⟨false,[.b],0⟩
 | 215=>⟨false,[.b],0⟩
 | 216=>⟨false,[(.i .i64)],0⟩
 | 217=>⟨false,[.b],0⟩
 | 218=>⟨true,[(.l 198 sPiece)],0⟩
 | 219=>⟨false,[sI6],0⟩
 | 220=>⟨true,[sQueue],0⟩
 | 221=>⟨true,[sStream],0⟩
 | 222=>⟨false,[sI6],0⟩
 | 223=>⟨false,[sI4],0⟩
 | 224=>⟨false,[.b],0⟩
 | 225=>⟨false,[.b],0⟩
 | 226=>⟨false,[.b],0⟩
 | 227=>⟨false,[.b],0⟩
 | 228=>⟨false,[.b],0⟩
 | 229=>⟨false,[.b],0⟩
 | 230=>⟨false,[.b],0⟩
 | 231=>⟨false,[.b],0⟩
 | 232=>⟨false,[.b],0⟩
 | 233=>⟨false,[.b],0⟩
 | 234=>⟨false,[.b],0⟩
 | 241=>⟨false,[(.i .i64)],0⟩
 | 244=>⟨false,[(.i .i64)],0⟩
 | 245=>⟨false,[.b],0⟩
 | 250=>⟨true,[(.l 229 sI6)],0⟩
 | 255=>⟨false,[.b],0⟩
 | 258=>⟨false,[(.i .i64)],0⟩
 | 261=>⟨false,[.b],0⟩
 | 263=>⟨false,[.b],0⟩
 | 265=>⟨false,[(.i .i64)],0⟩
 | 266=>⟨false,[.b],0⟩
 | 267=>⟨false,[.b],0⟩
 | 270=>⟨false,[.b],0⟩
 | 272=>⟨true,[sTable],0⟩
 | 275=>⟨false,[.b],0⟩
 | 276=>⟨false,[sI2],0⟩
 | 277=>⟨false,[(.i .i64)],0⟩
 | 278=>⟨false,[(.i .i64)],0⟩
 | 279=>⟨false,[(.i .i64)],0⟩
 | 280=>⟨false,[sI2],0⟩
 | 281=>⟨false,[.b],0⟩
 | 285=>⟨false,[.b],0⟩
 | 289=>⟨true,[sTable],0⟩
 | 292=>⟨true,[(.l 4 .b)],0⟩
 | 293=>⟨false,[.b],0⟩
 | 294=>⟨false,[sI2],0⟩
 | 295=>⟨false,[(.i .i64)],0⟩
 | 296=>⟨false,[(.i .i64)],0⟩
 | 297=>⟨false,[(.i .i64)],0⟩
 | 298=>⟨false,[.b],0⟩
 | 299=>⟨false,[.b],0⟩
 | 304=>⟨false,[(.i .i64)],0⟩
 | 305=>⟨false,[.b],0⟩
 | 306=>⟨false,[.b],0⟩
 | 307=>⟨false,[.b],0⟩
 | 308=>⟨false,[(.i .i64)],0⟩
 | 309=>⟨false,[.b],0⟩
 | 310=>⟨false,[.b],0⟩
 | 311=>⟨false,[(.i .i64)],0⟩
 | 312=>⟨false,[.b],0⟩
 | 313=>⟨false,[.b],0⟩
 | 314=>⟨false,[.b],0⟩
 | 315=>⟨false,[.b],0⟩
 | 316=>⟨true,[(.l 3 (.i .i64))],0⟩
 | 317=>⟨true,[sPiece],0⟩
 | 318=>⟨false,[.b],0⟩
 | 319=>⟨false,[.b],0⟩
 | 320=>⟨false,[(.i .i64)],0⟩
 | 321=>⟨false,[.b],0⟩
 | 322=>⟨false,[.b],0⟩
 | 323=>⟨true,[(.l 229 sI6)],0⟩
 | 324=>⟨true,[(.l 3 (.i .i64))],1⟩
 | 325=>⟨false,[.b],0⟩
 | 326=>⟨false,[.b],0⟩
 | 327=>⟨false,[(.i .i64)],0⟩
 | 328=>⟨false,[.b],0⟩
 | 329=>⟨false,[.b],0⟩
 | 330=>⟨false,[.b],0⟩
 | 331=>⟨true,[(.l 3 (.i .i64))],0⟩
 | 332=>⟨true,[sTable],0⟩
 | 337=>⟨true,[sTable],0⟩
 | 344=>⟨false,[(.i .i64)],0⟩
 | 345=>⟨false,[.b],0⟩
 | 353=>⟨true,[(.l 3 (.i .i64))],0⟩
 | 354=>⟨true,[(.l 3 (.i .i64))],0⟩
 | 359=>⟨false,[sI2],0⟩
 | 360=>⟨false,[(.i .i64)],0⟩
 | 361=>⟨false,[(.i .i64)],0⟩
 | 365=>⟨true,[(.l 3 (.i .i64))],0⟩
 | 366=>⟨true,[(.l 3 (.i .i64))],0⟩
 | 372=>⟨false,[sI2],0⟩
 | 373=>⟨false,[(.i .i64)],0⟩
 | 374=>⟨false,[(.i .i64)],0⟩
 | 375=>⟨false,[.b],0⟩
 | 376=>⟨false,[.b],0⟩
 | 377=>⟨false,[.b],0⟩
 | 378=>⟨false,[(.i .i64)],0⟩
 | 379=>⟨false,[(.i .i64)],0⟩
 | 380=>⟨false,[.b],0⟩
 | 381=>⟨false,[.b],0⟩
 | 382=>⟨false,[(.i .i64)],0⟩
 | 383=>⟨false,[sI2],0⟩
 | 384=>⟨true,[(.l 288 sI2)],0⟩
 | 385=>⟨true,[(.l 290 sTable)],0⟩
 | 386=>⟨false,[.b],0⟩
 | 387=>⟨false,[(.i .i64)],0⟩
 | 390=>⟨false,[.b],0⟩
 | 391=>⟨false,[.b],0⟩
 | 392=>⟨false,[.b],0⟩
 | 393=>⟨false,[(.i .i64)],0⟩
 | 394=>⟨false,[.b],0⟩
 | 395=>⟨false,[(.i .i64)],0⟩
 | 396=>⟨false,[.b],0⟩
 | 397=>⟨false,[.b],0⟩
 | 398=>⟨false,[(.i .i64)],0⟩
 | 417=>⟨false,[.b],0⟩
 | 418=>⟨true,[(.l 3 (.i .i64))],0⟩
 | 421=>⟨false,[sI2],0⟩
 | 422=>⟨false,[(.i .i64)],0⟩
 | 423=>⟨false,[(.i .i64)],0⟩
 | 425=>⟨true,[(.l 3 (.i .i64))],0⟩
 | 432=>⟨false,[sI2],0⟩
 | 433=>⟨false,[(.i .i64)],0⟩
 | 434=>⟨false,[(.i .i64)],0⟩
 | 435=>⟨false,[.b],0⟩
 | 436=>⟨false,[.b],0⟩
 | 437=>⟨false,[(.i .i64)],0⟩
 | 438=>⟨false,[.b],0⟩
 | 439=>⟨false,[.b],0⟩
 | 440=>⟨false,[(.i .i64)],0⟩
 | 441=>⟨false,[sI2],0⟩
 | 442=>⟨true,[sTable],0⟩
 | 453=>⟨false,[(.i .i64)],0⟩
 | 454=>⟨false,[(.i .i64),.b],0⟩
 | 455=>⟨false,[.b],0⟩
 | 456=>⟨false,[.b],0⟩
 | 457=>⟨true,[sTable,.b],0⟩
 | 462=>⟨true,[sTable,.b],0⟩
 | 470=>⟨true,[(.l 3 (.i .i64))],0⟩
 | 472=>⟨true,[(.l 3 (.i .i64))],0⟩
 | 473=>⟨false,[.b],0⟩
 | 479=>⟨true,[(.l 3 (.i .i64))],0⟩
 | 487=>⟨false,[(.i .i64)],0⟩
 | 488=>⟨true,[(.l 3 (.i .i64))],0⟩
 | _=>⟨false,[],0⟩
def tk:Nat->List (Option Sh)
 | 166=>[some (.l 194 sI2)]
 | 324=>[some (.l 3 (.i .i64))]
 | 470=>[some (.l 3 (.i .i64))]
 | _=>[]
def ext:(f:Nat)->Option (List AV->Option (RTy (rs f)))
 | 324=>some extSort
 | 470=>some extCompact
 | _=>none
noncomputable def E:Env:={ P:=Tryz.prog,fn:=fn,ty:=ty,lv:=lv,rs:=rs,tk:=tk,ext:=ext }
def heldI (l:List Int):Bool:=l.all fun x=>x==x
theorem lq {R V:Type} {f g:Nat->V->Option R} {B:(V->Option R)->V->Option R} (hf:QL f B) (hg:∀n v,g (n+1) v=B (g n) v) (f0:∀v,f 0 v=none) (g0:∀v,g 0 v=none) (n:Nat) (v:V):g n v=f n v:=(loop_law f0 hf g0 hg n v).symm
noncomputable def lpf {R V:Type} (E:Env) (k g:Nat) (F:Func) (j:Nat) (keys:List Nat) (s:V->St) (K:Ex->St->Option R) (n:Nat) (v:V):Option R:=lpr E k g F j keys n (s v) K
noncomputable def FiIsSpan (k:Nat) (a0:I2):Option (Bool):=den E k 285 [.agg [vI a0.1,vI a0.2]]
theorem eiIsSpan (k:Nat) (a0):FiIsSpan (k+1) a0=if ((decide (a0.1>=0))==true)=true then if ((decide (a0.2<=1000))==true)=true then some (decide (a0.1<a0.2)) else some false else some false:=by kernel_rfl
noncomputable def FiInSpan (k:Nat) (a0:I2) (a1:Int):Option (Bool):=den E k 261 [.agg [vI a0.1,vI a0.2],cI a1]
theorem eiInSpan (k:Nat) (a0 a1):FiInSpan (k+1) a0 a1=(FiIsSpan k a0).bind fun p1=>if (p1==true)=true then if ((decide (a0.1<=a1))==true)=true then some (decide (a1<a0.2)) else some false else some false:=by kernel_rfl
noncomputable def FiIsDown (k:Nat) (a0:List I4) (a1:Int) (a2:Int):Option (Bool):=den E k 328 [.c (.l 90 sI4 a0),cI a1,cI a2]
abbrev CiIsDown_0:=Int×Int×(List I4)×Int
abbrev ViIsDown_0:=Int
def StiIsDown_0:CiIsDown_0->ViIsDown_0->St
 | (a,b,d,e),f=>⟨34,0,[(1,cI a),(2,cI b),(9,.c (.l 90 sI4 d)),(10,cI e),(11,cI f)],[]⟩
noncomputable def BiIsDown_0 {R:Type} (k:Nat) (X0:ViIsDown_0->I4->Bool->Option R) (X1:ViIsDown_0->Option R) (c0:CiIsDown_0) (rec:ViIsDown_0->Option R) (v0:ViIsDown_0):Option R:=if (decide (v0<c0.2.2.2))=true then if 0<=v0 then ix c0.2.2.1 v0.toNat fun x1=>if ((x1.1==c0.1)==true)=true then if ((x1.2.1== -1)==true)=true then (FiInSpan k x1.2.2 c0.2.1).bind fun p2=>if p2=true then X0 v0 x1 p2 else rec (i64.wrap (v0+1)) else rec (i64.wrap (v0+1)) else rec (i64.wrap (v0+1)) else none else X1 v0
noncomputable def LiIsDown_0 {R:Type} (k:Nat) (X0:ViIsDown_0->I4->Bool->Option R) (X1:ViIsDown_0->Option R) (c:CiIsDown_0):Nat->ViIsDown_0->Option R
 | 0,_=>none
 | n+1,v=>BiIsDown_0 k X0 X1 c (LiIsDown_0 k X0 X1 c n) v
noncomputable def fiIsDown_0 {R:Type} (k:Nat) (K:Ex->St->Option R) (c:CiIsDown_0):=lpf E k 328 Tryz.f328 0 [0,1,2,9,10,11] (StiIsDown_0 c) K
theorem qiIsDown_0 (k:Nat) (K:Ex->St->Option R) (X0 X1 c) (h:QL (fiIsDown_0 k K c) (BiIsDown_0 k X0 X1 c)) (v):LiIsDown_0 k X0 X1 c k v=fiIsDown_0 k K c k v:=lq h (fun _ _=>rfl) (fun _=>rfl) (fun _=>rfl) k v
noncomputable def NiIsDown:Ex->St->Option (Bool):=finish E (rs 328) Tryz.f328
theorem eiIsDown (k:Nat) (a0 a1 a2):FiIsDown (k+1) a0 a1 a2=LiIsDown_0 k (fun (v0:Int) x1 p2=>some true) (fun (v0:Int)=>some false) (a1,a2,a0,(a0.length:Int)) k 0:=by
 simp (disch:=(refine QL.mk fun n0 v=> ?_;kernel_rfl)) only [↓qiIsDown_0 k (kon0 E k 328 Tryz.f328 0 NiIsDown)]
 kernel_rfl
noncomputable def FiIsCut (k:Nat) (a0:List I4) (a1:Int) (a2:Int) (a3:Int):Option (Bool):=den E k 231 [.c (.l 90 sI4 a0),cI a1,cI a2,cI a3]
abbrev CiIsCut_0:=(List I4)×Int×Int×Int×(List I4)×Int
abbrev ViIsCut_0:=Int
def StiIsCut_0:CiIsCut_0->ViIsCut_0->St
 | (a,b,d,e,f,g),h=>⟨59,0,[(0,.c (.l 90 sI4 a)),(1,cI b),(2,cI d),(3,cI e),(11,.c (.l 90 sI4 f)),(12,cI g),(13,cI h)],[]⟩
noncomputable def BiIsCut_0 {R:Type} (k:Nat) (X0:ViIsCut_0->I4->Bool->Option R) (X1:ViIsCut_0->I4->Bool->Option R) (X2:ViIsCut_0->I4->Bool->Option R) (X3:ViIsCut_0->Option R) (c0:CiIsCut_0) (rec:ViIsCut_0->Option R) (v0:ViIsCut_0):Option R:=if (decide (v0<c0.2.2.2.2.2))=true then if 0<=v0 then ix c0.2.2.2.2.1 v0.toNat fun x1=>if ((x1.1==c0.2.1)==true)=true then if ((x1.2.1==c0.2.2.1)==false)=true then if ((x1.1==c0.2.2.1)==true)=true then if ((x1.2.1==c0.2.1)==true)=true then (FiInSpan k x1.2.2 c0.2.2.2.1).bind fun p2=>if p2=true then X0 v0 x1 p2 else rec (i64.wrap (v0+1)) else rec (i64.wrap (v0+1)) else rec (i64.wrap (v0+1)) else (FiInSpan k x1.2.2 c0.2.2.2.1).bind fun p3=>if p3=true then X1 v0 x1 p3 else rec (i64.wrap (v0+1)) else if ((x1.1==c0.2.2.1)==true)=true then if ((x1.2.1==c0.2.1)==true)=true then (FiInSpan k x1.2.2 c0.2.2.2.1).bind fun p4=>if p4=true then X2 v0 x1 p4 else rec (i64.wrap (v0+1)) else rec (i64.wrap (v0+1)) else rec (i64.wrap (v0+1)) else none else X3 v0
noncomputable def LiIsCut_0 {R:Type} (k:Nat) (X0:ViIsCut_0->I4->Bool->Option R) (X1:ViIsCut_0->I4->Bool->Option R) (X2:ViIsCut_0->I4->Bool->Option R) (X3:ViIsCut_0->Option R) (c:CiIsCut_0):Nat->ViIsCut_0->Option R
 | 0,_=>none
 | n+1,v=>BiIsCut_0 k X0 X1 X2 X3 c (LiIsCut_0 k X0 X1 X2 X3 c n) v
noncomputable def fiIsCut_0 {R:Type} (k:Nat) (K:Ex->St->Option R) (c:CiIsCut_0):=lpf E k 231 Tryz.f231 0 [0,0,1,2,3,11,12,13] (StiIsCut_0 c) K
theorem qiIsCut_0 (k:Nat) (K:Ex->St->Option R) (X0 X1 X2 X3 c) (h:QL (fiIsCut_0 k K c) (BiIsCut_0 k X0 X1 X2 X3 c)) (v):LiIsCut_0 k X0 X1 X2 X3 c k v=fiIsCut_0 k K c k v:=lq h (fun _ _=>rfl) (fun _=>rfl) (fun _=>rfl) k v
noncomputable def NiIsCut:Ex->St->Option (Bool):=finish E (rs 231) Tryz.f231
theorem eiIsCut (k:Nat) (a0 a1 a2 a3):FiIsCut (k+1) a0 a1 a2 a3=LiIsCut_0 k (fun (v0:Int) x1 p2=>some true) (fun (v0:Int) x1 p3=>some true) (fun (v0:Int) x1 p4=>some true) (fun (v0:Int)=>(FiIsDown k a0 a1 a3).bind fun p5=>if (p5==false)=true then (FiIsDown k a0 a2 a3).bind fun p6=>some p6 else some true) (a0,a1,a2,a3,a0,(a0.length:Int)) k 0:=by
 simp (disch:=(refine QL.mk fun n0 v=> ?_;kernel_rfl)) only [↓qiIsCut_0 k (kon0 E k 231 Tryz.f231 0 NiIsCut)]
 kernel_rfl
noncomputable def FiHasLink_1v (k:Nat) (a0:I2) (a1:Int) (a2:Int):Option (Bool):=den E k 392 [.agg [vI a0.1,vI a0.2],.c (.at_ [vI a1]),.c (.at_ [vI a2])]
theorem eiHasLink_1v (k:Nat) (a0 a1 a2):FiHasLink_1v (k+1) a0 a1 a2=if ((a0.1==a1)==true)=true then if ((a0.2==a2)==false)=true then if ((a0.1==a2)==true)=true then some (a0.2==a1) else some false else some true else if ((a0.1==a2)==true)=true then some (a0.2==a1) else some false:=by kernel_rfl
noncomputable def FgIndexFunc_Linkv_iHasLink_1 (k:Nat) (a0:List I2) (a1:Int) (a2:Int):Option (Int):=den E k 453 [.c (.l 288 sI2 a0),.c (.clo 392 [.at_ [vI a1],.at_ [vI a2]])]
abbrev CgIndexFunc_Linkv_iHasLink_1_0:=(List I2)×Int×Int×Int
abbrev VgIndexFunc_Linkv_iHasLink_1_0:=Int
def StgIndexFunc_Linkv_iHasLink_1_0:CgIndexFunc_Linkv_iHasLink_1_0->VgIndexFunc_Linkv_iHasLink_1_0->St
 | (a,b,d,e),f=>⟨19,0,[(0,.c (.l 288 sI2 a)),(1,.c (.clo 392 [.at_ [vI b],.at_ [vI d]])),(7,cI e),(8,cI f)],[]⟩
noncomputable def BgIndexFunc_Linkv_iHasLink_1_0 {R:Type} (k:Nat) (X0:VgIndexFunc_Linkv_iHasLink_1_0->I2->Bool->Option R) (X1:VgIndexFunc_Linkv_iHasLink_1_0->Option R) (c0:CgIndexFunc_Linkv_iHasLink_1_0) (rec:VgIndexFunc_Linkv_iHasLink_1_0->Option R) (v0:VgIndexFunc_Linkv_iHasLink_1_0):Option R:=if (decide (v0<c0.2.2.2))=true then if 0<=v0 then ix c0.1 v0.toNat fun x1=>(FiHasLink_1v k x1 c0.2.1 c0.2.2.1).bind fun p2=>if p2=true then X0 v0 x1 p2 else rec (i64.wrap (v0+1)) else none else X1 v0
noncomputable def LgIndexFunc_Linkv_iHasLink_1_0 {R:Type} (k:Nat) (X0:VgIndexFunc_Linkv_iHasLink_1_0->I2->Bool->Option R) (X1:VgIndexFunc_Linkv_iHasLink_1_0->Option R) (c:CgIndexFunc_Linkv_iHasLink_1_0):Nat->VgIndexFunc_Linkv_iHasLink_1_0->Option R
 | 0,_=>none
 | n+1,v=>BgIndexFunc_Linkv_iHasLink_1_0 k X0 X1 c (LgIndexFunc_Linkv_iHasLink_1_0 k X0 X1 c n) v
noncomputable def fgIndexFunc_Linkv_iHasLink_1_0 {R:Type} (k:Nat) (K:Ex->St->Option R) (c:CgIndexFunc_Linkv_iHasLink_1_0):=lpf E k 453 Tryz.f453 0 [0,0,1,7,8] (StgIndexFunc_Linkv_iHasLink_1_0 c) K
theorem qgIndexFunc_Linkv_iHasLink_1_0 (k:Nat) (K:Ex->St->Option R) (X0 X1 c) (h:QL (fgIndexFunc_Linkv_iHasLink_1_0 k K c) (BgIndexFunc_Linkv_iHasLink_1_0 k X0 X1 c)) (v):LgIndexFunc_Linkv_iHasLink_1_0 k X0 X1 c k v=fgIndexFunc_Linkv_iHasLink_1_0 k K c k v:=lq h (fun _ _=>rfl) (fun _=>rfl) (fun _=>rfl) k v
noncomputable def NgIndexFunc_Linkv_iHasLink_1:Ex->St->Option (Int):=finish E (rs 453) Tryz.f453
theorem egIndexFunc_Linkv_iHasLink_1 (k:Nat) (a0 a1 a2):FgIndexFunc_Linkv_iHasLink_1 (k+1) a0 a1 a2=LgIndexFunc_Linkv_iHasLink_1_0 k (fun (v0:Int) x1 p2=>some v0) (fun (v0:Int)=>some (-1)) (a0,a1,a2,(a0.length:Int)) k 0:=by
 simp (disch:=(refine QL.mk fun n0 v=> ?_;kernel_rfl)) only [↓qgIndexFunc_Linkv_iHasLink_1_0 k (kon0 E k 453 Tryz.f453 0 NgIndexFunc_Linkv_iHasLink_1)]
 kernel_rfl
noncomputable def FgContainsFunc_Linkv_iHasLink_1 (k:Nat) (a0:List I2) (a1:Int) (a2:Int):Option (Bool):=den E k 391 [.c (.l 288 sI2 a0),.c (.clo 392 [.at_ [vI a1],.at_ [vI a2]])]
theorem egContainsFunc_Linkv_iHasLink_1 (k:Nat) (a0 a1 a2):FgContainsFunc_Linkv_iHasLink_1 (k+1) a0 a1 a2=(FgIndexFunc_Linkv_iHasLink_1 k a0 a1 a2).bind fun p1=>some (decide (p1>=0)):=by kernel_rfl
noncomputable def FiisIndex (k:Nat) (a0:Int) (a1:Int):Option (Bool):=den E k 255 [cI a0,cI a1]
theorem eiisIndex (k:Nat) (a0 a1):FiisIndex (k+1) a0 a1=if ((decide (a0>=0))==true)=true then some (decide (a0<a1)) else some false:=by kernel_rfl
noncomputable def FiHasLink (k:Nat) (a0:TProgram) (a1:Int) (a2:Int) (a3:Int):Option (Bool):=den E k 326 [.agg (avs sProgram a0),cI a1,cI a2,cI a3]
theorem eiHasLink (k:Nat) (a0 a1 a2 a3):FiHasLink (k+1) a0 a1 a2 a3=(FiisIndex k a1 (a0.2.2.2.length:Int)).bind fun p1=>if (p1==true)=true then if 0<=a1 then ix a0.2.2.2 a1.toNat fun x2=>(FgContainsFunc_Linkv_iHasLink_1 k x2.2.1 a2 a3).bind fun p3=>some p3 else none else some false:=by kernel_rfl
noncomputable def FiPieceAt_1v (k:Nat) (a0:TPiece) (a1:Int):Option (Bool):=den E k 394 [.agg (avs sPiece a0),.c (.at_ [vI a1])]
theorem eiPieceAt_1v (k:Nat) (a0 a1):FiPieceAt_1v (k+1) a0 a1=(FiInSpan k a0.1 a1).bind fun p1=>some p1:=by kernel_rfl
noncomputable def FgIndexFunc_Piecev_iPieceAt_1 (k:Nat) (a0:List TPiece) (a1:Int):Option (Int):=den E k 393 [.c (.l 198 sPiece a0),.c (.clo 394 [.at_ [vI a1]])]
abbrev CgIndexFunc_Piecev_iPieceAt_1_0:=(List TPiece)×Int×Int
abbrev VgIndexFunc_Piecev_iPieceAt_1_0:=Int
def StgIndexFunc_Piecev_iPieceAt_1_0:CgIndexFunc_Piecev_iPieceAt_1_0->VgIndexFunc_Piecev_iPieceAt_1_0->St
 | (a,b,d),e=>⟨19,0,[(0,.c (.l 198 sPiece a)),(1,.c (.clo 394 [.at_ [vI b]])),(7,cI d),(8,cI e)],[]⟩
noncomputable def BgIndexFunc_Piecev_iPieceAt_1_0 {R:Type} (k:Nat) (X0:VgIndexFunc_Piecev_iPieceAt_1_0->TPiece->Bool->Option R) (X1:VgIndexFunc_Piecev_iPieceAt_1_0->Option R) (c0:CgIndexFunc_Piecev_iPieceAt_1_0) (rec:VgIndexFunc_Piecev_iPieceAt_1_0->Option R) (v0:VgIndexFunc_Piecev_iPieceAt_1_0):Option R:=if (decide (v0<c0.2.2))=true then if 0<=v0 then ix c0.1 v0.toNat fun x1=>(FiPieceAt_1v k x1 c0.2.1).bind fun p2=>if p2=true then X0 v0 x1 p2 else rec (i64.wrap (v0+1)) else none else X1 v0
noncomputable def LgIndexFunc_Piecev_iPieceAt_1_0 {R:Type} (k:Nat) (X0:VgIndexFunc_Piecev_iPieceAt_1_0->TPiece->Bool->Option R) (X1:VgIndexFunc_Piecev_iPieceAt_1_0->Option R) (c:CgIndexFunc_Piecev_iPieceAt_1_0):Nat->VgIndexFunc_Piecev_iPieceAt_1_0->Option R
 | 0,_=>none
 | n+1,v=>BgIndexFunc_Piecev_iPieceAt_1_0 k X0 X1 c (LgIndexFunc_Piecev_iPieceAt_1_0 k X0 X1 c n) v
noncomputable def fgIndexFunc_Piecev_iPieceAt_1_0 {R:Type} (k:Nat) (K:Ex->St->Option R) (c:CgIndexFunc_Piecev_iPieceAt_1_0):=lpf E k 393 Tryz.f393 0 [0,0,1,7,8] (StgIndexFunc_Piecev_iPieceAt_1_0 c) K
theorem qgIndexFunc_Piecev_iPieceAt_1_0 (k:Nat) (K:Ex->St->Option R) (X0 X1 c) (h:QL (fgIndexFunc_Piecev_iPieceAt_1_0 k K c) (BgIndexFunc_Piecev_iPieceAt_1_0 k X0 X1 c)) (v):LgIndexFunc_Piecev_iPieceAt_1_0 k X0 X1 c k v=fgIndexFunc_Piecev_iPieceAt_1_0 k K c k v:=lq h (fun _ _=>rfl) (fun _=>rfl) (fun _=>rfl) k v
noncomputable def NgIndexFunc_Piecev_iPieceAt_1:Ex->St->Option (Int):=finish E (rs 393) Tryz.f393
theorem egIndexFunc_Piecev_iPieceAt_1 (k:Nat) (a0 a1):FgIndexFunc_Piecev_iPieceAt_1 (k+1) a0 a1=LgIndexFunc_Piecev_iPieceAt_1_0 k (fun (v0:Int) x1 p2=>some v0) (fun (v0:Int)=>some (-1)) (a0,a1,(a0.length:Int)) k 0:=by
 simp (disch:=(refine QL.mk fun n0 v=> ?_;kernel_rfl)) only [↓qgIndexFunc_Piecev_iPieceAt_1_0 k (kon0 E k 393 Tryz.f393 0 NgIndexFunc_Piecev_iPieceAt_1)]
 kernel_rfl
noncomputable def FiPieceAt (k:Nat) (a0:TProgram) (a1:Int):Option (Int):=den E k 327 [.agg (avs sProgram a0),cI a1]
theorem eiPieceAt (k:Nat) (a0 a1):FiPieceAt (k+1) a0 a1=(FgIndexFunc_Piecev_iPieceAt_1 k a0.2.2.2 a1).bind fun p1=>some p1:=by kernel_rfl
noncomputable def FiIsLinked (k:Nat) (a0:TProgram) (a1:Int) (a2:Int) (a3:Int):Option (Bool):=den E k 230 [.agg (avs sProgram a0),cI a1,cI a2,cI a3]
theorem eiIsLinked (k:Nat) (a0 a1 a2 a3):FiIsLinked (k+1) a0 a1 a2 a3=(FiPieceAt k a0 a3).bind fun p1=>(FiHasLink k a0 p1 a1 a2).bind fun p2=>some p2:=by kernel_rfl
noncomputable def FiIsInContact (k:Nat) (a0:TWorld):Option (Bool):=den E k 127 [.agg (avs sWorld a0)]
abbrev CiIsInContact_0:=(List I4)×Int×TWorld
abbrev ViIsInContact_0:=Int
def StiIsInContact_0:CiIsInContact_0->ViIsInContact_0->St
 | (a,b,d),e=>⟨34,1,[(1,cP 0),(6,.c (.l 168 sI4 a)),(7,cI b),(8,cI e)],[(0,.var (avs sWorld d))]⟩
noncomputable def BiIsInContact_0 {R:Type} (k:Nat) (X0:ViIsInContact_0->I4->Bool->Bool->Option R) (X1:ViIsInContact_0->I4->Bool->Option R) (X2:ViIsInContact_0->Option R) (c0:CiIsInContact_0) (rec:ViIsInContact_0->Option R) (v0:ViIsInContact_0):Option R:=if (decide (v0<c0.2.1))=true then if 0<=v0 then ix c0.1 v0.toNat fun x1=>(FiIsLinked k c0.2.2.2.1 x1.2.1 x1.2.2.1 x1.1).bind fun p2=>if ((!p2)==false)=true then (FiIsCut k c0.2.2.2.2.2.2.2.2.2.2.2.1 x1.2.1 x1.2.2.1 x1.1).bind fun p3=>if p3=true then X0 v0 x1 p2 p3 else rec (i64.wrap (v0+1)) else X1 v0 x1 p2 else none else X2 v0
noncomputable def LiIsInContact_0 {R:Type} (k:Nat) (X0:ViIsInContact_0->I4->Bool->Bool->Option R) (X1:ViIsInContact_0->I4->Bool->Option R) (X2:ViIsInContact_0->Option R) (c:CiIsInContact_0):Nat->ViIsInContact_0->Option R
 | 0,_=>none
 | n+1,v=>BiIsInContact_0 k X0 X1 X2 c (LiIsInContact_0 k X0 X1 X2 c n) v
noncomputable def fiIsInContact_0 {R:Type} (k:Nat) (K:Ex->St->Option R) (c:CiIsInContact_0):=lpf E k 127 Tryz.f127 0 [0,1,6,7,8] (StiIsInContact_0 c) K
theorem qiIsInContact_0 (k:Nat) (K:Ex->St->Option R) (X0 X1 X2 c) (h:QL (fiIsInContact_0 k K c) (BiIsInContact_0 k X0 X1 X2 c)) (v):LiIsInContact_0 k X0 X1 X2 c k v=fiIsInContact_0 k K c k v:=lq h (fun _ _=>rfl) (fun _=>rfl) (fun _=>rfl) k v
noncomputable def NiIsInContact:Ex->St->Option (Bool):=finish E (rs 127) Tryz.f127
theorem eiIsInContact (k:Nat) (a0):FiIsInContact (k+1) a0=LiIsInContact_0 k (fun (v0:Int) x1 p2 p3=>some false) (fun (v0:Int) x1 p2=>some false) (fun (v0:Int)=>some true) (a0.2.2.2.2.2.2.2.2.2.2.2.2.2,(a0.2.2.2.2.2.2.2.2.2.2.2.2.2.length:Int),a0) k 0:=by
 simp (disch:=(refine QL.mk fun n0 v=> ?_;kernel_rfl)) only [↓qiIsInContact_0 k (kon0 E k 127 Tryz.f127 0 NiIsInContact)]
 kernel_rfl
noncomputable def FgIndex_int (k:Nat) (a0:List Int) (a1:Int):Option (Int):=den E k 395 [.c (.l 3 (.i .i64) a0),cI a1]
abbrev CgIndex_int_0:=(List Int)×Int×Int
abbrev VgIndex_int_0:=Int
def StgIndex_int_0:CgIndex_int_0->VgIndex_int_0->St
 | (a,b,d),e=>⟨19,0,[(0,.c (.l 3 (.i .i64) a)),(1,cI b),(7,cI d),(8,cI e)],[]⟩
noncomputable def BgIndex_int_0 {R:Type} (k:Nat) (X0:VgIndex_int_0->Int->Option R) (X1:VgIndex_int_0->Option R) (c0:CgIndex_int_0) (rec:VgIndex_int_0->Option R) (v0:VgIndex_int_0):Option R:=if (decide (v0<c0.2.2))=true then if 0<=v0 then ix c0.1 v0.toNat fun x1=>if (c0.2.1==x1)=true then X0 v0 x1 else rec (i64.wrap (v0+1)) else none else X1 v0
noncomputable def LgIndex_int_0 {R:Type} (k:Nat) (X0:VgIndex_int_0->Int->Option R) (X1:VgIndex_int_0->Option R) (c:CgIndex_int_0):Nat->VgIndex_int_0->Option R
 | 0,_=>none
 | n+1,v=>BgIndex_int_0 k X0 X1 c (LgIndex_int_0 k X0 X1 c n) v
noncomputable def fgIndex_int_0 {R:Type} (k:Nat) (K:Ex->St->Option R) (c:CgIndex_int_0):=lpf E k 395 Tryz.f395 0 [0,0,1,7,8] (StgIndex_int_0 c) K
theorem qgIndex_int_0 (k:Nat) (K:Ex->St->Option R) (X0 X1 c) (h:QL (fgIndex_int_0 k K c) (BgIndex_int_0 k X0 X1 c)) (v):LgIndex_int_0 k X0 X1 c k v=fgIndex_int_0 k K c k v:=lq h (fun _ _=>rfl) (fun _=>rfl) (fun _=>rfl) k v
noncomputable def NgIndex_int:Ex->St->Option (Int):=finish E (rs 395) Tryz.f395
theorem egIndex_int (k:Nat) (a0 a1):FgIndex_int (k+1) a0 a1=LgIndex_int_0 k (fun (v0:Int) (x1:Int)=>some v0) (fun (v0:Int)=>some (-1)) (a0,a1,(a0.length:Int)) k 0:=by
 simp (disch:=(refine QL.mk fun n0 v=> ?_;kernel_rfl)) only [↓qgIndex_int_0 k (kon0 E k 395 Tryz.f395 0 NgIndex_int)]
 kernel_rfl
noncomputable def FgContains_int (k:Nat) (a0:List Int) (a1:Int):Option (Bool):=den E k 329 [.c (.l 3 (.i .i64) a0),cI a1]
theorem egContains_int (k:Nat) (a0 a1):FgContains_int (k+1) a0 a1=(FgIndex_int k a0 a1).bind fun p1=>some (decide (p1>=0)):=by kernel_rfl
noncomputable def FiIsLanding (k:Nat) (a0:List Int) (a1:TProgram) (a2:Int):Option (Bool):=den E k 232 [.agg [.l 3 (.i .i64) a0],.agg (avs sProgram a1),cI a2]
theorem eiIsLanding (k:Nat) (a0 a1 a2):FiIsLanding (k+1) a0 a1 a2=(FiisIndex k a2 a1.1).bind fun p1=>if (p1==true)=true then if ((decide (a2<a1.2.1))==false)=true then (FgContains_int k a0 a2).bind fun p2=>some p2 else some true else some false:=by kernel_rfl
noncomputable def FiInRange (k:Nat) (a0:Int) (a1:Int) (a2:Int):Option (Bool):=den E k 60 [cI a0,cI a1,cI a2]
theorem eiInRange (k:Nat) (a0 a1 a2):FiInRange (k+1) a0 a1 a2=if ((decide (a1<=a0))==true)=true then some (decide (a0<=a2)) else some false:=by kernel_rfl
noncomputable def FiNodesOf (k:Nat) (a0:TSky):Option (Int):=den E k 63 [.agg (avs sSky a0)]
theorem eiNodesOf (k:Nat) (a0):FiNodesOf (k+1) a0=some (i64.wrap ((a0.2.1.length:Int)+(a0.2.2.1.length:Int))):=by kernel_rfl
noncomputable def FiIsSite (k:Nat) (a0:TSky) (a1:Int):Option (Bool):=den E k 233 [.agg (avs sSky a0),cI a1]
theorem eiIsSite (k:Nat) (a0 a1):FiIsSite (k+1) a0 a1=(FiNodesOf k a0).bind fun p1=>(FiInRange k a1 (a0.2.1.length:Int) (i64.wrap (p1-1))).bind fun p2=>some p2:=by kernel_rfl
noncomputable def FiIsLawful (k:Nat) (a0:TWorld):Option (Bool):=den E k 129 [.agg (avs sWorld a0)]
abbrev CiIsLawful_3:=(List I6)×Int×Int×(List (List I6))×Int×Int×(List I4)×Int×TWorld
abbrev ViIsLawful_3:=Int
def StiIsLawful_3:CiIsLawful_3->ViIsLawful_3->St
 | (a,b,d,e,f,g,h,i,j),k=>⟨78,1,[(1,cP 0),(12,.c (.l 229 sI6 a)),(13,cI b),(14,cI d),(28,.c (.l 117 sQueue e)),(29,cI f),(30,cI g),(55,.c (.l 168 sI4 h)),(56,cI i),(57,cI k)],[(0,.var (avs sWorld j))]⟩
noncomputable def BiIsLawful_3 {R:Type} (k:Nat) (X0:ViIsLawful_3->I4->Bool->Option R) (X1:ViIsLawful_3->Option R) (c3:CiIsLawful_3) (rec:ViIsLawful_3->Option R) (v3:ViIsLawful_3):Option R:=if (decide (v3<c3.2.2.2.2.2.2.2.1))=true then if 0<=v3 then ix c3.2.2.2.2.2.2.1 v3.toNat fun x6=>if ((decide (x6.2.2.1>=c3.2.2.2.2.2.2.2.2.2.1.2.1))==true)=true then (FiIsLanding k c3.2.2.2.2.2.2.2.2.2.2.1 c3.2.2.2.2.2.2.2.2.2.1 x6.2.2.1).bind fun p7=>if (!p7)=true then X0 v3 x6 p7 else rec (i64.wrap (v3+1)) else rec (i64.wrap (v3+1)) else none else X1 v3
noncomputable def LiIsLawful_3 {R:Type} (k:Nat) (X0:ViIsLawful_3->I4->Bool->Option R) (X1:ViIsLawful_3->Option R) (c:CiIsLawful_3):Nat->ViIsLawful_3->Option R
 | 0,_=>none
 | n+1,v=>BiIsLawful_3 k X0 X1 c (LiIsLawful_3 k X0 X1 c n) v
noncomputable def fiIsLawful_3 {R:Type} (k:Nat) (K:Ex->St->Option R) (c:CiIsLawful_3):=lpf E k 129 Tryz.f129 3 [0,1,12,13,14,28,29,30,55,56,57] (StiIsLawful_3 c) K
theorem qiIsLawful_3 (k:Nat) (K:Ex->St->Option R) (X0 X1 c) (h:QL (fiIsLawful_3 k K c) (BiIsLawful_3 k X0 X1 c)) (v):LiIsLawful_3 k X0 X1 c k v=fiIsLawful_3 k K c k v:=lq h (fun _ _=>rfl) (fun _=>rfl) (fun _=>rfl) k v
abbrev CiIsLawful_2:=Int×(List I6)×Int×Int×(List (List I6))×Int×Int×(List I6)×Int×TWorld
abbrev ViIsLawful_2:=Int
def StiIsLawful_2:CiIsLawful_2->ViIsLawful_2->St
 | (a,b,d,e,f,g,h,i,j,k),m=>⟨78,1,[(1,cP 0),(5,cI a),(12,.c (.l 229 sI6 b)),(13,cI d),(14,cI e),(28,.c (.l 117 sQueue f)),(29,cI g),(30,cI h),(36,.c (.l 229 sI6 i)),(37,cI j),(38,cI m)],[(0,.var (avs sWorld k))]⟩
noncomputable def BiIsLawful_2 {R:Type} (k:Nat) (X0:ViIsLawful_2->I6->Bool->Option R) (X1:ViIsLawful_2->Option R) (c2:CiIsLawful_2) (rec:ViIsLawful_2->Option R) (v2:ViIsLawful_2):Option R:=if (decide (v2<c2.2.2.2.2.2.2.2.2.1))=true then if 0<=v2 then ix c2.2.2.2.2.2.2.2.1 v2.toNat fun x4=>(FiIsSite k c2.2.2.2.2.2.2.2.2.2.1 c2.1).bind fun p5=>if (p5==true)=true then if (x4.2.2.2.1 !=c2.1)=true then X0 v2 x4 p5 else rec (i64.wrap (v2+1)) else rec (i64.wrap (v2+1)) else none else X1 v2
noncomputable def LiIsLawful_2 {R:Type} (k:Nat) (X0:ViIsLawful_2->I6->Bool->Option R) (X1:ViIsLawful_2->Option R) (c:CiIsLawful_2):Nat->ViIsLawful_2->Option R
 | 0,_=>none
 | n+1,v=>BiIsLawful_2 k X0 X1 c (LiIsLawful_2 k X0 X1 c n) v
noncomputable def fiIsLawful_2 {R:Type} (k:Nat) (K:Ex->St->Option R) (c:CiIsLawful_2):=lpf E k 129 Tryz.f129 2 [0,1,5,12,13,14,28,29,30,36,37,38] (StiIsLawful_2 c) K
theorem qiIsLawful_2 (k:Nat) (K:Ex->St->Option R) (X0 X1 c) (h:QL (fiIsLawful_2 k K c) (BiIsLawful_2 k X0 X1 c)) (v):LiIsLawful_2 k X0 X1 c k v=fiIsLawful_2 k K c k v:=lq h (fun _ _=>rfl) (fun _=>rfl) (fun _=>rfl) k v
abbrev CiIsLawful_1:=(List I6)×Int×Int×(List (List I6))×Int×TWorld
abbrev ViIsLawful_1:=Int
def StiIsLawful_1:CiIsLawful_1->ViIsLawful_1->St
 | (a,b,d,e,f,g),h=>⟨78,1,[(1,cP 0),(12,.c (.l 229 sI6 a)),(13,cI b),(14,cI d),(28,.c (.l 117 sQueue e)),(29,cI f),(30,cI h)],[(0,.var (avs sWorld g))]⟩
noncomputable def BiIsLawful_1 {R:Type} (k:Nat) (X0:ViIsLawful_1->(List I6)->Int->I6->Bool->Option R) (X1:ViIsLawful_1->Option R) (c1:CiIsLawful_1) (rec:ViIsLawful_1->Option R) (v1:ViIsLawful_1):Option R:=if (decide (v1<c1.2.2.2.2.1))=true then if 0<=v1 then ix c1.2.2.2.1 v1.toNat fun x3=>LiIsLawful_2 k (fun (v2:Int) x4 p5=>X0 v1 x3 v2 x4 p5) (fun (v2:Int)=>rec (i64.wrap (v1+1))) (v1,c1.1,c1.2.1,c1.2.2.1,c1.2.2.2.1,c1.2.2.2.2.1,v1,x3,(x3.length:Int),c1.2.2.2.2.2) k 0 else none else X1 v1
noncomputable def LiIsLawful_1 {R:Type} (k:Nat) (X0:ViIsLawful_1->(List I6)->Int->I6->Bool->Option R) (X1:ViIsLawful_1->Option R) (c:CiIsLawful_1):Nat->ViIsLawful_1->Option R
 | 0,_=>none
 | n+1,v=>BiIsLawful_1 k X0 X1 c (LiIsLawful_1 k X0 X1 c n) v
noncomputable def fiIsLawful_1 {R:Type} (k:Nat) (K:Ex->St->Option R) (c:CiIsLawful_1):=lpf E k 129 Tryz.f129 1 [0,1,12,13,14,28,29,30] (StiIsLawful_1 c) K
theorem qiIsLawful_1 (k:Nat) (K:Ex->St->Option R) (X0 X1 c) (h:QL (fiIsLawful_1 k K c) (BiIsLawful_1 k X0 X1 c)) (v):LiIsLawful_1 k X0 X1 c k v=fiIsLawful_1 k K c k v:=lq h (fun _ _=>rfl) (fun _=>rfl) (fun _=>rfl) k v
abbrev CiIsLawful_0:=(List I6)×Int×TWorld
abbrev ViIsLawful_0:=Int
def StiIsLawful_0:CiIsLawful_0->ViIsLawful_0->St
 | (a,b,d),e=>⟨78,1,[(1,cP 0),(12,.c (.l 229 sI6 a)),(13,cI b),(14,cI e)],[(0,.var (avs sWorld d))]⟩
noncomputable def BiIsLawful_0 {R:Type} (k:Nat) (X0:ViIsLawful_0->I6->Bool->Option R) (X1:ViIsLawful_0->Option R) (c0:CiIsLawful_0) (rec:ViIsLawful_0->Option R) (v0:ViIsLawful_0):Option R:=if (decide (v0<c0.2.1))=true then if 0<=v0 then ix c0.1 v0.toNat fun x1=>(FiIsLanding k c0.2.2.2.2.1 c0.2.2.2.1 x1.2.2.2.2.1).bind fun p2=>if (!p2)=true then X0 v0 x1 p2 else rec (i64.wrap (v0+1)) else none else X1 v0
noncomputable def LiIsLawful_0 {R:Type} (k:Nat) (X0:ViIsLawful_0->I6->Bool->Option R) (X1:ViIsLawful_0->Option R) (c:CiIsLawful_0):Nat->ViIsLawful_0->Option R
 | 0,_=>none
 | n+1,v=>BiIsLawful_0 k X0 X1 c (LiIsLawful_0 k X0 X1 c n) v
noncomputable def fiIsLawful_0 {R:Type} (k:Nat) (K:Ex->St->Option R) (c:CiIsLawful_0):=lpf E k 129 Tryz.f129 0 [0,1,12,13,14] (StiIsLawful_0 c) K
theorem qiIsLawful_0 (k:Nat) (K:Ex->St->Option R) (X0 X1 c) (h:QL (fiIsLawful_0 k K c) (BiIsLawful_0 k X0 X1 c)) (v):LiIsLawful_0 k X0 X1 c k v=fiIsLawful_0 k K c k v:=lq h (fun _ _=>rfl) (fun _=>rfl) (fun _=>rfl) k v
noncomputable def NiIsLawful:Ex->St->Option (Bool):=finish E (rs 129) Tryz.f129
theorem eiIsLawful (k:Nat) (a0):FiIsLawful (k+1) a0=LiIsLawful_0 k (fun (v0:Int) x1 p2=>some false) (fun (v0:Int)=>LiIsLawful_1 k (fun (v1:Int) x3 (v2:Int) x4 p5=>some false) (fun (v1:Int)=>LiIsLawful_3 k (fun (v3:Int) x6 p7=>some false) (fun (v3:Int)=>some true) (a0.2.2.2.2.2.2.2.2.2.2.2.2.1,(a0.2.2.2.2.2.2.2.2.2.2.2.2.1.length:Int),v0,a0.2.2.2.2.2.1,(a0.2.2.2.2.2.1.length:Int),v1,a0.2.2.2.2.2.2.2.2.2.2.2.2.2,(a0.2.2.2.2.2.2.2.2.2.2.2.2.2.length:Int),a0) k 0) (a0.2.2.2.2.2.2.2.2.2.2.2.2.1,(a0.2.2.2.2.2.2.2.2.2.2.2.2.1.length:Int),v0,a0.2.2.2.2.2.1,(a0.2.2.2.2.2.1.length:Int),a0) k 0) (a0.2.2.2.2.2.2.2.2.2.2.2.2.1,(a0.2.2.2.2.2.2.2.2.2.2.2.2.1.length:Int),a0) k 0:=by
 simp (maxSteps:=9999999) (disch:=(refine QL.mk fun n0 v=> ?_;unfold BiIsLawful_0;simp (maxSteps:=9999999) (disch:=(refine QL.mk fun n1 v=> ?_;unfold BiIsLawful_1;simp (maxSteps:=9999999) (disch:=(refine QL.mk fun n2 v=> ?_;kernel_rfl)) only [↓qiIsLawful_3 (R:=Bool) k (kon0 E k 129 Tryz.f129 3 NiIsLawful),↓qiIsLawful_2 (R:=Bool) k (kon1 E k 129 Tryz.f129 1 1 n1 [0,1,12,13,14,28,29,30] (kon0 E k 129 Tryz.f129 1 NiIsLawful))];kernel_rfl)) only [↓qiIsLawful_1 (R:=Bool) k (kon0 E k 129 Tryz.f129 1 NiIsLawful)];kernel_rfl)) only [↓qiIsLawful_0 (R:=Bool) k (kon0 E k 129 Tryz.f129 0 NiIsLawful)]
 kernel_rfl
noncomputable def FiUnionHasLoop (k:Nat) (a0:List (List Int)):Option (Bool):=den E k 396 [.c (.l 27 (.l 3 (.i .i64)) a0)]
abbrev CiUnionHasLoop_4:=(List (List Int))×Int×Bool×(List (List Int))×Int×Int×Int×(List Bool)
abbrev ViUnionHasLoop_4:=Int
def StiUnionHasLoop_4:CiUnionHasLoop_4->ViUnionHasLoop_4->St
 | (a,d,e,f,g,h,j,k),m=>⟨83,1,[(0,.c (.l 27 (.l 3 (.i .i64)) a)),(3,cI d),(6,.c (.ref 0)),(7,cB e),(13,.c (.l 27 (.l 3 (.i .i64)) f)),(14,cI g),(15,cI h),(73,cI j),(74,cI m)],[(0,.arr 4 .b k)]⟩
noncomputable def BiUnionHasLoop_4 {R:Type} (k:Nat) (X0:ViUnionHasLoop_4->Bool->Option R) (X1:ViUnionHasLoop_4->Option R) (c4:CiUnionHasLoop_4) (rec:ViUnionHasLoop_4->Option R) (v4:ViUnionHasLoop_4):Option R:=if (decide (v4<c4.2.2.2.2.2.2.1))=true then if 0<=v4 then if v4<(c4.2.2.2.2.2.2.2.length:Int) then ix c4.2.2.2.2.2.2.2 v4.toNat fun x9=>if (!x9)=true then X0 v4 x9 else rec (i64.wrap (v4+1)) else none else none else X1 v4
noncomputable def LiUnionHasLoop_4 {R:Type} (k:Nat) (X0:ViUnionHasLoop_4->Bool->Option R) (X1:ViUnionHasLoop_4->Option R) (c:CiUnionHasLoop_4):Nat->ViUnionHasLoop_4->Option R
 | 0,_=>none
 | n+1,v=>BiUnionHasLoop_4 k X0 X1 c (LiUnionHasLoop_4 k X0 X1 c n) v
noncomputable def fiUnionHasLoop_4 {R:Type} (k:Nat) (K:Ex->St->Option R) (c:CiUnionHasLoop_4):=lpf E k 396 Tryz.f396 4 [0,0,3,6,7,13,14,15,73,74] (StiUnionHasLoop_4 c) K
theorem qiUnionHasLoop_4 (k:Nat) (K:Ex->St->Option R) (X0 X1 c) (h:QL (fiUnionHasLoop_4 k K c) (BiUnionHasLoop_4 k X0 X1 c)) (v):LiUnionHasLoop_4 k X0 X1 c k v=fiUnionHasLoop_4 k K c k v:=lq h (fun _ _=>rfl) (fun _=>rfl) (fun _=>rfl) k v
abbrev CiUnionHasLoop_3:=(List (List Int))×Int×Bool×Int×(List (List Int))×Int×Int×Int×Int×(List (List Int))×Int×(List Bool)
abbrev ViUnionHasLoop_3:=Bool×Int
def StiUnionHasLoop_3:CiUnionHasLoop_3->ViUnionHasLoop_3->St
 | (a,d,e,f,g,h,j,k,m,n,o,p),(q,r)=>⟨83,1,[(0,.c (.l 27 (.l 3 (.i .i64)) a)),(3,cI d),(6,.c (.ref 0)),(7,cB e),(8,cI f),(9,cB q),(13,.c (.l 27 (.l 3 (.i .i64)) g)),(14,cI h),(15,cI j),(27,cI k),(28,cI m),(35,.c (.l 27 (.l 3 (.i .i64)) n)),(36,cI o),(37,cI r)],[(0,.arr 4 .b p)]⟩
noncomputable def BiUnionHasLoop_3 {R:Type} (k:Nat) (X0:ViUnionHasLoop_3->Option R) (c3:CiUnionHasLoop_3) (rec:ViUnionHasLoop_3->Option R) (v3:ViUnionHasLoop_3):Option R:=if (decide (v3.2<c3.2.2.2.2.2.2.2.2.2.2.1))=true then if 0<=v3.2 then ix c3.2.2.2.2.2.2.2.2.2.1 v3.2.toNat fun x3=>if (v3.1==false)=true then if ((decide (c3.2.2.2.1<(x3.length:Int)))==true)=true then if 0<=c3.2.2.2.1 then ix x3 c3.2.2.2.1.toNat fun x4=>(FiisIndex k x4 c3.2.1).bind fun p5=>if (p5==true)=true then if 0<=c3.2.2.2.1 then ix x3 c3.2.2.2.1.toNat fun x6=>if 0<=x6 then if x6<(c3.2.2.2.2.2.2.2.2.2.2.2.length:Int) then ix c3.2.2.2.2.2.2.2.2.2.2.2 x6.toNat fun x7=>rec ((!x7),(i64.wrap (v3.2+1))) else none else none else none else rec (false,(i64.wrap (v3.2+1))) else none else rec (false,(i64.wrap (v3.2+1))) else rec (true,(i64.wrap (v3.2+1))) else none else X0 v3
noncomputable def LiUnionHasLoop_3 {R:Type} (k:Nat) (X0:ViUnionHasLoop_3->Option R) (c:CiUnionHasLoop_3):Nat->ViUnionHasLoop_3->Option R
 | 0,_=>none
 | n+1,v=>BiUnionHasLoop_3 k X0 c (LiUnionHasLoop_3 k X0 c n) v
noncomputable def fiUnionHasLoop_3 {R:Type} (k:Nat) (K:Ex->St->Option R) (c:CiUnionHasLoop_3):=lpf E k 396 Tryz.f396 3 [0,0,3,6,7,8,9,13,14,15,27,28,35,36,37] (StiUnionHasLoop_3 c) K
theorem qiUnionHasLoop_3 (k:Nat) (K:Ex->St->Option R) (X0 c) (h:QL (fiUnionHasLoop_3 k K c) (BiUnionHasLoop_3 k X0 c)) (v):LiUnionHasLoop_3 k X0 c k v=fiUnionHasLoop_3 k K c k v:=lq h (fun _ _=>rfl) (fun _=>rfl) (fun _=>rfl) k v
abbrev CiUnionHasLoop_2:=(List (List Int))×Int×(List (List Int))×Int×Int×Int
abbrev ViUnionHasLoop_2:=Bool×Int×(List Bool)
def StiUnionHasLoop_2:CiUnionHasLoop_2->ViUnionHasLoop_2->St
 | (a,d,e,f,g,h),(j,k,m)=>⟨83,1,[(0,.c (.l 27 (.l 3 (.i .i64)) a)),(3,cI d),(6,.c (.ref 0)),(7,cB j),(13,.c (.l 27 (.l 3 (.i .i64)) e)),(14,cI f),(15,cI g),(27,cI h),(28,cI k)],[(0,.arr 4 .b m)]⟩
noncomputable def BiUnionHasLoop_2 {R:Type} (k:Nat) (X0:ViUnionHasLoop_2->Option R) (c2:CiUnionHasLoop_2) (rec:ViUnionHasLoop_2->Option R) (v2:ViUnionHasLoop_2):Option R:=if (decide (v2.2.1<c2.2.2.2.2.2))=true then if 0<=v2.2.1 then if v2.2.1<(v2.2.2.length:Int) then ix v2.2.2 v2.2.1.toNat fun x2=>if x2=true then rec (v2.1,(i64.wrap (v2.2.1+1)),v2.2.2) else LiUnionHasLoop_3 k (fun v3=>if (!v3.1)=true then if 0<=v2.2.1 then if v2.2.1<(v2.2.2.length:Int) then ix v2.2.2 v2.2.1.toNat fun y8=>rec (true,(i64.wrap (v2.2.1+1)),(v2.2.2.set v2.2.1.toNat true)) else none else none else rec (v2.1,(i64.wrap (v2.2.1+1)),v2.2.2)) (c2.1,c2.2.1,v2.1,v2.2.1,c2.2.2.1,c2.2.2.2.1,c2.2.2.2.2.1,c2.2.2.2.2.2,v2.2.1,c2.1,(c2.1.length:Int),v2.2.2) k (false,0) else none else none else X0 v2
noncomputable def LiUnionHasLoop_2 {R:Type} (k:Nat) (X0:ViUnionHasLoop_2->Option R) (c:CiUnionHasLoop_2):Nat->ViUnionHasLoop_2->Option R
 | 0,_=>none
 | n+1,v=>BiUnionHasLoop_2 k X0 c (LiUnionHasLoop_2 k X0 c n) v
noncomputable def fiUnionHasLoop_2 {R:Type} (k:Nat) (K:Ex->St->Option R) (c:CiUnionHasLoop_2):=lpf E k 396 Tryz.f396 2 [0,0,3,6,7,13,14,15,27,28] (StiUnionHasLoop_2 c) K
theorem qiUnionHasLoop_2 (k:Nat) (K:Ex->St->Option R) (X0 c) (h:QL (fiUnionHasLoop_2 k K c) (BiUnionHasLoop_2 k X0 c)) (v):LiUnionHasLoop_2 k X0 c k v=fiUnionHasLoop_2 k K c k v:=lq h (fun _ _=>rfl) (fun _=>rfl) (fun _=>rfl) k v
abbrev CiUnionHasLoop_1:=(List (List Int))×Int×(List (List Int))×Int×Int
abbrev ViUnionHasLoop_1:=Bool×(List Bool)
def StiUnionHasLoop_1:CiUnionHasLoop_1->ViUnionHasLoop_1->St
 | (a,d,e,f,g),(h,j)=>⟨83,1,[(0,.c (.l 27 (.l 3 (.i .i64)) a)),(3,cI d),(6,.c (.ref 0)),(7,cB h),(13,.c (.l 27 (.l 3 (.i .i64)) e)),(14,cI f),(15,cI g)],[(0,.arr 4 .b j)]⟩
noncomputable def BiUnionHasLoop_1 {R:Type} (k:Nat) (X0:ViUnionHasLoop_1->Option R) (c1:CiUnionHasLoop_1) (rec:ViUnionHasLoop_1->Option R) (v1:ViUnionHasLoop_1):Option R:=if v1.1=true then LiUnionHasLoop_2 k (fun v2=>rec (v2.1,v2.2.2)) (c1.1,c1.2.1,c1.2.2.1,c1.2.2.2.1,c1.2.2.2.2,c1.2.1) k (false,0,v1.2) else X0 v1
noncomputable def LiUnionHasLoop_1 {R:Type} (k:Nat) (X0:ViUnionHasLoop_1->Option R) (c:CiUnionHasLoop_1):Nat->ViUnionHasLoop_1->Option R
 | 0,_=>none
 | n+1,v=>BiUnionHasLoop_1 k X0 c (LiUnionHasLoop_1 k X0 c n) v
noncomputable def fiUnionHasLoop_1 {R:Type} (k:Nat) (K:Ex->St->Option R) (c:CiUnionHasLoop_1):=lpf E k 396 Tryz.f396 1 [0,0,3,6,7,13,14,15] (StiUnionHasLoop_1 c) K
theorem qiUnionHasLoop_1 (k:Nat) (K:Ex->St->Option R) (X0 c) (h:QL (fiUnionHasLoop_1 k K c) (BiUnionHasLoop_1 k X0 c)) (v):LiUnionHasLoop_1 k X0 c k v=fiUnionHasLoop_1 k K c k v:=lq h (fun _ _=>rfl) (fun _=>rfl) (fun _=>rfl) k v
abbrev CiUnionHasLoop_0:=(List (List Int))×(List (List Int))×Int
abbrev ViUnionHasLoop_0:=Int×Int
def StiUnionHasLoop_0:CiUnionHasLoop_0->ViUnionHasLoop_0->St
 | (a,b,d),(e,f)=>⟨83,0,[(0,.c (.l 27 (.l 3 (.i .i64)) a)),(3,cI e),(13,.c (.l 27 (.l 3 (.i .i64)) b)),(14,cI d),(15,cI f)],[]⟩
noncomputable def BiUnionHasLoop_0 {R:Type} (k:Nat) (X0:ViUnionHasLoop_0->Option R) (c0:CiUnionHasLoop_0) (rec:ViUnionHasLoop_0->Option R) (v0:ViUnionHasLoop_0):Option R:=if (decide (v0.2<c0.2.2))=true then if 0<=v0.2 then ix c0.2.1 v0.2.toNat fun x1=>rec ((mx v0.1 (x1.length:Int)),(i64.wrap (v0.2+1))) else none else X0 v0
noncomputable def LiUnionHasLoop_0 {R:Type} (k:Nat) (X0:ViUnionHasLoop_0->Option R) (c:CiUnionHasLoop_0):Nat->ViUnionHasLoop_0->Option R
 | 0,_=>none
 | n+1,v=>BiUnionHasLoop_0 k X0 c (LiUnionHasLoop_0 k X0 c n) v
noncomputable def fiUnionHasLoop_0 {R:Type} (k:Nat) (K:Ex->St->Option R) (c:CiUnionHasLoop_0):=lpf E k 396 Tryz.f396 0 [0,0,3,13,14,15] (StiUnionHasLoop_0 c) K
theorem qiUnionHasLoop_0 (k:Nat) (K:Ex->St->Option R) (X0 c) (h:QL (fiUnionHasLoop_0 k K c) (BiUnionHasLoop_0 k X0 c)) (v):LiUnionHasLoop_0 k X0 c k v=fiUnionHasLoop_0 k K c k v:=lq h (fun _ _=>rfl) (fun _=>rfl) (fun _=>rfl) k v
noncomputable def NiUnionHasLoop:Ex->St->Option (Bool):=finish E (rs 396) Tryz.f396
theorem eiUnionHasLoop (k:Nat) (a0):FiUnionHasLoop (k+1) a0=LiUnionHasLoop_0 k (fun v0=>if (v0.1==v0.1)=true then if 0<=v0.1 then if 1*v0.1.toNat<=281474976710656 then LiUnionHasLoop_1 k (fun v1=>LiUnionHasLoop_4 k (fun (v4:Int) x9=>some true) (fun (v4:Int)=>some false) (a0,v0.1,v1.1,a0,(a0.length:Int),v0.2,v0.1,v1.2) k 0) (a0,v0.1,a0,(a0.length:Int),v0.2) k (true,(List.replicate v0.1.toNat (false:Bool))) else none else none else none) (a0,a0,(a0.length:Int)) k (0,0):=by
 simp (maxSteps:=9999999) (disch:=(refine QL.mk fun n0 v=> ?_;unfold BiUnionHasLoop_0;simp (maxSteps:=9999999) (disch:=(refine QL.mk fun n1 v=> ?_;unfold BiUnionHasLoop_1;simp (maxSteps:=9999999) (disch:=(refine QL.mk fun n2 v=> ?_;first | (unfold BiUnionHasLoop_2;simp (maxSteps:=9999999) (disch:=(refine QL.mk fun n3 v=> ?_;kernel_rfl)) only [↓qiUnionHasLoop_3 (R:=Bool) k (kon1 E k 396 Tryz.f396 2 1 n2 [0,0,3,6,7,13,14,15,27,28] (kon1 E k 396 Tryz.f396 1 1 n1 [0,0,3,6,7,13,14,15] (kon0 E k 396 Tryz.f396 1 NiUnionHasLoop)))];kernel_rfl) | kernel_rfl)) only [↓qiUnionHasLoop_4 (R:=Bool) k (kon0 E k 396 Tryz.f396 4 NiUnionHasLoop),↓qiUnionHasLoop_2 (R:=Bool) k (kon1 E k 396 Tryz.f396 1 1 n1 [0,0,3,6,7,13,14,15] (kon0 E k 396 Tryz.f396 1 NiUnionHasLoop))];kernel_rfl)) only [↓qiUnionHasLoop_1 (R:=Bool) k (kon0 E k 396 Tryz.f396 1 NiUnionHasLoop)];kernel_rfl)) only [↓qiUnionHasLoop_0 (R:=Bool) k (kon0 E k 396 Tryz.f396 0 NiUnionHasLoop)]
 kernel_rfl
noncomputable def FiHasLoop (k:Nat) (a0:List Int):Option (Bool):=den E k 330 [.c (.l 3 (.i .i64) a0)]
theorem eiHasLoop (k:Nat) (a0):FiHasLoop (k+1) a0=(FiUnionHasLoop k [a0]).bind fun p1=>some p1:=by kernel_rfl
noncomputable def FiPiecesIn (k:Nat) (a0:TProgram) (a1:Int) (a2:Int):Option (List Int):=den E k 479 [.agg (avs sProgram a0),cI a1,cI a2]
abbrev CiPiecesIn_0:=Int×Int×(List TPiece)×Int
abbrev ViPiecesIn_0:=Int×(List Int)
def StiPiecesIn_0:CiPiecesIn_0->ViPiecesIn_0->St
 | (a,b,d,e),(f,g)=>⟨47,1,[(1,cI a),(2,cI b),(7,.c (.ref 0)),(12,.c (.l 198 sPiece d)),(13,cI e),(14,cI f)],[(0,.arr 3 (.i .i64) g)]⟩
noncomputable def BiPiecesIn_0 {R:Type} (k:Nat) (X0:ViPiecesIn_0->Option R) (c0:CiPiecesIn_0) (rec:ViPiecesIn_0->Option R) (v0:ViPiecesIn_0):Option R:=if (decide (v0.1<c0.2.2.2))=true then if 0<=v0.1 then ix c0.2.2.1 v0.1.toNat fun x1=>(FiIsSpan k x1.1).bind fun p2=>if (p2==true)=true then if ((decide (c0.1<=c0.2.1))==true)=true then if ((decide (x1.1.1<=c0.2.1))==true)=true then if (decide (x1.1.2>c0.1))=true then if (v0.2.length+([v0.1]).length)*8<=140737488355328 then rec ((i64.wrap (v0.1+1)),(v0.2++[v0.1])) else none else rec ((i64.wrap (v0.1+1)),v0.2) else rec ((i64.wrap (v0.1+1)),v0.2) else rec ((i64.wrap (v0.1+1)),v0.2) else rec ((i64.wrap (v0.1+1)),v0.2) else none else X0 v0
noncomputable def LiPiecesIn_0 {R:Type} (k:Nat) (X0:ViPiecesIn_0->Option R) (c:CiPiecesIn_0):Nat->ViPiecesIn_0->Option R
 | 0,_=>none
 | n+1,v=>BiPiecesIn_0 k X0 c (LiPiecesIn_0 k X0 c n) v
noncomputable def fiPiecesIn_0 {R:Type} (k:Nat) (K:Ex->St->Option R) (c:CiPiecesIn_0):=lpf E k 479 Tryz.f479 0 [0,1,2,7,12,13,14] (StiPiecesIn_0 c) K
theorem qiPiecesIn_0 (k:Nat) (K:Ex->St->Option R) (X0 c) (h:QL (fiPiecesIn_0 k K c) (BiPiecesIn_0 k X0 c)) (v):LiPiecesIn_0 k X0 c k v=fiPiecesIn_0 k K c k v:=lq h (fun _ _=>rfl) (fun _=>rfl) (fun _=>rfl) k v
noncomputable def NiPiecesIn:Ex->St->Option (List Int):=finish E (rs 479) Tryz.f479
theorem eiPiecesIn (k:Nat) (a0 a1 a2):FiPiecesIn (k+1) a0 a1 a2=LiPiecesIn_0 k (fun v0=>some v0.2) (a1,a2,a0.2.2.2,(a0.2.2.2.length:Int)) k (0,[]):=by
 simp (disch:=(refine QL.mk fun n0 v=> ?_;kernel_rfl)) only [↓qiPiecesIn_0 k (kon0 E k 479 Tryz.f479 0 NiPiecesIn)]
 kernel_rfl
noncomputable def FgClone_int (k:Nat) (a0:List Int):Option (List Int):=den E k 67 [.c (.l 3 (.i .i64) a0)]
theorem egClone_int (k:Nat) (a0):FgClone_int (k+1) a0=agree (a0.isEmpty) (some ([])) (if (0+a0.length)*8<=140737488355328 then some a0 else none):=by kernel_rfl
noncomputable def FicloneTable (k:Nat) (a0:Int×(List Int)×List Int):Option (Int×(List Int)×List Int):=den E k 337 [.agg (avs sTable a0)]
theorem eicloneTable (k:Nat) (a0):FicloneTable (k+1) a0=(FgClone_int k a0.2.1).bind fun p1=>(FgClone_int k a0.2.2).bind fun p2=>some (a0.1,p1,p2):=by kernel_rfl
noncomputable def FiTableIn (k:Nat) (a0:TProgram) (a1:Int) (a2:Int):Option ((Int×(List Int)×List Int)×Bool):=den E k 462 [.agg (avs sProgram a0),cI a1,cI a2]
theorem eiTableIn (k:Nat) (a0 a1 a2):FiTableIn (k+1) a0 a1 a2=(FiisIndex k a1 (a0.2.2.2.length:Int)).bind fun p1=>if ((!p1)==false)=true then if 0<=a1 then ix a0.2.2.2 a1.toNat fun x2=>(FiisIndex k a2 (x2.2.2.length:Int)).bind fun p3=>if (!p3)=true then some ((0,[],[]),false) else if 0<=a1 then ix a0.2.2.2 a1.toNat fun x4=>if 0<=a2 then ix x4.2.2 a2.toNat fun x5=>(FicloneTable k x5).bind fun p6=>some (p6,true) else none else none else none else some ((0,[],[]),false):=by kernel_rfl
noncomputable def FiIsSafeMix (k:Nat) (a0:TProgram) (a1:Int) (a2:Int) (a3:Int):Option (Bool):=den E k 456 [.agg (avs sProgram a0),cI a1,cI a2,cI a3]
abbrev CiIsSafeMix_0:=Int×Int×TProgram×(List Int)
abbrev ViIsSafeMix_0:=Int×(List (List Int))
def StiIsSafeMix_0:CiIsSafeMix_0->ViIsSafeMix_0->St
 | (a,b,d,e),(f,g)=>⟨40,3,[(1,cI a),(4,cP 0),(9,.c (.ref 1)),(18,.c (.ref 2)),(19,cI b),(20,cI f)],[(0,.var (avs sProgram d)),(1,.arr 27 (.l 3 (.i .i64)) g),(2,.arr 3 (.i .i64) e)]⟩
noncomputable def BiIsSafeMix_0 {R:Type} (k:Nat) (X0:ViIsSafeMix_0->Option R) (c0:CiIsSafeMix_0) (rec:ViIsSafeMix_0->Option R) (v0:ViIsSafeMix_0):Option R:=if (decide (v0.1<c0.2.1))=true then if 0<=v0.1 then if v0.1<(c0.2.2.2.length:Int) then ix c0.2.2.2 v0.1.toNat fun x2=>(FiTableIn k c0.2.2.1 x2 c0.1).bind fun p3=>if (v0.2.length+([p3.1.2.2]).length)*24<=140737488355328 then rec ((i64.wrap (v0.1+1)),(v0.2++[p3.1.2.2])) else none else none else none else X0 v0
noncomputable def LiIsSafeMix_0 {R:Type} (k:Nat) (X0:ViIsSafeMix_0->Option R) (c:CiIsSafeMix_0):Nat->ViIsSafeMix_0->Option R
 | 0,_=>none
 | n+1,v=>BiIsSafeMix_0 k X0 c (LiIsSafeMix_0 k X0 c n) v
noncomputable def fiIsSafeMix_0 {R:Type} (k:Nat) (K:Ex->St->Option R) (c:CiIsSafeMix_0):=lpf E k 456 Tryz.f456 0 [0,1,4,9,18,19,20] (StiIsSafeMix_0 c) K
theorem qiIsSafeMix_0 (k:Nat) (K:Ex->St->Option R) (X0 c) (h:QL (fiIsSafeMix_0 k K c) (BiIsSafeMix_0 k X0 c)) (v):LiIsSafeMix_0 k X0 c k v=fiIsSafeMix_0 k K c k v:=lq h (fun _ _=>rfl) (fun _=>rfl) (fun _=>rfl) k v
noncomputable def NiIsSafeMix:Ex->St->Option (Bool):=finish E (rs 456) Tryz.f456
theorem eiIsSafeMix (k:Nat) (a0 a1 a2 a3):FiIsSafeMix (k+1) a0 a1 a2 a3=(FiPiecesIn k a0 a2 a3).bind fun p1=>LiIsSafeMix_0 k (fun v0=>(FiUnionHasLoop k v0.2).bind fun p4=>some (!p4)) (a1,(p1.length:Int),a0,p1) k (0,[]):=by
 simp (disch:=(refine QL.mk fun n0 v=> ?_;kernel_rfl)) only [↓qiIsSafeMix_0 k (kon0 E k 456 Tryz.f456 0 NiIsSafeMix)]
 kernel_rfl
noncomputable def FiisSkewed (k:Nat) (a0:TProgram) (a1:Int):Option (Bool):=den E k 455 [.agg (avs sProgram a0),cI a1]
theorem eiisSkewed (k:Nat) (a0 a1):FiisSkewed (k+1) a0 a1=(FiInRange k a0.2.2.1 0 5).bind fun p1=>if (p1==true)=true then (FiInRange k a1 0 1000).bind fun p2=>some p2 else some false:=by kernel_rfl
noncomputable def FinextIn (k:Nat) (a0:TProgram) (a1:Int) (a2:Int) (a3:Int):Option (Int×Bool):=den E k 454 [.agg (avs sProgram a0),cI a1,cI a2,cI a3]
theorem einextIn (k:Nat) (a0 a1 a2 a3):FinextIn (k+1) a0 a1 a2 a3=(FiTableIn k a0 a1 a2).bind fun p1=>if ((!p1.2)==false)=true then (FiisIndex k a3 (p1.1.2.2.length:Int)).bind fun p2=>if (!p2)=true then some (-1,false) else if 0<=a3 then if a3<(p1.1.2.2.length:Int) then ix p1.1.2.2 a3.toNat fun x3=>some (x3,true) else none else none else some (-1,false):=by kernel_rfl
noncomputable def FiHopAt (k:Nat) (a0:TProgram) (a1:Int) (a2:Int) (a3:Int):Option (Int):=den E k 398 [.agg (avs sProgram a0),cI a1,cI a2,cI a3]
theorem eiHopAt (k:Nat) (a0 a1 a2 a3):FiHopAt (k+1) a0 a1 a2 a3=(FiPieceAt k a0 a3).bind fun p1=>(FinextIn k a0 p1 a2 a1).bind fun p2=>if ((!p2.2)==false)=true then (FiisSkewed k a0 a3).bind fun p3=>if ((!p3)==false)=true then (FiIsSafeMix k a0 a2 (i64.wrap (a3-(i64.wrap (2*a0.2.2.1)))) (i64.wrap (a3+(i64.wrap (2*a0.2.2.1))))).bind fun p4=>if (!p4)=true then some (-1) else some p2.1 else some (-1) else some (-1):=by kernel_rfl
noncomputable def FiAreOffsets (k:Nat) (a0:TProgram) (a1:List Int):Option (Bool):=den E k 64 [.agg (avs sProgram a0),.c (.l 3 (.i .i64) a1)]
abbrev CiAreOffsets_0:=(List Int)×Int×TProgram
abbrev ViAreOffsets_0:=Int
def StiAreOffsets_0:CiAreOffsets_0->ViAreOffsets_0->St
 | (a,b,d),e=>⟨33,1,[(2,cP 0),(12,.c (.l 3 (.i .i64) a)),(13,cI b),(14,cI e)],[(0,.var (avs sProgram d))]⟩
noncomputable def BiAreOffsets_0 {R:Type} (k:Nat) (X0:ViAreOffsets_0->Int->Bool->Bool->Option R) (X1:ViAreOffsets_0->Int->Bool->Option R) (X2:ViAreOffsets_0->Option R) (c0:CiAreOffsets_0) (rec:ViAreOffsets_0->Option R) (v0:ViAreOffsets_0):Option R:=if (decide (v0<c0.2.1))=true then if 0<=v0 then ix c0.1 v0.toNat fun x1=>(FiInRange k c0.2.2.2.2.1 0 5).bind fun p2=>if ((!p2)==false)=true then (FiInRange k x1 (i64.wrap (0-c0.2.2.2.2.1)) c0.2.2.2.2.1).bind fun p3=>if (!p3)=true then X0 v0 x1 p2 p3 else rec (i64.wrap (v0+1)) else X1 v0 x1 p2 else none else X2 v0
noncomputable def LiAreOffsets_0 {R:Type} (k:Nat) (X0:ViAreOffsets_0->Int->Bool->Bool->Option R) (X1:ViAreOffsets_0->Int->Bool->Option R) (X2:ViAreOffsets_0->Option R) (c:CiAreOffsets_0):Nat->ViAreOffsets_0->Option R
 | 0,_=>none
 | n+1,v=>BiAreOffsets_0 k X0 X1 X2 c (LiAreOffsets_0 k X0 X1 X2 c n) v
noncomputable def fiAreOffsets_0 {R:Type} (k:Nat) (K:Ex->St->Option R) (c:CiAreOffsets_0):=lpf E k 64 Tryz.f64 0 [0,2,12,13,14] (StiAreOffsets_0 c) K
theorem qiAreOffsets_0 (k:Nat) (K:Ex->St->Option R) (X0 X1 X2 c) (h:QL (fiAreOffsets_0 k K c) (BiAreOffsets_0 k X0 X1 X2 c)) (v):LiAreOffsets_0 k X0 X1 X2 c k v=fiAreOffsets_0 k K c k v:=lq h (fun _ _=>rfl) (fun _=>rfl) (fun _=>rfl) k v
noncomputable def NiAreOffsets:Ex->St->Option (Bool):=finish E (rs 64) Tryz.f64
theorem eiAreOffsets (k:Nat) (a0 a1):FiAreOffsets (k+1) a0 a1=if ((a1.length:Int) !=a0.1)=true then some false else LiAreOffsets_0 k (fun (v0:Int) (x1:Int) p2 p3=>some false) (fun (v0:Int) (x1:Int) p2=>some false) (fun (v0:Int)=>some true) (a1,(a1.length:Int),a0) k 0:=by
 simp (disch:=(refine QL.mk fun n0 v=> ?_;kernel_rfl)) only [↓qiAreOffsets_0 k (kon0 E k 64 Tryz.f64 0 NiAreOffsets)]
 kernel_rfl
noncomputable def FiisMoment (k:Nat) (a0:TProgram) (a1:Int) (a2:List Int):Option (Bool):=den E k 397 [.agg (avs sProgram a0),cI a1,.c (.l 3 (.i .i64) a2)]
theorem eiisMoment (k:Nat) (a0 a1 a2):FiisMoment (k+1) a0 a1 a2=(FiAreOffsets k a0 a2).bind fun p1=>if (p1==true)=true then (FiInRange k a1 0 1000).bind fun p2=>some p2 else some false:=by kernel_rfl
noncomputable def FiNextsAt (k:Nat) (a0:TProgram) (a1:Int) (a2:Int) (a3:List Int):Option (List Int):=den E k 331 [.agg (avs sProgram a0),cI a1,cI a2,.c (.l 3 (.i .i64) a3)]
abbrev CiNextsAt_0:=Int×Int×(List Int)×Int×TProgram
abbrev ViNextsAt_0:=Int×(List Int)
def StiNextsAt_0:CiNextsAt_0->ViNextsAt_0->St
 | (a,b,d,e,f),(g,h)=>⟨38,2,[(1,cI a),(2,cI b),(4,cP 0),(9,.c (.ref 1)),(19,.c (.l 3 (.i .i64) d)),(20,cI e),(21,cI g)],[(0,.var (avs sProgram f)),(1,.arr 3 (.i .i64) h)]⟩
noncomputable def BiNextsAt_0 {R:Type} (k:Nat) (X0:ViNextsAt_0->Option R) (c0:CiNextsAt_0) (rec:ViNextsAt_0->Option R) (v0:ViNextsAt_0):Option R:=if (decide (v0.1<c0.2.2.2.1))=true then if 0<=v0.1 then ix c0.2.2.1 v0.1.toNat fun x2=>(FiHopAt k c0.2.2.2.2 v0.1 c0.1 (i64.wrap (c0.2.1+x2))).bind fun p3=>if (v0.2.length+([p3]).length)*8<=140737488355328 then rec ((i64.wrap (v0.1+1)),(v0.2++[p3])) else none else none else X0 v0
noncomputable def LiNextsAt_0 {R:Type} (k:Nat) (X0:ViNextsAt_0->Option R) (c:CiNextsAt_0):Nat->ViNextsAt_0->Option R
 | 0,_=>none
 | n+1,v=>BiNextsAt_0 k X0 c (LiNextsAt_0 k X0 c n) v
noncomputable def fiNextsAt_0 {R:Type} (k:Nat) (K:Ex->St->Option R) (c:CiNextsAt_0):=lpf E k 331 Tryz.f331 0 [0,1,2,4,9,19,20,21] (StiNextsAt_0 c) K
theorem qiNextsAt_0 (k:Nat) (K:Ex->St->Option R) (X0 c) (h:QL (fiNextsAt_0 k K c) (BiNextsAt_0 k X0 c)) (v):LiNextsAt_0 k X0 c k v=fiNextsAt_0 k K c k v:=lq h (fun _ _=>rfl) (fun _=>rfl) (fun _=>rfl) k v
noncomputable def NiNextsAt:Ex->St->Option (List Int):=finish E (rs 331) Tryz.f331
theorem eiNextsAt (k:Nat) (a0 a1 a2 a3):FiNextsAt (k+1) a0 a1 a2 a3=(FiisMoment k a0 a2 a3).bind fun p1=>if (!p1)=true then some ([]) else LiNextsAt_0 k (fun v0=>some v0.2) (a1,a2,a3,(a3.length:Int),a0) k (0,[]):=by
 simp (disch:=(refine QL.mk fun n0 v=> ?_;kernel_rfl)) only [↓qiNextsAt_0 k (kon0 E k 331 Tryz.f331 0 NiNextsAt)]
 kernel_rfl
noncomputable def FiAnyLoopAt (k:Nat) (a0:TProgram) (a1:Int) (a2:List Int):Option (Bool):=den E k 234 [.agg (avs sProgram a0),cI a1,.c (.l 3 (.i .i64) a2)]
abbrev CiAnyLoopAt_0:=Int×(List Int)×Int×TProgram
abbrev ViAnyLoopAt_0:=Int
def StiAnyLoopAt_0:CiAnyLoopAt_0->ViAnyLoopAt_0->St
 | (a,b,d,e),f=>⟨20,1,[(1,cI a),(2,.c (.l 3 (.i .i64) b)),(3,cP 0),(9,cI d),(10,cI f)],[(0,.var (avs sProgram e))]⟩
noncomputable def BiAnyLoopAt_0 {R:Type} (k:Nat) (X0:ViAnyLoopAt_0->(List Int)->Bool->Option R) (X1:ViAnyLoopAt_0->Option R) (c0:CiAnyLoopAt_0) (rec:ViAnyLoopAt_0->Option R) (v0:ViAnyLoopAt_0):Option R:=if (decide (v0<c0.2.2.1))=true then (FiNextsAt k c0.2.2.2 v0 c0.1 c0.2.1).bind fun p1=>(FiHasLoop k p1).bind fun p2=>if p2=true then X0 v0 p1 p2 else rec (i64.wrap (v0+1)) else X1 v0
noncomputable def LiAnyLoopAt_0 {R:Type} (k:Nat) (X0:ViAnyLoopAt_0->(List Int)->Bool->Option R) (X1:ViAnyLoopAt_0->Option R) (c:CiAnyLoopAt_0):Nat->ViAnyLoopAt_0->Option R
 | 0,_=>none
 | n+1,v=>BiAnyLoopAt_0 k X0 X1 c (LiAnyLoopAt_0 k X0 X1 c n) v
noncomputable def fiAnyLoopAt_0 {R:Type} (k:Nat) (K:Ex->St->Option R) (c:CiAnyLoopAt_0):=lpf E k 234 Tryz.f234 0 [0,1,2,3,9,10] (StiAnyLoopAt_0 c) K
theorem qiAnyLoopAt_0 (k:Nat) (K:Ex->St->Option R) (X0 X1 c) (h:QL (fiAnyLoopAt_0 k K c) (BiAnyLoopAt_0 k X0 X1 c)) (v):LiAnyLoopAt_0 k X0 X1 c k v=fiAnyLoopAt_0 k K c k v:=lq h (fun _ _=>rfl) (fun _=>rfl) (fun _=>rfl) k v
noncomputable def NiAnyLoopAt:Ex->St->Option (Bool):=finish E (rs 234) Tryz.f234
theorem eiAnyLoopAt (k:Nat) (a0 a1 a2):FiAnyLoopAt (k+1) a0 a1 a2=LiAnyLoopAt_0 k (fun (v0:Int) p1 p2=>some true) (fun (v0:Int)=>some false) (a1,a2,(a2.length:Int),a0) k 0:=by
 simp (disch:=(refine QL.mk fun n0 v=> ?_;kernel_rfl)) only [↓qiAnyLoopAt_0 k (kon0 E k 234 Tryz.f234 0 NiAnyLoopAt)]
 kernel_rfl
noncomputable def FiIsLoopFree (k:Nat) (a0:TWorld):Option (Bool):=den E k 130 [.agg (avs sWorld a0)]
abbrev CiIsLoopFree_0:=TWorld
abbrev ViIsLoopFree_0:=Int
def StiIsLoopFree_0:CiIsLoopFree_0->ViIsLoopFree_0->St
 | a,b=>⟨17,1,[(1,cP 0),(3,cI b)],[(0,.var (avs sWorld a))]⟩
noncomputable def BiIsLoopFree_0 {R:Type} (k:Nat) (X0:ViIsLoopFree_0->Bool->Option R) (X1:ViIsLoopFree_0->Option R) (c0:CiIsLoopFree_0) (rec:ViIsLoopFree_0->Option R) (v0:ViIsLoopFree_0):Option R:=if (decide (v0<(mn c0.2.2.2.2.2.2.2.2.2.2.2.1 1001)))=true then (FiAnyLoopAt k c0.2.1 v0 c0.2.2.2.1).bind fun p1=>if p1=true then X0 v0 p1 else rec (i64.wrap (v0+1)) else X1 v0
noncomputable def LiIsLoopFree_0 {R:Type} (k:Nat) (X0:ViIsLoopFree_0->Bool->Option R) (X1:ViIsLoopFree_0->Option R) (c:CiIsLoopFree_0):Nat->ViIsLoopFree_0->Option R
 | 0,_=>none
 | n+1,v=>BiIsLoopFree_0 k X0 X1 c (LiIsLoopFree_0 k X0 X1 c n) v
noncomputable def fiIsLoopFree_0 {R:Type} (k:Nat) (K:Ex->St->Option R) (c:CiIsLoopFree_0):=lpf E k 130 Tryz.f130 0 [0,1,3] (StiIsLoopFree_0 c) K
theorem qiIsLoopFree_0 (k:Nat) (K:Ex->St->Option R) (X0 X1 c) (h:QL (fiIsLoopFree_0 k K c) (BiIsLoopFree_0 k X0 X1 c)) (v):LiIsLoopFree_0 k X0 X1 c k v=fiIsLoopFree_0 k K c k v:=lq h (fun _ _=>rfl) (fun _=>rfl) (fun _=>rfl) k v
noncomputable def NiIsLoopFree:Ex->St->Option (Bool):=finish E (rs 130) Tryz.f130
theorem eiIsLoopFree (k:Nat) (a0):FiIsLoopFree (k+1) a0=LiIsLoopFree_0 k (fun (v0:Int) p1=>some false) (fun (v0:Int)=>some true) a0 k 0:=by
 simp (disch:=(refine QL.mk fun n0 v=> ?_;kernel_rfl)) only [↓qiIsLoopFree_0 k (kon0 E k 130 Tryz.f130 0 NiIsLoopFree)]
 kernel_rfl
noncomputable def FiIsPowered (k:Nat) (a0:TWorld):Option (Bool):=den E k 128 [.agg (avs sWorld a0)]
abbrev CiIsPowered_0:=(List I6)×Int
abbrev ViIsPowered_0:=Int
def StiIsPowered_0:CiIsPowered_0->ViIsPowered_0->St
 | (a,b),d=>⟨18,0,[(6,.c (.l 119 sI6 a)),(7,cI b),(8,cI d)],[]⟩
noncomputable def BiIsPowered_0 {R:Type} (k:Nat) (X0:ViIsPowered_0->I6->Option R) (X1:ViIsPowered_0->Option R) (c0:CiIsPowered_0) (rec:ViIsPowered_0->Option R) (v0:ViIsPowered_0):Option R:=if (decide (v0<c0.2))=true then if 0<=v0 then ix c0.1 v0.toNat fun x1=>if (decide (x1.1<x1.2.2.1))=true then X0 v0 x1 else rec (i64.wrap (v0+1)) else none else X1 v0
noncomputable def LiIsPowered_0 {R:Type} (k:Nat) (X0:ViIsPowered_0->I6->Option R) (X1:ViIsPowered_0->Option R) (c:CiIsPowered_0):Nat->ViIsPowered_0->Option R
 | 0,_=>none
 | n+1,v=>BiIsPowered_0 k X0 X1 c (LiIsPowered_0 k X0 X1 c n) v
noncomputable def fiIsPowered_0 {R:Type} (k:Nat) (K:Ex->St->Option R) (c:CiIsPowered_0):=lpf E k 128 Tryz.f128 0 [0,6,7,8] (StiIsPowered_0 c) K
theorem qiIsPowered_0 (k:Nat) (K:Ex->St->Option R) (X0 X1 c) (h:QL (fiIsPowered_0 k K c) (BiIsPowered_0 k X0 X1 c)) (v):LiIsPowered_0 k X0 X1 c k v=fiIsPowered_0 k K c k v:=lq h (fun _ _=>rfl) (fun _=>rfl) (fun _=>rfl) k v
noncomputable def NiIsPowered:Ex->St->Option (Bool):=finish E (rs 128) Tryz.f128
theorem eiIsPowered (k:Nat) (a0):FiIsPowered (k+1) a0=LiIsPowered_0 k (fun (v0:Int) x1=>some false) (fun (v0:Int)=>some true) (a0.2.2.2.2.1,(a0.2.2.2.2.1.length:Int)) k 0:=by
 simp (disch:=(refine QL.mk fun n0 v=> ?_;kernel_rfl)) only [↓qiIsPowered_0 k (kon0 E k 128 Tryz.f128 0 NiIsPowered)]
 kernel_rfl
noncomputable def FiMod (k:Nat) (a0:Int) (a1:Int):Option (Int):=den E k 434 [cI a0,cI a1]
theorem eiMod (k:Nat) (a0 a1):FiMod (k+1) a0 a1=(FiInRange k a1 1 1000000000000).bind fun p1=>if (!p1)=true then some 0 else if a1=0 then none else if (decide (((a0).tmod a1)<0))=true then some (i64.wrap (((a0).tmod a1)+a1)) else some ((a0).tmod a1):=by kernel_rfl
noncomputable def FiAngleOf (k:Nat) (a0:Int):Option (Int):=den E k 374 [cI a0]
theorem eiAngleOf (k:Nat) (a0):FiAngleOf (k+1) a0=(FiMod k a0 360).bind fun p1=>some p1:=by kernel_rfl
noncomputable def FiInArc (k:Nat) (a0:I2) (a1:Int):Option (Bool):=den E k 390 [.agg [vI a0.1,vI a0.2],cI a1]
theorem eiInArc (k:Nat) (a0 a1):FiInArc (k+1) a0 a1=(FiAngleOf k a1).bind fun p1=>(FiAngleOf k a0.1).bind fun p2=>(FiAngleOf k (i64.wrap (p1-p2))).bind fun p3=>some (decide (p3<=a0.2)):=by kernel_rfl
noncomputable def FiArcsMeet (k:Nat) (a0:I2) (a1:I2):Option (Bool):=den E k 325 [.agg [vI a0.1,vI a0.2],.agg [vI a1.1,vI a1.2]]
abbrev CiArcsMeet_0:=I2×I2
abbrev ViArcsMeet_0:=Int
def StiArcsMeet_0:CiArcsMeet_0->ViArcsMeet_0->St
 | (a,b),c=>⟨18,2,[(2,cP 0),(3,cP 1),(6,cI c)],[(0,.var [vI a.1,vI a.2]),(1,.var [vI b.1,vI b.2])]⟩
noncomputable def BiArcsMeet_0 {R:Type} (k:Nat) (X0:ViArcsMeet_0->Bool->Bool->Option R) (X1:ViArcsMeet_0->Option R) (c0:CiArcsMeet_0) (rec:ViArcsMeet_0->Option R) (v0:ViArcsMeet_0):Option R:=if (decide (v0<360))=true then (FiInArc k c0.1 v0).bind fun p1=>if (p1==true)=true then (FiInArc k c0.2 v0).bind fun p2=>if p2=true then X0 v0 p1 p2 else rec (i64.wrap (v0+1)) else rec (i64.wrap (v0+1)) else X1 v0
noncomputable def LiArcsMeet_0 {R:Type} (k:Nat) (X0:ViArcsMeet_0->Bool->Bool->Option R) (X1:ViArcsMeet_0->Option R) (c:CiArcsMeet_0):Nat->ViArcsMeet_0->Option R
 | 0,_=>none
 | n+1,v=>BiArcsMeet_0 k X0 X1 c (LiArcsMeet_0 k X0 X1 c n) v
noncomputable def fiArcsMeet_0 {R:Type} (k:Nat) (K:Ex->St->Option R) (c:CiArcsMeet_0):=lpf E k 325 Tryz.f325 0 [0,2,3,6] (StiArcsMeet_0 c) K
theorem qiArcsMeet_0 (k:Nat) (K:Ex->St->Option R) (X0 X1 c) (h:QL (fiArcsMeet_0 k K c) (BiArcsMeet_0 k X0 X1 c)) (v):LiArcsMeet_0 k X0 X1 c k v=fiArcsMeet_0 k K c k v:=lq h (fun _ _=>rfl) (fun _=>rfl) (fun _=>rfl) k v
noncomputable def NiArcsMeet:Ex->St->Option (Bool):=finish E (rs 325) Tryz.f325
theorem eiArcsMeet (k:Nat) (a0 a1):FiArcsMeet (k+1) a0 a1=LiArcsMeet_0 k (fun (v0:Int) p1 p2=>some true) (fun (v0:Int)=>some false) (a0,a1) k 0:=by
 simp (disch:=(refine QL.mk fun n0 v=> ?_;kernel_rfl)) only [↓qiArcsMeet_0 k (kon0 E k 325 Tryz.f325 0 NiArcsMeet)]
 kernel_rfl
noncomputable def FispeedOf (k:Nat) (a0:I4):Option (Int):=den E k 433 [.agg (avs sI4 a0)]
theorem eispeedOf (k:Nat) (a0):FispeedOf (k+1) a0=(FiInRange k a0.2.2.1 (-60) 60).bind fun p1=>if (!p1)=true then some 0 else some a0.2.2.1:=by kernel_rfl
noncomputable def FiPlaceAt (k:Nat) (a0:I4) (a1:Int):Option (Int):=den E k 373 [.agg (avs sI4 a0),cI a1]
theorem eiPlaceAt (k:Nat) (a0 a1):FiPlaceAt (k+1) a0 a1=(FiInRange k a1 0 1000).bind fun p1=>if (!p1)=true then (FiAngleOf k a0.2.1).bind fun p2=>(FispeedOf k a0).bind fun p3=>(FiAngleOf k (i64.wrap (p2+(i64.wrap (p3*0))))).bind fun p4=>some p4 else (FiAngleOf k a0.2.1).bind fun p5=>(FispeedOf k a0).bind fun p6=>(FiAngleOf k (i64.wrap (p5+(i64.wrap (p6*a1))))).bind fun p7=>some p7:=by kernel_rfl
noncomputable def FiisWidth (k:Nat) (a0:Int):Option (Bool):=den E k 171 [cI a0]
theorem eiisWidth (k:Nat) (a0):FiisWidth (k+1) a0=(FiInRange k a0 0 359).bind fun p1=>some p1:=by kernel_rfl
noncomputable def FiWidenArc (k:Nat) (a0:I2) (a1:Int):Option I2:=den E k 432 [.agg [vI a0.1,vI a0.2],cI a1]
theorem eiWidenArc (k:Nat) (a0 a1):FiWidenArc (k+1) a0 a1=(FiAngleOf k a0.1).bind fun p1=>(FiInRange k a1 0 360).bind fun p2=>if ((!p2)==false)=true then (FiisWidth k a0.2).bind fun p3=>if (!p3)=true then some (p1,a0.2) else (FiAngleOf k (i64.wrap (p1-a1))).bind fun p4=>some (p4,(mn (i64.wrap (a0.2+(i64.wrap (2*a1)))) 359)) else some (p1,a0.2):=by kernel_rfl
noncomputable def FiPlacesAt (k:Nat) (a0:I4) (a1:Int):Option I2:=den E k 372 [.agg (avs sI4 a0),cI a1]
theorem eiPlacesAt (k:Nat) (a0 a1):FiPlacesAt (k+1) a0 a1=(FiPlaceAt k a0 a1).bind fun p1=>(FiWidenArc k (p1,0) a0.2.2.2).bind fun p2=>some p2:=by kernel_rfl
noncomputable def FiisSatellite (k:Nat) (a0:TSky) (a1:Int):Option (Bool):=den E k 293 [.agg (avs sSky a0),cI a1]
theorem eiisSatellite (k:Nat) (a0 a1):FiisSatellite (k+1) a0 a1=(FiInRange k a1 0 (i64.wrap ((a0.2.1.length:Int)-1))).bind fun p1=>some p1:=by kernel_rfl
noncomputable def FiNodeAt (k:Nat) (a0:TSky) (a1:Int) (a2:Int):Option I2:=den E k 294 [.agg (avs sSky a0),cI a1,cI a2]
theorem eiNodeAt (k:Nat) (a0 a1 a2):FiNodeAt (k+1) a0 a1 a2=(FiisSatellite k a0 a1).bind fun p1=>if p1=true then if 0<=a1 then ix a0.2.1 a1.toNat fun x2=>(FiPlacesAt k x2 a2).bind fun p3=>some p3 else none else (FiIsSite k a0 a1).bind fun p4=>if p4=true then if 0<=(i64.wrap (a1-(a0.2.1.length:Int))) then ix a0.2.2.1 ((i64.wrap (a1-(a0.2.1.length:Int))).toNat) fun x5=>(FiPlaceAt k (0,x5.2.1,x5.2.2,0) a2).bind fun p6=>some (p6,0) else none else some (0,0):=by kernel_rfl
noncomputable def FiMayDisturb (k:Nat) (a0:TSky) (a1:Int) (a2:Int):Option (Bool):=den E k 229 [.agg (avs sSky a0),cI a1,cI a2]
abbrev CiMayDisturb_0:=Int×(List I3)×Int×TSky×I2
abbrev ViMayDisturb_0:=Int
def StiMayDisturb_0:CiMayDisturb_0->ViMayDisturb_0->St
 | (a,b,d,e,f),g=>⟨41,2,[(1,cI a),(3,cP 0),(7,cP 1),(19,.c (.l 188 sZone b)),(20,cI d),(21,cI g)],[(0,.var (avs sSky e)),(1,.var [vI f.1,vI f.2])]⟩
noncomputable def BiMayDisturb_0 {R:Type} (k:Nat) (X0:ViMayDisturb_0->I3->I4->Bool->Option R) (X1:ViMayDisturb_0->Option R) (c0:CiMayDisturb_0) (rec:ViMayDisturb_0->Option R) (v0:ViMayDisturb_0):Option R:=if (decide (v0<c0.2.2.1))=true then if 0<=v0 then ix c0.2.1 v0.toNat fun x3=>if 0<=c0.1 then ix c0.2.2.2.1.2.1 c0.1.toNat fun x4=>if ((x3.1==x4.1)==true)=true then (FiArcsMeet k c0.2.2.2.2 x3.2).bind fun p5=>if p5=true then X0 v0 x3 x4 p5 else rec (i64.wrap (v0+1)) else rec (i64.wrap (v0+1)) else none else none else X1 v0
noncomputable def LiMayDisturb_0 {R:Type} (k:Nat) (X0:ViMayDisturb_0->I3->I4->Bool->Option R) (X1:ViMayDisturb_0->Option R) (c:CiMayDisturb_0):Nat->ViMayDisturb_0->Option R
 | 0,_=>none
 | n+1,v=>BiMayDisturb_0 k X0 X1 c (LiMayDisturb_0 k X0 X1 c n) v
noncomputable def fiMayDisturb_0 {R:Type} (k:Nat) (K:Ex->St->Option R) (c:CiMayDisturb_0):=lpf E k 229 Tryz.f229 0 [0,1,3,7,19,20,21] (StiMayDisturb_0 c) K
theorem qiMayDisturb_0 (k:Nat) (K:Ex->St->Option R) (X0 X1 c) (h:QL (fiMayDisturb_0 k K c) (BiMayDisturb_0 k X0 X1 c)) (v):LiMayDisturb_0 k X0 X1 c k v=fiMayDisturb_0 k K c k v:=lq h (fun _ _=>rfl) (fun _=>rfl) (fun _=>rfl) k v
noncomputable def NiMayDisturb:Ex->St->Option (Bool):=finish E (rs 229) Tryz.f229
theorem eiMayDisturb (k:Nat) (a0 a1 a2):FiMayDisturb (k+1) a0 a1 a2=(FiisSatellite k a0 a1).bind fun p1=>if (!p1)=true then some false else (FiNodeAt k a0 a1 a2).bind fun p2=>LiMayDisturb_0 k (fun (v0:Int) x3 x4 p5=>some true) (fun (v0:Int)=>some false) (a1,a0.2.2.2.2.2.2.2.2.1,(a0.2.2.2.2.2.2.2.2.1.length:Int),a0,p2) k 0:=by
 simp (disch:=(refine QL.mk fun n0 v=> ?_;kernel_rfl)) only [↓qiMayDisturb_0 k (kon0 E k 229 Tryz.f229 0 NiMayDisturb)]
 kernel_rfl
noncomputable def FiIsQuiet (k:Nat) (a0:TWorld):Option (Bool):=den E k 126 [.agg (avs sWorld a0)]
abbrev CiIsQuiet_0:=(List I4)×Int×TWorld
abbrev ViIsQuiet_0:=Int
def StiIsQuiet_0:CiIsQuiet_0->ViIsQuiet_0->St
 | (a,b,d),e=>⟨29,1,[(1,cP 0),(6,.c (.l 168 sI4 a)),(7,cI b),(8,cI e)],[(0,.var (avs sWorld d))]⟩
noncomputable def BiIsQuiet_0 {R:Type} (k:Nat) (X0:ViIsQuiet_0->I4->Bool->Bool->Option R) (X1:ViIsQuiet_0->I4->Bool->Option R) (X2:ViIsQuiet_0->Option R) (c0:CiIsQuiet_0) (rec:ViIsQuiet_0->Option R) (v0:ViIsQuiet_0):Option R:=if (decide (v0<c0.2.1))=true then if 0<=v0 then ix c0.1 v0.toNat fun x1=>(FiMayDisturb k c0.2.2.1 x1.2.1 x1.1).bind fun p2=>if (p2==false)=true then (FiMayDisturb k c0.2.2.1 x1.2.2.1 x1.1).bind fun p3=>if p3=true then X0 v0 x1 p2 p3 else rec (i64.wrap (v0+1)) else X1 v0 x1 p2 else none else X2 v0
noncomputable def LiIsQuiet_0 {R:Type} (k:Nat) (X0:ViIsQuiet_0->I4->Bool->Bool->Option R) (X1:ViIsQuiet_0->I4->Bool->Option R) (X2:ViIsQuiet_0->Option R) (c:CiIsQuiet_0):Nat->ViIsQuiet_0->Option R
 | 0,_=>none
 | n+1,v=>BiIsQuiet_0 k X0 X1 X2 c (LiIsQuiet_0 k X0 X1 X2 c n) v
noncomputable def fiIsQuiet_0 {R:Type} (k:Nat) (K:Ex->St->Option R) (c:CiIsQuiet_0):=lpf E k 126 Tryz.f126 0 [0,1,6,7,8] (StiIsQuiet_0 c) K
theorem qiIsQuiet_0 (k:Nat) (K:Ex->St->Option R) (X0 X1 X2 c) (h:QL (fiIsQuiet_0 k K c) (BiIsQuiet_0 k X0 X1 X2 c)) (v):LiIsQuiet_0 k X0 X1 X2 c k v=fiIsQuiet_0 k K c k v:=lq h (fun _ _=>rfl) (fun _=>rfl) (fun _=>rfl) k v
noncomputable def NiIsQuiet:Ex->St->Option (Bool):=finish E (rs 126) Tryz.f126
theorem eiIsQuiet (k:Nat) (a0):FiIsQuiet (k+1) a0=LiIsQuiet_0 k (fun (v0:Int) x1 p2 p3=>some false) (fun (v0:Int) x1 p2=>some false) (fun (v0:Int)=>some true) (a0.2.2.2.2.2.2.2.2.2.2.2.2.2,(a0.2.2.2.2.2.2.2.2.2.2.2.2.2.length:Int),a0) k 0:=by
 simp (disch:=(refine QL.mk fun n0 v=> ?_;kernel_rfl)) only [↓qiIsQuiet_0 k (kon0 E k 126 Tryz.f126 0 NiIsQuiet)]
 kernel_rfl
noncomputable def FiIsLaw (k:Nat) (a0:List Int) (a1:TProgram):Option (Bool):=den E k 65 [.agg [.l 3 (.i .i64) a0],.agg (avs sProgram a1)]
abbrev CiIsLaw_0:=(List Int)×Int×(List Int)×TProgram
abbrev ViIsLaw_0:=Int
def StiIsLaw_0:CiIsLaw_0->ViIsLaw_0->St
 | (a,b,d,e),f=>⟨40,2,[(2,cP 0),(3,cP 1),(8,.c (.l 3 (.i .i64) a)),(9,cI b),(10,cI f)],[(0,.var [.l 3 (.i .i64) d]),(1,.var (avs sProgram e))]⟩
noncomputable def BiIsLaw_0 {R:Type} (k:Nat) (X0:ViIsLaw_0->Int->Int->Option R) (X1:ViIsLaw_0->Int->Option R) (X2:ViIsLaw_0->Int->Option R) (X3:ViIsLaw_0->Option R) (c0:CiIsLaw_0) (rec:ViIsLaw_0->Option R) (v0:ViIsLaw_0):Option R:=if (decide (v0<c0.2.1))=true then if 0<=v0 then ix c0.1 v0.toNat fun x1=>if ((decide (x1<c0.2.2.2.2.1))==false)=true then if ((decide (x1>=c0.2.2.2.1))==false)=true then if ((decide (v0>0))==true)=true then if 0<=(i64.wrap (v0-1)) then ix c0.2.2.1 ((i64.wrap (v0-1)).toNat) fun x2=>if (decide (x1<=x2))=true then X0 v0 x1 x2 else rec (i64.wrap (v0+1)) else none else rec (i64.wrap (v0+1)) else X1 v0 x1 else X2 v0 x1 else none else X3 v0
noncomputable def LiIsLaw_0 {R:Type} (k:Nat) (X0:ViIsLaw_0->Int->Int->Option R) (X1:ViIsLaw_0->Int->Option R) (X2:ViIsLaw_0->Int->Option R) (X3:ViIsLaw_0->Option R) (c:CiIsLaw_0):Nat->ViIsLaw_0->Option R
 | 0,_=>none
 | n+1,v=>BiIsLaw_0 k X0 X1 X2 X3 c (LiIsLaw_0 k X0 X1 X2 X3 c n) v
noncomputable def fiIsLaw_0 {R:Type} (k:Nat) (K:Ex->St->Option R) (c:CiIsLaw_0):=lpf E k 65 Tryz.f65 0 [0,2,3,8,9,10] (StiIsLaw_0 c) K
theorem qiIsLaw_0 (k:Nat) (K:Ex->St->Option R) (X0 X1 X2 X3 c) (h:QL (fiIsLaw_0 k K c) (BiIsLaw_0 k X0 X1 X2 X3 c)) (v):LiIsLaw_0 k X0 X1 X2 X3 c k v=fiIsLaw_0 k K c k v:=lq h (fun _ _=>rfl) (fun _=>rfl) (fun _=>rfl) k v
noncomputable def NiIsLaw:Ex->St->Option (Bool):=finish E (rs 65) Tryz.f65
theorem eiIsLaw (k:Nat) (a0 a1):FiIsLaw (k+1) a0 a1=LiIsLaw_0 k (fun (v0:Int) (x1:Int) (x2:Int)=>some false) (fun (v0:Int) (x1:Int)=>some false) (fun (v0:Int) (x1:Int)=>some false) (fun (v0:Int)=>some true) (a0,(a0.length:Int),a0,a1) k 0:=by
 simp (disch:=(refine QL.mk fun n0 v=> ?_;kernel_rfl)) only [↓qiIsLaw_0 k (kon0 E k 65 Tryz.f65 0 NiIsLaw)]
 kernel_rfl
noncomputable def FgEqual_int (k:Nat) (a0:List Int) (a1:List Int):Option (Bool):=den E k 386 [.c (.l 3 (.i .i64) a0),.c (.l 3 (.i .i64) a1)]
abbrev CgEqual_int_0:=(List Int)×(List Int)×Int
abbrev VgEqual_int_0:=Int
def StgEqual_int_0:CgEqual_int_0->VgEqual_int_0->St
 | (a,b,d),e=>⟨26,0,[(0,.c (.l 3 (.i .i64) a)),(1,.c (.l 3 (.i .i64) b)),(12,cI d),(13,cI e)],[]⟩
noncomputable def BgEqual_int_0 {R:Type} (k:Nat) (X0:VgEqual_int_0->Int->Int->Option R) (X1:VgEqual_int_0->Option R) (c0:CgEqual_int_0) (rec:VgEqual_int_0->Option R) (v0:VgEqual_int_0):Option R:=if (decide (v0<c0.2.2))=true then if 0<=v0 then ix c0.1 v0.toNat fun x1=>if 0<=v0 then ix c0.2.1 v0.toNat fun x2=>if (x1 !=x2)=true then X0 v0 x1 x2 else rec (i64.wrap (v0+1)) else none else none else X1 v0
noncomputable def LgEqual_int_0 {R:Type} (k:Nat) (X0:VgEqual_int_0->Int->Int->Option R) (X1:VgEqual_int_0->Option R) (c:CgEqual_int_0):Nat->VgEqual_int_0->Option R
 | 0,_=>none
 | n+1,v=>BgEqual_int_0 k X0 X1 c (LgEqual_int_0 k X0 X1 c n) v
noncomputable def fgEqual_int_0 {R:Type} (k:Nat) (K:Ex->St->Option R) (c:CgEqual_int_0):=lpf E k 386 Tryz.f386 0 [0,0,1,12,13] (StgEqual_int_0 c) K
theorem qgEqual_int_0 (k:Nat) (K:Ex->St->Option R) (X0 X1 c) (h:QL (fgEqual_int_0 k K c) (BgEqual_int_0 k X0 X1 c)) (v):LgEqual_int_0 k X0 X1 c k v=fgEqual_int_0 k K c k v:=lq h (fun _ _=>rfl) (fun _=>rfl) (fun _=>rfl) k v
noncomputable def NgEqual_int:Ex->St->Option (Bool):=finish E (rs 386) Tryz.f386
theorem egEqual_int (k:Nat) (a0 a1):FgEqual_int (k+1) a0 a1=if ((a0.length:Int) !=(a1.length:Int))=true then some false else LgEqual_int_0 k (fun (v0:Int) (x1:Int) (x2:Int)=>some false) (fun (v0:Int)=>some true) (a0,a1,(a0.length:Int)) k 0:=by
 simp (disch:=(refine QL.mk fun n0 v=> ?_;kernel_rfl)) only [↓qgEqual_int_0 k (kon0 E k 386 Tryz.f386 0 NgEqual_int)]
 kernel_rfl
noncomputable def FiEqualTables (k:Nat) (a0:Int×(List Int)×List Int) (a1:Int×(List Int)×List Int):Option (Bool):=den E k 319 [.agg (avs sTable a0),.agg (avs sTable a1)]
theorem eiEqualTables (k:Nat) (a0 a1):FiEqualTables (k+1) a0 a1=if ((a0.1==a1.1)==true)=true then (FgEqual_int k a0.2.1 a1.2.1).bind fun p1=>if (p1==true)=true then (FgEqual_int k a0.2.2 a1.2.2).bind fun p2=>some p2 else some false else some false:=by kernel_rfl
noncomputable def FgEqualFunc_Tablev_iEqualTables (k:Nat) (a0:List (Int×(List Int)×List Int)) (a1:List (Int×(List Int)×List Int)):Option (Bool):=den E k 318 [.c (.l 290 sTable a0),.c (.l 290 sTable a1),.c (.v (.func (.func 319) #[] #[]))]
abbrev CgEqualFunc_Tablev_iEqualTables_0:=(List (Int×(List Int)×List Int))×(List (Int×(List Int)×List Int))×Int
abbrev VgEqualFunc_Tablev_iEqualTables_0:=Int
def StgEqualFunc_Tablev_iEqualTables_0:CgEqualFunc_Tablev_iEqualTables_0->VgEqualFunc_Tablev_iEqualTables_0->St
 | (a,b,d),e=>⟨32,0,[(1,.c (.l 290 sTable a)),(2,.c (.v (.func (.func 319) #[] #[]))),(15,.c (.l 290 sTable b)),(16,cI d),(17,cI e)],[]⟩
noncomputable def BgEqualFunc_Tablev_iEqualTables_0 {R:Type} (k:Nat) (X0:VgEqualFunc_Tablev_iEqualTables_0->(Int×(List Int)×List Int)->(Int×(List Int)×List Int)->Bool->Option R) (X1:VgEqualFunc_Tablev_iEqualTables_0->Option R) (c0:CgEqualFunc_Tablev_iEqualTables_0) (rec:VgEqualFunc_Tablev_iEqualTables_0->Option R) (v0:VgEqualFunc_Tablev_iEqualTables_0):Option R:=if (decide (v0<c0.2.2))=true then if 0<=v0 then ix c0.2.1 v0.toNat fun x1=>if 0<=v0 then ix c0.1 v0.toNat fun x2=>(FiEqualTables k x1 x2).bind fun p3=>if (!p3)=true then X0 v0 x1 x2 p3 else rec (i64.wrap (v0+1)) else none else none else X1 v0
noncomputable def LgEqualFunc_Tablev_iEqualTables_0 {R:Type} (k:Nat) (X0:VgEqualFunc_Tablev_iEqualTables_0->(Int×(List Int)×List Int)->(Int×(List Int)×List Int)->Bool->Option R) (X1:VgEqualFunc_Tablev_iEqualTables_0->Option R) (c:CgEqualFunc_Tablev_iEqualTables_0):Nat->VgEqualFunc_Tablev_iEqualTables_0->Option R
 | 0,_=>none
 | n+1,v=>BgEqualFunc_Tablev_iEqualTables_0 k X0 X1 c (LgEqualFunc_Tablev_iEqualTables_0 k X0 X1 c n) v
noncomputable def fgEqualFunc_Tablev_iEqualTables_0 {R:Type} (k:Nat) (K:Ex->St->Option R) (c:CgEqualFunc_Tablev_iEqualTables_0):=lpf E k 318 Tryz.f318 0 [0,1,2,15,16,17] (StgEqualFunc_Tablev_iEqualTables_0 c) K
theorem qgEqualFunc_Tablev_iEqualTables_0 (k:Nat) (K:Ex->St->Option R) (X0 X1 c) (h:QL (fgEqualFunc_Tablev_iEqualTables_0 k K c) (BgEqualFunc_Tablev_iEqualTables_0 k X0 X1 c)) (v):LgEqualFunc_Tablev_iEqualTables_0 k X0 X1 c k v=fgEqualFunc_Tablev_iEqualTables_0 k K c k v:=lq h (fun _ _=>rfl) (fun _=>rfl) (fun _=>rfl) k v
noncomputable def NgEqualFunc_Tablev_iEqualTables:Ex->St->Option (Bool):=finish E (rs 318) Tryz.f318
theorem egEqualFunc_Tablev_iEqualTables (k:Nat) (a0 a1):FgEqualFunc_Tablev_iEqualTables (k+1) a0 a1=if ((a0.length:Int) !=(a1.length:Int))=true then some false else LgEqualFunc_Tablev_iEqualTables_0 k (fun (v0:Int) x1 x2 p3=>some false) (fun (v0:Int)=>some true) (a1,a0,(a0.length:Int)) k 0:=by
 simp (disch:=(refine QL.mk fun n0 v=> ?_;kernel_rfl)) only [↓qgEqualFunc_Tablev_iEqualTables_0 k (kon0 E k 318 Tryz.f318 0 NgEqualFunc_Tablev_iEqualTables)]
 kernel_rfl
noncomputable def FiisNumber (k:Nat) (a0:Int):Option (Bool):=den E k 281 [cI a0]
theorem eiisNumber (k:Nat) (a0):FiisNumber (k+1) a0=(FiInRange k a0 1 12).bind fun p1=>some p1:=by kernel_rfl
noncomputable def FiisFrame (k:Nat) (a0:Int) (a1:Int) (a2:Int):Option (Bool):=den E k 172 [cI a0,cI a1,cI a2]
theorem eiisFrame (k:Nat) (a0 a1 a2):FiisFrame (k+1) a0 a1 a2=(FiisNumber k a0).bind fun p1=>if (p1==true)=true then (FiInRange k a1 0 a0).bind fun p2=>if (p2==true)=true then (FiInRange k a2 0 5).bind fun p3=>some p3 else some false else some false:=by kernel_rfl
noncomputable def FgCompact_int (k:Nat) (a0:List Int):Option (List Int):=den E k 470 [.c (.l 3 (.i .i64) a0)]
theorem egCompact_int (k:Nat) (a0):FgCompact_int (k+1) a0=some (compactB a0):=by kernel_rfl
noncomputable def FgSort_int (k:Nat) (a0:List Int):Option (List Int):=den E k 324 [.c (.l 3 (.i .i64) a0)]
theorem egSort_int (k:Nat) (a0):FgSort_int (k+1) a0=if a0.length<=1099511627776 then some (sortB a0) else none:=by kernel_rfl
noncomputable def FiNeighborsIn (k:Nat) (a0:List I2) (a1:Int):Option (List Int):=den E k 425 [.c (.l 288 sI2 a0),cI a1]
abbrev CiNeighborsIn_0:=Int×(List I2)×Int
abbrev ViNeighborsIn_0:=Int×(List Int)
def StiNeighborsIn_0:CiNeighborsIn_0->ViNeighborsIn_0->St
 | (a,b,d),(e,f)=>⟨38,1,[(1,cI a),(5,.c (.ref 0)),(9,.c (.l 288 sI2 b)),(10,cI d),(11,cI e)],[(0,.arr 3 (.i .i64) f)]⟩
noncomputable def BiNeighborsIn_0 {R:Type} (k:Nat) (X0:ViNeighborsIn_0->Option R) (c0:CiNeighborsIn_0) (rec:ViNeighborsIn_0->Option R) (v0:ViNeighborsIn_0):Option R:=if (decide (v0.1<c0.2.2))=true then if 0<=v0.1 then ix c0.2.1 v0.1.toNat fun x1=>if (x1.1==c0.1)=true then if (v0.2.length+([x1.2]).length)*8<=140737488355328 then if (x1.2==c0.1)=true then if ((v0.2++[x1.2]).length+([x1.1]).length)*8<=140737488355328 then rec ((i64.wrap (v0.1+1)),((v0.2++[x1.2])++[x1.1])) else none else rec ((i64.wrap (v0.1+1)),(v0.2++[x1.2])) else none else if (x1.2==c0.1)=true then if (v0.2.length+([x1.1]).length)*8<=140737488355328 then rec ((i64.wrap (v0.1+1)),(v0.2++[x1.1])) else none else rec ((i64.wrap (v0.1+1)),v0.2) else none else X0 v0
noncomputable def LiNeighborsIn_0 {R:Type} (k:Nat) (X0:ViNeighborsIn_0->Option R) (c:CiNeighborsIn_0):Nat->ViNeighborsIn_0->Option R
 | 0,_=>none
 | n+1,v=>BiNeighborsIn_0 k X0 c (LiNeighborsIn_0 k X0 c n) v
noncomputable def fiNeighborsIn_0 {R:Type} (k:Nat) (K:Ex->St->Option R) (c:CiNeighborsIn_0):=lpf E k 425 Tryz.f425 0 [0,1,5,9,10,11] (StiNeighborsIn_0 c) K
theorem qiNeighborsIn_0 (k:Nat) (K:Ex->St->Option R) (X0 c) (h:QL (fiNeighborsIn_0 k K c) (BiNeighborsIn_0 k X0 c)) (v):LiNeighborsIn_0 k X0 c k v=fiNeighborsIn_0 k K c k v:=lq h (fun _ _=>rfl) (fun _=>rfl) (fun _=>rfl) k v
noncomputable def NiNeighborsIn:Ex->St->Option (List Int):=finish E (rs 425) Tryz.f425
theorem eiNeighborsIn (k:Nat) (a0 a1):FiNeighborsIn (k+1) a0 a1=LiNeighborsIn_0 k (fun v0=>(FgSort_int k v0.2).bind fun p2=>(FgCompact_int k p2).bind fun p3=>some p3) (a1,a0,(a0.length:Int)) k (0,[]):=by
 simp (disch:=(refine QL.mk fun n0 v=> ?_;kernel_rfl)) only [↓qiNeighborsIn_0 k (kon0 E k 425 Tryz.f425 0 NiNeighborsIn)]
 kernel_rfl
noncomputable def FiDistancesTo (k:Nat) (a0:List I2) (a1:Int) (a2:Int) (a3:Int):Option (List Int):=den E k 365 [.c (.l 288 sI2 a0),cI a1,cI a2,cI a3]
abbrev CiDistancesTo_2:=(List I2)×Int×Int×Int×Int×Int×Int×Int×(List Int)
abbrev ViDistancesTo_2:=Int×(List Int)×(List Int)
def StiDistancesTo_2:CiDistancesTo_2->ViDistancesTo_2->St
 | (a,b,d,e,f,g,h,j,k),(m,n,o)=>⟨85,3,[(0,.c (.l 288 sI2 a)),(1,cI b),(2,cI d),(3,cI e),(9,.c (.ref 0)),(10,.c (.ref 1)),(11,cI f),(25,cI g),(26,cI h),(55,.c (.ref 2)),(56,cI j),(57,cI m)],[(0,.arr 3 (.i .i64) n),(1,.arr 3 (.i .i64) o),(2,.arr 3 (.i .i64) k)]⟩
noncomputable def BiDistancesTo_2 {R:Type} (k:Nat) (X0:ViDistancesTo_2->Option R) (c2:CiDistancesTo_2) (rec:ViDistancesTo_2->Option R) (v2:ViDistancesTo_2):Option R:=if (decide (v2.1<c2.2.2.2.2.2.2.2.1))=true then if 0<=v2.1 then if v2.1<(c2.2.2.2.2.2.2.2.2.length:Int) then ix c2.2.2.2.2.2.2.2.2 v2.1.toNat fun x6=>(FiisIndex k x6 c2.2.1).bind fun p7=>if (p7==true)=true then if 0<=x6 then if x6<(v2.2.1.length:Int) then ix v2.2.1 x6.toNat fun x8=>if (decide (x8<0))=true then if 0<=c2.2.2.2.2.1 then if c2.2.2.2.2.1<(v2.2.1.length:Int) then ix v2.2.1 c2.2.2.2.2.1.toNat fun x9=>if 0<=x6 then if x6<(v2.2.1.length:Int) then ix v2.2.1 x6.toNat fun y10=>if (v2.2.2.length+([x6]).length)*8<=140737488355328 then rec ((i64.wrap (v2.1+1)),(v2.2.1.set x6.toNat (i64.wrap (x9+1))),(v2.2.2++[x6])) else none else none else none else none else none else rec ((i64.wrap (v2.1+1)),v2.2.1,v2.2.2) else none else none else rec ((i64.wrap (v2.1+1)),v2.2.1,v2.2.2) else none else none else X0 v2
noncomputable def LiDistancesTo_2 {R:Type} (k:Nat) (X0:ViDistancesTo_2->Option R) (c:CiDistancesTo_2):Nat->ViDistancesTo_2->Option R
 | 0,_=>none
 | n+1,v=>BiDistancesTo_2 k X0 c (LiDistancesTo_2 k X0 c n) v
noncomputable def fiDistancesTo_2 {R:Type} (k:Nat) (K:Ex->St->Option R) (c:CiDistancesTo_2):=lpf E k 365 Tryz.f365 2 [0,0,1,2,3,9,10,11,25,26,55,56,57] (StiDistancesTo_2 c) K
theorem qiDistancesTo_2 (k:Nat) (K:Ex->St->Option R) (X0 c) (h:QL (fiDistancesTo_2 k K c) (BiDistancesTo_2 k X0 c)) (v):LiDistancesTo_2 k X0 c k v=fiDistancesTo_2 k K c k v:=lq h (fun _ _=>rfl) (fun _=>rfl) (fun _=>rfl) k v
abbrev CiDistancesTo_1:=(List I2)×Int×Int×Int×Int×Int
abbrev ViDistancesTo_1:=(List Int)×(List Int)
def StiDistancesTo_1:CiDistancesTo_1->ViDistancesTo_1->St
 | (a,b,d,e,f,g),(h,j)=>⟨85,2,[(0,.c (.l 288 sI2 a)),(1,cI b),(2,cI d),(3,cI e),(9,.c (.ref 0)),(10,.c (.ref 1)),(25,cI f),(26,cI g)],[(0,.arr 3 (.i .i64) h),(1,.arr 3 (.i .i64) j)]⟩
noncomputable def BiDistancesTo_1 {R:Type} (k:Nat) (X0:ViDistancesTo_1->Option R) (c1:CiDistancesTo_1) (rec:ViDistancesTo_1->Option R) (v1:ViDistancesTo_1):Option R:=if (decide ((v1.2.length:Int)>0))=true then if 0<(v1.2.length:Int) then ix v1.2 ((0:Int).toNat) fun x4=>if ((x4 !=c1.2.2.2.1)==true)=true then if (decide (x4>=c1.2.2.1))=true then if 1<=(v1.2.length:Int) then if (v1.2.length:Int)<=(v1.2.length:Int) then rec (v1.1,((v1.2.take ((v1.2.length:Int).toNat)).drop ((1:Int).toNat))) else none else none else (FiNeighborsIn k c1.1 x4).bind fun p5=>LiDistancesTo_2 k (fun v2=>if 1<=(v2.2.2.length:Int) then if (v2.2.2.length:Int)<=(v2.2.2.length:Int) then rec (v2.2.1,((v2.2.2.take ((v2.2.2.length:Int).toNat)).drop ((1:Int).toNat))) else none else none) (c1.1,c1.2.1,c1.2.2.1,c1.2.2.2.1,x4,c1.2.2.2.2.1,c1.2.2.2.2.2,(p5.length:Int),p5) k (0,v1.1,v1.2) else (FiNeighborsIn k c1.1 x4).bind fun p11=>LiDistancesTo_2 k (fun v2=>if 1<=(v2.2.2.length:Int) then if (v2.2.2.length:Int)<=(v2.2.2.length:Int) then rec (v2.2.1,((v2.2.2.take ((v2.2.2.length:Int).toNat)).drop ((1:Int).toNat))) else none else none) (c1.1,c1.2.1,c1.2.2.1,c1.2.2.2.1,x4,c1.2.2.2.2.1,c1.2.2.2.2.2,(p11.length:Int),p11) k (0,v1.1,v1.2) else none else X0 v1
noncomputable def LiDistancesTo_1 {R:Type} (k:Nat) (X0:ViDistancesTo_1->Option R) (c:CiDistancesTo_1):Nat->ViDistancesTo_1->Option R
 | 0,_=>none
 | n+1,v=>BiDistancesTo_1 k X0 c (LiDistancesTo_1 k X0 c n) v
noncomputable def fiDistancesTo_1 {R:Type} (k:Nat) (K:Ex->St->Option R) (c:CiDistancesTo_1):=lpf E k 365 Tryz.f365 1 [0,0,1,2,3,9,10,25,26] (StiDistancesTo_1 c) K
theorem qiDistancesTo_1 (k:Nat) (K:Ex->St->Option R) (X0 c) (h:QL (fiDistancesTo_1 k K c) (BiDistancesTo_1 k X0 c)) (v):LiDistancesTo_1 k X0 c k v=fiDistancesTo_1 k K c k v:=lq h (fun _ _=>rfl) (fun _=>rfl) (fun _=>rfl) k v
abbrev CiDistancesTo_0:=(List I2)×Int×Int×Int×Int
abbrev ViDistancesTo_0:=Int×(List Int)
def StiDistancesTo_0:CiDistancesTo_0->ViDistancesTo_0->St
 | (a,b,d,e,f),(g,h)=>⟨85,1,[(0,.c (.l 288 sI2 a)),(1,cI b),(2,cI d),(3,cI e),(9,.c (.ref 0)),(25,cI f),(26,cI g)],[(0,.arr 3 (.i .i64) h)]⟩
noncomputable def BiDistancesTo_0 {R:Type} (k:Nat) (X0:ViDistancesTo_0->Option R) (c0:CiDistancesTo_0) (rec:ViDistancesTo_0->Option R) (v0:ViDistancesTo_0):Option R:=if (decide (v0.1<c0.2.2.2.2))=true then if (v0.2.length+([-1]).length)*8<=140737488355328 then rec ((i64.wrap (v0.1+1)),(v0.2++[-1])) else none else X0 v0
noncomputable def LiDistancesTo_0 {R:Type} (k:Nat) (X0:ViDistancesTo_0->Option R) (c:CiDistancesTo_0):Nat->ViDistancesTo_0->Option R
 | 0,_=>none
 | n+1,v=>BiDistancesTo_0 k X0 c (LiDistancesTo_0 k X0 c n) v
noncomputable def fiDistancesTo_0 {R:Type} (k:Nat) (K:Ex->St->Option R) (c:CiDistancesTo_0):=lpf E k 365 Tryz.f365 0 [0,0,1,2,3,9,25,26] (StiDistancesTo_0 c) K
theorem qiDistancesTo_0 (k:Nat) (K:Ex->St->Option R) (X0 c) (h:QL (fiDistancesTo_0 k K c) (BiDistancesTo_0 k X0 c)) (v):LiDistancesTo_0 k X0 c k v=fiDistancesTo_0 k K c k v:=lq h (fun _ _=>rfl) (fun _=>rfl) (fun _=>rfl) k v
noncomputable def NiDistancesTo:Ex->St->Option (List Int):=finish E (rs 365) Tryz.f365
theorem eiDistancesTo (k:Nat) (a0 a1 a2 a3):FiDistancesTo (k+1) a0 a1 a2 a3=(FiisNumber k a1).bind fun p1=>if ((!p1)==false)=true then (FiisIndex k a3 a1).bind fun p2=>if (!p2)=true then some ([]) else LiDistancesTo_0 k (fun v0=>if 0<=a3 then if a3<(v0.2.length:Int) then ix v0.2 a3.toNat fun y3=>LiDistancesTo_1 k (fun v1=>some v1.1) (a0,a1,a2,a3,a1,v0.1) k ((v0.2.set a3.toNat 0),[a3]) else none else none) (a0,a1,a2,a3,a1) k (0,[]) else some ([]):=by
 simp (maxSteps:=9999999) (disch:=(refine QL.mk fun n0 v=> ?_;unfold BiDistancesTo_0;simp (maxSteps:=9999999) (disch:=(refine QL.mk fun n1 v=> ?_;unfold BiDistancesTo_1;simp (maxSteps:=9999999) (disch:=(refine QL.mk fun n2 v=> ?_;kernel_rfl)) only [↓qiDistancesTo_2 (R:=List Int) k (kon1 E k 365 Tryz.f365 1 1 n1 [0,0,1,2,3,9,10,25,26] (kon0 E k 365 Tryz.f365 1 NiDistancesTo))];kernel_rfl)) only [↓qiDistancesTo_1 (R:=List Int) k (kon0 E k 365 Tryz.f365 1 NiDistancesTo)];kernel_rfl)) only [↓qiDistancesTo_0 (R:=List Int) k (kon0 E k 365 Tryz.f365 0 NiDistancesTo)]
 kernel_rfl
noncomputable def FiNextTo (k:Nat) (a0:List I2) (a1:Int) (a2:Int) (a3:Int):Option (List Int):=den E k 366 [.c (.l 288 sI2 a0),cI a1,cI a2,cI a3]
abbrev CiNextTo_1:=(List I2)×Int×Int×Int×Int×Int×Int×Int×(List Int)×(List Int)×(List Int)
abbrev ViNextTo_1:=Int×Int
def StiNextTo_1:CiNextTo_1->ViNextTo_1->St
 | (a,b,d,e,f,g,h,j,k,m,n),(o,p)=>⟨75,3,[(0,.c (.l 288 sI2 a)),(1,cI b),(2,cI d),(3,cI e),(9,.c (.ref 0)),(10,.c (.ref 1)),(12,cI f),(13,cI o),(22,.c (.ref 1)),(23,cI g),(24,cI h),(31,.c (.ref 2)),(32,cI j),(33,cI p)],[(0,.arr 3 (.i .i64) k),(1,.arr 3 (.i .i64) m),(2,.arr 3 (.i .i64) n)]⟩
noncomputable def BiNextTo_1 {R:Type} (k:Nat) (X0:ViNextTo_1->Option R) (c1:CiNextTo_1) (rec:ViNextTo_1->Option R) (v1:ViNextTo_1):Option R:=if (decide (v1.2<c1.2.2.2.2.2.2.2.1))=true then if 0<=v1.2 then if v1.2<(c1.2.2.2.2.2.2.2.2.2.2.length:Int) then ix c1.2.2.2.2.2.2.2.2.2.2 v1.2.toNat fun x4=>if ((decide (v1.1<0))==true)=true then if ((decide (c1.2.2.2.2.1>0))==true)=true then (FiisIndex k x4 c1.2.1).bind fun p5=>if (p5==true)=true then if ((decide (x4<c1.2.2.1))==false)=true then if ((x4==c1.2.2.2.1)==true)=true then if 0<=x4 then if x4<(c1.2.2.2.2.2.2.2.2.2.1.length:Int) then ix c1.2.2.2.2.2.2.2.2.2.1 x4.toNat fun x6=>if (x6==(i64.wrap (c1.2.2.2.2.1-1)))=true then rec (x4,(i64.wrap (v1.2+1))) else rec (v1.1,(i64.wrap (v1.2+1))) else none else none else rec (v1.1,(i64.wrap (v1.2+1))) else if 0<=x4 then if x4<(c1.2.2.2.2.2.2.2.2.2.1.length:Int) then ix c1.2.2.2.2.2.2.2.2.2.1 x4.toNat fun x7=>if (x7==(i64.wrap (c1.2.2.2.2.1-1)))=true then rec (x4,(i64.wrap (v1.2+1))) else rec (v1.1,(i64.wrap (v1.2+1))) else none else none else rec (v1.1,(i64.wrap (v1.2+1))) else rec (v1.1,(i64.wrap (v1.2+1))) else rec (v1.1,(i64.wrap (v1.2+1))) else none else none else X0 v1
noncomputable def LiNextTo_1 {R:Type} (k:Nat) (X0:ViNextTo_1->Option R) (c:CiNextTo_1):Nat->ViNextTo_1->Option R
 | 0,_=>none
 | n+1,v=>BiNextTo_1 k X0 c (LiNextTo_1 k X0 c n) v
noncomputable def fiNextTo_1 {R:Type} (k:Nat) (K:Ex->St->Option R) (c:CiNextTo_1):=lpf E k 366 Tryz.f366 1 [0,0,1,2,3,9,10,12,13,22,23,24,31,32,33] (StiNextTo_1 c) K
theorem qiNextTo_1 (k:Nat) (K:Ex->St->Option R) (X0 c) (h:QL (fiNextTo_1 k K c) (BiNextTo_1 k X0 c)) (v):LiNextTo_1 k X0 c k v=fiNextTo_1 k K c k v:=lq h (fun _ _=>rfl) (fun _=>rfl) (fun _=>rfl) k v
abbrev CiNextTo_0:=(List I2)×Int×Int×Int×Int×(List Int)
abbrev ViNextTo_0:=Int×(List Int)
def StiNextTo_0:CiNextTo_0->ViNextTo_0->St
 | (a,b,d,e,f,g),(h,j)=>⟨75,2,[(0,.c (.l 288 sI2 a)),(1,cI b),(2,cI d),(3,cI e),(9,.c (.ref 0)),(10,.c (.ref 1)),(22,.c (.ref 1)),(23,cI f),(24,cI h)],[(0,.arr 3 (.i .i64) j),(1,.arr 3 (.i .i64) g)]⟩
noncomputable def BiNextTo_0 {R:Type} (k:Nat) (X0:ViNextTo_0->Option R) (c0:CiNextTo_0) (rec:ViNextTo_0->Option R) (v0:ViNextTo_0):Option R:=if (decide (v0.1<c0.2.2.2.2.1))=true then if 0<=v0.1 then if v0.1<(c0.2.2.2.2.2.length:Int) then ix c0.2.2.2.2.2 v0.1.toNat fun x2=>(FiNeighborsIn k c0.1 v0.1).bind fun p3=>LiNextTo_1 k (fun v1=>if (v0.2.length+([v1.1]).length)*8<=140737488355328 then rec ((i64.wrap (v0.1+1)),(v0.2++[v1.1])) else none) (c0.1,c0.2.1,c0.2.2.1,c0.2.2.2.1,x2,c0.2.2.2.2.1,v0.1,(p3.length:Int),v0.2,c0.2.2.2.2.2,p3) k (-1,0) else none else none else X0 v0
noncomputable def LiNextTo_0 {R:Type} (k:Nat) (X0:ViNextTo_0->Option R) (c:CiNextTo_0):Nat->ViNextTo_0->Option R
 | 0,_=>none
 | n+1,v=>BiNextTo_0 k X0 c (LiNextTo_0 k X0 c n) v
noncomputable def fiNextTo_0 {R:Type} (k:Nat) (K:Ex->St->Option R) (c:CiNextTo_0):=lpf E k 366 Tryz.f366 0 [0,0,1,2,3,9,10,22,23,24] (StiNextTo_0 c) K
theorem qiNextTo_0 (k:Nat) (K:Ex->St->Option R) (X0 c) (h:QL (fiNextTo_0 k K c) (BiNextTo_0 k X0 c)) (v):LiNextTo_0 k X0 c k v=fiNextTo_0 k K c k v:=lq h (fun _ _=>rfl) (fun _=>rfl) (fun _=>rfl) k v
noncomputable def NiNextTo:Ex->St->Option (List Int):=finish E (rs 366) Tryz.f366
theorem eiNextTo (k:Nat) (a0 a1 a2 a3):FiNextTo (k+1) a0 a1 a2 a3=(FiDistancesTo k a0 a1 a2 a3).bind fun p1=>LiNextTo_0 k (fun v0=>some v0.2) (a0,a1,a2,a3,(p1.length:Int),p1) k (0,[]):=by
 simp (maxSteps:=9999999) (disch:=(refine QL.mk fun n0 v=> ?_;unfold BiNextTo_0;simp (maxSteps:=9999999) (disch:=(refine QL.mk fun n1 v=> ?_;kernel_rfl)) only [↓qiNextTo_1 (R:=List Int) k (kon1 E k 366 Tryz.f366 0 1 n0 [0,0,1,2,3,9,10,22,23,24] (kon0 E k 366 Tryz.f366 0 NiNextTo))];kernel_rfl)) only [↓qiNextTo_0 (R:=List Int) k (kon0 E k 366 Tryz.f366 0 NiNextTo)]
 kernel_rfl
noncomputable def FiTableOf (k:Nat) (a0:List I2) (a1:Int) (a2:Int) (a3:Int):Option (Int×(List Int)×List Int):=den E k 289 [.c (.l 288 sI2 a0),cI a1,cI a2,cI a3]
theorem eiTableOf (k:Nat) (a0 a1 a2 a3):FiTableOf (k+1) a0 a1 a2 a3=(FiDistancesTo k a0 a1 a2 a3).bind fun p1=>(FiNextTo k a0 a1 a2 a3).bind fun p2=>some (a3,p1,p2):=by kernel_rfl
noncomputable def FitablesOf (k:Nat) (a0:List I2) (a1:Int) (a2:Int):Option (List (Int×(List Int)×List Int)):=den E k 176 [.c (.l 288 sI2 a0),cI a1,cI a2]
abbrev CitablesOf_0:=(List I2)×Int×Int×Int
abbrev VitablesOf_0:=Int×(List (Int×(List Int)×List Int))
def StitablesOf_0:CitablesOf_0->VitablesOf_0->St
 | (a,b,d,e),(f,g)=>⟨24,1,[(0,.c (.l 288 sI2 a)),(1,cI b),(2,cI d),(7,.c (.ref 0)),(10,cI e),(11,cI f)],[(0,.arr 290 sTable g)]⟩
noncomputable def BitablesOf_0 {R:Type} (k:Nat) (X0:VitablesOf_0->Option R) (c0:CitablesOf_0) (rec:VitablesOf_0->Option R) (v0:VitablesOf_0):Option R:=if (decide (v0.1<c0.2.2.2))=true then (FiTableOf k c0.1 c0.2.1 c0.2.2.1 v0.1).bind fun p1=>if (v0.2.length+([p1]).length)*56<=140737488355328 then rec ((i64.wrap (v0.1+1)),(v0.2++[p1])) else none else X0 v0
noncomputable def LitablesOf_0 {R:Type} (k:Nat) (X0:VitablesOf_0->Option R) (c:CitablesOf_0):Nat->VitablesOf_0->Option R
 | 0,_=>none
 | n+1,v=>BitablesOf_0 k X0 c (LitablesOf_0 k X0 c n) v
noncomputable def fitablesOf_0 {R:Type} (k:Nat) (K:Ex->St->Option R) (c:CitablesOf_0):=lpf E k 176 Tryz.f176 0 [0,0,1,2,7,10,11] (StitablesOf_0 c) K
theorem qitablesOf_0 (k:Nat) (K:Ex->St->Option R) (X0 c) (h:QL (fitablesOf_0 k K c) (BitablesOf_0 k X0 c)) (v):LitablesOf_0 k X0 c k v=fitablesOf_0 k K c k v:=lq h (fun _ _=>rfl) (fun _=>rfl) (fun _=>rfl) k v
noncomputable def NitablesOf:Ex->St->Option (List (Int×(List Int)×List Int)):=finish E (rs 176) Tryz.f176
theorem eitablesOf (k:Nat) (a0 a1 a2):FitablesOf (k+1) a0 a1 a2=LitablesOf_0 k (fun v0=>some v0.2) (a0,a1,a2,a1) k (0,[]):=by
 simp (disch:=(refine QL.mk fun n0 v=> ?_;kernel_rfl)) only [↓qitablesOf_0 k (kon0 E k 176 Tryz.f176 0 NitablesOf)]
 kernel_rfl
noncomputable def FiIsProgram (k:Nat) (a0:TProgram):Option (Bool):=den E k 224 [.agg (avs sProgram a0)]
abbrev CiIsProgram_0:=(List TPiece)×Int×TProgram
abbrev ViIsProgram_0:=Int
def StiIsProgram_0:CiIsProgram_0->ViIsProgram_0->St
 | (a,b,d),e=>⟨64,1,[(1,cP 0),(21,.c (.l 198 sPiece a)),(22,cI b),(23,cI e)],[(0,.var (avs sProgram d))]⟩
noncomputable def BiIsProgram_0 {R:Type} (k:Nat) (X0:ViIsProgram_0->TPiece->Bool->TPiece->(List (Int×(List Int)×List Int))->Bool->Option R) (X1:ViIsProgram_0->TPiece->Bool->TPiece->Option R) (X2:ViIsProgram_0->TPiece->Bool->(List (Int×(List Int)×List Int))->Bool->Option R) (X3:ViIsProgram_0->TPiece->Bool->Option R) (X4:ViIsProgram_0->Option R) (c0:CiIsProgram_0) (rec:ViIsProgram_0->Option R) (v0:ViIsProgram_0):Option R:=if (decide (v0<c0.2.1))=true then if 0<=v0 then ix c0.1 v0.toNat fun x3=>(FiIsSpan k x3.1).bind fun p4=>if ((!p4)==false)=true then if ((decide (v0>0))==true)=true then if 0<=(i64.wrap (v0-1)) then ix c0.2.2.2.2.2 ((i64.wrap (v0-1)).toNat) fun x5=>if ((x3.1.1 !=x5.1.2)==false)=true then (FitablesOf k x3.2.1 c0.2.2.1 c0.2.2.2.1).bind fun p6=>(FgEqualFunc_Tablev_iEqualTables k x3.2.2 p6).bind fun p7=>if (!p7)=true then X0 v0 x3 p4 x5 p6 p7 else rec (i64.wrap (v0+1)) else X1 v0 x3 p4 x5 else none else (FitablesOf k x3.2.1 c0.2.2.1 c0.2.2.2.1).bind fun p8=>(FgEqualFunc_Tablev_iEqualTables k x3.2.2 p8).bind fun p9=>if (!p9)=true then X2 v0 x3 p4 p8 p9 else rec (i64.wrap (v0+1)) else X3 v0 x3 p4 else none else X4 v0
noncomputable def LiIsProgram_0 {R:Type} (k:Nat) (X0:ViIsProgram_0->TPiece->Bool->TPiece->(List (Int×(List Int)×List Int))->Bool->Option R) (X1:ViIsProgram_0->TPiece->Bool->TPiece->Option R) (X2:ViIsProgram_0->TPiece->Bool->(List (Int×(List Int)×List Int))->Bool->Option R) (X3:ViIsProgram_0->TPiece->Bool->Option R) (X4:ViIsProgram_0->Option R) (c:CiIsProgram_0):Nat->ViIsProgram_0->Option R
 | 0,_=>none
 | n+1,v=>BiIsProgram_0 k X0 X1 X2 X3 X4 c (LiIsProgram_0 k X0 X1 X2 X3 X4 c n) v
noncomputable def fiIsProgram_0 {R:Type} (k:Nat) (K:Ex->St->Option R) (c:CiIsProgram_0):=lpf E k 224 Tryz.f224 0 [0,1,21,22,23] (StiIsProgram_0 c) K
theorem qiIsProgram_0 (k:Nat) (K:Ex->St->Option R) (X0 X1 X2 X3 X4 c) (h:QL (fiIsProgram_0 k K c) (BiIsProgram_0 k X0 X1 X2 X3 X4 c)) (v):LiIsProgram_0 k X0 X1 X2 X3 X4 c k v=fiIsProgram_0 k K c k v:=lq h (fun _ _=>rfl) (fun _=>rfl) (fun _=>rfl) k v
noncomputable def NiIsProgram:Ex->St->Option (Bool):=finish E (rs 224) Tryz.f224
theorem eiIsProgram (k:Nat) (a0):FiIsProgram (k+1) a0=(FiisFrame k a0.1 a0.2.1 a0.2.2.1).bind fun p1=>if ((!p1)==false)=true then (FiInRange k (a0.2.2.2.length:Int) 1 40).bind fun p2=>if (!p2)=true then some false else LiIsProgram_0 k (fun (v0:Int) x3 p4 x5 p6 p7=>some false) (fun (v0:Int) x3 p4 x5=>some false) (fun (v0:Int) x3 p4 p8 p9=>some false) (fun (v0:Int) x3 p4=>some false) (fun (v0:Int)=>some true) (a0.2.2.2,(a0.2.2.2.length:Int),a0) k 0 else some false:=by
 simp (disch:=(refine QL.mk fun n0 v=> ?_;kernel_rfl)) only [↓qiIsProgram_0 k (kon0 E k 224 Tryz.f224 0 NiIsProgram)]
 kernel_rfl
noncomputable def FiIsSat (k:Nat) (a0:I4) (a1:Int):Option (Bool):=den E k 170 [.agg (avs sI4 a0),cI a1]
theorem eiIsSat (k:Nat) (a0 a1):FiIsSat (k+1) a0 a1=if ((decide (a0.1>=0))==true)=true then if ((decide (a0.1<a1))==true)=true then (FiInRange k a0.2.1 0 359).bind fun p1=>if (p1==true)=true then (FiInRange k a0.2.2.1 (-60) 60).bind fun p2=>if (p2==true)=true then (FiInRange k a0.2.2.2 0 20).bind fun p3=>some p3 else some false else some false else some false else some false:=by kernel_rfl
noncomputable def FiIsSky (k:Nat) (a0:TSky):Option (Bool):=den E k 59 [.agg (avs sSky a0)]
abbrev CiIsSky_3:=(List I4)×Int×Int×(List I3)×Int×Int×(List I3)×Int×Int×Int×TSky×(List Int)
abbrev ViIsSky_3:=Int
def StiIsSky_3:CiIsSky_3->ViIsSky_3->St
 | (a,b,d,e,f,g,h,j,k,m,n,o),p=>⟨122,2,[(1,cP 0),(35,.c (.l 181 sI4 a)),(36,cI b),(37,cI d),(48,.c (.l 183 sI3 e)),(49,cI f),(50,cI g),(75,.c (.l 188 sZone h)),(76,cI j),(77,cI k),(104,.c (.ref 1)),(105,cI m),(106,cI p)],[(0,.var (avs sSky n)),(1,.arr 3 (.i .i64) o)]⟩
noncomputable def BiIsSky_3 {R:Type} (k:Nat) (X0:ViIsSky_3->Int->Bool->Option R) (X1:ViIsSky_3->Option R) (c3:CiIsSky_3) (rec:ViIsSky_3->Option R) (v3:ViIsSky_3):Option R:=if (decide (v3<c3.2.2.2.2.2.2.2.2.2.1))=true then if 0<=v3 then if v3<(c3.2.2.2.2.2.2.2.2.2.2.2.length:Int) then ix c3.2.2.2.2.2.2.2.2.2.2.2 v3.toNat fun x12=>(FiInRange k x12 0 180).bind fun p13=>if (!p13)=true then X0 v3 x12 p13 else rec (i64.wrap (v3+1)) else none else none else X1 v3
noncomputable def LiIsSky_3 {R:Type} (k:Nat) (X0:ViIsSky_3->Int->Bool->Option R) (X1:ViIsSky_3->Option R) (c:CiIsSky_3):Nat->ViIsSky_3->Option R
 | 0,_=>none
 | n+1,v=>BiIsSky_3 k X0 X1 c (LiIsSky_3 k X0 X1 c n) v
noncomputable def fiIsSky_3 {R:Type} (k:Nat) (K:Ex->St->Option R) (c:CiIsSky_3):=lpf E k 59 Tryz.f59 3 [0,1,35,36,37,48,49,50,75,76,77,104,105,106] (StiIsSky_3 c) K
theorem qiIsSky_3 (k:Nat) (K:Ex->St->Option R) (X0 X1 c) (h:QL (fiIsSky_3 k K c) (BiIsSky_3 k X0 X1 c)) (v):LiIsSky_3 k X0 X1 c k v=fiIsSky_3 k K c k v:=lq h (fun _ _=>rfl) (fun _=>rfl) (fun _=>rfl) k v
abbrev CiIsSky_2:=(List I4)×Int×Int×(List I3)×Int×Int×(List I3)×Int×TSky
abbrev ViIsSky_2:=Int
def StiIsSky_2:CiIsSky_2->ViIsSky_2->St
 | (a,b,d,e,f,g,h,i,j),k=>⟨122,1,[(1,cP 0),(35,.c (.l 181 sI4 a)),(36,cI b),(37,cI d),(48,.c (.l 183 sI3 e)),(49,cI f),(50,cI g),(75,.c (.l 188 sZone h)),(76,cI i),(77,cI k)],[(0,.var (avs sSky j))]⟩
noncomputable def BiIsSky_2 {R:Type} (k:Nat) (X0:ViIsSky_2->I3->Bool->Bool->Option R) (X1:ViIsSky_2->I3->Bool->Option R) (X2:ViIsSky_2->Option R) (c2:CiIsSky_2) (rec:ViIsSky_2->Option R) (v2:ViIsSky_2):Option R:=if (decide (v2<c2.2.2.2.2.2.2.2.1))=true then if 0<=v2 then ix c2.2.2.2.2.2.2.1 v2.toNat fun x9=>(FiInRange k x9.1 0 (i64.wrap (c2.2.2.2.2.2.2.2.2.1-1))).bind fun p10=>if ((!p10)==false)=true then (FiisWidth k x9.2.2).bind fun p11=>if (!p11)=true then X0 v2 x9 p10 p11 else rec (i64.wrap (v2+1)) else X1 v2 x9 p10 else none else X2 v2
noncomputable def LiIsSky_2 {R:Type} (k:Nat) (X0:ViIsSky_2->I3->Bool->Bool->Option R) (X1:ViIsSky_2->I3->Bool->Option R) (X2:ViIsSky_2->Option R) (c:CiIsSky_2):Nat->ViIsSky_2->Option R
 | 0,_=>none
 | n+1,v=>BiIsSky_2 k X0 X1 X2 c (LiIsSky_2 k X0 X1 X2 c n) v
noncomputable def fiIsSky_2 {R:Type} (k:Nat) (K:Ex->St->Option R) (c:CiIsSky_2):=lpf E k 59 Tryz.f59 2 [0,1,35,36,37,48,49,50,75,76,77] (StiIsSky_2 c) K
theorem qiIsSky_2 (k:Nat) (K:Ex->St->Option R) (X0 X1 X2 c) (h:QL (fiIsSky_2 k K c) (BiIsSky_2 k X0 X1 X2 c)) (v):LiIsSky_2 k X0 X1 X2 c k v=fiIsSky_2 k K c k v:=lq h (fun _ _=>rfl) (fun _=>rfl) (fun _=>rfl) k v
abbrev CiIsSky_1:=(List I4)×Int×Int×(List I3)×Int×TSky
abbrev ViIsSky_1:=Int
def StiIsSky_1:CiIsSky_1->ViIsSky_1->St
 | (a,b,d,e,f,g),h=>⟨122,1,[(1,cP 0),(35,.c (.l 181 sI4 a)),(36,cI b),(37,cI d),(48,.c (.l 183 sI3 e)),(49,cI f),(50,cI h)],[(0,.var (avs sSky g))]⟩
noncomputable def BiIsSky_1 {R:Type} (k:Nat) (X0:ViIsSky_1->I3->Bool->Bool->Bool->Option R) (X1:ViIsSky_1->I3->Bool->Bool->Option R) (X2:ViIsSky_1->I3->Bool->Option R) (X3:ViIsSky_1->Option R) (c1:CiIsSky_1) (rec:ViIsSky_1->Option R) (v1:ViIsSky_1):Option R:=if (decide (v1<c1.2.2.2.2.1))=true then if 0<=v1 then ix c1.2.2.2.1 v1.toNat fun x5=>(FiInRange k x5.1 0 (i64.wrap (c1.2.2.2.2.2.1-1))).bind fun p6=>if ((!p6)==false)=true then (FiInRange k x5.2.1 0 359).bind fun p7=>if ((!p7)==false)=true then (FiInRange k x5.2.2 (-60) 60).bind fun p8=>if (!p8)=true then X0 v1 x5 p6 p7 p8 else rec (i64.wrap (v1+1)) else X1 v1 x5 p6 p7 else X2 v1 x5 p6 else none else X3 v1
noncomputable def LiIsSky_1 {R:Type} (k:Nat) (X0:ViIsSky_1->I3->Bool->Bool->Bool->Option R) (X1:ViIsSky_1->I3->Bool->Bool->Option R) (X2:ViIsSky_1->I3->Bool->Option R) (X3:ViIsSky_1->Option R) (c:CiIsSky_1):Nat->ViIsSky_1->Option R
 | 0,_=>none
 | n+1,v=>BiIsSky_1 k X0 X1 X2 X3 c (LiIsSky_1 k X0 X1 X2 X3 c n) v
noncomputable def fiIsSky_1 {R:Type} (k:Nat) (K:Ex->St->Option R) (c:CiIsSky_1):=lpf E k 59 Tryz.f59 1 [0,1,35,36,37,48,49,50] (StiIsSky_1 c) K
theorem qiIsSky_1 (k:Nat) (K:Ex->St->Option R) (X0 X1 X2 X3 c) (h:QL (fiIsSky_1 k K c) (BiIsSky_1 k X0 X1 X2 X3 c)) (v):LiIsSky_1 k X0 X1 X2 X3 c k v=fiIsSky_1 k K c k v:=lq h (fun _ _=>rfl) (fun _=>rfl) (fun _=>rfl) k v
abbrev CiIsSky_0:=(List I4)×Int×TSky
abbrev ViIsSky_0:=Int
def StiIsSky_0:CiIsSky_0->ViIsSky_0->St
 | (a,b,d),e=>⟨122,1,[(1,cP 0),(35,.c (.l 181 sI4 a)),(36,cI b),(37,cI e)],[(0,.var (avs sSky d))]⟩
noncomputable def BiIsSky_0 {R:Type} (k:Nat) (X0:ViIsSky_0->I4->Bool->Option R) (X1:ViIsSky_0->Option R) (c0:CiIsSky_0) (rec:ViIsSky_0->Option R) (v0:ViIsSky_0):Option R:=if (decide (v0<c0.2.1))=true then if 0<=v0 then ix c0.1 v0.toNat fun x3=>(FiIsSat k x3 c0.2.2.1).bind fun p4=>if (!p4)=true then X0 v0 x3 p4 else rec (i64.wrap (v0+1)) else none else X1 v0
noncomputable def LiIsSky_0 {R:Type} (k:Nat) (X0:ViIsSky_0->I4->Bool->Option R) (X1:ViIsSky_0->Option R) (c:CiIsSky_0):Nat->ViIsSky_0->Option R
 | 0,_=>none
 | n+1,v=>BiIsSky_0 k X0 X1 c (LiIsSky_0 k X0 X1 c n) v
noncomputable def fiIsSky_0 {R:Type} (k:Nat) (K:Ex->St->Option R) (c:CiIsSky_0):=lpf E k 59 Tryz.f59 0 [0,1,35,36,37] (StiIsSky_0 c) K
theorem qiIsSky_0 (k:Nat) (K:Ex->St->Option R) (X0 X1 c) (h:QL (fiIsSky_0 k K c) (BiIsSky_0 k X0 X1 c)) (v):LiIsSky_0 k X0 X1 c k v=fiIsSky_0 k K c k v:=lq h (fun _ _=>rfl) (fun _=>rfl) (fun _=>rfl) k v
noncomputable def NiIsSky:Ex->St->Option (Bool):=finish E (rs 59) Tryz.f59
theorem eiIsSky (k:Nat) (a0):FiIsSky (k+1) a0=(FiInRange k a0.1 1 4).bind fun p1=>if ((!p1)==false)=true then (FiInRange k (a0.2.1.length:Int) 1 8).bind fun p2=>if ((!p2)==false)=true then if ((decide ((a0.2.2.1.length:Int)>4))==false)=true then if (decide ((a0.2.2.2.2.2.2.2.2.1.length:Int)>4))=true then some false else LiIsSky_0 k (fun (v0:Int) x3 p4=>some false) (fun (v0:Int)=>LiIsSky_1 k (fun (v1:Int) x5 p6 p7 p8=>some false) (fun (v1:Int) x5 p6 p7=>some false) (fun (v1:Int) x5 p6=>some false) (fun (v1:Int)=>LiIsSky_2 k (fun (v2:Int) x9 p10 p11=>some false) (fun (v2:Int) x9 p10=>some false) (fun (v2:Int)=>LiIsSky_3 k (fun (v3:Int) (x12:Int) p13=>some false) (fun (v3:Int)=>(FiInRange k a0.2.2.2.2.2.2.1 (-60) 60).bind fun p14=>if (p14==true)=true then (FiInRange k a0.2.2.2.2.2.2.2.2.2 0 20).bind fun p15=>some p15 else some false) (a0.2.1,(a0.2.1.length:Int),v0,a0.2.2.1,(a0.2.2.1.length:Int),v1,a0.2.2.2.2.2.2.2.2.1,(a0.2.2.2.2.2.2.2.2.1.length:Int),v2,(([a0.2.2.2.1,a0.2.2.2.2.1,a0.2.2.2.2.2.1,a0.2.2.2.2.2.2.2.1]).length:Int),a0,[a0.2.2.2.1,a0.2.2.2.2.1,a0.2.2.2.2.2.1,a0.2.2.2.2.2.2.2.1]) k 0) (a0.2.1,(a0.2.1.length:Int),v0,a0.2.2.1,(a0.2.2.1.length:Int),v1,a0.2.2.2.2.2.2.2.2.1,(a0.2.2.2.2.2.2.2.2.1.length:Int),a0) k 0) (a0.2.1,(a0.2.1.length:Int),v0,a0.2.2.1,(a0.2.2.1.length:Int),a0) k 0) (a0.2.1,(a0.2.1.length:Int),a0) k 0 else some false else some false else some false:=by
 simp (maxSteps:=9999999) (disch:=(refine QL.mk fun n0 v=> ?_;unfold BiIsSky_0;simp (maxSteps:=9999999) (disch:=(refine QL.mk fun n1 v=> ?_;unfold BiIsSky_1;simp (maxSteps:=9999999) (disch:=(refine QL.mk fun n2 v=> ?_;unfold BiIsSky_2;simp (maxSteps:=9999999) (disch:=(refine QL.mk fun n3 v=> ?_;kernel_rfl)) only [↓qiIsSky_3 (R:=Bool) k (kon0 E k 59 Tryz.f59 3 NiIsSky)];kernel_rfl)) only [↓qiIsSky_2 (R:=Bool) k (kon0 E k 59 Tryz.f59 2 NiIsSky)];kernel_rfl)) only [↓qiIsSky_1 (R:=Bool) k (kon0 E k 59 Tryz.f59 1 NiIsSky)];kernel_rfl)) only [↓qiIsSky_0 (R:=Bool) k (kon0 E k 59 Tryz.f59 0 NiIsSky)]
 kernel_rfl
noncomputable def FiIsBattery (k:Nat) (a0:I6):Option (Bool):=den E k 181 [.agg (avs sI6 a0)]
theorem eiIsBattery (k:Nat) (a0):FiIsBattery (k+1) a0=(FiInRange k a0.2.2.2.1 0 100).bind fun p1=>if (p1==true)=true then (FiInRange k a0.2.2.2.2.1 0 100).bind fun p2=>if (p2==true)=true then (FiInRange k a0.2.2.2.2.2 0 100).bind fun p3=>if (p3==true)=true then (FiInRange k a0.2.1 0 10000).bind fun p4=>if (p4==true)=true then (FiInRange k a0.2.2.1 0 a0.2.1).bind fun p5=>if (p5==true)=true then (FiInRange k a0.1 a0.2.2.1 a0.2.1).bind fun p6=>some p6 else some false else some false else some false else some false else some false:=by kernel_rfl
noncomputable def FiGapOf (k:Nat) (a0:Int) (a1:Int):Option (Int):=den E k 295 [cI a0,cI a1]
theorem eiGapOf (k:Nat) (a0 a1):FiGapOf (k+1) a0 a1=(FiAngleOf k a0).bind fun p1=>(FiAngleOf k a1).bind fun p2=>(FiAngleOf k (i64.wrap (p1-p2))).bind fun p3=>some (mn p3 (i64.wrap (360-p3))):=by kernel_rfl
noncomputable def FiMiddleOf (k:Nat) (a0:I2):Option (Int):=den E k 296 [.agg [vI a0.1,vI a0.2]]
theorem eiMiddleOf (k:Nat) (a0):FiMiddleOf (k+1) a0=(FiisWidth k a0.2).bind fun p1=>if (!p1)=true then (FiAngleOf k a0.1).bind fun p2=>some p2 else (FiAngleOf k a0.1).bind fun p3=>(FiAngleOf k (i64.wrap (p3+(i64.wrap ((a0.2).tdiv 2))))).bind fun p4=>some p4:=by kernel_rfl
noncomputable def FiSunAt (k:Nat) (a0:TSky) (a1:Int):Option (Int):=den E k 297 [.agg (avs sSky a0),cI a1]
theorem eiSunAt (k:Nat) (a0 a1):FiSunAt (k+1) a0 a1=(FiPlaceAt k (0,0,a0.2.2.2.2.2.2.1,0) a1).bind fun p1=>some p1:=by kernel_rfl
noncomputable def FiShadowAt (k:Nat) (a0:TSky) (a1:Int) (a2:Int):Option (Int):=den E k 185 [.agg (avs sSky a0),cI a1,cI a2]
theorem eiShadowAt (k:Nat) (a0 a1 a2):FiShadowAt (k+1) a0 a1 a2=(FiisSatellite k a0 a1).bind fun p1=>if (!p1)=true then some 0 else (FiNodeAt k a0 a1 a2).bind fun p2=>(FiMiddleOf k p2).bind fun p3=>(FiSunAt k a0 a2).bind fun p4=>(FiGapOf k p3 (i64.wrap (p4+180))).bind fun p5=>if (decide ((i64.wrap (p5-(i64.wrap ((p2.2).tdiv 2))))>a0.2.2.2.2.2.2.2.1))=true then some 0 else if (decide ((i64.wrap (p5+(i64.wrap ((p2.2).tdiv 2))))<=a0.2.2.2.2.2.2.2.1))=true then some 2 else some 1:=by kernel_rfl
noncomputable def FiLitSpans_1v (k:Nat) (a0:Int) (a1:Int) (a2:List I4) (a3:List I3) (a4:Int) (a5:Int) (a6:Int) (a7:Int) (a8:Int) (a9:List I3) (a10:Int) (a11:Int):Option (Bool):=den E k 184 [cI a0,.c (.at_ [vI a1,.l 181 sI4 a2,.l 183 sI3 a3,vI a4,vI a5,vI a6,vI a7,vI a8,.l 188 sZone a9,vI a10]),.c (.at_ [vI a11])]
theorem eiLitSpans_1v (k:Nat) (a0 a1 a2 a3 a4 a5 a6 a7 a8 a9 a10 a11):FiLitSpans_1v (k+1) a0 a1 a2 a3 a4 a5 a6 a7 a8 a9 a10 a11=(FiShadowAt k (a1,a2,a3,a4,a5,a6,a7,a8,a9,a10) a11 a0).bind fun p1=>some (p1==0):=by kernel_rfl
noncomputable def FispansWherev_iLitSpans_1 (k:Nat) (a0:Int) (a1:Int) (a2:Int) (a3:List I4) (a4:List I3) (a5:Int) (a6:Int) (a7:Int) (a8:Int) (a9:Int) (a10:List I3) (a11:Int) (a12:Int):Option (List I2):=den E k 183 [cI a0,cI a1,.c (.clo 184 [.at_ [vI a2,.l 181 sI4 a3,.l 183 sI3 a4,vI a5,vI a6,vI a7,vI a8,vI a9,.l 188 sZone a10,vI a11],.at_ [vI a12]])]
abbrev CispansWherev_iLitSpans_1_0:=Int×Int×(List I4)×(List I3)×Int×Int×Int×Int×Int×(List I3)×Int×Int
abbrev VispansWherev_iLitSpans_1_0:=Int×(List I2)
def StispansWherev_iLitSpans_1_0:CispansWherev_iLitSpans_1_0->VispansWherev_iLitSpans_1_0->St
 | (a,b,d,e,f,g,h,i,j,k,m,n),(o,p)=>⟨53,1,[(1,cI a),(2,.c (.clo 184 [.at_ [vI b,.l 181 sI4 d,.l 183 sI3 e,vI f,vI g,vI h,vI i,vI j,.l 188 sZone k,vI m],.at_ [vI n]])),(7,.c (.ref 0)),(8,cI o)],[(0,.arr 194 sI2 p)]⟩
noncomputable def BispansWherev_iLitSpans_1_0 {R:Type} (k:Nat) (X0:VispansWherev_iLitSpans_1_0->Option R) (c0:CispansWherev_iLitSpans_1_0) (rec:VispansWherev_iLitSpans_1_0->Option R) (v0:VispansWherev_iLitSpans_1_0):Option R:=if (decide (v0.1<(mn c0.1 1000)))=true then (FiLitSpans_1v k v0.1 c0.2.1 c0.2.2.1 c0.2.2.2.1 c0.2.2.2.2.1 c0.2.2.2.2.2.1 c0.2.2.2.2.2.2.1 c0.2.2.2.2.2.2.2.1 c0.2.2.2.2.2.2.2.2.1 c0.2.2.2.2.2.2.2.2.2.1 c0.2.2.2.2.2.2.2.2.2.2.1 c0.2.2.2.2.2.2.2.2.2.2.2).bind fun p1=>if (!p1)=true then rec ((i64.wrap (v0.1+1)),v0.2) else if ((decide ((i64.wrap ((v0.2.length:Int)-1))>=0))==true)=true then if 0<=(i64.wrap ((v0.2.length:Int)-1)) then if (i64.wrap ((v0.2.length:Int)-1))<(v0.2.length:Int) then ix v0.2 ((i64.wrap ((v0.2.length:Int)-1)).toNat) fun x2=>if (x2.2==v0.1)=true then if 0<=(i64.wrap ((v0.2.length:Int)-1)) then if (i64.wrap ((v0.2.length:Int)-1))<(v0.2.length:Int) then ix v0.2 ((i64.wrap ((v0.2.length:Int)-1)).toNat) fun x3=>if 0<=(i64.wrap ((v0.2.length:Int)-1)) then if (i64.wrap ((v0.2.length:Int)-1))<(v0.2.length:Int) then ix v0.2 ((i64.wrap ((v0.2.length:Int)-1)).toNat) fun y4=>rec ((i64.wrap (v0.1+1)),(v0.2.set ((i64.wrap ((v0.2.length:Int)-1)).toNat) (y4.1,(i64.wrap (x3.2+1))))) else none else none else none else none else if (v0.2.length+([(v0.1,(i64.wrap (v0.1+1)))]).length)*16<=140737488355328 then rec ((i64.wrap (v0.1+1)),(v0.2++[(v0.1,(i64.wrap (v0.1+1)))])) else none else none else none else if (v0.2.length+([(v0.1,(i64.wrap (v0.1+1)))]).length)*16<=140737488355328 then rec ((i64.wrap (v0.1+1)),(v0.2++[(v0.1,(i64.wrap (v0.1+1)))])) else none else X0 v0
noncomputable def LispansWherev_iLitSpans_1_0 {R:Type} (k:Nat) (X0:VispansWherev_iLitSpans_1_0->Option R) (c:CispansWherev_iLitSpans_1_0):Nat->VispansWherev_iLitSpans_1_0->Option R
 | 0,_=>none
 | n+1,v=>BispansWherev_iLitSpans_1_0 k X0 c (LispansWherev_iLitSpans_1_0 k X0 c n) v
noncomputable def fispansWherev_iLitSpans_1_0 {R:Type} (k:Nat) (K:Ex->St->Option R) (c:CispansWherev_iLitSpans_1_0):=lpf E k 183 Tryz.f183 0 [0,1,2,7,8] (StispansWherev_iLitSpans_1_0 c) K
theorem qispansWherev_iLitSpans_1_0 (k:Nat) (K:Ex->St->Option R) (X0 c) (h:QL (fispansWherev_iLitSpans_1_0 k K c) (BispansWherev_iLitSpans_1_0 k X0 c)) (v):LispansWherev_iLitSpans_1_0 k X0 c k v=fispansWherev_iLitSpans_1_0 k K c k v:=lq h (fun _ _=>rfl) (fun _=>rfl) (fun _=>rfl) k v
noncomputable def NispansWherev_iLitSpans_1:Ex->St->Option (List I2):=finish E (rs 183) Tryz.f183
theorem eispansWherev_iLitSpans_1 (k:Nat) (a0 a1 a2 a3 a4 a5 a6 a7 a8 a9 a10 a11 a12):FispansWherev_iLitSpans_1 (k+1) a0 a1 a2 a3 a4 a5 a6 a7 a8 a9 a10 a11 a12=LispansWherev_iLitSpans_1_0 k (fun v0=>some v0.2) (a1,a2,a3,a4,a5,a6,a7,a8,a9,a10,a11,a12) k ((mx a0 0),[]):=by
 simp (disch:=(refine QL.mk fun n0 v=> ?_;kernel_rfl)) only [↓qispansWherev_iLitSpans_1_0 k (kon0 E k 183 Tryz.f183 0 NispansWherev_iLitSpans_1)]
 kernel_rfl
noncomputable def FiLitSpans (k:Nat) (a0:TSky) (a1:Int) (a2:Int) (a3:Int):Option (List I2):=den E k 69 [.agg (avs sSky a0),cI a1,cI a2,cI a3]
theorem eiLitSpans (k:Nat) (a0 a1 a2 a3):FiLitSpans (k+1) a0 a1 a2 a3=(FispansWherev_iLitSpans_1 k a2 a3 a0.1 a0.2.1 a0.2.2.1 a0.2.2.2.1 a0.2.2.2.2.1 a0.2.2.2.2.2.1 a0.2.2.2.2.2.2.1 a0.2.2.2.2.2.2.2.1 a0.2.2.2.2.2.2.2.2.1 a0.2.2.2.2.2.2.2.2.2 a1).bind fun p1=>some p1:=by kernel_rfl
noncomputable def FiLitOf (k:Nat) (a0:TWorld) (a1:Int):Option (List I2):=den E k 142 [.agg (avs sWorld a0),cI a1]
theorem eiLitOf (k:Nat) (a0 a1):FiLitOf (k+1) a0 a1=(FiLitSpans k a0.1 a1 0 a0.2.2.2.2.2.2.2.2.2.2.2.1).bind fun p1=>some p1:=by kernel_rfl
noncomputable def Fiticks (k:Nat) (a0:List I2):Option (List Bool):=den E k 292 [.c (.l 194 sI2 a0)]
abbrev Citicks_1:=(List I2)×Int×Int×I2
abbrev Viticks_1:=Int×(List Bool)
def Stiticks_1:Citicks_1->Viticks_1->St
 | (a,d,e,f),(g,h)=>⟨29,2,[(3,.c (.ref 0)),(5,cP 1),(6,cI g),(8,.c (.l 194 sI2 a)),(9,cI d),(10,cI e)],[(0,.arr 4 .b h),(1,.var [vI f.1,vI f.2])]⟩
noncomputable def Biticks_1 {R:Type} (k:Nat) (X0:Viticks_1->Option R) (c1:Citicks_1) (rec:Viticks_1->Option R) (v1:Viticks_1):Option R:=if (decide (v1.1<c1.2.2.2.2))=true then if 0<=v1.1 then if v1.1<(v1.2.length:Int) then ix v1.2 v1.1.toNat fun y3=>rec ((i64.wrap (v1.1+1)),(v1.2.set v1.1.toNat true)) else none else none else X0 v1
noncomputable def Liticks_1 {R:Type} (k:Nat) (X0:Viticks_1->Option R) (c:Citicks_1):Nat->Viticks_1->Option R
 | 0,_=>none
 | n+1,v=>Biticks_1 k X0 c (Liticks_1 k X0 c n) v
noncomputable def fiticks_1 {R:Type} (k:Nat) (K:Ex->St->Option R) (c:Citicks_1):=lpf E k 292 Tryz.f292 1 [0,3,5,6,8,9,10] (Stiticks_1 c) K
theorem qiticks_1 (k:Nat) (K:Ex->St->Option R) (X0 c) (h:QL (fiticks_1 k K c) (Biticks_1 k X0 c)) (v):Liticks_1 k X0 c k v=fiticks_1 k K c k v:=lq h (fun _ _=>rfl) (fun _=>rfl) (fun _=>rfl) k v
abbrev Citicks_0:=(List I2)×Int
abbrev Viticks_0:=Int×(List Bool)
def Stiticks_0:Citicks_0->Viticks_0->St
 | (a,d),(e,f)=>⟨29,1,[(3,.c (.ref 0)),(8,.c (.l 194 sI2 a)),(9,cI d),(10,cI e)],[(0,.arr 4 .b f)]⟩
noncomputable def Biticks_0 {R:Type} (k:Nat) (X0:Viticks_0->Option R) (c0:Citicks_0) (rec:Viticks_0->Option R) (v0:Viticks_0):Option R:=if (decide (v0.1<c0.2))=true then if 0<=v0.1 then ix c0.1 v0.1.toNat fun x1=>(FiIsSpan k x1).bind fun p2=>if p2=true then Liticks_1 k (fun v1=>rec ((i64.wrap (v0.1+1)),v1.2)) (c0.1,c0.2,v0.1,x1) k (x1.1,v0.2) else rec ((i64.wrap (v0.1+1)),v0.2) else none else X0 v0
noncomputable def Liticks_0 {R:Type} (k:Nat) (X0:Viticks_0->Option R) (c:Citicks_0):Nat->Viticks_0->Option R
 | 0,_=>none
 | n+1,v=>Biticks_0 k X0 c (Liticks_0 k X0 c n) v
noncomputable def fiticks_0 {R:Type} (k:Nat) (K:Ex->St->Option R) (c:Citicks_0):=lpf E k 292 Tryz.f292 0 [0,3,8,9,10] (Stiticks_0 c) K
theorem qiticks_0 (k:Nat) (K:Ex->St->Option R) (X0 c) (h:QL (fiticks_0 k K c) (Biticks_0 k X0 c)) (v):Liticks_0 k X0 c k v=fiticks_0 k K c k v:=lq h (fun _ _=>rfl) (fun _=>rfl) (fun _=>rfl) k v
noncomputable def Niticks:Ex->St->Option (List Bool):=finish E (rs 292) Tryz.f292
theorem eiticks (k:Nat) (a0):Fiticks (k+1) a0=Liticks_0 k (fun v0=>some v0.2) (a0,(a0.length:Int)) k (0,(List.replicate (1000:Int).toNat (false:Bool))):=by
 simp (maxSteps:=9999999) (disch:=(refine QL.mk fun n0 v=> ?_;unfold Biticks_0;simp (maxSteps:=9999999) (disch:=(refine QL.mk fun n1 v=> ?_;kernel_rfl)) only [↓qiticks_1 (R:=List Bool) k (kon1 E k 292 Tryz.f292 0 1 n0 [0,3,8,9,10] (kon0 E k 292 Tryz.f292 0 Niticks))];kernel_rfl)) only [↓qiticks_0 (R:=List Bool) k (kon0 E k 292 Tryz.f292 0 Niticks)]
 kernel_rfl
noncomputable def Fineeds (k:Nat) (a0:I6) (a1:List I2) (a2:Int) (a3:Int):Option (List Int):=den E k 182 [.agg (avs sI6 a0),.c (.l 194 sI2 a1),cI a2,cI a3]
abbrev Cineeds_0:=Int×(List Bool)×I6
abbrev Vineeds_0:=Int×(List Int)
def Stineeds_0:Cineeds_0->Vineeds_0->St
 | (a,d,e),(f,g)=>⟨77,2,[(2,cI a),(4,cP 0),(9,.c (.l 4 .b d)),(10,.c (.ref 1)),(11,cI f)],[(0,.var (avs sI6 e)),(1,.arr 3 (.i .i64) g)]⟩
noncomputable def Bineeds_0 {R:Type} (k:Nat) (X0:Vineeds_0->Option R) (c0:Cineeds_0) (rec:Vineeds_0->Option R) (v0:Vineeds_0):Option R:=if (decide (v0.1>=c0.1))=true then if 0<=(i64.wrap ((i64.wrap (v0.1-c0.1))+1)) then if (i64.wrap ((i64.wrap (v0.1-c0.1))+1))<(v0.2.length:Int) then ix v0.2 ((i64.wrap ((i64.wrap (v0.1-c0.1))+1)).toNat) fun x4=>if 0<=v0.1 then ix c0.2.1 v0.1.toNat fun x5=>if x5=true then if 0<=(i64.wrap (v0.1-c0.1)) then if (i64.wrap (v0.1-c0.1))<(v0.2.length:Int) then ix v0.2 ((i64.wrap (v0.1-c0.1)).toNat) fun y6=>rec ((i64.wrap (v0.1-1)),(v0.2.set ((i64.wrap (v0.1-c0.1)).toNat) (mx 0 (i64.wrap ((i64.wrap (x4+c0.2.2.2.2.2.1))-c0.2.2.2.2.2.2.2))))) else none else none else if 0<=(i64.wrap (v0.1-c0.1)) then if (i64.wrap (v0.1-c0.1))<(v0.2.length:Int) then ix v0.2 ((i64.wrap (v0.1-c0.1)).toNat) fun y7=>rec ((i64.wrap (v0.1-1)),(v0.2.set ((i64.wrap (v0.1-c0.1)).toNat) (mx 0 (i64.wrap (x4+c0.2.2.2.2.2.1))))) else none else none else none else none else none else X0 v0
noncomputable def Lineeds_0 {R:Type} (k:Nat) (X0:Vineeds_0->Option R) (c:Cineeds_0):Nat->Vineeds_0->Option R
 | 0,_=>none
 | n+1,v=>Bineeds_0 k X0 c (Lineeds_0 k X0 c n) v
noncomputable def fineeds_0 {R:Type} (k:Nat) (K:Ex->St->Option R) (c:Cineeds_0):=lpf E k 182 Tryz.f182 0 [0,2,4,9,10,11] (Stineeds_0 c) K
theorem qineeds_0 (k:Nat) (K:Ex->St->Option R) (X0 c) (h:QL (fineeds_0 k K c) (Bineeds_0 k X0 c)) (v):Lineeds_0 k X0 c k v=fineeds_0 k K c k v:=lq h (fun _ _=>rfl) (fun _=>rfl) (fun _=>rfl) k v
noncomputable def Nineeds:Ex->St->Option (List Int):=finish E (rs 182) Tryz.f182
theorem eineeds (k:Nat) (a0 a1 a2 a3):Fineeds (k+1) a0 a1 a2 a3=(FiInRange k a0.2.2.2.1 0 100).bind fun p1=>if ((!p1)==false)=true then (FiInRange k a0.2.2.2.2.2 0 100).bind fun p2=>if ((!p2)==false)=true then if ((decide (a2<0))==false)=true then if ((decide (a3>1000))==false)=true then if (decide (a2>=a3))=true then some ([0]) else (Fiticks k a1).bind fun p3=>if ((i64.wrap ((i64.wrap (a3-a2))+1))==(i64.wrap ((i64.wrap (a3-a2))+1)))=true then if 0<=(i64.wrap ((i64.wrap (a3-a2))+1)) then if 8*(i64.wrap ((i64.wrap (a3-a2))+1)).toNat<=281474976710656 then Lineeds_0 k (fun v0=>some v0.2) (a2,p3,a0) k ((i64.wrap (a3-1)),(List.replicate (i64.wrap ((i64.wrap (a3-a2))+1)).toNat (0:Int))) else none else none else none else some ([0]) else some ([0]) else some ([0]) else some ([0]):=by
 simp (disch:=(refine QL.mk fun n0 v=> ?_;kernel_rfl)) only [↓qineeds_0 k (kon0 E k 182 Tryz.f182 0 Nineeds)]
 kernel_rfl
noncomputable def FiNeedAt (k:Nat) (a0:I6) (a1:List I2) (a2:Int) (a3:Int):Option (Int):=den E k 387 [.agg (avs sI6 a0),.c (.l 194 sI2 a1),cI a2,cI a3]
theorem eiNeedAt (k:Nat) (a0 a1 a2 a3):FiNeedAt (k+1) a0 a1 a2 a3=(Fineeds k a0 a1 a2 a3).bind fun p1=>if 0<(p1.length:Int) then ix p1 ((0:Int).toNat) fun x2=>some x2 else none:=by kernel_rfl
noncomputable def FiNeedNow (k:Nat) (a0:TWorld) (a1:Int):Option (Int):=den E k 320 [.agg (avs sWorld a0),cI a1]
theorem eiNeedNow (k:Nat) (a0 a1):FiNeedNow (k+1) a0 a1=(FiisIndex k a1 (a0.2.2.2.2.1.length:Int)).bind fun p1=>if (!p1)=true then some 0 else if 0<=a1 then ix a0.2.2.2.2.1 a1.toNat fun x2=>(FiLitOf k a0 a1).bind fun p3=>(FiNeedAt k x2 p3 a0.2.2.2.2.2.2.2.2.2.2.1 a0.2.2.2.2.2.2.2.2.2.2.2.1).bind fun p4=>some p4 else none:=by kernel_rfl
noncomputable def FiareBatteries (k:Nat) (a0:TWorld):Option (Bool):=den E k 225 [.agg (avs sWorld a0)]
abbrev CiareBatteries_0:=(List I6)×Int×TWorld
abbrev ViareBatteries_0:=Int
def StiareBatteries_0:CiareBatteries_0->ViareBatteries_0->St
 | (a,b,d),e=>⟨36,1,[(1,cP 0),(14,.c (.l 119 sI6 a)),(15,cI b),(16,cI e)],[(0,.var (avs sWorld d))]⟩
noncomputable def BiareBatteries_0 {R:Type} (k:Nat) (X0:ViareBatteries_0->I6->Bool->Int->Option R) (X1:ViareBatteries_0->I6->Bool->Option R) (X2:ViareBatteries_0->Option R) (c0:CiareBatteries_0) (rec:ViareBatteries_0->Option R) (v0:ViareBatteries_0):Option R:=if (decide (v0<c0.2.1))=true then if 0<=v0 then ix c0.1 v0.toNat fun x1=>(FiIsBattery k x1).bind fun p2=>if ((!p2)==false)=true then (FiNeedNow k c0.2.2 v0).bind fun p3=>if (decide (x1.1<(i64.wrap (x1.2.2.1+p3))))=true then X0 v0 x1 p2 p3 else rec (i64.wrap (v0+1)) else X1 v0 x1 p2 else none else X2 v0
noncomputable def LiareBatteries_0 {R:Type} (k:Nat) (X0:ViareBatteries_0->I6->Bool->Int->Option R) (X1:ViareBatteries_0->I6->Bool->Option R) (X2:ViareBatteries_0->Option R) (c:CiareBatteries_0):Nat->ViareBatteries_0->Option R
 | 0,_=>none
 | n+1,v=>BiareBatteries_0 k X0 X1 X2 c (LiareBatteries_0 k X0 X1 X2 c n) v
noncomputable def fiareBatteries_0 {R:Type} (k:Nat) (K:Ex->St->Option R) (c:CiareBatteries_0):=lpf E k 225 Tryz.f225 0 [0,1,14,15,16] (StiareBatteries_0 c) K
theorem qiareBatteries_0 (k:Nat) (K:Ex->St->Option R) (X0 X1 X2 c) (h:QL (fiareBatteries_0 k K c) (BiareBatteries_0 k X0 X1 X2 c)) (v):LiareBatteries_0 k X0 X1 X2 c k v=fiareBatteries_0 k K c k v:=lq h (fun _ _=>rfl) (fun _=>rfl) (fun _=>rfl) k v
noncomputable def NiareBatteries:Ex->St->Option (Bool):=finish E (rs 225) Tryz.f225
theorem eiareBatteries (k:Nat) (a0):FiareBatteries (k+1) a0=if ((a0.2.2.2.2.1.length:Int) !=(a0.1.2.1.length:Int))=true then some false else LiareBatteries_0 k (fun (v0:Int) x1 p2 (p3:Int)=>some false) (fun (v0:Int) x1 p2=>some false) (fun (v0:Int)=>some true) (a0.2.2.2.2.1,(a0.2.2.2.2.1.length:Int),a0) k 0:=by
 simp (disch:=(refine QL.mk fun n0 v=> ?_;kernel_rfl)) only [↓qiareBatteries_0 k (kon0 E k 225 Tryz.f225 0 NiareBatteries)]
 kernel_rfl
noncomputable def FiIsFault (k:Nat) (a0:I4) (a1:Int):Option (Bool):=den E k 267 [.agg (avs sI4 a0),cI a1]
theorem eiIsFault (k:Nat) (a0 a1):FiIsFault (k+1) a0 a1=(FiisIndex k a0.1 a1).bind fun p1=>if (p1==true)=true then (FiInRange k a0.2.1 (-1) (i64.wrap (a1-1))).bind fun p2=>if (p2==true)=true then if ((a0.2.1 !=a0.1)==true)=true then (FiIsSpan k a0.2.2).bind fun p3=>some p3 else some false else some false else some false:=by kernel_rfl
noncomputable def FiIsFlow (k:Nat) (a0:I4) (a1:Int):Option (Bool):=den E k 321 [.agg (avs sI4 a0),cI a1]
theorem eiIsFlow (k:Nat) (a0 a1):FiIsFlow (k+1) a0 a1=(FiInRange k a0.1 0 9999).bind fun p1=>if (p1==true)=true then (FiisIndex k a0.2.1 a1).bind fun p2=>if (p2==true)=true then (FiisIndex k a0.2.2.1 a1).bind fun p3=>if (p3==true)=true then if ((a0.2.1 !=a0.2.2.1)==true)=true then (FiInRange k a0.2.2.2 0 1).bind fun p4=>some p4 else some false else some false else some false else some false:=by kernel_rfl
noncomputable def FiIsStream (k:Nat) (a0:Int×Int×List Int):Option (Bool):=den E k 322 [.agg (avs sStream a0)]
abbrev CiIsStream_0:=(List Int)×Int×(Int×Int×List Int)
abbrev ViIsStream_0:=Int
def StiIsStream_0:CiIsStream_0->ViIsStream_0->St
 | (a,b,d),e=>⟨52,1,[(1,cP 0),(22,.c (.l 3 (.i .i64) a)),(23,cI b),(24,cI e)],[(0,.var (avs sStream d))]⟩
noncomputable def BiIsStream_0 {R:Type} (k:Nat) (X0:ViIsStream_0->Int->Int->Option R) (X1:ViIsStream_0->Int->Option R) (X2:ViIsStream_0->Int->Option R) (X3:ViIsStream_0->Option R) (c0:CiIsStream_0) (rec:ViIsStream_0->Option R) (v0:ViIsStream_0):Option R:=if (decide (v0<c0.2.1))=true then if 0<=v0 then ix c0.1 v0.toNat fun x3=>if ((decide (x3<=c0.2.2.2.1))==false)=true then if ((decide (x3>9999))==false)=true then if ((decide (v0>0))==true)=true then if 0<=(i64.wrap (v0-1)) then ix c0.2.2.2.2 ((i64.wrap (v0-1)).toNat) fun x4=>if (decide (x3<=x4))=true then X0 v0 x3 x4 else rec (i64.wrap (v0+1)) else none else rec (i64.wrap (v0+1)) else X1 v0 x3 else X2 v0 x3 else none else X3 v0
noncomputable def LiIsStream_0 {R:Type} (k:Nat) (X0:ViIsStream_0->Int->Int->Option R) (X1:ViIsStream_0->Int->Option R) (X2:ViIsStream_0->Int->Option R) (X3:ViIsStream_0->Option R) (c:CiIsStream_0):Nat->ViIsStream_0->Option R
 | 0,_=>none
 | n+1,v=>BiIsStream_0 k X0 X1 X2 X3 c (LiIsStream_0 k X0 X1 X2 X3 c n) v
noncomputable def fiIsStream_0 {R:Type} (k:Nat) (K:Ex->St->Option R) (c:CiIsStream_0):=lpf E k 322 Tryz.f322 0 [0,1,22,23,24] (StiIsStream_0 c) K
theorem qiIsStream_0 (k:Nat) (K:Ex->St->Option R) (X0 X1 X2 X3 c) (h:QL (fiIsStream_0 k K c) (BiIsStream_0 k X0 X1 X2 X3 c)) (v):LiIsStream_0 k X0 X1 X2 X3 c k v=fiIsStream_0 k K c k v:=lq h (fun _ _=>rfl) (fun _=>rfl) (fun _=>rfl) k v
noncomputable def NiIsStream:Ex->St->Option (Bool):=finish E (rs 322) Tryz.f322
theorem eiIsStream (k:Nat) (a0):FiIsStream (k+1) a0=(FiInRange k a0.1 0 10000).bind fun p1=>if ((!p1)==false)=true then (FiInRange k a0.2.1 0 10000).bind fun p2=>if ((!p2)==false)=true then if (decide ((a0.2.2.length:Int)>20))=true then some false else LiIsStream_0 k (fun (v0:Int) (x3:Int) (x4:Int)=>some false) (fun (v0:Int) (x3:Int)=>some false) (fun (v0:Int) (x3:Int)=>some false) (fun (v0:Int)=>some true) (a0.2.2,(a0.2.2.length:Int),a0) k 0 else some false else some false:=by
 simp (disch:=(refine QL.mk fun n0 v=> ?_;kernel_rfl)) only [↓qiIsStream_0 k (kon0 E k 322 Tryz.f322 0 NiIsStream)]
 kernel_rfl
noncomputable def FiflowAt_1v (k:Nat) (a0:I4) (a1:Int):Option (Bool):=den E k 345 [.agg (avs sI4 a0),.c (.at_ [vI a1])]
theorem eiflowAt_1v (k:Nat) (a0 a1):FiflowAt_1v (k+1) a0 a1=some (a0.1==a1):=by kernel_rfl
noncomputable def FgIndexFunc_Flowv_iflowAt_1 (k:Nat) (a0:List I4) (a1:Int):Option (Int):=den E k 344 [.c (.l 89 sI4 a0),.c (.clo 345 [.at_ [vI a1]])]
abbrev CgIndexFunc_Flowv_iflowAt_1_0:=(List I4)×Int×Int
abbrev VgIndexFunc_Flowv_iflowAt_1_0:=Int
def StgIndexFunc_Flowv_iflowAt_1_0:CgIndexFunc_Flowv_iflowAt_1_0->VgIndexFunc_Flowv_iflowAt_1_0->St
 | (a,b,d),e=>⟨19,0,[(0,.c (.l 89 sI4 a)),(1,.c (.clo 345 [.at_ [vI b]])),(7,cI d),(8,cI e)],[]⟩
noncomputable def BgIndexFunc_Flowv_iflowAt_1_0 {R:Type} (k:Nat) (X0:VgIndexFunc_Flowv_iflowAt_1_0->I4->Bool->Option R) (X1:VgIndexFunc_Flowv_iflowAt_1_0->Option R) (c0:CgIndexFunc_Flowv_iflowAt_1_0) (rec:VgIndexFunc_Flowv_iflowAt_1_0->Option R) (v0:VgIndexFunc_Flowv_iflowAt_1_0):Option R:=if (decide (v0<c0.2.2))=true then if 0<=v0 then ix c0.1 v0.toNat fun x1=>(FiflowAt_1v k x1 c0.2.1).bind fun p2=>if p2=true then X0 v0 x1 p2 else rec (i64.wrap (v0+1)) else none else X1 v0
noncomputable def LgIndexFunc_Flowv_iflowAt_1_0 {R:Type} (k:Nat) (X0:VgIndexFunc_Flowv_iflowAt_1_0->I4->Bool->Option R) (X1:VgIndexFunc_Flowv_iflowAt_1_0->Option R) (c:CgIndexFunc_Flowv_iflowAt_1_0):Nat->VgIndexFunc_Flowv_iflowAt_1_0->Option R
 | 0,_=>none
 | n+1,v=>BgIndexFunc_Flowv_iflowAt_1_0 k X0 X1 c (LgIndexFunc_Flowv_iflowAt_1_0 k X0 X1 c n) v
noncomputable def fgIndexFunc_Flowv_iflowAt_1_0 {R:Type} (k:Nat) (K:Ex->St->Option R) (c:CgIndexFunc_Flowv_iflowAt_1_0):=lpf E k 344 Tryz.f344 0 [0,0,1,7,8] (StgIndexFunc_Flowv_iflowAt_1_0 c) K
theorem qgIndexFunc_Flowv_iflowAt_1_0 (k:Nat) (K:Ex->St->Option R) (X0 X1 c) (h:QL (fgIndexFunc_Flowv_iflowAt_1_0 k K c) (BgIndexFunc_Flowv_iflowAt_1_0 k X0 X1 c)) (v):LgIndexFunc_Flowv_iflowAt_1_0 k X0 X1 c k v=fgIndexFunc_Flowv_iflowAt_1_0 k K c k v:=lq h (fun _ _=>rfl) (fun _=>rfl) (fun _=>rfl) k v
noncomputable def NgIndexFunc_Flowv_iflowAt_1:Ex->St->Option (Int):=finish E (rs 344) Tryz.f344
theorem egIndexFunc_Flowv_iflowAt_1 (k:Nat) (a0 a1):FgIndexFunc_Flowv_iflowAt_1 (k+1) a0 a1=LgIndexFunc_Flowv_iflowAt_1_0 k (fun (v0:Int) x1 p2=>some v0) (fun (v0:Int)=>some (-1)) (a0,a1,(a0.length:Int)) k 0:=by
 simp (disch:=(refine QL.mk fun n0 v=> ?_;kernel_rfl)) only [↓qgIndexFunc_Flowv_iflowAt_1_0 k (kon0 E k 344 Tryz.f344 0 NgIndexFunc_Flowv_iflowAt_1)]
 kernel_rfl
noncomputable def FiflowAt (k:Nat) (a0:TWorld) (a1:Int):Option (Int):=den E k 258 [.agg (avs sWorld a0),cI a1]
theorem eiflowAt (k:Nat) (a0 a1):FiflowAt (k+1) a0 a1=(FgIndexFunc_Flowv_iflowAt_1 k a0.2.2.2.2.2.2.1 a1).bind fun p1=>some p1:=by kernel_rfl
noncomputable def FiareFlows (k:Nat) (a0:TWorld):Option (Bool):=den E k 227 [.agg (avs sWorld a0)]
abbrev CiareFlows_1:=(List I4)×Int×Int×(List I4)×Int×TWorld
abbrev ViareFlows_1:=Int
def StiareFlows_1:CiareFlows_1->ViareFlows_1->St
 | (a,b,d,e,f,g),h=>⟨101,1,[(1,cP 0),(36,.c (.l 89 sI4 a)),(37,cI b),(38,cI d),(88,.c (.l 90 sI4 e)),(89,cI f),(90,cI h)],[(0,.var (avs sWorld g))]⟩
noncomputable def BiareFlows_1 {R:Type} (k:Nat) (X0:ViareFlows_1->I4->Bool->Option R) (X1:ViareFlows_1->Option R) (c1:CiareFlows_1) (rec:ViareFlows_1->Option R) (v1:ViareFlows_1):Option R:=if (decide (v1<c1.2.2.2.2.1))=true then if 0<=v1 then ix c1.2.2.2.1 v1.toNat fun x9=>(FiIsFault k x9 c1.2.2.2.2.2.2.1.1).bind fun p10=>if (!p10)=true then X0 v1 x9 p10 else rec (i64.wrap (v1+1)) else none else X1 v1
noncomputable def LiareFlows_1 {R:Type} (k:Nat) (X0:ViareFlows_1->I4->Bool->Option R) (X1:ViareFlows_1->Option R) (c:CiareFlows_1):Nat->ViareFlows_1->Option R
 | 0,_=>none
 | n+1,v=>BiareFlows_1 k X0 X1 c (LiareFlows_1 k X0 X1 c n) v
noncomputable def fiareFlows_1 {R:Type} (k:Nat) (K:Ex->St->Option R) (c:CiareFlows_1):=lpf E k 227 Tryz.f227 1 [0,1,36,37,38,88,89,90] (StiareFlows_1 c) K
theorem qiareFlows_1 (k:Nat) (K:Ex->St->Option R) (X0 X1 c) (h:QL (fiareFlows_1 k K c) (BiareFlows_1 k X0 X1 c)) (v):LiareFlows_1 k X0 X1 c k v=fiareFlows_1 k K c k v:=lq h (fun _ _=>rfl) (fun _=>rfl) (fun _=>rfl) k v
abbrev CiareFlows_0:=(List I4)×Int×TWorld
abbrev ViareFlows_0:=Int
def StiareFlows_0:CiareFlows_0->ViareFlows_0->St
 | (a,b,d),e=>⟨101,1,[(1,cP 0),(36,.c (.l 89 sI4 a)),(37,cI b),(38,cI e)],[(0,.var (avs sWorld d))]⟩
noncomputable def BiareFlows_0 {R:Type} (k:Nat) (X0:ViareFlows_0->I4->Bool->Int->Int->Bool->(Int×Int×List Int)->Bool->(Int×Int×List Int)->Option R) (X1:ViareFlows_0->I4->Bool->Int->Int->Bool->(Int×Int×List Int)->Bool->Option R) (X2:ViareFlows_0->I4->Bool->Int->Int->Bool->Option R) (X3:ViareFlows_0->I4->Bool->Int->Option R) (X4:ViareFlows_0->I4->Bool->Option R) (X5:ViareFlows_0->Option R) (c0:CiareFlows_0) (rec:ViareFlows_0->Option R) (v0:ViareFlows_0):Option R:=if (decide (v0<c0.2.1))=true then if 0<=v0 then ix c0.1 v0.toNat fun x1=>(FiIsFlow k x1 c0.2.2.2.1.1).bind fun p2=>if ((!p2)==false)=true then (FiflowAt k c0.2.2 x1.1).bind fun p3=>if ((p3 !=v0)==false)=true then if 0<=v0 then ix c0.2.2.2.2.2.2.2.2.2.1 v0.toNat fun x4=>(FiInRange k x4 0 10000).bind fun p5=>if ((!p5)==false)=true then if 0<=v0 then ix c0.2.2.2.2.2.2.2.2.2.2.1 v0.toNat fun x6=>(FiIsStream k x6).bind fun p7=>if ((!p7)==false)=true then if 0<=v0 then ix c0.2.2.2.2.2.2.2.2.2.2.1 v0.toNat fun x8=>if (x8.1 !=x1.1)=true then X0 v0 x1 p2 p3 x4 p5 x6 p7 x8 else rec (i64.wrap (v0+1)) else none else X1 v0 x1 p2 p3 x4 p5 x6 p7 else none else X2 v0 x1 p2 p3 x4 p5 else none else X3 v0 x1 p2 p3 else X4 v0 x1 p2 else none else X5 v0
noncomputable def LiareFlows_0 {R:Type} (k:Nat) (X0:ViareFlows_0->I4->Bool->Int->Int->Bool->(Int×Int×List Int)->Bool->(Int×Int×List Int)->Option R) (X1:ViareFlows_0->I4->Bool->Int->Int->Bool->(Int×Int×List Int)->Bool->Option R) (X2:ViareFlows_0->I4->Bool->Int->Int->Bool->Option R) (X3:ViareFlows_0->I4->Bool->Int->Option R) (X4:ViareFlows_0->I4->Bool->Option R) (X5:ViareFlows_0->Option R) (c:CiareFlows_0):Nat->ViareFlows_0->Option R
 | 0,_=>none
 | n+1,v=>BiareFlows_0 k X0 X1 X2 X3 X4 X5 c (LiareFlows_0 k X0 X1 X2 X3 X4 X5 c n) v
noncomputable def fiareFlows_0 {R:Type} (k:Nat) (K:Ex->St->Option R) (c:CiareFlows_0):=lpf E k 227 Tryz.f227 0 [0,1,36,37,38] (StiareFlows_0 c) K
theorem qiareFlows_0 (k:Nat) (K:Ex->St->Option R) (X0 X1 X2 X3 X4 X5 c) (h:QL (fiareFlows_0 k K c) (BiareFlows_0 k X0 X1 X2 X3 X4 X5 c)) (v):LiareFlows_0 k X0 X1 X2 X3 X4 X5 c k v=fiareFlows_0 k K c k v:=lq h (fun _ _=>rfl) (fun _=>rfl) (fun _=>rfl) k v
noncomputable def NiareFlows:Ex->St->Option (Bool):=finish E (rs 227) Tryz.f227
theorem eiareFlows (k:Nat) (a0):FiareFlows (k+1) a0=if ((decide ((a0.2.2.2.2.2.2.1.length:Int)>8))==false)=true then if (((a0.2.2.2.2.2.2.2.1.length:Int) !=(a0.2.2.2.2.2.2.1.length:Int))==false)=true then if (((a0.2.2.2.2.2.2.2.2.1.length:Int) !=(a0.2.2.2.2.2.2.1.length:Int))==false)=true then if (decide ((a0.2.2.2.2.2.2.2.2.2.1.length:Int)>12))=true then some false else LiareFlows_0 k (fun (v0:Int) x1 p2 (p3:Int) (x4:Int) p5 x6 p7 x8=>some false) (fun (v0:Int) x1 p2 (p3:Int) (x4:Int) p5 x6 p7=>some false) (fun (v0:Int) x1 p2 (p3:Int) (x4:Int) p5=>some false) (fun (v0:Int) x1 p2 (p3:Int)=>some false) (fun (v0:Int) x1 p2=>some false) (fun (v0:Int)=>LiareFlows_1 k (fun (v1:Int) x9 p10=>some false) (fun (v1:Int)=>some true) (a0.2.2.2.2.2.2.1,(a0.2.2.2.2.2.2.1.length:Int),v0,a0.2.2.2.2.2.2.2.2.2.1,(a0.2.2.2.2.2.2.2.2.2.1.length:Int),a0) k 0) (a0.2.2.2.2.2.2.1,(a0.2.2.2.2.2.2.1.length:Int),a0) k 0 else some false else some false else some false:=by
 simp (maxSteps:=9999999) (disch:=(refine QL.mk fun n0 v=> ?_;unfold BiareFlows_0;simp (maxSteps:=9999999) (disch:=(refine QL.mk fun n1 v=> ?_;kernel_rfl)) only [↓qiareFlows_1 (R:=Bool) k (kon0 E k 227 Tryz.f227 1 NiareFlows)];kernel_rfl)) only [↓qiareFlows_0 (R:=Bool) k (kon0 E k 227 Tryz.f227 0 NiareFlows)]
 kernel_rfl
noncomputable def FiIsPacket (k:Nat) (a0:I6) (a1:Int):Option (Bool):=den E k 266 [.agg (avs sI6 a0),cI a1]
theorem eiIsPacket (k:Nat) (a0 a1):FiIsPacket (k+1) a0 a1=(FiInRange k a0.1 0 9999).bind fun p1=>if (p1==true)=true then (FiInRange k a0.2.1 0 9999).bind fun p2=>if (p2==true)=true then (FiInRange k a0.2.2.1 0 9999).bind fun p3=>if (p3==true)=true then (FiisIndex k a0.2.2.2.1 a1).bind fun p4=>if (p4==true)=true then (FiisIndex k a0.2.2.2.2.1 a1).bind fun p5=>if (p5==true)=true then if ((a0.2.2.2.1 !=a0.2.2.2.2.1)==true)=true then (FiInRange k a0.2.2.2.2.2 0 1).bind fun p6=>some p6 else some false else some false else some false else some false else some false else some false:=by kernel_rfl
noncomputable def FiareQueues (k:Nat) (a0:TWorld):Option (Bool):=den E k 226 [.agg (avs sWorld a0)]
abbrev CiareQueues_1:=Int×(List (List I6))×Int×Int×(List I6)×Int×TWorld
abbrev ViareQueues_1:=Int
def StiareQueues_1:CiareQueues_1->ViareQueues_1->St
 | (a,b,d,e,f,g,h),i=>⟨53,1,[(1,cP 0),(3,cI a),(15,.c (.l 117 sQueue b)),(16,cI d),(17,cI e),(27,.c (.l 229 sI6 f)),(28,cI g),(29,cI i)],[(0,.var (avs sWorld h))]⟩
noncomputable def BiareQueues_1 {R:Type} (k:Nat) (X0:ViareQueues_1->I6->Bool->Bool->Option R) (X1:ViareQueues_1->I6->Bool->Option R) (X2:ViareQueues_1->Option R) (c1:CiareQueues_1) (rec:ViareQueues_1->Option R) (v1:ViareQueues_1):Option R:=if (decide (v1<c1.2.2.2.2.2.1))=true then if 0<=v1 then ix c1.2.2.2.2.1 v1.toNat fun x2=>(FiIsPacket k x2 c1.2.2.2.2.2.2.2.1.1).bind fun p3=>if ((!p3)==false)=true then (FiIsSite k c1.2.2.2.2.2.2.1 c1.1).bind fun p4=>if (p4==true)=true then if (x2.2.2.2.1 !=c1.1)=true then X0 v1 x2 p3 p4 else rec (i64.wrap (v1+1)) else rec (i64.wrap (v1+1)) else X1 v1 x2 p3 else none else X2 v1
noncomputable def LiareQueues_1 {R:Type} (k:Nat) (X0:ViareQueues_1->I6->Bool->Bool->Option R) (X1:ViareQueues_1->I6->Bool->Option R) (X2:ViareQueues_1->Option R) (c:CiareQueues_1):Nat->ViareQueues_1->Option R
 | 0,_=>none
 | n+1,v=>BiareQueues_1 k X0 X1 X2 c (LiareQueues_1 k X0 X1 X2 c n) v
noncomputable def fiareQueues_1 {R:Type} (k:Nat) (K:Ex->St->Option R) (c:CiareQueues_1):=lpf E k 226 Tryz.f226 1 [0,1,3,15,16,17,27,28,29] (StiareQueues_1 c) K
theorem qiareQueues_1 (k:Nat) (K:Ex->St->Option R) (X0 X1 X2 c) (h:QL (fiareQueues_1 k K c) (BiareQueues_1 k X0 X1 X2 c)) (v):LiareQueues_1 k X0 X1 X2 c k v=fiareQueues_1 k K c k v:=lq h (fun _ _=>rfl) (fun _=>rfl) (fun _=>rfl) k v
abbrev CiareQueues_0:=(List (List I6))×Int×TWorld
abbrev ViareQueues_0:=Int
def StiareQueues_0:CiareQueues_0->ViareQueues_0->St
 | (a,b,d),e=>⟨53,1,[(1,cP 0),(15,.c (.l 117 sQueue a)),(16,cI b),(17,cI e)],[(0,.var (avs sWorld d))]⟩
noncomputable def BiareQueues_0 {R:Type} (k:Nat) (X0:ViareQueues_0->(List I6)->Option R) (X1:ViareQueues_0->(List I6)->Int->I6->Bool->Bool->Option R) (X2:ViareQueues_0->(List I6)->Int->I6->Bool->Option R) (X3:ViareQueues_0->Option R) (c0:CiareQueues_0) (rec:ViareQueues_0->Option R) (v0:ViareQueues_0):Option R:=if (decide (v0<c0.2.1))=true then if 0<=v0 then ix c0.1 v0.toNat fun x1=>if (decide ((x1.length:Int)>12))=true then X0 v0 x1 else LiareQueues_1 k (fun (v1:Int) x2 p3 p4=>X1 v0 x1 v1 x2 p3 p4) (fun (v1:Int) x2 p3=>X2 v0 x1 v1 x2 p3) (fun (v1:Int)=>rec (i64.wrap (v0+1))) (v0,c0.1,c0.2.1,v0,x1,(x1.length:Int),c0.2.2) k 0 else none else X3 v0
noncomputable def LiareQueues_0 {R:Type} (k:Nat) (X0:ViareQueues_0->(List I6)->Option R) (X1:ViareQueues_0->(List I6)->Int->I6->Bool->Bool->Option R) (X2:ViareQueues_0->(List I6)->Int->I6->Bool->Option R) (X3:ViareQueues_0->Option R) (c:CiareQueues_0):Nat->ViareQueues_0->Option R
 | 0,_=>none
 | n+1,v=>BiareQueues_0 k X0 X1 X2 X3 c (LiareQueues_0 k X0 X1 X2 X3 c n) v
noncomputable def fiareQueues_0 {R:Type} (k:Nat) (K:Ex->St->Option R) (c:CiareQueues_0):=lpf E k 226 Tryz.f226 0 [0,1,15,16,17] (StiareQueues_0 c) K
theorem qiareQueues_0 (k:Nat) (K:Ex->St->Option R) (X0 X1 X2 X3 c) (h:QL (fiareQueues_0 k K c) (BiareQueues_0 k X0 X1 X2 X3 c)) (v):LiareQueues_0 k X0 X1 X2 X3 c k v=fiareQueues_0 k K c k v:=lq h (fun _ _=>rfl) (fun _=>rfl) (fun _=>rfl) k v
noncomputable def NiareQueues:Ex->St->Option (Bool):=finish E (rs 226) Tryz.f226
theorem eiareQueues (k:Nat) (a0):FiareQueues (k+1) a0=if ((a0.2.2.2.2.2.1.length:Int) !=a0.2.1.1)=true then some false else LiareQueues_0 k (fun (v0:Int) x1=>some false) (fun (v0:Int) x1 (v1:Int) x2 p3 p4=>some false) (fun (v0:Int) x1 (v1:Int) x2 p3=>some false) (fun (v0:Int)=>some true) (a0.2.2.2.2.2.1,(a0.2.2.2.2.2.1.length:Int),a0) k 0:=by
 simp (maxSteps:=9999999) (disch:=(refine QL.mk fun n0 v=> ?_;unfold BiareQueues_0;simp (maxSteps:=9999999) (disch:=(refine QL.mk fun n1 v=> ?_;kernel_rfl)) only [↓qiareQueues_1 (R:=Bool) k (kon1 E k 226 Tryz.f226 0 1 n0 [0,1,15,16,17] (kon0 E k 226 Tryz.f226 0 NiareQueues))];kernel_rfl)) only [↓qiareQueues_0 (R:=Bool) k (kon0 E k 226 Tryz.f226 0 NiareQueues)]
 kernel_rfl
noncomputable def FgClone_Packet (k:Nat) (a0:List I6):Option (List I6):=den E k 250 [.c (.l 229 sI6 a0)]
theorem egClone_Packet (k:Nat) (a0):FgClone_Packet (k+1) a0=agree (a0.isEmpty) (some ([])) (if (0+a0.length)*48<=140737488355328 then some a0 else none):=by kernel_rfl
noncomputable def FipacketsOf (k:Nat) (a0:TWorld):Option (List I6):=den E k 323 [.agg (avs sWorld a0)]
abbrev CipacketsOf_0:=(List (List I6))×Int
abbrev VipacketsOf_0:=Int×(List I6)
def StipacketsOf_0:CipacketsOf_0->VipacketsOf_0->St
 | (a,b),(d,e)=>⟨22,1,[(3,.c (.ref 0)),(10,.c (.l 117 sQueue a)),(11,cI b),(12,cI d)],[(0,.arr 229 sI6 e)]⟩
noncomputable def BipacketsOf_0 {R:Type} (k:Nat) (X0:VipacketsOf_0->Option R) (c0:CipacketsOf_0) (rec:VipacketsOf_0->Option R) (v0:VipacketsOf_0):Option R:=if (decide (v0.1<c0.2))=true then if 0<=v0.1 then ix c0.1 v0.1.toNat fun x2=>if (v0.2.length+x2.length)*48<=140737488355328 then rec ((i64.wrap (v0.1+1)),(v0.2++x2)) else none else none else X0 v0
noncomputable def LipacketsOf_0 {R:Type} (k:Nat) (X0:VipacketsOf_0->Option R) (c:CipacketsOf_0):Nat->VipacketsOf_0->Option R
 | 0,_=>none
 | n+1,v=>BipacketsOf_0 k X0 c (LipacketsOf_0 k X0 c n) v
noncomputable def fipacketsOf_0 {R:Type} (k:Nat) (K:Ex->St->Option R) (c:CipacketsOf_0):=lpf E k 323 Tryz.f323 0 [0,3,10,11,12] (StipacketsOf_0 c) K
theorem qipacketsOf_0 (k:Nat) (K:Ex->St->Option R) (X0 c) (h:QL (fipacketsOf_0 k K c) (BipacketsOf_0 k X0 c)) (v):LipacketsOf_0 k X0 c k v=fipacketsOf_0 k K c k v:=lq h (fun _ _=>rfl) (fun _=>rfl) (fun _=>rfl) k v
noncomputable def NipacketsOf:Ex->St->Option (List I6):=finish E (rs 323) Tryz.f323
theorem eipacketsOf (k:Nat) (a0):FipacketsOf (k+1) a0=(FgClone_Packet k a0.2.2.2.2.2.2.2.2.2.2.2.2.1).bind fun p1=>LipacketsOf_0 k (fun v0=>some v0.2) (a0.2.2.2.2.2.1,(a0.2.2.2.2.2.1.length:Int)) k (0,p1):=by
 simp (disch:=(refine QL.mk fun n0 v=> ?_;kernel_rfl)) only [↓qipacketsOf_0 k (kon0 E k 323 Tryz.f323 0 NipacketsOf)]
 kernel_rfl
noncomputable def FisumOf (k:Nat) (a0:List Int):Option (Int):=den E k 265 [.c (.l 3 (.i .i64) a0)]
abbrev CisumOf_0:=(List Int)×Int
abbrev VisumOf_0:=Int×Int
def StisumOf_0:CisumOf_0->VisumOf_0->St
 | (a,b),(d,e)=>⟨17,0,[(3,cI d),(6,.c (.l 3 (.i .i64) a)),(7,cI b),(8,cI e)],[]⟩
noncomputable def BisumOf_0 {R:Type} (k:Nat) (X0:VisumOf_0->Option R) (c0:CisumOf_0) (rec:VisumOf_0->Option R) (v0:VisumOf_0):Option R:=if (decide (v0.2<c0.2))=true then if 0<=v0.2 then ix c0.1 v0.2.toNat fun x1=>rec ((i64.wrap (v0.1+x1)),(i64.wrap (v0.2+1))) else none else X0 v0
noncomputable def LisumOf_0 {R:Type} (k:Nat) (X0:VisumOf_0->Option R) (c:CisumOf_0):Nat->VisumOf_0->Option R
 | 0,_=>none
 | n+1,v=>BisumOf_0 k X0 c (LisumOf_0 k X0 c n) v
noncomputable def fisumOf_0 {R:Type} (k:Nat) (K:Ex->St->Option R) (c:CisumOf_0):=lpf E k 265 Tryz.f265 0 [0,3,6,7,8] (StisumOf_0 c) K
theorem qisumOf_0 (k:Nat) (K:Ex->St->Option R) (X0 c) (h:QL (fisumOf_0 k K c) (BisumOf_0 k X0 c)) (v):LisumOf_0 k X0 c k v=fisumOf_0 k K c k v:=lq h (fun _ _=>rfl) (fun _=>rfl) (fun _=>rfl) k v
noncomputable def NisumOf:Ex->St->Option (Int):=finish E (rs 265) Tryz.f265
theorem eisumOf (k:Nat) (a0):FisumOf (k+1) a0=LisumOf_0 k (fun v0=>some v0.1) (a0,(a0.length:Int)) k (0,0):=by
 simp (disch:=(refine QL.mk fun n0 v=> ?_;kernel_rfl)) only [↓qisumOf_0 k (kon0 E k 265 Tryz.f265 0 NisumOf)]
 kernel_rfl
noncomputable def FiareWhole (k:Nat) (a0:TWorld):Option (Bool):=den E k 228 [.agg (avs sWorld a0)]
abbrev CiareWhole_1:=Int×Int×Int×TWorld×(List Int)×(List I6)
abbrev ViareWhole_1:=Int
def StiareWhole_1:CiareWhole_1->ViareWhole_1->St
 | (a,b,d,e,f,g),h=>⟨41,3,[(1,cP 0),(3,.c (.ref 1)),(10,.c (.ref 2)),(11,cI a),(12,cI b),(24,.c (.ref 1)),(25,cI d),(26,cI h)],[(0,.var (avs sWorld e)),(1,.arr 3 (.i .i64) f),(2,.arr 229 sI6 g)]⟩
noncomputable def BiareWhole_1 {R:Type} (k:Nat) (X0:ViareWhole_1->Int->Option R) (X1:ViareWhole_1->Option R) (c1:CiareWhole_1) (rec:ViareWhole_1->Option R) (v1:ViareWhole_1):Option R:=if (decide (v1<c1.2.2.1))=true then if 0<=v1 then if v1<(c1.2.2.2.2.1.length:Int) then ix c1.2.2.2.2.1 v1.toNat fun x4=>if (x4 !=v1)=true then X0 v1 x4 else rec (i64.wrap (v1+1)) else none else none else X1 v1
noncomputable def LiareWhole_1 {R:Type} (k:Nat) (X0:ViareWhole_1->Int->Option R) (X1:ViareWhole_1->Option R) (c:CiareWhole_1):Nat->ViareWhole_1->Option R
 | 0,_=>none
 | n+1,v=>BiareWhole_1 k X0 X1 c (LiareWhole_1 k X0 X1 c n) v
noncomputable def fiareWhole_1 {R:Type} (k:Nat) (K:Ex->St->Option R) (c:CiareWhole_1):=lpf E k 228 Tryz.f228 1 [0,1,3,10,11,12,24,25,26] (StiareWhole_1 c) K
theorem qiareWhole_1 (k:Nat) (K:Ex->St->Option R) (X0 X1 c) (h:QL (fiareWhole_1 k K c) (BiareWhole_1 k X0 X1 c)) (v):LiareWhole_1 k X0 X1 c k v=fiareWhole_1 k K c k v:=lq h (fun _ _=>rfl) (fun _=>rfl) (fun _=>rfl) k v
abbrev CiareWhole_0:=Int×TWorld×(List I6)
abbrev ViareWhole_0:=Int×(List Int)
def StiareWhole_0:CiareWhole_0->ViareWhole_0->St
 | (a,b,d),(e,f)=>⟨41,3,[(1,cP 0),(3,.c (.ref 1)),(10,.c (.ref 2)),(11,cI a),(12,cI e)],[(0,.var (avs sWorld b)),(1,.arr 3 (.i .i64) f),(2,.arr 229 sI6 d)]⟩
noncomputable def BiareWhole_0 {R:Type} (k:Nat) (X0:ViareWhole_0->Option R) (c0:CiareWhole_0) (rec:ViareWhole_0->Option R) (v0:ViareWhole_0):Option R:=if (decide (v0.1<c0.1))=true then if 0<=v0.1 then if v0.1<(c0.2.2.length:Int) then ix c0.2.2 v0.1.toNat fun x2=>if (v0.2.length+([x2.1]).length)*8<=140737488355328 then rec ((i64.wrap (v0.1+1)),(v0.2++[x2.1])) else none else none else none else X0 v0
noncomputable def LiareWhole_0 {R:Type} (k:Nat) (X0:ViareWhole_0->Option R) (c:CiareWhole_0):Nat->ViareWhole_0->Option R
 | 0,_=>none
 | n+1,v=>BiareWhole_0 k X0 c (LiareWhole_0 k X0 c n) v
noncomputable def fiareWhole_0 {R:Type} (k:Nat) (K:Ex->St->Option R) (c:CiareWhole_0):=lpf E k 228 Tryz.f228 0 [0,1,3,10,11,12] (StiareWhole_0 c) K
theorem qiareWhole_0 (k:Nat) (K:Ex->St->Option R) (X0 c) (h:QL (fiareWhole_0 k K c) (BiareWhole_0 k X0 c)) (v):LiareWhole_0 k X0 c k v=fiareWhole_0 k K c k v:=lq h (fun _ _=>rfl) (fun _=>rfl) (fun _=>rfl) k v
noncomputable def NiareWhole:Ex->St->Option (Bool):=finish E (rs 228) Tryz.f228
theorem eiareWhole (k:Nat) (a0):FiareWhole (k+1) a0=(FipacketsOf k a0).bind fun p1=>LiareWhole_0 k (fun v0=>(FgSort_int k v0.2).bind fun p3=>LiareWhole_1 k (fun (v1:Int) (x4:Int)=>some false) (fun (v1:Int)=>(FisumOf k a0.2.2.2.2.2.2.2.1).bind fun p5=>some ((p3.length:Int)==p5)) ((p1.length:Int),v0.1,(p3.length:Int),a0,p3,p1) k 0) ((p1.length:Int),a0,p1) k (0,[]):=by
 simp (maxSteps:=9999999) (disch:=(refine QL.mk fun n0 v=> ?_;unfold BiareWhole_0;simp (maxSteps:=9999999) (disch:=(refine QL.mk fun n1 v=> ?_;kernel_rfl)) only [↓qiareWhole_1 (R:=Bool) k (kon0 E k 228 Tryz.f228 1 NiareWhole)];kernel_rfl)) only [↓qiareWhole_0 (R:=Bool) k (kon0 E k 228 Tryz.f228 0 NiareWhole)]
 kernel_rfl
noncomputable def FiIsWorld (k:Nat) (a0:TWorld):Option (Bool):=den E k 125 [.agg (avs sWorld a0)]
theorem eiIsWorld (k:Nat) (a0):FiIsWorld (k+1) a0=(FiIsSky k a0.1).bind fun p1=>if (p1==true)=true then (FiIsProgram k a0.2.1).bind fun p2=>if (p2==true)=true then (FiIsLaw k a0.2.2.1 a0.2.1).bind fun p3=>if (p3==true)=true then (FiNodesOf k a0.1).bind fun p4=>if ((a0.2.1.1==p4)==true)=true then if ((a0.2.1.2.1==(a0.1.2.1.length:Int))==true)=true then (FiAreOffsets k a0.2.1 a0.2.2.2.1).bind fun p5=>if (p5==true)=true then (FiInRange k a0.2.2.2.2.2.2.2.2.2.2.2.1 1 60).bind fun p6=>if (p6==true)=true then (FiInRange k a0.2.2.2.2.2.2.2.2.2.2.1 0 a0.2.2.2.2.2.2.2.2.2.2.2.1).bind fun p7=>if (p7==true)=true then (FiareBatteries k a0).bind fun p8=>if (p8==true)=true then (FiareQueues k a0).bind fun p9=>if (p9==true)=true then (FiareFlows k a0).bind fun p10=>if (p10==true)=true then (FiareWhole k a0).bind fun p11=>some p11 else some false else some false else some false else some false else some false else some false else some false else some false else some false else some false else some false:=by kernel_rfl
noncomputable def FiFaultOf (k:Nat) (a0:TWorld):Option (ByteArray):=den E k 28 [.agg (avs sWorld a0)]
theorem eiFaultOf (k:Nat) (a0):FiFaultOf (k+1) a0=(FiIsWorld k a0).bind fun p1=>if (!p1)=true then some (⟨#[119,111,114,108,100]⟩:ByteArray) else (FiIsQuiet k a0).bind fun p2=>if (!p2)=true then some (⟨#[113,117,105,101,116]⟩:ByteArray) else (FiIsInContact k a0).bind fun p3=>if (!p3)=true then some (⟨#[99,111,110,116,97,99,116]⟩:ByteArray) else (FiIsPowered k a0).bind fun p4=>if (!p4)=true then some (⟨#[112,111,119,101,114]⟩:ByteArray) else (FiIsLawful k a0).bind fun p5=>if (!p5)=true then some (⟨#[108,97,119]⟩:ByteArray) else (FiIsLoopFree k a0).bind fun p6=>if (!p6)=true then some (⟨#[108,111,111,112]⟩:ByteArray) else some (⟨#[]⟩:ByteArray):=by kernel_rfl
noncomputable def FleqBattery (k:Nat) (a0:I6) (a1:I6):Option (Bool):=den E k 187 [.agg (avs sI6 a0),.agg (avs sI6 a1)]
noncomputable def FleqBatteryS (k:Nat) (a0:List I6) (a1:List I6):Option (Bool):=den E k 71 [.c (.l 119 sI6 a0),.c (.l 119 sI6 a1)]
noncomputable def FleqFault (k:Nat) (a0:I4) (a1:I4):Option (Bool):=den E k 191 [.agg (avs sI4 a0),.agg (avs sI4 a1)]
noncomputable def FleqFaultS (k:Nat) (a0:List I4) (a1:List I4):Option (Bool):=den E k 75 [.c (.l 90 sI4 a0),.c (.l 90 sI4 a1)]
noncomputable def FleqFlow (k:Nat) (a0:I4) (a1:I4):Option (Bool):=den E k 189 [.agg (avs sI4 a0),.agg (avs sI4 a1)]
noncomputable def FleqFlowS (k:Nat) (a0:List I4) (a1:List I4):Option (Bool):=den E k 73 [.c (.l 89 sI4 a0),.c (.l 89 sI4 a1)]
noncomputable def FleqIntS (k:Nat) (a0:List Int) (a1:List Int):Option (Bool):=den E k 18 [.c (.l 3 (.i .i64) a0),.c (.l 3 (.i .i64) a1)]
noncomputable def FleqLaw (k:Nat) (a0:List Int) (a1:List Int):Option (Bool):=den E k 19 [.agg [.l 3 (.i .i64) a0],.agg [.l 3 (.i .i64) a1]]
noncomputable def FleqPacket (k:Nat) (a0:I6) (a1:I6):Option (Bool):=den E k 192 [.agg (avs sI6 a0),.agg (avs sI6 a1)]
noncomputable def FleqPacketS (k:Nat) (a0:List I6) (a1:List I6):Option (Bool):=den E k 76 [.c (.l 229 sI6 a0),.c (.l 229 sI6 a1)]
noncomputable def FleqLink (k:Nat) (a0:I2) (a1:I2):Option (Bool):=den E k 435 [.agg [vI a0.1,vI a0.2],.agg [vI a1.1,vI a1.2]]
noncomputable def FleqLinkS (k:Nat) (a0:List I2) (a1:List I2):Option (Bool):=den E k 376 [.c (.l 288 sI2 a0),.c (.l 288 sI2 a1)]
noncomputable def FleqSpan (k:Nat) (a0:I2) (a1:I2):Option (Bool):=den E k 375 [.agg [vI a0.1,vI a0.2],.agg [vI a1.1,vI a1.2]]
noncomputable def FleqTable (k:Nat) (a0:Int×(List Int)×List Int) (a1:Int×(List Int)×List Int):Option (Bool):=den E k 436 [.agg (avs sTable a0),.agg (avs sTable a1)]
noncomputable def FleqTableS (k:Nat) (a0:List (Int×(List Int)×List Int)) (a1:List (Int×(List Int)×List Int)):Option (Bool):=den E k 377 [.c (.l 290 sTable a0),.c (.l 290 sTable a1)]
noncomputable def FleqPiece (k:Nat) (a0:TPiece) (a1:TPiece):Option (Bool):=den E k 298 [.agg (avs sPiece a0),.agg (avs sPiece a1)]
noncomputable def FleqPieceS (k:Nat) (a0:List TPiece) (a1:List TPiece):Option (Bool):=den E k 186 [.c (.l 198 sPiece a0),.c (.l 198 sPiece a1)]
noncomputable def FleqProgram (k:Nat) (a0:TProgram) (a1:TProgram):Option (Bool):=den E k 70 [.agg (avs sProgram a0),.agg (avs sProgram a1)]
noncomputable def FleqQueue (k:Nat) (a0:List I6) (a1:List I6):Option (Bool):=den E k 188 [.agg [.l 229 sI6 a0],.agg [.l 229 sI6 a1]]
noncomputable def FleqQueueS (k:Nat) (a0:List (List I6)) (a1:List (List I6)):Option (Bool):=den E k 72 [.c (.l 117 sQueue a0),.c (.l 117 sQueue a1)]
noncomputable def FleqSent (k:Nat) (a0:I4) (a1:I4):Option (Bool):=den E k 193 [.agg (avs sI4 a0),.agg (avs sI4 a1)]
noncomputable def FleqSentS (k:Nat) (a0:List I4) (a1:List I4):Option (Bool):=den E k 77 [.c (.l 168 sI4 a0),.c (.l 168 sI4 a1)]
noncomputable def FleqSat (k:Nat) (a0:I4) (a1:I4):Option (Bool):=den E k 194 [.agg (avs sI4 a0),.agg (avs sI4 a1)]
noncomputable def FleqSatS (k:Nat) (a0:List I4) (a1:List I4):Option (Bool):=den E k 78 [.c (.l 181 sI4 a0),.c (.l 181 sI4 a1)]
noncomputable def FleqSite (k:Nat) (a0:I3) (a1:I3):Option (Bool):=den E k 195 [.agg (avs sI3 a0),.agg (avs sI3 a1)]
noncomputable def FleqSiteS (k:Nat) (a0:List I3) (a1:List I3):Option (Bool):=den E k 79 [.c (.l 183 sI3 a0),.c (.l 183 sI3 a1)]
noncomputable def FleqArc (k:Nat) (a0:I2) (a1:I2):Option (Bool):=den E k 299 [.agg [vI a0.1,vI a0.2],.agg [vI a1.1,vI a1.2]]
noncomputable def FleqZone (k:Nat) (a0:I3) (a1:I3):Option (Bool):=den E k 196 [.agg (avs sI3 a0),.agg (avs sI3 a1)]
noncomputable def FleqZoneS (k:Nat) (a0:List I3) (a1:List I3):Option (Bool):=den E k 80 [.c (.l 188 sZone a0),.c (.l 188 sZone a1)]
noncomputable def FleqSky (k:Nat) (a0:TSky) (a1:TSky):Option (Bool):=den E k 17 [.agg (avs sSky a0),.agg (avs sSky a1)]
noncomputable def FleqStream (k:Nat) (a0:Int×Int×List Int) (a1:Int×Int×List Int):Option (Bool):=den E k 190 [.agg (avs sStream a0),.agg (avs sStream a1)]
noncomputable def FleqStreamS (k:Nat) (a0:List (Int×Int×List Int)) (a1:List (Int×Int×List Int)):Option (Bool):=den E k 74 [.c (.l 225 sStream a0),.c (.l 225 sStream a1)]
noncomputable def FleqWorld (k:Nat) (a0:TWorld) (a1:TWorld):Option (Bool):=den E k 16 [.agg (avs sWorld a0),.agg (avs sWorld a1)]
noncomputable def FlszBatteryS (k:Nat) (a0:List I6) (a1:Int):Option (Int):=den E k 104 [.c (.l 252 sI6 a0),cI a1]
noncomputable def FlszFaultS (k:Nat) (a0:List I4) (a1:Int):Option (Int):=den E k 108 [.c (.l 85 sI4 a0),cI a1]
noncomputable def FlszFlowS (k:Nat) (a0:List I4) (a1:Int):Option (Int):=den E k 106 [.c (.l 83 sI4 a0),cI a1]
noncomputable def FlszIntS (k:Nat) (a0:List Int) (a1:Int):Option (Int):=den E k 45 [.c (.l 3 (.i .i64) a0),cI a1]
noncomputable def FlszLaw (k:Nat) (a0:List Int) (a1:Int):Option (Int):=den E k 10 [.agg [.l 3 (.i .i64) a0],cI a1]
noncomputable def FlszPacketS (k:Nat) (a0:List I6) (a1:Int):Option (Int):=den E k 109 [.c (.l 256 sI6 a0),cI a1]
noncomputable def FlszLinkS (k:Nat) (a0:List I2) (a1:Int):Option (Int):=den E k 378 [.c (.l 382 sI2 a0),cI a1]
noncomputable def FlszTable (k:Nat) (a0:Int×(List Int)×List Int) (a1:Int):Option (Int):=den E k 437 [.agg (avs sTable a0),cI a1]
noncomputable def FlszTableS (k:Nat) (a0:List (Int×(List Int)×List Int)) (a1:Int):Option (Int):=den E k 379 [.c (.l 380 sTable a0),cI a1]
noncomputable def FlszPiece (k:Nat) (a0:TPiece) (a1:Int):Option (Int):=den E k 304 [.agg (avs sLPiece a0),cI a1]
noncomputable def FlszPieceS (k:Nat) (a0:List TPiece) (a1:Int):Option (Int):=den E k 202 [.c (.l 311 sLPiece a0),cI a1]
noncomputable def FlszProgram (k:Nat) (a0:TProgram) (a1:Int):Option (Int):=den E k 103 [.agg (avs sLProgram a0),cI a1]
noncomputable def FlszQueue (k:Nat) (a0:List I6) (a1:Int):Option (Int):=den E k 203 [.agg [.l 256 sI6 a0],cI a1]
noncomputable def FlszQueueS (k:Nat) (a0:List (List I6)) (a1:Int):Option (Int):=den E k 105 [.c (.l 238 sLQueue a0),cI a1]
noncomputable def FlszSentS (k:Nat) (a0:List I4) (a1:Int):Option (Int):=den E k 110 [.c (.l 258 sI4 a0),cI a1]
noncomputable def FlszSatS (k:Nat) (a0:List I4) (a1:Int):Option (Int):=den E k 42 [.c (.l 207 sI4 a0),cI a1]
noncomputable def FlszSiteS (k:Nat) (a0:List I3) (a1:Int):Option (Int):=den E k 43 [.c (.l 209 sI3 a0),cI a1]
noncomputable def FlszZoneS (k:Nat) (a0:List I3) (a1:Int):Option (Int):=den E k 44 [.c (.l 213 sZone a0),cI a1]
noncomputable def FlszSky (k:Nat) (a0:TSky) (a1:Int):Option (Int):=den E k 9 [.agg (avs sLSky a0),cI a1]
noncomputable def FlszStream (k:Nat) (a0:Int×Int×List Int) (a1:Int):Option (Int):=den E k 204 [.agg (avs sStream a0),cI a1]
noncomputable def FlszStreamS (k:Nat) (a0:List (Int×Int×List Int)) (a1:Int):Option (Int):=den E k 107 [.c (.l 240 sStream a0),cI a1]
noncomputable def FlszWorld (k:Nat) (a0:TWorld) (a1:Int):Option (Int):=den E k 25 [.agg (avs sLWorld a0),cI a1]
noncomputable def FltoBattery (k:Nat) (a0:I6):Option I6:=den E k 219 [.agg (avs sI6 a0)]
noncomputable def FltoBatteryS (k:Nat) (a0:List I6):Option (List I6):=den E k 118 [.c (.l 252 sI6 a0)]
noncomputable def FltoFault (k:Nat) (a0:I4):Option I4:=den E k 148 [.agg (avs sI4 a0)]
noncomputable def FltoFaultS (k:Nat) (a0:List I4):Option (List I4):=den E k 122 [.c (.l 85 sI4 a0)]
noncomputable def FltoFlow (k:Nat) (a0:I4):Option I4:=den E k 147 [.agg (avs sI4 a0)]
noncomputable def FltoFlowS (k:Nat) (a0:List I4):Option (List I4):=den E k 120 [.c (.l 83 sI4 a0)]
noncomputable def FltoIntS (k:Nat) (a0:List Int):Option (List Int):=den E k 13 [.c (.l 3 (.i .i64) a0)]
noncomputable def FltoLaw (k:Nat) (a0:List Int):Option (List Int):=den E k 14 [.agg [.l 3 (.i .i64) a0]]
noncomputable def FltoPacket (k:Nat) (a0:I6):Option I6:=den E k 222 [.agg (avs sI6 a0)]
noncomputable def FltoPacketS (k:Nat) (a0:List I6):Option (List I6):=den E k 123 [.c (.l 256 sI6 a0)]
noncomputable def FltoLink (k:Nat) (a0:I2):Option I2:=den E k 441 [.agg [vI a0.1,vI a0.2]]
noncomputable def FltoLinkS (k:Nat) (a0:List I2):Option (List I2):=den E k 384 [.c (.l 382 sI2 a0)]
noncomputable def FltoSpan (k:Nat) (a0:I2):Option I2:=den E k 383 [.agg [vI a0.1,vI a0.2]]
noncomputable def FltoTable (k:Nat) (a0:Int×(List Int)×List Int):Option (Int×(List Int)×List Int):=den E k 442 [.agg (avs sTable a0)]
noncomputable def FltoTableS (k:Nat) (a0:List (Int×(List Int)×List Int)):Option (List (Int×(List Int)×List Int)):=den E k 385 [.c (.l 380 sTable a0)]
noncomputable def FltoPiece (k:Nat) (a0:TPiece):Option TPiece:=den E k 317 [.agg (avs sLPiece a0)]
noncomputable def FltoPieceS (k:Nat) (a0:List TPiece):Option (List TPiece):=den E k 218 [.c (.l 311 sLPiece a0)]
noncomputable def FltoProgram (k:Nat) (a0:TProgram):Option TProgram:=den E k 117 [.agg (avs sLProgram a0)]
noncomputable def FltoQueue (k:Nat) (a0:List I6):Option (List I6):=den E k 220 [.agg [.l 256 sI6 a0]]
noncomputable def FltoQueueS (k:Nat) (a0:List (List I6)):Option (List (List I6)):=den E k 119 [.c (.l 238 sLQueue a0)]
noncomputable def FltoSent (k:Nat) (a0:I4):Option I4:=den E k 223 [.agg (avs sI4 a0)]
noncomputable def FltoSentS (k:Nat) (a0:List I4):Option (List I4):=den E k 124 [.c (.l 258 sI4 a0)]
noncomputable def FltoSat (k:Nat) (a0:I4):Option I4:=den E k 167 [.agg (avs sI4 a0)]
noncomputable def FltoSatS (k:Nat) (a0:List I4):Option (List I4):=den E k 56 [.c (.l 207 sI4 a0)]
noncomputable def FltoSite (k:Nat) (a0:I3):Option I3:=den E k 168 [.agg (avs sI3 a0)]
noncomputable def FltoSiteS (k:Nat) (a0:List I3):Option (List I3):=den E k 57 [.c (.l 209 sI3 a0)]
noncomputable def FltoArc (k:Nat) (a0:I2):Option I2:=den E k 280 [.agg [vI a0.1,vI a0.2]]
noncomputable def FltoZone (k:Nat) (a0:I3):Option I3:=den E k 169 [.agg (avs sI3 a0)]
noncomputable def FltoZoneS (k:Nat) (a0:List I3):Option (List I3):=den E k 58 [.c (.l 213 sZone a0)]
noncomputable def FltoSky (k:Nat) (a0:TSky):Option TSky:=den E k 12 [.agg (avs sLSky a0)]
noncomputable def FltoStream (k:Nat) (a0:Int×Int×List Int):Option (Int×Int×List Int):=den E k 221 [.agg (avs sStream a0)]
noncomputable def FltoStreamS (k:Nat) (a0:List (Int×Int×List Int)):Option (List (Int×Int×List Int)):=den E k 121 [.c (.l 240 sStream a0)]
noncomputable def FltoWorld (k:Nat) (a0:TWorld):Option TWorld:=den E k 27 [.agg (avs sLWorld a0)]
noncomputable def FsIsSpan (k:Nat) (a0:I2):Option (Bool):=den E k 270 [.agg [vI a0.1,vI a0.2]]
theorem esIsSpan (k:Nat) (a0):FsIsSpan (k+1) a0=if ((decide (a0.1>=0))==true)=true then if ((decide (a0.2<=1000))==true)=true then some (decide (a0.1<a0.2)) else some false else some false:=by kernel_rfl
noncomputable def FsInSpan (k:Nat) (a0:I2) (a1:Int):Option (Bool):=den E k 245 [.agg [vI a0.1,vI a0.2],cI a1]
theorem esInSpan (k:Nat) (a0 a1):FsInSpan (k+1) a0 a1=(FsIsSpan k a0).bind fun p1=>if (p1==true)=true then if ((decide (a0.1<=a1))==true)=true then some (decide (a1<a0.2)) else some false else some false:=by kernel_rfl
noncomputable def Fsl31Now (k:Nat) (a0:I4) (a1:Int):Option (Bool):=den E k 312 [.agg (avs sI4 a0),cI a1]
theorem esl31Now (k:Nat) (a0 a1):Fsl31Now (k+1) a0 a1=(FsInSpan k a0.2.2 a1).bind fun p1=>some p1:=by kernel_rfl
noncomputable def FsIsDown (k:Nat) (a0:List I4) (a1:Int) (a2:Int):Option (Bool):=den E k 313 [.c (.l 90 sI4 a0),cI a1,cI a2]
abbrev CsIsDown_0:=(List I4)×Int×Int
abbrev VsIsDown_0:=Int
def StsIsDown_0:CsIsDown_0->VsIsDown_0->St
 | (a,b,d),e=>⟨37,0,[(0,.c (.l 90 sI4 a)),(1,cI b),(2,cI d),(7,cI e)],[]⟩
noncomputable def BsIsDown_0 {R:Type} (k:Nat) (X0:VsIsDown_0->I4->I4->I4->Bool->Option R) (X1:VsIsDown_0->Option R) (c0:CsIsDown_0) (rec:VsIsDown_0->Option R) (v0:VsIsDown_0):Option R:=if (decide (v0<(c0.1.length:Int)))=true then if 0<=v0 then ix c0.1 v0.toNat fun x1=>if ((x1.1==c0.2.1)==true)=true then if 0<=v0 then ix c0.1 v0.toNat fun x2=>if ((x2.2.1== -1)==true)=true then if 0<=v0 then ix c0.1 v0.toNat fun x3=>(Fsl31Now k x3 c0.2.2).bind fun p4=>if p4=true then X0 v0 x1 x2 x3 p4 else rec (i64.wrap (v0+1)) else none else rec (i64.wrap (v0+1)) else none else rec (i64.wrap (v0+1)) else none else X1 v0
noncomputable def LsIsDown_0 {R:Type} (k:Nat) (X0:VsIsDown_0->I4->I4->I4->Bool->Option R) (X1:VsIsDown_0->Option R) (c:CsIsDown_0):Nat->VsIsDown_0->Option R
 | 0,_=>none
 | n+1,v=>BsIsDown_0 k X0 X1 c (LsIsDown_0 k X0 X1 c n) v
noncomputable def fsIsDown_0 {R:Type} (k:Nat) (K:Ex->St->Option R) (c:CsIsDown_0):=lpf E k 313 Tryz.f313 0 [0,0,1,2,7] (StsIsDown_0 c) K
theorem qsIsDown_0 (k:Nat) (K:Ex->St->Option R) (X0 X1 c) (h:QL (fsIsDown_0 k K c) (BsIsDown_0 k X0 X1 c)) (v):LsIsDown_0 k X0 X1 c k v=fsIsDown_0 k K c k v:=lq h (fun _ _=>rfl) (fun _=>rfl) (fun _=>rfl) k v
noncomputable def NsIsDown:Ex->St->Option (Bool):=finish E (rs 313) Tryz.f313
theorem esIsDown (k:Nat) (a0 a1 a2):FsIsDown (k+1) a0 a1 a2=LsIsDown_0 k (fun (v0:Int) x1 x2 x3 p4=>some true) (fun (v0:Int)=>some false) (a0,a1,a2) k 0:=by
 simp (disch:=(refine QL.mk fun n0 v=> ?_;kernel_rfl)) only [↓qsIsDown_0 k (kon0 E k 313 Tryz.f313 0 NsIsDown)]
 kernel_rfl
noncomputable def FsIsCut (k:Nat) (a0:List I4) (a1:Int) (a2:Int) (a3:Int):Option (Bool):=den E k 213 [.c (.l 90 sI4 a0),cI a1,cI a2,cI a3]
abbrev CsIsCut_0:=(List I4)×Int×Int×Int
abbrev VsIsCut_0:=Int
def StsIsCut_0:CsIsCut_0->VsIsCut_0->St
 | (a,b,d,e),f=>⟨68,0,[(0,.c (.l 90 sI4 a)),(1,cI b),(2,cI d),(3,cI e),(9,cI f)],[]⟩
noncomputable def BsIsCut_0 {R:Type} (k:Nat) (X0:VsIsCut_0->I4->I4->I4->I4->I4->Bool->Option R) (X1:VsIsCut_0->I4->I4->I4->Bool->Option R) (X2:VsIsCut_0->I4->I4->I4->I4->Bool->Option R) (X3:VsIsCut_0->Option R) (c0:CsIsCut_0) (rec:VsIsCut_0->Option R) (v0:VsIsCut_0):Option R:=if (decide (v0<(c0.1.length:Int)))=true then if 0<=v0 then ix c0.1 v0.toNat fun x1=>if ((x1.1==c0.2.1)==true)=true then if 0<=v0 then ix c0.1 v0.toNat fun x2=>if ((x2.2.1==c0.2.2.1)==false)=true then if 0<=v0 then ix c0.1 v0.toNat fun x3=>if ((x3.1==c0.2.2.1)==true)=true then if 0<=v0 then ix c0.1 v0.toNat fun x4=>if ((x4.2.1==c0.2.1)==true)=true then if 0<=v0 then ix c0.1 v0.toNat fun x5=>(Fsl31Now k x5 c0.2.2.2).bind fun p6=>if p6=true then X0 v0 x1 x2 x3 x4 x5 p6 else rec (i64.wrap (v0+1)) else none else rec (i64.wrap (v0+1)) else none else rec (i64.wrap (v0+1)) else none else if 0<=v0 then ix c0.1 v0.toNat fun x7=>(Fsl31Now k x7 c0.2.2.2).bind fun p8=>if p8=true then X1 v0 x1 x2 x7 p8 else rec (i64.wrap (v0+1)) else none else none else if 0<=v0 then ix c0.1 v0.toNat fun x9=>if ((x9.1==c0.2.2.1)==true)=true then if 0<=v0 then ix c0.1 v0.toNat fun x10=>if ((x10.2.1==c0.2.1)==true)=true then if 0<=v0 then ix c0.1 v0.toNat fun x11=>(Fsl31Now k x11 c0.2.2.2).bind fun p12=>if p12=true then X2 v0 x1 x9 x10 x11 p12 else rec (i64.wrap (v0+1)) else none else rec (i64.wrap (v0+1)) else none else rec (i64.wrap (v0+1)) else none else none else X3 v0
noncomputable def LsIsCut_0 {R:Type} (k:Nat) (X0:VsIsCut_0->I4->I4->I4->I4->I4->Bool->Option R) (X1:VsIsCut_0->I4->I4->I4->Bool->Option R) (X2:VsIsCut_0->I4->I4->I4->I4->Bool->Option R) (X3:VsIsCut_0->Option R) (c:CsIsCut_0):Nat->VsIsCut_0->Option R
 | 0,_=>none
 | n+1,v=>BsIsCut_0 k X0 X1 X2 X3 c (LsIsCut_0 k X0 X1 X2 X3 c n) v
noncomputable def fsIsCut_0 {R:Type} (k:Nat) (K:Ex->St->Option R) (c:CsIsCut_0):=lpf E k 213 Tryz.f213 0 [0,0,1,2,3,9] (StsIsCut_0 c) K
theorem qsIsCut_0 (k:Nat) (K:Ex->St->Option R) (X0 X1 X2 X3 c) (h:QL (fsIsCut_0 k K c) (BsIsCut_0 k X0 X1 X2 X3 c)) (v):LsIsCut_0 k X0 X1 X2 X3 c k v=fsIsCut_0 k K c k v:=lq h (fun _ _=>rfl) (fun _=>rfl) (fun _=>rfl) k v
noncomputable def NsIsCut:Ex->St->Option (Bool):=finish E (rs 213) Tryz.f213
theorem esIsCut (k:Nat) (a0 a1 a2 a3):FsIsCut (k+1) a0 a1 a2 a3=LsIsCut_0 k (fun (v0:Int) x1 x2 x3 x4 x5 p6=>some true) (fun (v0:Int) x1 x2 x7 p8=>some true) (fun (v0:Int) x1 x9 x10 x11 p12=>some true) (fun (v0:Int)=>(FsIsDown k a0 a1 a3).bind fun p13=>if (p13==false)=true then (FsIsDown k a0 a2 a3).bind fun p14=>some p14 else some true) (a0,a1,a2,a3) k 0:=by
 simp (disch:=(refine QL.mk fun n0 v=> ?_;kernel_rfl)) only [↓qsIsCut_0 k (kon0 E k 213 Tryz.f213 0 NsIsCut)]
 kernel_rfl
noncomputable def Fsl1In (k:Nat) (a0:Int) (a1:Int) (a2:Int):Option (Bool):=den E k 47 [cI a0,cI a1,cI a2]
theorem esl1In (k:Nat) (a0 a1 a2):Fsl1In (k+1) a0 a1 a2=if ((decide (a0>=a1))==true)=true then some (decide (a0<=a2)) else some false:=by kernel_rfl
noncomputable def FsHasLink (k:Nat) (a0:TProgram) (a1:Int) (a2:Int) (a3:Int):Option (Bool):=den E k 310 [.agg (avs sProgram a0),cI a1,cI a2,cI a3]
abbrev CsHasLink_0:=Int×Int×(List I2)
abbrev VsHasLink_0:=Int
def StsHasLink_0:CsHasLink_0->VsHasLink_0->St
 | (a,b,d),e=>⟨48,0,[(2,cI a),(3,cI b),(9,.c (.l 288 sI2 d)),(10,cI e)],[]⟩
noncomputable def BsHasLink_0 {R:Type} (k:Nat) (X0:VsHasLink_0->I2->I2->Option R) (X1:VsHasLink_0->I2->Option R) (X2:VsHasLink_0->Option R) (c0:CsHasLink_0) (rec:VsHasLink_0->Option R) (v0:VsHasLink_0):Option R:=if (decide (v0<(c0.2.2.length:Int)))=true then if 0<=v0 then ix c0.2.2 v0.toNat fun x3=>if ((eqT sI2 x3 (c0.1,c0.2.1))==false)=true then if 0<=v0 then ix c0.2.2 v0.toNat fun x4=>if (eqT sI2 x4 (c0.2.1,c0.1))=true then X0 v0 x3 x4 else rec (i64.wrap (v0+1)) else none else X1 v0 x3 else none else X2 v0
noncomputable def LsHasLink_0 {R:Type} (k:Nat) (X0:VsHasLink_0->I2->I2->Option R) (X1:VsHasLink_0->I2->Option R) (X2:VsHasLink_0->Option R) (c:CsHasLink_0):Nat->VsHasLink_0->Option R
 | 0,_=>none
 | n+1,v=>BsHasLink_0 k X0 X1 X2 c (LsHasLink_0 k X0 X1 X2 c n) v
noncomputable def fsHasLink_0 {R:Type} (k:Nat) (K:Ex->St->Option R) (c:CsHasLink_0):=lpf E k 310 Tryz.f310 0 [0,2,3,9,10] (StsHasLink_0 c) K
theorem qsHasLink_0 (k:Nat) (K:Ex->St->Option R) (X0 X1 X2 c) (h:QL (fsHasLink_0 k K c) (BsHasLink_0 k X0 X1 X2 c)) (v):LsHasLink_0 k X0 X1 X2 c k v=fsHasLink_0 k K c k v:=lq h (fun _ _=>rfl) (fun _=>rfl) (fun _=>rfl) k v
noncomputable def NsHasLink:Ex->St->Option (Bool):=finish E (rs 310) Tryz.f310
theorem esHasLink (k:Nat) (a0 a1 a2 a3):FsHasLink (k+1) a0 a1 a2 a3=(Fsl1In k a1 0 (i64.wrap ((a0.2.2.2.length:Int)-1))).bind fun p1=>if (!p1)=true then some false else if 0<=a1 then ix a0.2.2.2 a1.toNat fun x2=>LsHasLink_0 k (fun (v0:Int) x3 x4=>some true) (fun (v0:Int) x3=>some true) (fun (v0:Int)=>some false) (a2,a3,x2.2.1) k 0 else none:=by
 simp (disch:=(refine QL.mk fun n0 v=> ?_;kernel_rfl)) only [↓qsHasLink_0 k (kon0 E k 310 Tryz.f310 0 NsHasLink)]
 kernel_rfl
noncomputable def FsPieceAt (k:Nat) (a0:TProgram) (a1:Int):Option (Int):=den E k 311 [.agg (avs sProgram a0),cI a1]
abbrev CsPieceAt_0:=Int×TProgram
abbrev VsPieceAt_0:=Int
def StsPieceAt_0:CsPieceAt_0->VsPieceAt_0->St
 | (a,b),c=>⟨22,1,[(1,cI a),(2,cP 0),(5,cI c)],[(0,.var (avs sProgram b))]⟩
noncomputable def BsPieceAt_0 {R:Type} (k:Nat) (X0:VsPieceAt_0->TPiece->Bool->Option R) (X1:VsPieceAt_0->Option R) (c0:CsPieceAt_0) (rec:VsPieceAt_0->Option R) (v0:VsPieceAt_0):Option R:=if (decide (v0<(c0.2.2.2.2.length:Int)))=true then if 0<=v0 then ix c0.2.2.2.2 v0.toNat fun x1=>(FsInSpan k x1.1 c0.1).bind fun p2=>if p2=true then X0 v0 x1 p2 else rec (i64.wrap (v0+1)) else none else X1 v0
noncomputable def LsPieceAt_0 {R:Type} (k:Nat) (X0:VsPieceAt_0->TPiece->Bool->Option R) (X1:VsPieceAt_0->Option R) (c:CsPieceAt_0):Nat->VsPieceAt_0->Option R
 | 0,_=>none
 | n+1,v=>BsPieceAt_0 k X0 X1 c (LsPieceAt_0 k X0 X1 c n) v
noncomputable def fsPieceAt_0 {R:Type} (k:Nat) (K:Ex->St->Option R) (c:CsPieceAt_0):=lpf E k 311 Tryz.f311 0 [0,1,2,5] (StsPieceAt_0 c) K
theorem qsPieceAt_0 (k:Nat) (K:Ex->St->Option R) (X0 X1 c) (h:QL (fsPieceAt_0 k K c) (BsPieceAt_0 k X0 X1 c)) (v):LsPieceAt_0 k X0 X1 c k v=fsPieceAt_0 k K c k v:=lq h (fun _ _=>rfl) (fun _=>rfl) (fun _=>rfl) k v
noncomputable def NsPieceAt:Ex->St->Option (Int):=finish E (rs 311) Tryz.f311
theorem esPieceAt (k:Nat) (a0 a1):FsPieceAt (k+1) a0 a1=LsPieceAt_0 k (fun (v0:Int) x1 p2=>some v0) (fun (v0:Int)=>some (-1)) (a1,a0) k 0:=by
 simp (disch:=(refine QL.mk fun n0 v=> ?_;kernel_rfl)) only [↓qsPieceAt_0 k (kon0 E k 311 Tryz.f311 0 NsPieceAt)]
 kernel_rfl
noncomputable def FsIsLinked (k:Nat) (a0:TProgram) (a1:Int) (a2:Int) (a3:Int):Option (Bool):=den E k 212 [.agg (avs sProgram a0),cI a1,cI a2,cI a3]
theorem esIsLinked (k:Nat) (a0 a1 a2 a3):FsIsLinked (k+1) a0 a1 a2 a3=(FsPieceAt k a0 a3).bind fun p1=>(FsHasLink k a0 p1 a1 a2).bind fun p2=>some p2:=by kernel_rfl
noncomputable def FsIsInContact (k:Nat) (a0:TWorld):Option (Bool):=den E k 113 [.agg (avs sWorld a0)]
abbrev CsIsInContact_0:=TWorld
abbrev VsIsInContact_0:=Int
def StsIsInContact_0:CsIsInContact_0->VsIsInContact_0->St
 | a,b=>⟨38,1,[(1,cP 0),(3,cI b)],[(0,.var (avs sWorld a))]⟩
noncomputable def BsIsInContact_0 {R:Type} (k:Nat) (X0:VsIsInContact_0->I4->Bool->Bool->Option R) (X1:VsIsInContact_0->I4->Bool->Option R) (X2:VsIsInContact_0->Option R) (c0:CsIsInContact_0) (rec:VsIsInContact_0->Option R) (v0:VsIsInContact_0):Option R:=if (decide (v0<(c0.2.2.2.2.2.2.2.2.2.2.2.2.2.length:Int)))=true then if 0<=v0 then ix c0.2.2.2.2.2.2.2.2.2.2.2.2.2 v0.toNat fun x1=>(FsIsLinked k c0.2.1 x1.2.1 x1.2.2.1 x1.1).bind fun p2=>if ((!p2)==false)=true then (FsIsCut k c0.2.2.2.2.2.2.2.2.2.1 x1.2.1 x1.2.2.1 x1.1).bind fun p3=>if p3=true then X0 v0 x1 p2 p3 else rec (i64.wrap (v0+1)) else X1 v0 x1 p2 else none else X2 v0
noncomputable def LsIsInContact_0 {R:Type} (k:Nat) (X0:VsIsInContact_0->I4->Bool->Bool->Option R) (X1:VsIsInContact_0->I4->Bool->Option R) (X2:VsIsInContact_0->Option R) (c:CsIsInContact_0):Nat->VsIsInContact_0->Option R
 | 0,_=>none
 | n+1,v=>BsIsInContact_0 k X0 X1 X2 c (LsIsInContact_0 k X0 X1 X2 c n) v
noncomputable def fsIsInContact_0 {R:Type} (k:Nat) (K:Ex->St->Option R) (c:CsIsInContact_0):=lpf E k 113 Tryz.f113 0 [0,1,3] (StsIsInContact_0 c) K
theorem qsIsInContact_0 (k:Nat) (K:Ex->St->Option R) (X0 X1 X2 c) (h:QL (fsIsInContact_0 k K c) (BsIsInContact_0 k X0 X1 X2 c)) (v):LsIsInContact_0 k X0 X1 X2 c k v=fsIsInContact_0 k K c k v:=lq h (fun _ _=>rfl) (fun _=>rfl) (fun _=>rfl) k v
noncomputable def NsIsInContact:Ex->St->Option (Bool):=finish E (rs 113) Tryz.f113
theorem esIsInContact (k:Nat) (a0):FsIsInContact (k+1) a0=LsIsInContact_0 k (fun (v0:Int) x1 p2 p3=>some false) (fun (v0:Int) x1 p2=>some false) (fun (v0:Int)=>some true) a0 k 0:=by
 simp (disch:=(refine QL.mk fun n0 v=> ?_;kernel_rfl)) only [↓qsIsInContact_0 k (kon0 E k 113 Tryz.f113 0 NsIsInContact)]
 kernel_rfl
noncomputable def Fsl15Has (k:Nat) (a0:List Int) (a1:Int):Option (Bool):=den E k 314 [.c (.l 3 (.i .i64) a0),cI a1]
abbrev Csl15Has_0:=(List Int)×Int
abbrev Vsl15Has_0:=Int
def Stsl15Has_0:Csl15Has_0->Vsl15Has_0->St
 | (a,b),d=>⟨18,0,[(0,.c (.l 3 (.i .i64) a)),(1,cI b),(5,cI d)],[]⟩
noncomputable def Bsl15Has_0 {R:Type} (k:Nat) (X0:Vsl15Has_0->Int->Option R) (X1:Vsl15Has_0->Option R) (c0:Csl15Has_0) (rec:Vsl15Has_0->Option R) (v0:Vsl15Has_0):Option R:=if (decide (v0<(c0.1.length:Int)))=true then if 0<=v0 then ix c0.1 v0.toNat fun x1=>if (x1==c0.2)=true then X0 v0 x1 else rec (i64.wrap (v0+1)) else none else X1 v0
noncomputable def Lsl15Has_0 {R:Type} (k:Nat) (X0:Vsl15Has_0->Int->Option R) (X1:Vsl15Has_0->Option R) (c:Csl15Has_0):Nat->Vsl15Has_0->Option R
 | 0,_=>none
 | n+1,v=>Bsl15Has_0 k X0 X1 c (Lsl15Has_0 k X0 X1 c n) v
noncomputable def fsl15Has_0 {R:Type} (k:Nat) (K:Ex->St->Option R) (c:Csl15Has_0):=lpf E k 314 Tryz.f314 0 [0,0,1,5] (Stsl15Has_0 c) K
theorem qsl15Has_0 (k:Nat) (K:Ex->St->Option R) (X0 X1 c) (h:QL (fsl15Has_0 k K c) (Bsl15Has_0 k X0 X1 c)) (v):Lsl15Has_0 k X0 X1 c k v=fsl15Has_0 k K c k v:=lq h (fun _ _=>rfl) (fun _=>rfl) (fun _=>rfl) k v
noncomputable def Nsl15Has:Ex->St->Option (Bool):=finish E (rs 314) Tryz.f314
theorem esl15Has (k:Nat) (a0 a1):Fsl15Has (k+1) a0 a1=Lsl15Has_0 k (fun (v0:Int) (x1:Int)=>some true) (fun (v0:Int)=>some false) (a0,a1) k 0:=by
 simp (disch:=(refine QL.mk fun n0 v=> ?_;kernel_rfl)) only [↓qsl15Has_0 k (kon0 E k 314 Tryz.f314 0 Nsl15Has)]
 kernel_rfl
noncomputable def FsIsLanding (k:Nat) (a0:List Int) (a1:TProgram) (a2:Int):Option (Bool):=den E k 214 [.agg [.l 3 (.i .i64) a0],.agg (avs sProgram a1),cI a2]
theorem esIsLanding (k:Nat) (a0 a1 a2):FsIsLanding (k+1) a0 a1 a2=if ((decide (a2>=0))==true)=true then if ((decide (a2<a1.1))==true)=true then if ((decide (a2<a1.2.1))==false)=true then (Fsl15Has k a0 a2).bind fun p1=>some p1 else some true else some false else some false:=by kernel_rfl
noncomputable def FsNodesOf (k:Nat) (a0:TSky):Option (Int):=den E k 50 [.agg (avs sSky a0)]
theorem esNodesOf (k:Nat) (a0):FsNodesOf (k+1) a0=some (i64.wrap ((a0.2.1.length:Int)+(a0.2.2.1.length:Int))):=by kernel_rfl
noncomputable def FsIsSite (k:Nat) (a0:TSky) (a1:Int):Option (Bool):=den E k 215 [.agg (avs sSky a0),cI a1]
theorem esIsSite (k:Nat) (a0 a1):FsIsSite (k+1) a0 a1=(FsNodesOf k a0).bind fun p1=>(Fsl1In k a1 (a0.2.1.length:Int) (i64.wrap (p1-1))).bind fun p2=>some p2:=by kernel_rfl
noncomputable def FsIsLawful (k:Nat) (a0:TWorld):Option (Bool):=den E k 115 [.agg (avs sWorld a0)]
abbrev CsIsLawful_3:=Int×Int×TWorld
abbrev VsIsLawful_3:=Int
def StsIsLawful_3:CsIsLawful_3->VsIsLawful_3->St
 | (a,b,c),d=>⟨93,1,[(1,cP 0),(3,cI a),(4,cI b),(6,cI d)],[(0,.var (avs sWorld c))]⟩
noncomputable def BsIsLawful_3 {R:Type} (k:Nat) (X0:VsIsLawful_3->I4->I4->Bool->Option R) (X1:VsIsLawful_3->Option R) (c3:CsIsLawful_3) (rec:VsIsLawful_3->Option R) (v3:VsIsLawful_3):Option R:=if (decide (v3<(c3.2.2.2.2.2.2.2.2.2.2.2.2.2.2.2.length:Int)))=true then if 0<=v3 then ix c3.2.2.2.2.2.2.2.2.2.2.2.2.2.2.2 v3.toNat fun x7=>if ((decide (x7.2.2.1>=c3.2.2.2.1.2.1))==true)=true then if 0<=v3 then ix c3.2.2.2.2.2.2.2.2.2.2.2.2.2.2.2 v3.toNat fun x8=>(FsIsLanding k c3.2.2.2.2.1 c3.2.2.2.1 x8.2.2.1).bind fun p9=>if (!p9)=true then X0 v3 x7 x8 p9 else rec (i64.wrap (v3+1)) else none else rec (i64.wrap (v3+1)) else none else X1 v3
noncomputable def LsIsLawful_3 {R:Type} (k:Nat) (X0:VsIsLawful_3->I4->I4->Bool->Option R) (X1:VsIsLawful_3->Option R) (c:CsIsLawful_3):Nat->VsIsLawful_3->Option R
 | 0,_=>none
 | n+1,v=>BsIsLawful_3 k X0 X1 c (LsIsLawful_3 k X0 X1 c n) v
noncomputable def fsIsLawful_3 {R:Type} (k:Nat) (K:Ex->St->Option R) (c:CsIsLawful_3):=lpf E k 115 Tryz.f115 3 [0,1,3,4,6] (StsIsLawful_3 c) K
theorem qsIsLawful_3 (k:Nat) (K:Ex->St->Option R) (X0 X1 c) (h:QL (fsIsLawful_3 k K c) (BsIsLawful_3 k X0 X1 c)) (v):LsIsLawful_3 k X0 X1 c k v=fsIsLawful_3 k K c k v:=lq h (fun _ _=>rfl) (fun _=>rfl) (fun _=>rfl) k v
abbrev CsIsLawful_2:=Int×Int×TWorld
abbrev VsIsLawful_2:=Int
def StsIsLawful_2:CsIsLawful_2->VsIsLawful_2->St
 | (a,b,c),d=>⟨93,1,[(1,cP 0),(3,cI a),(4,cI b),(5,cI d)],[(0,.var (avs sWorld c))]⟩
noncomputable def BsIsLawful_2 {R:Type} (k:Nat) (X0:VsIsLawful_2->(List I6)->Bool->(List I6)->I6->Option R) (X1:VsIsLawful_2->(List I6)->Bool->Option R) (X2:VsIsLawful_2->(List I6)->Option R) (c2:CsIsLawful_2) (rec:VsIsLawful_2->Option R) (v2:VsIsLawful_2):Option R:=if 0<=c2.2.1 then ix c2.2.2.2.2.2.2.2.1 c2.2.1.toNat fun x3=>if ((decide (v2<(x3.length:Int)))==true)=true then (FsIsSite k c2.2.2.1 c2.2.1).bind fun p4=>if p4=true then if 0<=c2.2.1 then ix c2.2.2.2.2.2.2.2.1 c2.2.1.toNat fun x5=>if 0<=v2 then ix x5 v2.toNat fun x6=>if (x6.2.2.2.1 !=c2.2.1)=true then X0 v2 x3 p4 x5 x6 else rec (i64.wrap (v2+1)) else none else none else X1 v2 x3 p4 else X2 v2 x3 else none
noncomputable def LsIsLawful_2 {R:Type} (k:Nat) (X0:VsIsLawful_2->(List I6)->Bool->(List I6)->I6->Option R) (X1:VsIsLawful_2->(List I6)->Bool->Option R) (X2:VsIsLawful_2->(List I6)->Option R) (c:CsIsLawful_2):Nat->VsIsLawful_2->Option R
 | 0,_=>none
 | n+1,v=>BsIsLawful_2 k X0 X1 X2 c (LsIsLawful_2 k X0 X1 X2 c n) v
noncomputable def fsIsLawful_2 {R:Type} (k:Nat) (K:Ex->St->Option R) (c:CsIsLawful_2):=lpf E k 115 Tryz.f115 2 [0,1,3,4,5] (StsIsLawful_2 c) K
theorem qsIsLawful_2 (k:Nat) (K:Ex->St->Option R) (X0 X1 X2 c) (h:QL (fsIsLawful_2 k K c) (BsIsLawful_2 k X0 X1 X2 c)) (v):LsIsLawful_2 k X0 X1 X2 c k v=fsIsLawful_2 k K c k v:=lq h (fun _ _=>rfl) (fun _=>rfl) (fun _=>rfl) k v
abbrev CsIsLawful_1:=Int×TWorld
abbrev VsIsLawful_1:=Int
def StsIsLawful_1:CsIsLawful_1->VsIsLawful_1->St
 | (a,b),c=>⟨93,1,[(1,cP 0),(3,cI a),(4,cI c)],[(0,.var (avs sWorld b))]⟩
noncomputable def BsIsLawful_1 {R:Type} (k:Nat) (X0:VsIsLawful_1->Int->(List I6)->Bool->(List I6)->I6->Option R) (X1:VsIsLawful_1->Option R) (c1:CsIsLawful_1) (rec:VsIsLawful_1->Option R) (v1:VsIsLawful_1):Option R:=if (decide (v1<(c1.2.2.2.2.2.2.1.length:Int)))=true then LsIsLawful_2 k (fun (v2:Int) x3 p4 x5 x6=>X0 v1 v2 x3 p4 x5 x6) (fun (v2:Int) x3 p4=>rec (i64.wrap (v1+1))) (fun (v2:Int) x3=>rec (i64.wrap (v1+1))) (c1.1,v1,c1.2) k 0 else X1 v1
noncomputable def LsIsLawful_1 {R:Type} (k:Nat) (X0:VsIsLawful_1->Int->(List I6)->Bool->(List I6)->I6->Option R) (X1:VsIsLawful_1->Option R) (c:CsIsLawful_1):Nat->VsIsLawful_1->Option R
 | 0,_=>none
 | n+1,v=>BsIsLawful_1 k X0 X1 c (LsIsLawful_1 k X0 X1 c n) v
noncomputable def fsIsLawful_1 {R:Type} (k:Nat) (K:Ex->St->Option R) (c:CsIsLawful_1):=lpf E k 115 Tryz.f115 1 [0,1,3,4] (StsIsLawful_1 c) K
theorem qsIsLawful_1 (k:Nat) (K:Ex->St->Option R) (X0 X1 c) (h:QL (fsIsLawful_1 k K c) (BsIsLawful_1 k X0 X1 c)) (v):LsIsLawful_1 k X0 X1 c k v=fsIsLawful_1 k K c k v:=lq h (fun _ _=>rfl) (fun _=>rfl) (fun _=>rfl) k v
abbrev CsIsLawful_0:=TWorld
abbrev VsIsLawful_0:=Int
def StsIsLawful_0:CsIsLawful_0->VsIsLawful_0->St
 | a,b=>⟨93,1,[(1,cP 0),(3,cI b)],[(0,.var (avs sWorld a))]⟩
noncomputable def BsIsLawful_0 {R:Type} (k:Nat) (X0:VsIsLawful_0->I6->Bool->Option R) (X1:VsIsLawful_0->Option R) (c0:CsIsLawful_0) (rec:VsIsLawful_0->Option R) (v0:VsIsLawful_0):Option R:=if (decide (v0<(c0.2.2.2.2.2.2.2.2.2.2.2.2.1.length:Int)))=true then if 0<=v0 then ix c0.2.2.2.2.2.2.2.2.2.2.2.2.1 v0.toNat fun x1=>(FsIsLanding k c0.2.2.1 c0.2.1 x1.2.2.2.2.1).bind fun p2=>if (!p2)=true then X0 v0 x1 p2 else rec (i64.wrap (v0+1)) else none else X1 v0
noncomputable def LsIsLawful_0 {R:Type} (k:Nat) (X0:VsIsLawful_0->I6->Bool->Option R) (X1:VsIsLawful_0->Option R) (c:CsIsLawful_0):Nat->VsIsLawful_0->Option R
 | 0,_=>none
 | n+1,v=>BsIsLawful_0 k X0 X1 c (LsIsLawful_0 k X0 X1 c n) v
noncomputable def fsIsLawful_0 {R:Type} (k:Nat) (K:Ex->St->Option R) (c:CsIsLawful_0):=lpf E k 115 Tryz.f115 0 [0,1,3] (StsIsLawful_0 c) K
theorem qsIsLawful_0 (k:Nat) (K:Ex->St->Option R) (X0 X1 c) (h:QL (fsIsLawful_0 k K c) (BsIsLawful_0 k X0 X1 c)) (v):LsIsLawful_0 k X0 X1 c k v=fsIsLawful_0 k K c k v:=lq h (fun _ _=>rfl) (fun _=>rfl) (fun _=>rfl) k v
noncomputable def NsIsLawful:Ex->St->Option (Bool):=finish E (rs 115) Tryz.f115
theorem esIsLawful (k:Nat) (a0):FsIsLawful (k+1) a0=LsIsLawful_0 k (fun (v0:Int) x1 p2=>some false) (fun (v0:Int)=>LsIsLawful_1 k (fun (v1:Int) (v2:Int) x3 p4 x5 x6=>some false) (fun (v1:Int)=>LsIsLawful_3 k (fun (v3:Int) x7 x8 p9=>some false) (fun (v3:Int)=>some true) (v0,v1,a0) k 0) (v0,a0) k 0) a0 k 0:=by
 simp (maxSteps:=9999999) (disch:=(refine QL.mk fun n0 v=> ?_;unfold BsIsLawful_0;simp (maxSteps:=9999999) (disch:=(refine QL.mk fun n1 v=> ?_;unfold BsIsLawful_1;simp (maxSteps:=9999999) (disch:=(refine QL.mk fun n2 v=> ?_;kernel_rfl)) only [↓qsIsLawful_3 (R:=Bool) k (kon0 E k 115 Tryz.f115 3 NsIsLawful),↓qsIsLawful_2 (R:=Bool) k (kon1 E k 115 Tryz.f115 1 1 n1 [0,1,3,4] (kon0 E k 115 Tryz.f115 1 NsIsLawful))];kernel_rfl)) only [↓qsIsLawful_1 (R:=Bool) k (kon0 E k 115 Tryz.f115 1 NsIsLawful)];kernel_rfl)) only [↓qsIsLawful_0 (R:=Bool) k (kon0 E k 115 Tryz.f115 0 NsIsLawful)]
 kernel_rfl
noncomputable def FsHasLoop (k:Nat) (a0:List Int):Option (Bool):=den E k 315 [.c (.l 3 (.i .i64) a0)]
abbrev CsHasLoop_1:=(List Int)×Int
abbrev VsHasLoop_1:=Int×Int
def StsHasLoop_1:CsHasLoop_1->VsHasLoop_1->St
 | (a,b),(d,e)=>⟨36,0,[(0,.c (.l 3 (.i .i64) a)),(3,cI b),(4,cI d),(5,cI e)],[]⟩
noncomputable def BsHasLoop_1 {R:Type} (k:Nat) (X0:VsHasLoop_1->Bool->Option R) (X1:VsHasLoop_1->Bool->Option R) (X2:VsHasLoop_1->Option R) (c1:CsHasLoop_1) (rec:VsHasLoop_1->Option R) (v1:VsHasLoop_1):Option R:=if ((decide (v1.2<(c1.1.length:Int)))==true)=true then (Fsl1In k v1.1 0 (i64.wrap ((c1.1.length:Int)-1))).bind fun p2=>if p2=true then if (v1.1==c1.2)=true then X0 v1 p2 else if 0<=v1.1 then ix c1.1 v1.1.toNat fun x3=>rec (x3,(i64.wrap (v1.2+1))) else none else X1 v1 p2 else X2 v1
noncomputable def LsHasLoop_1 {R:Type} (k:Nat) (X0:VsHasLoop_1->Bool->Option R) (X1:VsHasLoop_1->Bool->Option R) (X2:VsHasLoop_1->Option R) (c:CsHasLoop_1):Nat->VsHasLoop_1->Option R
 | 0,_=>none
 | n+1,v=>BsHasLoop_1 k X0 X1 X2 c (LsHasLoop_1 k X0 X1 X2 c n) v
noncomputable def fsHasLoop_1 {R:Type} (k:Nat) (K:Ex->St->Option R) (c:CsHasLoop_1):=lpf E k 315 Tryz.f315 1 [0,0,3,4,5] (StsHasLoop_1 c) K
theorem qsHasLoop_1 (k:Nat) (K:Ex->St->Option R) (X0 X1 X2 c) (h:QL (fsHasLoop_1 k K c) (BsHasLoop_1 k X0 X1 X2 c)) (v):LsHasLoop_1 k X0 X1 X2 c k v=fsHasLoop_1 k K c k v:=lq h (fun _ _=>rfl) (fun _=>rfl) (fun _=>rfl) k v
abbrev CsHasLoop_0:=(List Int)
abbrev VsHasLoop_0:=Int
def StsHasLoop_0:CsHasLoop_0->VsHasLoop_0->St
 | a,b=>⟨36,0,[(0,.c (.l 3 (.i .i64) a)),(3,cI b)],[]⟩
noncomputable def BsHasLoop_0 {R:Type} (k:Nat) (X0:VsHasLoop_0->Int->I2->Bool->Option R) (X1:VsHasLoop_0->Option R) (c0:CsHasLoop_0) (rec:VsHasLoop_0->Option R) (v0:VsHasLoop_0):Option R:=if (decide (v0<(c0.length:Int)))=true then if 0<=v0 then ix c0 v0.toNat fun x1=>LsHasLoop_1 k (fun v1 p2=>X0 v0 x1 v1 p2) (fun v1 p2=>rec (i64.wrap (v0+1))) (fun v1=>rec (i64.wrap (v0+1))) (c0,v0) k (x1,0) else none else X1 v0
noncomputable def LsHasLoop_0 {R:Type} (k:Nat) (X0:VsHasLoop_0->Int->I2->Bool->Option R) (X1:VsHasLoop_0->Option R) (c:CsHasLoop_0):Nat->VsHasLoop_0->Option R
 | 0,_=>none
 | n+1,v=>BsHasLoop_0 k X0 X1 c (LsHasLoop_0 k X0 X1 c n) v
noncomputable def fsHasLoop_0 {R:Type} (k:Nat) (K:Ex->St->Option R) (c:CsHasLoop_0):=lpf E k 315 Tryz.f315 0 [0,0,3] (StsHasLoop_0 c) K
theorem qsHasLoop_0 (k:Nat) (K:Ex->St->Option R) (X0 X1 c) (h:QL (fsHasLoop_0 k K c) (BsHasLoop_0 k X0 X1 c)) (v):LsHasLoop_0 k X0 X1 c k v=fsHasLoop_0 k K c k v:=lq h (fun _ _=>rfl) (fun _=>rfl) (fun _=>rfl) k v
noncomputable def NsHasLoop:Ex->St->Option (Bool):=finish E (rs 315) Tryz.f315
theorem esHasLoop (k:Nat) (a0):FsHasLoop (k+1) a0=LsHasLoop_0 k (fun (v0:Int) (x1:Int) v1 p2=>some true) (fun (v0:Int)=>some false) a0 k 0:=by
 simp (maxSteps:=9999999) (disch:=(refine QL.mk fun n0 v=> ?_;unfold BsHasLoop_0;simp (maxSteps:=9999999) (disch:=(refine QL.mk fun n1 v=> ?_;kernel_rfl)) only [↓qsHasLoop_1 (R:=Bool) k (kon1 E k 315 Tryz.f315 0 1 n0 [0,0,3] (kon0 E k 315 Tryz.f315 0 NsHasLoop))];kernel_rfl)) only [↓qsHasLoop_0 (R:=Bool) k (kon0 E k 315 Tryz.f315 0 NsHasLoop)]
 kernel_rfl
noncomputable def FsMin (k:Nat) (a0:Int) (a1:Int):Option (Int):=den E k 216 [cI a0,cI a1]
theorem esMin (k:Nat) (a0 a1):FsMin (k+1) a0 a1=if (decide (a1<a0))=true then some a1 else some a0:=by kernel_rfl
noncomputable def FsAreOffsets (k:Nat) (a0:TProgram) (a1:List Int):Option (Bool):=den E k 51 [.agg (avs sProgram a0),.c (.l 3 (.i .i64) a1)]
abbrev CsAreOffsets_0:=(List Int)×TProgram
abbrev VsAreOffsets_0:=Int
def StsAreOffsets_0:CsAreOffsets_0->VsAreOffsets_0->St
 | (a,b),d=>⟨34,1,[(1,.c (.l 3 (.i .i64) a)),(2,cP 0),(5,cI d)],[(0,.var (avs sProgram b))]⟩
noncomputable def BsAreOffsets_0 {R:Type} (k:Nat) (X0:VsAreOffsets_0->Bool->Int->Bool->Option R) (X1:VsAreOffsets_0->Bool->Option R) (X2:VsAreOffsets_0->Option R) (c0:CsAreOffsets_0) (rec:VsAreOffsets_0->Option R) (v0:VsAreOffsets_0):Option R:=if (decide (v0<(c0.1.length:Int)))=true then (Fsl1In k c0.2.2.2.1 0 5).bind fun p1=>if ((!p1)==false)=true then if 0<=v0 then ix c0.1 v0.toNat fun x2=>(Fsl1In k x2 (i64.wrap (0-c0.2.2.2.1)) c0.2.2.2.1).bind fun p3=>if (!p3)=true then X0 v0 p1 x2 p3 else rec (i64.wrap (v0+1)) else none else X1 v0 p1 else X2 v0
noncomputable def LsAreOffsets_0 {R:Type} (k:Nat) (X0:VsAreOffsets_0->Bool->Int->Bool->Option R) (X1:VsAreOffsets_0->Bool->Option R) (X2:VsAreOffsets_0->Option R) (c:CsAreOffsets_0):Nat->VsAreOffsets_0->Option R
 | 0,_=>none
 | n+1,v=>BsAreOffsets_0 k X0 X1 X2 c (LsAreOffsets_0 k X0 X1 X2 c n) v
noncomputable def fsAreOffsets_0 {R:Type} (k:Nat) (K:Ex->St->Option R) (c:CsAreOffsets_0):=lpf E k 51 Tryz.f51 0 [0,1,2,5] (StsAreOffsets_0 c) K
theorem qsAreOffsets_0 (k:Nat) (K:Ex->St->Option R) (X0 X1 X2 c) (h:QL (fsAreOffsets_0 k K c) (BsAreOffsets_0 k X0 X1 X2 c)) (v):LsAreOffsets_0 k X0 X1 X2 c k v=fsAreOffsets_0 k K c k v:=lq h (fun _ _=>rfl) (fun _=>rfl) (fun _=>rfl) k v
noncomputable def NsAreOffsets:Ex->St->Option (Bool):=finish E (rs 51) Tryz.f51
theorem esAreOffsets (k:Nat) (a0 a1):FsAreOffsets (k+1) a0 a1=LsAreOffsets_0 k (fun (v0:Int) p1 (x2:Int) p3=>some false) (fun (v0:Int) p1=>some false) (fun (v0:Int)=>some ((a1.length:Int)==a0.1)) (a1,a0) k 0:=by
 simp (disch:=(refine QL.mk fun n0 v=> ?_;kernel_rfl)) only [↓qsAreOffsets_0 k (kon0 E k 51 Tryz.f51 0 NsAreOffsets)]
 kernel_rfl
noncomputable def FsPiecesIn (k:Nat) (a0:TProgram) (a1:Int) (a2:Int):Option (List Int):=den E k 472 [.agg (avs sProgram a0),cI a1,cI a2]
abbrev CsPiecesIn_0:=Int×Int×TProgram
abbrev VsPiecesIn_0:=Int×(List Int)
def StsPiecesIn_0:CsPiecesIn_0->VsPiecesIn_0->St
 | (a,b,d),(e,f)=>⟨48,2,[(1,cI a),(2,cI b),(3,cP 0),(7,.c (.ref 1)),(8,cI e)],[(0,.var (avs sProgram d)),(1,.arr 3 (.i .i64) f)]⟩
noncomputable def BsPiecesIn_0 {R:Type} (k:Nat) (X0:VsPiecesIn_0->Option R) (c0:CsPiecesIn_0) (rec:VsPiecesIn_0->Option R) (v0:VsPiecesIn_0):Option R:=if (decide (v0.1<(c0.2.2.2.2.2.length:Int)))=true then if 0<=v0.1 then ix c0.2.2.2.2.2 v0.1.toNat fun x1=>(FsIsSpan k x1.1).bind fun p2=>if (p2==true)=true then if ((decide (c0.1<=c0.2.1))==true)=true then if ((decide (x1.1.1<=c0.2.1))==true)=true then if (decide (c0.1<x1.1.2))=true then if (v0.2.length+([v0.1]).length)*8<=140737488355328 then rec ((i64.wrap (v0.1+1)),(v0.2++[v0.1])) else none else rec ((i64.wrap (v0.1+1)),v0.2) else rec ((i64.wrap (v0.1+1)),v0.2) else rec ((i64.wrap (v0.1+1)),v0.2) else rec ((i64.wrap (v0.1+1)),v0.2) else none else X0 v0
noncomputable def LsPiecesIn_0 {R:Type} (k:Nat) (X0:VsPiecesIn_0->Option R) (c:CsPiecesIn_0):Nat->VsPiecesIn_0->Option R
 | 0,_=>none
 | n+1,v=>BsPiecesIn_0 k X0 c (LsPiecesIn_0 k X0 c n) v
noncomputable def fsPiecesIn_0 {R:Type} (k:Nat) (K:Ex->St->Option R) (c:CsPiecesIn_0):=lpf E k 472 Tryz.f472 0 [0,1,2,3,7,8] (StsPiecesIn_0 c) K
theorem qsPiecesIn_0 (k:Nat) (K:Ex->St->Option R) (X0 c) (h:QL (fsPiecesIn_0 k K c) (BsPiecesIn_0 k X0 c)) (v):LsPiecesIn_0 k X0 c k v=fsPiecesIn_0 k K c k v:=lq h (fun _ _=>rfl) (fun _=>rfl) (fun _=>rfl) k v
noncomputable def NsPiecesIn:Ex->St->Option (List Int):=finish E (rs 472) Tryz.f472
theorem esPiecesIn (k:Nat) (a0 a1 a2):FsPiecesIn (k+1) a0 a1 a2=LsPiecesIn_0 k (fun v0=>some v0.2) (a1,a2,a0) k (0,[]):=by
 simp (disch:=(refine QL.mk fun n0 v=> ?_;kernel_rfl)) only [↓qsPiecesIn_0 k (kon0 E k 472 Tryz.f472 0 NsPiecesIn)]
 kernel_rfl
noncomputable def Fsl15Copy (k:Nat) (a0:Int×(List Int)×List Int):Option (Int×(List Int)×List Int):=den E k 332 [.agg (avs sTable a0)]
theorem esl15Copy (k:Nat) (a0):Fsl15Copy (k+1) a0=if (0+a0.2.1.length)*8<=140737488355328 then if (0+a0.2.2.length)*8<=140737488355328 then some a0 else none else none:=by kernel_rfl
noncomputable def FsTableIn (k:Nat) (a0:TProgram) (a1:Int) (a2:Int):Option ((Int×(List Int)×List Int)×Bool):=den E k 457 [.agg (avs sProgram a0),cI a1,cI a2]
theorem esTableIn (k:Nat) (a0 a1 a2):FsTableIn (k+1) a0 a1 a2=(Fsl1In k a1 0 (i64.wrap ((a0.2.2.2.length:Int)-1))).bind fun p1=>if ((!p1)==false)=true then if 0<=a1 then ix a0.2.2.2 a1.toNat fun x2=>(Fsl1In k a2 0 (i64.wrap ((x2.2.2.length:Int)-1))).bind fun p3=>if (!p3)=true then some ((0,[],[]),false) else if 0<=a1 then ix a0.2.2.2 a1.toNat fun x4=>if 0<=a2 then ix x4.2.2 a2.toNat fun x5=>(Fsl15Copy k x5).bind fun p6=>some (p6,true) else none else none else none else some ((0,[],[]),false):=by kernel_rfl
noncomputable def FsMax (k:Nat) (a0:Int) (a1:Int):Option (Int):=den E k 244 [cI a0,cI a1]
theorem esMax (k:Nat) (a0 a1):FsMax (k+1) a0 a1=if (decide (a1>a0))=true then some a1 else some a0:=by kernel_rfl
noncomputable def Fsl18Size (k:Nat) (a0:List (List Int)):Option (Int):=den E k 487 [.c (.l 27 (.l 3 (.i .i64)) a0)]
abbrev Csl18Size_0:=(List (List Int))
abbrev Vsl18Size_0:=Int×Int
def Stsl18Size_0:Csl18Size_0->Vsl18Size_0->St
 | a,(b,d)=>⟨19,0,[(0,.c (.l 27 (.l 3 (.i .i64)) a)),(3,cI b),(4,cI d)],[]⟩
noncomputable def Bsl18Size_0 {R:Type} (k:Nat) (X0:Vsl18Size_0->Option R) (c0:Csl18Size_0) (rec:Vsl18Size_0->Option R) (v0:Vsl18Size_0):Option R:=if (decide (v0.2<(c0.length:Int)))=true then if 0<=v0.2 then ix c0 v0.2.toNat fun x1=>(FsMax k v0.1 (x1.length:Int)).bind fun p2=>rec (p2,(i64.wrap (v0.2+1))) else none else X0 v0
noncomputable def Lsl18Size_0 {R:Type} (k:Nat) (X0:Vsl18Size_0->Option R) (c:Csl18Size_0):Nat->Vsl18Size_0->Option R
 | 0,_=>none
 | n+1,v=>Bsl18Size_0 k X0 c (Lsl18Size_0 k X0 c n) v
noncomputable def fsl18Size_0 {R:Type} (k:Nat) (K:Ex->St->Option R) (c:Csl18Size_0):=lpf E k 487 Tryz.f487 0 [0,0,3,4] (Stsl18Size_0 c) K
theorem qsl18Size_0 (k:Nat) (K:Ex->St->Option R) (X0 c) (h:QL (fsl18Size_0 k K c) (Bsl18Size_0 k X0 c)) (v):Lsl18Size_0 k X0 c k v=fsl18Size_0 k K c k v:=lq h (fun _ _=>rfl) (fun _=>rfl) (fun _=>rfl) k v
noncomputable def Nsl18Size:Ex->St->Option (Int):=finish E (rs 487) Tryz.f487
theorem esl18Size (k:Nat) (a0):Fsl18Size (k+1) a0=Lsl18Size_0 k (fun v0=>some v0.1) a0 k (0,0):=by
 simp (disch:=(refine QL.mk fun n0 v=> ?_;kernel_rfl)) only [↓qsl18Size_0 k (kon0 E k 487 Tryz.f487 0 Nsl18Size)]
 kernel_rfl
noncomputable def Fsl18Steps (k:Nat) (a0:List (List Int)) (a1:Int) (a2:Int):Option (List Int):=den E k 488 [.c (.l 27 (.l 3 (.i .i64)) a0),cI a1,cI a2]
abbrev Csl18Steps_0:=(List (List Int))×Int×Int
abbrev Vsl18Steps_0:=Int×(List Int)
def Stsl18Steps_0:Csl18Steps_0->Vsl18Steps_0->St
 | (a,b,d),(e,f)=>⟨58,1,[(0,.c (.l 27 (.l 3 (.i .i64)) a)),(1,cI b),(2,cI d),(7,.c (.ref 0)),(8,cI e)],[(0,.arr 3 (.i .i64) f)]⟩
noncomputable def Bsl18Steps_0 {R:Type} (k:Nat) (X0:Vsl18Steps_0->Option R) (c0:Csl18Steps_0) (rec:Vsl18Steps_0->Option R) (v0:Vsl18Steps_0):Option R:=if (decide (v0.1<(c0.1.length:Int)))=true then if 0<=v0.1 then ix c0.1 v0.1.toNat fun x1=>if ((decide (c0.2.2<(x1.length:Int)))==true)=true then if 0<=v0.1 then ix c0.1 v0.1.toNat fun x2=>if 0<=c0.2.2 then ix x2 c0.2.2.toNat fun x3=>(Fsl1In k x3 0 (i64.wrap (c0.2.1-1))).bind fun p4=>if (p4==true)=true then if 0<=v0.1 then ix c0.1 v0.1.toNat fun x5=>if 0<=c0.2.2 then ix x5 c0.2.2.toNat fun x6=>(Fsl15Has k v0.2 x6).bind fun p7=>if (!p7)=true then if 0<=v0.1 then ix c0.1 v0.1.toNat fun x8=>if 0<=c0.2.2 then ix x8 c0.2.2.toNat fun x9=>if (v0.2.length+([x9]).length)*8<=140737488355328 then rec ((i64.wrap (v0.1+1)),(v0.2++[x9])) else none else none else none else rec ((i64.wrap (v0.1+1)),v0.2) else none else none else rec ((i64.wrap (v0.1+1)),v0.2) else none else none else rec ((i64.wrap (v0.1+1)),v0.2) else none else X0 v0
noncomputable def Lsl18Steps_0 {R:Type} (k:Nat) (X0:Vsl18Steps_0->Option R) (c:Csl18Steps_0):Nat->Vsl18Steps_0->Option R
 | 0,_=>none
 | n+1,v=>Bsl18Steps_0 k X0 c (Lsl18Steps_0 k X0 c n) v
noncomputable def fsl18Steps_0 {R:Type} (k:Nat) (K:Ex->St->Option R) (c:Csl18Steps_0):=lpf E k 488 Tryz.f488 0 [0,0,1,2,7,8] (Stsl18Steps_0 c) K
theorem qsl18Steps_0 (k:Nat) (K:Ex->St->Option R) (X0 c) (h:QL (fsl18Steps_0 k K c) (Bsl18Steps_0 k X0 c)) (v):Lsl18Steps_0 k X0 c k v=fsl18Steps_0 k K c k v:=lq h (fun _ _=>rfl) (fun _=>rfl) (fun _=>rfl) k v
noncomputable def Nsl18Steps:Ex->St->Option (List Int):=finish E (rs 488) Tryz.f488
theorem esl18Steps (k:Nat) (a0 a1 a2):Fsl18Steps (k+1) a0 a1 a2=Lsl18Steps_0 k (fun v0=>some v0.2) (a0,a1,a2) k (0,[]):=by
 simp (disch:=(refine QL.mk fun n0 v=> ?_;kernel_rfl)) only [↓qsl18Steps_0 k (kon0 E k 488 Tryz.f488 0 Nsl18Steps)]
 kernel_rfl
noncomputable def FsUnionHasLoop (k:Nat) (a0:List (List Int)):Option (Bool):=den E k 473 [.c (.l 27 (.l 3 (.i .i64)) a0)]
abbrev CsUnionHasLoop_2:=(List (List Int))×Int×Int×Int×(List Int)
abbrev VsUnionHasLoop_2:=Int×(List Int)
def StsUnionHasLoop_2:CsUnionHasLoop_2->VsUnionHasLoop_2->St
 | (a,b,d,e,f),(g,h)=>⟨59,2,[(0,.c (.l 27 (.l 3 (.i .i64)) a)),(3,cI b),(4,cI d),(5,.c (.ref 0)),(6,cI e),(7,.c (.ref 1)),(8,cI g)],[(0,.arr 3 (.i .i64) h),(1,.arr 3 (.i .i64) f)]⟩
noncomputable def BsUnionHasLoop_2 {R:Type} (k:Nat) (X0:VsUnionHasLoop_2->Option R) (c2:CsUnionHasLoop_2) (rec:VsUnionHasLoop_2->Option R) (v2:VsUnionHasLoop_2):Option R:=if (decide (v2.1<(c2.2.2.2.2.length:Int)))=true then if 0<=v2.1 then if v2.1<(c2.2.2.2.2.length:Int) then ix c2.2.2.2.2 v2.1.toNat fun x6=>(Fsl15Has k v2.2 x6).bind fun p7=>if (!p7)=true then if 0<=v2.1 then if v2.1<(c2.2.2.2.2.length:Int) then ix c2.2.2.2.2 v2.1.toNat fun x8=>if (v2.2.length+([x8]).length)*8<=140737488355328 then rec ((i64.wrap (v2.1+1)),(v2.2++[x8])) else none else none else none else rec ((i64.wrap (v2.1+1)),v2.2) else none else none else X0 v2
noncomputable def LsUnionHasLoop_2 {R:Type} (k:Nat) (X0:VsUnionHasLoop_2->Option R) (c:CsUnionHasLoop_2):Nat->VsUnionHasLoop_2->Option R
 | 0,_=>none
 | n+1,v=>BsUnionHasLoop_2 k X0 c (LsUnionHasLoop_2 k X0 c n) v
noncomputable def fsUnionHasLoop_2 {R:Type} (k:Nat) (K:Ex->St->Option R) (c:CsUnionHasLoop_2):=lpf E k 473 Tryz.f473 2 [0,0,3,4,5,6,7,8] (StsUnionHasLoop_2 c) K
theorem qsUnionHasLoop_2 (k:Nat) (K:Ex->St->Option R) (X0 c) (h:QL (fsUnionHasLoop_2 k K c) (BsUnionHasLoop_2 k X0 c)) (v):LsUnionHasLoop_2 k X0 c k v=fsUnionHasLoop_2 k K c k v:=lq h (fun _ _=>rfl) (fun _=>rfl) (fun _=>rfl) k v
abbrev CsUnionHasLoop_1:=(List (List Int))×Int×Int
abbrev VsUnionHasLoop_1:=Int×(List Int)
def StsUnionHasLoop_1:CsUnionHasLoop_1->VsUnionHasLoop_1->St
 | (a,b,d),(e,f)=>⟨59,1,[(0,.c (.l 27 (.l 3 (.i .i64)) a)),(3,cI b),(4,cI d),(5,.c (.ref 0)),(6,cI e)],[(0,.arr 3 (.i .i64) f)]⟩
noncomputable def BsUnionHasLoop_1 {R:Type} (k:Nat) (X0:VsUnionHasLoop_1->Int->Option R) (X1:VsUnionHasLoop_1->Option R) (c1:CsUnionHasLoop_1) (rec:VsUnionHasLoop_1->Option R) (v1:VsUnionHasLoop_1):Option R:=if (decide (v1.1<(v1.2.length:Int)))=true then if 0<=v1.1 then if v1.1<(v1.2.length:Int) then ix v1.2 v1.1.toNat fun x3=>if (x3==c1.2.2)=true then X0 v1 x3 else if 0<=v1.1 then if v1.1<(v1.2.length:Int) then ix v1.2 v1.1.toNat fun x4=>(Fsl18Steps k c1.1 c1.2.1 x4).bind fun p5=>LsUnionHasLoop_2 k (fun v2=>rec ((i64.wrap (v1.1+1)),v2.2)) (c1.1,c1.2.1,c1.2.2,v1.1,p5) k (0,v1.2) else none else none else none else none else X1 v1
noncomputable def LsUnionHasLoop_1 {R:Type} (k:Nat) (X0:VsUnionHasLoop_1->Int->Option R) (X1:VsUnionHasLoop_1->Option R) (c:CsUnionHasLoop_1):Nat->VsUnionHasLoop_1->Option R
 | 0,_=>none
 | n+1,v=>BsUnionHasLoop_1 k X0 X1 c (LsUnionHasLoop_1 k X0 X1 c n) v
noncomputable def fsUnionHasLoop_1 {R:Type} (k:Nat) (K:Ex->St->Option R) (c:CsUnionHasLoop_1):=lpf E k 473 Tryz.f473 1 [0,0,3,4,5,6] (StsUnionHasLoop_1 c) K
theorem qsUnionHasLoop_1 (k:Nat) (K:Ex->St->Option R) (X0 X1 c) (h:QL (fsUnionHasLoop_1 k K c) (BsUnionHasLoop_1 k X0 X1 c)) (v):LsUnionHasLoop_1 k X0 X1 c k v=fsUnionHasLoop_1 k K c k v:=lq h (fun _ _=>rfl) (fun _=>rfl) (fun _=>rfl) k v
abbrev CsUnionHasLoop_0:=(List (List Int))×Int
abbrev VsUnionHasLoop_0:=Int
def StsUnionHasLoop_0:CsUnionHasLoop_0->VsUnionHasLoop_0->St
 | (a,b),d=>⟨59,0,[(0,.c (.l 27 (.l 3 (.i .i64)) a)),(3,cI b),(4,cI d)],[]⟩
noncomputable def BsUnionHasLoop_0 {R:Type} (k:Nat) (X0:VsUnionHasLoop_0->(List Int)->(Int×(List Int))->Int->Option R) (X1:VsUnionHasLoop_0->Option R) (c0:CsUnionHasLoop_0) (rec:VsUnionHasLoop_0->Option R) (v0:VsUnionHasLoop_0):Option R:=if (decide (v0<c0.2))=true then (Fsl18Steps k c0.1 c0.2 v0).bind fun p2=>LsUnionHasLoop_1 k (fun v1 (x3:Int)=>X0 v0 p2 v1 x3) (fun v1=>rec (i64.wrap (v0+1))) (c0.1,c0.2,v0) k (0,p2) else X1 v0
noncomputable def LsUnionHasLoop_0 {R:Type} (k:Nat) (X0:VsUnionHasLoop_0->(List Int)->(Int×(List Int))->Int->Option R) (X1:VsUnionHasLoop_0->Option R) (c:CsUnionHasLoop_0):Nat->VsUnionHasLoop_0->Option R
 | 0,_=>none
 | n+1,v=>BsUnionHasLoop_0 k X0 X1 c (LsUnionHasLoop_0 k X0 X1 c n) v
noncomputable def fsUnionHasLoop_0 {R:Type} (k:Nat) (K:Ex->St->Option R) (c:CsUnionHasLoop_0):=lpf E k 473 Tryz.f473 0 [0,0,3,4] (StsUnionHasLoop_0 c) K
theorem qsUnionHasLoop_0 (k:Nat) (K:Ex->St->Option R) (X0 X1 c) (h:QL (fsUnionHasLoop_0 k K c) (BsUnionHasLoop_0 k X0 X1 c)) (v):LsUnionHasLoop_0 k X0 X1 c k v=fsUnionHasLoop_0 k K c k v:=lq h (fun _ _=>rfl) (fun _=>rfl) (fun _=>rfl) k v
noncomputable def NsUnionHasLoop:Ex->St->Option (Bool):=finish E (rs 473) Tryz.f473
theorem esUnionHasLoop (k:Nat) (a0):FsUnionHasLoop (k+1) a0=(Fsl18Size k a0).bind fun p1=>LsUnionHasLoop_0 k (fun (v0:Int) p2 v1 (x3:Int)=>some true) (fun (v0:Int)=>some false) (a0,p1) k 0:=by
 simp (maxSteps:=9999999) (disch:=(refine QL.mk fun n0 v=> ?_;unfold BsUnionHasLoop_0;simp (maxSteps:=9999999) (disch:=(refine QL.mk fun n1 v=> ?_;unfold BsUnionHasLoop_1;simp (maxSteps:=9999999) (disch:=(refine QL.mk fun n2 v=> ?_;kernel_rfl)) only [↓qsUnionHasLoop_2 (R:=Bool) k (kon1 E k 473 Tryz.f473 1 1 n1 [0,0,3,4,5,6] (kon1 E k 473 Tryz.f473 0 1 n0 [0,0,3,4] (kon0 E k 473 Tryz.f473 0 NsUnionHasLoop)))];kernel_rfl)) only [↓qsUnionHasLoop_1 (R:=Bool) k (kon1 E k 473 Tryz.f473 0 1 n0 [0,0,3,4] (kon0 E k 473 Tryz.f473 0 NsUnionHasLoop))];kernel_rfl)) only [↓qsUnionHasLoop_0 (R:=Bool) k (kon0 E k 473 Tryz.f473 0 NsUnionHasLoop)]
 kernel_rfl
noncomputable def FsIsSafeMix (k:Nat) (a0:TProgram) (a1:Int) (a2:Int) (a3:Int):Option (Bool):=den E k 439 [.agg (avs sProgram a0),cI a1,cI a2,cI a3]
abbrev CsIsSafeMix_0:=Int×TProgram×(List Int)
abbrev VsIsSafeMix_0:=Int×(List (List Int))
def StsIsSafeMix_0:CsIsSafeMix_0->VsIsSafeMix_0->St
 | (a,b,d),(e,f)=>⟨44,3,[(1,cI a),(4,cP 0),(9,.c (.ref 1)),(10,.c (.ref 2)),(11,cI e)],[(0,.var (avs sProgram b)),(1,.arr 27 (.l 3 (.i .i64)) f),(2,.arr 3 (.i .i64) d)]⟩
noncomputable def BsIsSafeMix_0 {R:Type} (k:Nat) (X0:VsIsSafeMix_0->Option R) (c0:CsIsSafeMix_0) (rec:VsIsSafeMix_0->Option R) (v0:VsIsSafeMix_0):Option R:=if (decide (v0.1<(c0.2.2.length:Int)))=true then if 0<=v0.1 then if v0.1<(c0.2.2.length:Int) then ix c0.2.2 v0.1.toNat fun x2=>(FsTableIn k c0.2.1 x2 c0.1).bind fun p3=>if p3.2=true then if (v0.2.length+([p3.1.2.2]).length)*24<=140737488355328 then rec ((i64.wrap (v0.1+1)),(v0.2++[p3.1.2.2])) else none else rec ((i64.wrap (v0.1+1)),v0.2) else none else none else X0 v0
noncomputable def LsIsSafeMix_0 {R:Type} (k:Nat) (X0:VsIsSafeMix_0->Option R) (c:CsIsSafeMix_0):Nat->VsIsSafeMix_0->Option R
 | 0,_=>none
 | n+1,v=>BsIsSafeMix_0 k X0 c (LsIsSafeMix_0 k X0 c n) v
noncomputable def fsIsSafeMix_0 {R:Type} (k:Nat) (K:Ex->St->Option R) (c:CsIsSafeMix_0):=lpf E k 439 Tryz.f439 0 [0,1,4,9,10,11] (StsIsSafeMix_0 c) K
theorem qsIsSafeMix_0 (k:Nat) (K:Ex->St->Option R) (X0 c) (h:QL (fsIsSafeMix_0 k K c) (BsIsSafeMix_0 k X0 c)) (v):LsIsSafeMix_0 k X0 c k v=fsIsSafeMix_0 k K c k v:=lq h (fun _ _=>rfl) (fun _=>rfl) (fun _=>rfl) k v
noncomputable def NsIsSafeMix:Ex->St->Option (Bool):=finish E (rs 439) Tryz.f439
theorem esIsSafeMix (k:Nat) (a0 a1 a2 a3):FsIsSafeMix (k+1) a0 a1 a2 a3=(FsPiecesIn k a0 a2 a3).bind fun p1=>LsIsSafeMix_0 k (fun v0=>(FsUnionHasLoop k v0.2).bind fun p4=>some (!p4)) (a1,a0,p1) k (0,[]):=by
 simp (disch:=(refine QL.mk fun n0 v=> ?_;kernel_rfl)) only [↓qsIsSafeMix_0 k (kon0 E k 439 Tryz.f439 0 NsIsSafeMix)]
 kernel_rfl
noncomputable def Fsl19Next (k:Nat) (a0:TProgram) (a1:Int) (a2:Int) (a3:Int):Option (Int):=den E k 440 [.agg (avs sProgram a0),cI a1,cI a2,cI a3]
theorem esl19Next (k:Nat) (a0 a1 a2 a3):Fsl19Next (k+1) a0 a1 a2 a3=(FsPieceAt k a0 a3).bind fun p1=>(FsTableIn k a0 p1 a2).bind fun p2=>if ((!p2.2)==false)=true then (Fsl1In k a1 0 (i64.wrap ((p2.1.2.2.length:Int)-1))).bind fun p3=>if (!p3)=true then some (-1) else if 0<=a1 then if a1<(p2.1.2.2.length:Int) then ix p2.1.2.2 a1.toNat fun x4=>some x4 else none else none else some (-1):=by kernel_rfl
noncomputable def FsHopAt (k:Nat) (a0:TProgram) (a1:Int) (a2:Int) (a3:Int):Option (Int):=den E k 382 [.agg (avs sProgram a0),cI a1,cI a2,cI a3]
theorem esHopAt (k:Nat) (a0 a1 a2 a3):FsHopAt (k+1) a0 a1 a2 a3=(Fsl1In k a0.2.2.1 0 5).bind fun p1=>if ((!p1)==false)=true then (Fsl1In k a3 0 1000).bind fun p2=>if ((!p2)==false)=true then (FsIsSafeMix k a0 a2 (i64.wrap (a3-(i64.wrap (2*a0.2.2.1)))) (i64.wrap (a3+(i64.wrap (2*a0.2.2.1))))).bind fun p3=>if (!p3)=true then some (-1) else (Fsl19Next k a0 a1 a2 a3).bind fun p4=>some p4 else some (-1) else some (-1):=by kernel_rfl
noncomputable def FsNextsAt (k:Nat) (a0:TProgram) (a1:Int) (a2:Int) (a3:List Int):Option (List Int):=den E k 316 [.agg (avs sProgram a0),cI a1,cI a2,.c (.l 3 (.i .i64) a3)]
abbrev CsNextsAt_0:=Int×Int×(List Int)×TProgram
abbrev VsNextsAt_0:=Int×(List Int)
def StsNextsAt_0:CsNextsAt_0->VsNextsAt_0->St
 | (a,b,d,e),(f,g)=>⟨42,2,[(1,cI a),(2,cI b),(3,.c (.l 3 (.i .i64) d)),(4,cP 0),(9,.c (.ref 1)),(10,cI f)],[(0,.var (avs sProgram e)),(1,.arr 3 (.i .i64) g)]⟩
noncomputable def BsNextsAt_0 {R:Type} (k:Nat) (X0:VsNextsAt_0->Option R) (c0:CsNextsAt_0) (rec:VsNextsAt_0->Option R) (v0:VsNextsAt_0):Option R:=if (decide (v0.1<(c0.2.2.1.length:Int)))=true then if 0<=v0.1 then ix c0.2.2.1 v0.1.toNat fun x3=>(FsHopAt k c0.2.2.2 v0.1 c0.1 (i64.wrap (c0.2.1+x3))).bind fun p4=>if (v0.2.length+([p4]).length)*8<=140737488355328 then rec ((i64.wrap (v0.1+1)),(v0.2++[p4])) else none else none else X0 v0
noncomputable def LsNextsAt_0 {R:Type} (k:Nat) (X0:VsNextsAt_0->Option R) (c:CsNextsAt_0):Nat->VsNextsAt_0->Option R
 | 0,_=>none
 | n+1,v=>BsNextsAt_0 k X0 c (LsNextsAt_0 k X0 c n) v
noncomputable def fsNextsAt_0 {R:Type} (k:Nat) (K:Ex->St->Option R) (c:CsNextsAt_0):=lpf E k 316 Tryz.f316 0 [0,1,2,3,4,9,10] (StsNextsAt_0 c) K
theorem qsNextsAt_0 (k:Nat) (K:Ex->St->Option R) (X0 c) (h:QL (fsNextsAt_0 k K c) (BsNextsAt_0 k X0 c)) (v):LsNextsAt_0 k X0 c k v=fsNextsAt_0 k K c k v:=lq h (fun _ _=>rfl) (fun _=>rfl) (fun _=>rfl) k v
noncomputable def NsNextsAt:Ex->St->Option (List Int):=finish E (rs 316) Tryz.f316
theorem esNextsAt (k:Nat) (a0 a1 a2 a3):FsNextsAt (k+1) a0 a1 a2 a3=(FsAreOffsets k a0 a3).bind fun p1=>if ((!p1)==false)=true then (Fsl1In k a2 0 1000).bind fun p2=>if (!p2)=true then some ([]) else LsNextsAt_0 k (fun v0=>some v0.2) (a1,a2,a3,a0) k (0,[]) else some ([]):=by
 simp (disch:=(refine QL.mk fun n0 v=> ?_;kernel_rfl)) only [↓qsNextsAt_0 k (kon0 E k 316 Tryz.f316 0 NsNextsAt)]
 kernel_rfl
noncomputable def FsAnyLoopAt (k:Nat) (a0:TProgram) (a1:Int) (a2:List Int):Option (Bool):=den E k 217 [.agg (avs sProgram a0),cI a1,.c (.l 3 (.i .i64) a2)]
abbrev CsAnyLoopAt_0:=Int×(List Int)×TProgram
abbrev VsAnyLoopAt_0:=Int
def StsAnyLoopAt_0:CsAnyLoopAt_0->VsAnyLoopAt_0->St
 | (a,b,d),e=>⟨21,1,[(1,cI a),(2,.c (.l 3 (.i .i64) b)),(3,cP 0),(7,cI e)],[(0,.var (avs sProgram d))]⟩
noncomputable def BsAnyLoopAt_0 {R:Type} (k:Nat) (X0:VsAnyLoopAt_0->Int->(List Int)->Bool->Option R) (X1:VsAnyLoopAt_0->Int->Option R) (c0:CsAnyLoopAt_0) (rec:VsAnyLoopAt_0->Option R) (v0:VsAnyLoopAt_0):Option R:=(FsMin k c0.2.2.1 12).bind fun p1=>if (decide (v0<p1))=true then (FsNextsAt k c0.2.2 v0 c0.1 c0.2.1).bind fun p2=>(FsHasLoop k p2).bind fun p3=>if p3=true then X0 v0 p1 p2 p3 else rec (i64.wrap (v0+1)) else X1 v0 p1
noncomputable def LsAnyLoopAt_0 {R:Type} (k:Nat) (X0:VsAnyLoopAt_0->Int->(List Int)->Bool->Option R) (X1:VsAnyLoopAt_0->Int->Option R) (c:CsAnyLoopAt_0):Nat->VsAnyLoopAt_0->Option R
 | 0,_=>none
 | n+1,v=>BsAnyLoopAt_0 k X0 X1 c (LsAnyLoopAt_0 k X0 X1 c n) v
noncomputable def fsAnyLoopAt_0 {R:Type} (k:Nat) (K:Ex->St->Option R) (c:CsAnyLoopAt_0):=lpf E k 217 Tryz.f217 0 [0,1,2,3,7] (StsAnyLoopAt_0 c) K
theorem qsAnyLoopAt_0 (k:Nat) (K:Ex->St->Option R) (X0 X1 c) (h:QL (fsAnyLoopAt_0 k K c) (BsAnyLoopAt_0 k X0 X1 c)) (v):LsAnyLoopAt_0 k X0 X1 c k v=fsAnyLoopAt_0 k K c k v:=lq h (fun _ _=>rfl) (fun _=>rfl) (fun _=>rfl) k v
noncomputable def NsAnyLoopAt:Ex->St->Option (Bool):=finish E (rs 217) Tryz.f217
theorem esAnyLoopAt (k:Nat) (a0 a1 a2):FsAnyLoopAt (k+1) a0 a1 a2=LsAnyLoopAt_0 k (fun (v0:Int) (p1:Int) p2 p3=>some true) (fun (v0:Int) (p1:Int)=>some false) (a1,a2,a0) k 0:=by
 simp (disch:=(refine QL.mk fun n0 v=> ?_;kernel_rfl)) only [↓qsAnyLoopAt_0 k (kon0 E k 217 Tryz.f217 0 NsAnyLoopAt)]
 kernel_rfl
noncomputable def FsIsLoopFree (k:Nat) (a0:TWorld):Option (Bool):=den E k 116 [.agg (avs sWorld a0)]
abbrev CsIsLoopFree_0:=TWorld
abbrev VsIsLoopFree_0:=Int
def StsIsLoopFree_0:CsIsLoopFree_0->VsIsLoopFree_0->St
 | a,b=>⟨17,1,[(1,cP 0),(3,cI b)],[(0,.var (avs sWorld a))]⟩
noncomputable def BsIsLoopFree_0 {R:Type} (k:Nat) (X0:VsIsLoopFree_0->Int->Bool->Option R) (X1:VsIsLoopFree_0->Int->Option R) (c0:CsIsLoopFree_0) (rec:VsIsLoopFree_0->Option R) (v0:VsIsLoopFree_0):Option R:=(FsMin k c0.2.2.2.2.2.2.2.2.2.2.2.1 1000).bind fun p1=>if (decide (v0<p1))=true then (FsAnyLoopAt k c0.2.1 v0 c0.2.2.2.1).bind fun p2=>if p2=true then X0 v0 p1 p2 else rec (i64.wrap (v0+1)) else X1 v0 p1
noncomputable def LsIsLoopFree_0 {R:Type} (k:Nat) (X0:VsIsLoopFree_0->Int->Bool->Option R) (X1:VsIsLoopFree_0->Int->Option R) (c:CsIsLoopFree_0):Nat->VsIsLoopFree_0->Option R
 | 0,_=>none
 | n+1,v=>BsIsLoopFree_0 k X0 X1 c (LsIsLoopFree_0 k X0 X1 c n) v
noncomputable def fsIsLoopFree_0 {R:Type} (k:Nat) (K:Ex->St->Option R) (c:CsIsLoopFree_0):=lpf E k 116 Tryz.f116 0 [0,1,3] (StsIsLoopFree_0 c) K
theorem qsIsLoopFree_0 (k:Nat) (K:Ex->St->Option R) (X0 X1 c) (h:QL (fsIsLoopFree_0 k K c) (BsIsLoopFree_0 k X0 X1 c)) (v):LsIsLoopFree_0 k X0 X1 c k v=fsIsLoopFree_0 k K c k v:=lq h (fun _ _=>rfl) (fun _=>rfl) (fun _=>rfl) k v
noncomputable def NsIsLoopFree:Ex->St->Option (Bool):=finish E (rs 116) Tryz.f116
theorem esIsLoopFree (k:Nat) (a0):FsIsLoopFree (k+1) a0=LsIsLoopFree_0 k (fun (v0:Int) (p1:Int) p2=>some false) (fun (v0:Int) (p1:Int)=>some true) a0 k 0:=by
 simp (disch:=(refine QL.mk fun n0 v=> ?_;kernel_rfl)) only [↓qsIsLoopFree_0 k (kon0 E k 116 Tryz.f116 0 NsIsLoopFree)]
 kernel_rfl
noncomputable def FsIsPowered (k:Nat) (a0:TWorld):Option (Bool):=den E k 114 [.agg (avs sWorld a0)]
abbrev CsIsPowered_0:=TWorld
abbrev VsIsPowered_0:=Int
def StsIsPowered_0:CsIsPowered_0->VsIsPowered_0->St
 | a,b=>⟨24,1,[(1,cP 0),(3,cI b)],[(0,.var (avs sWorld a))]⟩
noncomputable def BsIsPowered_0 {R:Type} (k:Nat) (X0:VsIsPowered_0->I6->I6->Option R) (X1:VsIsPowered_0->Option R) (c0:CsIsPowered_0) (rec:VsIsPowered_0->Option R) (v0:VsIsPowered_0):Option R:=if (decide (v0<(c0.2.2.2.2.1.length:Int)))=true then if 0<=v0 then ix c0.2.2.2.2.1 v0.toNat fun x1=>if 0<=v0 then ix c0.2.2.2.2.1 v0.toNat fun x2=>if (decide (x1.1<x2.2.2.1))=true then X0 v0 x1 x2 else rec (i64.wrap (v0+1)) else none else none else X1 v0
noncomputable def LsIsPowered_0 {R:Type} (k:Nat) (X0:VsIsPowered_0->I6->I6->Option R) (X1:VsIsPowered_0->Option R) (c:CsIsPowered_0):Nat->VsIsPowered_0->Option R
 | 0,_=>none
 | n+1,v=>BsIsPowered_0 k X0 X1 c (LsIsPowered_0 k X0 X1 c n) v
noncomputable def fsIsPowered_0 {R:Type} (k:Nat) (K:Ex->St->Option R) (c:CsIsPowered_0):=lpf E k 114 Tryz.f114 0 [0,1,3] (StsIsPowered_0 c) K
theorem qsIsPowered_0 (k:Nat) (K:Ex->St->Option R) (X0 X1 c) (h:QL (fsIsPowered_0 k K c) (BsIsPowered_0 k X0 X1 c)) (v):LsIsPowered_0 k X0 X1 c k v=fsIsPowered_0 k K c k v:=lq h (fun _ _=>rfl) (fun _=>rfl) (fun _=>rfl) k v
noncomputable def NsIsPowered:Ex->St->Option (Bool):=finish E (rs 114) Tryz.f114
theorem esIsPowered (k:Nat) (a0):FsIsPowered (k+1) a0=LsIsPowered_0 k (fun (v0:Int) x1 x2=>some false) (fun (v0:Int)=>some true) a0 k 0:=by
 simp (disch:=(refine QL.mk fun n0 v=> ?_;kernel_rfl)) only [↓qsIsPowered_0 k (kon0 E k 114 Tryz.f114 0 NsIsPowered)]
 kernel_rfl
noncomputable def FsMod (k:Nat) (a0:Int) (a1:Int):Option (Int):=den E k 423 [cI a0,cI a1]
theorem esMod (k:Nat) (a0 a1):FsMod (k+1) a0 a1=(Fsl1In k a1 1 1000000000000).bind fun p1=>if (!p1)=true then some 0 else if a1=0 then none else if a1=0 then none else some (((i64.wrap (((a0).tmod a1)+a1))).tmod a1):=by kernel_rfl
noncomputable def FsAngleOf (k:Nat) (a0:Int):Option (Int):=den E k 361 [cI a0]
theorem esAngleOf (k:Nat) (a0):FsAngleOf (k+1) a0=(FsMod k a0 360).bind fun p1=>some p1:=by kernel_rfl
noncomputable def FsInArc (k:Nat) (a0:I2) (a1:Int):Option (Bool):=den E k 381 [.agg [vI a0.1,vI a0.2],cI a1]
theorem esInArc (k:Nat) (a0 a1):FsInArc (k+1) a0 a1=if ((decide (a0.2>=0))==true)=true then (FsAngleOf k a1).bind fun p1=>(FsAngleOf k a0.1).bind fun p2=>(FsAngleOf k (i64.wrap (p1-p2))).bind fun p3=>some (decide (p3<=a0.2)) else some false:=by kernel_rfl
noncomputable def FsArcsMeet (k:Nat) (a0:I2) (a1:I2):Option (Bool):=den E k 309 [.agg [vI a0.1,vI a0.2],.agg [vI a1.1,vI a1.2]]
theorem esArcsMeet (k:Nat) (a0 a1):FsArcsMeet (k+1) a0 a1=if ((decide (a0.2>=0))==true)=true then if ((decide (a1.2>=0))==true)=true then (FsInArc k a0 a1.1).bind fun p1=>if (p1==false)=true then (FsInArc k a1 a0.1).bind fun p2=>some p2 else some true else some false else some false:=by kernel_rfl
noncomputable def Fsl6Speed (k:Nat) (a0:Int):Option (Int):=den E k 422 [cI a0]
theorem esl6Speed (k:Nat) (a0):Fsl6Speed (k+1) a0=(Fsl1In k a0 (-60) 60).bind fun p1=>if p1=true then some a0 else some 0:=by kernel_rfl
noncomputable def FsPlaceAt (k:Nat) (a0:I4) (a1:Int):Option (Int):=den E k 360 [.agg (avs sI4 a0),cI a1]
theorem esPlaceAt (k:Nat) (a0 a1):FsPlaceAt (k+1) a0 a1=(Fsl1In k a1 0 1000).bind fun p1=>if (!p1)=true then (FsAngleOf k a0.2.1).bind fun p2=>(Fsl6Speed k a0.2.2.1).bind fun p3=>(FsAngleOf k (i64.wrap (p2+(i64.wrap (p3*0))))).bind fun p4=>some p4 else (FsAngleOf k a0.2.1).bind fun p5=>(Fsl6Speed k a0.2.2.1).bind fun p6=>(FsAngleOf k (i64.wrap (p5+(i64.wrap (p6*a1))))).bind fun p7=>some p7:=by kernel_rfl
noncomputable def FsWidenArc (k:Nat) (a0:I2) (a1:Int):Option I2:=den E k 421 [.agg [vI a0.1,vI a0.2],cI a1]
theorem esWidenArc (k:Nat) (a0 a1):FsWidenArc (k+1) a0 a1=(Fsl1In k a1 0 360).bind fun p1=>if ((!p1)==false)=true then (Fsl1In k a0.2 0 359).bind fun p2=>if (!p2)=true then (FsAngleOf k a0.1).bind fun p3=>some (p3,a0.2) else (FsAngleOf k a0.1).bind fun p4=>(FsAngleOf k (i64.wrap (p4-a1))).bind fun p5=>(FsMin k 359 (i64.wrap (a0.2+(i64.wrap (2*a1))))).bind fun p6=>some (p5,p6) else (FsAngleOf k a0.1).bind fun p7=>some (p7,a0.2):=by kernel_rfl
noncomputable def FsPlacesAt (k:Nat) (a0:I4) (a1:Int):Option I2:=den E k 359 [.agg (avs sI4 a0),cI a1]
theorem esPlacesAt (k:Nat) (a0 a1):FsPlacesAt (k+1) a0 a1=(FsPlaceAt k a0 a1).bind fun p1=>(FsWidenArc k (p1,0) a0.2.2.2).bind fun p2=>some p2:=by kernel_rfl
noncomputable def FsNodeAt (k:Nat) (a0:TSky) (a1:Int) (a2:Int):Option I2:=den E k 276 [.agg (avs sSky a0),cI a1,cI a2]
theorem esNodeAt (k:Nat) (a0 a1 a2):FsNodeAt (k+1) a0 a1 a2=(Fsl1In k a1 0 (i64.wrap ((a0.2.1.length:Int)-1))).bind fun p1=>if p1=true then if 0<=a1 then ix a0.2.1 a1.toNat fun x2=>(FsPlacesAt k x2 a2).bind fun p3=>some p3 else none else (FsIsSite k a0 a1).bind fun p4=>if (!p4)=true then some (0,0) else if 0<=(i64.wrap (a1-(a0.2.1.length:Int))) then ix a0.2.2.1 ((i64.wrap (a1-(a0.2.1.length:Int))).toNat) fun x5=>(FsPlaceAt k (0,x5.2.1,x5.2.2,0) a2).bind fun p6=>some (p6,0) else none:=by kernel_rfl
noncomputable def FsMayDisturb (k:Nat) (a0:TSky) (a1:Int) (a2:Int):Option (Bool):=den E k 211 [.agg (avs sSky a0),cI a1,cI a2]
abbrev CsMayDisturb_0:=Int×Int×TSky
abbrev VsMayDisturb_0:=Int
def StsMayDisturb_0:CsMayDisturb_0->VsMayDisturb_0->St
 | (a,b,c),d=>⟨48,1,[(1,cI a),(2,cI b),(3,cP 0),(7,cI d)],[(0,.var (avs sSky c))]⟩
noncomputable def BsMayDisturb_0 {R:Type} (k:Nat) (X0:VsMayDisturb_0->I3->I4->I2->I3->Bool->Option R) (X1:VsMayDisturb_0->Option R) (c0:CsMayDisturb_0) (rec:VsMayDisturb_0->Option R) (v0:VsMayDisturb_0):Option R:=if (decide (v0<(c0.2.2.2.2.2.2.2.2.2.2.1.length:Int)))=true then if 0<=v0 then ix c0.2.2.2.2.2.2.2.2.2.2.1 v0.toNat fun x2=>if 0<=c0.1 then ix c0.2.2.2.1 c0.1.toNat fun x3=>if ((x2.1==x3.1)==true)=true then (FsNodeAt k c0.2.2 c0.1 c0.2.1).bind fun p4=>if 0<=v0 then ix c0.2.2.2.2.2.2.2.2.2.2.1 v0.toNat fun x5=>(FsArcsMeet k p4 x5.2).bind fun p6=>if p6=true then X0 v0 x2 x3 p4 x5 p6 else rec (i64.wrap (v0+1)) else none else rec (i64.wrap (v0+1)) else none else none else X1 v0
noncomputable def LsMayDisturb_0 {R:Type} (k:Nat) (X0:VsMayDisturb_0->I3->I4->I2->I3->Bool->Option R) (X1:VsMayDisturb_0->Option R) (c:CsMayDisturb_0):Nat->VsMayDisturb_0->Option R
 | 0,_=>none
 | n+1,v=>BsMayDisturb_0 k X0 X1 c (LsMayDisturb_0 k X0 X1 c n) v
noncomputable def fsMayDisturb_0 {R:Type} (k:Nat) (K:Ex->St->Option R) (c:CsMayDisturb_0):=lpf E k 211 Tryz.f211 0 [0,1,2,3,7] (StsMayDisturb_0 c) K
theorem qsMayDisturb_0 (k:Nat) (K:Ex->St->Option R) (X0 X1 c) (h:QL (fsMayDisturb_0 k K c) (BsMayDisturb_0 k X0 X1 c)) (v):LsMayDisturb_0 k X0 X1 c k v=fsMayDisturb_0 k K c k v:=lq h (fun _ _=>rfl) (fun _=>rfl) (fun _=>rfl) k v
noncomputable def NsMayDisturb:Ex->St->Option (Bool):=finish E (rs 211) Tryz.f211
theorem esMayDisturb (k:Nat) (a0 a1 a2):FsMayDisturb (k+1) a0 a1 a2=(Fsl1In k a1 0 (i64.wrap ((a0.2.1.length:Int)-1))).bind fun p1=>if (!p1)=true then some false else LsMayDisturb_0 k (fun (v0:Int) x2 x3 p4 x5 p6=>some true) (fun (v0:Int)=>some false) (a1,a2,a0) k 0:=by
 simp (disch:=(refine QL.mk fun n0 v=> ?_;kernel_rfl)) only [↓qsMayDisturb_0 k (kon0 E k 211 Tryz.f211 0 NsMayDisturb)]
 kernel_rfl
end Go.Proofs.YtdglapefgakccaaGreat.World
