/- The equations of the functions that a law reaches, part 1. No condition. -/
import Derived.Test.YtajfchgmnembgaaGreatDoorV3
import Derived.Test.YtajfchgmnembgaaGreatDoorProg
import Derived.KernelRfl
namespace Go.Proofs.YtajfchgmnembgaaGreatDoor.World
open Go Go.V Go.Proofs
set_option linter.unusedVariables false
set_option linter.unusedSimpArgs false
set_option maxRecDepth 100000
set_option maxHeartbeats 4000000
abbrev TLPiece : Type := (Int × Int) × (List (Int × Int)) × List (Int × (List Int) × List Int)
abbrev TPiece : Type := (Int × Int) × (List (Int × Int)) × List (Int × (List Int) × List Int)
abbrev TLProgram : Type := Int × Int × Int × List TPiece
abbrev TProgram : Type := Int × Int × Int × List TPiece
abbrev TLSky : Type := Int × (List (Int × Int × Int × Int)) × (List (Int × Int × Int)) × Int × Int × Int × Int × Int × (List (Int × Int × Int)) × Int
abbrev TSky : Type := Int × (List (Int × Int × Int × Int)) × (List (Int × Int × Int)) × Int × Int × Int × Int × Int × (List (Int × Int × Int)) × Int
abbrev TLWorld : Type := TSky × TProgram × (List Int) × (List Int) × (List (Int × Int × Int × Int × Int × Int)) × (List (List (Int × Int × Int × Int × Int × Int))) × (List (Int × Int × Int × Int)) × (List Int) × (List (Int × Int × List Int)) × (List (Int × Int × Int × Int)) × Int × Int × (List (Int × Int × Int × Int × Int × Int)) × List (Int × Int × Int × Int)
abbrev TWorld : Type := TSky × TProgram × (List Int) × (List Int) × (List (Int × Int × Int × Int × Int × Int)) × (List (List (Int × Int × Int × Int × Int × Int))) × (List (Int × Int × Int × Int)) × (List Int) × (List (Int × Int × List Int)) × (List (Int × Int × Int × Int)) × Int × Int × (List (Int × Int × Int × Int × Int × Int)) × List (Int × Int × Int × Int)
abbrev sI4 : Sh := (.a [(.i .i64), (.i .i64), (.i .i64), (.i .i64)])
abbrev sI3 : Sh := (.a [(.i .i64), (.i .i64), (.i .i64)])
abbrev sI2 : Sh := (.a [(.i .i64), (.i .i64)])
abbrev sZone : Sh := (.a [(.i .i64), sI2])
abbrev sLSky : Sh := (.a [(.i .i64), (.l 179 sI4), (.l 183 sI3), (.i .i64), (.i .i64), (.i .i64), (.i .i64), (.i .i64), (.l 191 sZone), (.i .i64)])
abbrev sTable : Sh := (.a [(.i .i64), (.l 3 (.i .i64)), (.l 3 (.i .i64))])
abbrev sLPiece : Sh := (.a [sI2, (.l 223 sI2), (.l 219 sTable)])
abbrev sLProgram : Sh := (.a [(.i .i64), (.i .i64), (.i .i64), (.l 175 sLPiece)])
abbrev sLaw : Sh := (.a [(.l 3 (.i .i64))])
abbrev sI6 : Sh := (.a [(.i .i64), (.i .i64), (.i .i64), (.i .i64), (.i .i64), (.i .i64)])
abbrev sLQueue : Sh := (.a [(.l 144 sI6)])
abbrev sStream : Sh := (.a [(.i .i64), (.i .i64), (.l 3 (.i .i64))])
abbrev sLWorld : Sh := (.a [sLSky, sLProgram, sLaw, (.l 3 (.i .i64)), (.l 129 sI6), (.l 119 sLQueue), (.l 134 sI4), (.l 3 (.i .i64)), (.l 122 sStream), (.l 140 sI4), (.i .i64), (.i .i64), (.l 144 sI6), (.l 148 sI4)])
abbrev sSky : Sh := (.a [(.i .i64), (.l 177 sI4), (.l 181 sI3), (.i .i64), (.i .i64), (.i .i64), (.i .i64), (.i .i64), (.l 187 sZone), (.i .i64)])
abbrev sPiece : Sh := (.a [sI2, (.l 221 sI2), (.l 224 sTable)])
abbrev sProgram : Sh := (.a [(.i .i64), (.i .i64), (.i .i64), (.l 196 sPiece)])
abbrev sQueue : Sh := (.a [(.l 142 sI6)])
abbrev sWorld : Sh := (.a [sSky, sProgram, sLaw, (.l 3 (.i .i64)), (.l 85 sI6), (.l 83 sQueue), (.l 132 sI4), (.l 3 (.i .i64)), (.l 135 sStream), (.l 138 sI4), (.i .i64), (.i .i64), (.l 142 sI6), (.l 146 sI4)])
noncomputable def ty : Nat → Option TyI
  | 3 => some ⟨.one, 1, 8, [(.int .i64 0)], (.i .i64)⟩
  | 4 => some ⟨.one, 1, 1, [(.bool false)], .b⟩
  | 5 => some ⟨.one, 1, 1, [(.int .u8 0)], (.i .u8)⟩
  | 9 => some ⟨.one, 1, 16, [(.string (⟨#[]⟩ : ByteArray))], .s⟩
  | 22 => some ⟨.slc 179, 1, 24, [(.slice none 0 0)], (.l 179 sI4)⟩
  | 23 => some ⟨.slc 183, 1, 24, [(.slice none 0 0)], (.l 183 sI3)⟩
  | 24 => some ⟨.slc 191, 1, 24, [(.slice none 0 0)], (.l 191 sZone)⟩
  | 26 => some ⟨.agg [(0, 3), (1, 22), (2, 23), (3, 3), (4, 3), (5, 3), (6, 3), (7, 3), (8, 24), (9, 3)], 10, 128, [(.int .i64 0), (.slice none 0 0), (.slice none 0 0), (.int .i64 0), (.int .i64 0), (.int .i64 0), (.int .i64 0), (.int .i64 0), (.slice none 0 0), (.int .i64 0)], sLSky⟩
  | 27 => some ⟨.slc 175, 1, 24, [(.slice none 0 0)], (.l 175 sLPiece)⟩
  | 29 => some ⟨.agg [(0, 3), (1, 3), (2, 3), (3, 27)], 4, 48, [(.int .i64 0), (.int .i64 0), (.int .i64 0), (.slice none 0 0)], sLProgram⟩
  | 30 => some ⟨.slc 3, 1, 24, [(.slice none 0 0)], (.l 3 (.i .i64))⟩
  | 32 => some ⟨.agg [(0, 30)], 1, 24, [(.slice none 0 0)], sLaw⟩
  | 33 => some ⟨.slc 129, 1, 24, [(.slice none 0 0)], (.l 129 sI6)⟩
  | 34 => some ⟨.slc 119, 1, 24, [(.slice none 0 0)], (.l 119 sLQueue)⟩
  | 35 => some ⟨.slc 134, 1, 24, [(.slice none 0 0)], (.l 134 sI4)⟩
  | 36 => some ⟨.slc 122, 1, 24, [(.slice none 0 0)], (.l 122 sStream)⟩
  | 37 => some ⟨.slc 140, 1, 24, [(.slice none 0 0)], (.l 140 sI4)⟩
  | 38 => some ⟨.slc 144, 1, 24, [(.slice none 0 0)], (.l 144 sI6)⟩
  | 39 => some ⟨.slc 148, 1, 24, [(.slice none 0 0)], (.l 148 sI4)⟩
  | 41 => some ⟨.agg [(0, 26), (10, 29), (14, 32), (15, 30), (16, 33), (17, 34), (18, 35), (19, 30), (20, 36), (21, 37), (22, 3), (23, 3), (24, 38), (25, 39)], 26, 432, [(.int .i64 0), (.slice none 0 0), (.slice none 0 0), (.int .i64 0), (.int .i64 0), (.int .i64 0), (.int .i64 0), (.int .i64 0), (.slice none 0 0), (.int .i64 0), (.int .i64 0), (.int .i64 0), (.int .i64 0), (.slice none 0 0), (.slice none 0 0), (.slice none 0 0), (.slice none 0 0), (.slice none 0 0), (.slice none 0 0), (.slice none 0 0), (.slice none 0 0), (.slice none 0 0), (.int .i64 0), (.int .i64 0), (.slice none 0 0), (.slice none 0 0)], sLWorld⟩
  | 44 => some ⟨.slc 177, 1, 24, [(.slice none 0 0)], (.l 177 sI4)⟩
  | 45 => some ⟨.slc 181, 1, 24, [(.slice none 0 0)], (.l 181 sI3)⟩
  | 46 => some ⟨.slc 187, 1, 24, [(.slice none 0 0)], (.l 187 sZone)⟩
  | 48 => some ⟨.agg [(0, 3), (1, 44), (2, 45), (3, 3), (4, 3), (5, 3), (6, 3), (7, 3), (8, 46), (9, 3)], 10, 128, [(.int .i64 0), (.slice none 0 0), (.slice none 0 0), (.int .i64 0), (.int .i64 0), (.int .i64 0), (.int .i64 0), (.int .i64 0), (.slice none 0 0), (.int .i64 0)], sSky⟩
  | 49 => some ⟨.slc 196, 1, 24, [(.slice none 0 0)], (.l 196 sPiece)⟩
  | 51 => some ⟨.agg [(0, 3), (1, 3), (2, 3), (3, 49)], 4, 48, [(.int .i64 0), (.int .i64 0), (.int .i64 0), (.slice none 0 0)], sProgram⟩
  | 52 => some ⟨.agg [(0, 30)], 1, 24, [(.slice none 0 0)], sLaw⟩
  | 53 => some ⟨.slc 85, 1, 24, [(.slice none 0 0)], (.l 85 sI6)⟩
  | 54 => some ⟨.slc 83, 1, 24, [(.slice none 0 0)], (.l 83 sQueue)⟩
  | 55 => some ⟨.slc 132, 1, 24, [(.slice none 0 0)], (.l 132 sI4)⟩
  | 56 => some ⟨.slc 135, 1, 24, [(.slice none 0 0)], (.l 135 sStream)⟩
  | 57 => some ⟨.slc 138, 1, 24, [(.slice none 0 0)], (.l 138 sI4)⟩
  | 58 => some ⟨.slc 142, 1, 24, [(.slice none 0 0)], (.l 142 sI6)⟩
  | 59 => some ⟨.slc 146, 1, 24, [(.slice none 0 0)], (.l 146 sI4)⟩
  | 61 => some ⟨.agg [(0, 48), (10, 51), (14, 52), (15, 30), (16, 53), (17, 54), (18, 55), (19, 30), (20, 56), (21, 57), (22, 3), (23, 3), (24, 58), (25, 59)], 26, 432, [(.int .i64 0), (.slice none 0 0), (.slice none 0 0), (.int .i64 0), (.int .i64 0), (.int .i64 0), (.int .i64 0), (.int .i64 0), (.slice none 0 0), (.int .i64 0), (.int .i64 0), (.int .i64 0), (.int .i64 0), (.slice none 0 0), (.slice none 0 0), (.slice none 0 0), (.slice none 0 0), (.slice none 0 0), (.slice none 0 0), (.slice none 0 0), (.slice none 0 0), (.slice none 0 0), (.int .i64 0), (.int .i64 0), (.slice none 0 0), (.slice none 0 0)], sWorld⟩
  | 83 => some ⟨.agg [(0, 58)], 1, 24, [(.slice none 0 0)], sQueue⟩
  | 85 => some ⟨.agg [(0, 3), (1, 3), (2, 3), (3, 3), (4, 3), (5, 3)], 6, 48, [(.int .i64 0), (.int .i64 0), (.int .i64 0), (.int .i64 0), (.int .i64 0), (.int .i64 0)], sI6⟩
  | 111 => some ⟨.slc 9, 1, 24, [(.slice none 0 0)], (.l 9 .s)⟩
  | 119 => some ⟨.agg [(0, 38)], 1, 24, [(.slice none 0 0)], sLQueue⟩
  | 122 => some ⟨.agg [(0, 3), (1, 3), (2, 30)], 3, 40, [(.int .i64 0), (.int .i64 0), (.slice none 0 0)], sStream⟩
  | 123 => some ⟨.slc 5, 1, 24, [(.slice none 0 0)], (.l 5 (.i .u8))⟩
  | 129 => some ⟨.agg [(0, 3), (1, 3), (2, 3), (3, 3), (4, 3), (5, 3)], 6, 48, [(.int .i64 0), (.int .i64 0), (.int .i64 0), (.int .i64 0), (.int .i64 0), (.int .i64 0)], sI6⟩
  | 132 => some ⟨.agg [(0, 3), (1, 3), (2, 3), (3, 3)], 4, 32, [(.int .i64 0), (.int .i64 0), (.int .i64 0), (.int .i64 0)], sI4⟩
  | 134 => some ⟨.agg [(0, 3), (1, 3), (2, 3), (3, 3)], 4, 32, [(.int .i64 0), (.int .i64 0), (.int .i64 0), (.int .i64 0)], sI4⟩
  | 135 => some ⟨.agg [(0, 3), (1, 3), (2, 30)], 3, 40, [(.int .i64 0), (.int .i64 0), (.slice none 0 0)], sStream⟩
  | 138 => some ⟨.agg [(0, 3), (1, 3), (2, 3), (3, 3)], 4, 32, [(.int .i64 0), (.int .i64 0), (.int .i64 0), (.int .i64 0)], sI4⟩
  | 140 => some ⟨.agg [(0, 3), (1, 3), (2, 3), (3, 3)], 4, 32, [(.int .i64 0), (.int .i64 0), (.int .i64 0), (.int .i64 0)], sI4⟩
  | 142 => some ⟨.agg [(0, 3), (1, 3), (2, 3), (3, 3), (4, 3), (5, 3)], 6, 48, [(.int .i64 0), (.int .i64 0), (.int .i64 0), (.int .i64 0), (.int .i64 0), (.int .i64 0)], sI6⟩
  | 144 => some ⟨.agg [(0, 3), (1, 3), (2, 3), (3, 3), (4, 3), (5, 3)], 6, 48, [(.int .i64 0), (.int .i64 0), (.int .i64 0), (.int .i64 0), (.int .i64 0), (.int .i64 0)], sI6⟩
  | 146 => some ⟨.agg [(0, 3), (1, 3), (2, 3), (3, 3)], 4, 32, [(.int .i64 0), (.int .i64 0), (.int .i64 0), (.int .i64 0)], sI4⟩
  | 148 => some ⟨.agg [(0, 3), (1, 3), (2, 3), (3, 3)], 4, 32, [(.int .i64 0), (.int .i64 0), (.int .i64 0), (.int .i64 0)], sI4⟩
  | 171 => some ⟨.agg [(0, 3), (1, 3)], 2, 16, [(.int .i64 0), (.int .i64 0)], sI2⟩
  | 172 => some ⟨.slc 223, 1, 24, [(.slice none 0 0)], (.l 223 sI2)⟩
  | 173 => some ⟨.slc 219, 1, 24, [(.slice none 0 0)], (.l 219 sTable)⟩
  | 175 => some ⟨.agg [(0, 171), (2, 172), (3, 173)], 4, 64, [(.int .i64 0), (.int .i64 0), (.slice none 0 0), (.slice none 0 0)], sLPiece⟩
  | 177 => some ⟨.agg [(0, 3), (1, 3), (2, 3), (3, 3)], 4, 32, [(.int .i64 0), (.int .i64 0), (.int .i64 0), (.int .i64 0)], sI4⟩
  | 179 => some ⟨.agg [(0, 3), (1, 3), (2, 3), (3, 3)], 4, 32, [(.int .i64 0), (.int .i64 0), (.int .i64 0), (.int .i64 0)], sI4⟩
  | 181 => some ⟨.agg [(0, 3), (1, 3), (2, 3)], 3, 24, [(.int .i64 0), (.int .i64 0), (.int .i64 0)], sI3⟩
  | 183 => some ⟨.agg [(0, 3), (1, 3), (2, 3)], 3, 24, [(.int .i64 0), (.int .i64 0), (.int .i64 0)], sI3⟩
  | 185 => some ⟨.agg [(0, 3), (1, 3)], 2, 16, [(.int .i64 0), (.int .i64 0)], sI2⟩
  | 187 => some ⟨.agg [(0, 3), (1, 185)], 3, 24, [(.int .i64 0), (.int .i64 0), (.int .i64 0)], sZone⟩
  | 189 => some ⟨.agg [(0, 3), (1, 3)], 2, 16, [(.int .i64 0), (.int .i64 0)], sI2⟩
  | 191 => some ⟨.agg [(0, 3), (1, 189)], 3, 24, [(.int .i64 0), (.int .i64 0), (.int .i64 0)], sZone⟩
  | 192 => some ⟨.agg [(0, 3), (1, 3)], 2, 16, [(.int .i64 0), (.int .i64 0)], sI2⟩
  | 193 => some ⟨.slc 221, 1, 24, [(.slice none 0 0)], (.l 221 sI2)⟩
  | 194 => some ⟨.slc 224, 1, 24, [(.slice none 0 0)], (.l 224 sTable)⟩
  | 196 => some ⟨.agg [(0, 192), (2, 193), (3, 194)], 4, 64, [(.int .i64 0), (.int .i64 0), (.slice none 0 0), (.slice none 0 0)], sPiece⟩
  | 219 => some ⟨.agg [(0, 3), (1, 30), (2, 30)], 3, 56, [(.int .i64 0), (.slice none 0 0), (.slice none 0 0)], sTable⟩
  | 221 => some ⟨.agg [(0, 3), (1, 3)], 2, 16, [(.int .i64 0), (.int .i64 0)], sI2⟩
  | 223 => some ⟨.agg [(0, 3), (1, 3)], 2, 16, [(.int .i64 0), (.int .i64 0)], sI2⟩
  | 224 => some ⟨.agg [(0, 3), (1, 30), (2, 30)], 3, 56, [(.int .i64 0), (.slice none 0 0), (.slice none 0 0)], sTable⟩
  | _ => none
noncomputable def fn0 : Nat → Option Func
  | 3 => some Tryz.f3
  | 4 => some Tryz.f4
  | 5 => some Tryz.f5
  | 6 => some Tryz.f6
  | 7 => some Tryz.f7
  | 8 => some Tryz.f8
  | 9 => some Tryz.f9
  | 10 => some Tryz.f10
  | 11 => some Tryz.f11
  | 12 => some Tryz.f12
  | 13 => some Tryz.f13
  | 14 => some Tryz.f14
  | 15 => some Tryz.f15
  | 16 => some Tryz.f16
  | 17 => some Tryz.f17
  | 18 => some Tryz.f18
  | 19 => some Tryz.f19
  | 20 => some Tryz.f20
  | 21 => some Tryz.f21
  | 22 => some Tryz.f22
  | 23 => some Tryz.f23
  | 24 => some Tryz.f24
  | 25 => some Tryz.f25
  | 26 => some Tryz.f26
  | 27 => some Tryz.f27
  | 28 => some Tryz.f28
  | 29 => some Tryz.f29
  | 30 => some Tryz.f30
  | 31 => some Tryz.f31
  | 32 => some Tryz.f32
  | 33 => some Tryz.f33
  | 34 => some Tryz.f34
  | 35 => some Tryz.f35
  | 36 => some Tryz.f36
  | 37 => some Tryz.f37
  | 38 => some Tryz.f38
  | 39 => some Tryz.f39
  | 40 => some Tryz.f40
  | 41 => some Tryz.f41
  | 42 => some Tryz.f42
  | 43 => some Tryz.f43
  | 44 => some Tryz.f44
  | 45 => some Tryz.f45
  | 46 => some Tryz.f46
  | 47 => some Tryz.f47
  | 48 => some Tryz.f48
  | 49 => some Tryz.f49
  | 50 => some Tryz.f50
  | 51 => some Tryz.f51
  | 52 => some Tryz.f52
  | 53 => some Tryz.f53
  | 54 => some Tryz.f54
  | 55 => some Tryz.f55
  | 56 => some Tryz.f56
  | 58 => some Tryz.f58
  | 59 => some Tryz.f59
  | 60 => some Tryz.f60
  | 61 => some Tryz.f61
  | 62 => some Tryz.f62
  | 63 => some Tryz.f63
  | _ => none
noncomputable def fn1 : Nat → Option Func
  | 64 => some Tryz.f64
  | 65 => some Tryz.f65
  | 66 => some Tryz.f66
  | 67 => some Tryz.f67
  | 68 => some Tryz.f68
  | 69 => some Tryz.f69
  | 70 => some Tryz.f70
  | 71 => some Tryz.f71
  | 72 => some Tryz.f72
  | 73 => some Tryz.f73
  | 74 => some Tryz.f74
  | 75 => some Tryz.f75
  | 77 => some Tryz.f77
  | 78 => some Tryz.f78
  | 79 => some Tryz.f79
  | 80 => some Tryz.f80
  | 81 => some Tryz.f81
  | 82 => some Tryz.f82
  | 83 => some Tryz.f83
  | 84 => some Tryz.f84
  | 85 => some Tryz.f85
  | 86 => some Tryz.f86
  | 87 => some Tryz.f87
  | 91 => some Tryz.f91
  | 92 => some Tryz.f92
  | 93 => some Tryz.f93
  | 94 => some Tryz.f94
  | 95 => some Tryz.f95
  | 97 => some Tryz.f97
  | 98 => some Tryz.f98
  | 99 => some Tryz.f99
  | 100 => some Tryz.f100
  | 103 => some Tryz.f103
  | 104 => some Tryz.f104
  | 105 => some Tryz.f105
  | 106 => some Tryz.f106
  | 107 => some Tryz.f107
  | 108 => some Tryz.f108
  | 110 => some Tryz.f110
  | 111 => some Tryz.f111
  | 112 => some Tryz.f112
  | 113 => some Tryz.f113
  | 116 => some Tryz.f116
  | 117 => some Tryz.f117
  | 118 => some Tryz.f118
  | 123 => some Tryz.f123
  | 124 => some Tryz.f124
  | _ => none
noncomputable def fn (f : Nat) : Option Func := (match fn0 f with
  | some F => some F
  | none => fn1 f)
def lv : Nat → List Nat
  | 10 => [0, 1, 3, 4]
  | 11 => [0, 1, 3, 8, 9, 10]
  | 17 => [0, 0, 1, 5]
  | 19 => [0, 0, 1, 5]
  | 26 => [0, 0, 3, 4]
  | 30 => [0, 0, 3, 4]
  | 31 => [0, 0, 3, 4]
  | 32 => [0, 0, 3, 4]
  | 33 => [0, 0, 3, 4]
  | 34 => [0, 0, 3, 4]
  | 35 => [0, 0, 3, 4]
  | 36 => [0, 0, 3, 4]
  | 37 => [0, 0, 3, 4]
  | 46 => [0, 0, 1, 5]
  | 47 => [0, 0, 1, 5]
  | 48 => [0, 0, 1, 5]
  | 49 => [0, 0, 1, 5]
  | 50 => [0, 0, 1, 5]
  | 51 => [0, 0, 1, 5]
  | 52 => [0, 0, 1, 5]
  | 53 => [0, 0, 1, 5]
  | 54 => [0, 1, 3, 4]
  | 55 => [0, 0, 1, 5, 6]
  | 56 => [0, 3, 7, 8, 9]
  | 61 => [0, 0, 1, 5]
  | 64 => [0, 0, 3, 4]
  | 65 => [0, 0, 3, 4]
  | 66 => [0, 0, 3, 4]
  | 67 => [0, 0, 3, 4]
  | 77 => [0, 0, 1, 5]
  | 78 => [0, 0, 1, 5]
  | 79 => [0, 0, 1, 5]
  | 80 => [0, 0, 1, 5]
  | 104 => [0, 0, 1, 5]
  | 107 => [0, 0, 3, 4]
  | 108 => [0, 0, 3, 4]
  | 112 => [0, 0, 1, 5]
  | 113 => [0, 0, 1, 5]
  | _ => []
def rs : Nat → RSh
  | 3 => ⟨false, [.b], 0⟩
  | 4 => ⟨false, [.b], 0⟩
  | 5 => ⟨false, [(.i .i64)], 0⟩
  | 6 => ⟨false, [.s], 0⟩
  | 7 => ⟨true, [sWorld], 0⟩
  | 8 => ⟨false, [.s], 0⟩
  | 9 => ⟨false, [.b], 0⟩
  | 10 => ⟨false, [.s], 0⟩
  | 11 => ⟨false, [.s], 0⟩
  | 12 => ⟨false, [(.i .i64)], 0⟩
  | 13 => ⟨false, [(.i .i64)], 0⟩
  | 14 => ⟨false, [(.i .i64)], 0⟩
  | 15 => ⟨false, [(.i .i64)], 0⟩
  | 16 => ⟨false, [(.i .i64)], 0⟩
  | 17 => ⟨false, [(.i .i64)], 0⟩
  | 18 => ⟨false, [(.i .i64)], 0⟩
  | 19 => ⟨false, [(.i .i64)], 0⟩
  | 20 => ⟨false, [(.i .i64)], 0⟩
  | 21 => ⟨false, [(.i .i64)], 0⟩
  | 22 => ⟨false, [(.i .i64)], 0⟩
  | 23 => ⟨false, [.b], 0⟩
  | 24 => ⟨false, [(.i .i64)], 0⟩
  | 25 => ⟨false, [.b], 0⟩
  | 26 => ⟨false, [.s], 0⟩
  | 27 => ⟨true, [sSky], 0⟩
  | 28 => ⟨true, [sProgram], 0⟩
  | 29 => ⟨true, [sLaw], 0⟩
  | 30 => ⟨true, [(.l 3 (.i .i64))], 0⟩
  | 31 => ⟨true, [(.l 85 sI6)], 0⟩
  | 32 => ⟨true, [(.l 83 sQueue)], 0⟩
  | 33 => ⟨true, [(.l 132 sI4)], 0⟩
  | 34 => ⟨true, [(.l 135 sStream)], 0⟩
  | 35 => ⟨true, [(.l 138 sI4)], 0⟩
  | 36 => ⟨true, [(.l 142 sI6)], 0⟩
  | 37 => ⟨true, [(.l 146 sI4)], 0⟩
  | 38 => ⟨false, [.b], 0⟩
  | 39 => ⟨false, [(.i .i64)], 0⟩
  | 40 => ⟨false, [.b], 0⟩
  | 41 => ⟨false, [.s], 0⟩
  | 42 => ⟨false, [.b], 0⟩
  | 43 => ⟨false, [.b], 0⟩
  | 44 => ⟨false, [.b], 0⟩
  | 45 => ⟨false, [.b], 0⟩
  | 46 => ⟨false, [.b], 0⟩
  | 47 => ⟨false, [.b], 0⟩
  | 48 => ⟨false, [.b], 0⟩
  | 49 => ⟨false, [.b], 0⟩
  | 50 => ⟨false, [.b], 0⟩
  | 51 => ⟨false, [.b], 0⟩
  | 52 => ⟨false, [.b], 0⟩
  | 53 => ⟨false, [.b], 0⟩
  | 54 => ⟨false, [(.i .i64)], 0⟩
  | 55 => ⟨false, [.s], 0⟩
  | 56 => ⟨false, [(.i .i64)], 0⟩
  | 57 => ⟨false, [.s], 0⟩
  | 58 => ⟨false, [(.i .i64)], 0⟩
  | 59 => ⟨false, [(.i .i64)], 0⟩
  | 60 => ⟨false, [(.i .i64)], 0⟩
  | 61 => ⟨false, [(.i .i64)], 0⟩
  | 62 => ⟨false, [(.i .i64)], 0⟩
  | 63 => ⟨false, [(.i .i64)], 0⟩
  | 64 => ⟨true, [(.l 177 sI4)], 0⟩
  | 65 => ⟨true, [(.l 181 sI3)], 0⟩
  | 66 => ⟨true, [(.l 187 sZone)], 0⟩
  | 67 => ⟨true, [(.l 196 sPiece)], 0⟩
  | 68 => ⟨false, [sI6], 0⟩
  | 69 => ⟨true, [sQueue], 0⟩
  | 70 => ⟨false, [sI4], 0⟩
  | 71 => ⟨true, [sStream], 0⟩
  | 72 => ⟨false, [sI4], 0⟩
  | 73 => ⟨false, [sI6], 0⟩
  | 74 => ⟨false, [sI4], 0⟩
  | 75 => ⟨false, [.b], 0⟩
  | 76 => ⟨false, [.s], 0⟩
  | 77 => ⟨false, [.b], 0⟩
  | 78 => ⟨false, [.b], 0⟩
  | 79 => ⟨false, [.b], 0⟩
  | 80 => ⟨false, [.b], 0⟩
  | 81 => ⟨false, [.b], 0⟩
  | 82 => ⟨false, [.b], 0⟩
  | 83 => ⟨false, [.b], 0⟩
  | 84 => ⟨false, [.b], 0⟩
  | 85 => ⟨false, [.b], 0⟩
  | 86 => ⟨false, [.b], 0⟩
  | 87 => ⟨false, [.b], 0⟩
  | 91 => ⟨false, [(.i .i64)], 0⟩
  | 92 => ⟨false, [sI4], 0⟩
  | 93 => ⟨false, [sI3], 0⟩
  | 94 => ⟨false, [sZone], 0⟩
  | 95 => ⟨true, [sPiece], 0⟩
  | 97 => ⟨false, [.b], 0⟩
  | 98 => ⟨false, [.b], 0⟩
  | 99 => ⟨false, [.b], 0⟩
  | 100 => ⟨false, [.b], 0⟩
  | 103 => ⟨false, [(.i .i64)], 0⟩
  | 104 => ⟨false, [(.i .i64)], 0⟩
  | 105 => ⟨false, [sI2], 0⟩
  | 106 => ⟨false, [sI2], 0⟩
  | 107 => ⟨true, [(.l 221 sI2)], 0⟩
  | 108 => ⟨true, [(.l 224 sTable)], 0⟩
  | 110 => ⟨false, [.b], 0⟩
  | 111 => ⟨false, [.b], 0⟩
  | 112 => ⟨false, [.b], 0⟩
  | 113 => ⟨false, [.b], 0⟩
  | 116 => ⟨false, [(.i .i64)], 0⟩
  | 117 => ⟨false, [sI2], 0⟩
  | 118 => ⟨true, [sTable], 0⟩
  | 123 => ⟨false, [.b], 0⟩
  | 124 => ⟨false, [.b], 0⟩
  | _ => ⟨false, [], 0⟩
def tk : Nat → List (Option Sh)
  | _ => []
def ext : (f : Nat) → Option (List AV → Option (RTy (rs f)))
  | 57 => some extJoin
  | 76 => some extItoa
  | _ => none
noncomputable def E : Env := { P := Tryz.prog, fn := fn, ty := ty, lv := lv, rs := rs, tk := tk, ext := ext, tab := [(1, (Lib.pow10Tab.map fun z => Value.int .u64 z).toArray)] }
/-! strconv.Itoa -/
noncomputable def FgItoa (k : Nat) (a0 : Int) : Option (ByteArray) := den E k 76 [.c (.v (.int .i64 a0))]
theorem egItoa (k : Nat) (a0 : Int) : FgItoa (k + 1) a0 = if -9223372036854775808 ≤ a0 then if a0 ≤ 9223372036854775807 then some (itoaB a0) else none else none := by kernel_rfl
/-! loop.example/g00599/impl.FormatInt -/
noncomputable def FiFormatInt (k : Nat) (a0 : Int) : Option (ByteArray) := den E k 41 [.c (.v (.int .i64 a0))]
theorem eiFormatInt (k : Nat) (a0 : Int) : FiFormatInt (k + 1) a0 = (FgItoa k a0).bind fun p1 => some p1 := by kernel_rfl
/-! loop.example/g00599/impl.InRange -/
noncomputable def FiInRange (k : Nat) (a0 : Int) (a1 : Int) (a2 : Int) : Option (Bool) := den E k 75 [.c (.v (.int .i64 a0)), .c (.v (.int .i64 a1)), .c (.v (.int .i64 a2))]
theorem eiInRange (k : Nat) (a0 : Int) (a1 : Int) (a2 : Int) : FiInRange (k + 1) a0 a1 a2 = if ((decide (a1 ≤ a0)) == true) = true then some (decide (a0 ≤ a2)) else some false := by kernel_rfl
/-! loop.example/g00599/impl.NodesOf -/
noncomputable def FiNodesOf (k : Nat) (a0 : TSky) : Option (Int) := den E k 39 [.agg [.v (.int .i64 a0.1), .l 177 sI4 a0.2.1, .l 181 sI3 a0.2.2.1, .v (.int .i64 a0.2.2.2.1), .v (.int .i64 a0.2.2.2.2.1), .v (.int .i64 a0.2.2.2.2.2.1), .v (.int .i64 a0.2.2.2.2.2.2.1), .v (.int .i64 a0.2.2.2.2.2.2.2.1), .l 187 sZone a0.2.2.2.2.2.2.2.2.1, .v (.int .i64 a0.2.2.2.2.2.2.2.2.2)]]
theorem eiNodesOf (k : Nat) (a0 : TSky) : FiNodesOf (k + 1) a0 = some (IntKind.i64.wrap ((a0.2.1.length : Int) + (a0.2.2.1.length : Int))) := by kernel_rfl
/-! loop.example/g00599/impl.IsSite -/
noncomputable def FiIsSite (k : Nat) (a0 : TSky) (a1 : Int) : Option (Bool) := den E k 40 [.agg [.v (.int .i64 a0.1), .l 177 sI4 a0.2.1, .l 181 sI3 a0.2.2.1, .v (.int .i64 a0.2.2.2.1), .v (.int .i64 a0.2.2.2.2.1), .v (.int .i64 a0.2.2.2.2.2.1), .v (.int .i64 a0.2.2.2.2.2.2.1), .v (.int .i64 a0.2.2.2.2.2.2.2.1), .l 187 sZone a0.2.2.2.2.2.2.2.2.1, .v (.int .i64 a0.2.2.2.2.2.2.2.2.2)], .c (.v (.int .i64 a1))]
theorem eiIsSite (k : Nat) (a0 : TSky) (a1 : Int) : FiIsSite (k + 1) a0 a1 = (FiNodesOf k a0).bind fun p1 => (FiInRange k a1 (a0.2.1.length : Int) (IntKind.i64.wrap (p1 - 1))).bind fun p2 => some p2 := by kernel_rfl
/-! loop.example/g00599/impl.isIndex -/
noncomputable def FiisIndex (k : Nat) (a0 : Int) (a1 : Int) : Option (Bool) := den E k 38 [.c (.v (.int .i64 a0)), .c (.v (.int .i64 a1))]
theorem eiisIndex (k : Nat) (a0 : Int) (a1 : Int) : FiisIndex (k + 1) a0 a1 = if ((decide (a0 ≥ 0)) == true) = true then some (decide (a0 < a1)) else some false := by kernel_rfl
/-! loop.example/g00599/impl.isSatellite -/
noncomputable def FiisSatellite (k : Nat) (a0 : TSky) (a1 : Int) : Option (Bool) := den E k 42 [.agg [.v (.int .i64 a0.1), .l 177 sI4 a0.2.1, .l 181 sI3 a0.2.2.1, .v (.int .i64 a0.2.2.2.1), .v (.int .i64 a0.2.2.2.2.1), .v (.int .i64 a0.2.2.2.2.2.1), .v (.int .i64 a0.2.2.2.2.2.2.1), .v (.int .i64 a0.2.2.2.2.2.2.2.1), .l 187 sZone a0.2.2.2.2.2.2.2.2.1, .v (.int .i64 a0.2.2.2.2.2.2.2.2.2)], .c (.v (.int .i64 a1))]
theorem eiisSatellite (k : Nat) (a0 : TSky) (a1 : Int) : FiisSatellite (k + 1) a0 a1 = (FiInRange k a1 0 (IntKind.i64.wrap ((a0.2.1.length : Int) - 1))).bind fun p1 => some p1 := by kernel_rfl
/-! loop.example/g00599/impl.FormatNode -/
noncomputable def FiFormatNode (k : Nat) (a0 : TWorld) (a1 : Int) : Option (ByteArray) := den E k 8 [.agg [.v (.int .i64 a0.1.1), .l 177 sI4 a0.1.2.1, .l 181 sI3 a0.1.2.2.1, .v (.int .i64 a0.1.2.2.2.1), .v (.int .i64 a0.1.2.2.2.2.1), .v (.int .i64 a0.1.2.2.2.2.2.1), .v (.int .i64 a0.1.2.2.2.2.2.2.1), .v (.int .i64 a0.1.2.2.2.2.2.2.2.1), .l 187 sZone a0.1.2.2.2.2.2.2.2.2.1, .v (.int .i64 a0.1.2.2.2.2.2.2.2.2.2), .v (.int .i64 a0.2.1.1), .v (.int .i64 a0.2.1.2.1), .v (.int .i64 a0.2.1.2.2.1), .l 196 sPiece a0.2.1.2.2.2, .l 3 (.i .i64) a0.2.2.1, .l 3 (.i .i64) a0.2.2.2.1, .l 85 sI6 a0.2.2.2.2.1, .l 83 sQueue a0.2.2.2.2.2.1, .l 132 sI4 a0.2.2.2.2.2.2.1, .l 3 (.i .i64) a0.2.2.2.2.2.2.2.1, .l 135 sStream a0.2.2.2.2.2.2.2.2.1, .l 138 sI4 a0.2.2.2.2.2.2.2.2.2.1, .v (.int .i64 a0.2.2.2.2.2.2.2.2.2.2.1), .v (.int .i64 a0.2.2.2.2.2.2.2.2.2.2.2.1), .l 142 sI6 a0.2.2.2.2.2.2.2.2.2.2.2.2.1, .l 146 sI4 a0.2.2.2.2.2.2.2.2.2.2.2.2.2], .c (.v (.int .i64 a1))]
theorem eiFormatNode (k : Nat) (a0 : TWorld) (a1 : Int) : FiFormatNode (k + 1) a0 a1 = (FiNodesOf k a0.1).bind fun p1 => (FiisIndex k a1 p1).bind fun p2 => if ((!p2) == false) = true then if (decide (a1 ≥ (a0.2.2.2.2.2.1.length : Int))) = true then some (⟨#[]⟩ : ByteArray) else (FiIsSite k a0.1 a1).bind fun p3 => if p3 = true then (FiFormatInt k a1).bind fun p4 => if (p4).size + ((⟨#[32, 113]⟩ : ByteArray)).size ≤ 9223372036854775807 then if 0 ≤ a1 then ix a0.2.2.2.2.2.1 a1.toNat fun x5 => (FiFormatInt k (x5.length : Int)).bind fun p6 => if ((p4 ++ (⟨#[32, 113]⟩ : ByteArray))).size + (p6).size ≤ 9223372036854775807 then if ((⟨#[103]⟩ : ByteArray)).size + (((p4 ++ (⟨#[32, 113]⟩ : ByteArray)) ++ p6)).size ≤ 9223372036854775807 then (FiisSatellite k a0.1 a1).bind fun p7 => if (p7 == true) = true then if (decide (a1 < (a0.2.2.2.2.1.length : Int))) = true then if 0 ≤ a1 then ix a0.2.2.2.2.1 a1.toNat fun x8 => (FiFormatInt k x8.1).bind fun p9 => if ((⟨#[32, 98]⟩ : ByteArray)).size + (p9).size ≤ 9223372036854775807 then if (((⟨#[103]⟩ : ByteArray) ++ ((p4 ++ (⟨#[32, 113]⟩ : ByteArray)) ++ p6))).size + (((⟨#[32, 98]⟩ : ByteArray) ++ p9)).size ≤ 9223372036854775807 then some (((⟨#[103]⟩ : ByteArray) ++ ((p4 ++ (⟨#[32, 113]⟩ : ByteArray)) ++ p6)) ++ ((⟨#[32, 98]⟩ : ByteArray) ++ p9)) else none else none else none else some ((⟨#[103]⟩ : ByteArray) ++ ((p4 ++ (⟨#[32, 113]⟩ : ByteArray)) ++ p6)) else some ((⟨#[103]⟩ : ByteArray) ++ ((p4 ++ (⟨#[32, 113]⟩ : ByteArray)) ++ p6)) else none else none else none else none else (FiFormatInt k a1).bind fun p10 => if (p10).size + ((⟨#[32, 113]⟩ : ByteArray)).size ≤ 9223372036854775807 then if 0 ≤ a1 then ix a0.2.2.2.2.2.1 a1.toNat fun x11 => (FiFormatInt k (x11.length : Int)).bind fun p12 => if ((p10 ++ (⟨#[32, 113]⟩ : ByteArray))).size + (p12).size ≤ 9223372036854775807 then if ((⟨#[115]⟩ : ByteArray)).size + (((p10 ++ (⟨#[32, 113]⟩ : ByteArray)) ++ p12)).size ≤ 9223372036854775807 then (FiisSatellite k a0.1 a1).bind fun p13 => if (p13 == true) = true then if (decide (a1 < (a0.2.2.2.2.1.length : Int))) = true then if 0 ≤ a1 then ix a0.2.2.2.2.1 a1.toNat fun x14 => (FiFormatInt k x14.1).bind fun p15 => if ((⟨#[32, 98]⟩ : ByteArray)).size + (p15).size ≤ 9223372036854775807 then if (((⟨#[115]⟩ : ByteArray) ++ ((p10 ++ (⟨#[32, 113]⟩ : ByteArray)) ++ p12))).size + (((⟨#[32, 98]⟩ : ByteArray) ++ p15)).size ≤ 9223372036854775807 then some (((⟨#[115]⟩ : ByteArray) ++ ((p10 ++ (⟨#[32, 113]⟩ : ByteArray)) ++ p12)) ++ ((⟨#[32, 98]⟩ : ByteArray) ++ p15)) else none else none else none else some ((⟨#[115]⟩ : ByteArray) ++ ((p10 ++ (⟨#[32, 113]⟩ : ByteArray)) ++ p12)) else some ((⟨#[115]⟩ : ByteArray) ++ ((p10 ++ (⟨#[32, 113]⟩ : ByteArray)) ++ p12)) else none else none else none else none else some (⟨#[]⟩ : ByteArray) := by kernel_rfl
/-! loop.example/g00599/laws.eqBattery -/
noncomputable def FleqBattery (k : Nat) (a0 : Int × Int × Int × Int × Int × Int) (a1 : Int × Int × Int × Int × Int × Int) : Option (Bool) := den E k 81 [.agg [.v (.int .i64 a0.1), .v (.int .i64 a0.2.1), .v (.int .i64 a0.2.2.1), .v (.int .i64 a0.2.2.2.1), .v (.int .i64 a0.2.2.2.2.1), .v (.int .i64 a0.2.2.2.2.2)], .agg [.v (.int .i64 a1.1), .v (.int .i64 a1.2.1), .v (.int .i64 a1.2.2.1), .v (.int .i64 a1.2.2.2.1), .v (.int .i64 a1.2.2.2.2.1), .v (.int .i64 a1.2.2.2.2.2)]]
theorem eleqBattery (k : Nat) (a0 : Int × Int × Int × Int × Int × Int) (a1 : Int × Int × Int × Int × Int × Int) : FleqBattery (k + 1) a0 a1 = if (a0.1 != a1.1) = true then some false else if (a0.2.1 != a1.2.1) = true then some false else if (a0.2.2.1 != a1.2.2.1) = true then some false else if (a0.2.2.2.1 != a1.2.2.2.1) = true then some false else if (a0.2.2.2.2.1 != a1.2.2.2.2.1) = true then some false else if (a0.2.2.2.2.2 != a1.2.2.2.2.2) = true then some false else some true := by kernel_rfl
/-! loop.example/g00599/laws.eqBatteryS -/
noncomputable def FleqBatteryS (k : Nat) (a0 : List (Int × Int × Int × Int × Int × Int)) (a1 : List (Int × Int × Int × Int × Int × Int)) : Option (Bool) := den E k 47 [.c (.l 85 sI6 a0), .c (.l 85 sI6 a1)]
abbrev CleqBatteryS_0 : Type := (List (Int × Int × Int × Int × Int × Int)) × (List (Int × Int × Int × Int × Int × Int))
abbrev VleqBatteryS_0 : Type := Int
def StleqBatteryS_0 (c0 : CleqBatteryS_0) (v0 : VleqBatteryS_0) : St := ⟨27, 0, [(0, .c (.l 85 sI6 c0.1)), (1, .c (.l 85 sI6 c0.2)), (5, .c (.v (.int .i64 v0)))], []⟩
noncomputable def BleqBatteryS_0 {R : Type} (k : Nat) (X0 : VleqBatteryS_0 → (Int × Int × Int × Int × Int × Int) → (Int × Int × Int × Int × Int × Int) → Bool → Option R) (X1 : VleqBatteryS_0 → Option R) (c0 : CleqBatteryS_0) (rec : VleqBatteryS_0 → Option R) (v0 : VleqBatteryS_0) : Option R := if (decide (v0 < (c0.1.length : Int))) = true then if 0 ≤ v0 then ix c0.1 v0.toNat fun x1 => if 0 ≤ v0 then ix c0.2 v0.toNat fun x2 => (FleqBattery k x1 x2).bind fun p3 => if (!p3) = true then X0 v0 x1 x2 p3 else rec (IntKind.i64.wrap (v0 + 1)) else none else none else X1 v0
noncomputable def LleqBatteryS_0 {R : Type} (k : Nat) (X0 : VleqBatteryS_0 → (Int × Int × Int × Int × Int × Int) → (Int × Int × Int × Int × Int × Int) → Bool → Option R) (X1 : VleqBatteryS_0 → Option R) (c : CleqBatteryS_0) : Nat → VleqBatteryS_0 → Option R
  | 0, _ => none
  | n + 1, v => BleqBatteryS_0 k X0 X1 c (LleqBatteryS_0 k X0 X1 c n) v
theorem bleqBatteryS_0 {R : Type} (k n : Nat) (K : Ex → St → Option R) (c0 : CleqBatteryS_0) (v : VleqBatteryS_0) : loopRun [0, 0, 1, 5] (run E (den E k) (lv 47) k (nthLoop Tryz.f47 0)) (n + 1) (StleqBatteryS_0 c0 v) K = BleqBatteryS_0 k (fun (v0 : VleqBatteryS_0) (x1 : Int × Int × Int × Int × Int × Int) (x2 : Int × Int × Int × Int × Int × Int) (p3 : Bool) => K .ret ⟨27, 0, [(0, .c (.l 85 sI6 c0.1)), (1, .c (.l 85 sI6 c0.2)), (4, .c (.v (.bool false))), (5, .c (.v (.int .i64 v0))), (11, .c (.v (.int .i64 v0))), (12, .c (.l 85 sI6 c0.1)), (13, .c (.v (.int .i64 (c0.1.length : Int)))), (14, .c (.v (.bool (decide (v0 < (c0.1.length : Int)))))), (17, .c (.l 85 sI6 c0.1)), (18, .c (.v (.int .i64 v0))), (19, .c (.at_ [.v (.int .i64 x1.1), .v (.int .i64 x1.2.1), .v (.int .i64 x1.2.2.1), .v (.int .i64 x1.2.2.2.1), .v (.int .i64 x1.2.2.2.2.1), .v (.int .i64 x1.2.2.2.2.2)])), (20, .agg [.v (.int .i64 x1.1), .v (.int .i64 x1.2.1), .v (.int .i64 x1.2.2.1), .v (.int .i64 x1.2.2.2.1), .v (.int .i64 x1.2.2.2.2.1), .v (.int .i64 x1.2.2.2.2.2)]), (21, .c (.l 85 sI6 c0.2)), (22, .c (.v (.int .i64 v0))), (23, .c (.at_ [.v (.int .i64 x2.1), .v (.int .i64 x2.2.1), .v (.int .i64 x2.2.2.1), .v (.int .i64 x2.2.2.2.1), .v (.int .i64 x2.2.2.2.2.1), .v (.int .i64 x2.2.2.2.2.2)])), (24, .agg [.v (.int .i64 x2.1), .v (.int .i64 x2.2.1), .v (.int .i64 x2.2.2.1), .v (.int .i64 x2.2.2.2.1), .v (.int .i64 x2.2.2.2.2.1), .v (.int .i64 x2.2.2.2.2.2)]), (25, .c (.v (.bool p3))), (26, .c (.v (.bool (!p3))))], []⟩) (fun (v0 : VleqBatteryS_0) => K (.exit 0) ⟨27, 0, [(0, .c (.l 85 sI6 c0.1)), (1, .c (.l 85 sI6 c0.2)), (5, .c (.v (.int .i64 v0))), (11, .c (.v (.int .i64 v0))), (12, .c (.l 85 sI6 c0.1)), (13, .c (.v (.int .i64 (c0.1.length : Int)))), (14, .c (.v (.bool (decide (v0 < (c0.1.length : Int))))))], []⟩) c0 (fun v => loopRun [0, 0, 1, 5] (run E (den E k) (lv 47) k (nthLoop Tryz.f47 0)) n (StleqBatteryS_0 c0 v) K) v := by kernel_rfl
theorem lleqBatteryS_0 {R : Type} (k : Nat) (K : Ex → St → Option R) (c0 : CleqBatteryS_0) : ∀ (n : Nat) (v : VleqBatteryS_0), loopRun [0, 0, 1, 5] (run E (den E k) (lv 47) k (nthLoop Tryz.f47 0)) n (StleqBatteryS_0 c0 v) K = LleqBatteryS_0 k (fun (v0 : VleqBatteryS_0) (x1 : Int × Int × Int × Int × Int × Int) (x2 : Int × Int × Int × Int × Int × Int) (p3 : Bool) => K .ret ⟨27, 0, [(0, .c (.l 85 sI6 c0.1)), (1, .c (.l 85 sI6 c0.2)), (4, .c (.v (.bool false))), (5, .c (.v (.int .i64 v0))), (11, .c (.v (.int .i64 v0))), (12, .c (.l 85 sI6 c0.1)), (13, .c (.v (.int .i64 (c0.1.length : Int)))), (14, .c (.v (.bool (decide (v0 < (c0.1.length : Int)))))), (17, .c (.l 85 sI6 c0.1)), (18, .c (.v (.int .i64 v0))), (19, .c (.at_ [.v (.int .i64 x1.1), .v (.int .i64 x1.2.1), .v (.int .i64 x1.2.2.1), .v (.int .i64 x1.2.2.2.1), .v (.int .i64 x1.2.2.2.2.1), .v (.int .i64 x1.2.2.2.2.2)])), (20, .agg [.v (.int .i64 x1.1), .v (.int .i64 x1.2.1), .v (.int .i64 x1.2.2.1), .v (.int .i64 x1.2.2.2.1), .v (.int .i64 x1.2.2.2.2.1), .v (.int .i64 x1.2.2.2.2.2)]), (21, .c (.l 85 sI6 c0.2)), (22, .c (.v (.int .i64 v0))), (23, .c (.at_ [.v (.int .i64 x2.1), .v (.int .i64 x2.2.1), .v (.int .i64 x2.2.2.1), .v (.int .i64 x2.2.2.2.1), .v (.int .i64 x2.2.2.2.2.1), .v (.int .i64 x2.2.2.2.2.2)])), (24, .agg [.v (.int .i64 x2.1), .v (.int .i64 x2.2.1), .v (.int .i64 x2.2.2.1), .v (.int .i64 x2.2.2.2.1), .v (.int .i64 x2.2.2.2.2.1), .v (.int .i64 x2.2.2.2.2.2)]), (25, .c (.v (.bool p3))), (26, .c (.v (.bool (!p3))))], []⟩) (fun (v0 : VleqBatteryS_0) => K (.exit 0) ⟨27, 0, [(0, .c (.l 85 sI6 c0.1)), (1, .c (.l 85 sI6 c0.2)), (5, .c (.v (.int .i64 v0))), (11, .c (.v (.int .i64 v0))), (12, .c (.l 85 sI6 c0.1)), (13, .c (.v (.int .i64 (c0.1.length : Int)))), (14, .c (.v (.bool (decide (v0 < (c0.1.length : Int))))))], []⟩) c0 n v := by
  intro n
  induction n with
  | zero => intro v; rfl
  | succ n ih =>
    intro v
    refine (bleqBatteryS_0 k n K c0 v).trans ?_
    rw [funext ih]
    kernel_rfl
theorem mleqBatteryS_0 (k : Nat) (a0 : List (Int × Int × Int × Int × Int × Int)) (a1 : List (Int × Int × Int × Int × Int × Int)) : FleqBatteryS (k + 1) a0 a1 = if ((a0.length : Int) != (a1.length : Int)) = true then some false else loopRun (R := Bool) [0, 0, 1, 5] (run E (den E k) (lv 47) k (nthLoop Tryz.f47 0)) k (StleqBatteryS_0 (a0, a1) 0) (kontAt E (den E k) (lv 47) k (bodyOf Tryz.f47) 0 [] (finish E (rs 47) Tryz.f47 : Ex → St → Option (Bool))) := by kernel_rfl
theorem eleqBatteryS (k : Nat) (a0 : List (Int × Int × Int × Int × Int × Int)) (a1 : List (Int × Int × Int × Int × Int × Int)) : FleqBatteryS (k + 1) a0 a1 = if ((a0.length : Int) != (a1.length : Int)) = true then some false else LleqBatteryS_0 k (fun (v0 : Int) (x1 : Int × Int × Int × Int × Int × Int) (x2 : Int × Int × Int × Int × Int × Int) (p3 : Bool) => some false) (fun (v0 : Int) => some true) (a0, a1) k 0 := by
  rw [mleqBatteryS_0]
  simp only [lleqBatteryS_0]
  kernel_rfl
/-! loop.example/g00599/laws.eqFault -/
noncomputable def FleqFault (k : Nat) (a0 : Int × Int × Int × Int) (a1 : Int × Int × Int × Int) : Option (Bool) := den E k 85 [.agg [.v (.int .i64 a0.1), .v (.int .i64 a0.2.1), .v (.int .i64 a0.2.2.1), .v (.int .i64 a0.2.2.2)], .agg [.v (.int .i64 a1.1), .v (.int .i64 a1.2.1), .v (.int .i64 a1.2.2.1), .v (.int .i64 a1.2.2.2)]]
theorem eleqFault (k : Nat) (a0 : Int × Int × Int × Int) (a1 : Int × Int × Int × Int) : FleqFault (k + 1) a0 a1 = if (a0.1 != a1.1) = true then some false else if (a0.2.1 != a1.2.1) = true then some false else if (a0.2.2.1 != a1.2.2.1) = true then some false else if (a0.2.2.2 != a1.2.2.2) = true then some false else some true := by kernel_rfl
/-! loop.example/g00599/laws.eqFaultS -/
noncomputable def FleqFaultS (k : Nat) (a0 : List (Int × Int × Int × Int)) (a1 : List (Int × Int × Int × Int)) : Option (Bool) := den E k 51 [.c (.l 138 sI4 a0), .c (.l 138 sI4 a1)]
abbrev CleqFaultS_0 : Type := (List (Int × Int × Int × Int)) × (List (Int × Int × Int × Int))
abbrev VleqFaultS_0 : Type := Int
def StleqFaultS_0 (c0 : CleqFaultS_0) (v0 : VleqFaultS_0) : St := ⟨27, 0, [(0, .c (.l 138 sI4 c0.1)), (1, .c (.l 138 sI4 c0.2)), (5, .c (.v (.int .i64 v0)))], []⟩
noncomputable def BleqFaultS_0 {R : Type} (k : Nat) (X0 : VleqFaultS_0 → (Int × Int × Int × Int) → (Int × Int × Int × Int) → Bool → Option R) (X1 : VleqFaultS_0 → Option R) (c0 : CleqFaultS_0) (rec : VleqFaultS_0 → Option R) (v0 : VleqFaultS_0) : Option R := if (decide (v0 < (c0.1.length : Int))) = true then if 0 ≤ v0 then ix c0.1 v0.toNat fun x1 => if 0 ≤ v0 then ix c0.2 v0.toNat fun x2 => (FleqFault k x1 x2).bind fun p3 => if (!p3) = true then X0 v0 x1 x2 p3 else rec (IntKind.i64.wrap (v0 + 1)) else none else none else X1 v0
noncomputable def LleqFaultS_0 {R : Type} (k : Nat) (X0 : VleqFaultS_0 → (Int × Int × Int × Int) → (Int × Int × Int × Int) → Bool → Option R) (X1 : VleqFaultS_0 → Option R) (c : CleqFaultS_0) : Nat → VleqFaultS_0 → Option R
  | 0, _ => none
  | n + 1, v => BleqFaultS_0 k X0 X1 c (LleqFaultS_0 k X0 X1 c n) v
theorem bleqFaultS_0 {R : Type} (k n : Nat) (K : Ex → St → Option R) (c0 : CleqFaultS_0) (v : VleqFaultS_0) : loopRun [0, 0, 1, 5] (run E (den E k) (lv 51) k (nthLoop Tryz.f51 0)) (n + 1) (StleqFaultS_0 c0 v) K = BleqFaultS_0 k (fun (v0 : VleqFaultS_0) (x1 : Int × Int × Int × Int) (x2 : Int × Int × Int × Int) (p3 : Bool) => K .ret ⟨27, 0, [(0, .c (.l 138 sI4 c0.1)), (1, .c (.l 138 sI4 c0.2)), (4, .c (.v (.bool false))), (5, .c (.v (.int .i64 v0))), (11, .c (.v (.int .i64 v0))), (12, .c (.l 138 sI4 c0.1)), (13, .c (.v (.int .i64 (c0.1.length : Int)))), (14, .c (.v (.bool (decide (v0 < (c0.1.length : Int)))))), (17, .c (.l 138 sI4 c0.1)), (18, .c (.v (.int .i64 v0))), (19, .c (.at_ [.v (.int .i64 x1.1), .v (.int .i64 x1.2.1), .v (.int .i64 x1.2.2.1), .v (.int .i64 x1.2.2.2)])), (20, .agg [.v (.int .i64 x1.1), .v (.int .i64 x1.2.1), .v (.int .i64 x1.2.2.1), .v (.int .i64 x1.2.2.2)]), (21, .c (.l 138 sI4 c0.2)), (22, .c (.v (.int .i64 v0))), (23, .c (.at_ [.v (.int .i64 x2.1), .v (.int .i64 x2.2.1), .v (.int .i64 x2.2.2.1), .v (.int .i64 x2.2.2.2)])), (24, .agg [.v (.int .i64 x2.1), .v (.int .i64 x2.2.1), .v (.int .i64 x2.2.2.1), .v (.int .i64 x2.2.2.2)]), (25, .c (.v (.bool p3))), (26, .c (.v (.bool (!p3))))], []⟩) (fun (v0 : VleqFaultS_0) => K (.exit 0) ⟨27, 0, [(0, .c (.l 138 sI4 c0.1)), (1, .c (.l 138 sI4 c0.2)), (5, .c (.v (.int .i64 v0))), (11, .c (.v (.int .i64 v0))), (12, .c (.l 138 sI4 c0.1)), (13, .c (.v (.int .i64 (c0.1.length : Int)))), (14, .c (.v (.bool (decide (v0 < (c0.1.length : Int))))))], []⟩) c0 (fun v => loopRun [0, 0, 1, 5] (run E (den E k) (lv 51) k (nthLoop Tryz.f51 0)) n (StleqFaultS_0 c0 v) K) v := by kernel_rfl
theorem lleqFaultS_0 {R : Type} (k : Nat) (K : Ex → St → Option R) (c0 : CleqFaultS_0) : ∀ (n : Nat) (v : VleqFaultS_0), loopRun [0, 0, 1, 5] (run E (den E k) (lv 51) k (nthLoop Tryz.f51 0)) n (StleqFaultS_0 c0 v) K = LleqFaultS_0 k (fun (v0 : VleqFaultS_0) (x1 : Int × Int × Int × Int) (x2 : Int × Int × Int × Int) (p3 : Bool) => K .ret ⟨27, 0, [(0, .c (.l 138 sI4 c0.1)), (1, .c (.l 138 sI4 c0.2)), (4, .c (.v (.bool false))), (5, .c (.v (.int .i64 v0))), (11, .c (.v (.int .i64 v0))), (12, .c (.l 138 sI4 c0.1)), (13, .c (.v (.int .i64 (c0.1.length : Int)))), (14, .c (.v (.bool (decide (v0 < (c0.1.length : Int)))))), (17, .c (.l 138 sI4 c0.1)), (18, .c (.v (.int .i64 v0))), (19, .c (.at_ [.v (.int .i64 x1.1), .v (.int .i64 x1.2.1), .v (.int .i64 x1.2.2.1), .v (.int .i64 x1.2.2.2)])), (20, .agg [.v (.int .i64 x1.1), .v (.int .i64 x1.2.1), .v (.int .i64 x1.2.2.1), .v (.int .i64 x1.2.2.2)]), (21, .c (.l 138 sI4 c0.2)), (22, .c (.v (.int .i64 v0))), (23, .c (.at_ [.v (.int .i64 x2.1), .v (.int .i64 x2.2.1), .v (.int .i64 x2.2.2.1), .v (.int .i64 x2.2.2.2)])), (24, .agg [.v (.int .i64 x2.1), .v (.int .i64 x2.2.1), .v (.int .i64 x2.2.2.1), .v (.int .i64 x2.2.2.2)]), (25, .c (.v (.bool p3))), (26, .c (.v (.bool (!p3))))], []⟩) (fun (v0 : VleqFaultS_0) => K (.exit 0) ⟨27, 0, [(0, .c (.l 138 sI4 c0.1)), (1, .c (.l 138 sI4 c0.2)), (5, .c (.v (.int .i64 v0))), (11, .c (.v (.int .i64 v0))), (12, .c (.l 138 sI4 c0.1)), (13, .c (.v (.int .i64 (c0.1.length : Int)))), (14, .c (.v (.bool (decide (v0 < (c0.1.length : Int))))))], []⟩) c0 n v := by
  intro n
  induction n with
  | zero => intro v; rfl
  | succ n ih =>
    intro v
    refine (bleqFaultS_0 k n K c0 v).trans ?_
    rw [funext ih]
    kernel_rfl
theorem mleqFaultS_0 (k : Nat) (a0 : List (Int × Int × Int × Int)) (a1 : List (Int × Int × Int × Int)) : FleqFaultS (k + 1) a0 a1 = if ((a0.length : Int) != (a1.length : Int)) = true then some false else loopRun (R := Bool) [0, 0, 1, 5] (run E (den E k) (lv 51) k (nthLoop Tryz.f51 0)) k (StleqFaultS_0 (a0, a1) 0) (kontAt E (den E k) (lv 51) k (bodyOf Tryz.f51) 0 [] (finish E (rs 51) Tryz.f51 : Ex → St → Option (Bool))) := by kernel_rfl
theorem eleqFaultS (k : Nat) (a0 : List (Int × Int × Int × Int)) (a1 : List (Int × Int × Int × Int)) : FleqFaultS (k + 1) a0 a1 = if ((a0.length : Int) != (a1.length : Int)) = true then some false else LleqFaultS_0 k (fun (v0 : Int) (x1 : Int × Int × Int × Int) (x2 : Int × Int × Int × Int) (p3 : Bool) => some false) (fun (v0 : Int) => some true) (a0, a1) k 0 := by
  rw [mleqFaultS_0]
  simp only [lleqFaultS_0]
  kernel_rfl
/-! loop.example/g00599/laws.eqFlow -/
noncomputable def FleqFlow (k : Nat) (a0 : Int × Int × Int × Int) (a1 : Int × Int × Int × Int) : Option (Bool) := den E k 83 [.agg [.v (.int .i64 a0.1), .v (.int .i64 a0.2.1), .v (.int .i64 a0.2.2.1), .v (.int .i64 a0.2.2.2)], .agg [.v (.int .i64 a1.1), .v (.int .i64 a1.2.1), .v (.int .i64 a1.2.2.1), .v (.int .i64 a1.2.2.2)]]
theorem eleqFlow (k : Nat) (a0 : Int × Int × Int × Int) (a1 : Int × Int × Int × Int) : FleqFlow (k + 1) a0 a1 = if (a0.1 != a1.1) = true then some false else if (a0.2.1 != a1.2.1) = true then some false else if (a0.2.2.1 != a1.2.2.1) = true then some false else if (a0.2.2.2 != a1.2.2.2) = true then some false else some true := by kernel_rfl
/-! loop.example/g00599/laws.eqFlowS -/
noncomputable def FleqFlowS (k : Nat) (a0 : List (Int × Int × Int × Int)) (a1 : List (Int × Int × Int × Int)) : Option (Bool) := den E k 49 [.c (.l 132 sI4 a0), .c (.l 132 sI4 a1)]
abbrev CleqFlowS_0 : Type := (List (Int × Int × Int × Int)) × (List (Int × Int × Int × Int))
abbrev VleqFlowS_0 : Type := Int
def StleqFlowS_0 (c0 : CleqFlowS_0) (v0 : VleqFlowS_0) : St := ⟨27, 0, [(0, .c (.l 132 sI4 c0.1)), (1, .c (.l 132 sI4 c0.2)), (5, .c (.v (.int .i64 v0)))], []⟩
noncomputable def BleqFlowS_0 {R : Type} (k : Nat) (X0 : VleqFlowS_0 → (Int × Int × Int × Int) → (Int × Int × Int × Int) → Bool → Option R) (X1 : VleqFlowS_0 → Option R) (c0 : CleqFlowS_0) (rec : VleqFlowS_0 → Option R) (v0 : VleqFlowS_0) : Option R := if (decide (v0 < (c0.1.length : Int))) = true then if 0 ≤ v0 then ix c0.1 v0.toNat fun x1 => if 0 ≤ v0 then ix c0.2 v0.toNat fun x2 => (FleqFlow k x1 x2).bind fun p3 => if (!p3) = true then X0 v0 x1 x2 p3 else rec (IntKind.i64.wrap (v0 + 1)) else none else none else X1 v0
noncomputable def LleqFlowS_0 {R : Type} (k : Nat) (X0 : VleqFlowS_0 → (Int × Int × Int × Int) → (Int × Int × Int × Int) → Bool → Option R) (X1 : VleqFlowS_0 → Option R) (c : CleqFlowS_0) : Nat → VleqFlowS_0 → Option R
  | 0, _ => none
  | n + 1, v => BleqFlowS_0 k X0 X1 c (LleqFlowS_0 k X0 X1 c n) v
theorem bleqFlowS_0 {R : Type} (k n : Nat) (K : Ex → St → Option R) (c0 : CleqFlowS_0) (v : VleqFlowS_0) : loopRun [0, 0, 1, 5] (run E (den E k) (lv 49) k (nthLoop Tryz.f49 0)) (n + 1) (StleqFlowS_0 c0 v) K = BleqFlowS_0 k (fun (v0 : VleqFlowS_0) (x1 : Int × Int × Int × Int) (x2 : Int × Int × Int × Int) (p3 : Bool) => K .ret ⟨27, 0, [(0, .c (.l 132 sI4 c0.1)), (1, .c (.l 132 sI4 c0.2)), (4, .c (.v (.bool false))), (5, .c (.v (.int .i64 v0))), (11, .c (.v (.int .i64 v0))), (12, .c (.l 132 sI4 c0.1)), (13, .c (.v (.int .i64 (c0.1.length : Int)))), (14, .c (.v (.bool (decide (v0 < (c0.1.length : Int)))))), (17, .c (.l 132 sI4 c0.1)), (18, .c (.v (.int .i64 v0))), (19, .c (.at_ [.v (.int .i64 x1.1), .v (.int .i64 x1.2.1), .v (.int .i64 x1.2.2.1), .v (.int .i64 x1.2.2.2)])), (20, .agg [.v (.int .i64 x1.1), .v (.int .i64 x1.2.1), .v (.int .i64 x1.2.2.1), .v (.int .i64 x1.2.2.2)]), (21, .c (.l 132 sI4 c0.2)), (22, .c (.v (.int .i64 v0))), (23, .c (.at_ [.v (.int .i64 x2.1), .v (.int .i64 x2.2.1), .v (.int .i64 x2.2.2.1), .v (.int .i64 x2.2.2.2)])), (24, .agg [.v (.int .i64 x2.1), .v (.int .i64 x2.2.1), .v (.int .i64 x2.2.2.1), .v (.int .i64 x2.2.2.2)]), (25, .c (.v (.bool p3))), (26, .c (.v (.bool (!p3))))], []⟩) (fun (v0 : VleqFlowS_0) => K (.exit 0) ⟨27, 0, [(0, .c (.l 132 sI4 c0.1)), (1, .c (.l 132 sI4 c0.2)), (5, .c (.v (.int .i64 v0))), (11, .c (.v (.int .i64 v0))), (12, .c (.l 132 sI4 c0.1)), (13, .c (.v (.int .i64 (c0.1.length : Int)))), (14, .c (.v (.bool (decide (v0 < (c0.1.length : Int))))))], []⟩) c0 (fun v => loopRun [0, 0, 1, 5] (run E (den E k) (lv 49) k (nthLoop Tryz.f49 0)) n (StleqFlowS_0 c0 v) K) v := by kernel_rfl
theorem lleqFlowS_0 {R : Type} (k : Nat) (K : Ex → St → Option R) (c0 : CleqFlowS_0) : ∀ (n : Nat) (v : VleqFlowS_0), loopRun [0, 0, 1, 5] (run E (den E k) (lv 49) k (nthLoop Tryz.f49 0)) n (StleqFlowS_0 c0 v) K = LleqFlowS_0 k (fun (v0 : VleqFlowS_0) (x1 : Int × Int × Int × Int) (x2 : Int × Int × Int × Int) (p3 : Bool) => K .ret ⟨27, 0, [(0, .c (.l 132 sI4 c0.1)), (1, .c (.l 132 sI4 c0.2)), (4, .c (.v (.bool false))), (5, .c (.v (.int .i64 v0))), (11, .c (.v (.int .i64 v0))), (12, .c (.l 132 sI4 c0.1)), (13, .c (.v (.int .i64 (c0.1.length : Int)))), (14, .c (.v (.bool (decide (v0 < (c0.1.length : Int)))))), (17, .c (.l 132 sI4 c0.1)), (18, .c (.v (.int .i64 v0))), (19, .c (.at_ [.v (.int .i64 x1.1), .v (.int .i64 x1.2.1), .v (.int .i64 x1.2.2.1), .v (.int .i64 x1.2.2.2)])), (20, .agg [.v (.int .i64 x1.1), .v (.int .i64 x1.2.1), .v (.int .i64 x1.2.2.1), .v (.int .i64 x1.2.2.2)]), (21, .c (.l 132 sI4 c0.2)), (22, .c (.v (.int .i64 v0))), (23, .c (.at_ [.v (.int .i64 x2.1), .v (.int .i64 x2.2.1), .v (.int .i64 x2.2.2.1), .v (.int .i64 x2.2.2.2)])), (24, .agg [.v (.int .i64 x2.1), .v (.int .i64 x2.2.1), .v (.int .i64 x2.2.2.1), .v (.int .i64 x2.2.2.2)]), (25, .c (.v (.bool p3))), (26, .c (.v (.bool (!p3))))], []⟩) (fun (v0 : VleqFlowS_0) => K (.exit 0) ⟨27, 0, [(0, .c (.l 132 sI4 c0.1)), (1, .c (.l 132 sI4 c0.2)), (5, .c (.v (.int .i64 v0))), (11, .c (.v (.int .i64 v0))), (12, .c (.l 132 sI4 c0.1)), (13, .c (.v (.int .i64 (c0.1.length : Int)))), (14, .c (.v (.bool (decide (v0 < (c0.1.length : Int))))))], []⟩) c0 n v := by
  intro n
  induction n with
  | zero => intro v; rfl
  | succ n ih =>
    intro v
    refine (bleqFlowS_0 k n K c0 v).trans ?_
    rw [funext ih]
    kernel_rfl
theorem mleqFlowS_0 (k : Nat) (a0 : List (Int × Int × Int × Int)) (a1 : List (Int × Int × Int × Int)) : FleqFlowS (k + 1) a0 a1 = if ((a0.length : Int) != (a1.length : Int)) = true then some false else loopRun (R := Bool) [0, 0, 1, 5] (run E (den E k) (lv 49) k (nthLoop Tryz.f49 0)) k (StleqFlowS_0 (a0, a1) 0) (kontAt E (den E k) (lv 49) k (bodyOf Tryz.f49) 0 [] (finish E (rs 49) Tryz.f49 : Ex → St → Option (Bool))) := by kernel_rfl
theorem eleqFlowS (k : Nat) (a0 : List (Int × Int × Int × Int)) (a1 : List (Int × Int × Int × Int)) : FleqFlowS (k + 1) a0 a1 = if ((a0.length : Int) != (a1.length : Int)) = true then some false else LleqFlowS_0 k (fun (v0 : Int) (x1 : Int × Int × Int × Int) (x2 : Int × Int × Int × Int) (p3 : Bool) => some false) (fun (v0 : Int) => some true) (a0, a1) k 0 := by
  rw [mleqFlowS_0]
  simp only [lleqFlowS_0]
  kernel_rfl
/-! loop.example/g00599/laws.eqIntS -/
noncomputable def FleqIntS (k : Nat) (a0 : List Int) (a1 : List Int) : Option (Bool) := den E k 46 [.c (.l 3 (.i .i64) a0), .c (.l 3 (.i .i64) a1)]
abbrev CleqIntS_0 : Type := (List Int) × (List Int)
abbrev VleqIntS_0 : Type := Int
def StleqIntS_0 (c0 : CleqIntS_0) (v0 : VleqIntS_0) : St := ⟨26, 0, [(0, .c (.l 3 (.i .i64) c0.1)), (1, .c (.l 3 (.i .i64) c0.2)), (5, .c (.v (.int .i64 v0)))], []⟩
noncomputable def BleqIntS_0 {R : Type} (k : Nat) (X0 : VleqIntS_0 → Int → Int → Option R) (X1 : VleqIntS_0 → Option R) (c0 : CleqIntS_0) (rec : VleqIntS_0 → Option R) (v0 : VleqIntS_0) : Option R := if (decide (v0 < (c0.1.length : Int))) = true then if 0 ≤ v0 then ix c0.1 v0.toNat fun x1 => if 0 ≤ v0 then ix c0.2 v0.toNat fun x2 => if (x1 != x2) = true then X0 v0 x1 x2 else rec (IntKind.i64.wrap (v0 + 1)) else none else none else X1 v0
noncomputable def LleqIntS_0 {R : Type} (k : Nat) (X0 : VleqIntS_0 → Int → Int → Option R) (X1 : VleqIntS_0 → Option R) (c : CleqIntS_0) : Nat → VleqIntS_0 → Option R
  | 0, _ => none
  | n + 1, v => BleqIntS_0 k X0 X1 c (LleqIntS_0 k X0 X1 c n) v
theorem bleqIntS_0 {R : Type} (k n : Nat) (K : Ex → St → Option R) (c0 : CleqIntS_0) (v : VleqIntS_0) : loopRun [0, 0, 1, 5] (run E (den E k) (lv 46) k (nthLoop Tryz.f46 0)) (n + 1) (StleqIntS_0 c0 v) K = BleqIntS_0 k (fun (v0 : VleqIntS_0) (x1 : Int) (x2 : Int) => K .ret ⟨26, 0, [(0, .c (.l 3 (.i .i64) c0.1)), (1, .c (.l 3 (.i .i64) c0.2)), (4, .c (.v (.bool false))), (5, .c (.v (.int .i64 v0))), (11, .c (.v (.int .i64 v0))), (12, .c (.l 3 (.i .i64) c0.1)), (13, .c (.v (.int .i64 (c0.1.length : Int)))), (14, .c (.v (.bool (decide (v0 < (c0.1.length : Int)))))), (17, .c (.l 3 (.i .i64) c0.1)), (18, .c (.v (.int .i64 v0))), (19, .c (.at_ [.v (.int .i64 x1)])), (20, .c (.v (.int .i64 x1))), (21, .c (.l 3 (.i .i64) c0.2)), (22, .c (.v (.int .i64 v0))), (23, .c (.at_ [.v (.int .i64 x2)])), (24, .c (.v (.int .i64 x2))), (25, .c (.v (.bool (x1 != x2))))], []⟩) (fun (v0 : VleqIntS_0) => K (.exit 0) ⟨26, 0, [(0, .c (.l 3 (.i .i64) c0.1)), (1, .c (.l 3 (.i .i64) c0.2)), (5, .c (.v (.int .i64 v0))), (11, .c (.v (.int .i64 v0))), (12, .c (.l 3 (.i .i64) c0.1)), (13, .c (.v (.int .i64 (c0.1.length : Int)))), (14, .c (.v (.bool (decide (v0 < (c0.1.length : Int))))))], []⟩) c0 (fun v => loopRun [0, 0, 1, 5] (run E (den E k) (lv 46) k (nthLoop Tryz.f46 0)) n (StleqIntS_0 c0 v) K) v := by kernel_rfl
theorem lleqIntS_0 {R : Type} (k : Nat) (K : Ex → St → Option R) (c0 : CleqIntS_0) : ∀ (n : Nat) (v : VleqIntS_0), loopRun [0, 0, 1, 5] (run E (den E k) (lv 46) k (nthLoop Tryz.f46 0)) n (StleqIntS_0 c0 v) K = LleqIntS_0 k (fun (v0 : VleqIntS_0) (x1 : Int) (x2 : Int) => K .ret ⟨26, 0, [(0, .c (.l 3 (.i .i64) c0.1)), (1, .c (.l 3 (.i .i64) c0.2)), (4, .c (.v (.bool false))), (5, .c (.v (.int .i64 v0))), (11, .c (.v (.int .i64 v0))), (12, .c (.l 3 (.i .i64) c0.1)), (13, .c (.v (.int .i64 (c0.1.length : Int)))), (14, .c (.v (.bool (decide (v0 < (c0.1.length : Int)))))), (17, .c (.l 3 (.i .i64) c0.1)), (18, .c (.v (.int .i64 v0))), (19, .c (.at_ [.v (.int .i64 x1)])), (20, .c (.v (.int .i64 x1))), (21, .c (.l 3 (.i .i64) c0.2)), (22, .c (.v (.int .i64 v0))), (23, .c (.at_ [.v (.int .i64 x2)])), (24, .c (.v (.int .i64 x2))), (25, .c (.v (.bool (x1 != x2))))], []⟩) (fun (v0 : VleqIntS_0) => K (.exit 0) ⟨26, 0, [(0, .c (.l 3 (.i .i64) c0.1)), (1, .c (.l 3 (.i .i64) c0.2)), (5, .c (.v (.int .i64 v0))), (11, .c (.v (.int .i64 v0))), (12, .c (.l 3 (.i .i64) c0.1)), (13, .c (.v (.int .i64 (c0.1.length : Int)))), (14, .c (.v (.bool (decide (v0 < (c0.1.length : Int))))))], []⟩) c0 n v := by
  intro n
  induction n with
  | zero => intro v; rfl
  | succ n ih =>
    intro v
    refine (bleqIntS_0 k n K c0 v).trans ?_
    rw [funext ih]
    kernel_rfl
theorem mleqIntS_0 (k : Nat) (a0 : List Int) (a1 : List Int) : FleqIntS (k + 1) a0 a1 = if ((a0.length : Int) != (a1.length : Int)) = true then some false else loopRun (R := Bool) [0, 0, 1, 5] (run E (den E k) (lv 46) k (nthLoop Tryz.f46 0)) k (StleqIntS_0 (a0, a1) 0) (kontAt E (den E k) (lv 46) k (bodyOf Tryz.f46) 0 [] (finish E (rs 46) Tryz.f46 : Ex → St → Option (Bool))) := by kernel_rfl
theorem eleqIntS (k : Nat) (a0 : List Int) (a1 : List Int) : FleqIntS (k + 1) a0 a1 = if ((a0.length : Int) != (a1.length : Int)) = true then some false else LleqIntS_0 k (fun (v0 : Int) (x1 : Int) (x2 : Int) => some false) (fun (v0 : Int) => some true) (a0, a1) k 0 := by
  rw [mleqIntS_0]
  simp only [lleqIntS_0]
  kernel_rfl
/-! loop.example/g00599/laws.eqLaw -/
noncomputable def FleqLaw (k : Nat) (a0 : List Int) (a1 : List Int) : Option (Bool) := den E k 45 [.agg [.l 3 (.i .i64) a0], .agg [.l 3 (.i .i64) a1]]
theorem eleqLaw (k : Nat) (a0 : List Int) (a1 : List Int) : FleqLaw (k + 1) a0 a1 = (FleqIntS k a0 a1).bind fun p1 => if (!p1) = true then some false else some true := by kernel_rfl
/-! loop.example/g00599/laws.eqPacket -/
noncomputable def FleqPacket (k : Nat) (a0 : Int × Int × Int × Int × Int × Int) (a1 : Int × Int × Int × Int × Int × Int) : Option (Bool) := den E k 86 [.agg [.v (.int .i64 a0.1), .v (.int .i64 a0.2.1), .v (.int .i64 a0.2.2.1), .v (.int .i64 a0.2.2.2.1), .v (.int .i64 a0.2.2.2.2.1), .v (.int .i64 a0.2.2.2.2.2)], .agg [.v (.int .i64 a1.1), .v (.int .i64 a1.2.1), .v (.int .i64 a1.2.2.1), .v (.int .i64 a1.2.2.2.1), .v (.int .i64 a1.2.2.2.2.1), .v (.int .i64 a1.2.2.2.2.2)]]
theorem eleqPacket (k : Nat) (a0 : Int × Int × Int × Int × Int × Int) (a1 : Int × Int × Int × Int × Int × Int) : FleqPacket (k + 1) a0 a1 = if (a0.1 != a1.1) = true then some false else if (a0.2.1 != a1.2.1) = true then some false else if (a0.2.2.1 != a1.2.2.1) = true then some false else if (a0.2.2.2.1 != a1.2.2.2.1) = true then some false else if (a0.2.2.2.2.1 != a1.2.2.2.2.1) = true then some false else if (a0.2.2.2.2.2 != a1.2.2.2.2.2) = true then some false else some true := by kernel_rfl
/-! loop.example/g00599/laws.eqPacketS -/
noncomputable def FleqPacketS (k : Nat) (a0 : List (Int × Int × Int × Int × Int × Int)) (a1 : List (Int × Int × Int × Int × Int × Int)) : Option (Bool) := den E k 52 [.c (.l 142 sI6 a0), .c (.l 142 sI6 a1)]
abbrev CleqPacketS_0 : Type := (List (Int × Int × Int × Int × Int × Int)) × (List (Int × Int × Int × Int × Int × Int))
abbrev VleqPacketS_0 : Type := Int
def StleqPacketS_0 (c0 : CleqPacketS_0) (v0 : VleqPacketS_0) : St := ⟨27, 0, [(0, .c (.l 142 sI6 c0.1)), (1, .c (.l 142 sI6 c0.2)), (5, .c (.v (.int .i64 v0)))], []⟩
noncomputable def BleqPacketS_0 {R : Type} (k : Nat) (X0 : VleqPacketS_0 → (Int × Int × Int × Int × Int × Int) → (Int × Int × Int × Int × Int × Int) → Bool → Option R) (X1 : VleqPacketS_0 → Option R) (c0 : CleqPacketS_0) (rec : VleqPacketS_0 → Option R) (v0 : VleqPacketS_0) : Option R := if (decide (v0 < (c0.1.length : Int))) = true then if 0 ≤ v0 then ix c0.1 v0.toNat fun x1 => if 0 ≤ v0 then ix c0.2 v0.toNat fun x2 => (FleqPacket k x1 x2).bind fun p3 => if (!p3) = true then X0 v0 x1 x2 p3 else rec (IntKind.i64.wrap (v0 + 1)) else none else none else X1 v0
noncomputable def LleqPacketS_0 {R : Type} (k : Nat) (X0 : VleqPacketS_0 → (Int × Int × Int × Int × Int × Int) → (Int × Int × Int × Int × Int × Int) → Bool → Option R) (X1 : VleqPacketS_0 → Option R) (c : CleqPacketS_0) : Nat → VleqPacketS_0 → Option R
  | 0, _ => none
  | n + 1, v => BleqPacketS_0 k X0 X1 c (LleqPacketS_0 k X0 X1 c n) v
theorem bleqPacketS_0 {R : Type} (k n : Nat) (K : Ex → St → Option R) (c0 : CleqPacketS_0) (v : VleqPacketS_0) : loopRun [0, 0, 1, 5] (run E (den E k) (lv 52) k (nthLoop Tryz.f52 0)) (n + 1) (StleqPacketS_0 c0 v) K = BleqPacketS_0 k (fun (v0 : VleqPacketS_0) (x1 : Int × Int × Int × Int × Int × Int) (x2 : Int × Int × Int × Int × Int × Int) (p3 : Bool) => K .ret ⟨27, 0, [(0, .c (.l 142 sI6 c0.1)), (1, .c (.l 142 sI6 c0.2)), (4, .c (.v (.bool false))), (5, .c (.v (.int .i64 v0))), (11, .c (.v (.int .i64 v0))), (12, .c (.l 142 sI6 c0.1)), (13, .c (.v (.int .i64 (c0.1.length : Int)))), (14, .c (.v (.bool (decide (v0 < (c0.1.length : Int)))))), (17, .c (.l 142 sI6 c0.1)), (18, .c (.v (.int .i64 v0))), (19, .c (.at_ [.v (.int .i64 x1.1), .v (.int .i64 x1.2.1), .v (.int .i64 x1.2.2.1), .v (.int .i64 x1.2.2.2.1), .v (.int .i64 x1.2.2.2.2.1), .v (.int .i64 x1.2.2.2.2.2)])), (20, .agg [.v (.int .i64 x1.1), .v (.int .i64 x1.2.1), .v (.int .i64 x1.2.2.1), .v (.int .i64 x1.2.2.2.1), .v (.int .i64 x1.2.2.2.2.1), .v (.int .i64 x1.2.2.2.2.2)]), (21, .c (.l 142 sI6 c0.2)), (22, .c (.v (.int .i64 v0))), (23, .c (.at_ [.v (.int .i64 x2.1), .v (.int .i64 x2.2.1), .v (.int .i64 x2.2.2.1), .v (.int .i64 x2.2.2.2.1), .v (.int .i64 x2.2.2.2.2.1), .v (.int .i64 x2.2.2.2.2.2)])), (24, .agg [.v (.int .i64 x2.1), .v (.int .i64 x2.2.1), .v (.int .i64 x2.2.2.1), .v (.int .i64 x2.2.2.2.1), .v (.int .i64 x2.2.2.2.2.1), .v (.int .i64 x2.2.2.2.2.2)]), (25, .c (.v (.bool p3))), (26, .c (.v (.bool (!p3))))], []⟩) (fun (v0 : VleqPacketS_0) => K (.exit 0) ⟨27, 0, [(0, .c (.l 142 sI6 c0.1)), (1, .c (.l 142 sI6 c0.2)), (5, .c (.v (.int .i64 v0))), (11, .c (.v (.int .i64 v0))), (12, .c (.l 142 sI6 c0.1)), (13, .c (.v (.int .i64 (c0.1.length : Int)))), (14, .c (.v (.bool (decide (v0 < (c0.1.length : Int))))))], []⟩) c0 (fun v => loopRun [0, 0, 1, 5] (run E (den E k) (lv 52) k (nthLoop Tryz.f52 0)) n (StleqPacketS_0 c0 v) K) v := by kernel_rfl
theorem lleqPacketS_0 {R : Type} (k : Nat) (K : Ex → St → Option R) (c0 : CleqPacketS_0) : ∀ (n : Nat) (v : VleqPacketS_0), loopRun [0, 0, 1, 5] (run E (den E k) (lv 52) k (nthLoop Tryz.f52 0)) n (StleqPacketS_0 c0 v) K = LleqPacketS_0 k (fun (v0 : VleqPacketS_0) (x1 : Int × Int × Int × Int × Int × Int) (x2 : Int × Int × Int × Int × Int × Int) (p3 : Bool) => K .ret ⟨27, 0, [(0, .c (.l 142 sI6 c0.1)), (1, .c (.l 142 sI6 c0.2)), (4, .c (.v (.bool false))), (5, .c (.v (.int .i64 v0))), (11, .c (.v (.int .i64 v0))), (12, .c (.l 142 sI6 c0.1)), (13, .c (.v (.int .i64 (c0.1.length : Int)))), (14, .c (.v (.bool (decide (v0 < (c0.1.length : Int)))))), (17, .c (.l 142 sI6 c0.1)), (18, .c (.v (.int .i64 v0))), (19, .c (.at_ [.v (.int .i64 x1.1), .v (.int .i64 x1.2.1), .v (.int .i64 x1.2.2.1), .v (.int .i64 x1.2.2.2.1), .v (.int .i64 x1.2.2.2.2.1), .v (.int .i64 x1.2.2.2.2.2)])), (20, .agg [.v (.int .i64 x1.1), .v (.int .i64 x1.2.1), .v (.int .i64 x1.2.2.1), .v (.int .i64 x1.2.2.2.1), .v (.int .i64 x1.2.2.2.2.1), .v (.int .i64 x1.2.2.2.2.2)]), (21, .c (.l 142 sI6 c0.2)), (22, .c (.v (.int .i64 v0))), (23, .c (.at_ [.v (.int .i64 x2.1), .v (.int .i64 x2.2.1), .v (.int .i64 x2.2.2.1), .v (.int .i64 x2.2.2.2.1), .v (.int .i64 x2.2.2.2.2.1), .v (.int .i64 x2.2.2.2.2.2)])), (24, .agg [.v (.int .i64 x2.1), .v (.int .i64 x2.2.1), .v (.int .i64 x2.2.2.1), .v (.int .i64 x2.2.2.2.1), .v (.int .i64 x2.2.2.2.2.1), .v (.int .i64 x2.2.2.2.2.2)]), (25, .c (.v (.bool p3))), (26, .c (.v (.bool (!p3))))], []⟩) (fun (v0 : VleqPacketS_0) => K (.exit 0) ⟨27, 0, [(0, .c (.l 142 sI6 c0.1)), (1, .c (.l 142 sI6 c0.2)), (5, .c (.v (.int .i64 v0))), (11, .c (.v (.int .i64 v0))), (12, .c (.l 142 sI6 c0.1)), (13, .c (.v (.int .i64 (c0.1.length : Int)))), (14, .c (.v (.bool (decide (v0 < (c0.1.length : Int))))))], []⟩) c0 n v := by
  intro n
  induction n with
  | zero => intro v; rfl
  | succ n ih =>
    intro v
    refine (bleqPacketS_0 k n K c0 v).trans ?_
    rw [funext ih]
    kernel_rfl
theorem mleqPacketS_0 (k : Nat) (a0 : List (Int × Int × Int × Int × Int × Int)) (a1 : List (Int × Int × Int × Int × Int × Int)) : FleqPacketS (k + 1) a0 a1 = if ((a0.length : Int) != (a1.length : Int)) = true then some false else loopRun (R := Bool) [0, 0, 1, 5] (run E (den E k) (lv 52) k (nthLoop Tryz.f52 0)) k (StleqPacketS_0 (a0, a1) 0) (kontAt E (den E k) (lv 52) k (bodyOf Tryz.f52) 0 [] (finish E (rs 52) Tryz.f52 : Ex → St → Option (Bool))) := by kernel_rfl
theorem eleqPacketS (k : Nat) (a0 : List (Int × Int × Int × Int × Int × Int)) (a1 : List (Int × Int × Int × Int × Int × Int)) : FleqPacketS (k + 1) a0 a1 = if ((a0.length : Int) != (a1.length : Int)) = true then some false else LleqPacketS_0 k (fun (v0 : Int) (x1 : Int × Int × Int × Int × Int × Int) (x2 : Int × Int × Int × Int × Int × Int) (p3 : Bool) => some false) (fun (v0 : Int) => some true) (a0, a1) k 0 := by
  rw [mleqPacketS_0]
  simp only [lleqPacketS_0]
  kernel_rfl
/-! loop.example/g00599/laws.eqLink -/
noncomputable def FleqLink (k : Nat) (a0 : Int × Int) (a1 : Int × Int) : Option (Bool) := den E k 123 [.agg [.v (.int .i64 a0.1), .v (.int .i64 a0.2)], .agg [.v (.int .i64 a1.1), .v (.int .i64 a1.2)]]
theorem eleqLink (k : Nat) (a0 : Int × Int) (a1 : Int × Int) : FleqLink (k + 1) a0 a1 = if (a0.1 != a1.1) = true then some false else if (a0.2 != a1.2) = true then some false else some true := by kernel_rfl
/-! loop.example/g00599/laws.eqLinkS -/
noncomputable def FleqLinkS (k : Nat) (a0 : List (Int × Int)) (a1 : List (Int × Int)) : Option (Bool) := den E k 112 [.c (.l 221 sI2 a0), .c (.l 221 sI2 a1)]
abbrev CleqLinkS_0 : Type := (List (Int × Int)) × (List (Int × Int))
abbrev VleqLinkS_0 : Type := Int
def StleqLinkS_0 (c0 : CleqLinkS_0) (v0 : VleqLinkS_0) : St := ⟨27, 0, [(0, .c (.l 221 sI2 c0.1)), (1, .c (.l 221 sI2 c0.2)), (5, .c (.v (.int .i64 v0)))], []⟩
noncomputable def BleqLinkS_0 {R : Type} (k : Nat) (X0 : VleqLinkS_0 → (Int × Int) → (Int × Int) → Bool → Option R) (X1 : VleqLinkS_0 → Option R) (c0 : CleqLinkS_0) (rec : VleqLinkS_0 → Option R) (v0 : VleqLinkS_0) : Option R := if (decide (v0 < (c0.1.length : Int))) = true then if 0 ≤ v0 then ix c0.1 v0.toNat fun x1 => if 0 ≤ v0 then ix c0.2 v0.toNat fun x2 => (FleqLink k x1 x2).bind fun p3 => if (!p3) = true then X0 v0 x1 x2 p3 else rec (IntKind.i64.wrap (v0 + 1)) else none else none else X1 v0
noncomputable def LleqLinkS_0 {R : Type} (k : Nat) (X0 : VleqLinkS_0 → (Int × Int) → (Int × Int) → Bool → Option R) (X1 : VleqLinkS_0 → Option R) (c : CleqLinkS_0) : Nat → VleqLinkS_0 → Option R
  | 0, _ => none
  | n + 1, v => BleqLinkS_0 k X0 X1 c (LleqLinkS_0 k X0 X1 c n) v
theorem bleqLinkS_0 {R : Type} (k n : Nat) (K : Ex → St → Option R) (c0 : CleqLinkS_0) (v : VleqLinkS_0) : loopRun [0, 0, 1, 5] (run E (den E k) (lv 112) k (nthLoop Tryz.f112 0)) (n + 1) (StleqLinkS_0 c0 v) K = BleqLinkS_0 k (fun (v0 : VleqLinkS_0) (x1 : Int × Int) (x2 : Int × Int) (p3 : Bool) => K .ret ⟨27, 0, [(0, .c (.l 221 sI2 c0.1)), (1, .c (.l 221 sI2 c0.2)), (4, .c (.v (.bool false))), (5, .c (.v (.int .i64 v0))), (11, .c (.v (.int .i64 v0))), (12, .c (.l 221 sI2 c0.1)), (13, .c (.v (.int .i64 (c0.1.length : Int)))), (14, .c (.v (.bool (decide (v0 < (c0.1.length : Int)))))), (17, .c (.l 221 sI2 c0.1)), (18, .c (.v (.int .i64 v0))), (19, .c (.at_ [.v (.int .i64 x1.1), .v (.int .i64 x1.2)])), (20, .agg [.v (.int .i64 x1.1), .v (.int .i64 x1.2)]), (21, .c (.l 221 sI2 c0.2)), (22, .c (.v (.int .i64 v0))), (23, .c (.at_ [.v (.int .i64 x2.1), .v (.int .i64 x2.2)])), (24, .agg [.v (.int .i64 x2.1), .v (.int .i64 x2.2)]), (25, .c (.v (.bool p3))), (26, .c (.v (.bool (!p3))))], []⟩) (fun (v0 : VleqLinkS_0) => K (.exit 0) ⟨27, 0, [(0, .c (.l 221 sI2 c0.1)), (1, .c (.l 221 sI2 c0.2)), (5, .c (.v (.int .i64 v0))), (11, .c (.v (.int .i64 v0))), (12, .c (.l 221 sI2 c0.1)), (13, .c (.v (.int .i64 (c0.1.length : Int)))), (14, .c (.v (.bool (decide (v0 < (c0.1.length : Int))))))], []⟩) c0 (fun v => loopRun [0, 0, 1, 5] (run E (den E k) (lv 112) k (nthLoop Tryz.f112 0)) n (StleqLinkS_0 c0 v) K) v := by kernel_rfl
theorem lleqLinkS_0 {R : Type} (k : Nat) (K : Ex → St → Option R) (c0 : CleqLinkS_0) : ∀ (n : Nat) (v : VleqLinkS_0), loopRun [0, 0, 1, 5] (run E (den E k) (lv 112) k (nthLoop Tryz.f112 0)) n (StleqLinkS_0 c0 v) K = LleqLinkS_0 k (fun (v0 : VleqLinkS_0) (x1 : Int × Int) (x2 : Int × Int) (p3 : Bool) => K .ret ⟨27, 0, [(0, .c (.l 221 sI2 c0.1)), (1, .c (.l 221 sI2 c0.2)), (4, .c (.v (.bool false))), (5, .c (.v (.int .i64 v0))), (11, .c (.v (.int .i64 v0))), (12, .c (.l 221 sI2 c0.1)), (13, .c (.v (.int .i64 (c0.1.length : Int)))), (14, .c (.v (.bool (decide (v0 < (c0.1.length : Int)))))), (17, .c (.l 221 sI2 c0.1)), (18, .c (.v (.int .i64 v0))), (19, .c (.at_ [.v (.int .i64 x1.1), .v (.int .i64 x1.2)])), (20, .agg [.v (.int .i64 x1.1), .v (.int .i64 x1.2)]), (21, .c (.l 221 sI2 c0.2)), (22, .c (.v (.int .i64 v0))), (23, .c (.at_ [.v (.int .i64 x2.1), .v (.int .i64 x2.2)])), (24, .agg [.v (.int .i64 x2.1), .v (.int .i64 x2.2)]), (25, .c (.v (.bool p3))), (26, .c (.v (.bool (!p3))))], []⟩) (fun (v0 : VleqLinkS_0) => K (.exit 0) ⟨27, 0, [(0, .c (.l 221 sI2 c0.1)), (1, .c (.l 221 sI2 c0.2)), (5, .c (.v (.int .i64 v0))), (11, .c (.v (.int .i64 v0))), (12, .c (.l 221 sI2 c0.1)), (13, .c (.v (.int .i64 (c0.1.length : Int)))), (14, .c (.v (.bool (decide (v0 < (c0.1.length : Int))))))], []⟩) c0 n v := by
  intro n
  induction n with
  | zero => intro v; rfl
  | succ n ih =>
    intro v
    refine (bleqLinkS_0 k n K c0 v).trans ?_
    rw [funext ih]
    kernel_rfl
theorem mleqLinkS_0 (k : Nat) (a0 : List (Int × Int)) (a1 : List (Int × Int)) : FleqLinkS (k + 1) a0 a1 = if ((a0.length : Int) != (a1.length : Int)) = true then some false else loopRun (R := Bool) [0, 0, 1, 5] (run E (den E k) (lv 112) k (nthLoop Tryz.f112 0)) k (StleqLinkS_0 (a0, a1) 0) (kontAt E (den E k) (lv 112) k (bodyOf Tryz.f112) 0 [] (finish E (rs 112) Tryz.f112 : Ex → St → Option (Bool))) := by kernel_rfl
theorem eleqLinkS (k : Nat) (a0 : List (Int × Int)) (a1 : List (Int × Int)) : FleqLinkS (k + 1) a0 a1 = if ((a0.length : Int) != (a1.length : Int)) = true then some false else LleqLinkS_0 k (fun (v0 : Int) (x1 : Int × Int) (x2 : Int × Int) (p3 : Bool) => some false) (fun (v0 : Int) => some true) (a0, a1) k 0 := by
  rw [mleqLinkS_0]
  simp only [lleqLinkS_0]
  kernel_rfl
/-! loop.example/g00599/laws.eqSpan -/
noncomputable def FleqSpan (k : Nat) (a0 : Int × Int) (a1 : Int × Int) : Option (Bool) := den E k 111 [.agg [.v (.int .i64 a0.1), .v (.int .i64 a0.2)], .agg [.v (.int .i64 a1.1), .v (.int .i64 a1.2)]]
theorem eleqSpan (k : Nat) (a0 : Int × Int) (a1 : Int × Int) : FleqSpan (k + 1) a0 a1 = if (a0.1 != a1.1) = true then some false else if (a0.2 != a1.2) = true then some false else some true := by kernel_rfl
/-! loop.example/g00599/laws.eqTable -/
noncomputable def FleqTable (k : Nat) (a0 : Int × (List Int) × List Int) (a1 : Int × (List Int) × List Int) : Option (Bool) := den E k 124 [.agg [.v (.int .i64 a0.1), .l 3 (.i .i64) a0.2.1, .l 3 (.i .i64) a0.2.2], .agg [.v (.int .i64 a1.1), .l 3 (.i .i64) a1.2.1, .l 3 (.i .i64) a1.2.2]]
theorem eleqTable (k : Nat) (a0 : Int × (List Int) × List Int) (a1 : Int × (List Int) × List Int) : FleqTable (k + 1) a0 a1 = if (a0.1 != a1.1) = true then some false else (FleqIntS k a0.2.1 a1.2.1).bind fun p1 => if (!p1) = true then some false else (FleqIntS k a0.2.2 a1.2.2).bind fun p2 => if (!p2) = true then some false else some true := by kernel_rfl
/-! loop.example/g00599/laws.eqTableS -/
noncomputable def FleqTableS (k : Nat) (a0 : List (Int × (List Int) × List Int)) (a1 : List (Int × (List Int) × List Int)) : Option (Bool) := den E k 113 [.c (.l 224 sTable a0), .c (.l 224 sTable a1)]
abbrev CleqTableS_0 : Type := (List (Int × (List Int) × List Int)) × (List (Int × (List Int) × List Int))
abbrev VleqTableS_0 : Type := Int
def StleqTableS_0 (c0 : CleqTableS_0) (v0 : VleqTableS_0) : St := ⟨27, 0, [(0, .c (.l 224 sTable c0.1)), (1, .c (.l 224 sTable c0.2)), (5, .c (.v (.int .i64 v0)))], []⟩
noncomputable def BleqTableS_0 {R : Type} (k : Nat) (X0 : VleqTableS_0 → (Int × (List Int) × List Int) → (Int × (List Int) × List Int) → Bool → Option R) (X1 : VleqTableS_0 → Option R) (c0 : CleqTableS_0) (rec : VleqTableS_0 → Option R) (v0 : VleqTableS_0) : Option R := if (decide (v0 < (c0.1.length : Int))) = true then if 0 ≤ v0 then ix c0.1 v0.toNat fun x1 => if 0 ≤ v0 then ix c0.2 v0.toNat fun x2 => (FleqTable k x1 x2).bind fun p3 => if (!p3) = true then X0 v0 x1 x2 p3 else rec (IntKind.i64.wrap (v0 + 1)) else none else none else X1 v0
noncomputable def LleqTableS_0 {R : Type} (k : Nat) (X0 : VleqTableS_0 → (Int × (List Int) × List Int) → (Int × (List Int) × List Int) → Bool → Option R) (X1 : VleqTableS_0 → Option R) (c : CleqTableS_0) : Nat → VleqTableS_0 → Option R
  | 0, _ => none
  | n + 1, v => BleqTableS_0 k X0 X1 c (LleqTableS_0 k X0 X1 c n) v
theorem bleqTableS_0 {R : Type} (k n : Nat) (K : Ex → St → Option R) (c0 : CleqTableS_0) (v : VleqTableS_0) : loopRun [0, 0, 1, 5] (run E (den E k) (lv 113) k (nthLoop Tryz.f113 0)) (n + 1) (StleqTableS_0 c0 v) K = BleqTableS_0 k (fun (v0 : VleqTableS_0) (x1 : Int × (List Int) × List Int) (x2 : Int × (List Int) × List Int) (p3 : Bool) => K .ret ⟨27, 0, [(0, .c (.l 224 sTable c0.1)), (1, .c (.l 224 sTable c0.2)), (4, .c (.v (.bool false))), (5, .c (.v (.int .i64 v0))), (11, .c (.v (.int .i64 v0))), (12, .c (.l 224 sTable c0.1)), (13, .c (.v (.int .i64 (c0.1.length : Int)))), (14, .c (.v (.bool (decide (v0 < (c0.1.length : Int)))))), (17, .c (.l 224 sTable c0.1)), (18, .c (.v (.int .i64 v0))), (19, .c (.at_ [.v (.int .i64 x1.1), .l 3 (.i .i64) x1.2.1, .l 3 (.i .i64) x1.2.2])), (20, .agg [.v (.int .i64 x1.1), .l 3 (.i .i64) x1.2.1, .l 3 (.i .i64) x1.2.2]), (21, .c (.l 224 sTable c0.2)), (22, .c (.v (.int .i64 v0))), (23, .c (.at_ [.v (.int .i64 x2.1), .l 3 (.i .i64) x2.2.1, .l 3 (.i .i64) x2.2.2])), (24, .agg [.v (.int .i64 x2.1), .l 3 (.i .i64) x2.2.1, .l 3 (.i .i64) x2.2.2]), (25, .c (.v (.bool p3))), (26, .c (.v (.bool (!p3))))], []⟩) (fun (v0 : VleqTableS_0) => K (.exit 0) ⟨27, 0, [(0, .c (.l 224 sTable c0.1)), (1, .c (.l 224 sTable c0.2)), (5, .c (.v (.int .i64 v0))), (11, .c (.v (.int .i64 v0))), (12, .c (.l 224 sTable c0.1)), (13, .c (.v (.int .i64 (c0.1.length : Int)))), (14, .c (.v (.bool (decide (v0 < (c0.1.length : Int))))))], []⟩) c0 (fun v => loopRun [0, 0, 1, 5] (run E (den E k) (lv 113) k (nthLoop Tryz.f113 0)) n (StleqTableS_0 c0 v) K) v := by kernel_rfl
theorem lleqTableS_0 {R : Type} (k : Nat) (K : Ex → St → Option R) (c0 : CleqTableS_0) : ∀ (n : Nat) (v : VleqTableS_0), loopRun [0, 0, 1, 5] (run E (den E k) (lv 113) k (nthLoop Tryz.f113 0)) n (StleqTableS_0 c0 v) K = LleqTableS_0 k (fun (v0 : VleqTableS_0) (x1 : Int × (List Int) × List Int) (x2 : Int × (List Int) × List Int) (p3 : Bool) => K .ret ⟨27, 0, [(0, .c (.l 224 sTable c0.1)), (1, .c (.l 224 sTable c0.2)), (4, .c (.v (.bool false))), (5, .c (.v (.int .i64 v0))), (11, .c (.v (.int .i64 v0))), (12, .c (.l 224 sTable c0.1)), (13, .c (.v (.int .i64 (c0.1.length : Int)))), (14, .c (.v (.bool (decide (v0 < (c0.1.length : Int)))))), (17, .c (.l 224 sTable c0.1)), (18, .c (.v (.int .i64 v0))), (19, .c (.at_ [.v (.int .i64 x1.1), .l 3 (.i .i64) x1.2.1, .l 3 (.i .i64) x1.2.2])), (20, .agg [.v (.int .i64 x1.1), .l 3 (.i .i64) x1.2.1, .l 3 (.i .i64) x1.2.2]), (21, .c (.l 224 sTable c0.2)), (22, .c (.v (.int .i64 v0))), (23, .c (.at_ [.v (.int .i64 x2.1), .l 3 (.i .i64) x2.2.1, .l 3 (.i .i64) x2.2.2])), (24, .agg [.v (.int .i64 x2.1), .l 3 (.i .i64) x2.2.1, .l 3 (.i .i64) x2.2.2]), (25, .c (.v (.bool p3))), (26, .c (.v (.bool (!p3))))], []⟩) (fun (v0 : VleqTableS_0) => K (.exit 0) ⟨27, 0, [(0, .c (.l 224 sTable c0.1)), (1, .c (.l 224 sTable c0.2)), (5, .c (.v (.int .i64 v0))), (11, .c (.v (.int .i64 v0))), (12, .c (.l 224 sTable c0.1)), (13, .c (.v (.int .i64 (c0.1.length : Int)))), (14, .c (.v (.bool (decide (v0 < (c0.1.length : Int))))))], []⟩) c0 n v := by
  intro n
  induction n with
  | zero => intro v; rfl
  | succ n ih =>
    intro v
    refine (bleqTableS_0 k n K c0 v).trans ?_
    rw [funext ih]
    kernel_rfl
theorem mleqTableS_0 (k : Nat) (a0 : List (Int × (List Int) × List Int)) (a1 : List (Int × (List Int) × List Int)) : FleqTableS (k + 1) a0 a1 = if ((a0.length : Int) != (a1.length : Int)) = true then some false else loopRun (R := Bool) [0, 0, 1, 5] (run E (den E k) (lv 113) k (nthLoop Tryz.f113 0)) k (StleqTableS_0 (a0, a1) 0) (kontAt E (den E k) (lv 113) k (bodyOf Tryz.f113) 0 [] (finish E (rs 113) Tryz.f113 : Ex → St → Option (Bool))) := by kernel_rfl
theorem eleqTableS (k : Nat) (a0 : List (Int × (List Int) × List Int)) (a1 : List (Int × (List Int) × List Int)) : FleqTableS (k + 1) a0 a1 = if ((a0.length : Int) != (a1.length : Int)) = true then some false else LleqTableS_0 k (fun (v0 : Int) (x1 : Int × (List Int) × List Int) (x2 : Int × (List Int) × List Int) (p3 : Bool) => some false) (fun (v0 : Int) => some true) (a0, a1) k 0 := by
  rw [mleqTableS_0]
  simp only [lleqTableS_0]
  kernel_rfl
/-! loop.example/g00599/laws.eqPiece -/
noncomputable def FleqPiece (k : Nat) (a0 : TPiece) (a1 : TPiece) : Option (Bool) := den E k 100 [.agg [.v (.int .i64 a0.1.1), .v (.int .i64 a0.1.2), .l 221 sI2 a0.2.1, .l 224 sTable a0.2.2], .agg [.v (.int .i64 a1.1.1), .v (.int .i64 a1.1.2), .l 221 sI2 a1.2.1, .l 224 sTable a1.2.2]]
theorem eleqPiece (k : Nat) (a0 : TPiece) (a1 : TPiece) : FleqPiece (k + 1) a0 a1 = (FleqSpan k a0.1 a1.1).bind fun p1 => if (!p1) = true then some false else (FleqLinkS k a0.2.1 a1.2.1).bind fun p2 => if (!p2) = true then some false else (FleqTableS k a0.2.2 a1.2.2).bind fun p3 => if (!p3) = true then some false else some true := by kernel_rfl
/-! loop.example/g00599/laws.eqPieceS -/
noncomputable def FleqPieceS (k : Nat) (a0 : List TPiece) (a1 : List TPiece) : Option (Bool) := den E k 80 [.c (.l 196 sPiece a0), .c (.l 196 sPiece a1)]
abbrev CleqPieceS_0 : Type := (List TPiece) × (List TPiece)
abbrev VleqPieceS_0 : Type := Int
def StleqPieceS_0 (c0 : CleqPieceS_0) (v0 : VleqPieceS_0) : St := ⟨27, 0, [(0, .c (.l 196 sPiece c0.1)), (1, .c (.l 196 sPiece c0.2)), (5, .c (.v (.int .i64 v0)))], []⟩
noncomputable def BleqPieceS_0 {R : Type} (k : Nat) (X0 : VleqPieceS_0 → TPiece → TPiece → Bool → Option R) (X1 : VleqPieceS_0 → Option R) (c0 : CleqPieceS_0) (rec : VleqPieceS_0 → Option R) (v0 : VleqPieceS_0) : Option R := if (decide (v0 < (c0.1.length : Int))) = true then if 0 ≤ v0 then ix c0.1 v0.toNat fun x1 => if 0 ≤ v0 then ix c0.2 v0.toNat fun x2 => (FleqPiece k x1 x2).bind fun p3 => if (!p3) = true then X0 v0 x1 x2 p3 else rec (IntKind.i64.wrap (v0 + 1)) else none else none else X1 v0
noncomputable def LleqPieceS_0 {R : Type} (k : Nat) (X0 : VleqPieceS_0 → TPiece → TPiece → Bool → Option R) (X1 : VleqPieceS_0 → Option R) (c : CleqPieceS_0) : Nat → VleqPieceS_0 → Option R
  | 0, _ => none
  | n + 1, v => BleqPieceS_0 k X0 X1 c (LleqPieceS_0 k X0 X1 c n) v
theorem bleqPieceS_0 {R : Type} (k n : Nat) (K : Ex → St → Option R) (c0 : CleqPieceS_0) (v : VleqPieceS_0) : loopRun [0, 0, 1, 5] (run E (den E k) (lv 80) k (nthLoop Tryz.f80 0)) (n + 1) (StleqPieceS_0 c0 v) K = BleqPieceS_0 k (fun (v0 : VleqPieceS_0) (x1 : TPiece) (x2 : TPiece) (p3 : Bool) => K .ret ⟨27, 0, [(0, .c (.l 196 sPiece c0.1)), (1, .c (.l 196 sPiece c0.2)), (4, .c (.v (.bool false))), (5, .c (.v (.int .i64 v0))), (11, .c (.v (.int .i64 v0))), (12, .c (.l 196 sPiece c0.1)), (13, .c (.v (.int .i64 (c0.1.length : Int)))), (14, .c (.v (.bool (decide (v0 < (c0.1.length : Int)))))), (17, .c (.l 196 sPiece c0.1)), (18, .c (.v (.int .i64 v0))), (19, .c (.at_ [.v (.int .i64 x1.1.1), .v (.int .i64 x1.1.2), .l 221 sI2 x1.2.1, .l 224 sTable x1.2.2])), (20, .agg [.v (.int .i64 x1.1.1), .v (.int .i64 x1.1.2), .l 221 sI2 x1.2.1, .l 224 sTable x1.2.2]), (21, .c (.l 196 sPiece c0.2)), (22, .c (.v (.int .i64 v0))), (23, .c (.at_ [.v (.int .i64 x2.1.1), .v (.int .i64 x2.1.2), .l 221 sI2 x2.2.1, .l 224 sTable x2.2.2])), (24, .agg [.v (.int .i64 x2.1.1), .v (.int .i64 x2.1.2), .l 221 sI2 x2.2.1, .l 224 sTable x2.2.2]), (25, .c (.v (.bool p3))), (26, .c (.v (.bool (!p3))))], []⟩) (fun (v0 : VleqPieceS_0) => K (.exit 0) ⟨27, 0, [(0, .c (.l 196 sPiece c0.1)), (1, .c (.l 196 sPiece c0.2)), (5, .c (.v (.int .i64 v0))), (11, .c (.v (.int .i64 v0))), (12, .c (.l 196 sPiece c0.1)), (13, .c (.v (.int .i64 (c0.1.length : Int)))), (14, .c (.v (.bool (decide (v0 < (c0.1.length : Int))))))], []⟩) c0 (fun v => loopRun [0, 0, 1, 5] (run E (den E k) (lv 80) k (nthLoop Tryz.f80 0)) n (StleqPieceS_0 c0 v) K) v := by kernel_rfl
theorem lleqPieceS_0 {R : Type} (k : Nat) (K : Ex → St → Option R) (c0 : CleqPieceS_0) : ∀ (n : Nat) (v : VleqPieceS_0), loopRun [0, 0, 1, 5] (run E (den E k) (lv 80) k (nthLoop Tryz.f80 0)) n (StleqPieceS_0 c0 v) K = LleqPieceS_0 k (fun (v0 : VleqPieceS_0) (x1 : TPiece) (x2 : TPiece) (p3 : Bool) => K .ret ⟨27, 0, [(0, .c (.l 196 sPiece c0.1)), (1, .c (.l 196 sPiece c0.2)), (4, .c (.v (.bool false))), (5, .c (.v (.int .i64 v0))), (11, .c (.v (.int .i64 v0))), (12, .c (.l 196 sPiece c0.1)), (13, .c (.v (.int .i64 (c0.1.length : Int)))), (14, .c (.v (.bool (decide (v0 < (c0.1.length : Int)))))), (17, .c (.l 196 sPiece c0.1)), (18, .c (.v (.int .i64 v0))), (19, .c (.at_ [.v (.int .i64 x1.1.1), .v (.int .i64 x1.1.2), .l 221 sI2 x1.2.1, .l 224 sTable x1.2.2])), (20, .agg [.v (.int .i64 x1.1.1), .v (.int .i64 x1.1.2), .l 221 sI2 x1.2.1, .l 224 sTable x1.2.2]), (21, .c (.l 196 sPiece c0.2)), (22, .c (.v (.int .i64 v0))), (23, .c (.at_ [.v (.int .i64 x2.1.1), .v (.int .i64 x2.1.2), .l 221 sI2 x2.2.1, .l 224 sTable x2.2.2])), (24, .agg [.v (.int .i64 x2.1.1), .v (.int .i64 x2.1.2), .l 221 sI2 x2.2.1, .l 224 sTable x2.2.2]), (25, .c (.v (.bool p3))), (26, .c (.v (.bool (!p3))))], []⟩) (fun (v0 : VleqPieceS_0) => K (.exit 0) ⟨27, 0, [(0, .c (.l 196 sPiece c0.1)), (1, .c (.l 196 sPiece c0.2)), (5, .c (.v (.int .i64 v0))), (11, .c (.v (.int .i64 v0))), (12, .c (.l 196 sPiece c0.1)), (13, .c (.v (.int .i64 (c0.1.length : Int)))), (14, .c (.v (.bool (decide (v0 < (c0.1.length : Int))))))], []⟩) c0 n v := by
  intro n
  induction n with
  | zero => intro v; rfl
  | succ n ih =>
    intro v
    refine (bleqPieceS_0 k n K c0 v).trans ?_
    rw [funext ih]
    kernel_rfl
theorem mleqPieceS_0 (k : Nat) (a0 : List TPiece) (a1 : List TPiece) : FleqPieceS (k + 1) a0 a1 = if ((a0.length : Int) != (a1.length : Int)) = true then some false else loopRun (R := Bool) [0, 0, 1, 5] (run E (den E k) (lv 80) k (nthLoop Tryz.f80 0)) k (StleqPieceS_0 (a0, a1) 0) (kontAt E (den E k) (lv 80) k (bodyOf Tryz.f80) 0 [] (finish E (rs 80) Tryz.f80 : Ex → St → Option (Bool))) := by kernel_rfl
theorem eleqPieceS (k : Nat) (a0 : List TPiece) (a1 : List TPiece) : FleqPieceS (k + 1) a0 a1 = if ((a0.length : Int) != (a1.length : Int)) = true then some false else LleqPieceS_0 k (fun (v0 : Int) (x1 : TPiece) (x2 : TPiece) (p3 : Bool) => some false) (fun (v0 : Int) => some true) (a0, a1) k 0 := by
  rw [mleqPieceS_0]
  simp only [lleqPieceS_0]
  kernel_rfl
/-! loop.example/g00599/laws.eqProgram -/
noncomputable def FleqProgram (k : Nat) (a0 : TProgram) (a1 : TProgram) : Option (Bool) := den E k 44 [.agg [.v (.int .i64 a0.1), .v (.int .i64 a0.2.1), .v (.int .i64 a0.2.2.1), .l 196 sPiece a0.2.2.2], .agg [.v (.int .i64 a1.1), .v (.int .i64 a1.2.1), .v (.int .i64 a1.2.2.1), .l 196 sPiece a1.2.2.2]]
theorem eleqProgram (k : Nat) (a0 : TProgram) (a1 : TProgram) : FleqProgram (k + 1) a0 a1 = if (a0.1 != a1.1) = true then some false else if (a0.2.1 != a1.2.1) = true then some false else if (a0.2.2.1 != a1.2.2.1) = true then some false else (FleqPieceS k a0.2.2.2 a1.2.2.2).bind fun p1 => if (!p1) = true then some false else some true := by kernel_rfl
/-! loop.example/g00599/laws.eqQueue -/
noncomputable def FleqQueue (k : Nat) (a0 : List (Int × Int × Int × Int × Int × Int)) (a1 : List (Int × Int × Int × Int × Int × Int)) : Option (Bool) := den E k 82 [.agg [.l 142 sI6 a0], .agg [.l 142 sI6 a1]]
theorem eleqQueue (k : Nat) (a0 : List (Int × Int × Int × Int × Int × Int)) (a1 : List (Int × Int × Int × Int × Int × Int)) : FleqQueue (k + 1) a0 a1 = (FleqPacketS k a0 a1).bind fun p1 => if (!p1) = true then some false else some true := by kernel_rfl
/-! loop.example/g00599/laws.eqQueueS -/
noncomputable def FleqQueueS (k : Nat) (a0 : List (List (Int × Int × Int × Int × Int × Int))) (a1 : List (List (Int × Int × Int × Int × Int × Int))) : Option (Bool) := den E k 48 [.c (.l 83 sQueue a0), .c (.l 83 sQueue a1)]
abbrev CleqQueueS_0 : Type := (List (List (Int × Int × Int × Int × Int × Int))) × (List (List (Int × Int × Int × Int × Int × Int)))
abbrev VleqQueueS_0 : Type := Int
def StleqQueueS_0 (c0 : CleqQueueS_0) (v0 : VleqQueueS_0) : St := ⟨27, 0, [(0, .c (.l 83 sQueue c0.1)), (1, .c (.l 83 sQueue c0.2)), (5, .c (.v (.int .i64 v0)))], []⟩
noncomputable def BleqQueueS_0 {R : Type} (k : Nat) (X0 : VleqQueueS_0 → (List (Int × Int × Int × Int × Int × Int)) → (List (Int × Int × Int × Int × Int × Int)) → Bool → Option R) (X1 : VleqQueueS_0 → Option R) (c0 : CleqQueueS_0) (rec : VleqQueueS_0 → Option R) (v0 : VleqQueueS_0) : Option R := if (decide (v0 < (c0.1.length : Int))) = true then if 0 ≤ v0 then ix c0.1 v0.toNat fun x1 => if 0 ≤ v0 then ix c0.2 v0.toNat fun x2 => (FleqQueue k x1 x2).bind fun p3 => if (!p3) = true then X0 v0 x1 x2 p3 else rec (IntKind.i64.wrap (v0 + 1)) else none else none else X1 v0
noncomputable def LleqQueueS_0 {R : Type} (k : Nat) (X0 : VleqQueueS_0 → (List (Int × Int × Int × Int × Int × Int)) → (List (Int × Int × Int × Int × Int × Int)) → Bool → Option R) (X1 : VleqQueueS_0 → Option R) (c : CleqQueueS_0) : Nat → VleqQueueS_0 → Option R
  | 0, _ => none
  | n + 1, v => BleqQueueS_0 k X0 X1 c (LleqQueueS_0 k X0 X1 c n) v
theorem bleqQueueS_0 {R : Type} (k n : Nat) (K : Ex → St → Option R) (c0 : CleqQueueS_0) (v : VleqQueueS_0) : loopRun [0, 0, 1, 5] (run E (den E k) (lv 48) k (nthLoop Tryz.f48 0)) (n + 1) (StleqQueueS_0 c0 v) K = BleqQueueS_0 k (fun (v0 : VleqQueueS_0) (x1 : List (Int × Int × Int × Int × Int × Int)) (x2 : List (Int × Int × Int × Int × Int × Int)) (p3 : Bool) => K .ret ⟨27, 0, [(0, .c (.l 83 sQueue c0.1)), (1, .c (.l 83 sQueue c0.2)), (4, .c (.v (.bool false))), (5, .c (.v (.int .i64 v0))), (11, .c (.v (.int .i64 v0))), (12, .c (.l 83 sQueue c0.1)), (13, .c (.v (.int .i64 (c0.1.length : Int)))), (14, .c (.v (.bool (decide (v0 < (c0.1.length : Int)))))), (17, .c (.l 83 sQueue c0.1)), (18, .c (.v (.int .i64 v0))), (19, .c (.at_ [.l 142 sI6 x1])), (20, .agg [.l 142 sI6 x1]), (21, .c (.l 83 sQueue c0.2)), (22, .c (.v (.int .i64 v0))), (23, .c (.at_ [.l 142 sI6 x2])), (24, .agg [.l 142 sI6 x2]), (25, .c (.v (.bool p3))), (26, .c (.v (.bool (!p3))))], []⟩) (fun (v0 : VleqQueueS_0) => K (.exit 0) ⟨27, 0, [(0, .c (.l 83 sQueue c0.1)), (1, .c (.l 83 sQueue c0.2)), (5, .c (.v (.int .i64 v0))), (11, .c (.v (.int .i64 v0))), (12, .c (.l 83 sQueue c0.1)), (13, .c (.v (.int .i64 (c0.1.length : Int)))), (14, .c (.v (.bool (decide (v0 < (c0.1.length : Int))))))], []⟩) c0 (fun v => loopRun [0, 0, 1, 5] (run E (den E k) (lv 48) k (nthLoop Tryz.f48 0)) n (StleqQueueS_0 c0 v) K) v := by kernel_rfl
theorem lleqQueueS_0 {R : Type} (k : Nat) (K : Ex → St → Option R) (c0 : CleqQueueS_0) : ∀ (n : Nat) (v : VleqQueueS_0), loopRun [0, 0, 1, 5] (run E (den E k) (lv 48) k (nthLoop Tryz.f48 0)) n (StleqQueueS_0 c0 v) K = LleqQueueS_0 k (fun (v0 : VleqQueueS_0) (x1 : List (Int × Int × Int × Int × Int × Int)) (x2 : List (Int × Int × Int × Int × Int × Int)) (p3 : Bool) => K .ret ⟨27, 0, [(0, .c (.l 83 sQueue c0.1)), (1, .c (.l 83 sQueue c0.2)), (4, .c (.v (.bool false))), (5, .c (.v (.int .i64 v0))), (11, .c (.v (.int .i64 v0))), (12, .c (.l 83 sQueue c0.1)), (13, .c (.v (.int .i64 (c0.1.length : Int)))), (14, .c (.v (.bool (decide (v0 < (c0.1.length : Int)))))), (17, .c (.l 83 sQueue c0.1)), (18, .c (.v (.int .i64 v0))), (19, .c (.at_ [.l 142 sI6 x1])), (20, .agg [.l 142 sI6 x1]), (21, .c (.l 83 sQueue c0.2)), (22, .c (.v (.int .i64 v0))), (23, .c (.at_ [.l 142 sI6 x2])), (24, .agg [.l 142 sI6 x2]), (25, .c (.v (.bool p3))), (26, .c (.v (.bool (!p3))))], []⟩) (fun (v0 : VleqQueueS_0) => K (.exit 0) ⟨27, 0, [(0, .c (.l 83 sQueue c0.1)), (1, .c (.l 83 sQueue c0.2)), (5, .c (.v (.int .i64 v0))), (11, .c (.v (.int .i64 v0))), (12, .c (.l 83 sQueue c0.1)), (13, .c (.v (.int .i64 (c0.1.length : Int)))), (14, .c (.v (.bool (decide (v0 < (c0.1.length : Int))))))], []⟩) c0 n v := by
  intro n
  induction n with
  | zero => intro v; rfl
  | succ n ih =>
    intro v
    refine (bleqQueueS_0 k n K c0 v).trans ?_
    rw [funext ih]
    kernel_rfl
theorem mleqQueueS_0 (k : Nat) (a0 : List (List (Int × Int × Int × Int × Int × Int))) (a1 : List (List (Int × Int × Int × Int × Int × Int))) : FleqQueueS (k + 1) a0 a1 = if ((a0.length : Int) != (a1.length : Int)) = true then some false else loopRun (R := Bool) [0, 0, 1, 5] (run E (den E k) (lv 48) k (nthLoop Tryz.f48 0)) k (StleqQueueS_0 (a0, a1) 0) (kontAt E (den E k) (lv 48) k (bodyOf Tryz.f48) 0 [] (finish E (rs 48) Tryz.f48 : Ex → St → Option (Bool))) := by kernel_rfl
theorem eleqQueueS (k : Nat) (a0 : List (List (Int × Int × Int × Int × Int × Int))) (a1 : List (List (Int × Int × Int × Int × Int × Int))) : FleqQueueS (k + 1) a0 a1 = if ((a0.length : Int) != (a1.length : Int)) = true then some false else LleqQueueS_0 k (fun (v0 : Int) (x1 : List (Int × Int × Int × Int × Int × Int)) (x2 : List (Int × Int × Int × Int × Int × Int)) (p3 : Bool) => some false) (fun (v0 : Int) => some true) (a0, a1) k 0 := by
  rw [mleqQueueS_0]
  simp only [lleqQueueS_0]
  kernel_rfl
/-! loop.example/g00599/laws.eqSent -/
noncomputable def FleqSent (k : Nat) (a0 : Int × Int × Int × Int) (a1 : Int × Int × Int × Int) : Option (Bool) := den E k 87 [.agg [.v (.int .i64 a0.1), .v (.int .i64 a0.2.1), .v (.int .i64 a0.2.2.1), .v (.int .i64 a0.2.2.2)], .agg [.v (.int .i64 a1.1), .v (.int .i64 a1.2.1), .v (.int .i64 a1.2.2.1), .v (.int .i64 a1.2.2.2)]]
theorem eleqSent (k : Nat) (a0 : Int × Int × Int × Int) (a1 : Int × Int × Int × Int) : FleqSent (k + 1) a0 a1 = if (a0.1 != a1.1) = true then some false else if (a0.2.1 != a1.2.1) = true then some false else if (a0.2.2.1 != a1.2.2.1) = true then some false else if (a0.2.2.2 != a1.2.2.2) = true then some false else some true := by kernel_rfl
/-! loop.example/g00599/laws.eqSentS -/
noncomputable def FleqSentS (k : Nat) (a0 : List (Int × Int × Int × Int)) (a1 : List (Int × Int × Int × Int)) : Option (Bool) := den E k 53 [.c (.l 146 sI4 a0), .c (.l 146 sI4 a1)]
abbrev CleqSentS_0 : Type := (List (Int × Int × Int × Int)) × (List (Int × Int × Int × Int))
abbrev VleqSentS_0 : Type := Int
def StleqSentS_0 (c0 : CleqSentS_0) (v0 : VleqSentS_0) : St := ⟨27, 0, [(0, .c (.l 146 sI4 c0.1)), (1, .c (.l 146 sI4 c0.2)), (5, .c (.v (.int .i64 v0)))], []⟩
noncomputable def BleqSentS_0 {R : Type} (k : Nat) (X0 : VleqSentS_0 → (Int × Int × Int × Int) → (Int × Int × Int × Int) → Bool → Option R) (X1 : VleqSentS_0 → Option R) (c0 : CleqSentS_0) (rec : VleqSentS_0 → Option R) (v0 : VleqSentS_0) : Option R := if (decide (v0 < (c0.1.length : Int))) = true then if 0 ≤ v0 then ix c0.1 v0.toNat fun x1 => if 0 ≤ v0 then ix c0.2 v0.toNat fun x2 => (FleqSent k x1 x2).bind fun p3 => if (!p3) = true then X0 v0 x1 x2 p3 else rec (IntKind.i64.wrap (v0 + 1)) else none else none else X1 v0
noncomputable def LleqSentS_0 {R : Type} (k : Nat) (X0 : VleqSentS_0 → (Int × Int × Int × Int) → (Int × Int × Int × Int) → Bool → Option R) (X1 : VleqSentS_0 → Option R) (c : CleqSentS_0) : Nat → VleqSentS_0 → Option R
  | 0, _ => none
  | n + 1, v => BleqSentS_0 k X0 X1 c (LleqSentS_0 k X0 X1 c n) v
theorem bleqSentS_0 {R : Type} (k n : Nat) (K : Ex → St → Option R) (c0 : CleqSentS_0) (v : VleqSentS_0) : loopRun [0, 0, 1, 5] (run E (den E k) (lv 53) k (nthLoop Tryz.f53 0)) (n + 1) (StleqSentS_0 c0 v) K = BleqSentS_0 k (fun (v0 : VleqSentS_0) (x1 : Int × Int × Int × Int) (x2 : Int × Int × Int × Int) (p3 : Bool) => K .ret ⟨27, 0, [(0, .c (.l 146 sI4 c0.1)), (1, .c (.l 146 sI4 c0.2)), (4, .c (.v (.bool false))), (5, .c (.v (.int .i64 v0))), (11, .c (.v (.int .i64 v0))), (12, .c (.l 146 sI4 c0.1)), (13, .c (.v (.int .i64 (c0.1.length : Int)))), (14, .c (.v (.bool (decide (v0 < (c0.1.length : Int)))))), (17, .c (.l 146 sI4 c0.1)), (18, .c (.v (.int .i64 v0))), (19, .c (.at_ [.v (.int .i64 x1.1), .v (.int .i64 x1.2.1), .v (.int .i64 x1.2.2.1), .v (.int .i64 x1.2.2.2)])), (20, .agg [.v (.int .i64 x1.1), .v (.int .i64 x1.2.1), .v (.int .i64 x1.2.2.1), .v (.int .i64 x1.2.2.2)]), (21, .c (.l 146 sI4 c0.2)), (22, .c (.v (.int .i64 v0))), (23, .c (.at_ [.v (.int .i64 x2.1), .v (.int .i64 x2.2.1), .v (.int .i64 x2.2.2.1), .v (.int .i64 x2.2.2.2)])), (24, .agg [.v (.int .i64 x2.1), .v (.int .i64 x2.2.1), .v (.int .i64 x2.2.2.1), .v (.int .i64 x2.2.2.2)]), (25, .c (.v (.bool p3))), (26, .c (.v (.bool (!p3))))], []⟩) (fun (v0 : VleqSentS_0) => K (.exit 0) ⟨27, 0, [(0, .c (.l 146 sI4 c0.1)), (1, .c (.l 146 sI4 c0.2)), (5, .c (.v (.int .i64 v0))), (11, .c (.v (.int .i64 v0))), (12, .c (.l 146 sI4 c0.1)), (13, .c (.v (.int .i64 (c0.1.length : Int)))), (14, .c (.v (.bool (decide (v0 < (c0.1.length : Int))))))], []⟩) c0 (fun v => loopRun [0, 0, 1, 5] (run E (den E k) (lv 53) k (nthLoop Tryz.f53 0)) n (StleqSentS_0 c0 v) K) v := by kernel_rfl
theorem lleqSentS_0 {R : Type} (k : Nat) (K : Ex → St → Option R) (c0 : CleqSentS_0) : ∀ (n : Nat) (v : VleqSentS_0), loopRun [0, 0, 1, 5] (run E (den E k) (lv 53) k (nthLoop Tryz.f53 0)) n (StleqSentS_0 c0 v) K = LleqSentS_0 k (fun (v0 : VleqSentS_0) (x1 : Int × Int × Int × Int) (x2 : Int × Int × Int × Int) (p3 : Bool) => K .ret ⟨27, 0, [(0, .c (.l 146 sI4 c0.1)), (1, .c (.l 146 sI4 c0.2)), (4, .c (.v (.bool false))), (5, .c (.v (.int .i64 v0))), (11, .c (.v (.int .i64 v0))), (12, .c (.l 146 sI4 c0.1)), (13, .c (.v (.int .i64 (c0.1.length : Int)))), (14, .c (.v (.bool (decide (v0 < (c0.1.length : Int)))))), (17, .c (.l 146 sI4 c0.1)), (18, .c (.v (.int .i64 v0))), (19, .c (.at_ [.v (.int .i64 x1.1), .v (.int .i64 x1.2.1), .v (.int .i64 x1.2.2.1), .v (.int .i64 x1.2.2.2)])), (20, .agg [.v (.int .i64 x1.1), .v (.int .i64 x1.2.1), .v (.int .i64 x1.2.2.1), .v (.int .i64 x1.2.2.2)]), (21, .c (.l 146 sI4 c0.2)), (22, .c (.v (.int .i64 v0))), (23, .c (.at_ [.v (.int .i64 x2.1), .v (.int .i64 x2.2.1), .v (.int .i64 x2.2.2.1), .v (.int .i64 x2.2.2.2)])), (24, .agg [.v (.int .i64 x2.1), .v (.int .i64 x2.2.1), .v (.int .i64 x2.2.2.1), .v (.int .i64 x2.2.2.2)]), (25, .c (.v (.bool p3))), (26, .c (.v (.bool (!p3))))], []⟩) (fun (v0 : VleqSentS_0) => K (.exit 0) ⟨27, 0, [(0, .c (.l 146 sI4 c0.1)), (1, .c (.l 146 sI4 c0.2)), (5, .c (.v (.int .i64 v0))), (11, .c (.v (.int .i64 v0))), (12, .c (.l 146 sI4 c0.1)), (13, .c (.v (.int .i64 (c0.1.length : Int)))), (14, .c (.v (.bool (decide (v0 < (c0.1.length : Int))))))], []⟩) c0 n v := by
  intro n
  induction n with
  | zero => intro v; rfl
  | succ n ih =>
    intro v
    refine (bleqSentS_0 k n K c0 v).trans ?_
    rw [funext ih]
    kernel_rfl
theorem mleqSentS_0 (k : Nat) (a0 : List (Int × Int × Int × Int)) (a1 : List (Int × Int × Int × Int)) : FleqSentS (k + 1) a0 a1 = if ((a0.length : Int) != (a1.length : Int)) = true then some false else loopRun (R := Bool) [0, 0, 1, 5] (run E (den E k) (lv 53) k (nthLoop Tryz.f53 0)) k (StleqSentS_0 (a0, a1) 0) (kontAt E (den E k) (lv 53) k (bodyOf Tryz.f53) 0 [] (finish E (rs 53) Tryz.f53 : Ex → St → Option (Bool))) := by kernel_rfl
theorem eleqSentS (k : Nat) (a0 : List (Int × Int × Int × Int)) (a1 : List (Int × Int × Int × Int)) : FleqSentS (k + 1) a0 a1 = if ((a0.length : Int) != (a1.length : Int)) = true then some false else LleqSentS_0 k (fun (v0 : Int) (x1 : Int × Int × Int × Int) (x2 : Int × Int × Int × Int) (p3 : Bool) => some false) (fun (v0 : Int) => some true) (a0, a1) k 0 := by
  rw [mleqSentS_0]
  simp only [lleqSentS_0]
  kernel_rfl
/-! loop.example/g00599/laws.eqSat -/
noncomputable def FleqSat (k : Nat) (a0 : Int × Int × Int × Int) (a1 : Int × Int × Int × Int) : Option (Bool) := den E k 97 [.agg [.v (.int .i64 a0.1), .v (.int .i64 a0.2.1), .v (.int .i64 a0.2.2.1), .v (.int .i64 a0.2.2.2)], .agg [.v (.int .i64 a1.1), .v (.int .i64 a1.2.1), .v (.int .i64 a1.2.2.1), .v (.int .i64 a1.2.2.2)]]
theorem eleqSat (k : Nat) (a0 : Int × Int × Int × Int) (a1 : Int × Int × Int × Int) : FleqSat (k + 1) a0 a1 = if (a0.1 != a1.1) = true then some false else if (a0.2.1 != a1.2.1) = true then some false else if (a0.2.2.1 != a1.2.2.1) = true then some false else if (a0.2.2.2 != a1.2.2.2) = true then some false else some true := by kernel_rfl
/-! loop.example/g00599/laws.eqSatS -/
noncomputable def FleqSatS (k : Nat) (a0 : List (Int × Int × Int × Int)) (a1 : List (Int × Int × Int × Int)) : Option (Bool) := den E k 77 [.c (.l 177 sI4 a0), .c (.l 177 sI4 a1)]
abbrev CleqSatS_0 : Type := (List (Int × Int × Int × Int)) × (List (Int × Int × Int × Int))
abbrev VleqSatS_0 : Type := Int
def StleqSatS_0 (c0 : CleqSatS_0) (v0 : VleqSatS_0) : St := ⟨27, 0, [(0, .c (.l 177 sI4 c0.1)), (1, .c (.l 177 sI4 c0.2)), (5, .c (.v (.int .i64 v0)))], []⟩
noncomputable def BleqSatS_0 {R : Type} (k : Nat) (X0 : VleqSatS_0 → (Int × Int × Int × Int) → (Int × Int × Int × Int) → Bool → Option R) (X1 : VleqSatS_0 → Option R) (c0 : CleqSatS_0) (rec : VleqSatS_0 → Option R) (v0 : VleqSatS_0) : Option R := if (decide (v0 < (c0.1.length : Int))) = true then if 0 ≤ v0 then ix c0.1 v0.toNat fun x1 => if 0 ≤ v0 then ix c0.2 v0.toNat fun x2 => (FleqSat k x1 x2).bind fun p3 => if (!p3) = true then X0 v0 x1 x2 p3 else rec (IntKind.i64.wrap (v0 + 1)) else none else none else X1 v0
noncomputable def LleqSatS_0 {R : Type} (k : Nat) (X0 : VleqSatS_0 → (Int × Int × Int × Int) → (Int × Int × Int × Int) → Bool → Option R) (X1 : VleqSatS_0 → Option R) (c : CleqSatS_0) : Nat → VleqSatS_0 → Option R
  | 0, _ => none
  | n + 1, v => BleqSatS_0 k X0 X1 c (LleqSatS_0 k X0 X1 c n) v
theorem bleqSatS_0 {R : Type} (k n : Nat) (K : Ex → St → Option R) (c0 : CleqSatS_0) (v : VleqSatS_0) : loopRun [0, 0, 1, 5] (run E (den E k) (lv 77) k (nthLoop Tryz.f77 0)) (n + 1) (StleqSatS_0 c0 v) K = BleqSatS_0 k (fun (v0 : VleqSatS_0) (x1 : Int × Int × Int × Int) (x2 : Int × Int × Int × Int) (p3 : Bool) => K .ret ⟨27, 0, [(0, .c (.l 177 sI4 c0.1)), (1, .c (.l 177 sI4 c0.2)), (4, .c (.v (.bool false))), (5, .c (.v (.int .i64 v0))), (11, .c (.v (.int .i64 v0))), (12, .c (.l 177 sI4 c0.1)), (13, .c (.v (.int .i64 (c0.1.length : Int)))), (14, .c (.v (.bool (decide (v0 < (c0.1.length : Int)))))), (17, .c (.l 177 sI4 c0.1)), (18, .c (.v (.int .i64 v0))), (19, .c (.at_ [.v (.int .i64 x1.1), .v (.int .i64 x1.2.1), .v (.int .i64 x1.2.2.1), .v (.int .i64 x1.2.2.2)])), (20, .agg [.v (.int .i64 x1.1), .v (.int .i64 x1.2.1), .v (.int .i64 x1.2.2.1), .v (.int .i64 x1.2.2.2)]), (21, .c (.l 177 sI4 c0.2)), (22, .c (.v (.int .i64 v0))), (23, .c (.at_ [.v (.int .i64 x2.1), .v (.int .i64 x2.2.1), .v (.int .i64 x2.2.2.1), .v (.int .i64 x2.2.2.2)])), (24, .agg [.v (.int .i64 x2.1), .v (.int .i64 x2.2.1), .v (.int .i64 x2.2.2.1), .v (.int .i64 x2.2.2.2)]), (25, .c (.v (.bool p3))), (26, .c (.v (.bool (!p3))))], []⟩) (fun (v0 : VleqSatS_0) => K (.exit 0) ⟨27, 0, [(0, .c (.l 177 sI4 c0.1)), (1, .c (.l 177 sI4 c0.2)), (5, .c (.v (.int .i64 v0))), (11, .c (.v (.int .i64 v0))), (12, .c (.l 177 sI4 c0.1)), (13, .c (.v (.int .i64 (c0.1.length : Int)))), (14, .c (.v (.bool (decide (v0 < (c0.1.length : Int))))))], []⟩) c0 (fun v => loopRun [0, 0, 1, 5] (run E (den E k) (lv 77) k (nthLoop Tryz.f77 0)) n (StleqSatS_0 c0 v) K) v := by kernel_rfl
theorem lleqSatS_0 {R : Type} (k : Nat) (K : Ex → St → Option R) (c0 : CleqSatS_0) : ∀ (n : Nat) (v : VleqSatS_0), loopRun [0, 0, 1, 5] (run E (den E k) (lv 77) k (nthLoop Tryz.f77 0)) n (StleqSatS_0 c0 v) K = LleqSatS_0 k (fun (v0 : VleqSatS_0) (x1 : Int × Int × Int × Int) (x2 : Int × Int × Int × Int) (p3 : Bool) => K .ret ⟨27, 0, [(0, .c (.l 177 sI4 c0.1)), (1, .c (.l 177 sI4 c0.2)), (4, .c (.v (.bool false))), (5, .c (.v (.int .i64 v0))), (11, .c (.v (.int .i64 v0))), (12, .c (.l 177 sI4 c0.1)), (13, .c (.v (.int .i64 (c0.1.length : Int)))), (14, .c (.v (.bool (decide (v0 < (c0.1.length : Int)))))), (17, .c (.l 177 sI4 c0.1)), (18, .c (.v (.int .i64 v0))), (19, .c (.at_ [.v (.int .i64 x1.1), .v (.int .i64 x1.2.1), .v (.int .i64 x1.2.2.1), .v (.int .i64 x1.2.2.2)])), (20, .agg [.v (.int .i64 x1.1), .v (.int .i64 x1.2.1), .v (.int .i64 x1.2.2.1), .v (.int .i64 x1.2.2.2)]), (21, .c (.l 177 sI4 c0.2)), (22, .c (.v (.int .i64 v0))), (23, .c (.at_ [.v (.int .i64 x2.1), .v (.int .i64 x2.2.1), .v (.int .i64 x2.2.2.1), .v (.int .i64 x2.2.2.2)])), (24, .agg [.v (.int .i64 x2.1), .v (.int .i64 x2.2.1), .v (.int .i64 x2.2.2.1), .v (.int .i64 x2.2.2.2)]), (25, .c (.v (.bool p3))), (26, .c (.v (.bool (!p3))))], []⟩) (fun (v0 : VleqSatS_0) => K (.exit 0) ⟨27, 0, [(0, .c (.l 177 sI4 c0.1)), (1, .c (.l 177 sI4 c0.2)), (5, .c (.v (.int .i64 v0))), (11, .c (.v (.int .i64 v0))), (12, .c (.l 177 sI4 c0.1)), (13, .c (.v (.int .i64 (c0.1.length : Int)))), (14, .c (.v (.bool (decide (v0 < (c0.1.length : Int))))))], []⟩) c0 n v := by
  intro n
  induction n with
  | zero => intro v; rfl
  | succ n ih =>
    intro v
    refine (bleqSatS_0 k n K c0 v).trans ?_
    rw [funext ih]
    kernel_rfl
theorem mleqSatS_0 (k : Nat) (a0 : List (Int × Int × Int × Int)) (a1 : List (Int × Int × Int × Int)) : FleqSatS (k + 1) a0 a1 = if ((a0.length : Int) != (a1.length : Int)) = true then some false else loopRun (R := Bool) [0, 0, 1, 5] (run E (den E k) (lv 77) k (nthLoop Tryz.f77 0)) k (StleqSatS_0 (a0, a1) 0) (kontAt E (den E k) (lv 77) k (bodyOf Tryz.f77) 0 [] (finish E (rs 77) Tryz.f77 : Ex → St → Option (Bool))) := by kernel_rfl
theorem eleqSatS (k : Nat) (a0 : List (Int × Int × Int × Int)) (a1 : List (Int × Int × Int × Int)) : FleqSatS (k + 1) a0 a1 = if ((a0.length : Int) != (a1.length : Int)) = true then some false else LleqSatS_0 k (fun (v0 : Int) (x1 : Int × Int × Int × Int) (x2 : Int × Int × Int × Int) (p3 : Bool) => some false) (fun (v0 : Int) => some true) (a0, a1) k 0 := by
  rw [mleqSatS_0]
  simp only [lleqSatS_0]
  kernel_rfl
/-! loop.example/g00599/laws.eqSite -/
noncomputable def FleqSite (k : Nat) (a0 : Int × Int × Int) (a1 : Int × Int × Int) : Option (Bool) := den E k 98 [.agg [.v (.int .i64 a0.1), .v (.int .i64 a0.2.1), .v (.int .i64 a0.2.2)], .agg [.v (.int .i64 a1.1), .v (.int .i64 a1.2.1), .v (.int .i64 a1.2.2)]]
theorem eleqSite (k : Nat) (a0 : Int × Int × Int) (a1 : Int × Int × Int) : FleqSite (k + 1) a0 a1 = if (a0.1 != a1.1) = true then some false else if (a0.2.1 != a1.2.1) = true then some false else if (a0.2.2 != a1.2.2) = true then some false else some true := by kernel_rfl
/-! loop.example/g00599/laws.eqSiteS -/
noncomputable def FleqSiteS (k : Nat) (a0 : List (Int × Int × Int)) (a1 : List (Int × Int × Int)) : Option (Bool) := den E k 78 [.c (.l 181 sI3 a0), .c (.l 181 sI3 a1)]
abbrev CleqSiteS_0 : Type := (List (Int × Int × Int)) × (List (Int × Int × Int))
abbrev VleqSiteS_0 : Type := Int
def StleqSiteS_0 (c0 : CleqSiteS_0) (v0 : VleqSiteS_0) : St := ⟨27, 0, [(0, .c (.l 181 sI3 c0.1)), (1, .c (.l 181 sI3 c0.2)), (5, .c (.v (.int .i64 v0)))], []⟩
noncomputable def BleqSiteS_0 {R : Type} (k : Nat) (X0 : VleqSiteS_0 → (Int × Int × Int) → (Int × Int × Int) → Bool → Option R) (X1 : VleqSiteS_0 → Option R) (c0 : CleqSiteS_0) (rec : VleqSiteS_0 → Option R) (v0 : VleqSiteS_0) : Option R := if (decide (v0 < (c0.1.length : Int))) = true then if 0 ≤ v0 then ix c0.1 v0.toNat fun x1 => if 0 ≤ v0 then ix c0.2 v0.toNat fun x2 => (FleqSite k x1 x2).bind fun p3 => if (!p3) = true then X0 v0 x1 x2 p3 else rec (IntKind.i64.wrap (v0 + 1)) else none else none else X1 v0
noncomputable def LleqSiteS_0 {R : Type} (k : Nat) (X0 : VleqSiteS_0 → (Int × Int × Int) → (Int × Int × Int) → Bool → Option R) (X1 : VleqSiteS_0 → Option R) (c : CleqSiteS_0) : Nat → VleqSiteS_0 → Option R
  | 0, _ => none
  | n + 1, v => BleqSiteS_0 k X0 X1 c (LleqSiteS_0 k X0 X1 c n) v
theorem bleqSiteS_0 {R : Type} (k n : Nat) (K : Ex → St → Option R) (c0 : CleqSiteS_0) (v : VleqSiteS_0) : loopRun [0, 0, 1, 5] (run E (den E k) (lv 78) k (nthLoop Tryz.f78 0)) (n + 1) (StleqSiteS_0 c0 v) K = BleqSiteS_0 k (fun (v0 : VleqSiteS_0) (x1 : Int × Int × Int) (x2 : Int × Int × Int) (p3 : Bool) => K .ret ⟨27, 0, [(0, .c (.l 181 sI3 c0.1)), (1, .c (.l 181 sI3 c0.2)), (4, .c (.v (.bool false))), (5, .c (.v (.int .i64 v0))), (11, .c (.v (.int .i64 v0))), (12, .c (.l 181 sI3 c0.1)), (13, .c (.v (.int .i64 (c0.1.length : Int)))), (14, .c (.v (.bool (decide (v0 < (c0.1.length : Int)))))), (17, .c (.l 181 sI3 c0.1)), (18, .c (.v (.int .i64 v0))), (19, .c (.at_ [.v (.int .i64 x1.1), .v (.int .i64 x1.2.1), .v (.int .i64 x1.2.2)])), (20, .agg [.v (.int .i64 x1.1), .v (.int .i64 x1.2.1), .v (.int .i64 x1.2.2)]), (21, .c (.l 181 sI3 c0.2)), (22, .c (.v (.int .i64 v0))), (23, .c (.at_ [.v (.int .i64 x2.1), .v (.int .i64 x2.2.1), .v (.int .i64 x2.2.2)])), (24, .agg [.v (.int .i64 x2.1), .v (.int .i64 x2.2.1), .v (.int .i64 x2.2.2)]), (25, .c (.v (.bool p3))), (26, .c (.v (.bool (!p3))))], []⟩) (fun (v0 : VleqSiteS_0) => K (.exit 0) ⟨27, 0, [(0, .c (.l 181 sI3 c0.1)), (1, .c (.l 181 sI3 c0.2)), (5, .c (.v (.int .i64 v0))), (11, .c (.v (.int .i64 v0))), (12, .c (.l 181 sI3 c0.1)), (13, .c (.v (.int .i64 (c0.1.length : Int)))), (14, .c (.v (.bool (decide (v0 < (c0.1.length : Int))))))], []⟩) c0 (fun v => loopRun [0, 0, 1, 5] (run E (den E k) (lv 78) k (nthLoop Tryz.f78 0)) n (StleqSiteS_0 c0 v) K) v := by kernel_rfl
theorem lleqSiteS_0 {R : Type} (k : Nat) (K : Ex → St → Option R) (c0 : CleqSiteS_0) : ∀ (n : Nat) (v : VleqSiteS_0), loopRun [0, 0, 1, 5] (run E (den E k) (lv 78) k (nthLoop Tryz.f78 0)) n (StleqSiteS_0 c0 v) K = LleqSiteS_0 k (fun (v0 : VleqSiteS_0) (x1 : Int × Int × Int) (x2 : Int × Int × Int) (p3 : Bool) => K .ret ⟨27, 0, [(0, .c (.l 181 sI3 c0.1)), (1, .c (.l 181 sI3 c0.2)), (4, .c (.v (.bool false))), (5, .c (.v (.int .i64 v0))), (11, .c (.v (.int .i64 v0))), (12, .c (.l 181 sI3 c0.1)), (13, .c (.v (.int .i64 (c0.1.length : Int)))), (14, .c (.v (.bool (decide (v0 < (c0.1.length : Int)))))), (17, .c (.l 181 sI3 c0.1)), (18, .c (.v (.int .i64 v0))), (19, .c (.at_ [.v (.int .i64 x1.1), .v (.int .i64 x1.2.1), .v (.int .i64 x1.2.2)])), (20, .agg [.v (.int .i64 x1.1), .v (.int .i64 x1.2.1), .v (.int .i64 x1.2.2)]), (21, .c (.l 181 sI3 c0.2)), (22, .c (.v (.int .i64 v0))), (23, .c (.at_ [.v (.int .i64 x2.1), .v (.int .i64 x2.2.1), .v (.int .i64 x2.2.2)])), (24, .agg [.v (.int .i64 x2.1), .v (.int .i64 x2.2.1), .v (.int .i64 x2.2.2)]), (25, .c (.v (.bool p3))), (26, .c (.v (.bool (!p3))))], []⟩) (fun (v0 : VleqSiteS_0) => K (.exit 0) ⟨27, 0, [(0, .c (.l 181 sI3 c0.1)), (1, .c (.l 181 sI3 c0.2)), (5, .c (.v (.int .i64 v0))), (11, .c (.v (.int .i64 v0))), (12, .c (.l 181 sI3 c0.1)), (13, .c (.v (.int .i64 (c0.1.length : Int)))), (14, .c (.v (.bool (decide (v0 < (c0.1.length : Int))))))], []⟩) c0 n v := by
  intro n
  induction n with
  | zero => intro v; rfl
  | succ n ih =>
    intro v
    refine (bleqSiteS_0 k n K c0 v).trans ?_
    rw [funext ih]
    kernel_rfl
theorem mleqSiteS_0 (k : Nat) (a0 : List (Int × Int × Int)) (a1 : List (Int × Int × Int)) : FleqSiteS (k + 1) a0 a1 = if ((a0.length : Int) != (a1.length : Int)) = true then some false else loopRun (R := Bool) [0, 0, 1, 5] (run E (den E k) (lv 78) k (nthLoop Tryz.f78 0)) k (StleqSiteS_0 (a0, a1) 0) (kontAt E (den E k) (lv 78) k (bodyOf Tryz.f78) 0 [] (finish E (rs 78) Tryz.f78 : Ex → St → Option (Bool))) := by kernel_rfl
theorem eleqSiteS (k : Nat) (a0 : List (Int × Int × Int)) (a1 : List (Int × Int × Int)) : FleqSiteS (k + 1) a0 a1 = if ((a0.length : Int) != (a1.length : Int)) = true then some false else LleqSiteS_0 k (fun (v0 : Int) (x1 : Int × Int × Int) (x2 : Int × Int × Int) (p3 : Bool) => some false) (fun (v0 : Int) => some true) (a0, a1) k 0 := by
  rw [mleqSiteS_0]
  simp only [lleqSiteS_0]
  kernel_rfl
/-! loop.example/g00599/laws.eqArc -/
noncomputable def FleqArc (k : Nat) (a0 : Int × Int) (a1 : Int × Int) : Option (Bool) := den E k 110 [.agg [.v (.int .i64 a0.1), .v (.int .i64 a0.2)], .agg [.v (.int .i64 a1.1), .v (.int .i64 a1.2)]]
theorem eleqArc (k : Nat) (a0 : Int × Int) (a1 : Int × Int) : FleqArc (k + 1) a0 a1 = if (a0.1 != a1.1) = true then some false else if (a0.2 != a1.2) = true then some false else some true := by kernel_rfl
/-! loop.example/g00599/laws.eqZone -/
noncomputable def FleqZone (k : Nat) (a0 : Int × Int × Int) (a1 : Int × Int × Int) : Option (Bool) := den E k 99 [.agg [.v (.int .i64 a0.1), .v (.int .i64 a0.2.1), .v (.int .i64 a0.2.2)], .agg [.v (.int .i64 a1.1), .v (.int .i64 a1.2.1), .v (.int .i64 a1.2.2)]]
theorem eleqZone (k : Nat) (a0 : Int × Int × Int) (a1 : Int × Int × Int) : FleqZone (k + 1) a0 a1 = if (a0.1 != a1.1) = true then some false else (FleqArc k a0.2 a1.2).bind fun p1 => if (!p1) = true then some false else some true := by kernel_rfl
/-! loop.example/g00599/laws.eqZoneS -/
noncomputable def FleqZoneS (k : Nat) (a0 : List (Int × Int × Int)) (a1 : List (Int × Int × Int)) : Option (Bool) := den E k 79 [.c (.l 187 sZone a0), .c (.l 187 sZone a1)]
abbrev CleqZoneS_0 : Type := (List (Int × Int × Int)) × (List (Int × Int × Int))
abbrev VleqZoneS_0 : Type := Int
def StleqZoneS_0 (c0 : CleqZoneS_0) (v0 : VleqZoneS_0) : St := ⟨27, 0, [(0, .c (.l 187 sZone c0.1)), (1, .c (.l 187 sZone c0.2)), (5, .c (.v (.int .i64 v0)))], []⟩
noncomputable def BleqZoneS_0 {R : Type} (k : Nat) (X0 : VleqZoneS_0 → (Int × Int × Int) → (Int × Int × Int) → Bool → Option R) (X1 : VleqZoneS_0 → Option R) (c0 : CleqZoneS_0) (rec : VleqZoneS_0 → Option R) (v0 : VleqZoneS_0) : Option R := if (decide (v0 < (c0.1.length : Int))) = true then if 0 ≤ v0 then ix c0.1 v0.toNat fun x1 => if 0 ≤ v0 then ix c0.2 v0.toNat fun x2 => (FleqZone k x1 x2).bind fun p3 => if (!p3) = true then X0 v0 x1 x2 p3 else rec (IntKind.i64.wrap (v0 + 1)) else none else none else X1 v0
noncomputable def LleqZoneS_0 {R : Type} (k : Nat) (X0 : VleqZoneS_0 → (Int × Int × Int) → (Int × Int × Int) → Bool → Option R) (X1 : VleqZoneS_0 → Option R) (c : CleqZoneS_0) : Nat → VleqZoneS_0 → Option R
  | 0, _ => none
  | n + 1, v => BleqZoneS_0 k X0 X1 c (LleqZoneS_0 k X0 X1 c n) v
theorem bleqZoneS_0 {R : Type} (k n : Nat) (K : Ex → St → Option R) (c0 : CleqZoneS_0) (v : VleqZoneS_0) : loopRun [0, 0, 1, 5] (run E (den E k) (lv 79) k (nthLoop Tryz.f79 0)) (n + 1) (StleqZoneS_0 c0 v) K = BleqZoneS_0 k (fun (v0 : VleqZoneS_0) (x1 : Int × Int × Int) (x2 : Int × Int × Int) (p3 : Bool) => K .ret ⟨27, 0, [(0, .c (.l 187 sZone c0.1)), (1, .c (.l 187 sZone c0.2)), (4, .c (.v (.bool false))), (5, .c (.v (.int .i64 v0))), (11, .c (.v (.int .i64 v0))), (12, .c (.l 187 sZone c0.1)), (13, .c (.v (.int .i64 (c0.1.length : Int)))), (14, .c (.v (.bool (decide (v0 < (c0.1.length : Int)))))), (17, .c (.l 187 sZone c0.1)), (18, .c (.v (.int .i64 v0))), (19, .c (.at_ [.v (.int .i64 x1.1), .v (.int .i64 x1.2.1), .v (.int .i64 x1.2.2)])), (20, .agg [.v (.int .i64 x1.1), .v (.int .i64 x1.2.1), .v (.int .i64 x1.2.2)]), (21, .c (.l 187 sZone c0.2)), (22, .c (.v (.int .i64 v0))), (23, .c (.at_ [.v (.int .i64 x2.1), .v (.int .i64 x2.2.1), .v (.int .i64 x2.2.2)])), (24, .agg [.v (.int .i64 x2.1), .v (.int .i64 x2.2.1), .v (.int .i64 x2.2.2)]), (25, .c (.v (.bool p3))), (26, .c (.v (.bool (!p3))))], []⟩) (fun (v0 : VleqZoneS_0) => K (.exit 0) ⟨27, 0, [(0, .c (.l 187 sZone c0.1)), (1, .c (.l 187 sZone c0.2)), (5, .c (.v (.int .i64 v0))), (11, .c (.v (.int .i64 v0))), (12, .c (.l 187 sZone c0.1)), (13, .c (.v (.int .i64 (c0.1.length : Int)))), (14, .c (.v (.bool (decide (v0 < (c0.1.length : Int))))))], []⟩) c0 (fun v => loopRun [0, 0, 1, 5] (run E (den E k) (lv 79) k (nthLoop Tryz.f79 0)) n (StleqZoneS_0 c0 v) K) v := by kernel_rfl
theorem lleqZoneS_0 {R : Type} (k : Nat) (K : Ex → St → Option R) (c0 : CleqZoneS_0) : ∀ (n : Nat) (v : VleqZoneS_0), loopRun [0, 0, 1, 5] (run E (den E k) (lv 79) k (nthLoop Tryz.f79 0)) n (StleqZoneS_0 c0 v) K = LleqZoneS_0 k (fun (v0 : VleqZoneS_0) (x1 : Int × Int × Int) (x2 : Int × Int × Int) (p3 : Bool) => K .ret ⟨27, 0, [(0, .c (.l 187 sZone c0.1)), (1, .c (.l 187 sZone c0.2)), (4, .c (.v (.bool false))), (5, .c (.v (.int .i64 v0))), (11, .c (.v (.int .i64 v0))), (12, .c (.l 187 sZone c0.1)), (13, .c (.v (.int .i64 (c0.1.length : Int)))), (14, .c (.v (.bool (decide (v0 < (c0.1.length : Int)))))), (17, .c (.l 187 sZone c0.1)), (18, .c (.v (.int .i64 v0))), (19, .c (.at_ [.v (.int .i64 x1.1), .v (.int .i64 x1.2.1), .v (.int .i64 x1.2.2)])), (20, .agg [.v (.int .i64 x1.1), .v (.int .i64 x1.2.1), .v (.int .i64 x1.2.2)]), (21, .c (.l 187 sZone c0.2)), (22, .c (.v (.int .i64 v0))), (23, .c (.at_ [.v (.int .i64 x2.1), .v (.int .i64 x2.2.1), .v (.int .i64 x2.2.2)])), (24, .agg [.v (.int .i64 x2.1), .v (.int .i64 x2.2.1), .v (.int .i64 x2.2.2)]), (25, .c (.v (.bool p3))), (26, .c (.v (.bool (!p3))))], []⟩) (fun (v0 : VleqZoneS_0) => K (.exit 0) ⟨27, 0, [(0, .c (.l 187 sZone c0.1)), (1, .c (.l 187 sZone c0.2)), (5, .c (.v (.int .i64 v0))), (11, .c (.v (.int .i64 v0))), (12, .c (.l 187 sZone c0.1)), (13, .c (.v (.int .i64 (c0.1.length : Int)))), (14, .c (.v (.bool (decide (v0 < (c0.1.length : Int))))))], []⟩) c0 n v := by
  intro n
  induction n with
  | zero => intro v; rfl
  | succ n ih =>
    intro v
    refine (bleqZoneS_0 k n K c0 v).trans ?_
    rw [funext ih]
    kernel_rfl
theorem mleqZoneS_0 (k : Nat) (a0 : List (Int × Int × Int)) (a1 : List (Int × Int × Int)) : FleqZoneS (k + 1) a0 a1 = if ((a0.length : Int) != (a1.length : Int)) = true then some false else loopRun (R := Bool) [0, 0, 1, 5] (run E (den E k) (lv 79) k (nthLoop Tryz.f79 0)) k (StleqZoneS_0 (a0, a1) 0) (kontAt E (den E k) (lv 79) k (bodyOf Tryz.f79) 0 [] (finish E (rs 79) Tryz.f79 : Ex → St → Option (Bool))) := by kernel_rfl
theorem eleqZoneS (k : Nat) (a0 : List (Int × Int × Int)) (a1 : List (Int × Int × Int)) : FleqZoneS (k + 1) a0 a1 = if ((a0.length : Int) != (a1.length : Int)) = true then some false else LleqZoneS_0 k (fun (v0 : Int) (x1 : Int × Int × Int) (x2 : Int × Int × Int) (p3 : Bool) => some false) (fun (v0 : Int) => some true) (a0, a1) k 0 := by
  rw [mleqZoneS_0]
  simp only [lleqZoneS_0]
  kernel_rfl
/-! loop.example/g00599/laws.eqSky -/
noncomputable def FleqSky (k : Nat) (a0 : TSky) (a1 : TSky) : Option (Bool) := den E k 43 [.agg [.v (.int .i64 a0.1), .l 177 sI4 a0.2.1, .l 181 sI3 a0.2.2.1, .v (.int .i64 a0.2.2.2.1), .v (.int .i64 a0.2.2.2.2.1), .v (.int .i64 a0.2.2.2.2.2.1), .v (.int .i64 a0.2.2.2.2.2.2.1), .v (.int .i64 a0.2.2.2.2.2.2.2.1), .l 187 sZone a0.2.2.2.2.2.2.2.2.1, .v (.int .i64 a0.2.2.2.2.2.2.2.2.2)], .agg [.v (.int .i64 a1.1), .l 177 sI4 a1.2.1, .l 181 sI3 a1.2.2.1, .v (.int .i64 a1.2.2.2.1), .v (.int .i64 a1.2.2.2.2.1), .v (.int .i64 a1.2.2.2.2.2.1), .v (.int .i64 a1.2.2.2.2.2.2.1), .v (.int .i64 a1.2.2.2.2.2.2.2.1), .l 187 sZone a1.2.2.2.2.2.2.2.2.1, .v (.int .i64 a1.2.2.2.2.2.2.2.2.2)]]
theorem eleqSky (k : Nat) (a0 : TSky) (a1 : TSky) : FleqSky (k + 1) a0 a1 = if (a0.1 != a1.1) = true then some false else (FleqSatS k a0.2.1 a1.2.1).bind fun p1 => if (!p1) = true then some false else (FleqSiteS k a0.2.2.1 a1.2.2.1).bind fun p2 => if (!p2) = true then some false else if (a0.2.2.2.1 != a1.2.2.2.1) = true then some false else if (a0.2.2.2.2.1 != a1.2.2.2.2.1) = true then some false else if (a0.2.2.2.2.2.1 != a1.2.2.2.2.2.1) = true then some false else if (a0.2.2.2.2.2.2.1 != a1.2.2.2.2.2.2.1) = true then some false else if (a0.2.2.2.2.2.2.2.1 != a1.2.2.2.2.2.2.2.1) = true then some false else (FleqZoneS k a0.2.2.2.2.2.2.2.2.1 a1.2.2.2.2.2.2.2.2.1).bind fun p3 => if (!p3) = true then some false else if (a0.2.2.2.2.2.2.2.2.2 != a1.2.2.2.2.2.2.2.2.2) = true then some false else some true := by kernel_rfl
/-! loop.example/g00599/laws.eqStream -/
noncomputable def FleqStream (k : Nat) (a0 : Int × Int × List Int) (a1 : Int × Int × List Int) : Option (Bool) := den E k 84 [.agg [.v (.int .i64 a0.1), .v (.int .i64 a0.2.1), .l 3 (.i .i64) a0.2.2], .agg [.v (.int .i64 a1.1), .v (.int .i64 a1.2.1), .l 3 (.i .i64) a1.2.2]]
theorem eleqStream (k : Nat) (a0 : Int × Int × List Int) (a1 : Int × Int × List Int) : FleqStream (k + 1) a0 a1 = if (a0.1 != a1.1) = true then some false else if (a0.2.1 != a1.2.1) = true then some false else (FleqIntS k a0.2.2 a1.2.2).bind fun p1 => if (!p1) = true then some false else some true := by kernel_rfl
/-! loop.example/g00599/laws.eqStreamS -/
noncomputable def FleqStreamS (k : Nat) (a0 : List (Int × Int × List Int)) (a1 : List (Int × Int × List Int)) : Option (Bool) := den E k 50 [.c (.l 135 sStream a0), .c (.l 135 sStream a1)]
abbrev CleqStreamS_0 : Type := (List (Int × Int × List Int)) × (List (Int × Int × List Int))
abbrev VleqStreamS_0 : Type := Int
def StleqStreamS_0 (c0 : CleqStreamS_0) (v0 : VleqStreamS_0) : St := ⟨27, 0, [(0, .c (.l 135 sStream c0.1)), (1, .c (.l 135 sStream c0.2)), (5, .c (.v (.int .i64 v0)))], []⟩
noncomputable def BleqStreamS_0 {R : Type} (k : Nat) (X0 : VleqStreamS_0 → (Int × Int × List Int) → (Int × Int × List Int) → Bool → Option R) (X1 : VleqStreamS_0 → Option R) (c0 : CleqStreamS_0) (rec : VleqStreamS_0 → Option R) (v0 : VleqStreamS_0) : Option R := if (decide (v0 < (c0.1.length : Int))) = true then if 0 ≤ v0 then ix c0.1 v0.toNat fun x1 => if 0 ≤ v0 then ix c0.2 v0.toNat fun x2 => (FleqStream k x1 x2).bind fun p3 => if (!p3) = true then X0 v0 x1 x2 p3 else rec (IntKind.i64.wrap (v0 + 1)) else none else none else X1 v0
noncomputable def LleqStreamS_0 {R : Type} (k : Nat) (X0 : VleqStreamS_0 → (Int × Int × List Int) → (Int × Int × List Int) → Bool → Option R) (X1 : VleqStreamS_0 → Option R) (c : CleqStreamS_0) : Nat → VleqStreamS_0 → Option R
  | 0, _ => none
  | n + 1, v => BleqStreamS_0 k X0 X1 c (LleqStreamS_0 k X0 X1 c n) v
theorem bleqStreamS_0 {R : Type} (k n : Nat) (K : Ex → St → Option R) (c0 : CleqStreamS_0) (v : VleqStreamS_0) : loopRun [0, 0, 1, 5] (run E (den E k) (lv 50) k (nthLoop Tryz.f50 0)) (n + 1) (StleqStreamS_0 c0 v) K = BleqStreamS_0 k (fun (v0 : VleqStreamS_0) (x1 : Int × Int × List Int) (x2 : Int × Int × List Int) (p3 : Bool) => K .ret ⟨27, 0, [(0, .c (.l 135 sStream c0.1)), (1, .c (.l 135 sStream c0.2)), (4, .c (.v (.bool false))), (5, .c (.v (.int .i64 v0))), (11, .c (.v (.int .i64 v0))), (12, .c (.l 135 sStream c0.1)), (13, .c (.v (.int .i64 (c0.1.length : Int)))), (14, .c (.v (.bool (decide (v0 < (c0.1.length : Int)))))), (17, .c (.l 135 sStream c0.1)), (18, .c (.v (.int .i64 v0))), (19, .c (.at_ [.v (.int .i64 x1.1), .v (.int .i64 x1.2.1), .l 3 (.i .i64) x1.2.2])), (20, .agg [.v (.int .i64 x1.1), .v (.int .i64 x1.2.1), .l 3 (.i .i64) x1.2.2]), (21, .c (.l 135 sStream c0.2)), (22, .c (.v (.int .i64 v0))), (23, .c (.at_ [.v (.int .i64 x2.1), .v (.int .i64 x2.2.1), .l 3 (.i .i64) x2.2.2])), (24, .agg [.v (.int .i64 x2.1), .v (.int .i64 x2.2.1), .l 3 (.i .i64) x2.2.2]), (25, .c (.v (.bool p3))), (26, .c (.v (.bool (!p3))))], []⟩) (fun (v0 : VleqStreamS_0) => K (.exit 0) ⟨27, 0, [(0, .c (.l 135 sStream c0.1)), (1, .c (.l 135 sStream c0.2)), (5, .c (.v (.int .i64 v0))), (11, .c (.v (.int .i64 v0))), (12, .c (.l 135 sStream c0.1)), (13, .c (.v (.int .i64 (c0.1.length : Int)))), (14, .c (.v (.bool (decide (v0 < (c0.1.length : Int))))))], []⟩) c0 (fun v => loopRun [0, 0, 1, 5] (run E (den E k) (lv 50) k (nthLoop Tryz.f50 0)) n (StleqStreamS_0 c0 v) K) v := by kernel_rfl
theorem lleqStreamS_0 {R : Type} (k : Nat) (K : Ex → St → Option R) (c0 : CleqStreamS_0) : ∀ (n : Nat) (v : VleqStreamS_0), loopRun [0, 0, 1, 5] (run E (den E k) (lv 50) k (nthLoop Tryz.f50 0)) n (StleqStreamS_0 c0 v) K = LleqStreamS_0 k (fun (v0 : VleqStreamS_0) (x1 : Int × Int × List Int) (x2 : Int × Int × List Int) (p3 : Bool) => K .ret ⟨27, 0, [(0, .c (.l 135 sStream c0.1)), (1, .c (.l 135 sStream c0.2)), (4, .c (.v (.bool false))), (5, .c (.v (.int .i64 v0))), (11, .c (.v (.int .i64 v0))), (12, .c (.l 135 sStream c0.1)), (13, .c (.v (.int .i64 (c0.1.length : Int)))), (14, .c (.v (.bool (decide (v0 < (c0.1.length : Int)))))), (17, .c (.l 135 sStream c0.1)), (18, .c (.v (.int .i64 v0))), (19, .c (.at_ [.v (.int .i64 x1.1), .v (.int .i64 x1.2.1), .l 3 (.i .i64) x1.2.2])), (20, .agg [.v (.int .i64 x1.1), .v (.int .i64 x1.2.1), .l 3 (.i .i64) x1.2.2]), (21, .c (.l 135 sStream c0.2)), (22, .c (.v (.int .i64 v0))), (23, .c (.at_ [.v (.int .i64 x2.1), .v (.int .i64 x2.2.1), .l 3 (.i .i64) x2.2.2])), (24, .agg [.v (.int .i64 x2.1), .v (.int .i64 x2.2.1), .l 3 (.i .i64) x2.2.2]), (25, .c (.v (.bool p3))), (26, .c (.v (.bool (!p3))))], []⟩) (fun (v0 : VleqStreamS_0) => K (.exit 0) ⟨27, 0, [(0, .c (.l 135 sStream c0.1)), (1, .c (.l 135 sStream c0.2)), (5, .c (.v (.int .i64 v0))), (11, .c (.v (.int .i64 v0))), (12, .c (.l 135 sStream c0.1)), (13, .c (.v (.int .i64 (c0.1.length : Int)))), (14, .c (.v (.bool (decide (v0 < (c0.1.length : Int))))))], []⟩) c0 n v := by
  intro n
  induction n with
  | zero => intro v; rfl
  | succ n ih =>
    intro v
    refine (bleqStreamS_0 k n K c0 v).trans ?_
    rw [funext ih]
    kernel_rfl
theorem mleqStreamS_0 (k : Nat) (a0 : List (Int × Int × List Int)) (a1 : List (Int × Int × List Int)) : FleqStreamS (k + 1) a0 a1 = if ((a0.length : Int) != (a1.length : Int)) = true then some false else loopRun (R := Bool) [0, 0, 1, 5] (run E (den E k) (lv 50) k (nthLoop Tryz.f50 0)) k (StleqStreamS_0 (a0, a1) 0) (kontAt E (den E k) (lv 50) k (bodyOf Tryz.f50) 0 [] (finish E (rs 50) Tryz.f50 : Ex → St → Option (Bool))) := by kernel_rfl
theorem eleqStreamS (k : Nat) (a0 : List (Int × Int × List Int)) (a1 : List (Int × Int × List Int)) : FleqStreamS (k + 1) a0 a1 = if ((a0.length : Int) != (a1.length : Int)) = true then some false else LleqStreamS_0 k (fun (v0 : Int) (x1 : Int × Int × List Int) (x2 : Int × Int × List Int) (p3 : Bool) => some false) (fun (v0 : Int) => some true) (a0, a1) k 0 := by
  rw [mleqStreamS_0]
  simp only [lleqStreamS_0]
  kernel_rfl
/-! loop.example/g00599/laws.eqWorld -/
noncomputable def FleqWorld (k : Nat) (a0 : TWorld) (a1 : TWorld) : Option (Bool) := den E k 9 [.agg [.v (.int .i64 a0.1.1), .l 177 sI4 a0.1.2.1, .l 181 sI3 a0.1.2.2.1, .v (.int .i64 a0.1.2.2.2.1), .v (.int .i64 a0.1.2.2.2.2.1), .v (.int .i64 a0.1.2.2.2.2.2.1), .v (.int .i64 a0.1.2.2.2.2.2.2.1), .v (.int .i64 a0.1.2.2.2.2.2.2.2.1), .l 187 sZone a0.1.2.2.2.2.2.2.2.2.1, .v (.int .i64 a0.1.2.2.2.2.2.2.2.2.2), .v (.int .i64 a0.2.1.1), .v (.int .i64 a0.2.1.2.1), .v (.int .i64 a0.2.1.2.2.1), .l 196 sPiece a0.2.1.2.2.2, .l 3 (.i .i64) a0.2.2.1, .l 3 (.i .i64) a0.2.2.2.1, .l 85 sI6 a0.2.2.2.2.1, .l 83 sQueue a0.2.2.2.2.2.1, .l 132 sI4 a0.2.2.2.2.2.2.1, .l 3 (.i .i64) a0.2.2.2.2.2.2.2.1, .l 135 sStream a0.2.2.2.2.2.2.2.2.1, .l 138 sI4 a0.2.2.2.2.2.2.2.2.2.1, .v (.int .i64 a0.2.2.2.2.2.2.2.2.2.2.1), .v (.int .i64 a0.2.2.2.2.2.2.2.2.2.2.2.1), .l 142 sI6 a0.2.2.2.2.2.2.2.2.2.2.2.2.1, .l 146 sI4 a0.2.2.2.2.2.2.2.2.2.2.2.2.2], .agg [.v (.int .i64 a1.1.1), .l 177 sI4 a1.1.2.1, .l 181 sI3 a1.1.2.2.1, .v (.int .i64 a1.1.2.2.2.1), .v (.int .i64 a1.1.2.2.2.2.1), .v (.int .i64 a1.1.2.2.2.2.2.1), .v (.int .i64 a1.1.2.2.2.2.2.2.1), .v (.int .i64 a1.1.2.2.2.2.2.2.2.1), .l 187 sZone a1.1.2.2.2.2.2.2.2.2.1, .v (.int .i64 a1.1.2.2.2.2.2.2.2.2.2), .v (.int .i64 a1.2.1.1), .v (.int .i64 a1.2.1.2.1), .v (.int .i64 a1.2.1.2.2.1), .l 196 sPiece a1.2.1.2.2.2, .l 3 (.i .i64) a1.2.2.1, .l 3 (.i .i64) a1.2.2.2.1, .l 85 sI6 a1.2.2.2.2.1, .l 83 sQueue a1.2.2.2.2.2.1, .l 132 sI4 a1.2.2.2.2.2.2.1, .l 3 (.i .i64) a1.2.2.2.2.2.2.2.1, .l 135 sStream a1.2.2.2.2.2.2.2.2.1, .l 138 sI4 a1.2.2.2.2.2.2.2.2.2.1, .v (.int .i64 a1.2.2.2.2.2.2.2.2.2.2.1), .v (.int .i64 a1.2.2.2.2.2.2.2.2.2.2.2.1), .l 142 sI6 a1.2.2.2.2.2.2.2.2.2.2.2.2.1, .l 146 sI4 a1.2.2.2.2.2.2.2.2.2.2.2.2.2]]
theorem eleqWorld (k : Nat) (a0 : TWorld) (a1 : TWorld) : FleqWorld (k + 1) a0 a1 = (FleqSky k a0.1 a1.1).bind fun p1 => if (!p1) = true then some false else (FleqProgram k a0.2.1 a1.2.1).bind fun p2 => if (!p2) = true then some false else (FleqLaw k a0.2.2.1 a1.2.2.1).bind fun p3 => if (!p3) = true then some false else (FleqIntS k a0.2.2.2.1 a1.2.2.2.1).bind fun p4 => if (!p4) = true then some false else (FleqBatteryS k a0.2.2.2.2.1 a1.2.2.2.2.1).bind fun p5 => if (!p5) = true then some false else (FleqQueueS k a0.2.2.2.2.2.1 a1.2.2.2.2.2.1).bind fun p6 => if (!p6) = true then some false else (FleqFlowS k a0.2.2.2.2.2.2.1 a1.2.2.2.2.2.2.1).bind fun p7 => if (!p7) = true then some false else (FleqIntS k a0.2.2.2.2.2.2.2.1 a1.2.2.2.2.2.2.2.1).bind fun p8 => if (!p8) = true then some false else (FleqStreamS k a0.2.2.2.2.2.2.2.2.1 a1.2.2.2.2.2.2.2.2.1).bind fun p9 => if (!p9) = true then some false else (FleqFaultS k a0.2.2.2.2.2.2.2.2.2.1 a1.2.2.2.2.2.2.2.2.2.1).bind fun p10 => if (!p10) = true then some false else if (a0.2.2.2.2.2.2.2.2.2.2.1 != a1.2.2.2.2.2.2.2.2.2.2.1) = true then some false else if (a0.2.2.2.2.2.2.2.2.2.2.2.1 != a1.2.2.2.2.2.2.2.2.2.2.2.1) = true then some false else (FleqPacketS k a0.2.2.2.2.2.2.2.2.2.2.2.2.1 a1.2.2.2.2.2.2.2.2.2.2.2.2.1).bind fun p11 => if (!p11) = true then some false else (FleqSentS k a0.2.2.2.2.2.2.2.2.2.2.2.2.2 a1.2.2.2.2.2.2.2.2.2.2.2.2.2).bind fun p12 => if (!p12) = true then some false else some true := by kernel_rfl
/-! loop.example/g00599/laws.szBatteryS -/
noncomputable def FlszBatteryS (k : Nat) (a0 : List (Int × Int × Int × Int × Int × Int)) (a1 : Int) : Option (Int) := den E k 16 [.c (.l 129 sI6 a0), .c (.v (.int .i64 a1))]
theorem elszBatteryS (k : Nat) (a0 : List (Int × Int × Int × Int × Int × Int)) (a1 : Int) : FlszBatteryS (k + 1) a0 a1 = if (decide ((IntKind.i64.wrap (a1 - (a0.length : Int))) < 0)) = true then some (-1) else some (IntKind.i64.wrap (a1 - (a0.length : Int))) := by kernel_rfl
/-! loop.example/g00599/laws.szFaultS -/
noncomputable def FlszFaultS (k : Nat) (a0 : List (Int × Int × Int × Int)) (a1 : Int) : Option (Int) := den E k 20 [.c (.l 140 sI4 a0), .c (.v (.int .i64 a1))]
theorem elszFaultS (k : Nat) (a0 : List (Int × Int × Int × Int)) (a1 : Int) : FlszFaultS (k + 1) a0 a1 = if (decide ((IntKind.i64.wrap (a1 - (a0.length : Int))) < 0)) = true then some (-1) else some (IntKind.i64.wrap (a1 - (a0.length : Int))) := by kernel_rfl
/-! loop.example/g00599/laws.szFlowS -/
noncomputable def FlszFlowS (k : Nat) (a0 : List (Int × Int × Int × Int)) (a1 : Int) : Option (Int) := den E k 18 [.c (.l 134 sI4 a0), .c (.v (.int .i64 a1))]
theorem elszFlowS (k : Nat) (a0 : List (Int × Int × Int × Int)) (a1 : Int) : FlszFlowS (k + 1) a0 a1 = if (decide ((IntKind.i64.wrap (a1 - (a0.length : Int))) < 0)) = true then some (-1) else some (IntKind.i64.wrap (a1 - (a0.length : Int))) := by kernel_rfl
/-! loop.example/g00599/laws.szIntS -/
noncomputable def FlszIntS (k : Nat) (a0 : List Int) (a1 : Int) : Option (Int) := den E k 15 [.c (.l 3 (.i .i64) a0), .c (.v (.int .i64 a1))]
theorem elszIntS (k : Nat) (a0 : List Int) (a1 : Int) : FlszIntS (k + 1) a0 a1 = if (decide ((IntKind.i64.wrap (a1 - (a0.length : Int))) < 0)) = true then some (-1) else some (IntKind.i64.wrap (a1 - (a0.length : Int))) := by kernel_rfl
/-! loop.example/g00599/laws.szLaw -/
noncomputable def FlszLaw (k : Nat) (a0 : List Int) (a1 : Int) : Option (Int) := den E k 14 [.agg [.l 3 (.i .i64) a0], .c (.v (.int .i64 a1))]
theorem elszLaw (k : Nat) (a0 : List Int) (a1 : Int) : FlszLaw (k + 1) a0 a1 = (FlszIntS k a0 a1).bind fun p1 => if (decide (p1 < 0)) = true then some (-1) else some p1 := by kernel_rfl
/-! loop.example/g00599/laws.szPacketS -/
noncomputable def FlszPacketS (k : Nat) (a0 : List (Int × Int × Int × Int × Int × Int)) (a1 : Int) : Option (Int) := den E k 21 [.c (.l 144 sI6 a0), .c (.v (.int .i64 a1))]
theorem elszPacketS (k : Nat) (a0 : List (Int × Int × Int × Int × Int × Int)) (a1 : Int) : FlszPacketS (k + 1) a0 a1 = if (decide ((IntKind.i64.wrap (a1 - (a0.length : Int))) < 0)) = true then some (-1) else some (IntKind.i64.wrap (a1 - (a0.length : Int))) := by kernel_rfl
/-! loop.example/g00599/laws.szLinkS -/
noncomputable def FlszLinkS (k : Nat) (a0 : List (Int × Int)) (a1 : Int) : Option (Int) := den E k 103 [.c (.l 223 sI2 a0), .c (.v (.int .i64 a1))]
theorem elszLinkS (k : Nat) (a0 : List (Int × Int)) (a1 : Int) : FlszLinkS (k + 1) a0 a1 = if (decide ((IntKind.i64.wrap (a1 - (a0.length : Int))) < 0)) = true then some (-1) else some (IntKind.i64.wrap (a1 - (a0.length : Int))) := by kernel_rfl
/-! loop.example/g00599/laws.szTable -/
noncomputable def FlszTable (k : Nat) (a0 : Int × (List Int) × List Int) (a1 : Int) : Option (Int) := den E k 116 [.agg [.v (.int .i64 a0.1), .l 3 (.i .i64) a0.2.1, .l 3 (.i .i64) a0.2.2], .c (.v (.int .i64 a1))]
theorem elszTable (k : Nat) (a0 : Int × (List Int) × List Int) (a1 : Int) : FlszTable (k + 1) a0 a1 = (FlszIntS k a0.2.1 a1).bind fun p1 => if (decide (p1 < 0)) = true then some (-1) else (FlszIntS k a0.2.2 p1).bind fun p2 => if (decide (p2 < 0)) = true then some (-1) else some p2 := by kernel_rfl
/-! loop.example/g00599/laws.szTableS -/
noncomputable def FlszTableS (k : Nat) (a0 : List (Int × (List Int) × List Int)) (a1 : Int) : Option (Int) := den E k 104 [.c (.l 219 sTable a0), .c (.v (.int .i64 a1))]
abbrev ClszTableS_0 : Type := (List (Int × (List Int) × List Int))
abbrev VlszTableS_0 : Type := Int × Int
def StlszTableS_0 (c0 : ClszTableS_0) (v0 : VlszTableS_0) : St := ⟨27, 0, [(0, .c (.l 219 sTable c0)), (1, .c (.v (.int .i64 v0.1))), (5, .c (.v (.int .i64 v0.2)))], []⟩
noncomputable def BlszTableS_0 {R : Type} (k : Nat) (X0 : VlszTableS_0 → (Int × (List Int) × List Int) → Int → Option R) (X1 : VlszTableS_0 → Option R) (c0 : ClszTableS_0) (rec : VlszTableS_0 → Option R) (v0 : VlszTableS_0) : Option R := if (decide (v0.2 < (c0.length : Int))) = true then if 0 ≤ v0.2 then ix c0 v0.2.toNat fun x1 => (FlszTable k x1 v0.1).bind fun p2 => if (decide (p2 < 0)) = true then X0 v0 x1 p2 else rec (p2, (IntKind.i64.wrap (v0.2 + 1))) else none else X1 v0
noncomputable def LlszTableS_0 {R : Type} (k : Nat) (X0 : VlszTableS_0 → (Int × (List Int) × List Int) → Int → Option R) (X1 : VlszTableS_0 → Option R) (c : ClszTableS_0) : Nat → VlszTableS_0 → Option R
  | 0, _ => none
  | n + 1, v => BlszTableS_0 k X0 X1 c (LlszTableS_0 k X0 X1 c n) v
theorem blszTableS_0 {R : Type} (k n : Nat) (K : Ex → St → Option R) (c0 : ClszTableS_0) (v : VlszTableS_0) : loopRun [0, 0, 1, 5] (run E (den E k) (lv 104) k (nthLoop Tryz.f104 0)) (n + 1) (StlszTableS_0 c0 v) K = BlszTableS_0 k (fun (v0 : VlszTableS_0) (x1 : Int × (List Int) × List Int) (p2 : Int) => K .ret ⟨27, 0, [(0, .c (.l 219 sTable c0)), (1, .c (.v (.int .i64 p2))), (4, .c (.v (.int .i64 (-1)))), (5, .c (.v (.int .i64 v0.2))), (12, .c (.v (.int .i64 v0.2))), (13, .c (.l 219 sTable c0)), (14, .c (.v (.int .i64 (c0.length : Int)))), (15, .c (.v (.bool (decide (v0.2 < (c0.length : Int)))))), (18, .c (.l 219 sTable c0)), (19, .c (.v (.int .i64 v0.2))), (20, .c (.at_ [.v (.int .i64 x1.1), .l 3 (.i .i64) x1.2.1, .l 3 (.i .i64) x1.2.2])), (21, .agg [.v (.int .i64 x1.1), .l 3 (.i .i64) x1.2.1, .l 3 (.i .i64) x1.2.2]), (22, .c (.v (.int .i64 v0.1))), (23, .c (.v (.int .i64 p2))), (24, .c (.v (.int .i64 p2))), (25, .c (.v (.bool (decide (p2 < 0)))))], []⟩) (fun (v0 : VlszTableS_0) => K (.exit 0) ⟨27, 0, [(0, .c (.l 219 sTable c0)), (1, .c (.v (.int .i64 v0.1))), (5, .c (.v (.int .i64 v0.2))), (12, .c (.v (.int .i64 v0.2))), (13, .c (.l 219 sTable c0)), (14, .c (.v (.int .i64 (c0.length : Int)))), (15, .c (.v (.bool (decide (v0.2 < (c0.length : Int))))))], []⟩) c0 (fun v => loopRun [0, 0, 1, 5] (run E (den E k) (lv 104) k (nthLoop Tryz.f104 0)) n (StlszTableS_0 c0 v) K) v := by kernel_rfl
theorem llszTableS_0 {R : Type} (k : Nat) (K : Ex → St → Option R) (c0 : ClszTableS_0) : ∀ (n : Nat) (v : VlszTableS_0), loopRun [0, 0, 1, 5] (run E (den E k) (lv 104) k (nthLoop Tryz.f104 0)) n (StlszTableS_0 c0 v) K = LlszTableS_0 k (fun (v0 : VlszTableS_0) (x1 : Int × (List Int) × List Int) (p2 : Int) => K .ret ⟨27, 0, [(0, .c (.l 219 sTable c0)), (1, .c (.v (.int .i64 p2))), (4, .c (.v (.int .i64 (-1)))), (5, .c (.v (.int .i64 v0.2))), (12, .c (.v (.int .i64 v0.2))), (13, .c (.l 219 sTable c0)), (14, .c (.v (.int .i64 (c0.length : Int)))), (15, .c (.v (.bool (decide (v0.2 < (c0.length : Int)))))), (18, .c (.l 219 sTable c0)), (19, .c (.v (.int .i64 v0.2))), (20, .c (.at_ [.v (.int .i64 x1.1), .l 3 (.i .i64) x1.2.1, .l 3 (.i .i64) x1.2.2])), (21, .agg [.v (.int .i64 x1.1), .l 3 (.i .i64) x1.2.1, .l 3 (.i .i64) x1.2.2]), (22, .c (.v (.int .i64 v0.1))), (23, .c (.v (.int .i64 p2))), (24, .c (.v (.int .i64 p2))), (25, .c (.v (.bool (decide (p2 < 0)))))], []⟩) (fun (v0 : VlszTableS_0) => K (.exit 0) ⟨27, 0, [(0, .c (.l 219 sTable c0)), (1, .c (.v (.int .i64 v0.1))), (5, .c (.v (.int .i64 v0.2))), (12, .c (.v (.int .i64 v0.2))), (13, .c (.l 219 sTable c0)), (14, .c (.v (.int .i64 (c0.length : Int)))), (15, .c (.v (.bool (decide (v0.2 < (c0.length : Int))))))], []⟩) c0 n v := by
  intro n
  induction n with
  | zero => intro v; rfl
  | succ n ih =>
    intro v
    refine (blszTableS_0 k n K c0 v).trans ?_
    rw [funext ih]
    kernel_rfl
theorem mlszTableS_0 (k : Nat) (a0 : List (Int × (List Int) × List Int)) (a1 : Int) : FlszTableS (k + 1) a0 a1 = if (decide ((IntKind.i64.wrap (a1 - (a0.length : Int))) < 0)) = true then some (-1) else loopRun (R := Int) [0, 0, 1, 5] (run E (den E k) (lv 104) k (nthLoop Tryz.f104 0)) k (StlszTableS_0 a0 ((IntKind.i64.wrap (a1 - (a0.length : Int))), 0)) (kontAt E (den E k) (lv 104) k (bodyOf Tryz.f104) 0 [] (finish E (rs 104) Tryz.f104 : Ex → St → Option (Int))) := by kernel_rfl
theorem elszTableS (k : Nat) (a0 : List (Int × (List Int) × List Int)) (a1 : Int) : FlszTableS (k + 1) a0 a1 = if (decide ((IntKind.i64.wrap (a1 - (a0.length : Int))) < 0)) = true then some (-1) else LlszTableS_0 k (fun (v0 : Int × Int) (x1 : Int × (List Int) × List Int) (p2 : Int) => some (-1)) (fun (v0 : Int × Int) => some v0.1) a0 k ((IntKind.i64.wrap (a1 - (a0.length : Int))), 0) := by
  rw [mlszTableS_0]
  simp only [llszTableS_0]
  kernel_rfl
/-! loop.example/g00599/laws.szPiece -/
noncomputable def FlszPiece (k : Nat) (a0 : TPiece) (a1 : Int) : Option (Int) := den E k 91 [.agg [.v (.int .i64 a0.1.1), .v (.int .i64 a0.1.2), .l 223 sI2 a0.2.1, .l 219 sTable a0.2.2], .c (.v (.int .i64 a1))]
theorem elszPiece (k : Nat) (a0 : TPiece) (a1 : Int) : FlszPiece (k + 1) a0 a1 = (FlszLinkS k a0.2.1 a1).bind fun p1 => if (decide (p1 < 0)) = true then some (-1) else (FlszTableS k a0.2.2 p1).bind fun p2 => if (decide (p2 < 0)) = true then some (-1) else some p2 := by kernel_rfl
/-! loop.example/g00599/laws.szPieceS -/
noncomputable def FlszPieceS (k : Nat) (a0 : List TPiece) (a1 : Int) : Option (Int) := den E k 61 [.c (.l 175 sLPiece a0), .c (.v (.int .i64 a1))]
abbrev ClszPieceS_0 : Type := (List TPiece)
abbrev VlszPieceS_0 : Type := Int × Int
def StlszPieceS_0 (c0 : ClszPieceS_0) (v0 : VlszPieceS_0) : St := ⟨27, 0, [(0, .c (.l 175 sLPiece c0)), (1, .c (.v (.int .i64 v0.1))), (5, .c (.v (.int .i64 v0.2)))], []⟩
noncomputable def BlszPieceS_0 {R : Type} (k : Nat) (X0 : VlszPieceS_0 → TPiece → Int → Option R) (X1 : VlszPieceS_0 → Option R) (c0 : ClszPieceS_0) (rec : VlszPieceS_0 → Option R) (v0 : VlszPieceS_0) : Option R := if (decide (v0.2 < (c0.length : Int))) = true then if 0 ≤ v0.2 then ix c0 v0.2.toNat fun x1 => (FlszPiece k x1 v0.1).bind fun p2 => if (decide (p2 < 0)) = true then X0 v0 x1 p2 else rec (p2, (IntKind.i64.wrap (v0.2 + 1))) else none else X1 v0
noncomputable def LlszPieceS_0 {R : Type} (k : Nat) (X0 : VlszPieceS_0 → TPiece → Int → Option R) (X1 : VlszPieceS_0 → Option R) (c : ClszPieceS_0) : Nat → VlszPieceS_0 → Option R
  | 0, _ => none
  | n + 1, v => BlszPieceS_0 k X0 X1 c (LlszPieceS_0 k X0 X1 c n) v
theorem blszPieceS_0 {R : Type} (k n : Nat) (K : Ex → St → Option R) (c0 : ClszPieceS_0) (v : VlszPieceS_0) : loopRun [0, 0, 1, 5] (run E (den E k) (lv 61) k (nthLoop Tryz.f61 0)) (n + 1) (StlszPieceS_0 c0 v) K = BlszPieceS_0 k (fun (v0 : VlszPieceS_0) (x1 : TPiece) (p2 : Int) => K .ret ⟨27, 0, [(0, .c (.l 175 sLPiece c0)), (1, .c (.v (.int .i64 p2))), (4, .c (.v (.int .i64 (-1)))), (5, .c (.v (.int .i64 v0.2))), (12, .c (.v (.int .i64 v0.2))), (13, .c (.l 175 sLPiece c0)), (14, .c (.v (.int .i64 (c0.length : Int)))), (15, .c (.v (.bool (decide (v0.2 < (c0.length : Int)))))), (18, .c (.l 175 sLPiece c0)), (19, .c (.v (.int .i64 v0.2))), (20, .c (.at_ [.v (.int .i64 x1.1.1), .v (.int .i64 x1.1.2), .l 223 sI2 x1.2.1, .l 219 sTable x1.2.2])), (21, .agg [.v (.int .i64 x1.1.1), .v (.int .i64 x1.1.2), .l 223 sI2 x1.2.1, .l 219 sTable x1.2.2]), (22, .c (.v (.int .i64 v0.1))), (23, .c (.v (.int .i64 p2))), (24, .c (.v (.int .i64 p2))), (25, .c (.v (.bool (decide (p2 < 0)))))], []⟩) (fun (v0 : VlszPieceS_0) => K (.exit 0) ⟨27, 0, [(0, .c (.l 175 sLPiece c0)), (1, .c (.v (.int .i64 v0.1))), (5, .c (.v (.int .i64 v0.2))), (12, .c (.v (.int .i64 v0.2))), (13, .c (.l 175 sLPiece c0)), (14, .c (.v (.int .i64 (c0.length : Int)))), (15, .c (.v (.bool (decide (v0.2 < (c0.length : Int))))))], []⟩) c0 (fun v => loopRun [0, 0, 1, 5] (run E (den E k) (lv 61) k (nthLoop Tryz.f61 0)) n (StlszPieceS_0 c0 v) K) v := by kernel_rfl
theorem llszPieceS_0 {R : Type} (k : Nat) (K : Ex → St → Option R) (c0 : ClszPieceS_0) : ∀ (n : Nat) (v : VlszPieceS_0), loopRun [0, 0, 1, 5] (run E (den E k) (lv 61) k (nthLoop Tryz.f61 0)) n (StlszPieceS_0 c0 v) K = LlszPieceS_0 k (fun (v0 : VlszPieceS_0) (x1 : TPiece) (p2 : Int) => K .ret ⟨27, 0, [(0, .c (.l 175 sLPiece c0)), (1, .c (.v (.int .i64 p2))), (4, .c (.v (.int .i64 (-1)))), (5, .c (.v (.int .i64 v0.2))), (12, .c (.v (.int .i64 v0.2))), (13, .c (.l 175 sLPiece c0)), (14, .c (.v (.int .i64 (c0.length : Int)))), (15, .c (.v (.bool (decide (v0.2 < (c0.length : Int)))))), (18, .c (.l 175 sLPiece c0)), (19, .c (.v (.int .i64 v0.2))), (20, .c (.at_ [.v (.int .i64 x1.1.1), .v (.int .i64 x1.1.2), .l 223 sI2 x1.2.1, .l 219 sTable x1.2.2])), (21, .agg [.v (.int .i64 x1.1.1), .v (.int .i64 x1.1.2), .l 223 sI2 x1.2.1, .l 219 sTable x1.2.2]), (22, .c (.v (.int .i64 v0.1))), (23, .c (.v (.int .i64 p2))), (24, .c (.v (.int .i64 p2))), (25, .c (.v (.bool (decide (p2 < 0)))))], []⟩) (fun (v0 : VlszPieceS_0) => K (.exit 0) ⟨27, 0, [(0, .c (.l 175 sLPiece c0)), (1, .c (.v (.int .i64 v0.1))), (5, .c (.v (.int .i64 v0.2))), (12, .c (.v (.int .i64 v0.2))), (13, .c (.l 175 sLPiece c0)), (14, .c (.v (.int .i64 (c0.length : Int)))), (15, .c (.v (.bool (decide (v0.2 < (c0.length : Int))))))], []⟩) c0 n v := by
  intro n
  induction n with
  | zero => intro v; rfl
  | succ n ih =>
    intro v
    refine (blszPieceS_0 k n K c0 v).trans ?_
    rw [funext ih]
    kernel_rfl
theorem mlszPieceS_0 (k : Nat) (a0 : List TPiece) (a1 : Int) : FlszPieceS (k + 1) a0 a1 = if (decide ((IntKind.i64.wrap (a1 - (a0.length : Int))) < 0)) = true then some (-1) else loopRun (R := Int) [0, 0, 1, 5] (run E (den E k) (lv 61) k (nthLoop Tryz.f61 0)) k (StlszPieceS_0 a0 ((IntKind.i64.wrap (a1 - (a0.length : Int))), 0)) (kontAt E (den E k) (lv 61) k (bodyOf Tryz.f61) 0 [] (finish E (rs 61) Tryz.f61 : Ex → St → Option (Int))) := by kernel_rfl
theorem elszPieceS (k : Nat) (a0 : List TPiece) (a1 : Int) : FlszPieceS (k + 1) a0 a1 = if (decide ((IntKind.i64.wrap (a1 - (a0.length : Int))) < 0)) = true then some (-1) else LlszPieceS_0 k (fun (v0 : Int × Int) (x1 : TPiece) (p2 : Int) => some (-1)) (fun (v0 : Int × Int) => some v0.1) a0 k ((IntKind.i64.wrap (a1 - (a0.length : Int))), 0) := by
  rw [mlszPieceS_0]
  simp only [llszPieceS_0]
  kernel_rfl
/-! loop.example/g00599/laws.szProgram -/
noncomputable def FlszProgram (k : Nat) (a0 : TProgram) (a1 : Int) : Option (Int) := den E k 13 [.agg [.v (.int .i64 a0.1), .v (.int .i64 a0.2.1), .v (.int .i64 a0.2.2.1), .l 175 sLPiece a0.2.2.2], .c (.v (.int .i64 a1))]
theorem elszProgram (k : Nat) (a0 : TProgram) (a1 : Int) : FlszProgram (k + 1) a0 a1 = (FlszPieceS k a0.2.2.2 a1).bind fun p1 => if (decide (p1 < 0)) = true then some (-1) else some p1 := by kernel_rfl
/-! loop.example/g00599/laws.szQueue -/
noncomputable def FlszQueue (k : Nat) (a0 : List (Int × Int × Int × Int × Int × Int)) (a1 : Int) : Option (Int) := den E k 62 [.agg [.l 144 sI6 a0], .c (.v (.int .i64 a1))]
theorem elszQueue (k : Nat) (a0 : List (Int × Int × Int × Int × Int × Int)) (a1 : Int) : FlszQueue (k + 1) a0 a1 = (FlszPacketS k a0 a1).bind fun p1 => if (decide (p1 < 0)) = true then some (-1) else some p1 := by kernel_rfl
/-! loop.example/g00599/laws.szQueueS -/
noncomputable def FlszQueueS (k : Nat) (a0 : List (List (Int × Int × Int × Int × Int × Int))) (a1 : Int) : Option (Int) := den E k 17 [.c (.l 119 sLQueue a0), .c (.v (.int .i64 a1))]
abbrev ClszQueueS_0 : Type := (List (List (Int × Int × Int × Int × Int × Int)))
abbrev VlszQueueS_0 : Type := Int × Int
def StlszQueueS_0 (c0 : ClszQueueS_0) (v0 : VlszQueueS_0) : St := ⟨27, 0, [(0, .c (.l 119 sLQueue c0)), (1, .c (.v (.int .i64 v0.1))), (5, .c (.v (.int .i64 v0.2)))], []⟩
noncomputable def BlszQueueS_0 {R : Type} (k : Nat) (X0 : VlszQueueS_0 → (List (Int × Int × Int × Int × Int × Int)) → Int → Option R) (X1 : VlszQueueS_0 → Option R) (c0 : ClszQueueS_0) (rec : VlszQueueS_0 → Option R) (v0 : VlszQueueS_0) : Option R := if (decide (v0.2 < (c0.length : Int))) = true then if 0 ≤ v0.2 then ix c0 v0.2.toNat fun x1 => (FlszQueue k x1 v0.1).bind fun p2 => if (decide (p2 < 0)) = true then X0 v0 x1 p2 else rec (p2, (IntKind.i64.wrap (v0.2 + 1))) else none else X1 v0
noncomputable def LlszQueueS_0 {R : Type} (k : Nat) (X0 : VlszQueueS_0 → (List (Int × Int × Int × Int × Int × Int)) → Int → Option R) (X1 : VlszQueueS_0 → Option R) (c : ClszQueueS_0) : Nat → VlszQueueS_0 → Option R
  | 0, _ => none
  | n + 1, v => BlszQueueS_0 k X0 X1 c (LlszQueueS_0 k X0 X1 c n) v
theorem blszQueueS_0 {R : Type} (k n : Nat) (K : Ex → St → Option R) (c0 : ClszQueueS_0) (v : VlszQueueS_0) : loopRun [0, 0, 1, 5] (run E (den E k) (lv 17) k (nthLoop Tryz.f17 0)) (n + 1) (StlszQueueS_0 c0 v) K = BlszQueueS_0 k (fun (v0 : VlszQueueS_0) (x1 : List (Int × Int × Int × Int × Int × Int)) (p2 : Int) => K .ret ⟨27, 0, [(0, .c (.l 119 sLQueue c0)), (1, .c (.v (.int .i64 p2))), (4, .c (.v (.int .i64 (-1)))), (5, .c (.v (.int .i64 v0.2))), (12, .c (.v (.int .i64 v0.2))), (13, .c (.l 119 sLQueue c0)), (14, .c (.v (.int .i64 (c0.length : Int)))), (15, .c (.v (.bool (decide (v0.2 < (c0.length : Int)))))), (18, .c (.l 119 sLQueue c0)), (19, .c (.v (.int .i64 v0.2))), (20, .c (.at_ [.l 144 sI6 x1])), (21, .agg [.l 144 sI6 x1]), (22, .c (.v (.int .i64 v0.1))), (23, .c (.v (.int .i64 p2))), (24, .c (.v (.int .i64 p2))), (25, .c (.v (.bool (decide (p2 < 0)))))], []⟩) (fun (v0 : VlszQueueS_0) => K (.exit 0) ⟨27, 0, [(0, .c (.l 119 sLQueue c0)), (1, .c (.v (.int .i64 v0.1))), (5, .c (.v (.int .i64 v0.2))), (12, .c (.v (.int .i64 v0.2))), (13, .c (.l 119 sLQueue c0)), (14, .c (.v (.int .i64 (c0.length : Int)))), (15, .c (.v (.bool (decide (v0.2 < (c0.length : Int))))))], []⟩) c0 (fun v => loopRun [0, 0, 1, 5] (run E (den E k) (lv 17) k (nthLoop Tryz.f17 0)) n (StlszQueueS_0 c0 v) K) v := by kernel_rfl
theorem llszQueueS_0 {R : Type} (k : Nat) (K : Ex → St → Option R) (c0 : ClszQueueS_0) : ∀ (n : Nat) (v : VlszQueueS_0), loopRun [0, 0, 1, 5] (run E (den E k) (lv 17) k (nthLoop Tryz.f17 0)) n (StlszQueueS_0 c0 v) K = LlszQueueS_0 k (fun (v0 : VlszQueueS_0) (x1 : List (Int × Int × Int × Int × Int × Int)) (p2 : Int) => K .ret ⟨27, 0, [(0, .c (.l 119 sLQueue c0)), (1, .c (.v (.int .i64 p2))), (4, .c (.v (.int .i64 (-1)))), (5, .c (.v (.int .i64 v0.2))), (12, .c (.v (.int .i64 v0.2))), (13, .c (.l 119 sLQueue c0)), (14, .c (.v (.int .i64 (c0.length : Int)))), (15, .c (.v (.bool (decide (v0.2 < (c0.length : Int)))))), (18, .c (.l 119 sLQueue c0)), (19, .c (.v (.int .i64 v0.2))), (20, .c (.at_ [.l 144 sI6 x1])), (21, .agg [.l 144 sI6 x1]), (22, .c (.v (.int .i64 v0.1))), (23, .c (.v (.int .i64 p2))), (24, .c (.v (.int .i64 p2))), (25, .c (.v (.bool (decide (p2 < 0)))))], []⟩) (fun (v0 : VlszQueueS_0) => K (.exit 0) ⟨27, 0, [(0, .c (.l 119 sLQueue c0)), (1, .c (.v (.int .i64 v0.1))), (5, .c (.v (.int .i64 v0.2))), (12, .c (.v (.int .i64 v0.2))), (13, .c (.l 119 sLQueue c0)), (14, .c (.v (.int .i64 (c0.length : Int)))), (15, .c (.v (.bool (decide (v0.2 < (c0.length : Int))))))], []⟩) c0 n v := by
  intro n
  induction n with
  | zero => intro v; rfl
  | succ n ih =>
    intro v
    refine (blszQueueS_0 k n K c0 v).trans ?_
    rw [funext ih]
    kernel_rfl
theorem mlszQueueS_0 (k : Nat) (a0 : List (List (Int × Int × Int × Int × Int × Int))) (a1 : Int) : FlszQueueS (k + 1) a0 a1 = if (decide ((IntKind.i64.wrap (a1 - (a0.length : Int))) < 0)) = true then some (-1) else loopRun (R := Int) [0, 0, 1, 5] (run E (den E k) (lv 17) k (nthLoop Tryz.f17 0)) k (StlszQueueS_0 a0 ((IntKind.i64.wrap (a1 - (a0.length : Int))), 0)) (kontAt E (den E k) (lv 17) k (bodyOf Tryz.f17) 0 [] (finish E (rs 17) Tryz.f17 : Ex → St → Option (Int))) := by kernel_rfl
theorem elszQueueS (k : Nat) (a0 : List (List (Int × Int × Int × Int × Int × Int))) (a1 : Int) : FlszQueueS (k + 1) a0 a1 = if (decide ((IntKind.i64.wrap (a1 - (a0.length : Int))) < 0)) = true then some (-1) else LlszQueueS_0 k (fun (v0 : Int × Int) (x1 : List (Int × Int × Int × Int × Int × Int)) (p2 : Int) => some (-1)) (fun (v0 : Int × Int) => some v0.1) a0 k ((IntKind.i64.wrap (a1 - (a0.length : Int))), 0) := by
  rw [mlszQueueS_0]
  simp only [llszQueueS_0]
  kernel_rfl
/-! loop.example/g00599/laws.szSentS -/
noncomputable def FlszSentS (k : Nat) (a0 : List (Int × Int × Int × Int)) (a1 : Int) : Option (Int) := den E k 22 [.c (.l 148 sI4 a0), .c (.v (.int .i64 a1))]
theorem elszSentS (k : Nat) (a0 : List (Int × Int × Int × Int)) (a1 : Int) : FlszSentS (k + 1) a0 a1 = if (decide ((IntKind.i64.wrap (a1 - (a0.length : Int))) < 0)) = true then some (-1) else some (IntKind.i64.wrap (a1 - (a0.length : Int))) := by kernel_rfl
/-! loop.example/g00599/laws.szSatS -/
noncomputable def FlszSatS (k : Nat) (a0 : List (Int × Int × Int × Int)) (a1 : Int) : Option (Int) := den E k 58 [.c (.l 179 sI4 a0), .c (.v (.int .i64 a1))]
theorem elszSatS (k : Nat) (a0 : List (Int × Int × Int × Int)) (a1 : Int) : FlszSatS (k + 1) a0 a1 = if (decide ((IntKind.i64.wrap (a1 - (a0.length : Int))) < 0)) = true then some (-1) else some (IntKind.i64.wrap (a1 - (a0.length : Int))) := by kernel_rfl
/-! loop.example/g00599/laws.szSiteS -/
noncomputable def FlszSiteS (k : Nat) (a0 : List (Int × Int × Int)) (a1 : Int) : Option (Int) := den E k 59 [.c (.l 183 sI3 a0), .c (.v (.int .i64 a1))]
theorem elszSiteS (k : Nat) (a0 : List (Int × Int × Int)) (a1 : Int) : FlszSiteS (k + 1) a0 a1 = if (decide ((IntKind.i64.wrap (a1 - (a0.length : Int))) < 0)) = true then some (-1) else some (IntKind.i64.wrap (a1 - (a0.length : Int))) := by kernel_rfl
/-! loop.example/g00599/laws.szZoneS -/
noncomputable def FlszZoneS (k : Nat) (a0 : List (Int × Int × Int)) (a1 : Int) : Option (Int) := den E k 60 [.c (.l 191 sZone a0), .c (.v (.int .i64 a1))]
theorem elszZoneS (k : Nat) (a0 : List (Int × Int × Int)) (a1 : Int) : FlszZoneS (k + 1) a0 a1 = if (decide ((IntKind.i64.wrap (a1 - (a0.length : Int))) < 0)) = true then some (-1) else some (IntKind.i64.wrap (a1 - (a0.length : Int))) := by kernel_rfl
/-! loop.example/g00599/laws.szSky -/
noncomputable def FlszSky (k : Nat) (a0 : TSky) (a1 : Int) : Option (Int) := den E k 12 [.agg [.v (.int .i64 a0.1), .l 179 sI4 a0.2.1, .l 183 sI3 a0.2.2.1, .v (.int .i64 a0.2.2.2.1), .v (.int .i64 a0.2.2.2.2.1), .v (.int .i64 a0.2.2.2.2.2.1), .v (.int .i64 a0.2.2.2.2.2.2.1), .v (.int .i64 a0.2.2.2.2.2.2.2.1), .l 191 sZone a0.2.2.2.2.2.2.2.2.1, .v (.int .i64 a0.2.2.2.2.2.2.2.2.2)], .c (.v (.int .i64 a1))]
theorem elszSky (k : Nat) (a0 : TSky) (a1 : Int) : FlszSky (k + 1) a0 a1 = (FlszSatS k a0.2.1 a1).bind fun p1 => if (decide (p1 < 0)) = true then some (-1) else (FlszSiteS k a0.2.2.1 p1).bind fun p2 => if (decide (p2 < 0)) = true then some (-1) else (FlszZoneS k a0.2.2.2.2.2.2.2.2.1 p2).bind fun p3 => if (decide (p3 < 0)) = true then some (-1) else some p3 := by kernel_rfl
/-! loop.example/g00599/laws.szStream -/
noncomputable def FlszStream (k : Nat) (a0 : Int × Int × List Int) (a1 : Int) : Option (Int) := den E k 63 [.agg [.v (.int .i64 a0.1), .v (.int .i64 a0.2.1), .l 3 (.i .i64) a0.2.2], .c (.v (.int .i64 a1))]
theorem elszStream (k : Nat) (a0 : Int × Int × List Int) (a1 : Int) : FlszStream (k + 1) a0 a1 = (FlszIntS k a0.2.2 a1).bind fun p1 => if (decide (p1 < 0)) = true then some (-1) else some p1 := by kernel_rfl
/-! loop.example/g00599/laws.szStreamS -/
noncomputable def FlszStreamS (k : Nat) (a0 : List (Int × Int × List Int)) (a1 : Int) : Option (Int) := den E k 19 [.c (.l 122 sStream a0), .c (.v (.int .i64 a1))]
abbrev ClszStreamS_0 : Type := (List (Int × Int × List Int))
abbrev VlszStreamS_0 : Type := Int × Int
def StlszStreamS_0 (c0 : ClszStreamS_0) (v0 : VlszStreamS_0) : St := ⟨27, 0, [(0, .c (.l 122 sStream c0)), (1, .c (.v (.int .i64 v0.1))), (5, .c (.v (.int .i64 v0.2)))], []⟩
noncomputable def BlszStreamS_0 {R : Type} (k : Nat) (X0 : VlszStreamS_0 → (Int × Int × List Int) → Int → Option R) (X1 : VlszStreamS_0 → Option R) (c0 : ClszStreamS_0) (rec : VlszStreamS_0 → Option R) (v0 : VlszStreamS_0) : Option R := if (decide (v0.2 < (c0.length : Int))) = true then if 0 ≤ v0.2 then ix c0 v0.2.toNat fun x1 => (FlszStream k x1 v0.1).bind fun p2 => if (decide (p2 < 0)) = true then X0 v0 x1 p2 else rec (p2, (IntKind.i64.wrap (v0.2 + 1))) else none else X1 v0
noncomputable def LlszStreamS_0 {R : Type} (k : Nat) (X0 : VlszStreamS_0 → (Int × Int × List Int) → Int → Option R) (X1 : VlszStreamS_0 → Option R) (c : ClszStreamS_0) : Nat → VlszStreamS_0 → Option R
  | 0, _ => none
  | n + 1, v => BlszStreamS_0 k X0 X1 c (LlszStreamS_0 k X0 X1 c n) v
theorem blszStreamS_0 {R : Type} (k n : Nat) (K : Ex → St → Option R) (c0 : ClszStreamS_0) (v : VlszStreamS_0) : loopRun [0, 0, 1, 5] (run E (den E k) (lv 19) k (nthLoop Tryz.f19 0)) (n + 1) (StlszStreamS_0 c0 v) K = BlszStreamS_0 k (fun (v0 : VlszStreamS_0) (x1 : Int × Int × List Int) (p2 : Int) => K .ret ⟨27, 0, [(0, .c (.l 122 sStream c0)), (1, .c (.v (.int .i64 p2))), (4, .c (.v (.int .i64 (-1)))), (5, .c (.v (.int .i64 v0.2))), (12, .c (.v (.int .i64 v0.2))), (13, .c (.l 122 sStream c0)), (14, .c (.v (.int .i64 (c0.length : Int)))), (15, .c (.v (.bool (decide (v0.2 < (c0.length : Int)))))), (18, .c (.l 122 sStream c0)), (19, .c (.v (.int .i64 v0.2))), (20, .c (.at_ [.v (.int .i64 x1.1), .v (.int .i64 x1.2.1), .l 3 (.i .i64) x1.2.2])), (21, .agg [.v (.int .i64 x1.1), .v (.int .i64 x1.2.1), .l 3 (.i .i64) x1.2.2]), (22, .c (.v (.int .i64 v0.1))), (23, .c (.v (.int .i64 p2))), (24, .c (.v (.int .i64 p2))), (25, .c (.v (.bool (decide (p2 < 0)))))], []⟩) (fun (v0 : VlszStreamS_0) => K (.exit 0) ⟨27, 0, [(0, .c (.l 122 sStream c0)), (1, .c (.v (.int .i64 v0.1))), (5, .c (.v (.int .i64 v0.2))), (12, .c (.v (.int .i64 v0.2))), (13, .c (.l 122 sStream c0)), (14, .c (.v (.int .i64 (c0.length : Int)))), (15, .c (.v (.bool (decide (v0.2 < (c0.length : Int))))))], []⟩) c0 (fun v => loopRun [0, 0, 1, 5] (run E (den E k) (lv 19) k (nthLoop Tryz.f19 0)) n (StlszStreamS_0 c0 v) K) v := by kernel_rfl
theorem llszStreamS_0 {R : Type} (k : Nat) (K : Ex → St → Option R) (c0 : ClszStreamS_0) : ∀ (n : Nat) (v : VlszStreamS_0), loopRun [0, 0, 1, 5] (run E (den E k) (lv 19) k (nthLoop Tryz.f19 0)) n (StlszStreamS_0 c0 v) K = LlszStreamS_0 k (fun (v0 : VlszStreamS_0) (x1 : Int × Int × List Int) (p2 : Int) => K .ret ⟨27, 0, [(0, .c (.l 122 sStream c0)), (1, .c (.v (.int .i64 p2))), (4, .c (.v (.int .i64 (-1)))), (5, .c (.v (.int .i64 v0.2))), (12, .c (.v (.int .i64 v0.2))), (13, .c (.l 122 sStream c0)), (14, .c (.v (.int .i64 (c0.length : Int)))), (15, .c (.v (.bool (decide (v0.2 < (c0.length : Int)))))), (18, .c (.l 122 sStream c0)), (19, .c (.v (.int .i64 v0.2))), (20, .c (.at_ [.v (.int .i64 x1.1), .v (.int .i64 x1.2.1), .l 3 (.i .i64) x1.2.2])), (21, .agg [.v (.int .i64 x1.1), .v (.int .i64 x1.2.1), .l 3 (.i .i64) x1.2.2]), (22, .c (.v (.int .i64 v0.1))), (23, .c (.v (.int .i64 p2))), (24, .c (.v (.int .i64 p2))), (25, .c (.v (.bool (decide (p2 < 0)))))], []⟩) (fun (v0 : VlszStreamS_0) => K (.exit 0) ⟨27, 0, [(0, .c (.l 122 sStream c0)), (1, .c (.v (.int .i64 v0.1))), (5, .c (.v (.int .i64 v0.2))), (12, .c (.v (.int .i64 v0.2))), (13, .c (.l 122 sStream c0)), (14, .c (.v (.int .i64 (c0.length : Int)))), (15, .c (.v (.bool (decide (v0.2 < (c0.length : Int))))))], []⟩) c0 n v := by
  intro n
  induction n with
  | zero => intro v; rfl
  | succ n ih =>
    intro v
    refine (blszStreamS_0 k n K c0 v).trans ?_
    rw [funext ih]
    kernel_rfl
theorem mlszStreamS_0 (k : Nat) (a0 : List (Int × Int × List Int)) (a1 : Int) : FlszStreamS (k + 1) a0 a1 = if (decide ((IntKind.i64.wrap (a1 - (a0.length : Int))) < 0)) = true then some (-1) else loopRun (R := Int) [0, 0, 1, 5] (run E (den E k) (lv 19) k (nthLoop Tryz.f19 0)) k (StlszStreamS_0 a0 ((IntKind.i64.wrap (a1 - (a0.length : Int))), 0)) (kontAt E (den E k) (lv 19) k (bodyOf Tryz.f19) 0 [] (finish E (rs 19) Tryz.f19 : Ex → St → Option (Int))) := by kernel_rfl
theorem elszStreamS (k : Nat) (a0 : List (Int × Int × List Int)) (a1 : Int) : FlszStreamS (k + 1) a0 a1 = if (decide ((IntKind.i64.wrap (a1 - (a0.length : Int))) < 0)) = true then some (-1) else LlszStreamS_0 k (fun (v0 : Int × Int) (x1 : Int × Int × List Int) (p2 : Int) => some (-1)) (fun (v0 : Int × Int) => some v0.1) a0 k ((IntKind.i64.wrap (a1 - (a0.length : Int))), 0) := by
  rw [mlszStreamS_0]
  simp only [llszStreamS_0]
  kernel_rfl
/-! loop.example/g00599/laws.szWorld -/
noncomputable def FlszWorld (k : Nat) (a0 : TWorld) (a1 : Int) : Option (Int) := den E k 5 [.agg [.v (.int .i64 a0.1.1), .l 179 sI4 a0.1.2.1, .l 183 sI3 a0.1.2.2.1, .v (.int .i64 a0.1.2.2.2.1), .v (.int .i64 a0.1.2.2.2.2.1), .v (.int .i64 a0.1.2.2.2.2.2.1), .v (.int .i64 a0.1.2.2.2.2.2.2.1), .v (.int .i64 a0.1.2.2.2.2.2.2.2.1), .l 191 sZone a0.1.2.2.2.2.2.2.2.2.1, .v (.int .i64 a0.1.2.2.2.2.2.2.2.2.2), .v (.int .i64 a0.2.1.1), .v (.int .i64 a0.2.1.2.1), .v (.int .i64 a0.2.1.2.2.1), .l 175 sLPiece a0.2.1.2.2.2, .l 3 (.i .i64) a0.2.2.1, .l 3 (.i .i64) a0.2.2.2.1, .l 129 sI6 a0.2.2.2.2.1, .l 119 sLQueue a0.2.2.2.2.2.1, .l 134 sI4 a0.2.2.2.2.2.2.1, .l 3 (.i .i64) a0.2.2.2.2.2.2.2.1, .l 122 sStream a0.2.2.2.2.2.2.2.2.1, .l 140 sI4 a0.2.2.2.2.2.2.2.2.2.1, .v (.int .i64 a0.2.2.2.2.2.2.2.2.2.2.1), .v (.int .i64 a0.2.2.2.2.2.2.2.2.2.2.2.1), .l 144 sI6 a0.2.2.2.2.2.2.2.2.2.2.2.2.1, .l 148 sI4 a0.2.2.2.2.2.2.2.2.2.2.2.2.2], .c (.v (.int .i64 a1))]
theorem elszWorld (k : Nat) (a0 : TWorld) (a1 : Int) : FlszWorld (k + 1) a0 a1 = (FlszSky k a0.1 a1).bind fun p1 => if (decide (p1 < 0)) = true then some (-1) else (FlszProgram k a0.2.1 p1).bind fun p2 => if (decide (p2 < 0)) = true then some (-1) else (FlszLaw k a0.2.2.1 p2).bind fun p3 => if (decide (p3 < 0)) = true then some (-1) else (FlszIntS k a0.2.2.2.1 p3).bind fun p4 => if (decide (p4 < 0)) = true then some (-1) else (FlszBatteryS k a0.2.2.2.2.1 p4).bind fun p5 => if (decide (p5 < 0)) = true then some (-1) else (FlszQueueS k a0.2.2.2.2.2.1 p5).bind fun p6 => if (decide (p6 < 0)) = true then some (-1) else (FlszFlowS k a0.2.2.2.2.2.2.1 p6).bind fun p7 => if (decide (p7 < 0)) = true then some (-1) else (FlszIntS k a0.2.2.2.2.2.2.2.1 p7).bind fun p8 => if (decide (p8 < 0)) = true then some (-1) else (FlszStreamS k a0.2.2.2.2.2.2.2.2.1 p8).bind fun p9 => if (decide (p9 < 0)) = true then some (-1) else (FlszFaultS k a0.2.2.2.2.2.2.2.2.2.1 p9).bind fun p10 => if (decide (p10 < 0)) = true then some (-1) else (FlszPacketS k a0.2.2.2.2.2.2.2.2.2.2.2.2.1 p10).bind fun p11 => if (decide (p11 < 0)) = true then some (-1) else (FlszSentS k a0.2.2.2.2.2.2.2.2.2.2.2.2.2 p11).bind fun p12 => if (decide (p12 < 0)) = true then some (-1) else some p12 := by kernel_rfl
/-! loop.example/g00599/laws.toBattery -/
noncomputable def FltoBattery (k : Nat) (a0 : Int × Int × Int × Int × Int × Int) : Option (Int × Int × Int × Int × Int × Int) := den E k 68 [.agg [.v (.int .i64 a0.1), .v (.int .i64 a0.2.1), .v (.int .i64 a0.2.2.1), .v (.int .i64 a0.2.2.2.1), .v (.int .i64 a0.2.2.2.2.1), .v (.int .i64 a0.2.2.2.2.2)]]
theorem eltoBattery (k : Nat) (a0 : Int × Int × Int × Int × Int × Int) : FltoBattery (k + 1) a0 = some a0 := by kernel_rfl
/-! loop.example/g00599/laws.toBatteryS -/
noncomputable def FltoBatteryS (k : Nat) (a0 : List (Int × Int × Int × Int × Int × Int)) : Option (List (Int × Int × Int × Int × Int × Int)) := den E k 31 [.c (.l 129 sI6 a0)]
abbrev CltoBatteryS_0 : Type := (List (Int × Int × Int × Int × Int × Int))
abbrev VltoBatteryS_0 : Type := Int × (List (Int × Int × Int × Int × Int × Int))
def StltoBatteryS_0 (c0 : CltoBatteryS_0) (v0 : VltoBatteryS_0) : St := ⟨23, 1, [(0, .c (.l 129 sI6 c0)), (3, .c (.ref 0)), (4, .c (.v (.int .i64 v0.1)))], [(0, .arr 85 sI6 v0.2)]⟩
noncomputable def BltoBatteryS_0 {R : Type} (k : Nat) (X0 : VltoBatteryS_0 → Option R) (c0 : CltoBatteryS_0) (rec : VltoBatteryS_0 → Option R) (v0 : VltoBatteryS_0) : Option R := if (decide (v0.1 < (c0.length : Int))) = true then if 0 ≤ v0.1 then ix c0 v0.1.toNat fun x1 => (FltoBattery k x1).bind fun p2 => if 0 ≤ v0.1 then if v0.1 < (v0.2.length : Int) then ix v0.2 v0.1.toNat fun y3 => rec ((IntKind.i64.wrap (v0.1 + 1)), (v0.2.set v0.1.toNat p2)) else none else none else none else X0 v0
noncomputable def LltoBatteryS_0 {R : Type} (k : Nat) (X0 : VltoBatteryS_0 → Option R) (c : CltoBatteryS_0) : Nat → VltoBatteryS_0 → Option R
  | 0, _ => none
  | n + 1, v => BltoBatteryS_0 k X0 c (LltoBatteryS_0 k X0 c n) v
theorem bltoBatteryS_0 {R : Type} (k n : Nat) (K : Ex → St → Option R) (c0 : CltoBatteryS_0) (v : VltoBatteryS_0) : loopRun [0, 0, 3, 4] (run E (den E k) (lv 31) k (nthLoop Tryz.f31 0)) (n + 1) (StltoBatteryS_0 c0 v) K = BltoBatteryS_0 k (fun (v0 : VltoBatteryS_0) => K (.exit 0) ⟨23, 1, [(0, .c (.l 129 sI6 c0)), (3, .c (.ref 0)), (4, .c (.v (.int .i64 v0.1))), (8, .c (.v (.int .i64 v0.1))), (9, .c (.l 129 sI6 c0)), (10, .c (.v (.int .i64 (c0.length : Int)))), (11, .c (.v (.bool (decide (v0.1 < (c0.length : Int))))))], [(0, .arr 85 sI6 v0.2)]⟩) c0 (fun v => loopRun [0, 0, 3, 4] (run E (den E k) (lv 31) k (nthLoop Tryz.f31 0)) n (StltoBatteryS_0 c0 v) K) v := by kernel_rfl
theorem lltoBatteryS_0 {R : Type} (k : Nat) (K : Ex → St → Option R) (c0 : CltoBatteryS_0) : ∀ (n : Nat) (v : VltoBatteryS_0), loopRun [0, 0, 3, 4] (run E (den E k) (lv 31) k (nthLoop Tryz.f31 0)) n (StltoBatteryS_0 c0 v) K = LltoBatteryS_0 k (fun (v0 : VltoBatteryS_0) => K (.exit 0) ⟨23, 1, [(0, .c (.l 129 sI6 c0)), (3, .c (.ref 0)), (4, .c (.v (.int .i64 v0.1))), (8, .c (.v (.int .i64 v0.1))), (9, .c (.l 129 sI6 c0)), (10, .c (.v (.int .i64 (c0.length : Int)))), (11, .c (.v (.bool (decide (v0.1 < (c0.length : Int))))))], [(0, .arr 85 sI6 v0.2)]⟩) c0 n v := by
  intro n
  induction n with
  | zero => intro v; rfl
  | succ n ih =>
    intro v
    refine (bltoBatteryS_0 k n K c0 v).trans ?_
    rw [funext ih]
    kernel_rfl
theorem mltoBatteryS_0 (k : Nat) (a0 : List (Int × Int × Int × Int × Int × Int)) : FltoBatteryS (k + 1) a0 = if (a0.length : Int) = (a0.length : Int) then if 0 ≤ (a0.length : Int) then if 48 * (a0.length : Int).toNat ≤ 281474976710656 then loopRun (R := List (Int × Int × Int × Int × Int × Int)) [0, 0, 3, 4] (run E (den E k) (lv 31) k (nthLoop Tryz.f31 0)) k (StltoBatteryS_0 a0 (0, (List.replicate (a0.length : Int).toNat ((0, 0, 0, 0, 0, 0) : Int × Int × Int × Int × Int × Int)))) (kontAt E (den E k) (lv 31) k (bodyOf Tryz.f31) 0 [] (finish E (rs 31) Tryz.f31 : Ex → St → Option (List (Int × Int × Int × Int × Int × Int)))) else none else none else none := by kernel_rfl
theorem eltoBatteryS (k : Nat) (a0 : List (Int × Int × Int × Int × Int × Int)) : FltoBatteryS (k + 1) a0 = if (a0.length : Int) = (a0.length : Int) then if 0 ≤ (a0.length : Int) then if 48 * (a0.length : Int).toNat ≤ 281474976710656 then LltoBatteryS_0 k (fun (v0 : Int × (List (Int × Int × Int × Int × Int × Int))) => some v0.2) a0 k (0, (List.replicate (a0.length : Int).toNat ((0, 0, 0, 0, 0, 0) : Int × Int × Int × Int × Int × Int))) else none else none else none := by
  rw [mltoBatteryS_0]
  simp only [lltoBatteryS_0]
  kernel_rfl
/-! loop.example/g00599/laws.toFault -/
noncomputable def FltoFault (k : Nat) (a0 : Int × Int × Int × Int) : Option (Int × Int × Int × Int) := den E k 72 [.agg [.v (.int .i64 a0.1), .v (.int .i64 a0.2.1), .v (.int .i64 a0.2.2.1), .v (.int .i64 a0.2.2.2)]]
theorem eltoFault (k : Nat) (a0 : Int × Int × Int × Int) : FltoFault (k + 1) a0 = some a0 := by kernel_rfl
/-! loop.example/g00599/laws.toFaultS -/
noncomputable def FltoFaultS (k : Nat) (a0 : List (Int × Int × Int × Int)) : Option (List (Int × Int × Int × Int)) := den E k 35 [.c (.l 140 sI4 a0)]
abbrev CltoFaultS_0 : Type := (List (Int × Int × Int × Int))
abbrev VltoFaultS_0 : Type := Int × (List (Int × Int × Int × Int))
def StltoFaultS_0 (c0 : CltoFaultS_0) (v0 : VltoFaultS_0) : St := ⟨23, 1, [(0, .c (.l 140 sI4 c0)), (3, .c (.ref 0)), (4, .c (.v (.int .i64 v0.1)))], [(0, .arr 138 sI4 v0.2)]⟩
noncomputable def BltoFaultS_0 {R : Type} (k : Nat) (X0 : VltoFaultS_0 → Option R) (c0 : CltoFaultS_0) (rec : VltoFaultS_0 → Option R) (v0 : VltoFaultS_0) : Option R := if (decide (v0.1 < (c0.length : Int))) = true then if 0 ≤ v0.1 then ix c0 v0.1.toNat fun x1 => (FltoFault k x1).bind fun p2 => if 0 ≤ v0.1 then if v0.1 < (v0.2.length : Int) then ix v0.2 v0.1.toNat fun y3 => rec ((IntKind.i64.wrap (v0.1 + 1)), (v0.2.set v0.1.toNat p2)) else none else none else none else X0 v0
noncomputable def LltoFaultS_0 {R : Type} (k : Nat) (X0 : VltoFaultS_0 → Option R) (c : CltoFaultS_0) : Nat → VltoFaultS_0 → Option R
  | 0, _ => none
  | n + 1, v => BltoFaultS_0 k X0 c (LltoFaultS_0 k X0 c n) v
theorem bltoFaultS_0 {R : Type} (k n : Nat) (K : Ex → St → Option R) (c0 : CltoFaultS_0) (v : VltoFaultS_0) : loopRun [0, 0, 3, 4] (run E (den E k) (lv 35) k (nthLoop Tryz.f35 0)) (n + 1) (StltoFaultS_0 c0 v) K = BltoFaultS_0 k (fun (v0 : VltoFaultS_0) => K (.exit 0) ⟨23, 1, [(0, .c (.l 140 sI4 c0)), (3, .c (.ref 0)), (4, .c (.v (.int .i64 v0.1))), (8, .c (.v (.int .i64 v0.1))), (9, .c (.l 140 sI4 c0)), (10, .c (.v (.int .i64 (c0.length : Int)))), (11, .c (.v (.bool (decide (v0.1 < (c0.length : Int))))))], [(0, .arr 138 sI4 v0.2)]⟩) c0 (fun v => loopRun [0, 0, 3, 4] (run E (den E k) (lv 35) k (nthLoop Tryz.f35 0)) n (StltoFaultS_0 c0 v) K) v := by kernel_rfl
theorem lltoFaultS_0 {R : Type} (k : Nat) (K : Ex → St → Option R) (c0 : CltoFaultS_0) : ∀ (n : Nat) (v : VltoFaultS_0), loopRun [0, 0, 3, 4] (run E (den E k) (lv 35) k (nthLoop Tryz.f35 0)) n (StltoFaultS_0 c0 v) K = LltoFaultS_0 k (fun (v0 : VltoFaultS_0) => K (.exit 0) ⟨23, 1, [(0, .c (.l 140 sI4 c0)), (3, .c (.ref 0)), (4, .c (.v (.int .i64 v0.1))), (8, .c (.v (.int .i64 v0.1))), (9, .c (.l 140 sI4 c0)), (10, .c (.v (.int .i64 (c0.length : Int)))), (11, .c (.v (.bool (decide (v0.1 < (c0.length : Int))))))], [(0, .arr 138 sI4 v0.2)]⟩) c0 n v := by
  intro n
  induction n with
  | zero => intro v; rfl
  | succ n ih =>
    intro v
    refine (bltoFaultS_0 k n K c0 v).trans ?_
    rw [funext ih]
    kernel_rfl
theorem mltoFaultS_0 (k : Nat) (a0 : List (Int × Int × Int × Int)) : FltoFaultS (k + 1) a0 = if (a0.length : Int) = (a0.length : Int) then if 0 ≤ (a0.length : Int) then if 32 * (a0.length : Int).toNat ≤ 281474976710656 then loopRun (R := List (Int × Int × Int × Int)) [0, 0, 3, 4] (run E (den E k) (lv 35) k (nthLoop Tryz.f35 0)) k (StltoFaultS_0 a0 (0, (List.replicate (a0.length : Int).toNat ((0, 0, 0, 0) : Int × Int × Int × Int)))) (kontAt E (den E k) (lv 35) k (bodyOf Tryz.f35) 0 [] (finish E (rs 35) Tryz.f35 : Ex → St → Option (List (Int × Int × Int × Int)))) else none else none else none := by kernel_rfl
theorem eltoFaultS (k : Nat) (a0 : List (Int × Int × Int × Int)) : FltoFaultS (k + 1) a0 = if (a0.length : Int) = (a0.length : Int) then if 0 ≤ (a0.length : Int) then if 32 * (a0.length : Int).toNat ≤ 281474976710656 then LltoFaultS_0 k (fun (v0 : Int × (List (Int × Int × Int × Int))) => some v0.2) a0 k (0, (List.replicate (a0.length : Int).toNat ((0, 0, 0, 0) : Int × Int × Int × Int))) else none else none else none := by
  rw [mltoFaultS_0]
  simp only [lltoFaultS_0]
  kernel_rfl
/-! loop.example/g00599/laws.toFlow -/
noncomputable def FltoFlow (k : Nat) (a0 : Int × Int × Int × Int) : Option (Int × Int × Int × Int) := den E k 70 [.agg [.v (.int .i64 a0.1), .v (.int .i64 a0.2.1), .v (.int .i64 a0.2.2.1), .v (.int .i64 a0.2.2.2)]]
theorem eltoFlow (k : Nat) (a0 : Int × Int × Int × Int) : FltoFlow (k + 1) a0 = some a0 := by kernel_rfl
/-! loop.example/g00599/laws.toFlowS -/
noncomputable def FltoFlowS (k : Nat) (a0 : List (Int × Int × Int × Int)) : Option (List (Int × Int × Int × Int)) := den E k 33 [.c (.l 134 sI4 a0)]
abbrev CltoFlowS_0 : Type := (List (Int × Int × Int × Int))
abbrev VltoFlowS_0 : Type := Int × (List (Int × Int × Int × Int))
def StltoFlowS_0 (c0 : CltoFlowS_0) (v0 : VltoFlowS_0) : St := ⟨23, 1, [(0, .c (.l 134 sI4 c0)), (3, .c (.ref 0)), (4, .c (.v (.int .i64 v0.1)))], [(0, .arr 132 sI4 v0.2)]⟩
noncomputable def BltoFlowS_0 {R : Type} (k : Nat) (X0 : VltoFlowS_0 → Option R) (c0 : CltoFlowS_0) (rec : VltoFlowS_0 → Option R) (v0 : VltoFlowS_0) : Option R := if (decide (v0.1 < (c0.length : Int))) = true then if 0 ≤ v0.1 then ix c0 v0.1.toNat fun x1 => (FltoFlow k x1).bind fun p2 => if 0 ≤ v0.1 then if v0.1 < (v0.2.length : Int) then ix v0.2 v0.1.toNat fun y3 => rec ((IntKind.i64.wrap (v0.1 + 1)), (v0.2.set v0.1.toNat p2)) else none else none else none else X0 v0
noncomputable def LltoFlowS_0 {R : Type} (k : Nat) (X0 : VltoFlowS_0 → Option R) (c : CltoFlowS_0) : Nat → VltoFlowS_0 → Option R
  | 0, _ => none
  | n + 1, v => BltoFlowS_0 k X0 c (LltoFlowS_0 k X0 c n) v
theorem bltoFlowS_0 {R : Type} (k n : Nat) (K : Ex → St → Option R) (c0 : CltoFlowS_0) (v : VltoFlowS_0) : loopRun [0, 0, 3, 4] (run E (den E k) (lv 33) k (nthLoop Tryz.f33 0)) (n + 1) (StltoFlowS_0 c0 v) K = BltoFlowS_0 k (fun (v0 : VltoFlowS_0) => K (.exit 0) ⟨23, 1, [(0, .c (.l 134 sI4 c0)), (3, .c (.ref 0)), (4, .c (.v (.int .i64 v0.1))), (8, .c (.v (.int .i64 v0.1))), (9, .c (.l 134 sI4 c0)), (10, .c (.v (.int .i64 (c0.length : Int)))), (11, .c (.v (.bool (decide (v0.1 < (c0.length : Int))))))], [(0, .arr 132 sI4 v0.2)]⟩) c0 (fun v => loopRun [0, 0, 3, 4] (run E (den E k) (lv 33) k (nthLoop Tryz.f33 0)) n (StltoFlowS_0 c0 v) K) v := by kernel_rfl
theorem lltoFlowS_0 {R : Type} (k : Nat) (K : Ex → St → Option R) (c0 : CltoFlowS_0) : ∀ (n : Nat) (v : VltoFlowS_0), loopRun [0, 0, 3, 4] (run E (den E k) (lv 33) k (nthLoop Tryz.f33 0)) n (StltoFlowS_0 c0 v) K = LltoFlowS_0 k (fun (v0 : VltoFlowS_0) => K (.exit 0) ⟨23, 1, [(0, .c (.l 134 sI4 c0)), (3, .c (.ref 0)), (4, .c (.v (.int .i64 v0.1))), (8, .c (.v (.int .i64 v0.1))), (9, .c (.l 134 sI4 c0)), (10, .c (.v (.int .i64 (c0.length : Int)))), (11, .c (.v (.bool (decide (v0.1 < (c0.length : Int))))))], [(0, .arr 132 sI4 v0.2)]⟩) c0 n v := by
  intro n
  induction n with
  | zero => intro v; rfl
  | succ n ih =>
    intro v
    refine (bltoFlowS_0 k n K c0 v).trans ?_
    rw [funext ih]
    kernel_rfl
theorem mltoFlowS_0 (k : Nat) (a0 : List (Int × Int × Int × Int)) : FltoFlowS (k + 1) a0 = if (a0.length : Int) = (a0.length : Int) then if 0 ≤ (a0.length : Int) then if 32 * (a0.length : Int).toNat ≤ 281474976710656 then loopRun (R := List (Int × Int × Int × Int)) [0, 0, 3, 4] (run E (den E k) (lv 33) k (nthLoop Tryz.f33 0)) k (StltoFlowS_0 a0 (0, (List.replicate (a0.length : Int).toNat ((0, 0, 0, 0) : Int × Int × Int × Int)))) (kontAt E (den E k) (lv 33) k (bodyOf Tryz.f33) 0 [] (finish E (rs 33) Tryz.f33 : Ex → St → Option (List (Int × Int × Int × Int)))) else none else none else none := by kernel_rfl
theorem eltoFlowS (k : Nat) (a0 : List (Int × Int × Int × Int)) : FltoFlowS (k + 1) a0 = if (a0.length : Int) = (a0.length : Int) then if 0 ≤ (a0.length : Int) then if 32 * (a0.length : Int).toNat ≤ 281474976710656 then LltoFlowS_0 k (fun (v0 : Int × (List (Int × Int × Int × Int))) => some v0.2) a0 k (0, (List.replicate (a0.length : Int).toNat ((0, 0, 0, 0) : Int × Int × Int × Int))) else none else none else none := by
  rw [mltoFlowS_0]
  simp only [lltoFlowS_0]
  kernel_rfl
/-! loop.example/g00599/laws.toIntS -/
noncomputable def FltoIntS (k : Nat) (a0 : List Int) : Option (List Int) := den E k 30 [.c (.l 3 (.i .i64) a0)]
abbrev CltoIntS_0 : Type := (List Int)
abbrev VltoIntS_0 : Type := Int × (List Int)
def StltoIntS_0 (c0 : CltoIntS_0) (v0 : VltoIntS_0) : St := ⟨22, 1, [(0, .c (.l 3 (.i .i64) c0)), (3, .c (.ref 0)), (4, .c (.v (.int .i64 v0.1)))], [(0, .arr 3 (.i .i64) v0.2)]⟩
noncomputable def BltoIntS_0 {R : Type} (k : Nat) (X0 : VltoIntS_0 → Option R) (c0 : CltoIntS_0) (rec : VltoIntS_0 → Option R) (v0 : VltoIntS_0) : Option R := if (decide (v0.1 < (c0.length : Int))) = true then if 0 ≤ v0.1 then ix c0 v0.1.toNat fun x1 => if 0 ≤ v0.1 then if v0.1 < (v0.2.length : Int) then ix v0.2 v0.1.toNat fun y2 => rec ((IntKind.i64.wrap (v0.1 + 1)), (v0.2.set v0.1.toNat x1)) else none else none else none else X0 v0
noncomputable def LltoIntS_0 {R : Type} (k : Nat) (X0 : VltoIntS_0 → Option R) (c : CltoIntS_0) : Nat → VltoIntS_0 → Option R
  | 0, _ => none
  | n + 1, v => BltoIntS_0 k X0 c (LltoIntS_0 k X0 c n) v
theorem bltoIntS_0 {R : Type} (k n : Nat) (K : Ex → St → Option R) (c0 : CltoIntS_0) (v : VltoIntS_0) : loopRun [0, 0, 3, 4] (run E (den E k) (lv 30) k (nthLoop Tryz.f30 0)) (n + 1) (StltoIntS_0 c0 v) K = BltoIntS_0 k (fun (v0 : VltoIntS_0) => K (.exit 0) ⟨22, 1, [(0, .c (.l 3 (.i .i64) c0)), (3, .c (.ref 0)), (4, .c (.v (.int .i64 v0.1))), (8, .c (.v (.int .i64 v0.1))), (9, .c (.l 3 (.i .i64) c0)), (10, .c (.v (.int .i64 (c0.length : Int)))), (11, .c (.v (.bool (decide (v0.1 < (c0.length : Int))))))], [(0, .arr 3 (.i .i64) v0.2)]⟩) c0 (fun v => loopRun [0, 0, 3, 4] (run E (den E k) (lv 30) k (nthLoop Tryz.f30 0)) n (StltoIntS_0 c0 v) K) v := by kernel_rfl
theorem lltoIntS_0 {R : Type} (k : Nat) (K : Ex → St → Option R) (c0 : CltoIntS_0) : ∀ (n : Nat) (v : VltoIntS_0), loopRun [0, 0, 3, 4] (run E (den E k) (lv 30) k (nthLoop Tryz.f30 0)) n (StltoIntS_0 c0 v) K = LltoIntS_0 k (fun (v0 : VltoIntS_0) => K (.exit 0) ⟨22, 1, [(0, .c (.l 3 (.i .i64) c0)), (3, .c (.ref 0)), (4, .c (.v (.int .i64 v0.1))), (8, .c (.v (.int .i64 v0.1))), (9, .c (.l 3 (.i .i64) c0)), (10, .c (.v (.int .i64 (c0.length : Int)))), (11, .c (.v (.bool (decide (v0.1 < (c0.length : Int))))))], [(0, .arr 3 (.i .i64) v0.2)]⟩) c0 n v := by
  intro n
  induction n with
  | zero => intro v; rfl
  | succ n ih =>
    intro v
    refine (bltoIntS_0 k n K c0 v).trans ?_
    rw [funext ih]
    kernel_rfl
theorem mltoIntS_0 (k : Nat) (a0 : List Int) : FltoIntS (k + 1) a0 = if (a0.length : Int) = (a0.length : Int) then if 0 ≤ (a0.length : Int) then if 8 * (a0.length : Int).toNat ≤ 281474976710656 then loopRun (R := List Int) [0, 0, 3, 4] (run E (den E k) (lv 30) k (nthLoop Tryz.f30 0)) k (StltoIntS_0 a0 (0, (List.replicate (a0.length : Int).toNat (0 : Int)))) (kontAt E (den E k) (lv 30) k (bodyOf Tryz.f30) 0 [] (finish E (rs 30) Tryz.f30 : Ex → St → Option (List Int))) else none else none else none := by kernel_rfl
theorem eltoIntS (k : Nat) (a0 : List Int) : FltoIntS (k + 1) a0 = if (a0.length : Int) = (a0.length : Int) then if 0 ≤ (a0.length : Int) then if 8 * (a0.length : Int).toNat ≤ 281474976710656 then LltoIntS_0 k (fun (v0 : Int × (List Int)) => some v0.2) a0 k (0, (List.replicate (a0.length : Int).toNat (0 : Int))) else none else none else none := by
  rw [mltoIntS_0]
  simp only [lltoIntS_0]
  kernel_rfl
/-! loop.example/g00599/laws.toLaw -/
noncomputable def FltoLaw (k : Nat) (a0 : List Int) : Option (List Int) := den E k 29 [.agg [.l 3 (.i .i64) a0]]
theorem eltoLaw (k : Nat) (a0 : List Int) : FltoLaw (k + 1) a0 = (FltoIntS k a0).bind fun p1 => some p1 := by kernel_rfl
/-! loop.example/g00599/laws.toPacket -/
noncomputable def FltoPacket (k : Nat) (a0 : Int × Int × Int × Int × Int × Int) : Option (Int × Int × Int × Int × Int × Int) := den E k 73 [.agg [.v (.int .i64 a0.1), .v (.int .i64 a0.2.1), .v (.int .i64 a0.2.2.1), .v (.int .i64 a0.2.2.2.1), .v (.int .i64 a0.2.2.2.2.1), .v (.int .i64 a0.2.2.2.2.2)]]
theorem eltoPacket (k : Nat) (a0 : Int × Int × Int × Int × Int × Int) : FltoPacket (k + 1) a0 = some a0 := by kernel_rfl
/-! loop.example/g00599/laws.toPacketS -/
noncomputable def FltoPacketS (k : Nat) (a0 : List (Int × Int × Int × Int × Int × Int)) : Option (List (Int × Int × Int × Int × Int × Int)) := den E k 36 [.c (.l 144 sI6 a0)]
abbrev CltoPacketS_0 : Type := (List (Int × Int × Int × Int × Int × Int))
abbrev VltoPacketS_0 : Type := Int × (List (Int × Int × Int × Int × Int × Int))
def StltoPacketS_0 (c0 : CltoPacketS_0) (v0 : VltoPacketS_0) : St := ⟨23, 1, [(0, .c (.l 144 sI6 c0)), (3, .c (.ref 0)), (4, .c (.v (.int .i64 v0.1)))], [(0, .arr 142 sI6 v0.2)]⟩
noncomputable def BltoPacketS_0 {R : Type} (k : Nat) (X0 : VltoPacketS_0 → Option R) (c0 : CltoPacketS_0) (rec : VltoPacketS_0 → Option R) (v0 : VltoPacketS_0) : Option R := if (decide (v0.1 < (c0.length : Int))) = true then if 0 ≤ v0.1 then ix c0 v0.1.toNat fun x1 => (FltoPacket k x1).bind fun p2 => if 0 ≤ v0.1 then if v0.1 < (v0.2.length : Int) then ix v0.2 v0.1.toNat fun y3 => rec ((IntKind.i64.wrap (v0.1 + 1)), (v0.2.set v0.1.toNat p2)) else none else none else none else X0 v0
noncomputable def LltoPacketS_0 {R : Type} (k : Nat) (X0 : VltoPacketS_0 → Option R) (c : CltoPacketS_0) : Nat → VltoPacketS_0 → Option R
  | 0, _ => none
  | n + 1, v => BltoPacketS_0 k X0 c (LltoPacketS_0 k X0 c n) v
theorem bltoPacketS_0 {R : Type} (k n : Nat) (K : Ex → St → Option R) (c0 : CltoPacketS_0) (v : VltoPacketS_0) : loopRun [0, 0, 3, 4] (run E (den E k) (lv 36) k (nthLoop Tryz.f36 0)) (n + 1) (StltoPacketS_0 c0 v) K = BltoPacketS_0 k (fun (v0 : VltoPacketS_0) => K (.exit 0) ⟨23, 1, [(0, .c (.l 144 sI6 c0)), (3, .c (.ref 0)), (4, .c (.v (.int .i64 v0.1))), (8, .c (.v (.int .i64 v0.1))), (9, .c (.l 144 sI6 c0)), (10, .c (.v (.int .i64 (c0.length : Int)))), (11, .c (.v (.bool (decide (v0.1 < (c0.length : Int))))))], [(0, .arr 142 sI6 v0.2)]⟩) c0 (fun v => loopRun [0, 0, 3, 4] (run E (den E k) (lv 36) k (nthLoop Tryz.f36 0)) n (StltoPacketS_0 c0 v) K) v := by kernel_rfl
theorem lltoPacketS_0 {R : Type} (k : Nat) (K : Ex → St → Option R) (c0 : CltoPacketS_0) : ∀ (n : Nat) (v : VltoPacketS_0), loopRun [0, 0, 3, 4] (run E (den E k) (lv 36) k (nthLoop Tryz.f36 0)) n (StltoPacketS_0 c0 v) K = LltoPacketS_0 k (fun (v0 : VltoPacketS_0) => K (.exit 0) ⟨23, 1, [(0, .c (.l 144 sI6 c0)), (3, .c (.ref 0)), (4, .c (.v (.int .i64 v0.1))), (8, .c (.v (.int .i64 v0.1))), (9, .c (.l 144 sI6 c0)), (10, .c (.v (.int .i64 (c0.length : Int)))), (11, .c (.v (.bool (decide (v0.1 < (c0.length : Int))))))], [(0, .arr 142 sI6 v0.2)]⟩) c0 n v := by
  intro n
  induction n with
  | zero => intro v; rfl
  | succ n ih =>
    intro v
    refine (bltoPacketS_0 k n K c0 v).trans ?_
    rw [funext ih]
    kernel_rfl
theorem mltoPacketS_0 (k : Nat) (a0 : List (Int × Int × Int × Int × Int × Int)) : FltoPacketS (k + 1) a0 = if (a0.length : Int) = (a0.length : Int) then if 0 ≤ (a0.length : Int) then if 48 * (a0.length : Int).toNat ≤ 281474976710656 then loopRun (R := List (Int × Int × Int × Int × Int × Int)) [0, 0, 3, 4] (run E (den E k) (lv 36) k (nthLoop Tryz.f36 0)) k (StltoPacketS_0 a0 (0, (List.replicate (a0.length : Int).toNat ((0, 0, 0, 0, 0, 0) : Int × Int × Int × Int × Int × Int)))) (kontAt E (den E k) (lv 36) k (bodyOf Tryz.f36) 0 [] (finish E (rs 36) Tryz.f36 : Ex → St → Option (List (Int × Int × Int × Int × Int × Int)))) else none else none else none := by kernel_rfl
theorem eltoPacketS (k : Nat) (a0 : List (Int × Int × Int × Int × Int × Int)) : FltoPacketS (k + 1) a0 = if (a0.length : Int) = (a0.length : Int) then if 0 ≤ (a0.length : Int) then if 48 * (a0.length : Int).toNat ≤ 281474976710656 then LltoPacketS_0 k (fun (v0 : Int × (List (Int × Int × Int × Int × Int × Int))) => some v0.2) a0 k (0, (List.replicate (a0.length : Int).toNat ((0, 0, 0, 0, 0, 0) : Int × Int × Int × Int × Int × Int))) else none else none else none := by
  rw [mltoPacketS_0]
  simp only [lltoPacketS_0]
  kernel_rfl
/-! loop.example/g00599/laws.toLink -/
noncomputable def FltoLink (k : Nat) (a0 : Int × Int) : Option (Int × Int) := den E k 117 [.agg [.v (.int .i64 a0.1), .v (.int .i64 a0.2)]]
theorem eltoLink (k : Nat) (a0 : Int × Int) : FltoLink (k + 1) a0 = some a0 := by kernel_rfl
/-! loop.example/g00599/laws.toLinkS -/
noncomputable def FltoLinkS (k : Nat) (a0 : List (Int × Int)) : Option (List (Int × Int)) := den E k 107 [.c (.l 223 sI2 a0)]
abbrev CltoLinkS_0 : Type := (List (Int × Int))
abbrev VltoLinkS_0 : Type := Int × (List (Int × Int))
def StltoLinkS_0 (c0 : CltoLinkS_0) (v0 : VltoLinkS_0) : St := ⟨23, 1, [(0, .c (.l 223 sI2 c0)), (3, .c (.ref 0)), (4, .c (.v (.int .i64 v0.1)))], [(0, .arr 221 sI2 v0.2)]⟩
noncomputable def BltoLinkS_0 {R : Type} (k : Nat) (X0 : VltoLinkS_0 → Option R) (c0 : CltoLinkS_0) (rec : VltoLinkS_0 → Option R) (v0 : VltoLinkS_0) : Option R := if (decide (v0.1 < (c0.length : Int))) = true then if 0 ≤ v0.1 then ix c0 v0.1.toNat fun x1 => (FltoLink k x1).bind fun p2 => if 0 ≤ v0.1 then if v0.1 < (v0.2.length : Int) then ix v0.2 v0.1.toNat fun y3 => rec ((IntKind.i64.wrap (v0.1 + 1)), (v0.2.set v0.1.toNat p2)) else none else none else none else X0 v0
noncomputable def LltoLinkS_0 {R : Type} (k : Nat) (X0 : VltoLinkS_0 → Option R) (c : CltoLinkS_0) : Nat → VltoLinkS_0 → Option R
  | 0, _ => none
  | n + 1, v => BltoLinkS_0 k X0 c (LltoLinkS_0 k X0 c n) v
theorem bltoLinkS_0 {R : Type} (k n : Nat) (K : Ex → St → Option R) (c0 : CltoLinkS_0) (v : VltoLinkS_0) : loopRun [0, 0, 3, 4] (run E (den E k) (lv 107) k (nthLoop Tryz.f107 0)) (n + 1) (StltoLinkS_0 c0 v) K = BltoLinkS_0 k (fun (v0 : VltoLinkS_0) => K (.exit 0) ⟨23, 1, [(0, .c (.l 223 sI2 c0)), (3, .c (.ref 0)), (4, .c (.v (.int .i64 v0.1))), (8, .c (.v (.int .i64 v0.1))), (9, .c (.l 223 sI2 c0)), (10, .c (.v (.int .i64 (c0.length : Int)))), (11, .c (.v (.bool (decide (v0.1 < (c0.length : Int))))))], [(0, .arr 221 sI2 v0.2)]⟩) c0 (fun v => loopRun [0, 0, 3, 4] (run E (den E k) (lv 107) k (nthLoop Tryz.f107 0)) n (StltoLinkS_0 c0 v) K) v := by kernel_rfl
theorem lltoLinkS_0 {R : Type} (k : Nat) (K : Ex → St → Option R) (c0 : CltoLinkS_0) : ∀ (n : Nat) (v : VltoLinkS_0), loopRun [0, 0, 3, 4] (run E (den E k) (lv 107) k (nthLoop Tryz.f107 0)) n (StltoLinkS_0 c0 v) K = LltoLinkS_0 k (fun (v0 : VltoLinkS_0) => K (.exit 0) ⟨23, 1, [(0, .c (.l 223 sI2 c0)), (3, .c (.ref 0)), (4, .c (.v (.int .i64 v0.1))), (8, .c (.v (.int .i64 v0.1))), (9, .c (.l 223 sI2 c0)), (10, .c (.v (.int .i64 (c0.length : Int)))), (11, .c (.v (.bool (decide (v0.1 < (c0.length : Int))))))], [(0, .arr 221 sI2 v0.2)]⟩) c0 n v := by
  intro n
  induction n with
  | zero => intro v; rfl
  | succ n ih =>
    intro v
    refine (bltoLinkS_0 k n K c0 v).trans ?_
    rw [funext ih]
    kernel_rfl
theorem mltoLinkS_0 (k : Nat) (a0 : List (Int × Int)) : FltoLinkS (k + 1) a0 = if (a0.length : Int) = (a0.length : Int) then if 0 ≤ (a0.length : Int) then if 16 * (a0.length : Int).toNat ≤ 281474976710656 then loopRun (R := List (Int × Int)) [0, 0, 3, 4] (run E (den E k) (lv 107) k (nthLoop Tryz.f107 0)) k (StltoLinkS_0 a0 (0, (List.replicate (a0.length : Int).toNat ((0, 0) : Int × Int)))) (kontAt E (den E k) (lv 107) k (bodyOf Tryz.f107) 0 [] (finish E (rs 107) Tryz.f107 : Ex → St → Option (List (Int × Int)))) else none else none else none := by kernel_rfl
theorem eltoLinkS (k : Nat) (a0 : List (Int × Int)) : FltoLinkS (k + 1) a0 = if (a0.length : Int) = (a0.length : Int) then if 0 ≤ (a0.length : Int) then if 16 * (a0.length : Int).toNat ≤ 281474976710656 then LltoLinkS_0 k (fun (v0 : Int × (List (Int × Int))) => some v0.2) a0 k (0, (List.replicate (a0.length : Int).toNat ((0, 0) : Int × Int))) else none else none else none := by
  rw [mltoLinkS_0]
  simp only [lltoLinkS_0]
  kernel_rfl
/-! loop.example/g00599/laws.toSpan -/
noncomputable def FltoSpan (k : Nat) (a0 : Int × Int) : Option (Int × Int) := den E k 106 [.agg [.v (.int .i64 a0.1), .v (.int .i64 a0.2)]]
theorem eltoSpan (k : Nat) (a0 : Int × Int) : FltoSpan (k + 1) a0 = some a0 := by kernel_rfl
/-! loop.example/g00599/laws.toTable -/
noncomputable def FltoTable (k : Nat) (a0 : Int × (List Int) × List Int) : Option (Int × (List Int) × List Int) := den E k 118 [.agg [.v (.int .i64 a0.1), .l 3 (.i .i64) a0.2.1, .l 3 (.i .i64) a0.2.2]]
theorem eltoTable (k : Nat) (a0 : Int × (List Int) × List Int) : FltoTable (k + 1) a0 = (FltoIntS k a0.2.1).bind fun p1 => (FltoIntS k a0.2.2).bind fun p2 => some (a0.1, p1, p2) := by kernel_rfl
/-! loop.example/g00599/laws.toTableS -/
noncomputable def FltoTableS (k : Nat) (a0 : List (Int × (List Int) × List Int)) : Option (List (Int × (List Int) × List Int)) := den E k 108 [.c (.l 219 sTable a0)]
abbrev CltoTableS_0 : Type := (List (Int × (List Int) × List Int))
abbrev VltoTableS_0 : Type := Int × (List (Int × (List Int) × List Int))
def StltoTableS_0 (c0 : CltoTableS_0) (v0 : VltoTableS_0) : St := ⟨23, 1, [(0, .c (.l 219 sTable c0)), (3, .c (.ref 0)), (4, .c (.v (.int .i64 v0.1)))], [(0, .arr 224 sTable v0.2)]⟩
noncomputable def BltoTableS_0 {R : Type} (k : Nat) (X0 : VltoTableS_0 → Option R) (c0 : CltoTableS_0) (rec : VltoTableS_0 → Option R) (v0 : VltoTableS_0) : Option R := if (decide (v0.1 < (c0.length : Int))) = true then if 0 ≤ v0.1 then ix c0 v0.1.toNat fun x1 => (FltoTable k x1).bind fun p2 => if 0 ≤ v0.1 then if v0.1 < (v0.2.length : Int) then ix v0.2 v0.1.toNat fun y3 => rec ((IntKind.i64.wrap (v0.1 + 1)), (v0.2.set v0.1.toNat p2)) else none else none else none else X0 v0
noncomputable def LltoTableS_0 {R : Type} (k : Nat) (X0 : VltoTableS_0 → Option R) (c : CltoTableS_0) : Nat → VltoTableS_0 → Option R
  | 0, _ => none
  | n + 1, v => BltoTableS_0 k X0 c (LltoTableS_0 k X0 c n) v
theorem bltoTableS_0 {R : Type} (k n : Nat) (K : Ex → St → Option R) (c0 : CltoTableS_0) (v : VltoTableS_0) : loopRun [0, 0, 3, 4] (run E (den E k) (lv 108) k (nthLoop Tryz.f108 0)) (n + 1) (StltoTableS_0 c0 v) K = BltoTableS_0 k (fun (v0 : VltoTableS_0) => K (.exit 0) ⟨23, 1, [(0, .c (.l 219 sTable c0)), (3, .c (.ref 0)), (4, .c (.v (.int .i64 v0.1))), (8, .c (.v (.int .i64 v0.1))), (9, .c (.l 219 sTable c0)), (10, .c (.v (.int .i64 (c0.length : Int)))), (11, .c (.v (.bool (decide (v0.1 < (c0.length : Int))))))], [(0, .arr 224 sTable v0.2)]⟩) c0 (fun v => loopRun [0, 0, 3, 4] (run E (den E k) (lv 108) k (nthLoop Tryz.f108 0)) n (StltoTableS_0 c0 v) K) v := by kernel_rfl
theorem lltoTableS_0 {R : Type} (k : Nat) (K : Ex → St → Option R) (c0 : CltoTableS_0) : ∀ (n : Nat) (v : VltoTableS_0), loopRun [0, 0, 3, 4] (run E (den E k) (lv 108) k (nthLoop Tryz.f108 0)) n (StltoTableS_0 c0 v) K = LltoTableS_0 k (fun (v0 : VltoTableS_0) => K (.exit 0) ⟨23, 1, [(0, .c (.l 219 sTable c0)), (3, .c (.ref 0)), (4, .c (.v (.int .i64 v0.1))), (8, .c (.v (.int .i64 v0.1))), (9, .c (.l 219 sTable c0)), (10, .c (.v (.int .i64 (c0.length : Int)))), (11, .c (.v (.bool (decide (v0.1 < (c0.length : Int))))))], [(0, .arr 224 sTable v0.2)]⟩) c0 n v := by
  intro n
  induction n with
  | zero => intro v; rfl
  | succ n ih =>
    intro v
    refine (bltoTableS_0 k n K c0 v).trans ?_
    rw [funext ih]
    kernel_rfl
theorem mltoTableS_0 (k : Nat) (a0 : List (Int × (List Int) × List Int)) : FltoTableS (k + 1) a0 = if (a0.length : Int) = (a0.length : Int) then if 0 ≤ (a0.length : Int) then if 56 * (a0.length : Int).toNat ≤ 281474976710656 then loopRun (R := List (Int × (List Int) × List Int)) [0, 0, 3, 4] (run E (den E k) (lv 108) k (nthLoop Tryz.f108 0)) k (StltoTableS_0 a0 (0, (List.replicate (a0.length : Int).toNat ((0, [], []) : Int × (List Int) × List Int)))) (kontAt E (den E k) (lv 108) k (bodyOf Tryz.f108) 0 [] (finish E (rs 108) Tryz.f108 : Ex → St → Option (List (Int × (List Int) × List Int)))) else none else none else none := by kernel_rfl
theorem eltoTableS (k : Nat) (a0 : List (Int × (List Int) × List Int)) : FltoTableS (k + 1) a0 = if (a0.length : Int) = (a0.length : Int) then if 0 ≤ (a0.length : Int) then if 56 * (a0.length : Int).toNat ≤ 281474976710656 then LltoTableS_0 k (fun (v0 : Int × (List (Int × (List Int) × List Int))) => some v0.2) a0 k (0, (List.replicate (a0.length : Int).toNat ((0, [], []) : Int × (List Int) × List Int))) else none else none else none := by
  rw [mltoTableS_0]
  simp only [lltoTableS_0]
  kernel_rfl
/-! loop.example/g00599/laws.toPiece -/
noncomputable def FltoPiece (k : Nat) (a0 : TPiece) : Option TPiece := den E k 95 [.agg [.v (.int .i64 a0.1.1), .v (.int .i64 a0.1.2), .l 223 sI2 a0.2.1, .l 219 sTable a0.2.2]]
theorem eltoPiece (k : Nat) (a0 : TPiece) : FltoPiece (k + 1) a0 = (FltoSpan k a0.1).bind fun p1 => (FltoLinkS k a0.2.1).bind fun p2 => (FltoTableS k a0.2.2).bind fun p3 => some (p1, p2, p3) := by kernel_rfl
/-! loop.example/g00599/laws.toPieceS -/
noncomputable def FltoPieceS (k : Nat) (a0 : List TPiece) : Option (List TPiece) := den E k 67 [.c (.l 175 sLPiece a0)]
abbrev CltoPieceS_0 : Type := (List TPiece)
abbrev VltoPieceS_0 : Type := Int × (List TPiece)
def StltoPieceS_0 (c0 : CltoPieceS_0) (v0 : VltoPieceS_0) : St := ⟨23, 1, [(0, .c (.l 175 sLPiece c0)), (3, .c (.ref 0)), (4, .c (.v (.int .i64 v0.1)))], [(0, .arr 196 sPiece v0.2)]⟩
noncomputable def BltoPieceS_0 {R : Type} (k : Nat) (X0 : VltoPieceS_0 → Option R) (c0 : CltoPieceS_0) (rec : VltoPieceS_0 → Option R) (v0 : VltoPieceS_0) : Option R := if (decide (v0.1 < (c0.length : Int))) = true then if 0 ≤ v0.1 then ix c0 v0.1.toNat fun x1 => (FltoPiece k x1).bind fun p2 => if 0 ≤ v0.1 then if v0.1 < (v0.2.length : Int) then ix v0.2 v0.1.toNat fun y3 => rec ((IntKind.i64.wrap (v0.1 + 1)), (v0.2.set v0.1.toNat p2)) else none else none else none else X0 v0
noncomputable def LltoPieceS_0 {R : Type} (k : Nat) (X0 : VltoPieceS_0 → Option R) (c : CltoPieceS_0) : Nat → VltoPieceS_0 → Option R
  | 0, _ => none
  | n + 1, v => BltoPieceS_0 k X0 c (LltoPieceS_0 k X0 c n) v
theorem bltoPieceS_0 {R : Type} (k n : Nat) (K : Ex → St → Option R) (c0 : CltoPieceS_0) (v : VltoPieceS_0) : loopRun [0, 0, 3, 4] (run E (den E k) (lv 67) k (nthLoop Tryz.f67 0)) (n + 1) (StltoPieceS_0 c0 v) K = BltoPieceS_0 k (fun (v0 : VltoPieceS_0) => K (.exit 0) ⟨23, 1, [(0, .c (.l 175 sLPiece c0)), (3, .c (.ref 0)), (4, .c (.v (.int .i64 v0.1))), (8, .c (.v (.int .i64 v0.1))), (9, .c (.l 175 sLPiece c0)), (10, .c (.v (.int .i64 (c0.length : Int)))), (11, .c (.v (.bool (decide (v0.1 < (c0.length : Int))))))], [(0, .arr 196 sPiece v0.2)]⟩) c0 (fun v => loopRun [0, 0, 3, 4] (run E (den E k) (lv 67) k (nthLoop Tryz.f67 0)) n (StltoPieceS_0 c0 v) K) v := by kernel_rfl
theorem lltoPieceS_0 {R : Type} (k : Nat) (K : Ex → St → Option R) (c0 : CltoPieceS_0) : ∀ (n : Nat) (v : VltoPieceS_0), loopRun [0, 0, 3, 4] (run E (den E k) (lv 67) k (nthLoop Tryz.f67 0)) n (StltoPieceS_0 c0 v) K = LltoPieceS_0 k (fun (v0 : VltoPieceS_0) => K (.exit 0) ⟨23, 1, [(0, .c (.l 175 sLPiece c0)), (3, .c (.ref 0)), (4, .c (.v (.int .i64 v0.1))), (8, .c (.v (.int .i64 v0.1))), (9, .c (.l 175 sLPiece c0)), (10, .c (.v (.int .i64 (c0.length : Int)))), (11, .c (.v (.bool (decide (v0.1 < (c0.length : Int))))))], [(0, .arr 196 sPiece v0.2)]⟩) c0 n v := by
  intro n
  induction n with
  | zero => intro v; rfl
  | succ n ih =>
    intro v
    refine (bltoPieceS_0 k n K c0 v).trans ?_
    rw [funext ih]
    kernel_rfl
theorem mltoPieceS_0 (k : Nat) (a0 : List TPiece) : FltoPieceS (k + 1) a0 = if (a0.length : Int) = (a0.length : Int) then if 0 ≤ (a0.length : Int) then if 64 * (a0.length : Int).toNat ≤ 281474976710656 then loopRun (R := List TPiece) [0, 0, 3, 4] (run E (den E k) (lv 67) k (nthLoop Tryz.f67 0)) k (StltoPieceS_0 a0 (0, (List.replicate (a0.length : Int).toNat (((0, 0), [], []) : TPiece)))) (kontAt E (den E k) (lv 67) k (bodyOf Tryz.f67) 0 [] (finish E (rs 67) Tryz.f67 : Ex → St → Option (List TPiece))) else none else none else none := by kernel_rfl
theorem eltoPieceS (k : Nat) (a0 : List TPiece) : FltoPieceS (k + 1) a0 = if (a0.length : Int) = (a0.length : Int) then if 0 ≤ (a0.length : Int) then if 64 * (a0.length : Int).toNat ≤ 281474976710656 then LltoPieceS_0 k (fun (v0 : Int × (List TPiece)) => some v0.2) a0 k (0, (List.replicate (a0.length : Int).toNat (((0, 0), [], []) : TPiece))) else none else none else none := by
  rw [mltoPieceS_0]
  simp only [lltoPieceS_0]
  kernel_rfl
/-! loop.example/g00599/laws.toProgram -/
noncomputable def FltoProgram (k : Nat) (a0 : TProgram) : Option TProgram := den E k 28 [.agg [.v (.int .i64 a0.1), .v (.int .i64 a0.2.1), .v (.int .i64 a0.2.2.1), .l 175 sLPiece a0.2.2.2]]
theorem eltoProgram (k : Nat) (a0 : TProgram) : FltoProgram (k + 1) a0 = (FltoPieceS k a0.2.2.2).bind fun p1 => some (a0.1, a0.2.1, a0.2.2.1, p1) := by kernel_rfl
/-! loop.example/g00599/laws.toQueue -/
noncomputable def FltoQueue (k : Nat) (a0 : List (Int × Int × Int × Int × Int × Int)) : Option (List (Int × Int × Int × Int × Int × Int)) := den E k 69 [.agg [.l 144 sI6 a0]]
theorem eltoQueue (k : Nat) (a0 : List (Int × Int × Int × Int × Int × Int)) : FltoQueue (k + 1) a0 = (FltoPacketS k a0).bind fun p1 => some p1 := by kernel_rfl
/-! loop.example/g00599/laws.toQueueS -/
noncomputable def FltoQueueS (k : Nat) (a0 : List (List (Int × Int × Int × Int × Int × Int))) : Option (List (List (Int × Int × Int × Int × Int × Int))) := den E k 32 [.c (.l 119 sLQueue a0)]
abbrev CltoQueueS_0 : Type := (List (List (Int × Int × Int × Int × Int × Int)))
abbrev VltoQueueS_0 : Type := Int × (List (List (Int × Int × Int × Int × Int × Int)))
def StltoQueueS_0 (c0 : CltoQueueS_0) (v0 : VltoQueueS_0) : St := ⟨23, 1, [(0, .c (.l 119 sLQueue c0)), (3, .c (.ref 0)), (4, .c (.v (.int .i64 v0.1)))], [(0, .arr 83 sQueue v0.2)]⟩
noncomputable def BltoQueueS_0 {R : Type} (k : Nat) (X0 : VltoQueueS_0 → Option R) (c0 : CltoQueueS_0) (rec : VltoQueueS_0 → Option R) (v0 : VltoQueueS_0) : Option R := if (decide (v0.1 < (c0.length : Int))) = true then if 0 ≤ v0.1 then ix c0 v0.1.toNat fun x1 => (FltoQueue k x1).bind fun p2 => if 0 ≤ v0.1 then if v0.1 < (v0.2.length : Int) then ix v0.2 v0.1.toNat fun y3 => rec ((IntKind.i64.wrap (v0.1 + 1)), (v0.2.set v0.1.toNat p2)) else none else none else none else X0 v0
noncomputable def LltoQueueS_0 {R : Type} (k : Nat) (X0 : VltoQueueS_0 → Option R) (c : CltoQueueS_0) : Nat → VltoQueueS_0 → Option R
  | 0, _ => none
  | n + 1, v => BltoQueueS_0 k X0 c (LltoQueueS_0 k X0 c n) v
theorem bltoQueueS_0 {R : Type} (k n : Nat) (K : Ex → St → Option R) (c0 : CltoQueueS_0) (v : VltoQueueS_0) : loopRun [0, 0, 3, 4] (run E (den E k) (lv 32) k (nthLoop Tryz.f32 0)) (n + 1) (StltoQueueS_0 c0 v) K = BltoQueueS_0 k (fun (v0 : VltoQueueS_0) => K (.exit 0) ⟨23, 1, [(0, .c (.l 119 sLQueue c0)), (3, .c (.ref 0)), (4, .c (.v (.int .i64 v0.1))), (8, .c (.v (.int .i64 v0.1))), (9, .c (.l 119 sLQueue c0)), (10, .c (.v (.int .i64 (c0.length : Int)))), (11, .c (.v (.bool (decide (v0.1 < (c0.length : Int))))))], [(0, .arr 83 sQueue v0.2)]⟩) c0 (fun v => loopRun [0, 0, 3, 4] (run E (den E k) (lv 32) k (nthLoop Tryz.f32 0)) n (StltoQueueS_0 c0 v) K) v := by kernel_rfl
theorem lltoQueueS_0 {R : Type} (k : Nat) (K : Ex → St → Option R) (c0 : CltoQueueS_0) : ∀ (n : Nat) (v : VltoQueueS_0), loopRun [0, 0, 3, 4] (run E (den E k) (lv 32) k (nthLoop Tryz.f32 0)) n (StltoQueueS_0 c0 v) K = LltoQueueS_0 k (fun (v0 : VltoQueueS_0) => K (.exit 0) ⟨23, 1, [(0, .c (.l 119 sLQueue c0)), (3, .c (.ref 0)), (4, .c (.v (.int .i64 v0.1))), (8, .c (.v (.int .i64 v0.1))), (9, .c (.l 119 sLQueue c0)), (10, .c (.v (.int .i64 (c0.length : Int)))), (11, .c (.v (.bool (decide (v0.1 < (c0.length : Int))))))], [(0, .arr 83 sQueue v0.2)]⟩) c0 n v := by
  intro n
  induction n with
  | zero => intro v; rfl
  | succ n ih =>
    intro v
    refine (bltoQueueS_0 k n K c0 v).trans ?_
    rw [funext ih]
    kernel_rfl
theorem mltoQueueS_0 (k : Nat) (a0 : List (List (Int × Int × Int × Int × Int × Int))) : FltoQueueS (k + 1) a0 = if (a0.length : Int) = (a0.length : Int) then if 0 ≤ (a0.length : Int) then if 24 * (a0.length : Int).toNat ≤ 281474976710656 then loopRun (R := List (List (Int × Int × Int × Int × Int × Int))) [0, 0, 3, 4] (run E (den E k) (lv 32) k (nthLoop Tryz.f32 0)) k (StltoQueueS_0 a0 (0, (List.replicate (a0.length : Int).toNat ([] : List (Int × Int × Int × Int × Int × Int))))) (kontAt E (den E k) (lv 32) k (bodyOf Tryz.f32) 0 [] (finish E (rs 32) Tryz.f32 : Ex → St → Option (List (List (Int × Int × Int × Int × Int × Int))))) else none else none else none := by kernel_rfl
theorem eltoQueueS (k : Nat) (a0 : List (List (Int × Int × Int × Int × Int × Int))) : FltoQueueS (k + 1) a0 = if (a0.length : Int) = (a0.length : Int) then if 0 ≤ (a0.length : Int) then if 24 * (a0.length : Int).toNat ≤ 281474976710656 then LltoQueueS_0 k (fun (v0 : Int × (List (List (Int × Int × Int × Int × Int × Int)))) => some v0.2) a0 k (0, (List.replicate (a0.length : Int).toNat ([] : List (Int × Int × Int × Int × Int × Int)))) else none else none else none := by
  rw [mltoQueueS_0]
  simp only [lltoQueueS_0]
  kernel_rfl
/-! loop.example/g00599/laws.toSent -/
noncomputable def FltoSent (k : Nat) (a0 : Int × Int × Int × Int) : Option (Int × Int × Int × Int) := den E k 74 [.agg [.v (.int .i64 a0.1), .v (.int .i64 a0.2.1), .v (.int .i64 a0.2.2.1), .v (.int .i64 a0.2.2.2)]]
theorem eltoSent (k : Nat) (a0 : Int × Int × Int × Int) : FltoSent (k + 1) a0 = some a0 := by kernel_rfl
/-! loop.example/g00599/laws.toSentS -/
noncomputable def FltoSentS (k : Nat) (a0 : List (Int × Int × Int × Int)) : Option (List (Int × Int × Int × Int)) := den E k 37 [.c (.l 148 sI4 a0)]
abbrev CltoSentS_0 : Type := (List (Int × Int × Int × Int))
abbrev VltoSentS_0 : Type := Int × (List (Int × Int × Int × Int))
def StltoSentS_0 (c0 : CltoSentS_0) (v0 : VltoSentS_0) : St := ⟨23, 1, [(0, .c (.l 148 sI4 c0)), (3, .c (.ref 0)), (4, .c (.v (.int .i64 v0.1)))], [(0, .arr 146 sI4 v0.2)]⟩
noncomputable def BltoSentS_0 {R : Type} (k : Nat) (X0 : VltoSentS_0 → Option R) (c0 : CltoSentS_0) (rec : VltoSentS_0 → Option R) (v0 : VltoSentS_0) : Option R := if (decide (v0.1 < (c0.length : Int))) = true then if 0 ≤ v0.1 then ix c0 v0.1.toNat fun x1 => (FltoSent k x1).bind fun p2 => if 0 ≤ v0.1 then if v0.1 < (v0.2.length : Int) then ix v0.2 v0.1.toNat fun y3 => rec ((IntKind.i64.wrap (v0.1 + 1)), (v0.2.set v0.1.toNat p2)) else none else none else none else X0 v0
noncomputable def LltoSentS_0 {R : Type} (k : Nat) (X0 : VltoSentS_0 → Option R) (c : CltoSentS_0) : Nat → VltoSentS_0 → Option R
  | 0, _ => none
  | n + 1, v => BltoSentS_0 k X0 c (LltoSentS_0 k X0 c n) v
theorem bltoSentS_0 {R : Type} (k n : Nat) (K : Ex → St → Option R) (c0 : CltoSentS_0) (v : VltoSentS_0) : loopRun [0, 0, 3, 4] (run E (den E k) (lv 37) k (nthLoop Tryz.f37 0)) (n + 1) (StltoSentS_0 c0 v) K = BltoSentS_0 k (fun (v0 : VltoSentS_0) => K (.exit 0) ⟨23, 1, [(0, .c (.l 148 sI4 c0)), (3, .c (.ref 0)), (4, .c (.v (.int .i64 v0.1))), (8, .c (.v (.int .i64 v0.1))), (9, .c (.l 148 sI4 c0)), (10, .c (.v (.int .i64 (c0.length : Int)))), (11, .c (.v (.bool (decide (v0.1 < (c0.length : Int))))))], [(0, .arr 146 sI4 v0.2)]⟩) c0 (fun v => loopRun [0, 0, 3, 4] (run E (den E k) (lv 37) k (nthLoop Tryz.f37 0)) n (StltoSentS_0 c0 v) K) v := by kernel_rfl
theorem lltoSentS_0 {R : Type} (k : Nat) (K : Ex → St → Option R) (c0 : CltoSentS_0) : ∀ (n : Nat) (v : VltoSentS_0), loopRun [0, 0, 3, 4] (run E (den E k) (lv 37) k (nthLoop Tryz.f37 0)) n (StltoSentS_0 c0 v) K = LltoSentS_0 k (fun (v0 : VltoSentS_0) => K (.exit 0) ⟨23, 1, [(0, .c (.l 148 sI4 c0)), (3, .c (.ref 0)), (4, .c (.v (.int .i64 v0.1))), (8, .c (.v (.int .i64 v0.1))), (9, .c (.l 148 sI4 c0)), (10, .c (.v (.int .i64 (c0.length : Int)))), (11, .c (.v (.bool (decide (v0.1 < (c0.length : Int))))))], [(0, .arr 146 sI4 v0.2)]⟩) c0 n v := by
  intro n
  induction n with
  | zero => intro v; rfl
  | succ n ih =>
    intro v
    refine (bltoSentS_0 k n K c0 v).trans ?_
    rw [funext ih]
    kernel_rfl
theorem mltoSentS_0 (k : Nat) (a0 : List (Int × Int × Int × Int)) : FltoSentS (k + 1) a0 = if (a0.length : Int) = (a0.length : Int) then if 0 ≤ (a0.length : Int) then if 32 * (a0.length : Int).toNat ≤ 281474976710656 then loopRun (R := List (Int × Int × Int × Int)) [0, 0, 3, 4] (run E (den E k) (lv 37) k (nthLoop Tryz.f37 0)) k (StltoSentS_0 a0 (0, (List.replicate (a0.length : Int).toNat ((0, 0, 0, 0) : Int × Int × Int × Int)))) (kontAt E (den E k) (lv 37) k (bodyOf Tryz.f37) 0 [] (finish E (rs 37) Tryz.f37 : Ex → St → Option (List (Int × Int × Int × Int)))) else none else none else none := by kernel_rfl
theorem eltoSentS (k : Nat) (a0 : List (Int × Int × Int × Int)) : FltoSentS (k + 1) a0 = if (a0.length : Int) = (a0.length : Int) then if 0 ≤ (a0.length : Int) then if 32 * (a0.length : Int).toNat ≤ 281474976710656 then LltoSentS_0 k (fun (v0 : Int × (List (Int × Int × Int × Int))) => some v0.2) a0 k (0, (List.replicate (a0.length : Int).toNat ((0, 0, 0, 0) : Int × Int × Int × Int))) else none else none else none := by
  rw [mltoSentS_0]
  simp only [lltoSentS_0]
  kernel_rfl
/-! loop.example/g00599/laws.toSat -/
noncomputable def FltoSat (k : Nat) (a0 : Int × Int × Int × Int) : Option (Int × Int × Int × Int) := den E k 92 [.agg [.v (.int .i64 a0.1), .v (.int .i64 a0.2.1), .v (.int .i64 a0.2.2.1), .v (.int .i64 a0.2.2.2)]]
theorem eltoSat (k : Nat) (a0 : Int × Int × Int × Int) : FltoSat (k + 1) a0 = some a0 := by kernel_rfl
/-! loop.example/g00599/laws.toSatS -/
noncomputable def FltoSatS (k : Nat) (a0 : List (Int × Int × Int × Int)) : Option (List (Int × Int × Int × Int)) := den E k 64 [.c (.l 179 sI4 a0)]
abbrev CltoSatS_0 : Type := (List (Int × Int × Int × Int))
abbrev VltoSatS_0 : Type := Int × (List (Int × Int × Int × Int))
def StltoSatS_0 (c0 : CltoSatS_0) (v0 : VltoSatS_0) : St := ⟨23, 1, [(0, .c (.l 179 sI4 c0)), (3, .c (.ref 0)), (4, .c (.v (.int .i64 v0.1)))], [(0, .arr 177 sI4 v0.2)]⟩
noncomputable def BltoSatS_0 {R : Type} (k : Nat) (X0 : VltoSatS_0 → Option R) (c0 : CltoSatS_0) (rec : VltoSatS_0 → Option R) (v0 : VltoSatS_0) : Option R := if (decide (v0.1 < (c0.length : Int))) = true then if 0 ≤ v0.1 then ix c0 v0.1.toNat fun x1 => (FltoSat k x1).bind fun p2 => if 0 ≤ v0.1 then if v0.1 < (v0.2.length : Int) then ix v0.2 v0.1.toNat fun y3 => rec ((IntKind.i64.wrap (v0.1 + 1)), (v0.2.set v0.1.toNat p2)) else none else none else none else X0 v0
noncomputable def LltoSatS_0 {R : Type} (k : Nat) (X0 : VltoSatS_0 → Option R) (c : CltoSatS_0) : Nat → VltoSatS_0 → Option R
  | 0, _ => none
  | n + 1, v => BltoSatS_0 k X0 c (LltoSatS_0 k X0 c n) v
theorem bltoSatS_0 {R : Type} (k n : Nat) (K : Ex → St → Option R) (c0 : CltoSatS_0) (v : VltoSatS_0) : loopRun [0, 0, 3, 4] (run E (den E k) (lv 64) k (nthLoop Tryz.f64 0)) (n + 1) (StltoSatS_0 c0 v) K = BltoSatS_0 k (fun (v0 : VltoSatS_0) => K (.exit 0) ⟨23, 1, [(0, .c (.l 179 sI4 c0)), (3, .c (.ref 0)), (4, .c (.v (.int .i64 v0.1))), (8, .c (.v (.int .i64 v0.1))), (9, .c (.l 179 sI4 c0)), (10, .c (.v (.int .i64 (c0.length : Int)))), (11, .c (.v (.bool (decide (v0.1 < (c0.length : Int))))))], [(0, .arr 177 sI4 v0.2)]⟩) c0 (fun v => loopRun [0, 0, 3, 4] (run E (den E k) (lv 64) k (nthLoop Tryz.f64 0)) n (StltoSatS_0 c0 v) K) v := by kernel_rfl
theorem lltoSatS_0 {R : Type} (k : Nat) (K : Ex → St → Option R) (c0 : CltoSatS_0) : ∀ (n : Nat) (v : VltoSatS_0), loopRun [0, 0, 3, 4] (run E (den E k) (lv 64) k (nthLoop Tryz.f64 0)) n (StltoSatS_0 c0 v) K = LltoSatS_0 k (fun (v0 : VltoSatS_0) => K (.exit 0) ⟨23, 1, [(0, .c (.l 179 sI4 c0)), (3, .c (.ref 0)), (4, .c (.v (.int .i64 v0.1))), (8, .c (.v (.int .i64 v0.1))), (9, .c (.l 179 sI4 c0)), (10, .c (.v (.int .i64 (c0.length : Int)))), (11, .c (.v (.bool (decide (v0.1 < (c0.length : Int))))))], [(0, .arr 177 sI4 v0.2)]⟩) c0 n v := by
  intro n
  induction n with
  | zero => intro v; rfl
  | succ n ih =>
    intro v
    refine (bltoSatS_0 k n K c0 v).trans ?_
    rw [funext ih]
    kernel_rfl
theorem mltoSatS_0 (k : Nat) (a0 : List (Int × Int × Int × Int)) : FltoSatS (k + 1) a0 = if (a0.length : Int) = (a0.length : Int) then if 0 ≤ (a0.length : Int) then if 32 * (a0.length : Int).toNat ≤ 281474976710656 then loopRun (R := List (Int × Int × Int × Int)) [0, 0, 3, 4] (run E (den E k) (lv 64) k (nthLoop Tryz.f64 0)) k (StltoSatS_0 a0 (0, (List.replicate (a0.length : Int).toNat ((0, 0, 0, 0) : Int × Int × Int × Int)))) (kontAt E (den E k) (lv 64) k (bodyOf Tryz.f64) 0 [] (finish E (rs 64) Tryz.f64 : Ex → St → Option (List (Int × Int × Int × Int)))) else none else none else none := by kernel_rfl
theorem eltoSatS (k : Nat) (a0 : List (Int × Int × Int × Int)) : FltoSatS (k + 1) a0 = if (a0.length : Int) = (a0.length : Int) then if 0 ≤ (a0.length : Int) then if 32 * (a0.length : Int).toNat ≤ 281474976710656 then LltoSatS_0 k (fun (v0 : Int × (List (Int × Int × Int × Int))) => some v0.2) a0 k (0, (List.replicate (a0.length : Int).toNat ((0, 0, 0, 0) : Int × Int × Int × Int))) else none else none else none := by
  rw [mltoSatS_0]
  simp only [lltoSatS_0]
  kernel_rfl
/-! loop.example/g00599/laws.toSite -/
noncomputable def FltoSite (k : Nat) (a0 : Int × Int × Int) : Option (Int × Int × Int) := den E k 93 [.agg [.v (.int .i64 a0.1), .v (.int .i64 a0.2.1), .v (.int .i64 a0.2.2)]]
theorem eltoSite (k : Nat) (a0 : Int × Int × Int) : FltoSite (k + 1) a0 = some a0 := by kernel_rfl
/-! loop.example/g00599/laws.toSiteS -/
noncomputable def FltoSiteS (k : Nat) (a0 : List (Int × Int × Int)) : Option (List (Int × Int × Int)) := den E k 65 [.c (.l 183 sI3 a0)]
abbrev CltoSiteS_0 : Type := (List (Int × Int × Int))
abbrev VltoSiteS_0 : Type := Int × (List (Int × Int × Int))
def StltoSiteS_0 (c0 : CltoSiteS_0) (v0 : VltoSiteS_0) : St := ⟨23, 1, [(0, .c (.l 183 sI3 c0)), (3, .c (.ref 0)), (4, .c (.v (.int .i64 v0.1)))], [(0, .arr 181 sI3 v0.2)]⟩
noncomputable def BltoSiteS_0 {R : Type} (k : Nat) (X0 : VltoSiteS_0 → Option R) (c0 : CltoSiteS_0) (rec : VltoSiteS_0 → Option R) (v0 : VltoSiteS_0) : Option R := if (decide (v0.1 < (c0.length : Int))) = true then if 0 ≤ v0.1 then ix c0 v0.1.toNat fun x1 => (FltoSite k x1).bind fun p2 => if 0 ≤ v0.1 then if v0.1 < (v0.2.length : Int) then ix v0.2 v0.1.toNat fun y3 => rec ((IntKind.i64.wrap (v0.1 + 1)), (v0.2.set v0.1.toNat p2)) else none else none else none else X0 v0
noncomputable def LltoSiteS_0 {R : Type} (k : Nat) (X0 : VltoSiteS_0 → Option R) (c : CltoSiteS_0) : Nat → VltoSiteS_0 → Option R
  | 0, _ => none
  | n + 1, v => BltoSiteS_0 k X0 c (LltoSiteS_0 k X0 c n) v
theorem bltoSiteS_0 {R : Type} (k n : Nat) (K : Ex → St → Option R) (c0 : CltoSiteS_0) (v : VltoSiteS_0) : loopRun [0, 0, 3, 4] (run E (den E k) (lv 65) k (nthLoop Tryz.f65 0)) (n + 1) (StltoSiteS_0 c0 v) K = BltoSiteS_0 k (fun (v0 : VltoSiteS_0) => K (.exit 0) ⟨23, 1, [(0, .c (.l 183 sI3 c0)), (3, .c (.ref 0)), (4, .c (.v (.int .i64 v0.1))), (8, .c (.v (.int .i64 v0.1))), (9, .c (.l 183 sI3 c0)), (10, .c (.v (.int .i64 (c0.length : Int)))), (11, .c (.v (.bool (decide (v0.1 < (c0.length : Int))))))], [(0, .arr 181 sI3 v0.2)]⟩) c0 (fun v => loopRun [0, 0, 3, 4] (run E (den E k) (lv 65) k (nthLoop Tryz.f65 0)) n (StltoSiteS_0 c0 v) K) v := by kernel_rfl
theorem lltoSiteS_0 {R : Type} (k : Nat) (K : Ex → St → Option R) (c0 : CltoSiteS_0) : ∀ (n : Nat) (v : VltoSiteS_0), loopRun [0, 0, 3, 4] (run E (den E k) (lv 65) k (nthLoop Tryz.f65 0)) n (StltoSiteS_0 c0 v) K = LltoSiteS_0 k (fun (v0 : VltoSiteS_0) => K (.exit 0) ⟨23, 1, [(0, .c (.l 183 sI3 c0)), (3, .c (.ref 0)), (4, .c (.v (.int .i64 v0.1))), (8, .c (.v (.int .i64 v0.1))), (9, .c (.l 183 sI3 c0)), (10, .c (.v (.int .i64 (c0.length : Int)))), (11, .c (.v (.bool (decide (v0.1 < (c0.length : Int))))))], [(0, .arr 181 sI3 v0.2)]⟩) c0 n v := by
  intro n
  induction n with
  | zero => intro v; rfl
  | succ n ih =>
    intro v
    refine (bltoSiteS_0 k n K c0 v).trans ?_
    rw [funext ih]
    kernel_rfl
theorem mltoSiteS_0 (k : Nat) (a0 : List (Int × Int × Int)) : FltoSiteS (k + 1) a0 = if (a0.length : Int) = (a0.length : Int) then if 0 ≤ (a0.length : Int) then if 24 * (a0.length : Int).toNat ≤ 281474976710656 then loopRun (R := List (Int × Int × Int)) [0, 0, 3, 4] (run E (den E k) (lv 65) k (nthLoop Tryz.f65 0)) k (StltoSiteS_0 a0 (0, (List.replicate (a0.length : Int).toNat ((0, 0, 0) : Int × Int × Int)))) (kontAt E (den E k) (lv 65) k (bodyOf Tryz.f65) 0 [] (finish E (rs 65) Tryz.f65 : Ex → St → Option (List (Int × Int × Int)))) else none else none else none := by kernel_rfl
theorem eltoSiteS (k : Nat) (a0 : List (Int × Int × Int)) : FltoSiteS (k + 1) a0 = if (a0.length : Int) = (a0.length : Int) then if 0 ≤ (a0.length : Int) then if 24 * (a0.length : Int).toNat ≤ 281474976710656 then LltoSiteS_0 k (fun (v0 : Int × (List (Int × Int × Int))) => some v0.2) a0 k (0, (List.replicate (a0.length : Int).toNat ((0, 0, 0) : Int × Int × Int))) else none else none else none := by
  rw [mltoSiteS_0]
  simp only [lltoSiteS_0]
  kernel_rfl
/-! loop.example/g00599/laws.toArc -/
noncomputable def FltoArc (k : Nat) (a0 : Int × Int) : Option (Int × Int) := den E k 105 [.agg [.v (.int .i64 a0.1), .v (.int .i64 a0.2)]]
theorem eltoArc (k : Nat) (a0 : Int × Int) : FltoArc (k + 1) a0 = some a0 := by kernel_rfl
/-! loop.example/g00599/laws.toZone -/
noncomputable def FltoZone (k : Nat) (a0 : Int × Int × Int) : Option (Int × Int × Int) := den E k 94 [.agg [.v (.int .i64 a0.1), .v (.int .i64 a0.2.1), .v (.int .i64 a0.2.2)]]
theorem eltoZone (k : Nat) (a0 : Int × Int × Int) : FltoZone (k + 1) a0 = (FltoArc k a0.2).bind fun p1 => some (a0.1, p1) := by kernel_rfl
/-! loop.example/g00599/laws.toZoneS -/
noncomputable def FltoZoneS (k : Nat) (a0 : List (Int × Int × Int)) : Option (List (Int × Int × Int)) := den E k 66 [.c (.l 191 sZone a0)]
abbrev CltoZoneS_0 : Type := (List (Int × Int × Int))
abbrev VltoZoneS_0 : Type := Int × (List (Int × Int × Int))
def StltoZoneS_0 (c0 : CltoZoneS_0) (v0 : VltoZoneS_0) : St := ⟨23, 1, [(0, .c (.l 191 sZone c0)), (3, .c (.ref 0)), (4, .c (.v (.int .i64 v0.1)))], [(0, .arr 187 sZone v0.2)]⟩
noncomputable def BltoZoneS_0 {R : Type} (k : Nat) (X0 : VltoZoneS_0 → Option R) (c0 : CltoZoneS_0) (rec : VltoZoneS_0 → Option R) (v0 : VltoZoneS_0) : Option R := if (decide (v0.1 < (c0.length : Int))) = true then if 0 ≤ v0.1 then ix c0 v0.1.toNat fun x1 => (FltoZone k x1).bind fun p2 => if 0 ≤ v0.1 then if v0.1 < (v0.2.length : Int) then ix v0.2 v0.1.toNat fun y3 => rec ((IntKind.i64.wrap (v0.1 + 1)), (v0.2.set v0.1.toNat p2)) else none else none else none else X0 v0
noncomputable def LltoZoneS_0 {R : Type} (k : Nat) (X0 : VltoZoneS_0 → Option R) (c : CltoZoneS_0) : Nat → VltoZoneS_0 → Option R
  | 0, _ => none
  | n + 1, v => BltoZoneS_0 k X0 c (LltoZoneS_0 k X0 c n) v
theorem bltoZoneS_0 {R : Type} (k n : Nat) (K : Ex → St → Option R) (c0 : CltoZoneS_0) (v : VltoZoneS_0) : loopRun [0, 0, 3, 4] (run E (den E k) (lv 66) k (nthLoop Tryz.f66 0)) (n + 1) (StltoZoneS_0 c0 v) K = BltoZoneS_0 k (fun (v0 : VltoZoneS_0) => K (.exit 0) ⟨23, 1, [(0, .c (.l 191 sZone c0)), (3, .c (.ref 0)), (4, .c (.v (.int .i64 v0.1))), (8, .c (.v (.int .i64 v0.1))), (9, .c (.l 191 sZone c0)), (10, .c (.v (.int .i64 (c0.length : Int)))), (11, .c (.v (.bool (decide (v0.1 < (c0.length : Int))))))], [(0, .arr 187 sZone v0.2)]⟩) c0 (fun v => loopRun [0, 0, 3, 4] (run E (den E k) (lv 66) k (nthLoop Tryz.f66 0)) n (StltoZoneS_0 c0 v) K) v := by kernel_rfl
theorem lltoZoneS_0 {R : Type} (k : Nat) (K : Ex → St → Option R) (c0 : CltoZoneS_0) : ∀ (n : Nat) (v : VltoZoneS_0), loopRun [0, 0, 3, 4] (run E (den E k) (lv 66) k (nthLoop Tryz.f66 0)) n (StltoZoneS_0 c0 v) K = LltoZoneS_0 k (fun (v0 : VltoZoneS_0) => K (.exit 0) ⟨23, 1, [(0, .c (.l 191 sZone c0)), (3, .c (.ref 0)), (4, .c (.v (.int .i64 v0.1))), (8, .c (.v (.int .i64 v0.1))), (9, .c (.l 191 sZone c0)), (10, .c (.v (.int .i64 (c0.length : Int)))), (11, .c (.v (.bool (decide (v0.1 < (c0.length : Int))))))], [(0, .arr 187 sZone v0.2)]⟩) c0 n v := by
  intro n
  induction n with
  | zero => intro v; rfl
  | succ n ih =>
    intro v
    refine (bltoZoneS_0 k n K c0 v).trans ?_
    rw [funext ih]
    kernel_rfl
theorem mltoZoneS_0 (k : Nat) (a0 : List (Int × Int × Int)) : FltoZoneS (k + 1) a0 = if (a0.length : Int) = (a0.length : Int) then if 0 ≤ (a0.length : Int) then if 24 * (a0.length : Int).toNat ≤ 281474976710656 then loopRun (R := List (Int × Int × Int)) [0, 0, 3, 4] (run E (den E k) (lv 66) k (nthLoop Tryz.f66 0)) k (StltoZoneS_0 a0 (0, (List.replicate (a0.length : Int).toNat ((0, (0, 0)) : Int × Int × Int)))) (kontAt E (den E k) (lv 66) k (bodyOf Tryz.f66) 0 [] (finish E (rs 66) Tryz.f66 : Ex → St → Option (List (Int × Int × Int)))) else none else none else none := by kernel_rfl
theorem eltoZoneS (k : Nat) (a0 : List (Int × Int × Int)) : FltoZoneS (k + 1) a0 = if (a0.length : Int) = (a0.length : Int) then if 0 ≤ (a0.length : Int) then if 24 * (a0.length : Int).toNat ≤ 281474976710656 then LltoZoneS_0 k (fun (v0 : Int × (List (Int × Int × Int))) => some v0.2) a0 k (0, (List.replicate (a0.length : Int).toNat ((0, (0, 0)) : Int × Int × Int))) else none else none else none := by
  rw [mltoZoneS_0]
  simp only [lltoZoneS_0]
  kernel_rfl
/-! loop.example/g00599/laws.toSky -/
noncomputable def FltoSky (k : Nat) (a0 : TSky) : Option TSky := den E k 27 [.agg [.v (.int .i64 a0.1), .l 179 sI4 a0.2.1, .l 183 sI3 a0.2.2.1, .v (.int .i64 a0.2.2.2.1), .v (.int .i64 a0.2.2.2.2.1), .v (.int .i64 a0.2.2.2.2.2.1), .v (.int .i64 a0.2.2.2.2.2.2.1), .v (.int .i64 a0.2.2.2.2.2.2.2.1), .l 191 sZone a0.2.2.2.2.2.2.2.2.1, .v (.int .i64 a0.2.2.2.2.2.2.2.2.2)]]
theorem eltoSky (k : Nat) (a0 : TSky) : FltoSky (k + 1) a0 = (FltoSatS k a0.2.1).bind fun p1 => (FltoSiteS k a0.2.2.1).bind fun p2 => (FltoZoneS k a0.2.2.2.2.2.2.2.2.1).bind fun p3 => some (a0.1, p1, p2, a0.2.2.2.1, a0.2.2.2.2.1, a0.2.2.2.2.2.1, a0.2.2.2.2.2.2.1, a0.2.2.2.2.2.2.2.1, p3, a0.2.2.2.2.2.2.2.2.2) := by kernel_rfl
/-! loop.example/g00599/laws.toStream -/
noncomputable def FltoStream (k : Nat) (a0 : Int × Int × List Int) : Option (Int × Int × List Int) := den E k 71 [.agg [.v (.int .i64 a0.1), .v (.int .i64 a0.2.1), .l 3 (.i .i64) a0.2.2]]
theorem eltoStream (k : Nat) (a0 : Int × Int × List Int) : FltoStream (k + 1) a0 = (FltoIntS k a0.2.2).bind fun p1 => some (a0.1, a0.2.1, p1) := by kernel_rfl
/-! loop.example/g00599/laws.toStreamS -/
noncomputable def FltoStreamS (k : Nat) (a0 : List (Int × Int × List Int)) : Option (List (Int × Int × List Int)) := den E k 34 [.c (.l 122 sStream a0)]
abbrev CltoStreamS_0 : Type := (List (Int × Int × List Int))
abbrev VltoStreamS_0 : Type := Int × (List (Int × Int × List Int))
def StltoStreamS_0 (c0 : CltoStreamS_0) (v0 : VltoStreamS_0) : St := ⟨23, 1, [(0, .c (.l 122 sStream c0)), (3, .c (.ref 0)), (4, .c (.v (.int .i64 v0.1)))], [(0, .arr 135 sStream v0.2)]⟩
noncomputable def BltoStreamS_0 {R : Type} (k : Nat) (X0 : VltoStreamS_0 → Option R) (c0 : CltoStreamS_0) (rec : VltoStreamS_0 → Option R) (v0 : VltoStreamS_0) : Option R := if (decide (v0.1 < (c0.length : Int))) = true then if 0 ≤ v0.1 then ix c0 v0.1.toNat fun x1 => (FltoStream k x1).bind fun p2 => if 0 ≤ v0.1 then if v0.1 < (v0.2.length : Int) then ix v0.2 v0.1.toNat fun y3 => rec ((IntKind.i64.wrap (v0.1 + 1)), (v0.2.set v0.1.toNat p2)) else none else none else none else X0 v0
noncomputable def LltoStreamS_0 {R : Type} (k : Nat) (X0 : VltoStreamS_0 → Option R) (c : CltoStreamS_0) : Nat → VltoStreamS_0 → Option R
  | 0, _ => none
  | n + 1, v => BltoStreamS_0 k X0 c (LltoStreamS_0 k X0 c n) v
theorem bltoStreamS_0 {R : Type} (k n : Nat) (K : Ex → St → Option R) (c0 : CltoStreamS_0) (v : VltoStreamS_0) : loopRun [0, 0, 3, 4] (run E (den E k) (lv 34) k (nthLoop Tryz.f34 0)) (n + 1) (StltoStreamS_0 c0 v) K = BltoStreamS_0 k (fun (v0 : VltoStreamS_0) => K (.exit 0) ⟨23, 1, [(0, .c (.l 122 sStream c0)), (3, .c (.ref 0)), (4, .c (.v (.int .i64 v0.1))), (8, .c (.v (.int .i64 v0.1))), (9, .c (.l 122 sStream c0)), (10, .c (.v (.int .i64 (c0.length : Int)))), (11, .c (.v (.bool (decide (v0.1 < (c0.length : Int))))))], [(0, .arr 135 sStream v0.2)]⟩) c0 (fun v => loopRun [0, 0, 3, 4] (run E (den E k) (lv 34) k (nthLoop Tryz.f34 0)) n (StltoStreamS_0 c0 v) K) v := by kernel_rfl
theorem lltoStreamS_0 {R : Type} (k : Nat) (K : Ex → St → Option R) (c0 : CltoStreamS_0) : ∀ (n : Nat) (v : VltoStreamS_0), loopRun [0, 0, 3, 4] (run E (den E k) (lv 34) k (nthLoop Tryz.f34 0)) n (StltoStreamS_0 c0 v) K = LltoStreamS_0 k (fun (v0 : VltoStreamS_0) => K (.exit 0) ⟨23, 1, [(0, .c (.l 122 sStream c0)), (3, .c (.ref 0)), (4, .c (.v (.int .i64 v0.1))), (8, .c (.v (.int .i64 v0.1))), (9, .c (.l 122 sStream c0)), (10, .c (.v (.int .i64 (c0.length : Int)))), (11, .c (.v (.bool (decide (v0.1 < (c0.length : Int))))))], [(0, .arr 135 sStream v0.2)]⟩) c0 n v := by
  intro n
  induction n with
  | zero => intro v; rfl
  | succ n ih =>
    intro v
    refine (bltoStreamS_0 k n K c0 v).trans ?_
    rw [funext ih]
    kernel_rfl
theorem mltoStreamS_0 (k : Nat) (a0 : List (Int × Int × List Int)) : FltoStreamS (k + 1) a0 = if (a0.length : Int) = (a0.length : Int) then if 0 ≤ (a0.length : Int) then if 40 * (a0.length : Int).toNat ≤ 281474976710656 then loopRun (R := List (Int × Int × List Int)) [0, 0, 3, 4] (run E (den E k) (lv 34) k (nthLoop Tryz.f34 0)) k (StltoStreamS_0 a0 (0, (List.replicate (a0.length : Int).toNat ((0, 0, []) : Int × Int × List Int)))) (kontAt E (den E k) (lv 34) k (bodyOf Tryz.f34) 0 [] (finish E (rs 34) Tryz.f34 : Ex → St → Option (List (Int × Int × List Int)))) else none else none else none := by kernel_rfl
theorem eltoStreamS (k : Nat) (a0 : List (Int × Int × List Int)) : FltoStreamS (k + 1) a0 = if (a0.length : Int) = (a0.length : Int) then if 0 ≤ (a0.length : Int) then if 40 * (a0.length : Int).toNat ≤ 281474976710656 then LltoStreamS_0 k (fun (v0 : Int × (List (Int × Int × List Int))) => some v0.2) a0 k (0, (List.replicate (a0.length : Int).toNat ((0, 0, []) : Int × Int × List Int))) else none else none else none := by
  rw [mltoStreamS_0]
  simp only [lltoStreamS_0]
  kernel_rfl
/-! loop.example/g00599/laws.toWorld -/
noncomputable def FltoWorld (k : Nat) (a0 : TWorld) : Option TWorld := den E k 7 [.agg [.v (.int .i64 a0.1.1), .l 179 sI4 a0.1.2.1, .l 183 sI3 a0.1.2.2.1, .v (.int .i64 a0.1.2.2.2.1), .v (.int .i64 a0.1.2.2.2.2.1), .v (.int .i64 a0.1.2.2.2.2.2.1), .v (.int .i64 a0.1.2.2.2.2.2.2.1), .v (.int .i64 a0.1.2.2.2.2.2.2.2.1), .l 191 sZone a0.1.2.2.2.2.2.2.2.2.1, .v (.int .i64 a0.1.2.2.2.2.2.2.2.2.2), .v (.int .i64 a0.2.1.1), .v (.int .i64 a0.2.1.2.1), .v (.int .i64 a0.2.1.2.2.1), .l 175 sLPiece a0.2.1.2.2.2, .l 3 (.i .i64) a0.2.2.1, .l 3 (.i .i64) a0.2.2.2.1, .l 129 sI6 a0.2.2.2.2.1, .l 119 sLQueue a0.2.2.2.2.2.1, .l 134 sI4 a0.2.2.2.2.2.2.1, .l 3 (.i .i64) a0.2.2.2.2.2.2.2.1, .l 122 sStream a0.2.2.2.2.2.2.2.2.1, .l 140 sI4 a0.2.2.2.2.2.2.2.2.2.1, .v (.int .i64 a0.2.2.2.2.2.2.2.2.2.2.1), .v (.int .i64 a0.2.2.2.2.2.2.2.2.2.2.2.1), .l 144 sI6 a0.2.2.2.2.2.2.2.2.2.2.2.2.1, .l 148 sI4 a0.2.2.2.2.2.2.2.2.2.2.2.2.2]]
theorem eltoWorld (k : Nat) (a0 : TWorld) : FltoWorld (k + 1) a0 = (FltoSky k a0.1).bind fun p1 => (FltoProgram k a0.2.1).bind fun p2 => (FltoLaw k a0.2.2.1).bind fun p3 => (FltoIntS k a0.2.2.2.1).bind fun p4 => (FltoBatteryS k a0.2.2.2.2.1).bind fun p5 => (FltoQueueS k a0.2.2.2.2.2.1).bind fun p6 => (FltoFlowS k a0.2.2.2.2.2.2.1).bind fun p7 => (FltoIntS k a0.2.2.2.2.2.2.2.1).bind fun p8 => (FltoStreamS k a0.2.2.2.2.2.2.2.2.1).bind fun p9 => (FltoFaultS k a0.2.2.2.2.2.2.2.2.2.1).bind fun p10 => (FltoPacketS k a0.2.2.2.2.2.2.2.2.2.2.2.2.1).bind fun p11 => (FltoSentS k a0.2.2.2.2.2.2.2.2.2.2.2.2.2).bind fun p12 => some (p1, p2, p3, p4, p5, p6, p7, p8, p9, p10, a0.2.2.2.2.2.2.2.2.2.2.1, a0.2.2.2.2.2.2.2.2.2.2.2.1, p11, p12) := by kernel_rfl
/-! loop.example/g00599/spec.FormatInt -/
noncomputable def FsFormatInt (k : Nat) (a0 : Int) : Option (ByteArray) := den E k 26 [.c (.v (.int .i64 a0))]
abbrev CsFormatInt_0 : Type := Int
abbrev VsFormatInt_0 : Type := ByteArray × Int
def StsFormatInt_0 (c0 : CsFormatInt_0) (v0 : VsFormatInt_0) : St := ⟨31, 0, [(0, .c (.v (.int .i64 c0))), (3, .c (.v (.string v0.1))), (4, .c (.v (.int .i64 v0.2)))], []⟩
noncomputable def BsFormatInt_0 {R : Type} (k : Nat) (X0 : VsFormatInt_0 → Option R) (c0 : CsFormatInt_0) (rec : VsFormatInt_0 → Option R) (v0 : VsFormatInt_0) : Option R := if (v0.2 != 0) = true then if (decide (((v0.2).tmod 10) < 0)) = true then if ((bytesOf [(IntKind.u8.wrap (IntKind.i64.wrap (48 + (IntKind.i64.wrap (0 - ((v0.2).tmod 10))))))])).size + (v0.1).size ≤ 9223372036854775807 then rec (((bytesOf [(IntKind.u8.wrap (IntKind.i64.wrap (48 + (IntKind.i64.wrap (0 - ((v0.2).tmod 10))))))]) ++ v0.1), (IntKind.i64.wrap ((v0.2).tdiv 10))) else none else if ((bytesOf [(IntKind.u8.wrap (IntKind.i64.wrap (48 + ((v0.2).tmod 10))))])).size + (v0.1).size ≤ 9223372036854775807 then rec (((bytesOf [(IntKind.u8.wrap (IntKind.i64.wrap (48 + ((v0.2).tmod 10))))]) ++ v0.1), (IntKind.i64.wrap ((v0.2).tdiv 10))) else none else X0 v0
noncomputable def LsFormatInt_0 {R : Type} (k : Nat) (X0 : VsFormatInt_0 → Option R) (c : CsFormatInt_0) : Nat → VsFormatInt_0 → Option R
  | 0, _ => none
  | n + 1, v => BsFormatInt_0 k X0 c (LsFormatInt_0 k X0 c n) v
theorem bsFormatInt_0 {R : Type} (k n : Nat) (K : Ex → St → Option R) (c0 : CsFormatInt_0) (v : VsFormatInt_0) : loopRun [0, 0, 3, 4] (run E (den E k) (lv 26) k (nthLoop Tryz.f26 0)) (n + 1) (StsFormatInt_0 c0 v) K = BsFormatInt_0 k (fun (v0 : VsFormatInt_0) => K (.exit 0) ⟨31, 0, [(0, .c (.v (.int .i64 c0))), (3, .c (.v (.string v0.1))), (4, .c (.v (.int .i64 v0.2))), (9, .c (.v (.int .i64 v0.2))), (10, .c (.v (.bool (v0.2 != 0))))], []⟩) c0 (fun v => loopRun [0, 0, 3, 4] (run E (den E k) (lv 26) k (nthLoop Tryz.f26 0)) n (StsFormatInt_0 c0 v) K) v := by kernel_rfl
theorem lsFormatInt_0 {R : Type} (k : Nat) (K : Ex → St → Option R) (c0 : CsFormatInt_0) : ∀ (n : Nat) (v : VsFormatInt_0), loopRun [0, 0, 3, 4] (run E (den E k) (lv 26) k (nthLoop Tryz.f26 0)) n (StsFormatInt_0 c0 v) K = LsFormatInt_0 k (fun (v0 : VsFormatInt_0) => K (.exit 0) ⟨31, 0, [(0, .c (.v (.int .i64 c0))), (3, .c (.v (.string v0.1))), (4, .c (.v (.int .i64 v0.2))), (9, .c (.v (.int .i64 v0.2))), (10, .c (.v (.bool (v0.2 != 0))))], []⟩) c0 n v := by
  intro n
  induction n with
  | zero => intro v; rfl
  | succ n ih =>
    intro v
    refine (bsFormatInt_0 k n K c0 v).trans ?_
    rw [funext ih]
    kernel_rfl
theorem msFormatInt_0 (k : Nat) (a0 : Int) : FsFormatInt (k + 1) a0 = if (a0 == 0) = true then some (⟨#[48]⟩ : ByteArray) else loopRun (R := ByteArray) [0, 0, 3, 4] (run E (den E k) (lv 26) k (nthLoop Tryz.f26 0)) k (StsFormatInt_0 a0 ((⟨#[]⟩ : ByteArray), a0)) (kontAt E (den E k) (lv 26) k (bodyOf Tryz.f26) 0 [] (finish E (rs 26) Tryz.f26 : Ex → St → Option (ByteArray))) := by kernel_rfl
theorem esFormatInt (k : Nat) (a0 : Int) : FsFormatInt (k + 1) a0 = if (a0 == 0) = true then some (⟨#[48]⟩ : ByteArray) else LsFormatInt_0 k (fun (v0 : ByteArray × Int) => if (decide (a0 < 0)) = true then if ((⟨#[45]⟩ : ByteArray)).size + (v0.1).size ≤ 9223372036854775807 then some ((⟨#[45]⟩ : ByteArray) ++ v0.1) else none else some v0.1) a0 k ((⟨#[]⟩ : ByteArray), a0) := by
  rw [msFormatInt_0]
  simp only [lsFormatInt_0]
  kernel_rfl
/-! loop.example/g00599/spec.NodesOf -/
noncomputable def FsNodesOf (k : Nat) (a0 : TSky) : Option (Int) := den E k 24 [.agg [.v (.int .i64 a0.1), .l 177 sI4 a0.2.1, .l 181 sI3 a0.2.2.1, .v (.int .i64 a0.2.2.2.1), .v (.int .i64 a0.2.2.2.2.1), .v (.int .i64 a0.2.2.2.2.2.1), .v (.int .i64 a0.2.2.2.2.2.2.1), .v (.int .i64 a0.2.2.2.2.2.2.2.1), .l 187 sZone a0.2.2.2.2.2.2.2.2.1, .v (.int .i64 a0.2.2.2.2.2.2.2.2.2)]]
theorem esNodesOf (k : Nat) (a0 : TSky) : FsNodesOf (k + 1) a0 = some (IntKind.i64.wrap ((a0.2.1.length : Int) + (a0.2.2.1.length : Int))) := by kernel_rfl
/-! loop.example/g00599/spec.l1In -/
noncomputable def Fsl1In (k : Nat) (a0 : Int) (a1 : Int) (a2 : Int) : Option (Bool) := den E k 23 [.c (.v (.int .i64 a0)), .c (.v (.int .i64 a1)), .c (.v (.int .i64 a2))]
theorem esl1In (k : Nat) (a0 : Int) (a1 : Int) (a2 : Int) : Fsl1In (k + 1) a0 a1 a2 = if ((decide (a0 ≥ a1)) == true) = true then some (decide (a0 ≤ a2)) else some false := by kernel_rfl
/-! loop.example/g00599/spec.IsSite -/
noncomputable def FsIsSite (k : Nat) (a0 : TSky) (a1 : Int) : Option (Bool) := den E k 25 [.agg [.v (.int .i64 a0.1), .l 177 sI4 a0.2.1, .l 181 sI3 a0.2.2.1, .v (.int .i64 a0.2.2.2.1), .v (.int .i64 a0.2.2.2.2.1), .v (.int .i64 a0.2.2.2.2.2.1), .v (.int .i64 a0.2.2.2.2.2.2.1), .v (.int .i64 a0.2.2.2.2.2.2.2.1), .l 187 sZone a0.2.2.2.2.2.2.2.2.1, .v (.int .i64 a0.2.2.2.2.2.2.2.2.2)], .c (.v (.int .i64 a1))]
theorem esIsSite (k : Nat) (a0 : TSky) (a1 : Int) : FsIsSite (k + 1) a0 a1 = (FsNodesOf k a0).bind fun p1 => (Fsl1In k a1 (a0.2.1.length : Int) (IntKind.i64.wrap (p1 - 1))).bind fun p2 => some p2 := by kernel_rfl
/-! loop.example/g00599/spec.FormatNode -/
noncomputable def FsFormatNode (k : Nat) (a0 : TWorld) (a1 : Int) : Option (ByteArray) := den E k 6 [.agg [.v (.int .i64 a0.1.1), .l 177 sI4 a0.1.2.1, .l 181 sI3 a0.1.2.2.1, .v (.int .i64 a0.1.2.2.2.1), .v (.int .i64 a0.1.2.2.2.2.1), .v (.int .i64 a0.1.2.2.2.2.2.1), .v (.int .i64 a0.1.2.2.2.2.2.2.1), .v (.int .i64 a0.1.2.2.2.2.2.2.2.1), .l 187 sZone a0.1.2.2.2.2.2.2.2.2.1, .v (.int .i64 a0.1.2.2.2.2.2.2.2.2.2), .v (.int .i64 a0.2.1.1), .v (.int .i64 a0.2.1.2.1), .v (.int .i64 a0.2.1.2.2.1), .l 196 sPiece a0.2.1.2.2.2, .l 3 (.i .i64) a0.2.2.1, .l 3 (.i .i64) a0.2.2.2.1, .l 85 sI6 a0.2.2.2.2.1, .l 83 sQueue a0.2.2.2.2.2.1, .l 132 sI4 a0.2.2.2.2.2.2.1, .l 3 (.i .i64) a0.2.2.2.2.2.2.2.1, .l 135 sStream a0.2.2.2.2.2.2.2.2.1, .l 138 sI4 a0.2.2.2.2.2.2.2.2.2.1, .v (.int .i64 a0.2.2.2.2.2.2.2.2.2.2.1), .v (.int .i64 a0.2.2.2.2.2.2.2.2.2.2.2.1), .l 142 sI6 a0.2.2.2.2.2.2.2.2.2.2.2.2.1, .l 146 sI4 a0.2.2.2.2.2.2.2.2.2.2.2.2.2], .c (.v (.int .i64 a1))]
theorem esFormatNode (k : Nat) (a0 : TWorld) (a1 : Int) : FsFormatNode (k + 1) a0 a1 = (FsNodesOf k a0.1).bind fun p1 => (Fsl1In k a1 0 (IntKind.i64.wrap (p1 - 1))).bind fun p2 => if ((!p2) == false) = true then if (decide (a1 ≥ (a0.2.2.2.2.2.1.length : Int))) = true then some (⟨#[]⟩ : ByteArray) else (FsIsSite k a0.1 a1).bind fun p3 => if p3 = true then (FsFormatInt k a1).bind fun p4 => if ((⟨#[103]⟩ : ByteArray)).size + (p4).size ≤ 9223372036854775807 then if (((⟨#[103]⟩ : ByteArray) ++ p4)).size + ((⟨#[32, 113]⟩ : ByteArray)).size ≤ 9223372036854775807 then if 0 ≤ a1 then ix a0.2.2.2.2.2.1 a1.toNat fun x5 => (FsFormatInt k (x5.length : Int)).bind fun p6 => if ((((⟨#[103]⟩ : ByteArray) ++ p4) ++ (⟨#[32, 113]⟩ : ByteArray))).size + (p6).size ≤ 9223372036854775807 then (FsIsSite k a0.1 a1).bind fun p7 => if ((!p7) == true) = true then if (decide (a1 < (a0.2.2.2.2.1.length : Int))) = true then if (((((⟨#[103]⟩ : ByteArray) ++ p4) ++ (⟨#[32, 113]⟩ : ByteArray)) ++ p6)).size + ((⟨#[32, 98]⟩ : ByteArray)).size ≤ 9223372036854775807 then if 0 ≤ a1 then ix a0.2.2.2.2.1 a1.toNat fun x8 => (FsFormatInt k x8.1).bind fun p9 => if ((((((⟨#[103]⟩ : ByteArray) ++ p4) ++ (⟨#[32, 113]⟩ : ByteArray)) ++ p6) ++ (⟨#[32, 98]⟩ : ByteArray))).size + (p9).size ≤ 9223372036854775807 then some ((((((⟨#[103]⟩ : ByteArray) ++ p4) ++ (⟨#[32, 113]⟩ : ByteArray)) ++ p6) ++ (⟨#[32, 98]⟩ : ByteArray)) ++ p9) else none else none else none else some ((((⟨#[103]⟩ : ByteArray) ++ p4) ++ (⟨#[32, 113]⟩ : ByteArray)) ++ p6) else some ((((⟨#[103]⟩ : ByteArray) ++ p4) ++ (⟨#[32, 113]⟩ : ByteArray)) ++ p6) else none else none else none else none else (FsFormatInt k a1).bind fun p10 => if ((⟨#[115]⟩ : ByteArray)).size + (p10).size ≤ 9223372036854775807 then if (((⟨#[115]⟩ : ByteArray) ++ p10)).size + ((⟨#[32, 113]⟩ : ByteArray)).size ≤ 9223372036854775807 then if 0 ≤ a1 then ix a0.2.2.2.2.2.1 a1.toNat fun x11 => (FsFormatInt k (x11.length : Int)).bind fun p12 => if ((((⟨#[115]⟩ : ByteArray) ++ p10) ++ (⟨#[32, 113]⟩ : ByteArray))).size + (p12).size ≤ 9223372036854775807 then (FsIsSite k a0.1 a1).bind fun p13 => if ((!p13) == true) = true then if (decide (a1 < (a0.2.2.2.2.1.length : Int))) = true then if (((((⟨#[115]⟩ : ByteArray) ++ p10) ++ (⟨#[32, 113]⟩ : ByteArray)) ++ p12)).size + ((⟨#[32, 98]⟩ : ByteArray)).size ≤ 9223372036854775807 then if 0 ≤ a1 then ix a0.2.2.2.2.1 a1.toNat fun x14 => (FsFormatInt k x14.1).bind fun p15 => if ((((((⟨#[115]⟩ : ByteArray) ++ p10) ++ (⟨#[32, 113]⟩ : ByteArray)) ++ p12) ++ (⟨#[32, 98]⟩ : ByteArray))).size + (p15).size ≤ 9223372036854775807 then some ((((((⟨#[115]⟩ : ByteArray) ++ p10) ++ (⟨#[32, 113]⟩ : ByteArray)) ++ p12) ++ (⟨#[32, 98]⟩ : ByteArray)) ++ p15) else none else none else none else some ((((⟨#[115]⟩ : ByteArray) ++ p10) ++ (⟨#[32, 113]⟩ : ByteArray)) ++ p12) else some ((((⟨#[115]⟩ : ByteArray) ++ p10) ++ (⟨#[32, 113]⟩ : ByteArray)) ++ p12) else none else none else none else none else some (⟨#[]⟩ : ByteArray) := by kernel_rfl
/-! loop.example/g00599/laws.FnExactFormatNode -/
noncomputable def FlFnExactFormatNode (k : Nat) (a0 : TWorld) (a1 : Int) : Option (Bool) := den E k 3 [.agg [.v (.int .i64 a0.1.1), .l 179 sI4 a0.1.2.1, .l 183 sI3 a0.1.2.2.1, .v (.int .i64 a0.1.2.2.2.1), .v (.int .i64 a0.1.2.2.2.2.1), .v (.int .i64 a0.1.2.2.2.2.2.1), .v (.int .i64 a0.1.2.2.2.2.2.2.1), .v (.int .i64 a0.1.2.2.2.2.2.2.2.1), .l 191 sZone a0.1.2.2.2.2.2.2.2.2.1, .v (.int .i64 a0.1.2.2.2.2.2.2.2.2.2), .v (.int .i64 a0.2.1.1), .v (.int .i64 a0.2.1.2.1), .v (.int .i64 a0.2.1.2.2.1), .l 175 sLPiece a0.2.1.2.2.2, .l 3 (.i .i64) a0.2.2.1, .l 3 (.i .i64) a0.2.2.2.1, .l 129 sI6 a0.2.2.2.2.1, .l 119 sLQueue a0.2.2.2.2.2.1, .l 134 sI4 a0.2.2.2.2.2.2.1, .l 3 (.i .i64) a0.2.2.2.2.2.2.2.1, .l 122 sStream a0.2.2.2.2.2.2.2.2.1, .l 140 sI4 a0.2.2.2.2.2.2.2.2.2.1, .v (.int .i64 a0.2.2.2.2.2.2.2.2.2.2.1), .v (.int .i64 a0.2.2.2.2.2.2.2.2.2.2.2.1), .l 144 sI6 a0.2.2.2.2.2.2.2.2.2.2.2.2.1, .l 148 sI4 a0.2.2.2.2.2.2.2.2.2.2.2.2.2], .c (.v (.int .i64 a1))]
theorem elFnExactFormatNode (k : Nat) (a0 : TWorld) (a1 : Int) : FlFnExactFormatNode (k + 1) a0 a1 = (FlszWorld k a0 1048576).bind fun p1 => if (decide (p1 < 0)) = true then some true else (FltoWorld k a0).bind fun p2 => (FsFormatNode k p2 a1).bind fun p3 => (FltoWorld k a0).bind fun p4 => (FiFormatNode k p4 a1).bind fun p5 => if (!((p5).toList == (p3).toList)) = true then some false else (FltoWorld k a0).bind fun p6 => (FleqWorld k p4 p6).bind fun p7 => if (!p7) = true then some false else some true := by kernel_rfl
/-! strings.Join -/
noncomputable def FgJoin (k : Nat) (a0 : List ByteArray) (a1 : ByteArray) : Option (ByteArray) := den E k 57 [.c (.l 9 .s a0), .c (.v (.string a1))]
theorem egJoin (k : Nat) (a0 : List ByteArray) (a1 : ByteArray) : FgJoin (k + 1) a0 a1 = if a0.length ≤ 140737488355328 then if (joinB a0 a1).size ≤ 140737488355328 then some (joinB a0 a1) else none else none := by kernel_rfl
/-! loop.example/g00599/impl.WaitingIn -/
noncomputable def FiWaitingIn (k : Nat) (a0 : TWorld) : Option (Int) := den E k 56 [.agg [.v (.int .i64 a0.1.1), .l 177 sI4 a0.1.2.1, .l 181 sI3 a0.1.2.2.1, .v (.int .i64 a0.1.2.2.2.1), .v (.int .i64 a0.1.2.2.2.2.1), .v (.int .i64 a0.1.2.2.2.2.2.1), .v (.int .i64 a0.1.2.2.2.2.2.2.1), .v (.int .i64 a0.1.2.2.2.2.2.2.2.1), .l 187 sZone a0.1.2.2.2.2.2.2.2.2.1, .v (.int .i64 a0.1.2.2.2.2.2.2.2.2.2), .v (.int .i64 a0.2.1.1), .v (.int .i64 a0.2.1.2.1), .v (.int .i64 a0.2.1.2.2.1), .l 196 sPiece a0.2.1.2.2.2, .l 3 (.i .i64) a0.2.2.1, .l 3 (.i .i64) a0.2.2.2.1, .l 85 sI6 a0.2.2.2.2.1, .l 83 sQueue a0.2.2.2.2.2.1, .l 132 sI4 a0.2.2.2.2.2.2.1, .l 3 (.i .i64) a0.2.2.2.2.2.2.2.1, .l 135 sStream a0.2.2.2.2.2.2.2.2.1, .l 138 sI4 a0.2.2.2.2.2.2.2.2.2.1, .v (.int .i64 a0.2.2.2.2.2.2.2.2.2.2.1), .v (.int .i64 a0.2.2.2.2.2.2.2.2.2.2.2.1), .l 142 sI6 a0.2.2.2.2.2.2.2.2.2.2.2.2.1, .l 146 sI4 a0.2.2.2.2.2.2.2.2.2.2.2.2.2]]
abbrev CiWaitingIn_0 : Type := (List (List (Int × Int × Int × Int × Int × Int))) × Int
abbrev ViWaitingIn_0 : Type := Int × Int
def StiWaitingIn_0 (c0 : CiWaitingIn_0) (v0 : ViWaitingIn_0) : St := ⟨20, 0, [(3, .c (.v (.int .i64 v0.1))), (7, .c (.l 83 sQueue c0.1)), (8, .c (.v (.int .i64 c0.2))), (9, .c (.v (.int .i64 v0.2)))], []⟩
noncomputable def BiWaitingIn_0 {R : Type} (k : Nat) (X0 : ViWaitingIn_0 → Option R) (c0 : CiWaitingIn_0) (rec : ViWaitingIn_0 → Option R) (v0 : ViWaitingIn_0) : Option R := if (decide (v0.2 < c0.2)) = true then if 0 ≤ v0.2 then ix c0.1 v0.2.toNat fun x1 => rec ((IntKind.i64.wrap (v0.1 + (x1.length : Int))), (IntKind.i64.wrap (v0.2 + 1))) else none else X0 v0
noncomputable def LiWaitingIn_0 {R : Type} (k : Nat) (X0 : ViWaitingIn_0 → Option R) (c : CiWaitingIn_0) : Nat → ViWaitingIn_0 → Option R
  | 0, _ => none
  | n + 1, v => BiWaitingIn_0 k X0 c (LiWaitingIn_0 k X0 c n) v
theorem biWaitingIn_0 {R : Type} (k n : Nat) (K : Ex → St → Option R) (c0 : CiWaitingIn_0) (v : ViWaitingIn_0) : loopRun [0, 3, 7, 8, 9] (run E (den E k) (lv 56) k (nthLoop Tryz.f56 0)) (n + 1) (StiWaitingIn_0 c0 v) K = BiWaitingIn_0 k (fun (v0 : ViWaitingIn_0) => K (.exit 0) ⟨20, 0, [(3, .c (.v (.int .i64 v0.1))), (7, .c (.l 83 sQueue c0.1)), (8, .c (.v (.int .i64 c0.2))), (9, .c (.v (.int .i64 v0.2))), (10, .c (.v (.bool (decide (v0.2 < c0.2)))))], []⟩) c0 (fun v => loopRun [0, 3, 7, 8, 9] (run E (den E k) (lv 56) k (nthLoop Tryz.f56 0)) n (StiWaitingIn_0 c0 v) K) v := by kernel_rfl
theorem liWaitingIn_0 {R : Type} (k : Nat) (K : Ex → St → Option R) (c0 : CiWaitingIn_0) : ∀ (n : Nat) (v : ViWaitingIn_0), loopRun [0, 3, 7, 8, 9] (run E (den E k) (lv 56) k (nthLoop Tryz.f56 0)) n (StiWaitingIn_0 c0 v) K = LiWaitingIn_0 k (fun (v0 : ViWaitingIn_0) => K (.exit 0) ⟨20, 0, [(3, .c (.v (.int .i64 v0.1))), (7, .c (.l 83 sQueue c0.1)), (8, .c (.v (.int .i64 c0.2))), (9, .c (.v (.int .i64 v0.2))), (10, .c (.v (.bool (decide (v0.2 < c0.2)))))], []⟩) c0 n v := by
  intro n
  induction n with
  | zero => intro v; rfl
  | succ n ih =>
    intro v
    refine (biWaitingIn_0 k n K c0 v).trans ?_
    rw [funext ih]
    kernel_rfl
theorem miWaitingIn_0 (k : Nat) (a0 : TWorld) : FiWaitingIn (k + 1) a0 = loopRun (R := Int) [0, 3, 7, 8, 9] (run E (den E k) (lv 56) k (nthLoop Tryz.f56 0)) k (StiWaitingIn_0 (a0.2.2.2.2.2.1, (a0.2.2.2.2.2.1.length : Int)) (0, 0)) (kontAt E (den E k) (lv 56) k (bodyOf Tryz.f56) 0 [] (finish E (rs 56) Tryz.f56 : Ex → St → Option (Int))) := by kernel_rfl
theorem eiWaitingIn (k : Nat) (a0 : TWorld) : FiWaitingIn (k + 1) a0 = LiWaitingIn_0 k (fun (v0 : Int × Int) => some v0.1) (a0.2.2.2.2.2.1, (a0.2.2.2.2.2.1.length : Int)) k (0, 0) := by
  rw [miWaitingIn_0]
  simp only [liWaitingIn_0]
  kernel_rfl
/-! loop.example/g00599/impl.FormatWorld -/
noncomputable def FiFormatWorld (k : Nat) (a0 : TWorld) : Option (ByteArray) := den E k 11 [.agg [.v (.int .i64 a0.1.1), .l 177 sI4 a0.1.2.1, .l 181 sI3 a0.1.2.2.1, .v (.int .i64 a0.1.2.2.2.1), .v (.int .i64 a0.1.2.2.2.2.1), .v (.int .i64 a0.1.2.2.2.2.2.1), .v (.int .i64 a0.1.2.2.2.2.2.2.1), .v (.int .i64 a0.1.2.2.2.2.2.2.2.1), .l 187 sZone a0.1.2.2.2.2.2.2.2.2.1, .v (.int .i64 a0.1.2.2.2.2.2.2.2.2.2), .v (.int .i64 a0.2.1.1), .v (.int .i64 a0.2.1.2.1), .v (.int .i64 a0.2.1.2.2.1), .l 196 sPiece a0.2.1.2.2.2, .l 3 (.i .i64) a0.2.2.1, .l 3 (.i .i64) a0.2.2.2.1, .l 85 sI6 a0.2.2.2.2.1, .l 83 sQueue a0.2.2.2.2.2.1, .l 132 sI4 a0.2.2.2.2.2.2.1, .l 3 (.i .i64) a0.2.2.2.2.2.2.2.1, .l 135 sStream a0.2.2.2.2.2.2.2.2.1, .l 138 sI4 a0.2.2.2.2.2.2.2.2.2.1, .v (.int .i64 a0.2.2.2.2.2.2.2.2.2.2.1), .v (.int .i64 a0.2.2.2.2.2.2.2.2.2.2.2.1), .l 142 sI6 a0.2.2.2.2.2.2.2.2.2.2.2.2.1, .l 146 sI4 a0.2.2.2.2.2.2.2.2.2.2.2.2.2]]
abbrev CiFormatWorld_0 : Type := (List (Int × Int × Int × Int × Int × Int)) × Int × TWorld
abbrev ViFormatWorld_0 : Type := Int × (List ByteArray)
def StiFormatWorld_0 (c0 : CiFormatWorld_0) (v0 : ViFormatWorld_0) : St := ⟨50, 2, [(1, .c (.ptr 0 0)), (3, .c (.ref 1)), (8, .c (.l 85 sI6 c0.1)), (9, .c (.v (.int .i64 c0.2.1))), (10, .c (.v (.int .i64 v0.1)))], [(0, .var [.v (.int .i64 c0.2.2.1.1), .l 177 sI4 c0.2.2.1.2.1, .l 181 sI3 c0.2.2.1.2.2.1, .v (.int .i64 c0.2.2.1.2.2.2.1), .v (.int .i64 c0.2.2.1.2.2.2.2.1), .v (.int .i64 c0.2.2.1.2.2.2.2.2.1), .v (.int .i64 c0.2.2.1.2.2.2.2.2.2.1), .v (.int .i64 c0.2.2.1.2.2.2.2.2.2.2.1), .l 187 sZone c0.2.2.1.2.2.2.2.2.2.2.2.1, .v (.int .i64 c0.2.2.1.2.2.2.2.2.2.2.2.2), .v (.int .i64 c0.2.2.2.1.1), .v (.int .i64 c0.2.2.2.1.2.1), .v (.int .i64 c0.2.2.2.1.2.2.1), .l 196 sPiece c0.2.2.2.1.2.2.2, .l 3 (.i .i64) c0.2.2.2.2.1, .l 3 (.i .i64) c0.2.2.2.2.2.1, .l 85 sI6 c0.2.2.2.2.2.2.1, .l 83 sQueue c0.2.2.2.2.2.2.2.1, .l 132 sI4 c0.2.2.2.2.2.2.2.2.1, .l 3 (.i .i64) c0.2.2.2.2.2.2.2.2.2.1, .l 135 sStream c0.2.2.2.2.2.2.2.2.2.2.1, .l 138 sI4 c0.2.2.2.2.2.2.2.2.2.2.2.1, .v (.int .i64 c0.2.2.2.2.2.2.2.2.2.2.2.2.1), .v (.int .i64 c0.2.2.2.2.2.2.2.2.2.2.2.2.2.1), .l 142 sI6 c0.2.2.2.2.2.2.2.2.2.2.2.2.2.2.1, .l 146 sI4 c0.2.2.2.2.2.2.2.2.2.2.2.2.2.2.2]), (1, .arr 9 .s v0.2)]⟩
noncomputable def BiFormatWorld_0 {R : Type} (k : Nat) (X0 : ViFormatWorld_0 → Option R) (c0 : CiFormatWorld_0) (rec : ViFormatWorld_0 → Option R) (v0 : ViFormatWorld_0) : Option R := if (decide (v0.1 < c0.2.1)) = true then if 0 ≤ v0.1 then ix c0.1 v0.1.toNat fun x1 => (FiFormatInt k x1.1).bind fun p2 => if (v0.2.length + ([p2]).length) * 16 ≤ 140737488355328 then rec ((IntKind.i64.wrap (v0.1 + 1)), (v0.2 ++ [p2])) else none else none else X0 v0
noncomputable def LiFormatWorld_0 {R : Type} (k : Nat) (X0 : ViFormatWorld_0 → Option R) (c : CiFormatWorld_0) : Nat → ViFormatWorld_0 → Option R
  | 0, _ => none
  | n + 1, v => BiFormatWorld_0 k X0 c (LiFormatWorld_0 k X0 c n) v
theorem biFormatWorld_0 {R : Type} (k n : Nat) (K : Ex → St → Option R) (c0 : CiFormatWorld_0) (v : ViFormatWorld_0) : loopRun [0, 1, 3, 8, 9, 10] (run E (den E k) (lv 11) k (nthLoop Tryz.f11 0)) (n + 1) (StiFormatWorld_0 c0 v) K = BiFormatWorld_0 k (fun (v0 : ViFormatWorld_0) => K (.exit 0) ⟨50, 2, [(1, .c (.ptr 0 0)), (3, .c (.ref 1)), (8, .c (.l 85 sI6 c0.1)), (9, .c (.v (.int .i64 c0.2.1))), (10, .c (.v (.int .i64 v0.1))), (11, .c (.v (.bool (decide (v0.1 < c0.2.1)))))], [(0, .var [.v (.int .i64 c0.2.2.1.1), .l 177 sI4 c0.2.2.1.2.1, .l 181 sI3 c0.2.2.1.2.2.1, .v (.int .i64 c0.2.2.1.2.2.2.1), .v (.int .i64 c0.2.2.1.2.2.2.2.1), .v (.int .i64 c0.2.2.1.2.2.2.2.2.1), .v (.int .i64 c0.2.2.1.2.2.2.2.2.2.1), .v (.int .i64 c0.2.2.1.2.2.2.2.2.2.2.1), .l 187 sZone c0.2.2.1.2.2.2.2.2.2.2.2.1, .v (.int .i64 c0.2.2.1.2.2.2.2.2.2.2.2.2), .v (.int .i64 c0.2.2.2.1.1), .v (.int .i64 c0.2.2.2.1.2.1), .v (.int .i64 c0.2.2.2.1.2.2.1), .l 196 sPiece c0.2.2.2.1.2.2.2, .l 3 (.i .i64) c0.2.2.2.2.1, .l 3 (.i .i64) c0.2.2.2.2.2.1, .l 85 sI6 c0.2.2.2.2.2.2.1, .l 83 sQueue c0.2.2.2.2.2.2.2.1, .l 132 sI4 c0.2.2.2.2.2.2.2.2.1, .l 3 (.i .i64) c0.2.2.2.2.2.2.2.2.2.1, .l 135 sStream c0.2.2.2.2.2.2.2.2.2.2.1, .l 138 sI4 c0.2.2.2.2.2.2.2.2.2.2.2.1, .v (.int .i64 c0.2.2.2.2.2.2.2.2.2.2.2.2.1), .v (.int .i64 c0.2.2.2.2.2.2.2.2.2.2.2.2.2.1), .l 142 sI6 c0.2.2.2.2.2.2.2.2.2.2.2.2.2.2.1, .l 146 sI4 c0.2.2.2.2.2.2.2.2.2.2.2.2.2.2.2]), (1, .arr 9 .s v0.2)]⟩) c0 (fun v => loopRun [0, 1, 3, 8, 9, 10] (run E (den E k) (lv 11) k (nthLoop Tryz.f11 0)) n (StiFormatWorld_0 c0 v) K) v := by kernel_rfl
theorem liFormatWorld_0 {R : Type} (k : Nat) (K : Ex → St → Option R) (c0 : CiFormatWorld_0) : ∀ (n : Nat) (v : ViFormatWorld_0), loopRun [0, 1, 3, 8, 9, 10] (run E (den E k) (lv 11) k (nthLoop Tryz.f11 0)) n (StiFormatWorld_0 c0 v) K = LiFormatWorld_0 k (fun (v0 : ViFormatWorld_0) => K (.exit 0) ⟨50, 2, [(1, .c (.ptr 0 0)), (3, .c (.ref 1)), (8, .c (.l 85 sI6 c0.1)), (9, .c (.v (.int .i64 c0.2.1))), (10, .c (.v (.int .i64 v0.1))), (11, .c (.v (.bool (decide (v0.1 < c0.2.1)))))], [(0, .var [.v (.int .i64 c0.2.2.1.1), .l 177 sI4 c0.2.2.1.2.1, .l 181 sI3 c0.2.2.1.2.2.1, .v (.int .i64 c0.2.2.1.2.2.2.1), .v (.int .i64 c0.2.2.1.2.2.2.2.1), .v (.int .i64 c0.2.2.1.2.2.2.2.2.1), .v (.int .i64 c0.2.2.1.2.2.2.2.2.2.1), .v (.int .i64 c0.2.2.1.2.2.2.2.2.2.2.1), .l 187 sZone c0.2.2.1.2.2.2.2.2.2.2.2.1, .v (.int .i64 c0.2.2.1.2.2.2.2.2.2.2.2.2), .v (.int .i64 c0.2.2.2.1.1), .v (.int .i64 c0.2.2.2.1.2.1), .v (.int .i64 c0.2.2.2.1.2.2.1), .l 196 sPiece c0.2.2.2.1.2.2.2, .l 3 (.i .i64) c0.2.2.2.2.1, .l 3 (.i .i64) c0.2.2.2.2.2.1, .l 85 sI6 c0.2.2.2.2.2.2.1, .l 83 sQueue c0.2.2.2.2.2.2.2.1, .l 132 sI4 c0.2.2.2.2.2.2.2.2.1, .l 3 (.i .i64) c0.2.2.2.2.2.2.2.2.2.1, .l 135 sStream c0.2.2.2.2.2.2.2.2.2.2.1, .l 138 sI4 c0.2.2.2.2.2.2.2.2.2.2.2.1, .v (.int .i64 c0.2.2.2.2.2.2.2.2.2.2.2.2.1), .v (.int .i64 c0.2.2.2.2.2.2.2.2.2.2.2.2.2.1), .l 142 sI6 c0.2.2.2.2.2.2.2.2.2.2.2.2.2.2.1, .l 146 sI4 c0.2.2.2.2.2.2.2.2.2.2.2.2.2.2.2]), (1, .arr 9 .s v0.2)]⟩) c0 n v := by
  intro n
  induction n with
  | zero => intro v; rfl
  | succ n ih =>
    intro v
    refine (biFormatWorld_0 k n K c0 v).trans ?_
    rw [funext ih]
    kernel_rfl
theorem miFormatWorld_0 (k : Nat) (a0 : TWorld) : FiFormatWorld (k + 1) a0 = loopRun (R := ByteArray) [0, 1, 3, 8, 9, 10] (run E (den E k) (lv 11) k (nthLoop Tryz.f11 0)) k (StiFormatWorld_0 (a0.2.2.2.2.1, (a0.2.2.2.2.1.length : Int), a0) (0, [])) (kontAt E (den E k) (lv 11) k (bodyOf Tryz.f11) 0 [] (finish E (rs 11) Tryz.f11 : Ex → St → Option (ByteArray))) := by kernel_rfl
theorem eiFormatWorld (k : Nat) (a0 : TWorld) : FiFormatWorld (k + 1) a0 = LiFormatWorld_0 k (fun (v0 : Int × (List ByteArray)) => (FiFormatInt k a0.2.2.2.2.2.2.2.2.2.2.1).bind fun p1 => if (p1).size + ((⟨#[47]⟩ : ByteArray)).size ≤ 9223372036854775807 then (FiFormatInt k a0.2.2.2.2.2.2.2.2.2.2.2.1).bind fun p2 => if ((p1 ++ (⟨#[47]⟩ : ByteArray))).size + (p2).size ≤ 9223372036854775807 then if (((p1 ++ (⟨#[47]⟩ : ByteArray)) ++ p2)).size + ((⟨#[32]⟩ : ByteArray)).size ≤ 9223372036854775807 then (FiWaitingIn k a0).bind fun p3 => (FiFormatInt k p3).bind fun p4 => if ((((p1 ++ (⟨#[47]⟩ : ByteArray)) ++ p2) ++ (⟨#[32]⟩ : ByteArray))).size + (p4).size ≤ 9223372036854775807 then if (((((p1 ++ (⟨#[47]⟩ : ByteArray)) ++ p2) ++ (⟨#[32]⟩ : ByteArray)) ++ p4)).size + ((⟨#[32]⟩ : ByteArray)).size ≤ 9223372036854775807 then (FiFormatInt k (a0.2.2.2.2.2.2.2.2.2.2.2.2.1.length : Int)).bind fun p5 => if ((((((p1 ++ (⟨#[47]⟩ : ByteArray)) ++ p2) ++ (⟨#[32]⟩ : ByteArray)) ++ p4) ++ (⟨#[32]⟩ : ByteArray))).size + (p5).size ≤ 9223372036854775807 then if (((((((p1 ++ (⟨#[47]⟩ : ByteArray)) ++ p2) ++ (⟨#[32]⟩ : ByteArray)) ++ p4) ++ (⟨#[32]⟩ : ByteArray)) ++ p5)).size + ((⟨#[32]⟩ : ByteArray)).size ≤ 9223372036854775807 then (FiFormatInt k (a0.2.2.2.2.2.2.2.2.2.2.2.2.2.length : Int)).bind fun p6 => if ((((((((p1 ++ (⟨#[47]⟩ : ByteArray)) ++ p2) ++ (⟨#[32]⟩ : ByteArray)) ++ p4) ++ (⟨#[32]⟩ : ByteArray)) ++ p5) ++ (⟨#[32]⟩ : ByteArray))).size + (p6).size ≤ 9223372036854775807 then if (((((((((p1 ++ (⟨#[47]⟩ : ByteArray)) ++ p2) ++ (⟨#[32]⟩ : ByteArray)) ++ p4) ++ (⟨#[32]⟩ : ByteArray)) ++ p5) ++ (⟨#[32]⟩ : ByteArray)) ++ p6)).size + ((⟨#[32]⟩ : ByteArray)).size ≤ 9223372036854775807 then (FgJoin k v0.2 (⟨#[44]⟩ : ByteArray)).bind fun p7 => if ((((((((((p1 ++ (⟨#[47]⟩ : ByteArray)) ++ p2) ++ (⟨#[32]⟩ : ByteArray)) ++ p4) ++ (⟨#[32]⟩ : ByteArray)) ++ p5) ++ (⟨#[32]⟩ : ByteArray)) ++ p6) ++ (⟨#[32]⟩ : ByteArray))).size + (p7).size ≤ 9223372036854775807 then some ((((((((((p1 ++ (⟨#[47]⟩ : ByteArray)) ++ p2) ++ (⟨#[32]⟩ : ByteArray)) ++ p4) ++ (⟨#[32]⟩ : ByteArray)) ++ p5) ++ (⟨#[32]⟩ : ByteArray)) ++ p6) ++ (⟨#[32]⟩ : ByteArray)) ++ p7) else none else none else none else none else none else none else none else none else none else none) (a0.2.2.2.2.1, (a0.2.2.2.2.1.length : Int), a0) k (0, []) := by
  rw [miFormatWorld_0]
  simp only [liFormatWorld_0]
  kernel_rfl
/-! loop.example/g00599/spec.WaitingIn -/
noncomputable def FsWaitingIn (k : Nat) (a0 : TWorld) : Option (Int) := den E k 54 [.agg [.v (.int .i64 a0.1.1), .l 177 sI4 a0.1.2.1, .l 181 sI3 a0.1.2.2.1, .v (.int .i64 a0.1.2.2.2.1), .v (.int .i64 a0.1.2.2.2.2.1), .v (.int .i64 a0.1.2.2.2.2.2.1), .v (.int .i64 a0.1.2.2.2.2.2.2.1), .v (.int .i64 a0.1.2.2.2.2.2.2.2.1), .l 187 sZone a0.1.2.2.2.2.2.2.2.2.1, .v (.int .i64 a0.1.2.2.2.2.2.2.2.2.2), .v (.int .i64 a0.2.1.1), .v (.int .i64 a0.2.1.2.1), .v (.int .i64 a0.2.1.2.2.1), .l 196 sPiece a0.2.1.2.2.2, .l 3 (.i .i64) a0.2.2.1, .l 3 (.i .i64) a0.2.2.2.1, .l 85 sI6 a0.2.2.2.2.1, .l 83 sQueue a0.2.2.2.2.2.1, .l 132 sI4 a0.2.2.2.2.2.2.1, .l 3 (.i .i64) a0.2.2.2.2.2.2.2.1, .l 135 sStream a0.2.2.2.2.2.2.2.2.1, .l 138 sI4 a0.2.2.2.2.2.2.2.2.2.1, .v (.int .i64 a0.2.2.2.2.2.2.2.2.2.2.1), .v (.int .i64 a0.2.2.2.2.2.2.2.2.2.2.2.1), .l 142 sI6 a0.2.2.2.2.2.2.2.2.2.2.2.2.1, .l 146 sI4 a0.2.2.2.2.2.2.2.2.2.2.2.2.2]]
abbrev CsWaitingIn_0 : Type := TWorld
abbrev VsWaitingIn_0 : Type := Int × Int
def StsWaitingIn_0 (c0 : CsWaitingIn_0) (v0 : VsWaitingIn_0) : St := ⟨22, 1, [(1, .c (.ptr 0 0)), (3, .c (.v (.int .i64 v0.1))), (4, .c (.v (.int .i64 v0.2)))], [(0, .var [.v (.int .i64 c0.1.1), .l 177 sI4 c0.1.2.1, .l 181 sI3 c0.1.2.2.1, .v (.int .i64 c0.1.2.2.2.1), .v (.int .i64 c0.1.2.2.2.2.1), .v (.int .i64 c0.1.2.2.2.2.2.1), .v (.int .i64 c0.1.2.2.2.2.2.2.1), .v (.int .i64 c0.1.2.2.2.2.2.2.2.1), .l 187 sZone c0.1.2.2.2.2.2.2.2.2.1, .v (.int .i64 c0.1.2.2.2.2.2.2.2.2.2), .v (.int .i64 c0.2.1.1), .v (.int .i64 c0.2.1.2.1), .v (.int .i64 c0.2.1.2.2.1), .l 196 sPiece c0.2.1.2.2.2, .l 3 (.i .i64) c0.2.2.1, .l 3 (.i .i64) c0.2.2.2.1, .l 85 sI6 c0.2.2.2.2.1, .l 83 sQueue c0.2.2.2.2.2.1, .l 132 sI4 c0.2.2.2.2.2.2.1, .l 3 (.i .i64) c0.2.2.2.2.2.2.2.1, .l 135 sStream c0.2.2.2.2.2.2.2.2.1, .l 138 sI4 c0.2.2.2.2.2.2.2.2.2.1, .v (.int .i64 c0.2.2.2.2.2.2.2.2.2.2.1), .v (.int .i64 c0.2.2.2.2.2.2.2.2.2.2.2.1), .l 142 sI6 c0.2.2.2.2.2.2.2.2.2.2.2.2.1, .l 146 sI4 c0.2.2.2.2.2.2.2.2.2.2.2.2.2])]⟩
noncomputable def BsWaitingIn_0 {R : Type} (k : Nat) (X0 : VsWaitingIn_0 → Option R) (c0 : CsWaitingIn_0) (rec : VsWaitingIn_0 → Option R) (v0 : VsWaitingIn_0) : Option R := if (decide (v0.2 < (c0.2.2.2.2.2.1.length : Int))) = true then if 0 ≤ v0.2 then ix c0.2.2.2.2.2.1 v0.2.toNat fun x1 => rec ((IntKind.i64.wrap (v0.1 + (x1.length : Int))), (IntKind.i64.wrap (v0.2 + 1))) else none else X0 v0
noncomputable def LsWaitingIn_0 {R : Type} (k : Nat) (X0 : VsWaitingIn_0 → Option R) (c : CsWaitingIn_0) : Nat → VsWaitingIn_0 → Option R
  | 0, _ => none
  | n + 1, v => BsWaitingIn_0 k X0 c (LsWaitingIn_0 k X0 c n) v
theorem bsWaitingIn_0 {R : Type} (k n : Nat) (K : Ex → St → Option R) (c0 : CsWaitingIn_0) (v : VsWaitingIn_0) : loopRun [0, 1, 3, 4] (run E (den E k) (lv 54) k (nthLoop Tryz.f54 0)) (n + 1) (StsWaitingIn_0 c0 v) K = BsWaitingIn_0 k (fun (v0 : VsWaitingIn_0) => K (.exit 0) ⟨22, 1, [(1, .c (.ptr 0 0)), (3, .c (.v (.int .i64 v0.1))), (4, .c (.v (.int .i64 v0.2))), (5, .c (.v (.int .i64 v0.2))), (6, .c (.ptr 0 17)), (7, .c (.l 83 sQueue c0.2.2.2.2.2.1)), (8, .c (.v (.int .i64 (c0.2.2.2.2.2.1.length : Int)))), (9, .c (.v (.bool (decide (v0.2 < (c0.2.2.2.2.2.1.length : Int))))))], [(0, .var [.v (.int .i64 c0.1.1), .l 177 sI4 c0.1.2.1, .l 181 sI3 c0.1.2.2.1, .v (.int .i64 c0.1.2.2.2.1), .v (.int .i64 c0.1.2.2.2.2.1), .v (.int .i64 c0.1.2.2.2.2.2.1), .v (.int .i64 c0.1.2.2.2.2.2.2.1), .v (.int .i64 c0.1.2.2.2.2.2.2.2.1), .l 187 sZone c0.1.2.2.2.2.2.2.2.2.1, .v (.int .i64 c0.1.2.2.2.2.2.2.2.2.2), .v (.int .i64 c0.2.1.1), .v (.int .i64 c0.2.1.2.1), .v (.int .i64 c0.2.1.2.2.1), .l 196 sPiece c0.2.1.2.2.2, .l 3 (.i .i64) c0.2.2.1, .l 3 (.i .i64) c0.2.2.2.1, .l 85 sI6 c0.2.2.2.2.1, .l 83 sQueue c0.2.2.2.2.2.1, .l 132 sI4 c0.2.2.2.2.2.2.1, .l 3 (.i .i64) c0.2.2.2.2.2.2.2.1, .l 135 sStream c0.2.2.2.2.2.2.2.2.1, .l 138 sI4 c0.2.2.2.2.2.2.2.2.2.1, .v (.int .i64 c0.2.2.2.2.2.2.2.2.2.2.1), .v (.int .i64 c0.2.2.2.2.2.2.2.2.2.2.2.1), .l 142 sI6 c0.2.2.2.2.2.2.2.2.2.2.2.2.1, .l 146 sI4 c0.2.2.2.2.2.2.2.2.2.2.2.2.2])]⟩) c0 (fun v => loopRun [0, 1, 3, 4] (run E (den E k) (lv 54) k (nthLoop Tryz.f54 0)) n (StsWaitingIn_0 c0 v) K) v := by kernel_rfl
theorem lsWaitingIn_0 {R : Type} (k : Nat) (K : Ex → St → Option R) (c0 : CsWaitingIn_0) : ∀ (n : Nat) (v : VsWaitingIn_0), loopRun [0, 1, 3, 4] (run E (den E k) (lv 54) k (nthLoop Tryz.f54 0)) n (StsWaitingIn_0 c0 v) K = LsWaitingIn_0 k (fun (v0 : VsWaitingIn_0) => K (.exit 0) ⟨22, 1, [(1, .c (.ptr 0 0)), (3, .c (.v (.int .i64 v0.1))), (4, .c (.v (.int .i64 v0.2))), (5, .c (.v (.int .i64 v0.2))), (6, .c (.ptr 0 17)), (7, .c (.l 83 sQueue c0.2.2.2.2.2.1)), (8, .c (.v (.int .i64 (c0.2.2.2.2.2.1.length : Int)))), (9, .c (.v (.bool (decide (v0.2 < (c0.2.2.2.2.2.1.length : Int))))))], [(0, .var [.v (.int .i64 c0.1.1), .l 177 sI4 c0.1.2.1, .l 181 sI3 c0.1.2.2.1, .v (.int .i64 c0.1.2.2.2.1), .v (.int .i64 c0.1.2.2.2.2.1), .v (.int .i64 c0.1.2.2.2.2.2.1), .v (.int .i64 c0.1.2.2.2.2.2.2.1), .v (.int .i64 c0.1.2.2.2.2.2.2.2.1), .l 187 sZone c0.1.2.2.2.2.2.2.2.2.1, .v (.int .i64 c0.1.2.2.2.2.2.2.2.2.2), .v (.int .i64 c0.2.1.1), .v (.int .i64 c0.2.1.2.1), .v (.int .i64 c0.2.1.2.2.1), .l 196 sPiece c0.2.1.2.2.2, .l 3 (.i .i64) c0.2.2.1, .l 3 (.i .i64) c0.2.2.2.1, .l 85 sI6 c0.2.2.2.2.1, .l 83 sQueue c0.2.2.2.2.2.1, .l 132 sI4 c0.2.2.2.2.2.2.1, .l 3 (.i .i64) c0.2.2.2.2.2.2.2.1, .l 135 sStream c0.2.2.2.2.2.2.2.2.1, .l 138 sI4 c0.2.2.2.2.2.2.2.2.2.1, .v (.int .i64 c0.2.2.2.2.2.2.2.2.2.2.1), .v (.int .i64 c0.2.2.2.2.2.2.2.2.2.2.2.1), .l 142 sI6 c0.2.2.2.2.2.2.2.2.2.2.2.2.1, .l 146 sI4 c0.2.2.2.2.2.2.2.2.2.2.2.2.2])]⟩) c0 n v := by
  intro n
  induction n with
  | zero => intro v; rfl
  | succ n ih =>
    intro v
    refine (bsWaitingIn_0 k n K c0 v).trans ?_
    rw [funext ih]
    kernel_rfl
theorem msWaitingIn_0 (k : Nat) (a0 : TWorld) : FsWaitingIn (k + 1) a0 = loopRun (R := Int) [0, 1, 3, 4] (run E (den E k) (lv 54) k (nthLoop Tryz.f54 0)) k (StsWaitingIn_0 a0 (0, 0)) (kontAt E (den E k) (lv 54) k (bodyOf Tryz.f54) 0 [] (finish E (rs 54) Tryz.f54 : Ex → St → Option (Int))) := by kernel_rfl
theorem esWaitingIn (k : Nat) (a0 : TWorld) : FsWaitingIn (k + 1) a0 = LsWaitingIn_0 k (fun (v0 : Int × Int) => some v0.1) a0 k (0, 0) := by
  rw [msWaitingIn_0]
  simp only [lsWaitingIn_0]
  kernel_rfl
/-! loop.example/g00599/spec.l39Join -/
noncomputable def Fsl39Join (k : Nat) (a0 : List Int) (a1 : ByteArray) : Option (ByteArray) := den E k 55 [.c (.l 3 (.i .i64) a0), .c (.v (.string a1))]
abbrev Csl39Join_0 : Type := (List Int) × ByteArray
abbrev Vsl39Join_0 : Type := ByteArray × Int
def Stsl39Join_0 (c0 : Csl39Join_0) (v0 : Vsl39Join_0) : St := ⟨26, 0, [(0, .c (.l 3 (.i .i64) c0.1)), (1, .c (.v (.string c0.2))), (5, .c (.v (.string v0.1))), (6, .c (.v (.int .i64 v0.2)))], []⟩
noncomputable def Bsl39Join_0 {R : Type} (k : Nat) (X0 : Vsl39Join_0 → Option R) (c0 : Csl39Join_0) (rec : Vsl39Join_0 → Option R) (v0 : Vsl39Join_0) : Option R := if (decide (v0.2 < (c0.1.length : Int))) = true then if (decide (v0.2 > 0)) = true then if (v0.1).size + (c0.2).size ≤ 9223372036854775807 then if 0 ≤ v0.2 then ix c0.1 v0.2.toNat fun x1 => (FsFormatInt k x1).bind fun p2 => if ((v0.1 ++ c0.2)).size + (p2).size ≤ 9223372036854775807 then rec (((v0.1 ++ c0.2) ++ p2), (IntKind.i64.wrap (v0.2 + 1))) else none else none else none else if 0 ≤ v0.2 then ix c0.1 v0.2.toNat fun x3 => (FsFormatInt k x3).bind fun p4 => if (v0.1).size + (p4).size ≤ 9223372036854775807 then rec ((v0.1 ++ p4), (IntKind.i64.wrap (v0.2 + 1))) else none else none else X0 v0
noncomputable def Lsl39Join_0 {R : Type} (k : Nat) (X0 : Vsl39Join_0 → Option R) (c : Csl39Join_0) : Nat → Vsl39Join_0 → Option R
  | 0, _ => none
  | n + 1, v => Bsl39Join_0 k X0 c (Lsl39Join_0 k X0 c n) v
theorem bsl39Join_0 {R : Type} (k n : Nat) (K : Ex → St → Option R) (c0 : Csl39Join_0) (v : Vsl39Join_0) : loopRun [0, 0, 1, 5, 6] (run E (den E k) (lv 55) k (nthLoop Tryz.f55 0)) (n + 1) (Stsl39Join_0 c0 v) K = Bsl39Join_0 k (fun (v0 : Vsl39Join_0) => K (.exit 0) ⟨26, 0, [(0, .c (.l 3 (.i .i64) c0.1)), (1, .c (.v (.string c0.2))), (5, .c (.v (.string v0.1))), (6, .c (.v (.int .i64 v0.2))), (7, .c (.v (.int .i64 v0.2))), (8, .c (.l 3 (.i .i64) c0.1)), (9, .c (.v (.int .i64 (c0.1.length : Int)))), (10, .c (.v (.bool (decide (v0.2 < (c0.1.length : Int))))))], []⟩) c0 (fun v => loopRun [0, 0, 1, 5, 6] (run E (den E k) (lv 55) k (nthLoop Tryz.f55 0)) n (Stsl39Join_0 c0 v) K) v := by kernel_rfl
theorem lsl39Join_0 {R : Type} (k : Nat) (K : Ex → St → Option R) (c0 : Csl39Join_0) : ∀ (n : Nat) (v : Vsl39Join_0), loopRun [0, 0, 1, 5, 6] (run E (den E k) (lv 55) k (nthLoop Tryz.f55 0)) n (Stsl39Join_0 c0 v) K = Lsl39Join_0 k (fun (v0 : Vsl39Join_0) => K (.exit 0) ⟨26, 0, [(0, .c (.l 3 (.i .i64) c0.1)), (1, .c (.v (.string c0.2))), (5, .c (.v (.string v0.1))), (6, .c (.v (.int .i64 v0.2))), (7, .c (.v (.int .i64 v0.2))), (8, .c (.l 3 (.i .i64) c0.1)), (9, .c (.v (.int .i64 (c0.1.length : Int)))), (10, .c (.v (.bool (decide (v0.2 < (c0.1.length : Int))))))], []⟩) c0 n v := by
  intro n
  induction n with
  | zero => intro v; rfl
  | succ n ih =>
    intro v
    refine (bsl39Join_0 k n K c0 v).trans ?_
    rw [funext ih]
    kernel_rfl
theorem msl39Join_0 (k : Nat) (a0 : List Int) (a1 : ByteArray) : Fsl39Join (k + 1) a0 a1 = loopRun (R := ByteArray) [0, 0, 1, 5, 6] (run E (den E k) (lv 55) k (nthLoop Tryz.f55 0)) k (Stsl39Join_0 (a0, a1) ((⟨#[]⟩ : ByteArray), 0)) (kontAt E (den E k) (lv 55) k (bodyOf Tryz.f55) 0 [] (finish E (rs 55) Tryz.f55 : Ex → St → Option (ByteArray))) := by kernel_rfl
theorem esl39Join (k : Nat) (a0 : List Int) (a1 : ByteArray) : Fsl39Join (k + 1) a0 a1 = Lsl39Join_0 k (fun (v0 : ByteArray × Int) => some v0.1) (a0, a1) k ((⟨#[]⟩ : ByteArray), 0) := by
  rw [msl39Join_0]
  simp only [lsl39Join_0]
  kernel_rfl
/-! loop.example/g00599/spec.FormatWorld -/
noncomputable def FsFormatWorld (k : Nat) (a0 : TWorld) : Option (ByteArray) := den E k 10 [.agg [.v (.int .i64 a0.1.1), .l 177 sI4 a0.1.2.1, .l 181 sI3 a0.1.2.2.1, .v (.int .i64 a0.1.2.2.2.1), .v (.int .i64 a0.1.2.2.2.2.1), .v (.int .i64 a0.1.2.2.2.2.2.1), .v (.int .i64 a0.1.2.2.2.2.2.2.1), .v (.int .i64 a0.1.2.2.2.2.2.2.2.1), .l 187 sZone a0.1.2.2.2.2.2.2.2.2.1, .v (.int .i64 a0.1.2.2.2.2.2.2.2.2.2), .v (.int .i64 a0.2.1.1), .v (.int .i64 a0.2.1.2.1), .v (.int .i64 a0.2.1.2.2.1), .l 196 sPiece a0.2.1.2.2.2, .l 3 (.i .i64) a0.2.2.1, .l 3 (.i .i64) a0.2.2.2.1, .l 85 sI6 a0.2.2.2.2.1, .l 83 sQueue a0.2.2.2.2.2.1, .l 132 sI4 a0.2.2.2.2.2.2.1, .l 3 (.i .i64) a0.2.2.2.2.2.2.2.1, .l 135 sStream a0.2.2.2.2.2.2.2.2.1, .l 138 sI4 a0.2.2.2.2.2.2.2.2.2.1, .v (.int .i64 a0.2.2.2.2.2.2.2.2.2.2.1), .v (.int .i64 a0.2.2.2.2.2.2.2.2.2.2.2.1), .l 142 sI6 a0.2.2.2.2.2.2.2.2.2.2.2.2.1, .l 146 sI4 a0.2.2.2.2.2.2.2.2.2.2.2.2.2]]
abbrev CsFormatWorld_0 : Type := TWorld
abbrev VsFormatWorld_0 : Type := Int × (List Int)
def StsFormatWorld_0 (c0 : CsFormatWorld_0) (v0 : VsFormatWorld_0) : St := ⟨51, 2, [(1, .c (.ptr 0 0)), (3, .c (.ref 1)), (4, .c (.v (.int .i64 v0.1)))], [(0, .var [.v (.int .i64 c0.1.1), .l 177 sI4 c0.1.2.1, .l 181 sI3 c0.1.2.2.1, .v (.int .i64 c0.1.2.2.2.1), .v (.int .i64 c0.1.2.2.2.2.1), .v (.int .i64 c0.1.2.2.2.2.2.1), .v (.int .i64 c0.1.2.2.2.2.2.2.1), .v (.int .i64 c0.1.2.2.2.2.2.2.2.1), .l 187 sZone c0.1.2.2.2.2.2.2.2.2.1, .v (.int .i64 c0.1.2.2.2.2.2.2.2.2.2), .v (.int .i64 c0.2.1.1), .v (.int .i64 c0.2.1.2.1), .v (.int .i64 c0.2.1.2.2.1), .l 196 sPiece c0.2.1.2.2.2, .l 3 (.i .i64) c0.2.2.1, .l 3 (.i .i64) c0.2.2.2.1, .l 85 sI6 c0.2.2.2.2.1, .l 83 sQueue c0.2.2.2.2.2.1, .l 132 sI4 c0.2.2.2.2.2.2.1, .l 3 (.i .i64) c0.2.2.2.2.2.2.2.1, .l 135 sStream c0.2.2.2.2.2.2.2.2.1, .l 138 sI4 c0.2.2.2.2.2.2.2.2.2.1, .v (.int .i64 c0.2.2.2.2.2.2.2.2.2.2.1), .v (.int .i64 c0.2.2.2.2.2.2.2.2.2.2.2.1), .l 142 sI6 c0.2.2.2.2.2.2.2.2.2.2.2.2.1, .l 146 sI4 c0.2.2.2.2.2.2.2.2.2.2.2.2.2]), (1, .arr 3 (.i .i64) v0.2)]⟩
noncomputable def BsFormatWorld_0 {R : Type} (k : Nat) (X0 : VsFormatWorld_0 → Option R) (c0 : CsFormatWorld_0) (rec : VsFormatWorld_0 → Option R) (v0 : VsFormatWorld_0) : Option R := if (decide (v0.1 < (c0.2.2.2.2.1.length : Int))) = true then if 0 ≤ v0.1 then ix c0.2.2.2.2.1 v0.1.toNat fun x1 => if (v0.2.length + ([x1.1]).length) * 8 ≤ 140737488355328 then rec ((IntKind.i64.wrap (v0.1 + 1)), (v0.2 ++ [x1.1])) else none else none else X0 v0
noncomputable def LsFormatWorld_0 {R : Type} (k : Nat) (X0 : VsFormatWorld_0 → Option R) (c : CsFormatWorld_0) : Nat → VsFormatWorld_0 → Option R
  | 0, _ => none
  | n + 1, v => BsFormatWorld_0 k X0 c (LsFormatWorld_0 k X0 c n) v
theorem bsFormatWorld_0 {R : Type} (k n : Nat) (K : Ex → St → Option R) (c0 : CsFormatWorld_0) (v : VsFormatWorld_0) : loopRun [0, 1, 3, 4] (run E (den E k) (lv 10) k (nthLoop Tryz.f10 0)) (n + 1) (StsFormatWorld_0 c0 v) K = BsFormatWorld_0 k (fun (v0 : VsFormatWorld_0) => K (.exit 0) ⟨51, 2, [(1, .c (.ptr 0 0)), (3, .c (.ref 1)), (4, .c (.v (.int .i64 v0.1))), (6, .c (.v (.int .i64 v0.1))), (7, .c (.ptr 0 16)), (8, .c (.l 85 sI6 c0.2.2.2.2.1)), (9, .c (.v (.int .i64 (c0.2.2.2.2.1.length : Int)))), (10, .c (.v (.bool (decide (v0.1 < (c0.2.2.2.2.1.length : Int))))))], [(0, .var [.v (.int .i64 c0.1.1), .l 177 sI4 c0.1.2.1, .l 181 sI3 c0.1.2.2.1, .v (.int .i64 c0.1.2.2.2.1), .v (.int .i64 c0.1.2.2.2.2.1), .v (.int .i64 c0.1.2.2.2.2.2.1), .v (.int .i64 c0.1.2.2.2.2.2.2.1), .v (.int .i64 c0.1.2.2.2.2.2.2.2.1), .l 187 sZone c0.1.2.2.2.2.2.2.2.2.1, .v (.int .i64 c0.1.2.2.2.2.2.2.2.2.2), .v (.int .i64 c0.2.1.1), .v (.int .i64 c0.2.1.2.1), .v (.int .i64 c0.2.1.2.2.1), .l 196 sPiece c0.2.1.2.2.2, .l 3 (.i .i64) c0.2.2.1, .l 3 (.i .i64) c0.2.2.2.1, .l 85 sI6 c0.2.2.2.2.1, .l 83 sQueue c0.2.2.2.2.2.1, .l 132 sI4 c0.2.2.2.2.2.2.1, .l 3 (.i .i64) c0.2.2.2.2.2.2.2.1, .l 135 sStream c0.2.2.2.2.2.2.2.2.1, .l 138 sI4 c0.2.2.2.2.2.2.2.2.2.1, .v (.int .i64 c0.2.2.2.2.2.2.2.2.2.2.1), .v (.int .i64 c0.2.2.2.2.2.2.2.2.2.2.2.1), .l 142 sI6 c0.2.2.2.2.2.2.2.2.2.2.2.2.1, .l 146 sI4 c0.2.2.2.2.2.2.2.2.2.2.2.2.2]), (1, .arr 3 (.i .i64) v0.2)]⟩) c0 (fun v => loopRun [0, 1, 3, 4] (run E (den E k) (lv 10) k (nthLoop Tryz.f10 0)) n (StsFormatWorld_0 c0 v) K) v := by kernel_rfl
theorem lsFormatWorld_0 {R : Type} (k : Nat) (K : Ex → St → Option R) (c0 : CsFormatWorld_0) : ∀ (n : Nat) (v : VsFormatWorld_0), loopRun [0, 1, 3, 4] (run E (den E k) (lv 10) k (nthLoop Tryz.f10 0)) n (StsFormatWorld_0 c0 v) K = LsFormatWorld_0 k (fun (v0 : VsFormatWorld_0) => K (.exit 0) ⟨51, 2, [(1, .c (.ptr 0 0)), (3, .c (.ref 1)), (4, .c (.v (.int .i64 v0.1))), (6, .c (.v (.int .i64 v0.1))), (7, .c (.ptr 0 16)), (8, .c (.l 85 sI6 c0.2.2.2.2.1)), (9, .c (.v (.int .i64 (c0.2.2.2.2.1.length : Int)))), (10, .c (.v (.bool (decide (v0.1 < (c0.2.2.2.2.1.length : Int))))))], [(0, .var [.v (.int .i64 c0.1.1), .l 177 sI4 c0.1.2.1, .l 181 sI3 c0.1.2.2.1, .v (.int .i64 c0.1.2.2.2.1), .v (.int .i64 c0.1.2.2.2.2.1), .v (.int .i64 c0.1.2.2.2.2.2.1), .v (.int .i64 c0.1.2.2.2.2.2.2.1), .v (.int .i64 c0.1.2.2.2.2.2.2.2.1), .l 187 sZone c0.1.2.2.2.2.2.2.2.2.1, .v (.int .i64 c0.1.2.2.2.2.2.2.2.2.2), .v (.int .i64 c0.2.1.1), .v (.int .i64 c0.2.1.2.1), .v (.int .i64 c0.2.1.2.2.1), .l 196 sPiece c0.2.1.2.2.2, .l 3 (.i .i64) c0.2.2.1, .l 3 (.i .i64) c0.2.2.2.1, .l 85 sI6 c0.2.2.2.2.1, .l 83 sQueue c0.2.2.2.2.2.1, .l 132 sI4 c0.2.2.2.2.2.2.1, .l 3 (.i .i64) c0.2.2.2.2.2.2.2.1, .l 135 sStream c0.2.2.2.2.2.2.2.2.1, .l 138 sI4 c0.2.2.2.2.2.2.2.2.2.1, .v (.int .i64 c0.2.2.2.2.2.2.2.2.2.2.1), .v (.int .i64 c0.2.2.2.2.2.2.2.2.2.2.2.1), .l 142 sI6 c0.2.2.2.2.2.2.2.2.2.2.2.2.1, .l 146 sI4 c0.2.2.2.2.2.2.2.2.2.2.2.2.2]), (1, .arr 3 (.i .i64) v0.2)]⟩) c0 n v := by
  intro n
  induction n with
  | zero => intro v; rfl
  | succ n ih =>
    intro v
    refine (bsFormatWorld_0 k n K c0 v).trans ?_
    rw [funext ih]
    kernel_rfl
theorem msFormatWorld_0 (k : Nat) (a0 : TWorld) : FsFormatWorld (k + 1) a0 = loopRun (R := ByteArray) [0, 1, 3, 4] (run E (den E k) (lv 10) k (nthLoop Tryz.f10 0)) k (StsFormatWorld_0 a0 (0, [])) (kontAt E (den E k) (lv 10) k (bodyOf Tryz.f10) 0 [] (finish E (rs 10) Tryz.f10 : Ex → St → Option (ByteArray))) := by kernel_rfl
theorem esFormatWorld (k : Nat) (a0 : TWorld) : FsFormatWorld (k + 1) a0 = LsFormatWorld_0 k (fun (v0 : Int × (List Int)) => (FsFormatInt k a0.2.2.2.2.2.2.2.2.2.2.1).bind fun p1 => if (p1).size + ((⟨#[47]⟩ : ByteArray)).size ≤ 9223372036854775807 then (FsFormatInt k a0.2.2.2.2.2.2.2.2.2.2.2.1).bind fun p2 => if ((p1 ++ (⟨#[47]⟩ : ByteArray))).size + (p2).size ≤ 9223372036854775807 then if (((p1 ++ (⟨#[47]⟩ : ByteArray)) ++ p2)).size + ((⟨#[32]⟩ : ByteArray)).size ≤ 9223372036854775807 then (FsWaitingIn k a0).bind fun p3 => (FsFormatInt k p3).bind fun p4 => if ((((p1 ++ (⟨#[47]⟩ : ByteArray)) ++ p2) ++ (⟨#[32]⟩ : ByteArray))).size + (p4).size ≤ 9223372036854775807 then if (((((p1 ++ (⟨#[47]⟩ : ByteArray)) ++ p2) ++ (⟨#[32]⟩ : ByteArray)) ++ p4)).size + ((⟨#[32]⟩ : ByteArray)).size ≤ 9223372036854775807 then (FsFormatInt k (a0.2.2.2.2.2.2.2.2.2.2.2.2.1.length : Int)).bind fun p5 => if ((((((p1 ++ (⟨#[47]⟩ : ByteArray)) ++ p2) ++ (⟨#[32]⟩ : ByteArray)) ++ p4) ++ (⟨#[32]⟩ : ByteArray))).size + (p5).size ≤ 9223372036854775807 then if (((((((p1 ++ (⟨#[47]⟩ : ByteArray)) ++ p2) ++ (⟨#[32]⟩ : ByteArray)) ++ p4) ++ (⟨#[32]⟩ : ByteArray)) ++ p5)).size + ((⟨#[32]⟩ : ByteArray)).size ≤ 9223372036854775807 then (FsFormatInt k (a0.2.2.2.2.2.2.2.2.2.2.2.2.2.length : Int)).bind fun p6 => if ((((((((p1 ++ (⟨#[47]⟩ : ByteArray)) ++ p2) ++ (⟨#[32]⟩ : ByteArray)) ++ p4) ++ (⟨#[32]⟩ : ByteArray)) ++ p5) ++ (⟨#[32]⟩ : ByteArray))).size + (p6).size ≤ 9223372036854775807 then if (((((((((p1 ++ (⟨#[47]⟩ : ByteArray)) ++ p2) ++ (⟨#[32]⟩ : ByteArray)) ++ p4) ++ (⟨#[32]⟩ : ByteArray)) ++ p5) ++ (⟨#[32]⟩ : ByteArray)) ++ p6)).size + ((⟨#[32]⟩ : ByteArray)).size ≤ 9223372036854775807 then (Fsl39Join k v0.2 (⟨#[44]⟩ : ByteArray)).bind fun p7 => if ((((((((((p1 ++ (⟨#[47]⟩ : ByteArray)) ++ p2) ++ (⟨#[32]⟩ : ByteArray)) ++ p4) ++ (⟨#[32]⟩ : ByteArray)) ++ p5) ++ (⟨#[32]⟩ : ByteArray)) ++ p6) ++ (⟨#[32]⟩ : ByteArray))).size + (p7).size ≤ 9223372036854775807 then some ((((((((((p1 ++ (⟨#[47]⟩ : ByteArray)) ++ p2) ++ (⟨#[32]⟩ : ByteArray)) ++ p4) ++ (⟨#[32]⟩ : ByteArray)) ++ p5) ++ (⟨#[32]⟩ : ByteArray)) ++ p6) ++ (⟨#[32]⟩ : ByteArray)) ++ p7) else none else none else none else none else none else none else none else none else none else none) a0 k (0, []) := by
  rw [msFormatWorld_0]
  simp only [lsFormatWorld_0]
  kernel_rfl
/-! loop.example/g00599/laws.FnExactFormatWorld -/
noncomputable def FlFnExactFormatWorld (k : Nat) (a0 : TWorld) : Option (Bool) := den E k 4 [.agg [.v (.int .i64 a0.1.1), .l 179 sI4 a0.1.2.1, .l 183 sI3 a0.1.2.2.1, .v (.int .i64 a0.1.2.2.2.1), .v (.int .i64 a0.1.2.2.2.2.1), .v (.int .i64 a0.1.2.2.2.2.2.1), .v (.int .i64 a0.1.2.2.2.2.2.2.1), .v (.int .i64 a0.1.2.2.2.2.2.2.2.1), .l 191 sZone a0.1.2.2.2.2.2.2.2.2.1, .v (.int .i64 a0.1.2.2.2.2.2.2.2.2.2), .v (.int .i64 a0.2.1.1), .v (.int .i64 a0.2.1.2.1), .v (.int .i64 a0.2.1.2.2.1), .l 175 sLPiece a0.2.1.2.2.2, .l 3 (.i .i64) a0.2.2.1, .l 3 (.i .i64) a0.2.2.2.1, .l 129 sI6 a0.2.2.2.2.1, .l 119 sLQueue a0.2.2.2.2.2.1, .l 134 sI4 a0.2.2.2.2.2.2.1, .l 3 (.i .i64) a0.2.2.2.2.2.2.2.1, .l 122 sStream a0.2.2.2.2.2.2.2.2.1, .l 140 sI4 a0.2.2.2.2.2.2.2.2.2.1, .v (.int .i64 a0.2.2.2.2.2.2.2.2.2.2.1), .v (.int .i64 a0.2.2.2.2.2.2.2.2.2.2.2.1), .l 144 sI6 a0.2.2.2.2.2.2.2.2.2.2.2.2.1, .l 148 sI4 a0.2.2.2.2.2.2.2.2.2.2.2.2.2]]
theorem elFnExactFormatWorld (k : Nat) (a0 : TWorld) : FlFnExactFormatWorld (k + 1) a0 = (FlszWorld k a0 1048576).bind fun p1 => if (decide (p1 < 0)) = true then some true else (FltoWorld k a0).bind fun p2 => (FsFormatWorld k p2).bind fun p3 => (FltoWorld k a0).bind fun p4 => (FiFormatWorld k p4).bind fun p5 => if (!((p5).toList == (p3).toList)) = true then some false else (FltoWorld k a0).bind fun p6 => (FleqWorld k p4 p6).bind fun p7 => if (!p7) = true then some false else some true := by kernel_rfl
end Go.Proofs.YtajfchgmnembgaaGreatDoor.World
