/-
  What the proof stands on, part 3.
-/
import Derived.Test.YthfhhldbglaieaaGreatKF2
namespace Go.Proofs.YthfhhldbglaieaaGreat
open Go Go.RowKit
set_option linter.unusedVariables false
set_option linter.unusedSimpArgs false
def tbt1 : TT := .node .leaf 0 ⟨.other, 1, false⟩ .leaf
def tbt2 : TT := .node tbt1 3 ⟨.int .i64, 1, false⟩ .leaf
def tbt3 : TT := .node .leaf 5 ⟨.int .u8, 1, false⟩ .leaf
def tbt4 : TT := .node tbt2 4 ⟨.bool, 1, false⟩ tbt3
def tbt5 : TT := .node .leaf 20 ⟨.other, 1, false⟩ .leaf
def tbt6 : TT := .node .leaf 23 ⟨.slice 147, 1, false⟩ .leaf
def tbt7 : TT := .node tbt5 22 ⟨.slice 143, 1, false⟩ tbt6
def tbt8 : TT := .node tbt4 9 ⟨.str, 1, false⟩ tbt7
def tbt9 : TT := .node .leaf 26 ⟨.struct [0, 1, 2, 3, 4, 5, 6], 7, true⟩ .leaf
def tbt10 : TT := .node tbt9 29 ⟨.slice 93, 1, false⟩ .leaf
def tbt11 : TT := .node .leaf 31 ⟨.slice 106, 1, false⟩ .leaf
def tbt12 : TT := .node tbt10 30 ⟨.slice 58, 1, false⟩ tbt11
def tbt13 : TT := .node .leaf 37 ⟨.other, 1, false⟩ .leaf
def tbt14 : TT := .node .leaf 56 ⟨.slice 103, 1, false⟩ .leaf
def tbt15 : TT := .node tbt13 44 ⟨.slice 5, 1, false⟩ tbt14
def tbt16 : TT := .node tbt12 33 ⟨.struct [0, 1, 2, 3, 4, 5, 6], 7, true⟩ tbt15
def tbt17 : TT := .node tbt8 24 ⟨.slice 149, 1, false⟩ tbt16
def tbt18 : TT := .node .leaf 60 ⟨.slice 3, 1, false⟩ .leaf
def tbt19 : TT := .node tbt18 66 ⟨.other, 1, false⟩ .leaf
def tbt20 : TT := .node .leaf 72 ⟨.other, 1, false⟩ .leaf
def tbt21 : TT := .node tbt19 71 ⟨.struct [0, 1, 2, 3, 4], 5, true⟩ tbt20
def tbt22 : TT := .node .leaf 76 ⟨.struct [0, 1, 2], 3, true⟩ .leaf
def tbt23 : TT := .node .leaf 80 ⟨.other, 1, false⟩ .leaf
def tbt24 : TT := .node tbt22 77 ⟨.other, 1, false⟩ tbt23
def tbt25 : TT := .node tbt21 74 ⟨.slice 164, 1, false⟩ tbt24
def tbt26 : TT := .node .leaf 86 ⟨.struct [0, 1, 2, 3, 4], 5, true⟩ .leaf
def tbt27 : TT := .node .leaf 89 ⟨.struct [0, 1, 2, 5, 8, 9, 10, 11, 12, 17, 18, 19, 20, 21, 22, 23, 28, 29, 30], 31, true⟩ .leaf
def tbt28 : TT := .node tbt26 87 ⟨.slice 181, 1, false⟩ tbt27
def tbt29 : TT := .node .leaf 93 ⟨.struct [0, 1, 2, 3, 4, 5, 6], 41, true⟩ .leaf
def tbt30 : TT := .node .leaf 106 ⟨.struct [0, 1, 2], 3, true⟩ .leaf
def tbt31 : TT := .node tbt29 103 ⟨.struct [0, 1, 2], 3, true⟩ tbt30
def tbt32 : TT := .node tbt28 91 ⟨.struct [0, 4], 35, true⟩ tbt31
def tbt33 : TT := .node tbt25 84 ⟨.struct [0, 1, 2, 3], 4, true⟩ tbt32
def tbt34 : TT := .node tbt17 58 ⟨.struct [0, 1, 2, 3, 4], 5, true⟩ tbt33
def tbt35 : TT := .node .leaf 114 ⟨.other, 1, false⟩ .leaf
def tbt36 : TT := .node tbt35 132 ⟨.struct [0, 1, 2, 3], 4, true⟩ .leaf
def tbt37 : TT := .node .leaf 135 ⟨.struct [0, 1, 2], 3, true⟩ .leaf
def tbt38 : TT := .node tbt36 133 ⟨.slice 308, 1, false⟩ tbt37
def tbt39 : TT := .node .leaf 137 ⟨.slice 285, 1, false⟩ .leaf
def tbt40 : TT := .node .leaf 141 ⟨.struct [0, 4], 35, true⟩ .leaf
def tbt41 : TT := .node tbt39 139 ⟨.struct [0, 1, 2, 5, 8, 9, 10, 11, 12, 17, 18, 19, 20, 21, 22, 23, 28, 29, 30], 31, true⟩ tbt40
def tbt42 : TT := .node tbt38 136 ⟨.struct [0, 1, 2, 3, 4], 5, true⟩ tbt41
def tbt43 : TT := .node .leaf 145 ⟨.slice 230, 1, false⟩ .leaf
def tbt44 : TT := .node tbt43 147 ⟨.struct [0, 1, 2, 3, 4], 5, true⟩ .leaf
def tbt45 : TT := .node .leaf 158 ⟨.slice 71, 1, false⟩ .leaf
def tbt46 : TT := .node tbt44 149 ⟨.struct [0, 1, 2], 3, true⟩ tbt45
def tbt47 : TT := .node .leaf 162 ⟨.other, 1, false⟩ .leaf
def tbt48 : TT := .node .leaf 181 ⟨.struct [0], 1, true⟩ .leaf
def tbt49 : TT := .node tbt47 164 ⟨.struct [0, 1], 6, true⟩ tbt48
def tbt50 : TT := .node tbt46 159 ⟨.other, 1, false⟩ tbt49
def tbt51 : TT := .node tbt42 143 ⟨.struct [0, 1, 2, 3, 4, 5, 6], 41, true⟩ tbt50
def tbt52 : TT := .node .leaf 210 ⟨.other, 1, false⟩ .leaf
def tbt53 : TT := .node tbt52 217 ⟨.other, 1, false⟩ .leaf
def tbt54 : TT := .node .leaf 233 ⟨.int .u64, 1, false⟩ .leaf
def tbt55 : TT := .node tbt53 230 ⟨.struct [0, 1, 2], 3, true⟩ tbt54
def tbt56 : TT := .node .leaf 244 ⟨.slice 76, 1, false⟩ .leaf
def tbt57 : TT := .node .leaf 266 ⟨.int .u32, 1, false⟩ .leaf
def tbt58 : TT := .node tbt56 263 ⟨.other, 1, false⟩ tbt57
def tbt59 : TT := .node tbt55 239 ⟨.other, 1, false⟩ tbt58
def tbt60 : TT := .node .leaf 272 ⟨.other, 1, false⟩ .leaf
def tbt61 : TT := .node .leaf 280 ⟨.other, 1, false⟩ .leaf
def tbt62 : TT := .node tbt60 273 ⟨.other, 1, false⟩ tbt61
def tbt63 : TT := .node .leaf 300 ⟨.other, 1, false⟩ .leaf
def tbt64 : TT := .node .leaf 308 ⟨.struct [0, 1], 6, true⟩ .leaf
def tbt65 : TT := .node tbt63 302 ⟨.other, 1, false⟩ tbt64
def tbt66 : TT := .node tbt62 285 ⟨.struct [0], 1, true⟩ tbt65
def tbt67 : TT := .node tbt59 268 ⟨.int .u64, 1, false⟩ tbt66
def tbt68 : TT := .node tbt51 185 ⟨.other, 1, false⟩ tbt67
def tbt69 : TT := .node tbt34 112 ⟨.other, 1, false⟩ tbt68
theorem tbt1_ok : tbt1.Ok Tryz.prog := ⟨trivial, ⟨trivial, Tryz.sizeOf0, Tryz.isAgg0⟩, trivial⟩
theorem tbt2_ok : tbt2.Ok Tryz.prog := ⟨tbt1_ok, ⟨Tryz.runUnderlying3, Tryz.sizeOf3, Tryz.isAgg3⟩, trivial⟩
theorem tbt3_ok : tbt3.Ok Tryz.prog := ⟨trivial, ⟨Tryz.runUnderlying5, Tryz.sizeOf5, Tryz.isAgg5⟩, trivial⟩
theorem tbt4_ok : tbt4.Ok Tryz.prog := ⟨tbt2_ok, ⟨Tryz.runUnderlying4, Tryz.sizeOf4, Tryz.isAgg4⟩, tbt3_ok⟩
theorem tbt5_ok : tbt5.Ok Tryz.prog := ⟨trivial, ⟨trivial, Tryz.sizeOf20, Tryz.isAgg20⟩, trivial⟩
theorem tbt6_ok : tbt6.Ok Tryz.prog := ⟨trivial, ⟨Tryz.runUnderlying23, Tryz.sizeOf23, Tryz.isAgg23⟩, trivial⟩
theorem tbt7_ok : tbt7.Ok Tryz.prog := ⟨tbt5_ok, ⟨Tryz.runUnderlying22, Tryz.sizeOf22, Tryz.isAgg22⟩, tbt6_ok⟩
theorem tbt8_ok : tbt8.Ok Tryz.prog := ⟨tbt4_ok, ⟨Tryz.runUnderlying9, Tryz.sizeOf9, Tryz.isAgg9⟩, tbt7_ok⟩
theorem tbt9_ok : tbt9.Ok Tryz.prog := ⟨trivial, ⟨⟨_, Tryz.runUnderlying26, rfl, ⟨⟨_, Tryz.sizeOf3, rfl⟩, ⟨⟨_, Tryz.sizeOf3, rfl⟩, ⟨⟨_, Tryz.sizeOf3, rfl⟩, ⟨⟨_, Tryz.sizeOf3, rfl⟩, ⟨⟨_, Tryz.sizeOf22, rfl⟩, ⟨⟨_, Tryz.sizeOf23, rfl⟩, ⟨⟨_, Tryz.sizeOf24, rfl⟩, trivial⟩⟩⟩⟩⟩⟩⟩⟩, Tryz.sizeOf26, Tryz.isAgg26⟩, trivial⟩
theorem tbt10_ok : tbt10.Ok Tryz.prog := ⟨tbt9_ok, ⟨Tryz.runUnderlying29, Tryz.sizeOf29, Tryz.isAgg29⟩, trivial⟩
theorem tbt11_ok : tbt11.Ok Tryz.prog := ⟨trivial, ⟨Tryz.runUnderlying31, Tryz.sizeOf31, Tryz.isAgg31⟩, trivial⟩
theorem tbt12_ok : tbt12.Ok Tryz.prog := ⟨tbt10_ok, ⟨Tryz.runUnderlying30, Tryz.sizeOf30, Tryz.isAgg30⟩, tbt11_ok⟩
theorem tbt13_ok : tbt13.Ok Tryz.prog := ⟨trivial, ⟨trivial, Tryz.sizeOf37, Tryz.isAgg37⟩, trivial⟩
theorem tbt14_ok : tbt14.Ok Tryz.prog := ⟨trivial, ⟨Tryz.runUnderlying56, Tryz.sizeOf56, Tryz.isAgg56⟩, trivial⟩
theorem tbt15_ok : tbt15.Ok Tryz.prog := ⟨tbt13_ok, ⟨Tryz.runUnderlying44, Tryz.sizeOf44, Tryz.isAgg44⟩, tbt14_ok⟩
theorem tbt16_ok : tbt16.Ok Tryz.prog := ⟨tbt12_ok, ⟨⟨_, Tryz.runUnderlying33, rfl, ⟨⟨_, Tryz.sizeOf3, rfl⟩, ⟨⟨_, Tryz.sizeOf3, rfl⟩, ⟨⟨_, Tryz.sizeOf3, rfl⟩, ⟨⟨_, Tryz.sizeOf3, rfl⟩, ⟨⟨_, Tryz.sizeOf29, rfl⟩, ⟨⟨_, Tryz.sizeOf30, rfl⟩, ⟨⟨_, Tryz.sizeOf31, rfl⟩, trivial⟩⟩⟩⟩⟩⟩⟩⟩, Tryz.sizeOf33, Tryz.isAgg33⟩, tbt15_ok⟩
theorem tbt17_ok : tbt17.Ok Tryz.prog := ⟨tbt8_ok, ⟨Tryz.runUnderlying24, Tryz.sizeOf24, Tryz.isAgg24⟩, tbt16_ok⟩
theorem tbt18_ok : tbt18.Ok Tryz.prog := ⟨trivial, ⟨Tryz.runUnderlying60, Tryz.sizeOf60, Tryz.isAgg60⟩, trivial⟩
theorem tbt19_ok : tbt19.Ok Tryz.prog := ⟨tbt18_ok, ⟨trivial, Tryz.sizeOf66, Tryz.isAgg66⟩, trivial⟩
theorem tbt20_ok : tbt20.Ok Tryz.prog := ⟨trivial, ⟨trivial, Tryz.sizeOf72, Tryz.isAgg72⟩, trivial⟩
theorem tbt21_ok : tbt21.Ok Tryz.prog := ⟨tbt19_ok, ⟨⟨_, Tryz.runUnderlying71, rfl, ⟨⟨_, Tryz.sizeOf3, rfl⟩, ⟨⟨_, Tryz.sizeOf3, rfl⟩, ⟨⟨_, Tryz.sizeOf3, rfl⟩, ⟨⟨_, Tryz.sizeOf3, rfl⟩, ⟨⟨_, Tryz.sizeOf3, rfl⟩, trivial⟩⟩⟩⟩⟩⟩, Tryz.sizeOf71, Tryz.isAgg71⟩, tbt20_ok⟩
theorem tbt22_ok : tbt22.Ok Tryz.prog := ⟨trivial, ⟨⟨_, Tryz.runUnderlying76, rfl, ⟨⟨_, Tryz.sizeOf3, rfl⟩, ⟨⟨_, Tryz.sizeOf3, rfl⟩, ⟨⟨_, Tryz.sizeOf74, rfl⟩, trivial⟩⟩⟩⟩, Tryz.sizeOf76, Tryz.isAgg76⟩, trivial⟩
theorem tbt23_ok : tbt23.Ok Tryz.prog := ⟨trivial, ⟨trivial, Tryz.sizeOf80, Tryz.isAgg80⟩, trivial⟩
theorem tbt24_ok : tbt24.Ok Tryz.prog := ⟨tbt22_ok, ⟨trivial, Tryz.sizeOf77, Tryz.isAgg77⟩, tbt23_ok⟩
theorem tbt25_ok : tbt25.Ok Tryz.prog := ⟨tbt21_ok, ⟨Tryz.runUnderlying74, Tryz.sizeOf74, Tryz.isAgg74⟩, tbt24_ok⟩
theorem tbt26_ok : tbt26.Ok Tryz.prog := ⟨trivial, ⟨⟨_, Tryz.runUnderlying86, rfl, ⟨⟨_, Tryz.sizeOf3, rfl⟩, ⟨⟨_, Tryz.sizeOf3, rfl⟩, ⟨⟨_, Tryz.sizeOf4, rfl⟩, ⟨⟨_, Tryz.sizeOf4, rfl⟩, ⟨⟨_, Tryz.sizeOf4, rfl⟩, trivial⟩⟩⟩⟩⟩⟩, Tryz.sizeOf86, Tryz.isAgg86⟩, trivial⟩
theorem tbt27_ok : tbt27.Ok Tryz.prog := ⟨trivial, ⟨⟨_, Tryz.runUnderlying89, rfl, ⟨⟨_, Tryz.sizeOf3, rfl⟩, ⟨⟨_, Tryz.sizeOf3, rfl⟩, ⟨⟨_, Tryz.sizeOf76, rfl⟩, ⟨⟨_, Tryz.sizeOf76, rfl⟩, ⟨⟨_, Tryz.sizeOf4, rfl⟩, ⟨⟨_, Tryz.sizeOf3, rfl⟩, ⟨⟨_, Tryz.sizeOf3, rfl⟩, ⟨⟨_, Tryz.sizeOf4, rfl⟩, ⟨⟨_, Tryz.sizeOf86, rfl⟩, ⟨⟨_, Tryz.sizeOf3, rfl⟩, ⟨⟨_, Tryz.sizeOf3, rfl⟩, ⟨⟨_, Tryz.sizeOf4, rfl⟩, ⟨⟨_, Tryz.sizeOf4, rfl⟩, ⟨⟨_, Tryz.sizeOf3, rfl⟩, ⟨⟨_, Tryz.sizeOf3, rfl⟩, ⟨⟨_, Tryz.sizeOf86, rfl⟩, ⟨⟨_, Tryz.sizeOf60, rfl⟩, ⟨⟨_, Tryz.sizeOf3, rfl⟩, ⟨⟨_, Tryz.sizeOf87, rfl⟩, trivial⟩⟩⟩⟩⟩⟩⟩⟩⟩⟩⟩⟩⟩⟩⟩⟩⟩⟩⟩⟩, Tryz.sizeOf89, Tryz.isAgg89⟩, trivial⟩
theorem tbt28_ok : tbt28.Ok Tryz.prog := ⟨tbt26_ok, ⟨Tryz.runUnderlying87, Tryz.sizeOf87, Tryz.isAgg87⟩, tbt27_ok⟩
theorem tbt29_ok : tbt29.Ok Tryz.prog := ⟨trivial, ⟨⟨_, Tryz.runUnderlying93, rfl, ⟨⟨_, Tryz.sizeOf3, rfl⟩, ⟨⟨_, Tryz.sizeOf9, rfl⟩, ⟨⟨_, Tryz.sizeOf9, rfl⟩, ⟨⟨_, Tryz.sizeOf3, rfl⟩, ⟨⟨_, Tryz.sizeOf3, rfl⟩, ⟨⟨_, Tryz.sizeOf3, rfl⟩, ⟨⟨_, Tryz.sizeOf91, rfl⟩, trivial⟩⟩⟩⟩⟩⟩⟩⟩, Tryz.sizeOf93, Tryz.isAgg93⟩, trivial⟩
theorem tbt30_ok : tbt30.Ok Tryz.prog := ⟨trivial, ⟨⟨_, Tryz.runUnderlying106, rfl, ⟨⟨_, Tryz.sizeOf9, rfl⟩, ⟨⟨_, Tryz.sizeOf60, rfl⟩, ⟨⟨_, Tryz.sizeOf3, rfl⟩, trivial⟩⟩⟩⟩, Tryz.sizeOf106, Tryz.isAgg106⟩, trivial⟩
theorem tbt31_ok : tbt31.Ok Tryz.prog := ⟨tbt29_ok, ⟨⟨_, Tryz.runUnderlying103, rfl, ⟨⟨_, Tryz.sizeOf3, rfl⟩, ⟨⟨_, Tryz.sizeOf4, rfl⟩, ⟨⟨_, Tryz.sizeOf3, rfl⟩, trivial⟩⟩⟩⟩, Tryz.sizeOf103, Tryz.isAgg103⟩, tbt30_ok⟩
theorem tbt32_ok : tbt32.Ok Tryz.prog := ⟨tbt28_ok, ⟨⟨_, Tryz.runUnderlying91, rfl, ⟨⟨_, Tryz.sizeOf84, rfl⟩, ⟨⟨_, Tryz.sizeOf89, rfl⟩, trivial⟩⟩⟩, Tryz.sizeOf91, Tryz.isAgg91⟩, tbt31_ok⟩
theorem tbt33_ok : tbt33.Ok Tryz.prog := ⟨tbt25_ok, ⟨⟨_, Tryz.runUnderlying84, rfl, ⟨⟨_, Tryz.sizeOf3, rfl⟩, ⟨⟨_, Tryz.sizeOf4, rfl⟩, ⟨⟨_, Tryz.sizeOf60, rfl⟩, ⟨⟨_, Tryz.sizeOf44, rfl⟩, trivial⟩⟩⟩⟩⟩, Tryz.sizeOf84, Tryz.isAgg84⟩, tbt32_ok⟩
theorem tbt34_ok : tbt34.Ok Tryz.prog := ⟨tbt17_ok, ⟨⟨_, Tryz.runUnderlying58, rfl, ⟨⟨_, Tryz.sizeOf3, rfl⟩, ⟨⟨_, Tryz.sizeOf9, rfl⟩, ⟨⟨_, Tryz.sizeOf56, rfl⟩, ⟨⟨_, Tryz.sizeOf3, rfl⟩, ⟨⟨_, Tryz.sizeOf4, rfl⟩, trivial⟩⟩⟩⟩⟩⟩, Tryz.sizeOf58, Tryz.isAgg58⟩, tbt33_ok⟩
theorem tbt35_ok : tbt35.Ok Tryz.prog := ⟨trivial, ⟨trivial, Tryz.sizeOf114, Tryz.isAgg114⟩, trivial⟩
theorem tbt36_ok : tbt36.Ok Tryz.prog := ⟨tbt35_ok, ⟨⟨_, Tryz.runUnderlying132, rfl, ⟨⟨_, Tryz.sizeOf3, rfl⟩, ⟨⟨_, Tryz.sizeOf4, rfl⟩, ⟨⟨_, Tryz.sizeOf60, rfl⟩, ⟨⟨_, Tryz.sizeOf44, rfl⟩, trivial⟩⟩⟩⟩⟩, Tryz.sizeOf132, Tryz.isAgg132⟩, trivial⟩
theorem tbt37_ok : tbt37.Ok Tryz.prog := ⟨trivial, ⟨⟨_, Tryz.runUnderlying135, rfl, ⟨⟨_, Tryz.sizeOf3, rfl⟩, ⟨⟨_, Tryz.sizeOf3, rfl⟩, ⟨⟨_, Tryz.sizeOf133, rfl⟩, trivial⟩⟩⟩⟩, Tryz.sizeOf135, Tryz.isAgg135⟩, trivial⟩
theorem tbt38_ok : tbt38.Ok Tryz.prog := ⟨tbt36_ok, ⟨Tryz.runUnderlying133, Tryz.sizeOf133, Tryz.isAgg133⟩, tbt37_ok⟩
theorem tbt39_ok : tbt39.Ok Tryz.prog := ⟨trivial, ⟨Tryz.runUnderlying137, Tryz.sizeOf137, Tryz.isAgg137⟩, trivial⟩
theorem tbt40_ok : tbt40.Ok Tryz.prog := ⟨trivial, ⟨⟨_, Tryz.runUnderlying141, rfl, ⟨⟨_, Tryz.sizeOf132, rfl⟩, ⟨⟨_, Tryz.sizeOf139, rfl⟩, trivial⟩⟩⟩, Tryz.sizeOf141, Tryz.isAgg141⟩, trivial⟩
theorem tbt41_ok : tbt41.Ok Tryz.prog := ⟨tbt39_ok, ⟨⟨_, Tryz.runUnderlying139, rfl, ⟨⟨_, Tryz.sizeOf3, rfl⟩, ⟨⟨_, Tryz.sizeOf3, rfl⟩, ⟨⟨_, Tryz.sizeOf135, rfl⟩, ⟨⟨_, Tryz.sizeOf135, rfl⟩, ⟨⟨_, Tryz.sizeOf4, rfl⟩, ⟨⟨_, Tryz.sizeOf3, rfl⟩, ⟨⟨_, Tryz.sizeOf3, rfl⟩, ⟨⟨_, Tryz.sizeOf4, rfl⟩, ⟨⟨_, Tryz.sizeOf136, rfl⟩, ⟨⟨_, Tryz.sizeOf3, rfl⟩, ⟨⟨_, Tryz.sizeOf3, rfl⟩, ⟨⟨_, Tryz.sizeOf4, rfl⟩, ⟨⟨_, Tryz.sizeOf4, rfl⟩, ⟨⟨_, Tryz.sizeOf3, rfl⟩, ⟨⟨_, Tryz.sizeOf3, rfl⟩, ⟨⟨_, Tryz.sizeOf136, rfl⟩, ⟨⟨_, Tryz.sizeOf60, rfl⟩, ⟨⟨_, Tryz.sizeOf3, rfl⟩, ⟨⟨_, Tryz.sizeOf137, rfl⟩, trivial⟩⟩⟩⟩⟩⟩⟩⟩⟩⟩⟩⟩⟩⟩⟩⟩⟩⟩⟩⟩, Tryz.sizeOf139, Tryz.isAgg139⟩, tbt40_ok⟩
theorem tbt42_ok : tbt42.Ok Tryz.prog := ⟨tbt38_ok, ⟨⟨_, Tryz.runUnderlying136, rfl, ⟨⟨_, Tryz.sizeOf3, rfl⟩, ⟨⟨_, Tryz.sizeOf3, rfl⟩, ⟨⟨_, Tryz.sizeOf4, rfl⟩, ⟨⟨_, Tryz.sizeOf4, rfl⟩, ⟨⟨_, Tryz.sizeOf4, rfl⟩, trivial⟩⟩⟩⟩⟩⟩, Tryz.sizeOf136, Tryz.isAgg136⟩, tbt41_ok⟩
theorem tbt43_ok : tbt43.Ok Tryz.prog := ⟨trivial, ⟨Tryz.runUnderlying145, Tryz.sizeOf145, Tryz.isAgg145⟩, trivial⟩
theorem tbt44_ok : tbt44.Ok Tryz.prog := ⟨tbt43_ok, ⟨⟨_, Tryz.runUnderlying147, rfl, ⟨⟨_, Tryz.sizeOf3, rfl⟩, ⟨⟨_, Tryz.sizeOf9, rfl⟩, ⟨⟨_, Tryz.sizeOf145, rfl⟩, ⟨⟨_, Tryz.sizeOf3, rfl⟩, ⟨⟨_, Tryz.sizeOf4, rfl⟩, trivial⟩⟩⟩⟩⟩⟩, Tryz.sizeOf147, Tryz.isAgg147⟩, trivial⟩
theorem tbt45_ok : tbt45.Ok Tryz.prog := ⟨trivial, ⟨Tryz.runUnderlying158, Tryz.sizeOf158, Tryz.isAgg158⟩, trivial⟩
theorem tbt46_ok : tbt46.Ok Tryz.prog := ⟨tbt44_ok, ⟨⟨_, Tryz.runUnderlying149, rfl, ⟨⟨_, Tryz.sizeOf9, rfl⟩, ⟨⟨_, Tryz.sizeOf60, rfl⟩, ⟨⟨_, Tryz.sizeOf3, rfl⟩, trivial⟩⟩⟩⟩, Tryz.sizeOf149, Tryz.isAgg149⟩, tbt45_ok⟩
theorem tbt47_ok : tbt47.Ok Tryz.prog := ⟨trivial, ⟨trivial, Tryz.sizeOf162, Tryz.isAgg162⟩, trivial⟩
theorem tbt48_ok : tbt48.Ok Tryz.prog := ⟨trivial, ⟨⟨_, Tryz.runUnderlying181, rfl, ⟨⟨_, Tryz.sizeOf74, rfl⟩, trivial⟩⟩, Tryz.sizeOf181, Tryz.isAgg181⟩, trivial⟩
theorem tbt49_ok : tbt49.Ok Tryz.prog := ⟨tbt47_ok, ⟨⟨_, Tryz.runUnderlying164, rfl, ⟨⟨_, Tryz.sizeOf3, rfl⟩, ⟨⟨_, Tryz.sizeOf86, rfl⟩, trivial⟩⟩⟩, Tryz.sizeOf164, Tryz.isAgg164⟩, tbt48_ok⟩
theorem tbt50_ok : tbt50.Ok Tryz.prog := ⟨tbt46_ok, ⟨trivial, Tryz.sizeOf159, Tryz.isAgg159⟩, tbt49_ok⟩
theorem tbt51_ok : tbt51.Ok Tryz.prog := ⟨tbt42_ok, ⟨⟨_, Tryz.runUnderlying143, rfl, ⟨⟨_, Tryz.sizeOf3, rfl⟩, ⟨⟨_, Tryz.sizeOf9, rfl⟩, ⟨⟨_, Tryz.sizeOf9, rfl⟩, ⟨⟨_, Tryz.sizeOf3, rfl⟩, ⟨⟨_, Tryz.sizeOf3, rfl⟩, ⟨⟨_, Tryz.sizeOf3, rfl⟩, ⟨⟨_, Tryz.sizeOf141, rfl⟩, trivial⟩⟩⟩⟩⟩⟩⟩⟩, Tryz.sizeOf143, Tryz.isAgg143⟩, tbt50_ok⟩
theorem tbt52_ok : tbt52.Ok Tryz.prog := ⟨trivial, ⟨trivial, Tryz.sizeOf210, Tryz.isAgg210⟩, trivial⟩
theorem tbt53_ok : tbt53.Ok Tryz.prog := ⟨tbt52_ok, ⟨trivial, Tryz.sizeOf217, Tryz.isAgg217⟩, trivial⟩
theorem tbt54_ok : tbt54.Ok Tryz.prog := ⟨trivial, ⟨Tryz.runUnderlying233, Tryz.sizeOf233, Tryz.isAgg233⟩, trivial⟩
theorem tbt55_ok : tbt55.Ok Tryz.prog := ⟨tbt53_ok, ⟨⟨_, Tryz.runUnderlying230, rfl, ⟨⟨_, Tryz.sizeOf3, rfl⟩, ⟨⟨_, Tryz.sizeOf4, rfl⟩, ⟨⟨_, Tryz.sizeOf3, rfl⟩, trivial⟩⟩⟩⟩, Tryz.sizeOf230, Tryz.isAgg230⟩, tbt54_ok⟩
theorem tbt56_ok : tbt56.Ok Tryz.prog := ⟨trivial, ⟨Tryz.runUnderlying244, Tryz.sizeOf244, Tryz.isAgg244⟩, trivial⟩
theorem tbt57_ok : tbt57.Ok Tryz.prog := ⟨trivial, ⟨Tryz.runUnderlying266, Tryz.sizeOf266, Tryz.isAgg266⟩, trivial⟩
theorem tbt58_ok : tbt58.Ok Tryz.prog := ⟨tbt56_ok, ⟨trivial, Tryz.sizeOf263, Tryz.isAgg263⟩, tbt57_ok⟩
theorem tbt59_ok : tbt59.Ok Tryz.prog := ⟨tbt55_ok, ⟨trivial, Tryz.sizeOf239, Tryz.isAgg239⟩, tbt58_ok⟩
theorem tbt60_ok : tbt60.Ok Tryz.prog := ⟨trivial, ⟨trivial, Tryz.sizeOf272, Tryz.isAgg272⟩, trivial⟩
theorem tbt61_ok : tbt61.Ok Tryz.prog := ⟨trivial, ⟨trivial, Tryz.sizeOf280, Tryz.isAgg280⟩, trivial⟩
theorem tbt62_ok : tbt62.Ok Tryz.prog := ⟨tbt60_ok, ⟨trivial, Tryz.sizeOf273, Tryz.isAgg273⟩, tbt61_ok⟩
theorem tbt63_ok : tbt63.Ok Tryz.prog := ⟨trivial, ⟨trivial, Tryz.sizeOf300, Tryz.isAgg300⟩, trivial⟩
theorem tbt64_ok : tbt64.Ok Tryz.prog := ⟨trivial, ⟨⟨_, Tryz.runUnderlying308, rfl, ⟨⟨_, Tryz.sizeOf3, rfl⟩, ⟨⟨_, Tryz.sizeOf136, rfl⟩, trivial⟩⟩⟩, Tryz.sizeOf308, Tryz.isAgg308⟩, trivial⟩
theorem tbt65_ok : tbt65.Ok Tryz.prog := ⟨tbt63_ok, ⟨trivial, Tryz.sizeOf302, Tryz.isAgg302⟩, tbt64_ok⟩
theorem tbt66_ok : tbt66.Ok Tryz.prog := ⟨tbt62_ok, ⟨⟨_, Tryz.runUnderlying285, rfl, ⟨⟨_, Tryz.sizeOf133, rfl⟩, trivial⟩⟩, Tryz.sizeOf285, Tryz.isAgg285⟩, tbt65_ok⟩
theorem tbt67_ok : tbt67.Ok Tryz.prog := ⟨tbt59_ok, ⟨Tryz.runUnderlying268, Tryz.sizeOf268, Tryz.isAgg268⟩, tbt66_ok⟩
theorem tbt68_ok : tbt68.Ok Tryz.prog := ⟨tbt51_ok, ⟨trivial, Tryz.sizeOf185, Tryz.isAgg185⟩, tbt67_ok⟩
theorem tbt69_ok : tbt69.Ok Tryz.prog := ⟨tbt34_ok, ⟨trivial, Tryz.sizeOf112, Tryz.isAgg112⟩, tbt68_ok⟩
theorem tbk : TT.Ok Tryz.prog tbt69 := tbt69_ok
instance tbkI : TbOk Tryz.prog tbt69 := ⟨tbk⟩
instance mxI : Mx Tryz.prog := ⟨by kernel_rfl⟩
theorem mixed : Tryz.prog.follows .mixedOrders = true := by kernel_rfl
instance boolPW {n lo hi : Int} : BoolP (within n lo hi) (lo ≤ n ∧ n ≤ hi) (¬ (lo ≤ n ∧ n ≤ hi)) := ⟨within_iff.1, within_not.1⟩
theorem inf3 : Tryz.prog.info? 3 = some Tryz.t3 := by kernel_rfl
theorem inf5 : Tryz.prog.info? 5 = some Tryz.t5 := by kernel_rfl
theorem inf103 : Tryz.prog.info? 103 = some Tryz.t103 := by kernel_rfl
theorem inf164 : Tryz.prog.info? 164 = some Tryz.t164 := by kernel_rfl
theorem k0_ (n lo hi : Int) (w : World) :
    Calls Tryz.prog 58 #[i64 n, i64 lo, i64 hi] w fun e w' => e = .returned (.bool (within n lo hi)) ∧ St w [] [] w' := by
 refine enter 15 Tryz.func58 rfl Tryz.ntmps58 rfl rfl ?_
 have hs1 := St.init w
 refine WC.r1 hs1 [] rfl (WC.sr (WL.r 4 hs1 [] rfl (WL.pA tbk 3 Acts.nil hs1 [] rfl rfl rfl rfl (fun g_ => trivial) (WL.r 1 hs1 [] rfl (WL.nil (WC.ret (retV1 rfl (resV.tmp rfl) ?_)))))))
 refine ⟨congrArg Ending.returned ?_, hs1.nil⟩
 rfl
theorem k1_ (n : Int) (w : World) :
    Calls Tryz.prog 59 #[i64 n] w fun e w' => e = .returned (.bool (isId n)) ∧ St w [] [] w' := by
 refine enter 5 Tryz.func59 rfl Tryz.ntmps59 rfl rfl ?_
 have hs1 := St.init w
 refine WC.r1 hs1 [] rfl (WC.sr (WL.r 1 hs1 [] rfl (WL.cl Tryz.call58 rfl (k0_ _ _ _ _) ?_)))
 rintro _ whs2 ⟨rfl, hs2⟩
 replace hs2 := hs1.call0 hs2
 refine ⟨_, rfl, WL.r 1 hs2 [] rfl (WL.nil (WC.ret (rtv rfl rfl hs2 ?_)))⟩
 rfl
theorem k2_ (n : Int) (w : World) :
    Calls Tryz.prog 268 #[i64 n] w fun e w' => e = .returned (.bool (shows n)) ∧ St w [] [] w' := by
 refine enter 14 Tryz.func268 rfl Tryz.ntmps268 rfl rfl ?_
 have hs1 := St.init w
 refine WC.r1 hs1 [] rfl (WC.sr (WL.r 1 hs1 [] rfl (WL.cl Tryz.call58 rfl (k0_ _ _ _ _) ?_)))
 rintro _ whs2 ⟨rfl, hs2⟩
 replace hs2 := hs1.call0 hs2
 refine ⟨_, rfl, WL.r 1 hs2 [] rfl ?_⟩
 apply WL.gO 7 Acts.nil hs2 rfl
 ·intro g3 J4
  have qg3 := g3
  try simp only [bf, within_iff, within_not] at qg3
  refine WL.runA tbk 1 (Acts.nil.cons (j := 2) rfl g3) hs2 [] rfl trivial (WL.call (wantF rfl g3) rfl rfl (Run.call Tryz.call58 rfl rfl rfl) (k0_ _ _ _ _) ?_)
  rintro _ whs5 ⟨rfl, hs5⟩
  replace hs5 := hs2.call0 hs5
  refine ⟨_, rfl, WL.runA tbk 1 (Acts.nil.cons (j := 2) rfl g3) hs5 [] rfl trivial ?_⟩
  apply WL.gA 3 (Acts.nil.cons (j := 2) rfl g3) hs5 rfl
  ·intro g6 J7
   have qg6 := g6
   try simp only [bf, within_iff, within_not] at qg6
   refine WL.runA tbk 1 (Acts.nil.cons (j := 5) rfl g6) hs5 [] rfl trivial (WL.call (wantT rfl g6) rfl rfl (Run.call Tryz.call58 rfl rfl rfl) (k0_ _ _ _ _) ?_)
   rintro _ whs8 ⟨rfl, hs8⟩
   replace hs8 := hs5.call0 hs8
   refine ⟨_, rfl, WL.runA tbk 1 (Acts.nil.cons (j := 5) rfl g6) hs8 [] rfl trivial (WL.eA 3 (Acts.nil.cons (j := 2) rfl g3) J7 hs8 g6 rfl rfl)⟩
  intro _ hs9
  exact WL.eO 4 Acts.nil J4 hs9 g3 rfl rfl
 intro _ hs10
 refine WL.r 1 hs10 [] rfl (WL.nil (WC.ret (rtv rfl rfl hs10 ?_)))
 rfl
theorem k3_ (A_a : Option Addr) (n_a c_a : Nat) (a : List UInt8) (left : Int) (w : World) (f_a : SlF encB w A_a n_a a) (h1 : 0 ≤ left) (h2 : left ≤ 1048576) (h3 : n_a ≤ 9223372036854775807) :
    Calls Tryz.prog 243 #[.slice A_a n_a c_a, i64 left] w fun e w' => e = .returned (.int .i64 (szR left n_a)) ∧ St w [] [] w' := by
 refine enter 12 Tryz.func243 rfl Tryz.ntmps243 rfl rfl ?_
 have hs1 := St.init w
 refine WC.r1 hs1 [] rfl (WC.r1 hs1 [] rfl (WC.seq (fun K2 hK2 => WC.r1 hs1 [] rfl ?_)))
 refine WC.cD rfl (fun qh3 => ?_) (fun qh3 => ?_)
 ·refine WC.r1 hs1 [] rfl (WC.ret (tkR ?_))
  clear hK2
  refine rtv rfl rfl hs1 ?_
  simp only [szR]; rw [if_neg (by omega)]
 refine WC.skip (hK2 _ _ (WC.r1 hs1 [] rfl (WC.ret (rtv rfl rfl hs1 ?_))))
 simp only [szR]; rw [if_pos (by omega)]
theorem k4_ (A_a : Option Addr) (n_a c_a : Nat) (a : List UInt8) (w : World) (f_a : SlF encB w A_a n_a a) (hn : n_a ≤ 1099511627776) :
    Calls Tryz.prog 34 #[.slice A_a n_a c_a] w fun e w' => ∃ A c L1, e = .returned (.slice A (a).length c) ∧ St w [] L1 w' ∧ OwnF encB 5 (.slice A (a).length c) (a) L1 := by
 refine enter 22 Tryz.func34 rfl Tryz.ntmps34 rfl rfl ?_
 have hs1 := St.init w
 refine WC.r1 hs1 [] rfl (WC.sr (WL.r 2 hs1 [] rfl (WL.makeF (F := encB) hs1 Tryz.underlying44 inf5 rfl rfl rfl rfl rfl rfl rfl rfl rfl ?_ ?_ (fun A5 c6 L2 whs3 hs3 ho4 => ?_))))
 · have e_ : Tryz.t5.bytes = 1 := rfl
   rw [e_]; omega
 · omega
 refine WL.r 1 hs3 [] rfl (WL.nil (WC.seq (fun K7 hK7 => WC.r1 hs3 [] rfl (WC.block ?_))))
 refine WC.lO [0, 2] rfl hs3 (fun k_ f L_ => ∃ (i : Nat) (A8 : Option Addr) (c9 : Nat), k_ = n_a - i ∧ (i ≤ n_a) ∧ OwnF encB 5 (.slice A8 (n_a) c9) (fillG encB a i) L_ ∧ Sub [(3, .slice A8 (n_a) c9), (4, .int .i64 i)] f) (((fun (i : Nat) => n_a - i) (0))) ?_ ?_
 ·refine ⟨0, _, _, rfl, ?_, (fillG_zero f_a.len ▸ ho4), ⟨rfl, rfl, trivial⟩⟩
  · exact Nat.zero_le _
 clear hs3
 rintro _ f w L10 ⟨i, A8, c9, rfl, p0, ho11, hG⟩ hF hs12
 refine WC.sub _ (hG.app hF) ?_
 clear hG hF
 refine WC.seq (fun K13 hK13 => WC.r1 hs12 [] rfl ?_)
 refine WC.cq rfl (fun h14 qh14 => ?_) (fun h14 qh14 => ?_)
 ·refine WC.skip (hK13 _ _ (WC.seq (fun K15 hK15 => WC.block (WC.region (WL.r 4 hs12 [] rfl ?_)))))
  refine WL.val rfl rfl rfl (Run.idxN Tryz.runUnderlying44 Tryz.sizeOf5 rfl rfl rfl ?_ ?_ ?_) ?_
  · exact SlF.some_ (SlF.st0 f_a hs12)
  · omega
  · omega
  refine WL.val rfl rfl rfl (Run.load Tryz.isAgg5 rfl rfl (SlF.one1 (SlF.st0 f_a hs12) ?_ rfl)) ?_
  · omega
  refine WL.val rfl rfl rfl (Run.idxN Tryz.runUnderlying44 Tryz.sizeOf5 rfl rfl rfl ?_ ?_ ?_) ?_
  · exact SlF.some_ (SlF.ofOwn ho11 (hs12.ow L10))
  · omega
  · omega
  refine WL.storeF1 (x' := _) hs12 ho11 Tryz.sizeOf5 rfl rfl rfl rfl rfl rfl rfl rfl rfl ?_ rfl (fun L16 whs17 hs17 ho18 _ => ?_)
  · omega
  refine WL.nil (hK15 _ _ (WC.region (WL.r 3 hs17 [] rfl (WL.nil (tkN ?_)))))
  rw [fillG_set (i := i) (by rw [f_a.len]; omega) (by simp) (by simp)] at ho18
  refine ⟨sbF rfl, _, hs17, _, ?_, i + 1, _, _, rfl, ?_, ho18, ⟨rfl, rfl, trivial⟩⟩
  · omega
  · omega
 refine WC.exit (hK7 _ _ (WC.r1 hs12 [] rfl (WC.ret (retV1 rfl (resV.tmp rfl) ?_))))
 have hx_ := OwnF.eqOf (xs := a) ho11 (fillG_full (by rw [f_a.len]; omega))
 have hy_ := ho11
 rw [hx_] at hy_
 obtain ⟨A_, c_, hz_⟩ := hy_.shape
 exact ⟨A_, c_, _, congrArg Ending.returned hz_, (St.keep1 hs12), hz_ ▸ hy_⟩
theorem k5_ (A_a : Option Addr) (n_a c_a : Nat) (a : List UInt8) (A_b : Option Addr) (n_b c_b : Nat) (b : List UInt8) (w : World) (f_a : SlF encB w A_a n_a a) (f_b : SlF encB w A_b n_b b) (hn : n_a ≤ 1099511627776) (hab : a = b) :
    Calls Tryz.prog 26 #[.slice A_a n_a c_a, .slice A_b n_b c_b] w fun e w' => e = .returned (.bool true) ∧ St w [] [] w' := by
 subst hab
 obtain rfl : n_a = n_b := f_a.len.symm.trans f_b.len
 refine enter 26 Tryz.func26 rfl Tryz.ntmps26 rfl rfl ?_
 have hs1 := St.init w
 refine WC.r1 hs1 [] rfl (WC.seq (fun K2 hK2 => WC.r1 hs1 [] rfl (WC.condF rfl (by simp) (WC.skip (hK2 _ _ (WC.seq (fun K4 hK4 => WC.r1 hs1 [] rfl ?_)))))))
 refine WC.block (WC.lS [0, 1, 10] rfl hs1 (fun k_ f w' => ∃ (i : Nat), k_ = n_a - i ∧ (i ≤ n_a) ∧ Sub [(5, .int .i64 i)] f) ((fun (i : Nat) => n_a - i) (0)) ?_ ?_)
 ·refine ⟨0, rfl, ?_, ⟨rfl, trivial⟩⟩
  · exact Nat.zero_le _
 clear hs1
 rintro _ f w ⟨i, rfl, p0, hG⟩ hF hs5
 refine WC.sub _ (hG.app hF) ?_
 clear hG hF
 refine WC.seq (fun K6 hK6 => WC.r1 hs5 [] rfl ?_)
 refine WC.cD rfl (fun qh7 => ?_) (fun qh7 => ?_)
 ·refine WC.skip (hK6 _ _ (WC.seq (fun K8 hK8 => WC.block (WC.sq1 hs5 (WQ.r 2 [] rfl ?_)))))
  refine WQ.val rfl rfl rfl (fun w_ hs_ => (Run.idxN Tryz.runUnderlying44 Tryz.sizeOf5 rfl rfl rfl ?_ ?_ ?_)) ?_
  · exact SlF.some_ (SlF.st0 f_a (hs_ : St _ _ _ _))
  · omega
  · omega
  refine WQ.val rfl rfl rfl (fun w_ hs_ => (Run.load Tryz.isAgg5 rfl rfl (SlF.one1 (SlF.st0 f_a (hs_ : St _ _ _ _)) ?_ rfl))) ?_
  · omega
  refine WQ.r 2 [] rfl ?_
  refine WQ.val rfl rfl rfl (fun w_ hs_ => (Run.idxN Tryz.runUnderlying44 Tryz.sizeOf5 rfl rfl rfl ?_ ?_ ?_)) ?_
  · exact SlF.some_ (SlF.st0 f_b (hs_ : St _ _ _ _))
  · omega
  · omega
  refine WQ.val rfl rfl rfl (fun w_ hs_ => (Run.load Tryz.isAgg5 rfl rfl (SlF.one1 (SlF.st0 f_b (hs_ : St _ _ _ _)) ?_ rfl))) ?_
  · omega
  refine WQ.r 1 [] rfl (WQ.nil (fun _ (hs9 : St _ _ _ _) => WC.condF rfl (by simp) (WC.skip (hK8 _ _ (WC.region (WL.r 3 hs9 [] rfl (WL.nil ?_)))))))
  refine tkN (⟨sbF rfl, hs9, _, ?_, i + 1, rfl, ?_, ⟨rfl, trivial⟩⟩)
  · omega
  · omega
 refine WC.exit (hK4 _ _ (WC.r1 hs5 [] rfl (WC.ret (rtv rfl rfl hs5 ?_))))
 rfl
theorem k6_ (a_Fg : Int) (a_Bg : Int) (a_Bold : Bool) (a_Under : Bool) (a_Turn : Bool) (w : World) :
    Calls Tryz.prog 247 #[.agg #[i64 a_Fg, i64 a_Bg, .bool a_Bold, .bool a_Under, .bool a_Turn]] w fun e w' => e = .returned (.agg #[i64 a_Fg, i64 a_Bg, .bool a_Bold, .bool a_Under, .bool a_Turn]) ∧ St w [] [] w' := by
 refine enter 20 Tryz.func247 rfl Tryz.ntmps247 rfl rfl ?_
 have hs1 := St.init w
 refine WC.sr (WL.bx hs1 rfl (fun b2 _ hs3 => WL.al hs3 Tryz.zeroValue86 rfl rfl (fun b4 _ hs5 => WL.nil (WC.sr (WL.al hs5 Tryz.zeroValue86 rfl rfl (fun b6 _ hs7 => WL.nil (WC.sr ?_)))))))
 refine WL.r 3 hs7 [2] rfl (WL.st tbk hs7 0 rfl rfl (fun _ hs8 => WL.nil (WC.sr (WL.r 3 hs8 [2] rfl (WL.st tbk hs8 0 rfl rfl (fun _ hs9 => WL.nil (WC.sr ?_)))))))
 refine WL.r 3 hs9 [2] rfl (WL.st tbk hs9 0 rfl rfl (fun _ hs10 => WL.nil (WC.sr (WL.r 3 hs10 [2] rfl (WL.st tbk hs10 0 rfl rfl (fun _ hs11 => WL.nil (WC.sr ?_)))))))
 refine WL.r 3 hs11 [2] rfl (WL.st tbk hs11 0 rfl rfl (fun _ hs12 => WL.nil (WC.sr (WL.r 1 hs12 [0] rfl (WL.st tbk hs12 1 rfl rfl (fun _ hs13 => WL.nil (WC.ret ?_)))))))
 refine retV1 rfl (resV.cellA tbk hs13 1 rfl rfl rfl rfl) (⟨congrArg Ending.returned ?_, hs13.nil⟩)
 rfl
theorem k7_ (a_R : Int) (a_A_Fg : Int) (a_A_Bg : Int) (a_A_Bold : Bool) (a_A_Under : Bool) (a_A_Turn : Bool) (w : World) :
    Calls Tryz.prog 299 #[.agg #[i64 a_R, i64 a_A_Fg, i64 a_A_Bg, .bool a_A_Bold, .bool a_A_Under, .bool a_A_Turn]] w fun e w' => e = .returned (.agg #[i64 a_R, i64 a_A_Fg, i64 a_A_Bg, .bool a_A_Bold, .bool a_A_Under, .bool a_A_Turn]) ∧ St w [] [] w' := by
 refine enter 12 Tryz.func299 rfl Tryz.ntmps299 rfl rfl ?_
 have hs1 := St.init w
 refine WC.sr (WL.bx hs1 rfl (fun b2 _ hs3 => WL.al hs3 Tryz.zeroValue164 rfl rfl (fun b4 _ hs5 => WL.nil (WC.sr (WL.al hs5 Tryz.zeroValue164 rfl rfl (fun b6 _ hs7 => WL.nil (WC.sr ?_)))))))
 refine WL.r 3 hs7 [2] rfl (WL.st tbk hs7 0 rfl rfl (fun _ hs8 => WL.nil (WC.sr (WL.r 2 hs8 [2] rfl (WL.cl Tryz.call247 rfl (k6_ _ _ _ _ _ _) ?_)))))
 rintro _ whs9 ⟨rfl, hs9⟩
 replace hs9 := hs8.call0 hs9
 refine ⟨_, rfl, WL.r 1 hs9 [] rfl (WL.st tbk hs9 0 rfl rfl (fun _ hs10 => WL.nil (WC.sr (WL.r 1 hs10 [0] rfl (WL.st tbk hs10 1 rfl rfl (fun _ hs11 => WL.nil ?_))))))⟩
 refine WC.ret (retV1 rfl (resV.cellA tbk hs11 1 rfl rfl rfl rfl) (⟨congrArg Ending.returned ?_, hs11.nil⟩))
 rfl
theorem k8_ (a_Fg : Int) (a_Bg : Int) (a_Bold : Bool) (a_Under : Bool) (a_Turn : Bool) (b_Fg : Int) (b_Bg : Int) (b_Bold : Bool) (b_Under : Bool) (b_Turn : Bool) (w : World) (hab : (⟨a_Fg, a_Bg, a_Bold, a_Under, a_Turn⟩ : AttrD) = (⟨b_Fg, b_Bg, b_Bold, b_Under, b_Turn⟩ : AttrD)) :
    Calls Tryz.prog 261 #[.agg #[i64 a_Fg, i64 a_Bg, .bool a_Bold, .bool a_Under, .bool a_Turn], .agg #[i64 b_Fg, i64 b_Bg, .bool b_Bold, .bool b_Under, .bool b_Turn]] w fun e w' => e = .returned (.bool true) ∧ St w [] [] w' := by
 cases hab
 refine enter 30 Tryz.func261 rfl Tryz.ntmps261 rfl rfl ?_
 have hs1 := St.init w
 refine WC.sr (WL.bx hs1 rfl (fun b2 _ hs3 => WL.bx hs3 rfl (fun b4 _ hs5 => WL.r 1 hs5 [] rfl (WL.nil (WC.seq (fun K6 hK6 => WC.r1 hs5 [1, 0] rfl (WC.condF rfl (by simp) ?_)))))))
 refine WC.skip (hK6 _ _ (WC.seq (fun K8 hK8 => WC.r1 hs5 [1, 0] rfl (WC.condF rfl (by simp) (WC.skip (hK8 _ _ (WC.seq (fun K10 hK10 => ?_))))))))
 refine WC.r1 hs5 [1, 0] rfl (WC.condF rfl (by simp) (WC.skip (hK10 _ _ (WC.seq (fun K12 hK12 => WC.r1 hs5 [1, 0] rfl (WC.condF rfl (by simp) (WC.skip ?_)))))))
 refine hK12 _ _ (WC.seq (fun K14 hK14 => WC.r1 hs5 [1, 0] rfl (WC.condF rfl (by simp) (WC.skip (hK14 _ _ (WC.r1 hs5 [] rfl (WC.ret ?_)))))))
 refine rtv rfl rfl hs5 ?_
 rfl
theorem k9_ (a_R : Int) (a_A_Fg : Int) (a_A_Bg : Int) (a_A_Bold : Bool) (a_A_Under : Bool) (a_A_Turn : Bool) (b_R : Int) (b_A_Fg : Int) (b_A_Bg : Int) (b_A_Bold : Bool) (b_A_Under : Bool) (b_A_Turn : Bool) (w : World) (hab : (⟨a_R, ⟨a_A_Fg, a_A_Bg, a_A_Bold, a_A_Under, a_A_Turn⟩⟩ : CellD) = (⟨b_R, ⟨b_A_Fg, b_A_Bg, b_A_Bold, b_A_Under, b_A_Turn⟩⟩ : CellD)) :
    Calls Tryz.prog 301 #[.agg #[i64 a_R, i64 a_A_Fg, i64 a_A_Bg, .bool a_A_Bold, .bool a_A_Under, .bool a_A_Turn], .agg #[i64 b_R, i64 b_A_Fg, i64 b_A_Bg, .bool b_A_Bold, .bool b_A_Under, .bool b_A_Turn]] w fun e w' => e = .returned (.bool true) ∧ St w [] [] w' := by
 cases hab
 refine enter 16 Tryz.func301 rfl Tryz.ntmps301 rfl rfl ?_
 have hs1 := St.init w
 refine WC.sr (WL.bx hs1 rfl (fun b2 _ hs3 => WL.bx hs3 rfl (fun b4 _ hs5 => WL.r 1 hs5 [] rfl (WL.nil (WC.seq (fun K6 hK6 => WC.r1 hs5 [1, 0] rfl (WC.condF rfl (by simp) ?_)))))))
 refine WC.skip (hK6 _ _ (WC.seq (fun K8 hK8 => WC.sr (WL.r 4 hs5 [1, 0] rfl ?_))))
 refine WL.cl Tryz.call261 rfl (k8_ _ _ _ _ _ _ _ _ _ _ _ ?_) ?_
 · first | assumption | rfl | omega
 rintro _ whs9 ⟨rfl, hs9⟩
 replace hs9 := hs5.call0 hs9
 refine ⟨_, rfl, WL.r 1 hs9 [] rfl (WL.nil (WC.condF rfl (by simp) (WC.skip (hK8 _ _ (WC.r1 hs9 [] rfl (WC.ret ?_))))))⟩
 refine rtv rfl rfl hs9 ?_
 rfl
theorem k10_ (A_a : Option Addr) (n_a c_a : Nat) (a : List CellD) (w : World) (f_a : SlF encCell w A_a n_a a) (hn : n_a ≤ 1099511627776) :
    Calls Tryz.prog 279 #[.slice A_a n_a c_a] w fun e w' => ∃ A c L1, e = .returned (.slice A (a).length c) ∧ St w [] L1 w' ∧ OwnF encCell 164 (.slice A (a).length c) (a) L1 := by
 refine enter 23 Tryz.func279 rfl Tryz.ntmps279 rfl rfl ?_
 have hs1 := St.init w
 refine WC.r1 hs1 [] rfl (WC.sr (WL.r 2 hs1 [] rfl (WL.makeF (F := encCell) hs1 Tryz.underlying74 inf164 rfl rfl rfl rfl rfl rfl rfl rfl rfl ?_ ?_ (fun A5 c6 L2 whs3 hs3 ho4 => ?_))))
 · have e_ : Tryz.t164.bytes = 32 := rfl
   rw [e_]; omega
 · omega
 refine WL.r 1 hs3 [] rfl (WL.nil (WC.seq (fun K7 hK7 => WC.r1 hs3 [] rfl (WC.block ?_))))
 refine WC.lO [0, 2] rfl hs3 (fun k_ f L_ => ∃ (i : Nat) (A8 : Option Addr) (c9 : Nat), k_ = n_a - i ∧ (i ≤ n_a) ∧ OwnF encCell 164 (.slice A8 (n_a) c9) (fillG encCell a i) L_ ∧ Sub [(3, .slice A8 (n_a) c9), (4, .int .i64 i)] f) (((fun (i : Nat) => n_a - i) (0))) ?_ ?_
 ·refine ⟨0, _, _, rfl, ?_, (fillG_zero f_a.len ▸ ho4), ⟨rfl, rfl, trivial⟩⟩
  · exact Nat.zero_le _
 clear hs3
 rintro _ f w L10 ⟨i, A8, c9, rfl, p0, ho11, hG⟩ hF hs12
 refine WC.sub _ (hG.app hF) ?_
 clear hG hF
 refine WC.seq (fun K13 hK13 => WC.r1 hs12 [] rfl ?_)
 refine WC.cq rfl (fun h14 qh14 => ?_) (fun h14 qh14 => ?_)
 ·refine WC.skip (hK13 _ _ (WC.seq (fun K15 hK15 => WC.block (WC.region (WL.r 4 hs12 [] rfl ?_)))))
  refine WL.val rfl rfl rfl (Run.idxN Tryz.runUnderlying133 Tryz.sizeOf308 rfl rfl rfl ?_ ?_ ?_) ?_
  · exact SlF.some_ (SlF.st0 f_a hs12)
  · omega
  · omega
  refine WL.val rfl rfl rfl (Run.loadA Tryz.isAgg308 Tryz.sizeOf308 rfl rfl (SlF.whole (SlF.st0 f_a hs12) ?_)) ?_
  · omega
  refine WL.cl Tryz.call299 rfl (k7_ _ _ _ _ _ _ _) ?_
  rintro _ whs16 ⟨rfl, hs16⟩
  replace hs16 := hs12.call0 hs16
  refine ⟨_, rfl, WL.val rfl rfl rfl (Run.idxN Tryz.runUnderlying74 Tryz.sizeOf164 rfl rfl rfl ?_ ?_ ?_) ?_⟩
  · exact SlF.some_ (SlF.ofOwn ho11 (hs16.ow L10))
  · omega
  · omega
  refine WL.storeF1 (x' := _) hs16 ho11 Tryz.sizeOf164 rfl rfl rfl rfl rfl rfl rfl rfl rfl ?_ rfl (fun L17 whs18 hs18 ho19 _ => ?_)
  · omega
  refine WL.nil (hK15 _ _ (WC.region (WL.r 3 hs18 [] rfl (WL.nil (tkN ?_)))))
  rw [fillG_set (i := i) (by rw [f_a.len]; omega) (by simp) (by simp)] at ho19
  refine ⟨sbF rfl, _, hs18, _, ?_, i + 1, _, _, rfl, ?_, ho19, ⟨rfl, rfl, trivial⟩⟩
  · omega
  · omega
 refine WC.exit (hK7 _ _ (WC.r1 hs12 [] rfl (WC.ret (retV1 rfl (resV.tmp rfl) ?_))))
 have hx_ := OwnF.eqOf (xs := a) ho11 (fillG_full (by rw [f_a.len]; omega))
 have hy_ := ho11
 rw [hx_] at hy_
 obtain ⟨A_, c_, hz_⟩ := hy_.shape
 exact ⟨A_, c_, _, congrArg Ending.returned hz_, (St.keep1 hs12), hz_ ▸ hy_⟩
theorem k11_ (A_a : Option Addr) (n_a c_a : Nat) (a : List CellD) (A_b : Option Addr) (n_b c_b : Nat) (b : List CellD) (w : World) (f_a : SlF encCell w A_a n_a a) (f_b : SlF encCell w A_b n_b b) (hn : n_a ≤ 1099511627776) (hab : a = b) :
    Calls Tryz.prog 287 #[.slice A_a n_a c_a, .slice A_b n_b c_b] w fun e w' => e = .returned (.bool true) ∧ St w [] [] w' := by
 subst hab
 obtain rfl : n_a = n_b := f_a.len.symm.trans f_b.len
 refine enter 27 Tryz.func287 rfl Tryz.ntmps287 rfl rfl ?_
 have hs1 := St.init w
 refine WC.r1 hs1 [] rfl (WC.seq (fun K2 hK2 => WC.r1 hs1 [] rfl (WC.condF rfl (by simp) (WC.skip (hK2 _ _ (WC.seq (fun K4 hK4 => WC.r1 hs1 [] rfl ?_)))))))
 refine WC.block (WC.lS [0, 1, 10] rfl hs1 (fun k_ f w' => ∃ (i : Nat), k_ = n_a - i ∧ (i ≤ n_a) ∧ Sub [(5, .int .i64 i)] f) ((fun (i : Nat) => n_a - i) (0)) ?_ ?_)
 ·refine ⟨0, rfl, ?_, ⟨rfl, trivial⟩⟩
  · exact Nat.zero_le _
 clear hs1
 rintro _ f w ⟨i, rfl, p0, hG⟩ hF hs5
 refine WC.sub _ (hG.app hF) ?_
 clear hG hF
 refine WC.seq (fun K6 hK6 => WC.r1 hs5 [] rfl ?_)
 refine WC.cD rfl (fun qh7 => ?_) (fun qh7 => ?_)
 ·refine WC.skip (hK6 _ _ (WC.seq (fun K8 hK8 => WC.block (WC.sq1 hs5 (WQ.r 2 [] rfl ?_)))))
  refine WQ.val rfl rfl rfl (fun w_ hs_ => (Run.idxN Tryz.runUnderlying74 Tryz.sizeOf164 rfl rfl rfl ?_ ?_ ?_)) ?_
  · exact SlF.some_ (SlF.st0 f_a (hs_ : St _ _ _ _))
  · omega
  · omega
  refine WQ.val rfl rfl rfl (fun w_ hs_ => (Run.loadA Tryz.isAgg164 Tryz.sizeOf164 rfl rfl (SlF.whole (SlF.st0 f_a (hs_ : St _ _ _ _)) ?_))) ?_
  · omega
  refine WQ.r 2 [] rfl ?_
  refine WQ.val rfl rfl rfl (fun w_ hs_ => (Run.idxN Tryz.runUnderlying74 Tryz.sizeOf164 rfl rfl rfl ?_ ?_ ?_)) ?_
  · exact SlF.some_ (SlF.st0 f_b (hs_ : St _ _ _ _))
  · omega
  · omega
  refine WQ.val rfl rfl rfl (fun w_ hs_ => (Run.loadA Tryz.isAgg164 Tryz.sizeOf164 rfl rfl (SlF.whole (SlF.st0 f_b (hs_ : St _ _ _ _)) ?_))) ?_
  · omega
  refine WQ.call rfl rfl rfl (fun w_ hs_ => (Run.call Tryz.call301 rfl rfl rfl)) (fun w_ hs_ => (k9_ _ _ _ _ _ _ _ _ _ _ _ _ _ ?_).mono fun e_ w_ h_ => ⟨h_.1, (hs_ : St _ _ _ _).call0 h_.2⟩) ?_
  · first | assumption | rfl | omega
  refine WQ.r 1 [] rfl (WQ.nil (fun _ (hs9 : St _ _ _ _) => WC.condF rfl (by simp) (WC.skip (hK8 _ _ (WC.region (WL.r 3 hs9 [] rfl (WL.nil ?_)))))))
  refine tkN (⟨sbF rfl, hs9, _, ?_, i + 1, rfl, ?_, ⟨rfl, trivial⟩⟩)
  · omega
  · omega
 refine WC.exit (hK4 _ _ (WC.r1 hs5 [] rfl (WC.ret (rtv rfl rfl hs5 ?_))))
 rfl
theorem k12_ (A_a : Option Addr) (n_a c_a : Nat) (a : List CellD) (left : Int) (w : World) (f_a : SlF encCell w A_a n_a a) (h1 : 0 ≤ left) (h2 : left ≤ 1048576) (h3 : n_a ≤ 9223372036854775807) :
    Calls Tryz.prog 277 #[.slice A_a n_a c_a, i64 left] w fun e w' => e = .returned (.int .i64 (szR left n_a)) ∧ St w [] [] w' := by
 refine enter 12 Tryz.func277 rfl Tryz.ntmps277 rfl rfl ?_
 have hs1 := St.init w
 refine WC.r1 hs1 [] rfl (WC.r1 hs1 [] rfl (WC.seq (fun K2 hK2 => WC.r1 hs1 [] rfl ?_)))
 refine WC.cD rfl (fun qh3 => ?_) (fun qh3 => ?_)
 ·refine WC.r1 hs1 [] rfl (WC.ret (tkR ?_))
  clear hK2
  refine rtv rfl rfl hs1 ?_
  simp only [szR]; rw [if_neg (by omega)]
 refine WC.skip (hK2 _ _ (WC.r1 hs1 [] rfl (WC.ret (rtv rfl rfl hs1 ?_))))
 simp only [szR]; rw [if_pos (by omega)]
theorem k13_ (A_a : Option Addr) (n_a c_a : Nat) (a : List Int) (A_b : Option Addr) (n_b c_b : Nat) (b : List Int) (w : World) (f_a : SlF encI w A_a n_a a) (f_b : SlF encI w A_b n_b b) (hn : n_a ≤ 1099511627776) (hab : a = b) :
    Calls Tryz.prog 171 #[.slice A_a n_a c_a, .slice A_b n_b c_b] w fun e w' => e = .returned (.bool true) ∧ St w [] [] w' := by
 subst hab
 obtain rfl : n_a = n_b := f_a.len.symm.trans f_b.len
 refine enter 26 Tryz.func171 rfl Tryz.ntmps171 rfl rfl ?_
 have hs1 := St.init w
 refine WC.r1 hs1 [] rfl (WC.seq (fun K2 hK2 => WC.r1 hs1 [] rfl (WC.condF rfl (by simp) (WC.skip (hK2 _ _ (WC.seq (fun K4 hK4 => WC.r1 hs1 [] rfl ?_)))))))
 refine WC.block (WC.lS [0, 1, 10] rfl hs1 (fun k_ f w' => ∃ (i : Nat), k_ = n_a - i ∧ (i ≤ n_a) ∧ Sub [(5, .int .i64 i)] f) ((fun (i : Nat) => n_a - i) (0)) ?_ ?_)
 ·refine ⟨0, rfl, ?_, ⟨rfl, trivial⟩⟩
  · exact Nat.zero_le _
 clear hs1
 rintro _ f w ⟨i, rfl, p0, hG⟩ hF hs5
 refine WC.sub _ (hG.app hF) ?_
 clear hG hF
 refine WC.seq (fun K6 hK6 => WC.r1 hs5 [] rfl ?_)
 refine WC.cD rfl (fun qh7 => ?_) (fun qh7 => ?_)
 ·refine WC.skip (hK6 _ _ (WC.seq (fun K8 hK8 => WC.block (WC.sq1 hs5 (WQ.r 2 [] rfl ?_)))))
  refine WQ.val rfl rfl rfl (fun w_ hs_ => (Run.idxN Tryz.runUnderlying60 Tryz.sizeOf3 rfl rfl rfl ?_ ?_ ?_)) ?_
  · exact SlF.some_ (SlF.st0 f_a (hs_ : St _ _ _ _))
  · omega
  · omega
  refine WQ.val rfl rfl rfl (fun w_ hs_ => (Run.load Tryz.isAgg3 rfl rfl (SlF.one1 (SlF.st0 f_a (hs_ : St _ _ _ _)) ?_ rfl))) ?_
  · omega
  refine WQ.r 2 [] rfl ?_
  refine WQ.val rfl rfl rfl (fun w_ hs_ => (Run.idxN Tryz.runUnderlying60 Tryz.sizeOf3 rfl rfl rfl ?_ ?_ ?_)) ?_
  · exact SlF.some_ (SlF.st0 f_b (hs_ : St _ _ _ _))
  · omega
  · omega
  refine WQ.val rfl rfl rfl (fun w_ hs_ => (Run.load Tryz.isAgg3 rfl rfl (SlF.one1 (SlF.st0 f_b (hs_ : St _ _ _ _)) ?_ rfl))) ?_
  · omega
  refine WQ.r 1 [] rfl (WQ.nil (fun _ (hs9 : St _ _ _ _) => WC.condF rfl (by simp) (WC.skip (hK8 _ _ (WC.region (WL.r 3 hs9 [] rfl (WL.nil ?_)))))))
  refine tkN (⟨sbF rfl, hs9, _, ?_, i + 1, rfl, ?_, ⟨rfl, trivial⟩⟩)
  · omega
  · omega
 refine WC.exit (hK4 _ _ (WC.r1 hs5 [] rfl (WC.ret (rtv rfl rfl hs5 ?_))))
 rfl
theorem k14_ (A_a : Option Addr) (n_a c_a : Nat) (a : List Int) (left : Int) (w : World) (f_a : SlF encI w A_a n_a a) (h1 : 0 ≤ left) (h2 : left ≤ 1048576) (h3 : n_a ≤ 9223372036854775807) :
    Calls Tryz.prog 160 #[.slice A_a n_a c_a, i64 left] w fun e w' => e = .returned (.int .i64 (szR left n_a)) ∧ St w [] [] w' := by
 refine enter 12 Tryz.func160 rfl Tryz.ntmps160 rfl rfl ?_
 have hs1 := St.init w
 refine WC.r1 hs1 [] rfl (WC.r1 hs1 [] rfl (WC.seq (fun K2 hK2 => WC.r1 hs1 [] rfl ?_)))
 refine WC.cD rfl (fun qh3 => ?_) (fun qh3 => ?_)
 ·refine WC.r1 hs1 [] rfl (WC.ret (tkR ?_))
  clear hK2
  refine rtv rfl rfl hs1 ?_
  simp only [szR]; rw [if_neg (by omega)]
 refine WC.skip (hK2 _ _ (WC.r1 hs1 [] rfl (WC.ret (rtv rfl rfl hs1 ?_))))
 simp only [szR]; rw [if_pos (by omega)]
theorem k15_ (A_a : Option Addr) (n_a c_a : Nat) (a : List Int) (w : World) (f_a : SlF encI w A_a n_a a) (hn : n_a ≤ 1099511627776) :
    Calls Tryz.prog 164 #[.slice A_a n_a c_a] w fun e w' => ∃ A c L1, e = .returned (.slice A (a).length c) ∧ St w [] L1 w' ∧ OwnF encI 3 (.slice A (a).length c) (a) L1 := by
 refine enter 22 Tryz.func164 rfl Tryz.ntmps164 rfl rfl ?_
 have hs1 := St.init w
 refine WC.r1 hs1 [] rfl (WC.sr (WL.r 2 hs1 [] rfl (WL.makeF (F := encI) hs1 Tryz.underlying60 inf3 rfl rfl rfl rfl rfl rfl rfl rfl rfl ?_ ?_ (fun A5 c6 L2 whs3 hs3 ho4 => ?_))))
 · have e_ : Tryz.t3.bytes = 8 := rfl
   rw [e_]; omega
 · omega
 refine WL.r 1 hs3 [] rfl (WL.nil (WC.seq (fun K7 hK7 => WC.r1 hs3 [] rfl (WC.block ?_))))
 refine WC.lO [0, 2] rfl hs3 (fun k_ f L_ => ∃ (i : Nat) (A8 : Option Addr) (c9 : Nat), k_ = n_a - i ∧ (i ≤ n_a) ∧ OwnF encI 3 (.slice A8 (n_a) c9) (fillG encI a i) L_ ∧ Sub [(3, .slice A8 (n_a) c9), (4, .int .i64 i)] f) (((fun (i : Nat) => n_a - i) (0))) ?_ ?_
 ·refine ⟨0, _, _, rfl, ?_, (fillG_zero f_a.len ▸ ho4), ⟨rfl, rfl, trivial⟩⟩
  · exact Nat.zero_le _
 clear hs3
 rintro _ f w L10 ⟨i, A8, c9, rfl, p0, ho11, hG⟩ hF hs12
 refine WC.sub _ (hG.app hF) ?_
 clear hG hF
 refine WC.seq (fun K13 hK13 => WC.r1 hs12 [] rfl ?_)
 refine WC.cq rfl (fun h14 qh14 => ?_) (fun h14 qh14 => ?_)
 ·refine WC.skip (hK13 _ _ (WC.seq (fun K15 hK15 => WC.block (WC.region (WL.r 4 hs12 [] rfl ?_)))))
  refine WL.val rfl rfl rfl (Run.idxN Tryz.runUnderlying60 Tryz.sizeOf3 rfl rfl rfl ?_ ?_ ?_) ?_
  · exact SlF.some_ (SlF.st0 f_a hs12)
  · omega
  · omega
  refine WL.val rfl rfl rfl (Run.load Tryz.isAgg3 rfl rfl (SlF.one1 (SlF.st0 f_a hs12) ?_ rfl)) ?_
  · omega
  refine WL.val rfl rfl rfl (Run.idxN Tryz.runUnderlying60 Tryz.sizeOf3 rfl rfl rfl ?_ ?_ ?_) ?_
  · exact SlF.some_ (SlF.ofOwn ho11 (hs12.ow L10))
  · omega
  · omega
  refine WL.storeF1 (x' := _) hs12 ho11 Tryz.sizeOf3 rfl rfl rfl rfl rfl rfl rfl rfl rfl ?_ rfl (fun L16 whs17 hs17 ho18 _ => ?_)
  · omega
  refine WL.nil (hK15 _ _ (WC.region (WL.r 3 hs17 [] rfl (WL.nil (tkN ?_)))))
  rw [fillG_set (i := i) (by rw [f_a.len]; omega) (by simp) (by simp)] at ho18
  refine ⟨sbF rfl, _, hs17, _, ?_, i + 1, _, _, rfl, ?_, ho18, ⟨rfl, rfl, trivial⟩⟩
  · omega
  · omega
 refine WC.exit (hK7 _ _ (WC.r1 hs12 [] rfl (WC.ret (retV1 rfl (resV.tmp rfl) ?_))))
 have hx_ := OwnF.eqOf (xs := a) ho11 (fillG_full (by rw [f_a.len]; omega))
 have hy_ := ho11
 rw [hx_] at hy_
 obtain ⟨A_, c_, hz_⟩ := hy_.shape
 exact ⟨A_, c_, _, congrArg Ending.returned hz_, (St.keep1 hs12), hz_ ▸ hy_⟩
theorem k16_ (A_a : Option Addr) (n_a c_a : Nat) (a : List NodeD) (left : Int) (w : World) (f_a : SlF encNode w A_a n_a a) (h1 : 0 ≤ left) (h2 : left ≤ 1048576) (h3 : n_a ≤ 9223372036854775807) :
    Calls Tryz.prog 159 #[.slice A_a n_a c_a, i64 left] w fun e w' => e = .returned (.int .i64 (szR left n_a)) ∧ St w [] [] w' := by
 refine enter 12 Tryz.func159 rfl Tryz.ntmps159 rfl rfl ?_
 have hs1 := St.init w
 refine WC.r1 hs1 [] rfl (WC.r1 hs1 [] rfl (WC.seq (fun K2 hK2 => WC.r1 hs1 [] rfl ?_)))
 refine WC.cD rfl (fun qh3 => ?_) (fun qh3 => ?_)
 ·refine WC.r1 hs1 [] rfl (WC.ret (tkR ?_))
  clear hK2
  refine rtv rfl rfl hs1 ?_
  simp only [szR]; rw [if_neg (by omega)]
 refine WC.skip (hK2 _ _ (WC.r1 hs1 [] rfl (WC.ret (rtv rfl rfl hs1 ?_))))
 simp only [szR]; rw [if_pos (by omega)]
theorem k17_ (a_Pane : Int) (a_Down : Bool) (a_First : Int) (w : World) :
    Calls Tryz.prog 208 #[.agg #[i64 a_Pane, .bool a_Down, i64 a_First]] w fun e w' => e = .returned (.agg #[i64 a_Pane, .bool a_Down, i64 a_First]) ∧ St w [] [] w' := by
 refine enter 14 Tryz.func208 rfl Tryz.ntmps208 rfl rfl ?_
 have hs1 := St.init w
 refine WC.sr (WL.bx hs1 rfl (fun b2 _ hs3 => WL.al hs3 Tryz.zeroValue103 rfl rfl (fun b4 _ hs5 => WL.nil (WC.sr (WL.al hs5 Tryz.zeroValue103 rfl rfl (fun b6 _ hs7 => WL.nil (WC.sr ?_)))))))
 refine WL.r 3 hs7 [2] rfl (WL.st tbk hs7 0 rfl rfl (fun _ hs8 => WL.nil (WC.sr (WL.r 3 hs8 [2] rfl (WL.st tbk hs8 0 rfl rfl (fun _ hs9 => WL.nil (WC.sr ?_)))))))
 refine WL.r 3 hs9 [2] rfl (WL.st tbk hs9 0 rfl rfl (fun _ hs10 => WL.nil (WC.sr (WL.r 1 hs10 [0] rfl (WL.st tbk hs10 1 rfl rfl (fun _ hs11 => WL.nil (WC.ret ?_)))))))
 refine retV1 rfl (resV.cellA tbk hs11 1 rfl rfl rfl rfl) (⟨congrArg Ending.returned ?_, hs11.nil⟩)
 rfl
theorem k18_ (a_Pane : Int) (a_Down : Bool) (a_First : Int) (b_Pane : Int) (b_Down : Bool) (b_First : Int) (w : World) (hab : (⟨a_Pane, a_Down, a_First⟩ : NodeD) = (⟨b_Pane, b_Down, b_First⟩ : NodeD)) :
    Calls Tryz.prog 213 #[.agg #[i64 a_Pane, .bool a_Down, i64 a_First], .agg #[i64 b_Pane, .bool b_Down, i64 b_First]] w fun e w' => e = .returned (.bool true) ∧ St w [] [] w' := by
 cases hab
 refine enter 20 Tryz.func213 rfl Tryz.ntmps213 rfl rfl ?_
 have hs1 := St.init w
 refine WC.sr (WL.bx hs1 rfl (fun b2 _ hs3 => WL.bx hs3 rfl (fun b4 _ hs5 => WL.r 1 hs5 [] rfl (WL.nil (WC.seq (fun K6 hK6 => WC.r1 hs5 [1, 0] rfl (WC.condF rfl (by simp) ?_)))))))
 refine WC.skip (hK6 _ _ (WC.seq (fun K8 hK8 => WC.r1 hs5 [1, 0] rfl (WC.condF rfl (by simp) (WC.skip (hK8 _ _ (WC.seq (fun K10 hK10 => ?_))))))))
 refine WC.r1 hs5 [1, 0] rfl (WC.condF rfl (by simp) (WC.skip (hK10 _ _ (WC.r1 hs5 [] rfl (WC.ret (rtv rfl rfl hs5 ?_))))))
 rfl
theorem k19_ (A_a : Option Addr) (n_a c_a : Nat) (a : List NodeD) (w : World) (f_a : SlF encNode w A_a n_a a) (hn : n_a ≤ 1099511627776) :
    Calls Tryz.prog 163 #[.slice A_a n_a c_a] w fun e w' => ∃ A c L1, e = .returned (.slice A (a).length c) ∧ St w [] L1 w' ∧ OwnF encNode 103 (.slice A (a).length c) (a) L1 := by
 refine enter 23 Tryz.func163 rfl Tryz.ntmps163 rfl rfl ?_
 have hs1 := St.init w
 refine WC.r1 hs1 [] rfl (WC.sr (WL.r 2 hs1 [] rfl (WL.makeF (F := encNode) hs1 Tryz.underlying56 inf103 rfl rfl rfl rfl rfl rfl rfl rfl rfl ?_ ?_ (fun A5 c6 L2 whs3 hs3 ho4 => ?_))))
 · have e_ : Tryz.t103.bytes = 24 := rfl
   rw [e_]; omega
 · omega
 refine WL.r 1 hs3 [] rfl (WL.nil (WC.seq (fun K7 hK7 => WC.r1 hs3 [] rfl (WC.block ?_))))
 refine WC.lO [0, 2] rfl hs3 (fun k_ f L_ => ∃ (i : Nat) (A8 : Option Addr) (c9 : Nat), k_ = n_a - i ∧ (i ≤ n_a) ∧ OwnF encNode 103 (.slice A8 (n_a) c9) (fillG encNode a i) L_ ∧ Sub [(3, .slice A8 (n_a) c9), (4, .int .i64 i)] f) (((fun (i : Nat) => n_a - i) (0))) ?_ ?_
 ·refine ⟨0, _, _, rfl, ?_, (fillG_zero f_a.len ▸ ho4), ⟨rfl, rfl, trivial⟩⟩
  · exact Nat.zero_le _
 clear hs3
 rintro _ f w L10 ⟨i, A8, c9, rfl, p0, ho11, hG⟩ hF hs12
 refine WC.sub _ (hG.app hF) ?_
 clear hG hF
 refine WC.seq (fun K13 hK13 => WC.r1 hs12 [] rfl ?_)
 refine WC.cq rfl (fun h14 qh14 => ?_) (fun h14 qh14 => ?_)
 ·refine WC.skip (hK13 _ _ (WC.seq (fun K15 hK15 => WC.block (WC.region (WL.r 4 hs12 [] rfl ?_)))))
  refine WL.val rfl rfl rfl (Run.idxN Tryz.runUnderlying145 Tryz.sizeOf230 rfl rfl rfl ?_ ?_ ?_) ?_
  · exact SlF.some_ (SlF.st0 f_a hs12)
  · omega
  · omega
  refine WL.val rfl rfl rfl (Run.loadA Tryz.isAgg230 Tryz.sizeOf230 rfl rfl (SlF.whole (SlF.st0 f_a hs12) ?_)) ?_
  · omega
  refine WL.cl Tryz.call208 rfl (k17_ _ _ _ _) ?_
  rintro _ whs16 ⟨rfl, hs16⟩
  replace hs16 := hs12.call0 hs16
  refine ⟨_, rfl, WL.val rfl rfl rfl (Run.idxN Tryz.runUnderlying56 Tryz.sizeOf103 rfl rfl rfl ?_ ?_ ?_) ?_⟩
  · exact SlF.some_ (SlF.ofOwn ho11 (hs16.ow L10))
  · omega
  · omega
  refine WL.storeF1 (x' := _) hs16 ho11 Tryz.sizeOf103 rfl rfl rfl rfl rfl rfl rfl rfl rfl ?_ rfl (fun L17 whs18 hs18 ho19 _ => ?_)
  · omega
  refine WL.nil (hK15 _ _ (WC.region (WL.r 3 hs18 [] rfl (WL.nil (tkN ?_)))))
  rw [fillG_set (i := i) (by rw [f_a.len]; omega) (by simp) (by simp)] at ho19
  refine ⟨sbF rfl, _, hs18, _, ?_, i + 1, _, _, rfl, ?_, ho19, ⟨rfl, rfl, trivial⟩⟩
  · omega
  · omega
 refine WC.exit (hK7 _ _ (WC.r1 hs12 [] rfl (WC.ret (retV1 rfl (resV.tmp rfl) ?_))))
 have hx_ := OwnF.eqOf (xs := a) ho11 (fillG_full (by rw [f_a.len]; omega))
 have hy_ := ho11
 rw [hx_] at hy_
 obtain ⟨A_, c_, hz_⟩ := hy_.shape
 exact ⟨A_, c_, _, congrArg Ending.returned hz_, (St.keep1 hs12), hz_ ▸ hy_⟩
theorem k20_ (A_a : Option Addr) (n_a c_a : Nat) (a : List NodeD) (A_b : Option Addr) (n_b c_b : Nat) (b : List NodeD) (w : World) (f_a : SlF encNode w A_a n_a a) (f_b : SlF encNode w A_b n_b b) (hn : n_a ≤ 1099511627776) (hab : a = b) :
    Calls Tryz.prog 170 #[.slice A_a n_a c_a, .slice A_b n_b c_b] w fun e w' => e = .returned (.bool true) ∧ St w [] [] w' := by
 subst hab
 obtain rfl : n_a = n_b := f_a.len.symm.trans f_b.len
 refine enter 27 Tryz.func170 rfl Tryz.ntmps170 rfl rfl ?_
 have hs1 := St.init w
 refine WC.r1 hs1 [] rfl (WC.seq (fun K2 hK2 => WC.r1 hs1 [] rfl (WC.condF rfl (by simp) (WC.skip (hK2 _ _ (WC.seq (fun K4 hK4 => WC.r1 hs1 [] rfl ?_)))))))
 refine WC.block (WC.lS [0, 1, 10] rfl hs1 (fun k_ f w' => ∃ (i : Nat), k_ = n_a - i ∧ (i ≤ n_a) ∧ Sub [(5, .int .i64 i)] f) ((fun (i : Nat) => n_a - i) (0)) ?_ ?_)
 ·refine ⟨0, rfl, ?_, ⟨rfl, trivial⟩⟩
  · exact Nat.zero_le _
 clear hs1
 rintro _ f w ⟨i, rfl, p0, hG⟩ hF hs5
 refine WC.sub _ (hG.app hF) ?_
 clear hG hF
 refine WC.seq (fun K6 hK6 => WC.r1 hs5 [] rfl ?_)
 refine WC.cD rfl (fun qh7 => ?_) (fun qh7 => ?_)
 ·refine WC.skip (hK6 _ _ (WC.seq (fun K8 hK8 => WC.block (WC.sq1 hs5 (WQ.r 2 [] rfl ?_)))))
  refine WQ.val rfl rfl rfl (fun w_ hs_ => (Run.idxN Tryz.runUnderlying56 Tryz.sizeOf103 rfl rfl rfl ?_ ?_ ?_)) ?_
  · exact SlF.some_ (SlF.st0 f_a (hs_ : St _ _ _ _))
  · omega
  · omega
  refine WQ.val rfl rfl rfl (fun w_ hs_ => (Run.loadA Tryz.isAgg103 Tryz.sizeOf103 rfl rfl (SlF.whole (SlF.st0 f_a (hs_ : St _ _ _ _)) ?_))) ?_
  · omega
  refine WQ.r 2 [] rfl ?_
  refine WQ.val rfl rfl rfl (fun w_ hs_ => (Run.idxN Tryz.runUnderlying56 Tryz.sizeOf103 rfl rfl rfl ?_ ?_ ?_)) ?_
  · exact SlF.some_ (SlF.st0 f_b (hs_ : St _ _ _ _))
  · omega
  · omega
  refine WQ.val rfl rfl rfl (fun w_ hs_ => (Run.loadA Tryz.isAgg103 Tryz.sizeOf103 rfl rfl (SlF.whole (SlF.st0 f_b (hs_ : St _ _ _ _)) ?_))) ?_
  · omega
  refine WQ.call rfl rfl rfl (fun w_ hs_ => (Run.call Tryz.call213 rfl rfl rfl)) (fun w_ hs_ => (k18_ _ _ _ _ _ _ _ ?_).mono fun e_ w_ h_ => ⟨h_.1, (hs_ : St _ _ _ _).call0 h_.2⟩) ?_
  · first | assumption | rfl | omega
  refine WQ.r 1 [] rfl (WQ.nil (fun _ (hs9 : St _ _ _ _) => WC.condF rfl (by simp) (WC.skip (hK8 _ _ (WC.region (WL.r 3 hs9 [] rfl (WL.nil ?_)))))))
  refine tkN (⟨sbF rfl, hs9, _, ?_, i + 1, rfl, ?_, ⟨rfl, trivial⟩⟩)
  · omega
  · omega
 refine WC.exit (hK4 _ _ (WC.r1 hs5 [] rfl (WC.ret (rtv rfl rfl hs5 ?_))))
 rfl
theorem inf181 : Tryz.prog.info? 181 = some Tryz.t181 := by kernel_rfl
set_option maxHeartbeats 4000000 in
theorem k21_ (a : GridR) (w : World) (f_a : okGridR 549755813888 w a) :
    Calls Tryz.prog 246 #[.agg #[i64 a.W, i64 a.H, .slice a.Cells.A a.Cells.n a.Cells.c]] w fun e w' => ∃ r L1, e = .returned (.agg #[i64 r.W, i64 r.H, .slice r.Cells.A r.Cells.n r.Cells.c]) ∧ St w [] L1 w' ∧ ownGridR r L1 ∧ r.dat = a.dat := by
 have nb_a_Cells := f_a.Cells_n
 have nl_a_Cells := f_a.Cells.len
 refine enter 15 Tryz.func246 rfl Tryz.ntmps246 rfl rfl ?_
 have hs1 := St.init w
 refine WC.sr (WL.bx hs1 rfl (fun b2 _ hs3 => WL.al hs3 Tryz.zeroValue76 rfl rfl (fun b4 _ hs5 => WL.nil (WC.sr (WL.al hs5 Tryz.zeroValue76 rfl rfl (fun b6 _ hs7 => WL.nil (WC.sr ?_)))))))
 refine WL.r 3 hs7 [2] rfl (WL.st tbk hs7 0 rfl rfl (fun _ hs8 => WL.nil (WC.sr (WL.r 3 hs8 [2] rfl (WL.st tbk hs8 0 rfl rfl (fun _ hs9 => WL.nil (WC.sr ?_)))))))
 refine WL.r 2 hs9 [2] rfl (WL.cl Tryz.call279 rfl (k10_ _ _ _ _ _ (SlF.st0 f_a.Cells hs9) ?_) ?_)
 · first | assumption | rfl | omega
 rintro _ whs10 ⟨A11, c12, L1_13, rfl, hs10, ho14⟩
 replace hs10 := hs9.callF hs10
 refine ⟨_, rfl, ?_⟩
 replace hs10 := St.back [_, _, _] hs10
 refine WL.r 1 hs10 [] rfl (WL.st tbk hs10 0 rfl rfl (fun _ hs15 => WL.nil (WC.sr (WL.r 1 hs15 [0] rfl (WL.st tbk hs15 1 rfl rfl (fun _ hs16 => WL.nil (WC.ret ?_)))))))
 refine retV1 rfl (resV.cellA tbk hs16 1 rfl rfl rfl rfl) (⟨⟨a.W, a.H, SlD.of ho14⟩, _, rfl, (St.keep1 (hs16.fr L1_13)), ?_, ?_⟩)
 · exact ho14
 · exact GridD.ext' rfl rfl rfl
set_option maxHeartbeats 4000000 in
theorem k22_ (a : GridR) (left : Int) (w : World) (f_a : okGridR 9223372036854775807 w a) (h1 : 0 ≤ left) (h2 : left ≤ 1048576) :
    Calls Tryz.prog 244 #[.agg #[i64 a.W, i64 a.H, .slice a.Cells.A a.Cells.n a.Cells.c], i64 left] w fun e w' => e = .returned (.int .i64 (szR left (totGrid a.dat))) ∧ St w [] [] w' := by
 have nb_a_Cells := f_a.Cells_n
 have nl_a_Cells := f_a.Cells.len
 refine enter 12 Tryz.func244 rfl Tryz.ntmps244 rfl rfl ?_
 have hs1 := St.init w
 refine WC.sr (WL.bx hs1 rfl (fun b2 _ hs3 => WL.r 1 hs3 [] rfl (WL.nil (WC.sr (WL.r 3 hs3 [0] rfl ?_)))))
 refine WL.cl Tryz.call277 rfl (k12_ _ _ _ _ _ _ (SlF.st0 f_a.Cells hs3) ?_ ?_ ?_) ?_
 · first | assumption | omega
 · first | assumption | omega | exact szR_b (by assumption) (by omega) (by first | assumption | omega)
 · first | assumption | omega
 rintro _ whs4 ⟨rfl, hs4⟩
 replace hs4 := hs3.call0 hs4
 refine ⟨_, rfl, WL.r 1 hs4 [] rfl (WL.nil (WC.seq (fun K5 hK5 => WC.r1 hs4 [] rfl ?_)))⟩
 refine WC.cD rfl (fun qh6 => ?_) (fun qh6 => ?_)
 ·try have soh6 := szR_ok qh6 (by omega)
  try have sbh6 := szR_b qh6 (by omega) (by first | assumption | omega)
  try have snh6 := szR_no qh6
  refine WC.r1 hs4 [] rfl (WC.ret (tkR ?_))
  clear hK5
  refine rtv rfl rfl hs4 ?_
  simp only [totGrid, GridR.dat] at *; first | (rw [szR_lt (by omega)]; done) | (refine congrArg (Value.int _) ?_; symm; refine (szR_le ?_).trans ?_ <;> omega) | rfl
 try have soh6 := szR_ok qh6 (by omega)
 try have sbh6 := szR_b qh6 (by omega) (by first | assumption | omega)
 try have snh6 := szR_no qh6
 refine WC.skip (hK5 _ _ (WC.r1 hs4 [] rfl (WC.ret (rtv rfl rfl hs4 ?_))))
 simp only [totGrid, GridR.dat] at *; first | (rw [szR_lt (by omega)]; done) | (refine congrArg (Value.int _) ?_; symm; refine (szR_le ?_).trans ?_ <;> omega) | rfl
set_option maxHeartbeats 4000000 in
theorem k23_ (a : VpR) (w : World) (f_a : okVpR 549755813888 w a) :
    Calls Tryz.prog 206 #[.agg #[i64 a.State, .bool a.Mark, .slice a.Args.A a.Args.n a.Args.c, .slice a.Part.A a.Part.n a.Part.c]] w fun e w' => ∃ r L1, e = .returned (.agg #[i64 r.State, .bool r.Mark, .slice r.Args.A r.Args.n r.Args.c, .slice r.Part.A r.Part.n r.Part.c]) ∧ St w [] L1 w' ∧ ownVpR r L1 ∧ r.dat = a.dat := by
 have nb_a_Args := f_a.Args_n
 have nl_a_Args := f_a.Args.len
 have nb_a_Part := f_a.Part_n
 have nl_a_Part := f_a.Part.len
 refine enter 19 Tryz.func206 rfl Tryz.ntmps206 rfl rfl ?_
 have hs1 := St.init w
 refine WC.sr (WL.bx hs1 rfl (fun b2 _ hs3 => WL.al hs3 Tryz.zeroValue84 rfl rfl (fun b4 _ hs5 => WL.nil (WC.sr (WL.al hs5 Tryz.zeroValue84 rfl rfl (fun b6 _ hs7 => WL.nil (WC.sr ?_)))))))
 refine WL.r 3 hs7 [2] rfl (WL.st tbk hs7 0 rfl rfl (fun _ hs8 => WL.nil (WC.sr (WL.r 3 hs8 [2] rfl (WL.st tbk hs8 0 rfl rfl (fun _ hs9 => WL.nil (WC.sr ?_)))))))
 refine WL.r 2 hs9 [2] rfl (WL.cl Tryz.call164 rfl (k15_ _ _ _ _ _ (SlF.st0 f_a.Args hs9) ?_) ?_)
 · first | assumption | rfl | omega
 rintro _ whs10 ⟨A11, c12, L1_13, rfl, hs10, ho14⟩
 replace hs10 := hs9.callF hs10
 refine ⟨_, rfl, ?_⟩
 replace hs10 := St.back [_, _, _] hs10
 refine WL.r 1 hs10 [] rfl (WL.st tbk hs10 0 rfl rfl (fun _ hs15 => WL.nil (WC.sr (WL.r 2 hs15 [2] rfl ?_))))
 refine WL.cl Tryz.call34 rfl (k4_ _ _ _ _ _ (SlF.st0 f_a.Part hs15) ?_) ?_
 · first | assumption | rfl | omega
 rintro _ whs16 ⟨A17, c18, L1_19, rfl, hs16, ho20⟩
 replace hs16 := hs15.callF hs16
 refine ⟨_, rfl, ?_⟩
 replace hs16 := St.back [_, _, _] hs16
 refine WL.r 1 hs16 [] rfl (WL.st tbk hs16 0 rfl rfl (fun _ hs21 => WL.nil (WC.sr (WL.r 1 hs21 [0] rfl (WL.st tbk hs21 1 rfl rfl (fun _ hs22 => WL.nil (WC.ret ?_)))))))
 refine retV1 rfl (resV.cellA tbk hs22 1 rfl rfl rfl rfl) ?_
 obtain ⟨L24, hs23, ho25⟩ := ownVpR.fl hs22 ho14 ho20
 have hs26 := (((hs23.fb b2).fb b4).fb b6)
 refine ⟨⟨a.State, a.Mark, SlD.of ho14, SlD.of ho20⟩, _, rfl, (St.keep1 (hs26.fr L24)), ?_, ?_⟩
 · exact (by exact ho25)
 · exact VpD.ext' rfl rfl rfl rfl
set_option maxHeartbeats 4000000 in
theorem k24_ (a : VpR) (left : Int) (w : World) (f_a : okVpR 9223372036854775807 w a) (h1 : 0 ≤ left) (h2 : left ≤ 1048576) :
    Calls Tryz.prog 204 #[.agg #[i64 a.State, .bool a.Mark, .slice a.Args.A a.Args.n a.Args.c, .slice a.Part.A a.Part.n a.Part.c], i64 left] w fun e w' => e = .returned (.int .i64 (szR left (totVp a.dat))) ∧ St w [] [] w' := by
 have nb_a_Args := f_a.Args_n
 have nl_a_Args := f_a.Args.len
 have nb_a_Part := f_a.Part_n
 have nl_a_Part := f_a.Part.len
 refine enter 18 Tryz.func204 rfl Tryz.ntmps204 rfl rfl ?_
 have hs1 := St.init w
 refine WC.sr (WL.bx hs1 rfl (fun b2 _ hs3 => WL.r 1 hs3 [] rfl (WL.nil (WC.sr (WL.r 3 hs3 [0] rfl ?_)))))
 refine WL.cl Tryz.call160 rfl (k14_ _ _ _ _ _ _ (SlF.st0 f_a.Args hs3) ?_ ?_ ?_) ?_
 · first | assumption | omega
 · first | assumption | omega | exact szR_b (by assumption) (by omega) (by first | assumption | omega)
 · first | assumption | omega
 rintro _ whs4 ⟨rfl, hs4⟩
 replace hs4 := hs3.call0 hs4
 refine ⟨_, rfl, WL.r 1 hs4 [] rfl (WL.nil (WC.seq (fun K5 hK5 => WC.r1 hs4 [] rfl ?_)))⟩
 refine WC.cD rfl (fun qh6 => ?_) (fun qh6 => ?_)
 ·try have soh6 := szR_ok qh6 (by omega)
  try have sbh6 := szR_b qh6 (by omega) (by first | assumption | omega)
  try have snh6 := szR_no qh6
  refine WC.r1 hs4 [] rfl (WC.ret (tkR ?_))
  clear hK5
  refine rtv rfl rfl hs4 ?_
  simp only [totVp, VpR.dat] at *; first | (rw [szR_lt (by omega)]; done) | (refine congrArg (Value.int _) ?_; symm; refine (szR_le ?_).trans ?_ <;> omega) | rfl
 try have soh6 := szR_ok qh6 (by omega)
 try have sbh6 := szR_b qh6 (by omega) (by first | assumption | omega)
 try have snh6 := szR_no qh6
 refine WC.skip (hK5 _ _ (WC.sr (WL.r 3 hs4 [0] rfl ?_)))
 refine WL.cl Tryz.call243 rfl (k3_ _ _ _ _ _ _ (SlF.st0 f_a.Part hs4) ?_ ?_ ?_) ?_
 · first | assumption | omega
 · first | assumption | omega | exact szR_b (by assumption) (by omega) (by first | assumption | omega)
 · first | assumption | omega
 rintro _ whs7 ⟨rfl, hs7⟩
 replace hs7 := hs4.call0 hs7
 refine ⟨_, rfl, WL.r 1 hs7 [] rfl (WL.nil (WC.seq (fun K8 hK8 => WC.r1 hs7 [] rfl ?_)))⟩
 refine WC.cD rfl (fun qh9 => ?_) (fun qh9 => ?_)
 ·try have soh9 := szR_ok qh9 (by omega)
  try have sbh9 := szR_b qh9 (by omega) (by first | assumption | omega)
  try have snh9 := szR_no qh9
  refine WC.r1 hs7 [] rfl (WC.ret (tkR ?_))
  clear hK8
  refine rtv rfl rfl hs7 ?_
  simp only [totVp, VpR.dat] at *; first | (rw [szR_lt (by omega)]; done) | (refine congrArg (Value.int _) ?_; symm; refine (szR_le ?_).trans ?_ <;> omega) | rfl
 try have soh9 := szR_ok qh9 (by omega)
 try have sbh9 := szR_b qh9 (by omega) (by first | assumption | omega)
 try have snh9 := szR_no qh9
 refine WC.skip (hK8 _ _ (WC.r1 hs7 [] rfl (WC.ret (rtv rfl rfl hs7 ?_))))
 simp only [totVp, VpR.dat] at *; first | (rw [szR_lt (by omega)]; done) | (refine congrArg (Value.int _) ?_; symm; refine (szR_le ?_).trans ?_ <;> omega) | rfl
set_option maxHeartbeats 4000000 in
theorem k25_ (a : RowR) (w : World) (f_a : okRowR 549755813888 w a) :
    Calls Tryz.prog 280 #[.agg #[.slice a.Cells.A a.Cells.n a.Cells.c]] w fun e w' => ∃ r L1, e = .returned (.agg #[.slice r.Cells.A r.Cells.n r.Cells.c]) ∧ St w [] L1 w' ∧ ownRowR r L1 ∧ r.dat = a.dat := by
 have nb_a_Cells := f_a.Cells_n
 have nl_a_Cells := f_a.Cells.len
 refine enter 9 Tryz.func280 rfl Tryz.ntmps280 rfl rfl ?_
 have hs1 := St.init w
 refine WC.sr (WL.bx hs1 rfl (fun b2 _ hs3 => WL.al hs3 Tryz.zeroValue181 rfl rfl (fun b4 _ hs5 => WL.nil (WC.sr (WL.al hs5 Tryz.zeroValue181 rfl rfl (fun b6 _ hs7 => WL.nil (WC.sr ?_)))))))
 refine WL.r 2 hs7 [2] rfl (WL.cl Tryz.call279 rfl (k10_ _ _ _ _ _ (SlF.st0 f_a.Cells hs7) ?_) ?_)
 · first | assumption | rfl | omega
 rintro _ whs8 ⟨A9, c10, L1_11, rfl, hs8, ho12⟩
 replace hs8 := hs7.callF hs8
 refine ⟨_, rfl, ?_⟩
 replace hs8 := St.back [_, _, _] hs8
 refine WL.r 1 hs8 [] rfl (WL.st tbk hs8 0 rfl rfl (fun _ hs13 => WL.nil (WC.sr (WL.r 1 hs13 [0] rfl (WL.st tbk hs13 1 rfl rfl (fun _ hs14 => WL.nil (WC.ret ?_)))))))
 refine retV1 rfl (resV.cellA tbk hs14 1 rfl rfl rfl rfl) (⟨⟨SlD.of ho12⟩, _, rfl, (St.keep1 (hs14.fr L1_11)), ?_, ?_⟩)
 · exact ho12
 · exact RowD.ext' rfl
set_option maxHeartbeats 4000000 in
theorem k26_ (a : RowR) (left : Int) (w : World) (f_a : okRowR 9223372036854775807 w a) (h1 : 0 ≤ left) (h2 : left ≤ 1048576) :
    Calls Tryz.prog 278 #[.agg #[.slice a.Cells.A a.Cells.n a.Cells.c], i64 left] w fun e w' => e = .returned (.int .i64 (szR left (totRow a.dat))) ∧ St w [] [] w' := by
 have nb_a_Cells := f_a.Cells_n
 have nl_a_Cells := f_a.Cells.len
 refine enter 12 Tryz.func278 rfl Tryz.ntmps278 rfl rfl ?_
 have hs1 := St.init w
 refine WC.sr (WL.bx hs1 rfl (fun b2 _ hs3 => WL.r 1 hs3 [] rfl (WL.nil (WC.sr (WL.r 3 hs3 [0] rfl ?_)))))
 refine WL.cl Tryz.call277 rfl (k12_ _ _ _ _ _ _ (SlF.st0 f_a.Cells hs3) ?_ ?_ ?_) ?_
 · first | assumption | omega
 · first | assumption | omega | exact szR_b (by assumption) (by omega) (by first | assumption | omega)
 · first | assumption | omega
 rintro _ whs4 ⟨rfl, hs4⟩
 replace hs4 := hs3.call0 hs4
 refine ⟨_, rfl, WL.r 1 hs4 [] rfl (WL.nil (WC.seq (fun K5 hK5 => WC.r1 hs4 [] rfl ?_)))⟩
 refine WC.cD rfl (fun qh6 => ?_) (fun qh6 => ?_)
 ·try have soh6 := szR_ok qh6 (by omega)
  try have sbh6 := szR_b qh6 (by omega) (by first | assumption | omega)
  try have snh6 := szR_no qh6
  refine WC.r1 hs4 [] rfl (WC.ret (tkR ?_))
  clear hK5
  refine rtv rfl rfl hs4 ?_
  simp only [totRow, RowR.dat] at *; first | (rw [szR_lt (by omega)]; done) | (refine congrArg (Value.int _) ?_; symm; refine (szR_le ?_).trans ?_ <;> omega) | rfl
 try have soh6 := szR_ok qh6 (by omega)
 try have sbh6 := szR_b qh6 (by omega) (by first | assumption | omega)
 try have snh6 := szR_no qh6
 refine WC.skip (hK5 _ _ (WC.r1 hs4 [] rfl (WC.ret (rtv rfl rfl hs4 ?_))))
 simp only [totRow, RowR.dat] at *; first | (rw [szR_lt (by omega)]; done) | (refine congrArg (Value.int _) ?_; symm; refine (szR_le ?_).trans ?_ <;> omega) | rfl
theorem k27_ (A_a : Option Addr) (n_a c_a : Nat) (a : List RowR) (left : Int) (w : World) (f_a : SlN encRowR (okRowR 9223372036854775807) w A_a n_a a) (h1 : 0 ≤ left) (h2 : left ≤ 1048576) (h3 : n_a ≤ 9223372036854775807) :
    Calls Tryz.prog 245 #[.slice A_a n_a c_a, i64 left] w fun e w' => e = .returned (.int .i64 (szR left (tots totRow (a.map RowR.dat)))) ∧ St w [] [] w' := by
 have hl := f_a.sl.len
 have hT : (tots totRow (a.map RowR.dat) : Int) = n_a + (a.map (fun x => totRow (RowR.dat x))).sum := by rw [tots_map, hl]; omega
 refine enter 27 Tryz.func245 rfl Tryz.ntmps245 rfl rfl ?_
 have hs1 := St.init w
 refine WC.r1 hs1 [] rfl (WC.r1 hs1 [] rfl (WC.seq (fun K2 hK2 => WC.r1 hs1 [] rfl ?_)))
 refine WC.cD rfl (fun qh3 => ?_) (fun qh3 => ?_)
 ·refine WC.r1 hs1 [] rfl (WC.ret (tkR ?_))
  clear hK2
  refine rtv rfl rfl hs1 ?_
  rw [szR_lt (by omega)]
 refine WC.skip (hK2 _ _ (WC.seq (fun K4 hK4 => WC.r1 hs1 [] rfl (WC.block ?_))))
 refine WC.lS [0, 11] rfl hs1 (fun k_ f w' => ∃ (i : Nat) (q : Int), k_ = n_a - i ∧ (i ≤ n_a) ∧ (0 ≤ q) ∧ (q + n_a + ((a.take i).map (fun x => totRow (RowR.dat x))).sum = left) ∧ Sub [(5, .int .i64 i), (1, .int .i64 q)] f) ((fun (i : Nat) (q : Int) => n_a - i) (0) ((left - n_a))) ?_ ?_
 ·refine ⟨0, (left - n_a), rfl, ?_, ?_, ?_, ⟨rfl, rfl, trivial⟩⟩
  · exact Nat.zero_le _
  · omega
  · simp
 clear hs1
 rintro _ f w ⟨i, q, rfl, p0, p1, p2, hG⟩ hF hs5
 refine WC.sub _ (hG.app hF) ?_
 clear hG hF
 refine WC.seq (fun K6 hK6 => WC.r1 hs5 [] rfl ?_)
 refine WC.cD rfl (fun qh7 => ?_) (fun qh7 => ?_)
 ·have hs1 := sum_take (F := encRowR) (f := (fun x => totRow (RowR.dat x))) (l := a) (i := i) (by omega)
  have hs2 := sum_take_le (f := (fun x => totRow (RowR.dat x))) a (i + 1)
  refine WC.skip (hK6 _ _ (WC.seq (fun K8 hK8 => WC.block (WC.sr (WL.r 2 hs5 [] rfl ?_)))))
  refine WL.val rfl rfl rfl (Run.idxN Tryz.runUnderlying137 Tryz.sizeOf285 rfl rfl rfl ?_ ?_ ?_) ?_
  · exact SlF.some_ (SlF.st0 f_a.sl hs5)
  · omega
  · omega
  refine WL.val rfl rfl rfl (Run.loadA Tryz.isAgg285 Tryz.sizeOf285 rfl rfl (SlF.whole (SlF.st0 f_a.sl hs5) ?_)) ?_
  · omega
  refine WL.r 1 hs5 [] rfl (WL.cl Tryz.call278 rfl (k26_ (gat encRowR a i) _ _ (okRowR.st0 (SlN.nth f_a (by omega)) hs5) ?_ ?_) ?_)
  · first | assumption | omega
  · first | assumption | omega | exact szR_b (by assumption) (by omega) (by first | assumption | omega)
  rintro _ whs9 ⟨rfl, hs9⟩
  replace hs9 := hs5.call0 hs9
  refine ⟨_, rfl, WL.r 1 hs9 [] rfl (WL.nil (WC.r1 hs9 [] rfl (WC.cD rfl (fun qh10 => ?_) (fun qh10 => ?_))))⟩
  ·refine WC.r1 hs9 [] rfl (WC.ret (ibR (tkR (tkR (ibR (tkR ?_))))))
   clear hK8 hK4
   refine rtv rfl rfl hs9 ?_
   have h9 := szR_no qh10
   rw [szR_lt (by omega)]
  refine WC.skip (hK8 _ _ (WC.region (WL.r 3 hs9 [] rfl (WL.nil (tkN ?_)))))
  refine ⟨sbF rfl, hs9, _, ?_, i + 1, _, rfl, ?_, ?_, ?_, ⟨rfl, rfl, trivial⟩⟩
  · omega
  · omega
  · omega
  · have h9 := szR_ok qh10 (Int.natCast_nonneg _); omega
 refine WC.exit (hK4 _ _ (WC.r1 hs5 [] rfl (WC.ret (rtv rfl rfl hs5 ?_))))
 have h9 : a.take i = a := List.take_of_length_le (by omega)
 rw [h9] at p2
 rw [szR_le (by omega)]
 congr 1; omega
theorem k28_ (A_a : Option Addr) (n_a c_a : Nat) (a : List RowR) (w : World) (f_a : SlN encRowR (okRowR 549755813888) w A_a n_a a) (hn : n_a ≤ 549755813888) :
    Calls Tryz.prog 248 #[.slice A_a n_a c_a] w fun e w' => ∃ A c xs L1, e = .returned (.slice A n_a c) ∧ St w [] L1 w' ∧ OwnN encRowR ownRowR 181 (.slice A n_a c) xs L1 ∧ xs.map RowR.dat = a.map RowR.dat := by
 have hl := f_a.sl.len
 refine enter 23 Tryz.func248 rfl Tryz.ntmps248 rfl rfl ?_
 have hs1 := St.init w
 refine WC.r1 hs1 [] rfl (WC.sr (WL.r 2 hs1 [] rfl (WL.makeF (F := encRowR) hs1 Tryz.underlying87 inf181 rfl rfl rfl rfl rfl rfl rfl rfl rfl ?_ ?_ (fun A5 c6 L2 whs3 hs3 ho4 => ?_))))
 · have e_ : Tryz.t181.bytes = 24 := rfl
   rw [e_]; omega
 · omega
 obtain ⟨L7, hs8, ho9⟩ := OwnN.new (own := ownRowR) hs3 ho4 (OwnF.nil _ _)
 refine WL.r 1 hs8 [] rfl (WL.nil (WC.seq (fun K10 hK10 => WC.r1 hs8 [] rfl (WC.block ?_))))
 refine WC.lO [0, 2] rfl hs8 (fun k_ f L_ => ∃ (i : Nat) (ys : List RowR) (A11 : Option Addr) (c12 : Nat), k_ = n_a - i ∧ (i ≤ n_a) ∧ (ys.length = i) ∧ (ys.map RowR.dat = (a.take i).map RowR.dat) ∧ OwnN encRowR ownRowR 181 (.slice A11 (n_a) c12) (ys ++ List.replicate (n_a - i) encRowR.dflt) L_ ∧ Sub [(3, .slice A11 (n_a) c12), (4, .int .i64 i)] f) (((fun (i : Nat) (ys : List RowR) => n_a - i) (0) ([]))) ?_ ?_
 ·refine ⟨0, [], _, _, rfl, ?_, ?_, ?_, (by simpa using ho9), ⟨rfl, rfl, trivial⟩⟩
  · exact Nat.zero_le _
  · rfl
  · rfl
 clear hs8
 rintro _ f w L13 ⟨i, ys, A11, c12, rfl, p0, p1, p2, ho14, hG⟩ hF hs15
 refine WC.sub _ (hG.app hF) ?_
 clear hG hF
 have hlen : (ys ++ List.replicate (n_a - i) encRowR.dflt).length = n_a := by simp; omega
 refine WC.seq (fun K16 hK16 => WC.r1 hs15 [] rfl ?_)
 refine WC.cq rfl (fun h17 qh17 => ?_) (fun h17 qh17 => ?_)
 ·refine WC.skip (hK16 _ _ (WC.seq (fun K18 hK18 => WC.block (WC.region (WL.r 4 hs15 [] rfl ?_)))))
  refine WL.val rfl rfl rfl (Run.idxN Tryz.runUnderlying137 Tryz.sizeOf285 rfl rfl rfl ?_ ?_ ?_) ?_
  · exact SlF.some_ (SlF.st0 f_a.sl hs15)
  · omega
  · omega
  refine WL.val rfl rfl rfl (Run.loadA Tryz.isAgg285 Tryz.sizeOf285 rfl rfl (SlF.whole (SlF.st0 f_a.sl hs15) ?_)) ?_
  · omega
  refine WL.cl Tryz.call280 rfl (k25_ (gat encRowR a i) _ (okRowR.st0 (SlN.nth f_a (by omega)) hs15)) ?_
  rintro _ whs19 ⟨r20, L1_21, rfl, hs19, ho22, hd23⟩
  replace hs19 := hs15.callF hs19
  refine ⟨_, rfl, WL.val rfl rfl rfl (Run.idxN Tryz.runUnderlying87 Tryz.sizeOf181 rfl rfl rfl ?_ ?_ ?_) ?_⟩
  · exact SlF.some_ (OwnN.sl ho14 (hs19.ow L13))
  · omega
  · omega
  obtain ⟨L24, L25, hs28, ho26, ho27⟩ := OwnN.open_ (hs19.fr L13) ho14
  refine WL.storeF1 (x' := r20) hs28 ho26 Tryz.sizeOf181 rfl rfl rfl rfl rfl rfl rfl rfl rfl ?_ rfl (fun L29 whs30 hs30 ho31 _ => ?_)
  · omega
  obtain ⟨L32, hs34, hb33⟩ := Bag.replace (r := r20) (i := i) ((hs30.fr L1_21).fr L25) ho27 (by omega) ho22
  refine WL.nil (hK18 _ _ (WC.region (WL.r 3 hs34 [] rfl (WL.nil (tkN ?_)))))
  obtain ⟨L36, hs35, ho37⟩ := OwnN.fold (hs34.fr L29) ho31 hb33
  rw [set_at p1 (by omega)] at ho37
  refine ⟨sbF rfl, _, hs35, _, ?_, i + 1, (ys ++ [r20]), _, _, rfl, ?_, ?_, ?_, ho37, ⟨rfl, rfl, trivial⟩⟩
  · omega
  · omega
  · simp; omega
  · rw [List.map_append, p2, map_take_succ (F := encRowR) (by omega)]; congr 1 <;> simp only [List.map_cons, List.map_nil] <;> congr 1 <;> assumption
 refine WC.exit (hK10 _ _ (WC.r1 hs15 [] rfl (WC.ret (retV1 rfl (resV.tmp rfl) ?_))))
 have hi_ : i = n_a := by omega
 subst hi_
 have hx_ := ho14
 simp only [Nat.sub_self, List.replicate_zero, List.append_nil] at hx_
 exact ⟨_, _, ys, _, rfl, (St.keep1 hs15), hx_, by rw [p2, List.take_of_length_le (by omega)]⟩
set_option maxHeartbeats 4000000 in
theorem k29_ (a : ScrR) (w : World) (f_a : okScrR 549755813888 w a) :
    Calls Tryz.prog 207 #[.agg (cScr a).toArray] w fun e w' => ∃ r L1, e = .returned (.agg (cScr r).toArray) ∧ St w [] L1 w' ∧ ownScrR r L1 ∧ r.dat = a.dat := by
 have nb_a_Main_Cells := f_a.Main.Cells_n
 have nl_a_Main_Cells := f_a.Main.Cells.len
 have nb_a_Alt_Cells := f_a.Alt.Cells_n
 have nl_a_Alt_Cells := f_a.Alt.Cells.len
 have nb_a_Tabs := f_a.Tabs_n
 have nl_a_Tabs := f_a.Tabs.len
 have nb_a_Back := f_a.Back_n
 have nl_a_Back := f_a.Back.sl.len
 refine enter 68 Tryz.func207 rfl Tryz.ntmps207 rfl rfl ?_
 have hs1 := St.init w
 refine WC.sr (WL.bx hs1 rfl (fun b2 _ hs3 => WL.al hs3 Tryz.zeroValue89 rfl rfl (fun b4 _ hs5 => WL.nil (WC.sr (WL.al hs5 Tryz.zeroValue89 rfl rfl (fun b6 _ hs7 => WL.nil (WC.sr ?_)))))))
 refine WL.r 3 hs7 [2] rfl (WL.st tbk hs7 0 rfl rfl (fun _ hs8 => WL.nil (WC.sr (WL.r 3 hs8 [2] rfl (WL.st tbk hs8 0 rfl rfl (fun _ hs9 => WL.nil (WC.sr ?_)))))))
 refine WL.r 2 hs9 [2] rfl (WL.cl Tryz.call246 rfl (k21_ a.Main _ (okGridR.st0 f_a.Main hs9)) ?_)
 rintro _ whs10 ⟨r11, L1_12, rfl, hs10, ho13, hd14⟩
 replace hs10 := hs9.callF hs10
 refine ⟨_, rfl, ?_⟩
 replace hs10 := St.back [_, _, _] hs10
 refine WL.r 1 hs10 [] rfl (WL.st tbk hs10 0 rfl rfl (fun _ hs15 => WL.nil (WC.sr (WL.r 2 hs15 [2] rfl (WL.cl Tryz.call246 rfl (k21_ a.Alt _ (okGridR.st0 f_a.Alt hs15)) ?_)))))
 rintro _ whs16 ⟨r17, L1_18, rfl, hs16, ho19, hd20⟩
 replace hs16 := hs15.callF hs16
 refine ⟨_, rfl, ?_⟩
 replace hs16 := St.back [_, _, _] hs16
 refine WL.r 1 hs16 [] rfl (WL.st tbk hs16 0 rfl rfl (fun _ hs21 => WL.nil (WC.sr (WL.r 3 hs21 [2] rfl (WL.st tbk hs21 0 rfl rfl (fun _ hs22 => WL.nil (WC.sr ?_)))))))
 refine WL.r 3 hs22 [2] rfl (WL.st tbk hs22 0 rfl rfl (fun _ hs23 => WL.nil (WC.sr (WL.r 3 hs23 [2] rfl (WL.st tbk hs23 0 rfl rfl (fun _ hs24 => WL.nil (WC.sr ?_)))))))
 refine WL.r 3 hs24 [2] rfl (WL.st tbk hs24 0 rfl rfl (fun _ hs25 => WL.nil (WC.sr (WL.r 2 hs25 [2] rfl (WL.cl Tryz.call247 rfl (k6_ _ _ _ _ _ _) ?_)))))
 rintro _ whs26 ⟨rfl, hs26⟩
 replace hs26 := hs25.call0 hs26
 refine ⟨_, rfl, WL.r 1 hs26 [] rfl (WL.st tbk hs26 0 rfl rfl (fun _ hs27 => WL.nil (WC.sr (WL.r 3 hs27 [2] rfl (WL.st tbk hs27 0 rfl rfl (fun _ hs28 => WL.nil ?_))))))⟩
 refine WC.sr (WL.r 3 hs28 [2] rfl (WL.st tbk hs28 0 rfl rfl (fun _ hs29 => WL.nil (WC.sr (WL.r 3 hs29 [2] rfl (WL.st tbk hs29 0 rfl rfl (fun _ hs30 => WL.nil ?_)))))))
 refine WC.sr (WL.r 3 hs30 [2] rfl (WL.st tbk hs30 0 rfl rfl (fun _ hs31 => WL.nil (WC.sr (WL.r 3 hs31 [2] rfl (WL.st tbk hs31 0 rfl rfl (fun _ hs32 => WL.nil ?_)))))))
 refine WC.sr (WL.r 3 hs32 [2] rfl (WL.st tbk hs32 0 rfl rfl (fun _ hs33 => WL.nil (WC.sr (WL.r 2 hs33 [2] rfl (WL.cl Tryz.call247 rfl (k6_ _ _ _ _ _ _) ?_))))))
 rintro _ whs34 ⟨rfl, hs34⟩
 replace hs34 := hs33.call0 hs34
 refine ⟨_, rfl, WL.r 1 hs34 [] rfl (WL.st tbk hs34 0 rfl rfl (fun _ hs35 => WL.nil (WC.sr (WL.r 2 hs35 [2] rfl ?_))))⟩
 refine WL.cl Tryz.call164 rfl (k15_ _ _ _ _ _ (SlF.st0 f_a.Tabs hs35) ?_) ?_
 · first | assumption | rfl | omega
 rintro _ whs36 ⟨A37, c38, L1_39, rfl, hs36, ho40⟩
 replace hs36 := hs35.callF hs36
 refine ⟨_, rfl, ?_⟩
 replace hs36 := St.back [_, _, _] hs36
 refine WL.r 1 hs36 [] rfl (WL.st tbk hs36 0 rfl rfl (fun _ hs41 => WL.nil (WC.sr (WL.r 3 hs41 [2] rfl (WL.st tbk hs41 0 rfl rfl (fun _ hs42 => WL.nil (WC.sr ?_)))))))
 refine WL.r 2 hs42 [2] rfl (WL.cl Tryz.call248 rfl (k28_ _ _ _ _ _ (SlN.st0 okRowR.st0 f_a.Back hs42) ?_) ?_)
 · first | assumption | rfl | omega
 rintro _ whs43 ⟨A44, c45, xs46, L1_47, rfl, hs43, ho48, hd49⟩
 replace hs43 := hs42.callF hs43
 refine ⟨_, rfl, ?_⟩
 replace hs43 := St.back [_, _, _] hs43
 refine WL.r 1 hs43 [] rfl (WL.st tbk hs43 0 rfl rfl (fun _ hs50 => WL.nil (WC.sr (WL.r 1 hs50 [0] rfl (WL.st tbk hs50 1 rfl rfl (fun _ hs51 => WL.nil (WC.ret ?_)))))))
 refine retV1 rfl (resV.cellA tbk hs51 1 rfl rfl rfl rfl) ?_
 obtain ⟨L53, hs52, ho54⟩ := ownScrR.fl hs51 ho13 ho19 ho40 ho48
 have hs55 := (((hs52.fb b2).fb b4).fb b6)
 refine ⟨⟨a.W, a.H, ⟨r11.W, r11.H, SlD.of ho13⟩, ⟨r17.W, r17.H, SlD.of ho19⟩, a.OnAlt, a.X, a.Y, a.Wrap, ⟨_, _, _, _, _⟩, a.Top, a.Bot, a.NoWrap, a.Hide, a.SaveX, a.SaveY, ⟨_, _, _, _, _⟩, SlD.of ho40, a.Limit, SlD.ofN ho48⟩, _, rfl, (St.keep1 (hs55.fr L53)), ?_, ?_⟩
 · exact (by exact ho54)
 · exact ScrD.ext' rfl rfl hd14 hd20 rfl rfl rfl rfl rfl rfl rfl rfl rfl rfl rfl rfl rfl rfl hd49
set_option maxHeartbeats 4000000 in
theorem k30_ (a : ScrR) (left : Int) (w : World) (f_a : okScrR 9223372036854775807 w a) (h1 : 0 ≤ left) (h2 : left ≤ 1048576) :
    Calls Tryz.prog 205 #[.agg (cScr a).toArray, i64 left] w fun e w' => e = .returned (.int .i64 (szR left (totScr a.dat))) ∧ St w [] [] w' := by
 have nb_a_Main_Cells := f_a.Main.Cells_n
 have nl_a_Main_Cells := f_a.Main.Cells.len
 have nb_a_Alt_Cells := f_a.Alt.Cells_n
 have nl_a_Alt_Cells := f_a.Alt.Cells.len
 have nb_a_Tabs := f_a.Tabs_n
 have nl_a_Tabs := f_a.Tabs.len
 have nb_a_Back := f_a.Back_n
 have nl_a_Back := f_a.Back.sl.len
 refine enter 30 Tryz.func205 rfl Tryz.ntmps205 rfl rfl ?_
 have hs1 := St.init w
 refine WC.sr (WL.bx hs1 rfl (fun b2 _ hs3 => WL.r 1 hs3 [] rfl (WL.nil (WC.sr (WL.r 3 hs3 [0] rfl ?_)))))
 refine WL.cl Tryz.call244 rfl (k22_ a.Main _ _ (okGridR.st0 f_a.Main hs3) ?_ ?_) ?_
 · first | assumption | omega
 · first | assumption | omega | exact szR_b (by assumption) (by omega) (by first | assumption | omega)
 rintro _ whs4 ⟨rfl, hs4⟩
 replace hs4 := hs3.call0 hs4
 refine ⟨_, rfl, WL.r 1 hs4 [] rfl (WL.nil (WC.seq (fun K5 hK5 => WC.r1 hs4 [] rfl ?_)))⟩
 refine WC.cD rfl (fun qh6 => ?_) (fun qh6 => ?_)
 ·try have soh6 := szR_ok qh6 (by omega)
  try have sbh6 := szR_b qh6 (by omega) (by first | assumption | omega)
  try have snh6 := szR_no qh6
  refine WC.r1 hs4 [] rfl (WC.ret (tkR ?_))
  clear hK5
  refine rtv rfl rfl hs4 ?_
  simp only [totGrid, totScr, GridR.dat, ScrR.dat] at *; first | (rw [szR_lt (by omega)]; done) | (refine congrArg (Value.int _) ?_; symm; refine (szR_le ?_).trans ?_ <;> omega) | rfl
 try have soh6 := szR_ok qh6 (by omega)
 try have sbh6 := szR_b qh6 (by omega) (by first | assumption | omega)
 try have snh6 := szR_no qh6
 refine WC.skip (hK5 _ _ (WC.sr (WL.r 3 hs4 [0] rfl ?_)))
 refine WL.cl Tryz.call244 rfl (k22_ a.Alt _ _ (okGridR.st0 f_a.Alt hs4) ?_ ?_) ?_
 · first | assumption | omega
 · first | assumption | omega | exact szR_b (by assumption) (by omega) (by first | assumption | omega)
 rintro _ whs7 ⟨rfl, hs7⟩
 replace hs7 := hs4.call0 hs7
 refine ⟨_, rfl, WL.r 1 hs7 [] rfl (WL.nil (WC.seq (fun K8 hK8 => WC.r1 hs7 [] rfl ?_)))⟩
 refine WC.cD rfl (fun qh9 => ?_) (fun qh9 => ?_)
 ·try have soh9 := szR_ok qh9 (by omega)
  try have sbh9 := szR_b qh9 (by omega) (by first | assumption | omega)
  try have snh9 := szR_no qh9
  refine WC.r1 hs7 [] rfl (WC.ret (tkR ?_))
  clear hK8
  refine rtv rfl rfl hs7 ?_
  simp only [totGrid, totScr, GridR.dat, ScrR.dat] at *; first | (rw [szR_lt (by omega)]; done) | (refine congrArg (Value.int _) ?_; symm; refine (szR_le ?_).trans ?_ <;> omega) | rfl
 try have soh9 := szR_ok qh9 (by omega)
 try have sbh9 := szR_b qh9 (by omega) (by first | assumption | omega)
 try have snh9 := szR_no qh9
 refine WC.skip (hK8 _ _ (WC.sr (WL.r 3 hs7 [0] rfl ?_)))
 refine WL.cl Tryz.call160 rfl (k14_ _ _ _ _ _ _ (SlF.st0 f_a.Tabs hs7) ?_ ?_ ?_) ?_
 · first | assumption | omega
 · first | assumption | omega | exact szR_b (by assumption) (by omega) (by first | assumption | omega)
 · first | assumption | omega
 rintro _ whs10 ⟨rfl, hs10⟩
 replace hs10 := hs7.call0 hs10
 refine ⟨_, rfl, WL.r 1 hs10 [] rfl (WL.nil (WC.seq (fun K11 hK11 => WC.r1 hs10 [] rfl ?_)))⟩
 refine WC.cD rfl (fun qh12 => ?_) (fun qh12 => ?_)
 ·try have soh12 := szR_ok qh12 (by omega)
  try have sbh12 := szR_b qh12 (by omega) (by first | assumption | omega)
  try have snh12 := szR_no qh12
  refine WC.r1 hs10 [] rfl (WC.ret (tkR ?_))
  clear hK11
  refine rtv rfl rfl hs10 ?_
  simp only [totGrid, totScr, GridR.dat, ScrR.dat] at *; first | (rw [szR_lt (by omega)]; done) | (refine congrArg (Value.int _) ?_; symm; refine (szR_le ?_).trans ?_ <;> omega) | rfl
 try have soh12 := szR_ok qh12 (by omega)
 try have sbh12 := szR_b qh12 (by omega) (by first | assumption | omega)
 try have snh12 := szR_no qh12
 refine WC.skip (hK11 _ _ (WC.sr (WL.r 3 hs10 [0] rfl ?_)))
 refine WL.cl Tryz.call245 rfl (k27_ _ _ _ _ _ _ (SlN.st0 okRowR.st0 f_a.Back hs10) ?_ ?_ ?_) ?_
 · first | assumption | omega
 · first | assumption | omega | exact szR_b (by assumption) (by omega) (by first | assumption | omega)
 · first | assumption | omega
 rintro _ whs13 ⟨rfl, hs13⟩
 replace hs13 := hs10.call0 hs13
 refine ⟨_, rfl, WL.r 1 hs13 [] rfl (WL.nil (WC.seq (fun K14 hK14 => WC.r1 hs13 [] rfl ?_)))⟩
 refine WC.cD rfl (fun qh15 => ?_) (fun qh15 => ?_)
 ·try have soh15 := szR_ok qh15 (by omega)
  try have sbh15 := szR_b qh15 (by omega) (by first | assumption | omega)
  try have snh15 := szR_no qh15
  refine WC.r1 hs13 [] rfl (WC.ret (tkR ?_))
  clear hK14
  refine rtv rfl rfl hs13 ?_
  simp only [totGrid, totScr, GridR.dat, ScrR.dat] at *; first | (rw [szR_lt (by omega)]; done) | (refine congrArg (Value.int _) ?_; symm; refine (szR_le ?_).trans ?_ <;> omega) | rfl
 try have soh15 := szR_ok qh15 (by omega)
 try have sbh15 := szR_b qh15 (by omega) (by first | assumption | omega)
 try have snh15 := szR_no qh15
 refine WC.skip (hK14 _ _ (WC.r1 hs13 [] rfl (WC.ret (rtv rfl rfl hs13 ?_))))
 simp only [totGrid, totScr, GridR.dat, ScrR.dat] at *; first | (rw [szR_lt (by omega)]; done) | (refine congrArg (Value.int _) ?_; symm; refine (szR_le ?_).trans ?_ <;> omega) | rfl
set_option maxHeartbeats 4000000 in
theorem k31_ (a : TermR) (w : World) (f_a : okTermR 549755813888 w a) :
    Calls Tryz.prog 162 #[.agg #[i64 a.P.State, .bool a.P.Mark, .slice a.P.Args.A a.P.Args.n a.P.Args.c, .slice a.P.Part.A a.P.Part.n a.P.Part.c, i64 a.S.W, i64 a.S.H, i64 a.S.Main.W, i64 a.S.Main.H, .slice a.S.Main.Cells.A a.S.Main.Cells.n a.S.Main.Cells.c, i64 a.S.Alt.W, i64 a.S.Alt.H, .slice a.S.Alt.Cells.A a.S.Alt.Cells.n a.S.Alt.Cells.c, .bool a.S.OnAlt, i64 a.S.X, i64 a.S.Y, .bool a.S.Wrap, i64 a.S.A.Fg, i64 a.S.A.Bg, .bool a.S.A.Bold, .bool a.S.A.Under, .bool a.S.A.Turn, i64 a.S.Top, i64 a.S.Bot, .bool a.S.NoWrap, .bool a.S.Hide, i64 a.S.SaveX, i64 a.S.SaveY, i64 a.S.SaveA.Fg, i64 a.S.SaveA.Bg, .bool a.S.SaveA.Bold, .bool a.S.SaveA.Under, .bool a.S.SaveA.Turn, .slice a.S.Tabs.A a.S.Tabs.n a.S.Tabs.c, i64 a.S.Limit, .slice a.S.Back.A a.S.Back.n a.S.Back.c]] w fun e w' => ∃ r L1, e = .returned (.agg #[i64 r.P.State, .bool r.P.Mark, .slice r.P.Args.A r.P.Args.n r.P.Args.c, .slice r.P.Part.A r.P.Part.n r.P.Part.c, i64 r.S.W, i64 r.S.H, i64 r.S.Main.W, i64 r.S.Main.H, .slice r.S.Main.Cells.A r.S.Main.Cells.n r.S.Main.Cells.c, i64 r.S.Alt.W, i64 r.S.Alt.H, .slice r.S.Alt.Cells.A r.S.Alt.Cells.n r.S.Alt.Cells.c, .bool r.S.OnAlt, i64 r.S.X, i64 r.S.Y, .bool r.S.Wrap, i64 r.S.A.Fg, i64 r.S.A.Bg, .bool r.S.A.Bold, .bool r.S.A.Under, .bool r.S.A.Turn, i64 r.S.Top, i64 r.S.Bot, .bool r.S.NoWrap, .bool r.S.Hide, i64 r.S.SaveX, i64 r.S.SaveY, i64 r.S.SaveA.Fg, i64 r.S.SaveA.Bg, .bool r.S.SaveA.Bold, .bool r.S.SaveA.Under, .bool r.S.SaveA.Turn, .slice r.S.Tabs.A r.S.Tabs.n r.S.Tabs.c, i64 r.S.Limit, .slice r.S.Back.A r.S.Back.n r.S.Back.c]) ∧ St w [] L1 w' ∧ ownTermR r L1 ∧ r.dat = a.dat := by
 have nb_a_P_Args := f_a.P.Args_n
 have nl_a_P_Args := f_a.P.Args.len
 have nb_a_P_Part := f_a.P.Part_n
 have nl_a_P_Part := f_a.P.Part.len
 have nb_a_S_Main_Cells := f_a.S.Main.Cells_n
 have nl_a_S_Main_Cells := f_a.S.Main.Cells.len
 have nb_a_S_Alt_Cells := f_a.S.Alt.Cells_n
 have nl_a_S_Alt_Cells := f_a.S.Alt.Cells.len
 have nb_a_S_Tabs := f_a.S.Tabs_n
 have nl_a_S_Tabs := f_a.S.Tabs.len
 have nb_a_S_Back := f_a.S.Back_n
 have nl_a_S_Back := f_a.S.Back.sl.len
 refine enter 13 Tryz.func162 rfl Tryz.ntmps162 rfl rfl ?_
 have hs1 := St.init w
 refine WC.sr (WL.bx hs1 rfl (fun b2 _ hs3 => WL.al hs3 Tryz.zeroValue91 rfl rfl (fun b4 _ hs5 => WL.nil (WC.sr (WL.al hs5 Tryz.zeroValue91 rfl rfl (fun b6 _ hs7 => WL.nil (WC.sr ?_)))))))
 refine WL.r 2 hs7 [2] rfl (WL.cl Tryz.call206 rfl (k23_ a.P _ (okVpR.st0 f_a.P hs7)) ?_)
 rintro _ whs8 ⟨r9, L1_10, rfl, hs8, ho11, hd12⟩
 replace hs8 := hs7.callF hs8
 refine ⟨_, rfl, ?_⟩
 replace hs8 := St.back [_, _, _] hs8
 refine WL.r 1 hs8 [] rfl (WL.st tbk hs8 0 rfl rfl (fun _ hs13 => WL.nil (WC.sr (WL.r 2 hs13 [2] rfl (WL.cl Tryz.call207 rfl (k29_ a.S _ (okScrR.st0 f_a.S hs13)) ?_)))))
 rintro _ whs14 ⟨r15, L1_16, rfl, hs14, ho17, hd18⟩
 replace hs14 := hs13.callF hs14
 refine ⟨_, rfl, ?_⟩
 replace hs14 := St.back [_, _, _] hs14
 refine WL.r 1 hs14 [] rfl (WL.st tbk hs14 0 rfl rfl (fun _ hs19 => WL.nil (WC.sr (WL.r 1 hs19 [0] rfl (WL.st tbk hs19 1 rfl rfl (fun _ hs20 => WL.nil (WC.ret ?_)))))))
 refine retV1 rfl (resV.cellA tbk hs20 1 rfl rfl rfl rfl) ?_
 obtain ⟨L21, L22, hs25, ho23, ho24⟩ := ownVpR.op hs20 ho11
 have hs26 := (((hs25.fb b2).fb b4).fb b6)
 obtain ⟨L27, L28, L29, L30, hs35, ho31, ho32, ho33, ho34⟩ := ownScrR.op hs26 ho17
 have hs36 := (((hs35.fb b2).fb b4).fb b6)
 obtain ⟨L38, hs37, ho39⟩ := ownTermR.fl hs36 ho23 ho24 ho31 ho32 ho33 ho34
 have hs40 := (((hs37.fb b2).fb b4).fb b6)
 refine ⟨⟨⟨r9.State, r9.Mark, SlD.of ho23, SlD.of ho24⟩, ⟨r15.W, r15.H, ⟨r15.Main.W, r15.Main.H, SlD.of ho31⟩, ⟨r15.Alt.W, r15.Alt.H, SlD.of ho32⟩, r15.OnAlt, r15.X, r15.Y, r15.Wrap, ⟨r15.A.Fg, r15.A.Bg, r15.A.Bold, r15.A.Under, r15.A.Turn⟩, r15.Top, r15.Bot, r15.NoWrap, r15.Hide, r15.SaveX, r15.SaveY, ⟨r15.SaveA.Fg, r15.SaveA.Bg, r15.SaveA.Bold, r15.SaveA.Under, r15.SaveA.Turn⟩, SlD.of ho33, r15.Limit, SlD.ofN ho34⟩⟩, _, rfl, (St.keep1 (hs40.fr L38)), ?_, ?_⟩
 · exact (by exact ho39)
 · exact TermD.ext' hd12 hd18
set_option maxHeartbeats 4000000 in
theorem k32_ (a : TermR) (left : Int) (w : World) (f_a : okTermR 9223372036854775807 w a) (h1 : 0 ≤ left) (h2 : left ≤ 1048576) :
    Calls Tryz.prog 158 #[.agg #[i64 a.P.State, .bool a.P.Mark, .slice a.P.Args.A a.P.Args.n a.P.Args.c, .slice a.P.Part.A a.P.Part.n a.P.Part.c, i64 a.S.W, i64 a.S.H, i64 a.S.Main.W, i64 a.S.Main.H, .slice a.S.Main.Cells.A a.S.Main.Cells.n a.S.Main.Cells.c, i64 a.S.Alt.W, i64 a.S.Alt.H, .slice a.S.Alt.Cells.A a.S.Alt.Cells.n a.S.Alt.Cells.c, .bool a.S.OnAlt, i64 a.S.X, i64 a.S.Y, .bool a.S.Wrap, i64 a.S.A.Fg, i64 a.S.A.Bg, .bool a.S.A.Bold, .bool a.S.A.Under, .bool a.S.A.Turn, i64 a.S.Top, i64 a.S.Bot, .bool a.S.NoWrap, .bool a.S.Hide, i64 a.S.SaveX, i64 a.S.SaveY, i64 a.S.SaveA.Fg, i64 a.S.SaveA.Bg, .bool a.S.SaveA.Bold, .bool a.S.SaveA.Under, .bool a.S.SaveA.Turn, .slice a.S.Tabs.A a.S.Tabs.n a.S.Tabs.c, i64 a.S.Limit, .slice a.S.Back.A a.S.Back.n a.S.Back.c], i64 left] w fun e w' => e = .returned (.int .i64 (szR left (totTerm a.dat))) ∧ St w [] [] w' := by
 have nb_a_P_Args := f_a.P.Args_n
 have nl_a_P_Args := f_a.P.Args.len
 have nb_a_P_Part := f_a.P.Part_n
 have nl_a_P_Part := f_a.P.Part.len
 have nb_a_S_Main_Cells := f_a.S.Main.Cells_n
 have nl_a_S_Main_Cells := f_a.S.Main.Cells.len
 have nb_a_S_Alt_Cells := f_a.S.Alt.Cells_n
 have nl_a_S_Alt_Cells := f_a.S.Alt.Cells.len
 have nb_a_S_Tabs := f_a.S.Tabs_n
 have nl_a_S_Tabs := f_a.S.Tabs.len
 have nb_a_S_Back := f_a.S.Back_n
 have nl_a_S_Back := f_a.S.Back.sl.len
 refine enter 18 Tryz.func158 rfl Tryz.ntmps158 rfl rfl ?_
 have hs1 := St.init w
 refine WC.sr (WL.bx hs1 rfl (fun b2 _ hs3 => WL.r 1 hs3 [] rfl (WL.nil (WC.sr (WL.r 3 hs3 [0] rfl ?_)))))
 refine WL.cl Tryz.call204 rfl (k24_ a.P _ _ (okVpR.st0 f_a.P hs3) ?_ ?_) ?_
 · first | assumption | omega
 · first | assumption | omega | exact szR_b (by assumption) (by omega) (by first | assumption | omega)
 rintro _ whs4 ⟨rfl, hs4⟩
 replace hs4 := hs3.call0 hs4
 refine ⟨_, rfl, WL.r 1 hs4 [] rfl (WL.nil (WC.seq (fun K5 hK5 => WC.r1 hs4 [] rfl ?_)))⟩
 refine WC.cD rfl (fun qh6 => ?_) (fun qh6 => ?_)
 ·try have soh6 := szR_ok qh6 (by omega)
  try have sbh6 := szR_b qh6 (by omega) (by first | assumption | omega)
  try have snh6 := szR_no qh6
  refine WC.r1 hs4 [] rfl (WC.ret (tkR ?_))
  clear hK5
  refine rtv rfl rfl hs4 ?_
  simp only [totGrid, totScr, totTerm, totVp, GridR.dat, ScrR.dat, TermR.dat, VpR.dat] at *; first | (rw [szR_lt (by omega)]; done) | (refine congrArg (Value.int _) ?_; symm; refine (szR_le ?_).trans ?_ <;> omega) | rfl
 try have soh6 := szR_ok qh6 (by omega)
 try have sbh6 := szR_b qh6 (by omega) (by first | assumption | omega)
 try have snh6 := szR_no qh6
 refine WC.skip (hK5 _ _ (WC.sr (WL.r 3 hs4 [0] rfl ?_)))
 refine WL.cl Tryz.call205 rfl (k30_ a.S _ _ (okScrR.st0 f_a.S hs4) ?_ ?_) ?_
 · first | assumption | omega
 · first | assumption | omega | exact szR_b (by assumption) (by omega) (by first | assumption | omega)
 rintro _ whs7 ⟨rfl, hs7⟩
 replace hs7 := hs4.call0 hs7
 refine ⟨_, rfl, WL.r 1 hs7 [] rfl (WL.nil (WC.seq (fun K8 hK8 => WC.r1 hs7 [] rfl ?_)))⟩
 refine WC.cD rfl (fun qh9 => ?_) (fun qh9 => ?_)
 ·try have soh9 := szR_ok qh9 (by omega)
  try have sbh9 := szR_b qh9 (by omega) (by first | assumption | omega)
  try have snh9 := szR_no qh9
  refine WC.r1 hs7 [] rfl (WC.ret (tkR ?_))
  clear hK8
  refine rtv rfl rfl hs7 ?_
  simp only [totGrid, totScr, totTerm, totVp, GridR.dat, ScrR.dat, TermR.dat, VpR.dat] at *; first | (rw [szR_lt (by omega)]; done) | (refine congrArg (Value.int _) ?_; symm; refine (szR_le ?_).trans ?_ <;> omega) | rfl
 try have soh9 := szR_ok qh9 (by omega)
 try have sbh9 := szR_b qh9 (by omega) (by first | assumption | omega)
 try have snh9 := szR_no qh9
 refine WC.skip (hK8 _ _ (WC.r1 hs7 [] rfl (WC.ret (rtv rfl rfl hs7 ?_))))
 simp only [totGrid, totScr, totTerm, totVp, GridR.dat, ScrR.dat, TermR.dat, VpR.dat] at *; first | (rw [szR_lt (by omega)]; done) | (refine congrArg (Value.int _) ?_; symm; refine (szR_le ?_).trans ?_ <;> omega) | rfl
theorem k33_ (n : Int) (w : World) :
    Calls Tryz.prog 221 #[i64 n] w fun e w' => e = .returned (.bool (shows n)) ∧ St w [] [] w' := by
 refine enter 25 Tryz.func221 rfl Tryz.ntmps221 rfl rfl ?_
 have hs1 := St.init w
 refine WC.r1 hs1 [] rfl (WC.sr (WL.r 3 hs1 [] rfl (WL.pA tbk 2 Acts.nil hs1 [] rfl rfl rfl rfl (fun g_ => trivial) (WL.r 1 hs1 [] rfl ?_))))
 apply WL.gO 14 Acts.nil hs1 rfl
 ·intro g2 J3
  have qg2 := g2
  try simp only [bf, within_iff, within_not] at qg2
  refine WL.runA tbk 3 (Acts.nil.cons (j := 6) rfl g2) hs1 [] rfl trivial (WL.pA tbk 2 (Acts.nil.cons (j := 6) rfl g2) hs1 [] rfl rfl rfl rfl (fun g_ => trivial) (WL.runA tbk 1 (Acts.nil.cons (j := 6) rfl g2) hs1 [] rfl trivial ?_))
  apply WL.gA 6 (Acts.nil.cons (j := 6) rfl g2) hs1 rfl
  ·intro g4 J5
   have qg4 := g4
   try simp only [bf, within_iff, within_not] at qg4
   refine WL.runA tbk 3 (Acts.nil.cons (j := 13) rfl g4) hs1 [] rfl trivial (WL.pO tbk 2 (Acts.nil.cons (j := 13) rfl g4) hs1 [] rfl rfl rfl rfl (fun g_ => trivial) (WL.eA 4 (Acts.nil.cons (j := 6) rfl g2) J5 hs1 g4 rfl rfl))
  intro _ hs6
  exact WL.eO 6 Acts.nil J3 hs6 g2 rfl rfl
 intro _ hs7
 refine WL.r 1 hs7 [] rfl (WL.nil (WC.ret (rtv rfl rfl hs7 ?_)))
 refine congrArg Value.bool ?_; rw [Bool.eq_iff_iff]; simp [shows, within] <;> omega
theorem k34_ (a_Fg : Int) (a_Bg : Int) (a_Bold : Bool) (a_Under : Bool) (a_Turn : Bool) (w : World) :
    Calls Tryz.prog 233 #[.agg #[i64 a_Fg, i64 a_Bg, .bool a_Bold, .bool a_Under, .bool a_Turn]] w fun e w' => e = .returned (.bool (attrOk a_Fg a_Bg)) ∧ St w [] [] w' := by
 refine enter 11 Tryz.func233 rfl Tryz.ntmps233 rfl rfl ?_
 have hs1 := St.init w
 refine WC.sr (WL.bx hs1 rfl (fun b2 _ hs3 => WL.r 1 hs3 [] rfl (WL.nil (WC.sr (WL.r 2 hs3 [0] rfl (WL.cl Tryz.call58 rfl (k0_ _ _ _ _) ?_))))))
 rintro _ whs4 ⟨rfl, hs4⟩
 replace hs4 := hs3.call0 hs4
 refine ⟨_, rfl, WL.r 1 hs4 [] rfl ?_⟩
 apply WL.gA 3 Acts.nil hs4 rfl
 ·intro g5 J6
  have qg5 := g5
  try simp only [bf, within_iff, within_not] at qg5
  refine WL.runA tbk 2 (Acts.nil.cons (j := 3) rfl g5) hs4 [0] rfl ⟨rfl, trivial⟩ (WL.call (wantT rfl g5) rfl rfl (Run.call Tryz.call58 rfl rfl rfl) (k0_ _ _ _ _) ?_)
  rintro _ whs7 ⟨rfl, hs7⟩
  replace hs7 := hs4.call0 hs7
  refine ⟨_, rfl, WL.eA 3 Acts.nil J6 hs7 g5 rfl rfl⟩
 intro _ hs8
 refine WL.r 1 hs8 [] rfl (WL.nil (WC.ret (rtv rfl rfl hs8 ?_)))
 rfl
theorem k35_ (a_Fg : Int) (a_Bg : Int) (a_Bold : Bool) (a_Under : Bool) (a_Turn : Bool) (w : World) :
    Calls Tryz.prog 184 #[.agg #[i64 a_Fg, i64 a_Bg, .bool a_Bold, .bool a_Under, .bool a_Turn]] w fun e w' => e = .returned (.bool (attrOk a_Fg a_Bg)) ∧ St w [] [] w' := by
 refine enter 21 Tryz.func184 rfl Tryz.ntmps184 rfl rfl ?_
 have hs1 := St.init w
 refine WC.sr (WL.bx hs1 rfl (fun b2 _ hs3 => WL.r 1 hs3 [] rfl (WL.nil (WC.sr (WL.r 4 hs3 [0] rfl (WL.pA tbk 3 Acts.nil hs3 [0] rfl rfl rfl rfl (fun g_ => ⟨rfl, trivial⟩) (WL.r 1 hs3 [] rfl ?_)))))))
 refine WL.pA tbk 3 Acts.nil hs3 [0] rfl rfl rfl rfl (fun g_ => ⟨rfl, trivial⟩) (WL.r 1 hs3 [] rfl (WL.pA tbk 3 Acts.nil hs3 [0] rfl rfl rfl rfl (fun g_ => ⟨rfl, trivial⟩) (WL.r 1 hs3 [] rfl (WL.nil (WC.ret (rtv rfl rfl hs3 ?_))))))
 simp [attrOk, within, Bool.and_assoc]
theorem k36_ (c_R : Int) (c_A_Fg : Int) (c_A_Bg : Int) (c_A_Bold : Bool) (c_A_Under : Bool) (c_A_Turn : Bool) (w : World) :
    Calls Tryz.prog 294 #[.agg #[i64 c_R, i64 c_A_Fg, i64 c_A_Bg, .bool c_A_Bold, .bool c_A_Under, .bool c_A_Turn]] w fun e w' => e = .returned (.bool (cellOk ⟨c_R, ⟨c_A_Fg, c_A_Bg, c_A_Bold, c_A_Under, c_A_Turn⟩⟩)) ∧ St w [] [] w' := by
 refine enter 11 Tryz.func294 rfl Tryz.ntmps294 rfl rfl ?_
 have hs1 := St.init w
 refine WC.sr (WL.bx hs1 rfl (fun b2 _ hs3 => WL.r 1 hs3 [] rfl (WL.nil (WC.sr (WL.r 2 hs3 [0] rfl (WL.cl Tryz.call268 rfl (k2_ _ _) ?_))))))
 rintro _ whs4 ⟨rfl, hs4⟩
 replace hs4 := hs3.call0 hs4
 refine ⟨_, rfl, WL.r 1 hs4 [] rfl ?_⟩
 apply WL.gA 3 Acts.nil hs4 rfl
 ·intro g5 J6
  have qg5 := g5
  try simp only [bf, within_iff, within_not] at qg5
  refine WL.runA tbk 2 (Acts.nil.cons (j := 3) rfl g5) hs4 [0] rfl ⟨rfl, trivial⟩ (WL.call (wantT rfl g5) rfl rfl (Run.call Tryz.call233 rfl rfl rfl) (k34_ _ _ _ _ _ _) ?_)
  rintro _ whs7 ⟨rfl, hs7⟩
  replace hs7 := hs4.call0 hs7
  refine ⟨_, rfl, WL.eA 3 Acts.nil J6 hs7 g5 rfl rfl⟩
 intro _ hs8
 refine WL.r 1 hs8 [] rfl (WL.nil (WC.ret (rtv rfl rfl hs8 ?_)))
 rfl
theorem k37_ (c_R : Int) (c_A_Fg : Int) (c_A_Bg : Int) (c_A_Bold : Bool) (c_A_Under : Bool) (c_A_Turn : Bool) (w : World) :
    Calls Tryz.prog 185 #[.agg #[i64 c_R, i64 c_A_Fg, i64 c_A_Bg, .bool c_A_Bold, .bool c_A_Under, .bool c_A_Turn]] w fun e w' => e = .returned (.bool (cellOk ⟨c_R, ⟨c_A_Fg, c_A_Bg, c_A_Bold, c_A_Under, c_A_Turn⟩⟩)) ∧ St w [] [] w' := by
 refine enter 11 Tryz.func185 rfl Tryz.ntmps185 rfl rfl ?_
 have hs1 := St.init w
 refine WC.sr (WL.bx hs1 rfl (fun b2 _ hs3 => WL.r 1 hs3 [] rfl (WL.nil (WC.sr (WL.r 2 hs3 [0] rfl (WL.cl Tryz.call221 rfl (k33_ _ _) ?_))))))
 rintro _ whs4 ⟨rfl, hs4⟩
 replace hs4 := hs3.call0 hs4
 refine ⟨_, rfl, WL.r 1 hs4 [] rfl ?_⟩
 apply WL.gA 3 Acts.nil hs4 rfl
 ·intro g5 J6
  have qg5 := g5
  try simp only [bf, within_iff, within_not] at qg5
  refine WL.runA tbk 2 (Acts.nil.cons (j := 3) rfl g5) hs4 [0] rfl ⟨rfl, trivial⟩ (WL.call (wantT rfl g5) rfl rfl (Run.call Tryz.call184 rfl rfl rfl) (k35_ _ _ _ _ _ _) ?_)
  rintro _ whs7 ⟨rfl, hs7⟩
  replace hs7 := hs4.call0 hs7
  refine ⟨_, rfl, WL.eA 3 Acts.nil J6 hs7 g5 rfl rfl⟩
 intro _ hs8
 refine WL.r 1 hs8 [] rfl (WL.nil (WC.ret (rtv rfl rfl hs8 ?_)))
 rfl
theorem k38_ (c_R : Int) (c_A_Fg : Int) (c_A_Bg : Int) (c_A_Bold : Bool) (c_A_Under : Bool) (c_A_Turn : Bool) (w : World) :
    Calls Tryz.prog 293 #[.agg #[i64 c_R, i64 c_A_Fg, i64 c_A_Bg, .bool c_A_Bold, .bool c_A_Under, .bool c_A_Turn]] w fun e w' => e = .returned (.bool (!cellOk ⟨c_R, ⟨c_A_Fg, c_A_Bg, c_A_Bold, c_A_Under, c_A_Turn⟩⟩)) ∧ St w [] [] w' := by
 refine enter 6 Tryz.func293 rfl Tryz.ntmps293 rfl rfl ?_
 have hs1 := St.init w
 refine WC.sr (WL.bx hs1 rfl (fun b2 _ hs3 => WL.r 1 hs3 [] rfl (WL.nil (WC.sr (WL.r 1 hs3 [0] rfl (WL.cl Tryz.call294 rfl (k36_ _ _ _ _ _ _ _) ?_))))))
 rintro _ whs4 ⟨rfl, hs4⟩
 replace hs4 := hs3.call0 hs4
 refine ⟨_, rfl, WL.r 2 hs4 [] rfl (WL.nil (WC.ret (rtv rfl rfl hs4 ?_)))⟩
 rfl
theorem k39_ (A_s : Option Addr) (n_s c_s : Nat) (s : List CellD) (w : World) (f_s : SlF encCell w A_s n_s s) (hn : n_s ≤ 1099511627776) :
    Calls Tryz.prog 302 #[.slice A_s n_s c_s, .func (.func 293) #[] #[]] w fun e w' => e = .returned (.int .i64 (findI (fun c => !cellOk c) s)) ∧ St w [] [] w' := by
 refine enter 19 Tryz.func302 rfl Tryz.ntmps302 rfl rfl ?_
 have hs1 := St.init w
 refine WC.r1 hs1 [] rfl (WC.seq (fun K2 hK2 => WC.r1 hs1 [] rfl (WC.block ?_)))
 refine WC.lS [0, 1, 7] rfl hs1 (fun k_ f w' => ∃ (i : Nat), k_ = n_s - i ∧ (i ≤ n_s) ∧ (∀ j, j < i → (fun c => !cellOk c) (gat encCell s j) = false) ∧ Sub [(8, .int .i64 i)] f) ((fun (i : Nat) => n_s - i) (0)) ?_ ?_
 ·refine ⟨0, rfl, ?_, ?_, ⟨rfl, trivial⟩⟩
  · exact Nat.zero_le _
  · exact fun j hj => absurd hj (by omega)
 clear hs1
 rintro _ f w ⟨i, rfl, p0, p1, hG⟩ hF hs3
 refine WC.sub _ (hG.app hF) ?_
 clear hG hF
 refine WC.r1 hs3 [] rfl (WC.seq (fun K4 hK4 => ?_))
 refine WC.cond rfl (fun h5 => ?_) (fun h5 => ?_)
 ·have qh5 := h5
  try simp only [decide_eq_true_eq, decide_eq_false_iff_not] at qh5
  refine WC.skip (hK4 _ _ (WC.seq (fun K6 hK6 => WC.block (WC.r1 hs3 [] rfl (WC.sr (WL.r 3 hs3 [] rfl ?_))))))
  refine WL.val rfl rfl rfl (Run.idxN Tryz.runUnderlying74 Tryz.sizeOf164 rfl rfl rfl ?_ ?_ ?_) ?_
  · exact SlF.some_ (SlF.st0 f_s hs3)
  · omega
  · omega
  refine WL.val rfl rfl rfl (Run.loadA Tryz.isAgg164 Tryz.sizeOf164 rfl rfl (SlF.whole (SlF.st0 f_s hs3) ?_)) ?_
  · omega
  refine WL.cl Tryz.call293 rfl (k38_ _ _ _ _ _ _ _) ?_
  rintro _ whs7 ⟨rfl, hs7⟩
  replace hs7 := hs3.call0 hs7
  refine ⟨_, rfl, WL.nil (WC.cond rfl (fun h8 => ?_) (fun h8 => ?_))⟩
  ·have qh8 := h8
   try simp only [decide_eq_true_eq, decide_eq_false_iff_not] at qh8
   refine WC.r1 hs7 [] rfl (WC.ret (ibR (tkR (tkR (ibR (tkR ?_))))))
   clear hK6 hK2
   refine rtv rfl rfl hs7 ?_
   rw [findI_some (F := encCell) (by rw [f_s.len]; omega) p1 h8]
  have qh8 := h8
  try simp only [decide_eq_true_eq, decide_eq_false_iff_not] at qh8
  refine WC.skip (hK6 _ _ (WC.region (WL.r 2 hs7 [] rfl (WL.nil (tkN ?_)))))
  refine ⟨sbF rfl, hs7, _, ?_, i + 1, rfl, ?_, ?_, ⟨rfl, trivial⟩⟩
  · omega
  · omega
  · intro j hj; rcases Nat.lt_or_ge j i with h_ | h_
    · exact p1 j h_
    · obtain rfl : j = i := by omega
      exact h8
 have qh5 := h5
 try simp only [decide_eq_true_eq, decide_eq_false_iff_not] at qh5
 refine WC.exit (hK2 _ _ (WC.r1 hs3 [] rfl (WC.ret (rtv rfl rfl hs3 ?_))))
 rw [findI_none (F := encCell) (fun j hj => p1 j (by rw [f_s.len] at hj; omega))]
theorem k40_ (A_s : Option Addr) (n_s c_s : Nat) (s : List CellD) (w : World) (f_s : SlF encCell w A_s n_s s) (hn : n_s ≤ 1099511627776) :
    Calls Tryz.prog 292 #[.slice A_s n_s c_s, .func (.func 293) #[] #[]] w fun e w' => e = .returned (.bool (decide (0 ≤ findI (fun c => !cellOk c) s))) ∧ St w [] [] w' := by
 refine enter 9 Tryz.func292 rfl Tryz.ntmps292 rfl rfl ?_
 have hs1 := St.init w
 refine WC.r1 hs1 [] rfl (WC.sr (WL.r 2 hs1 [] rfl (WL.cl Tryz.call302 rfl (k39_ _ _ _ _ _ (SlF.st0 f_s hs1) ?_) ?_)))
 · first | assumption | rfl | omega
 rintro _ whs2 ⟨rfl, hs2⟩
 replace hs2 := hs1.call0 hs2
 refine ⟨_, rfl, WL.r 2 hs2 [] rfl (WL.nil (WC.ret (rtv rfl rfl hs2 ?_)))⟩
 rfl
theorem k41_ (A_l : Option Addr) (n_l c_l : Nat) (l : List CellD) (w : World) (f_l : SlF encCell w A_l n_l l) (hn : n_l ≤ 1099511627776) :
    Calls Tryz.prog 271 #[.slice A_l n_l c_l] w fun e w' => e = .returned (.bool (cellsOk l)) ∧ St w [] [] w' := by
 refine enter 6 Tryz.func271 rfl Tryz.ntmps271 rfl rfl ?_
 have hs1 := St.init w
 refine WC.r1 hs1 [] rfl (WC.sr (WL.r 1 hs1 [] rfl (WL.cl Tryz.call292 rfl (k40_ _ _ _ _ _ (SlF.st0 f_l hs1) ?_) ?_)))
 · first | assumption | rfl | omega
 rintro _ whs2 ⟨rfl, hs2⟩
 replace hs2 := hs1.call0 hs2
 refine ⟨_, rfl, WL.r 2 hs2 [] rfl (WL.nil (WC.ret (rtv rfl rfl hs2 ?_)))⟩
 rw [cellsOk_find]
theorem k42_ (A_b : Option Addr) (n_b c_b : Nat) (b : List UInt8) (w : World) (f_b : SlF encB w A_b n_b b) (hn : n_b ≤ 2) :
    Calls Tryz.prog 267 #[.slice A_b n_b c_b] w fun e w' => e = .returned (.tuple #[.int .i64 (tlV b : Nat), .bool (tlOk b)]) ∧ St w [] [] w' := by
 have hbl := f_b.len
 refine enter 24 Tryz.func267 rfl Tryz.ntmps267 rfl rfl ?_
 have hs1 := St.init w
 refine WC.r1 hs1 [] rfl (WC.r1 hs1 [] rfl (WC.seq (fun K2 hK2 => WC.r1 hs1 [] rfl (WC.block ?_))))
 refine WC.lS [7, 8] rfl hs1 (fun k_ f w' => ∃ (i : Nat), k_ = n_b - i ∧ (i ≤ n_b) ∧ (tlOk (b.take i) = true) ∧ Sub [(9, .int .i64 i), (4, .int .i64 (tlN (b.take i) : Nat))] f) ((fun (i : Nat) => n_b - i) (0)) ?_ ?_
 ·refine ⟨0, rfl, ?_, ?_, ⟨rfl, ?_, trivial⟩⟩
  · exact Nat.zero_le _
  · rfl
  · rfl
 clear hs1
 rintro _ f w ⟨i, rfl, p0, p1, hG⟩ hF hs3
 refine WC.sub _ (hG.app hF) ?_
 clear hG hF
 have hb_ := tlN_bnd (l := b.take i) (by rw [List.length_take]; omega)
 simp only [List.length_take] at hb_
 refine WC.r1 hs3 [] rfl (WC.seq (fun K4 hK4 => ?_))
 refine WC.cD rfl (fun qh5 => ?_) (fun qh5 => ?_)
 ·refine WC.skip (hK4 _ _ (WC.seq (fun K6 hK6 => WC.block (WC.sr ?_))))
  refine WL.val rfl rfl rfl (Run.idxN Tryz.runUnderlying44 Tryz.sizeOf5 rfl rfl rfl ?_ ?_ ?_) ?_
  · exact SlF.some_ (SlF.st0 f_b hs3)
  · omega
  · omega
  refine WL.val rfl rfl rfl (Run.load Tryz.isAgg5 rfl rfl (SlF.one1 (SlF.st0 f_b hs3) ?_ rfl)) ?_
  · omega
  refine WL.r 1 hs3 [] rfl (WL.nil (WC.seq (fun K7 hK7 => WC.sr (WL.r 1 hs3 [] rfl ?_))))
  refine WL.val rfl rfl rfl (Run.quoB 64 rfl rfl rfl ?_ ?_) ?_
  · decide
  · decide
  refine WL.r 1 hs3 [] rfl (WL.nil (WC.cN rfl (fun qh8 => ?_) (fun qh8 => ?_)))
  ·refine WC.r1 hs3 [] rfl (WC.ret (tkR (ibR (tkR (tkR (ibR (tkR ?_)))))))
   clear hK7 hK6 hK2
   refine retV2 rfl (resV.tmp rfl) (resV.tmp rfl) (⟨congrArg Ending.returned ?_, hs3.nil⟩)
   simp only [u8_div] at qh8
   have hbad := tlOk_bad (l := b) (i := i) (by omega) (by omega)
   rw [hbad, show tlV b = 0 from if_neg (by rw [hbad]; decide)]; rfl
  refine WC.skip (hK7 _ _ (WC.region (WL.r 3 hs3 [] rfl ?_)))
  refine WL.val rfl rfl rfl (Run.remB 64 rfl rfl rfl ?_ ?_) ?_
  · decide
  · decide
  refine WL.run tbk 3 hs3 [] rfl ⟨?_, (u8_in _), trivial⟩ ?_
  · rw [u8_mod]; constructor <;> omega
  refine WL.nil (hK6 _ _ (WC.region (WL.r 2 hs3 [] rfl (WL.nil (tkN ?_)))))
  refine ⟨sbF rfl, hs3, _, ?_, i + 1, rfl, ?_, ?_, ⟨rfl, ?_, trivial⟩⟩
  · omega
  · omega
  · simp only [u8_div] at qh8; rw [tlOk_take (by omega), p1, Bool.true_and, decide_eq_true_eq]; omega
  · refine congrArg some (congrArg (Value.int _) ?_); rw [tlN_take (by omega), u8_mod]; omega
 refine WC.exit (hK2 _ _ (WC.r1 hs3 [] rfl (WC.ret (retV2 rfl (resV.tmp rfl) (resV.tmp rfl) (⟨congrArg Ending.returned ?_, hs3.nil⟩)))))
 have ht : b.take i = b := List.take_of_length_le (by omega)
 rw [ht] at p1
 rw [p1, ht, show tlV b = tlN b from if_pos p1]
theorem k43_ (r : Int) (w : World) :
    Calls Tryz.prog 290 #[i64 r] w fun e w' => ∃ A c L1, e = .returned (.slice A (runeB r).length c) ∧ St w [] L1 w' ∧ OwnF encB 5 (.slice A (runeB r).length c) (runeB r) L1 := by
 refine enter 36 Tryz.func290 rfl Tryz.ntmps290 rfl rfl ?_
 have hs1 := St.init w
 refine WC.r1 hs1 [] rfl (WC.seq (fun K2 hK2 => WC.sr (WL.r 1 hs1 [] rfl (WL.cl Tryz.call221 rfl (k33_ _ _) ?_))))
 rintro _ whs3 ⟨rfl, hs3⟩
 replace hs3 := hs1.call0 hs3
 refine ⟨_, rfl, WL.r 1 hs3 [] rfl (WL.nil (WC.cq rfl (fun h4 qh4 => ?_) (fun h4 qh4 => ?_)))⟩
 ·have hsh : shows r = false := by simpa using qh4
  refine WC.r1 hs3 [] rfl (WC.ret (tkR ?_))
  clear hK2
  refine retV1 rfl (resV.tmp rfl) ?_
  have hx_ := OwnF.eqOf (xs := runeB r) (OwnF.nil encB 5) (by simp [runeB, hsh])
  rw [← hx_]
  exact ⟨_, _, _, rfl, hs3.nil, (OwnF.nil encB 5)⟩
 have hsh : shows r = true := by simpa using qh4
 have hsi := shows_iff.1 hsh
 refine WC.skip (hK2 _ _ (WC.seq (fun K5 hK5 => WC.r1 hs3 [] rfl ?_)))
 refine WC.cD rfl (fun qh6 => ?_) (fun qh6 => ?_)
 ·refine WC.sr (WL.r 2 hs3 [] rfl (WL.buildF (F := encB) hs3 ([ub r]) Tryz.runUnderlying44 Tryz.sizeOf5 Tryz.zeroValue5 rfl rfl rfl rfl rfl rfl rfl rfl rfl rfl rfl rfl (fun A10 c11 L7 whs8 hs8 ho9 => WL.r 1 hs8 [] rfl (WL.nil (WC.ret (tkR ?_))))))
  clear hK5
  refine retV1 rfl (resV.tmp rfl) ?_
  have hx_ := OwnF.eqOf (xs := runeB r) ho9 (by unfold runeB; rw [hsh, if_neg (by decide), if_pos (by omega)])
  rw [← hx_]
  first | exact ⟨_, _, _, rfl, (St.keep1 hs8), ho9⟩ | exact ⟨A10, c11, _, by rw [OwnF.len_ ho9], (St.keep1 hs8), by rw [OwnF.len_ ho9]; exact ho9⟩
 refine WC.skip (hK5 _ _ (WC.seq (fun K12 hK12 => WC.r1 hs3 [] rfl ?_)))
 refine WC.cD rfl (fun qh13 => ?_) (fun qh13 => ?_)
 ·refine WC.sr (WL.r 1 hs3 [] rfl (WL.val rfl rfl rfl (Run.quo rfl rfl rfl ?_ ?_ ?_) ?_))
  · omega
  · omega
  · omega
  refine WL.r 3 hs3 [] rfl (WL.val rfl rfl rfl (Run.rem rfl rfl rfl ?_ ?_) ?_)
  · omega
  · omega
  refine WL.r 2 hs3 [] rfl (WL.buildF (F := encB) hs3 ([ub (192 + r / 64), ub (128 + r % 64)]) Tryz.runUnderlying44 Tryz.sizeOf5 Tryz.zeroValue5 rfl rfl rfl rfl rfl rfl rfl rfl rfl rfl rfl rfl (fun A17 c18 L14 whs15 hs15 ho16 => WL.r 1 hs15 [] rfl (WL.nil (WC.ret (tkR ?_)))))
  clear hK12
  refine retV1 rfl (resV.tmp rfl) ?_
  have hx_ := OwnF.eqOf (xs := runeB r) ho16 (by unfold runeB; rw [hsh, if_neg (by decide), if_neg (by omega), if_pos (by omega)])
  rw [← hx_]
  first | exact ⟨_, _, _, rfl, (St.keep1 hs15), ho16⟩ | exact ⟨A17, c18, _, by rw [OwnF.len_ ho16], (St.keep1 hs15), by rw [OwnF.len_ ho16]; exact ho16⟩
 refine WC.skip (hK12 _ _ (WC.sr (WL.r 1 hs3 [] rfl ?_)))
 refine WL.val rfl rfl rfl (Run.quo rfl rfl rfl ?_ ?_ ?_) ?_
 · omega
 · omega
 · omega
 refine WL.r 3 hs3 [] rfl (WL.val rfl rfl rfl (Run.quo rfl rfl rfl ?_ ?_ ?_) ?_)
 · omega
 · omega
 · omega
 refine WL.val rfl rfl rfl (Run.rem rfl rfl rfl ?_ ?_) ?_
 · omega
 · omega
 refine WL.r 3 hs3 [] rfl (WL.val rfl rfl rfl (Run.rem rfl rfl rfl ?_ ?_) ?_)
 · omega
 · omega
 refine WL.r 2 hs3 [] rfl (WL.buildF (F := encB) hs3 ([ub (224 + r / 4096), ub (128 + r / 64 % 64), ub (128 + r % 64)]) Tryz.runUnderlying44 Tryz.sizeOf5 Tryz.zeroValue5 rfl rfl rfl rfl rfl rfl rfl rfl rfl rfl rfl rfl (fun A22 c23 L19 whs20 hs20 ho21 => WL.r 1 hs20 [] rfl (WL.nil (WC.ret (retV1 rfl (resV.tmp rfl) ?_)))))
 have hx_ := OwnF.eqOf (xs := runeB r) ho21 (by unfold runeB; rw [hsh, if_neg (by decide), if_neg (by omega), if_neg (by omega)])
 rw [← hx_]
 first | exact ⟨_, _, _, rfl, (St.keep1 hs20), ho21⟩ | exact ⟨A22, c23, _, by rw [OwnF.len_ ho21], (St.keep1 hs20), by rw [OwnF.len_ ho21]; exact ho21⟩
theorem k44_ (A_b : Option Addr) (n_b c_b : Nat) (b : List UInt8) (w : World) (f_b : SlF encB w A_b n_b b) (hc : n_b ≤ c_b) (hn : n_b ≤ 549755813888) :
    Calls Tryz.prog 266 #[.slice A_b n_b c_b, i64 0] w fun e w' => e = .returned (.tuple #[.int .i64 (rvN (runeL b)), .int .i64 (rvS (runeL b) : Nat)]) ∧ St w [] [] w' := by
 have hbl := f_b.len
 have hb0 := (gat encB b 0).toNat_lt
 have hb0' : (gat encB b (Int.toNat 0)).toNat < 2 ^ 8 := hb0
 refine enter 76 Tryz.func266 rfl Tryz.ntmps266 rfl rfl ?_
 have hs1 := St.init w
 refine WC.r1 hs1 [] rfl (WC.seq (fun K2 hK2 => WC.sr (WL.r 3 hs1 [] rfl (WL.pO tbk 4 Acts.nil hs1 [] rfl rfl rfl rfl (fun g_ => trivial) (WL.nil ?_)))))
 refine WC.cq rfl (fun h3 qh3 => ?_) (fun h3 qh3 => ?_)
 ·refine WC.r1 hs1 [] rfl (WC.ret (tkR ?_))
  clear hK2
  refine retV2 rfl (resV.tmp rfl) (resV.tmp rfl) (⟨congrArg Ending.returned ?_, hs1.nil⟩)
  have h0 : b = [] := List.eq_nil_of_length_eq_zero (by simp at qh3; omega)
  subst h0
  rw [runeL_nil]; rfl
 refine WC.skip (hK2 _ _ (WC.seq (fun K4 hK4 => WC.r1 hs1 [] rfl (WC.block ?_))))
 refine WC.lS [0, 1, 17] rfl hs1 (fun k_ f w' => ∃ (s : Nat), k_ = 4 - s ∧ (1 ≤ s) ∧ (s ≤ 4) ∧ (∀ t, 1 ≤ t → t < s → rtry b t = false) ∧ Sub [(6, .int .i64 s)] f) ((fun (s : Nat) => 4 - s) (1)) ?_ ?_
 ·refine ⟨1, rfl, ?_, ?_, ?_, ⟨rfl, trivial⟩⟩
  · omega
  · omega
  · intro t h1 h2; omega
 clear hs1
 rintro _ f w ⟨s, rfl, p0, p1, p2, hG⟩ hF hs5
 refine WC.sub _ (hG.app hF) ?_
 clear hG hF
 have ht4 := t4_bnd s
 refine WC.seq (fun K6 hK6 => WC.sr (WL.r 3 hs5 [] rfl ?_))
 refine WL.pA tbk 6 Acts.nil hs5 [] rfl rfl rfl rfl (fun g_ => by (try simp only [bf, within_iff, within_not] at g_); exact ⟨by omega, trivial⟩) (WL.nil (WC.cq rfl (fun h7 qh7 => ?_) (fun h7 qh7 => ?_)))
 ·refine WC.skip (hK6 _ _ (WC.seq (fun K8 hK8 => WC.block (WC.seq (fun K9 hK9 => WC.rH hs5 hs5 (fun _ hs10 => ?_))))))
  refine WH.rn [0, 1] hs10 [] rfl rfl ?_
  refine WH.take 2 rfl (by kernel_rfl) rfl rfl rfl hs10 (fun w_ hs_ => (Run.idx Tryz.runUnderlying44 Tryz.sizeOf5 rfl rfl rfl ?_ ?_ ?_)) ?_
  · exact SlF.some_ (SlF.st0 f_b (hs_ : St _ _ _ _))
  · first | omega | (simp; omega)
  · first | omega | (simp; omega)
  refine WH.take 3 rfl (by kernel_rfl) rfl rfl rfl hs10 (fun w_ hs_ => (Run.load Tryz.isAgg5 rfl rfl (SlF.one1 (SlF.st0 f_b (hs_ : St _ _ _ _)) ?_ rfl))) ?_
  · first | omega | (simp; omega)
  refine WH.rn [4, 6] hs10 [] rfl rfl (WH.o1 5 rfl (WL.buildF (F := encI) hs10 ([0, 0, 192, 224]) Tryz.runUnderlying60 Tryz.sizeOf3 Tryz.zeroValue3 rfl rfl rfl rfl rfl rfl rfl rfl rfl rfl rfl rfl (fun A14 c15 L11 whs12 hs12 ho13 => WL.nil ⟨(hs12.rm L11), ?_⟩)))
  refine WH.strS hs12 (fun w_ h_ => (h_.rm L11)) ?_
  refine WH.take 7 rfl (by kernel_rfl) rfl rfl rfl hs12 (fun w_ hs_ => (Run.idxN Tryz.runUnderlying60 Tryz.sizeOf3 rfl rfl rfl ?_ ?_ ?_)) ?_
  · exact SlF.some_ (SlF.ofOwn ho13 ((hs_ : St _ _ _ _).ow L11))
  · first | omega | (simp; omega)
  · first | omega | (simp; omega)
  refine WH.take 8 rfl (by kernel_rfl) rfl rfl rfl hs12 (fun w_ hs_ => (Run.load Tryz.isAgg3 rfl rfl (SlF.one1 (SlF.ofOwn ho13 ((hs_ : St _ _ _ _).ow L11)) ?_ rfl))) ?_
  · first | omega | (simp; omega)
  refine WH.rn [9, 10] hs12 [] rfl rfl (WH.dn (hK9 _ _ (WC.seq (fun K16 hK16 => WC.r1 hs12 [] rfl (WC.block ?_)))))
  refine WC.lS [0, 1, 6, 17, 18, 19, 20, 27, 30, 31, 32, 33, 34, 35, 36, 37, 38, 39] rfl hs12 (fun k_ f w' => ∃ (i : Nat), k_ = s - i ∧ (1 ≤ i) ∧ (i ≤ s) ∧ Sub [(8, .int .i64 i), (7, .int .i64 (candI b s (i - 1)))] f) ((fun (i : Nat) => s - i) (1)) ?_ ?_
  ·refine ⟨1, rfl, ?_, ?_, ⟨rfl, ?_, trivial⟩⟩
   · omega
   · omega
   · rfl
  clear hs12
  rintro _ f w ⟨i, rfl, p0, p1, hG⟩ hF hs17
  refine WC.sub _ (hG.app hF) ?_
  clear hG hF
  have hcb := candI_bnd (l := b) (s := s) (i := i - 1) (by omega)
  have hbi := (gat encB b i).toNat_lt
  have hbz : (gat encB b ((0 : Int) + (i : Int)).toNat).toNat < 2 ^ 8 := (gat encB b _).toNat_lt
  refine WC.seq (fun K18 hK18 => WC.r1 hs17 [] rfl ?_)
  refine WC.cD rfl (fun qh19 => ?_) (fun qh19 => ?_)
  ·refine WC.skip (hK18 _ _ (WC.seq (fun K20 hK20 => WC.block (WC.region (WL.r 6 hs17 [] rfl ?_)))))
   refine WL.val rfl rfl rfl (Run.idx Tryz.runUnderlying44 Tryz.sizeOf5 rfl rfl rfl ?_ ?_ ?_) ?_
   · exact SlF.some_ (SlF.st0 f_b hs17)
   · first | omega | (simp; omega)
   · first | omega | (simp; omega)
   refine WL.val rfl rfl rfl (Run.load Tryz.isAgg5 rfl rfl (SlF.one1 (SlF.st0 f_b hs17) ?_ rfl)) ?_
   · first | omega | (simp; omega)
   refine WL.r 4 hs17 [] rfl (WL.nil (hK20 _ _ (WC.region (WL.r 3 hs17 [] rfl (WL.nil (tkN ?_))))))
   refine ⟨sbF rfl, hs17, _, ?_, i + 1, rfl, ?_, ?_, ⟨rfl, ?_, trivial⟩⟩
   · omega
   · omega
   · omega
   · refine congrArg some (congrArg (Value.int _) ?_); have h9 := candI_next (l := b) (s := s) (i := i) (by omega); rw [h9]; simp
  refine WC.exit (hK16 _ _ (WC.sr (WL.r 1 hs17 [] rfl (WL.cl Tryz.call290 rfl (k43_ _ _) ?_))))
  rintro _ whs21 ⟨A22, c23, L1_24, rfl, hs21, ho25⟩
  replace hs21 := hs17.callF hs21
  refine ⟨_, rfl, WL.r 1 hs21 [] rfl (WL.nil (WC.sq1 hs21 (WQ.r 5 [] rfl ?_)))⟩
  apply WQ.gA 10 Acts.nil rfl
  ·intro g26 J27
   have qg26 := g26
   try simp only [bf, within_iff, within_not] at qg26
   refine WQ.runA tbk 1 (Acts.nil.cons (j := 4) rfl g26) [] rfl trivial ?_
   refine WQ.val (wantT rfl g26) rfl rfl (fun w_ hs_ => (Run.strOf (SlF.ofOwn ho25 ((hs_ : St _ _ _ _).ow L1_24)) Tryz.underlying44 Tryz.underlying5 Tryz.underlying9 rfl rfl)) ?_
   refine WQ.runA tbk 5 (Acts.nil.cons (j := 4) rfl g26) [] rfl ⟨by omega, trivial⟩ ?_
   refine WQ.val (wantT rfl g26) rfl rfl (fun w_ hs_ => (Run.sliceLH (0) (s) Tryz.runUnderlying44 Tryz.sizeOf5 rfl rfl rfl rfl ?_ ?_ ?_)) ?_
   · first | rfl | (omega)
   · first | rfl | (omega)
   · refine ⟨?_, ?_, ?_⟩ <;> (omega)
   refine WQ.val (wantT rfl g26) rfl rfl (fun w_ hs_ => (Run.strOf (SlF.cutC (lo := 0) (hi := s) (SlF.st0 f_b (hs_ : St _ _ _ _)) (by refine ⟨?_, ?_, ?_⟩ <;> (omega))) Tryz.underlying44 Tryz.underlying5 Tryz.underlying9 rfl rfl)) ?_
   refine WQ.runA tbk 1 (Acts.nil.cons (j := 4) rfl g26) [] rfl trivial (WQ.eA 10 Acts.nil J27 g26 rfl rfl)
  refine WQ.nil (fun _ (hs28 : St _ _ _ _) => ?_)
  refine WC.cq rfl (fun h29 qh29 => ?_) (fun h29 qh29 => ?_)
  ·refine WC.r1 hs28 [] rfl (WC.ret (ibR (tkR (tkR (ibR (tkR ?_))))))
   clear hK8 hK4
   refine retV2 rfl (resV.tmp rfl) (resV.tmp rfl) (⟨congrArg Ending.returned ?_, hs28.nil⟩)
   obtain rfl : i = s := by omega
   have hok : rtry b i = true := by rw [← rtry_iff (by omega), ← candI_cand (by omega) (by omega) (by omega)]; simpa [Int.ofNat_inj] using qh29
   rw [runeL_at hok p0 (by omega) p2, ← candI_cand (by omega) (by omega) (by omega)]; rfl
  refine WC.skip (hK8 _ _ (WC.region (WL.r 3 hs28 [] rfl (WL.nil (tkN ?_)))))
  refine ⟨sbF rfl, (hs28.drop (by repeat (first | exact List.Sublist.refl _ | exact List.sublist_append_left _ _ | exact List.Sublist.trans (List.sublist_append_left _ _) (List.sublist_append_left _ _) | apply List.Sublist.cons | refine List.Sublist.trans ?_ (sR _)))), _, ?_, s + 1, rfl, ?_, ?_, ?_, ⟨rfl, trivial⟩⟩
  · omega
  · omega
  · omega
  · intro t h1 h2; rcases Nat.lt_or_ge t s with h3 | h3
    · exact p2 t h1 h3
    obtain rfl : t = s := by omega
    obtain rfl : i = t := by omega
    rw [← rtry_iff (by omega), ← candI_cand (by omega) (by omega) (by omega)]; simpa [Int.ofNat_inj] using qh29
 refine WC.exit (hK4 _ _ (WC.r1 hs5 [] rfl (WC.ret (retV2 rfl (resV.tmp rfl) (resV.tmp rfl) (⟨congrArg Ending.returned ?_, hs5.nil⟩)))))
 have hno : runeL b = none := runeL_none (fun t h1 h3 => by
     rcases Nat.lt_or_ge t s with h4 | h4
     · exact p2 t h1 h4
     · exact rtry_len (by simp at qh7; omega))
 rw [hno]; rfl
theorem k45_ (A_b : Option Addr) (n_b c_b : Nat) (b : List UInt8) (w : World) (f_b : SlF encB w A_b n_b b) (hc : n_b ≤ c_b) (hn : n_b ≤ 549755813888) :
    Calls Tryz.prog 229 #[.slice A_b n_b c_b] w fun e w' => e = .returned (.bool (runeBeg b)) ∧ St w [] [] w' := by
 have hbl := f_b.len
 have hb0 : (gat encB b (Int.toNat 0)).toNat < 2 ^ 8 := (gat encB b 0).toNat_lt
 refine enter 47 Tryz.func229 rfl Tryz.ntmps229 rfl rfl ?_
 have hs1 := St.init w
 refine WC.r1 hs1 [] rfl (WC.seq (fun K2 hK2 => WC.r1 hs1 [] rfl (WC.block (WC.r1 hs1 [] rfl ?_))))
 refine WC.cD rfl (fun qh3 => ?_) (fun qh3 => ?_)
 ·refine WC.sr (WL.r 1 hs1 [] rfl (WL.val rfl rfl rfl (Run.idx Tryz.runUnderlying44 Tryz.sizeOf5 rfl rfl rfl ?_ ?_ ?_) ?_))
  · exact SlF.some_ (SlF.st0 f_b hs1)
  · omega
  · omega
  refine WL.val rfl rfl rfl (Run.load Tryz.isAgg5 rfl rfl (SlF.one1 (SlF.st0 f_b hs1) ?_ rfl)) ?_
  · omega
  refine WL.r 1 hs1 [] rfl (WL.cl Tryz.call58 rfl (k0_ _ _ _ _) ?_)
  rintro _ whs4 ⟨rfl, hs4⟩
  replace hs4 := hs1.call0 hs4
  refine ⟨_, rfl, WL.r 1 hs4 [] rfl (WL.nil (WC.ret (ibR (tkR ?_))))⟩
  clear hK2
  refine rtv rfl rfl hs4 ?_
  obtain ⟨x, rfl⟩ : ∃ x, b = [x] := List.length_eq_one_iff.1 (by omega)
  rfl
 refine WC.r1 hs1 [] rfl (WC.cD rfl (fun qh5 => ?_) (fun qh5 => ?_))
 ·have htl := tlV_bnd (l := b.drop 1) (by rw [List.length_drop]; omega)
  refine WC.sr (WL.r 1 hs1 [] rfl (WL.val rfl rfl rfl (Run.sliceL (1) Tryz.runUnderlying44 Tryz.sizeOf5 rfl rfl rfl ?_ ?_) ?_))
  · first | rfl | (omega)
  · refine ⟨?_, ?_, ?_⟩ <;> (omega)
  refine WL.cl Tryz.call267 rfl (k42_ _ _ _ _ _ (SlF.cutL (1) (SlF.st0 f_b hs1) (by refine ⟨?_, ?_, ?_⟩ <;> (omega))) ?_) ?_
  · first | assumption | rfl | omega
  rintro _ whs6 ⟨rfl, hs6⟩
  replace hs6 := hs1.call0 hs6
  refine ⟨_, rfl, WL.r 5 hs6 [] rfl (WL.nil (WC.sr (WL.r 1 hs6 [] rfl (WL.val rfl rfl rfl (Run.idx Tryz.runUnderlying44 Tryz.sizeOf5 rfl rfl rfl ?_ ?_ ?_) ?_))))⟩
  · exact SlF.some_ (SlF.st0 f_b hs6)
  · omega
  · omega
  refine WL.val rfl rfl rfl (Run.load Tryz.isAgg5 rfl rfl (SlF.one1 (SlF.st0 f_b hs6) ?_ rfl)) ?_
  · omega
  refine WL.r 7 hs6 [] rfl (WL.nil (WC.sr (WL.r 2 hs6 [] rfl ?_)))
  apply WL.gA 4 Acts.nil hs6 rfl
  ·intro g7 J8
   have qg7 := g7
   try simp only [bf, within_iff, within_not] at qg7
   refine WL.runA tbk 1 (Acts.nil.cons (j := 1) rfl g7) hs6 [] rfl trivial (WL.val (wantT rfl g7) rfl rfl (Run.idx Tryz.runUnderlying44 Tryz.sizeOf5 rfl rfl rfl ?_ ?_ ?_) ?_)
   · exact SlF.some_ (SlF.st0 f_b hs6)
   · omega
   · omega
   refine WL.val (wantT rfl g7) rfl rfl (Run.load Tryz.isAgg5 rfl rfl (SlF.one1 (SlF.st0 f_b hs6) ?_ rfl)) ?_
   · omega
   refine WL.runA tbk 1 (Acts.nil.cons (j := 1) rfl g7) hs6 [] rfl trivial (WL.eA 4 Acts.nil J8 hs6 g7 rfl rfl)
  intro _ hs9
  refine WL.r 1 hs9 [] rfl (WL.pA tbk 2 Acts.nil hs9 [] rfl rfl rfl rfl (fun g_ => trivial) (WL.r 1 hs9 [] rfl ?_))
  apply WL.gA 2 Acts.nil hs9 rfl
  ·intro g10 J11
   have qg10 := g10
   try simp only [bf, within_iff, within_not] at qg10
   refine WL.runA tbk 1 (Acts.nil.cons (j := 11) rfl g10) hs9 [] rfl trivial (WL.call (wantT rfl g10) rfl rfl (Run.call Tryz.call268 rfl rfl rfl) (k2_ _ _) ?_)
   rintro _ whs12 ⟨rfl, hs12⟩
   replace hs12 := hs9.call0 hs12
   refine ⟨_, rfl, WL.eA 2 Acts.nil J11 hs12 g10 rfl rfl⟩
  intro _ hs13
  refine WL.r 1 hs13 [] rfl (WL.nil (WC.ret (ibR (tkR ?_))))
  clear hK2
  refine retV1 rfl (resV.tmp rfl) (⟨congrArg Ending.returned (congrArg Value.bool (beg_two (by omega))), hs13.nil⟩)
 refine WC.skip (hK2 _ _ (WC.r1 hs1 [] rfl (WC.ret (rtv rfl rfl hs1 ?_))))
 have h9 : ¬ (b.length = 1 ∨ b.length = 2) := by omega
 rw [beg_len h9]
theorem k46_ (A_b : Option Addr) (n_b c_b : Nat) (b : List UInt8) (w : World) (f_b : SlF encB w A_b n_b b) (hc : n_b ≤ c_b) (hn : n_b ≤ 549755813888) :
    Calls Tryz.prog 218 #[.slice A_b n_b c_b] w fun e w' => e = .returned (.bool (runeBeg b)) ∧ St w [] [] w' := by
 have hbl := f_b.len
 refine enter 53 Tryz.func218 rfl Tryz.ntmps218 rfl rfl ?_
 have hs1 := St.init w
 refine WC.r1 hs1 [] rfl (WC.seq (fun K2 hK2 => WC.sr (WL.r 4 hs1 [] rfl (WL.pO tbk 3 Acts.nil hs1 [] rfl rfl rfl rfl (fun g_ => trivial) (WL.nil ?_)))))
 refine WC.cq rfl (fun h3 qh3 => ?_) (fun h3 qh3 => ?_)
 ·refine WC.r1 hs1 [] rfl (WC.ret (tkR ?_))
  clear hK2
  refine rtv rfl rfl hs1 ?_
  have h9 : ¬ (b.length = 1 ∨ b.length = 2) := by simp at qh3; omega
  rw [beg_len h9]
 have hl : b.length = 1 ∨ b.length = 2 := by simp at qh3; omega
 refine WC.skip (hK2 _ _ (WC.seq (fun K4 hK4 => WC.r1 hs1 [] rfl (WC.block ?_))))
 refine WC.lS [0, 17] rfl hs1 (fun k_ f w' => ∃ (x : Nat), k_ = 192 - x ∧ (128 ≤ x) ∧ (x ≤ 192) ∧ (∀ y : Nat, 128 ≤ y → y < x → begHit b (ub y) = false) ∧ Sub [(3, .int .i64 x)] f) ((fun (x : Nat) => 192 - x) (128)) ?_ ?_
 ·refine ⟨128, rfl, ?_, ?_, ?_, ⟨rfl, trivial⟩⟩
  · omega
  · omega
  · intro y h1 h2; omega
 clear hs1
 rintro _ f w ⟨x, rfl, p0, p1, p2, hG⟩ hF hs5
 refine WC.sub _ (hG.app hF) ?_
 clear hG hF
 refine WC.seq (fun K6 hK6 => WC.r1 hs5 [] rfl ?_)
 refine WC.cD rfl (fun qh7 => ?_) (fun qh7 => ?_)
 ·refine WC.skip (hK6 _ _ (WC.seq (fun K8 hK8 => WC.block (WC.sr (WL.buildF (F := encB) hs5 ([]) Tryz.runUnderlying44 Tryz.sizeOf5 Tryz.zeroValue5 rfl rfl rfl rfl rfl rfl rfl rfl rfl rfl rfl rfl (fun A12 c13 L9 whs10 hs10 ho11 => WL.r 1 hs10 [] rfl ?_))))))
  refine WL.appendG hs10 ho11 (SlF.src (SlF.st0 f_b hs10) Tryz.underlying44) Tryz.underlying44 inf5 rfl rfl rfl rfl rfl rfl rfl rfl rfl rfl ?_ (fun A17 c18 L14 whs15 hs15 ho16 => ?_)
  · simp; omega
  refine WL.r 2 hs15 [] rfl (WL.buildSlice hs15 Tryz.runUnderlying44 Tryz.sizeOf5 Tryz.zeroValue5 rfl rfl rfl rfl rfl rfl rfl rfl rfl rfl (fun b19 whs20 hs20 => ?_))
  refine WL.appendG (hs20.fr L14) ho16 (srcB1 Tryz.underlying44 (hs20.own _ (nthL_mem (i := 0) rfl)).1) Tryz.underlying44 inf5 rfl rfl rfl rfl rfl rfl rfl rfl rfl rfl ?_ (fun A24 c25 L21 whs22 hs22 ho23 => ?_)
  · simp; omega
  replace hs22 := St.back [_] hs22
  refine WL.r 1 hs22 [] rfl (WL.nil (WC.sr (WL.r 1 hs22 [] rfl (WL.cl Tryz.call266 rfl (k44_ _ _ _ _ _ (SlF.ofOwn ho23 (hs22.ow L21)) (OwnF.cap ho23) ?_) ?_))))
  · first | assumption | rfl | omega | (simp; omega)
  rintro _ whs26 ⟨rfl, hs26⟩
  replace hs26 := hs22.call0 hs26
  refine ⟨_, rfl, WL.r 5 hs26 [] rfl (WL.nil (WC.seq (fun K27 hK27 => WC.r1 hs26 [] rfl ?_)))⟩
  refine WC.cD rfl (fun qh28 => ?_) (fun qh28 => ?_)
  ·refine WC.r1 hs26 [] rfl (WC.ret (tkR (ibR (tkR (tkR (ibR (tkR ?_)))))))
   clear hK27 hK8 hK4
   refine rtv rfl rfl hs26 ?_
   rw [beg_yes hl p0 (by omega) (by unfold begHit; rw [decide_eq_true (by simpa [← Int.ofNat_inj] using qh28)]; rfl)]
  have e1 : ¬ rvS (runeL (b ++ [ub x])) = b.length + 1 := by simpa [← Int.ofNat_inj] using qh28
  refine WC.skip (hK27 _ _ (WC.r1 hs26 [] rfl ?_))
  refine WC.cD rfl (fun qh29 => ?_) (fun qh29 => ?_)
  ·refine WC.sr (WL.buildF (F := encB) hs26 ([]) Tryz.runUnderlying44 Tryz.sizeOf5 Tryz.zeroValue5 rfl rfl rfl rfl rfl rfl rfl rfl rfl rfl rfl rfl (fun A33 c34 L30 whs31 hs31 ho32 => ?_))
   replace hs31 := St.back [_] hs31
   refine WL.r 1 hs31 [] rfl (WL.appendG (hs31.fr L30) ho32 (SlF.src (SlF.ofOwn ho23 (hs31.ow L21)) Tryz.underlying44) Tryz.underlying44 inf5 rfl rfl rfl rfl rfl rfl rfl rfl rfl rfl ?_ (fun A38 c39 L35 whs36 hs36 ho37 => ?_))
   · simp; omega
   replace hs36 := St.back [_] hs36
   refine WL.buildSlice hs36 Tryz.runUnderlying44 Tryz.sizeOf5 Tryz.zeroValue5 rfl rfl rfl rfl rfl rfl rfl rfl rfl rfl (fun b40 whs41 hs41 => ?_)
   refine WL.appendG (hs41.fr L35) ho37 (srcF (F := encB) (ys := [129]) Tryz.underlying44 rfl rfl (hs41.own _ (nthL_mem (i := 0) rfl)).1) Tryz.underlying44 inf5 rfl rfl rfl rfl rfl rfl rfl rfl rfl rfl ?_ (fun A45 c46 L42 whs43 hs43 ho44 => ?_)
   · simp; omega
   replace hs43 := St.back [_, _] hs43
   refine WL.r 1 hs43 [] rfl (WL.nil (WC.sr (WL.r 1 hs43 [] rfl (WL.cl Tryz.call266 rfl (k44_ _ _ _ _ _ (SlF.ofOwn ho44 (hs43.ow L42)) (OwnF.cap ho44) ?_) ?_))))
   · first | assumption | rfl | omega | (simp; omega)
   rintro _ whs47 ⟨rfl, hs47⟩
   replace hs47 := hs43.call0 hs47
   refine ⟨_, rfl, WL.r 5 hs47 [] rfl (WL.nil (WC.r1 hs47 [] rfl (WC.cD rfl (fun qh48 => ?_) (fun qh48 => ?_))))⟩
   ·refine WC.r1 hs47 [] rfl (WC.ret (ibR (tkR (tkR (ibR (tkR ?_))))))
    clear hK8 hK4
    refine rtv rfl rfl hs47 ?_
    rw [beg_yes hl p0 (by omega) (by unfold begHit; rw [decide_eq_true (show b.length = 1 by omega), decide_eq_true (show rvS (runeL (b ++ [ub x, 129])) = 3 by simp at qh48; omega)]; simp)]
   have e2 : b.length = 1 → ¬ rvS (runeL (b ++ [ub x, 129])) = 3 := fun _ => by simp at qh48; omega
   refine WC.skip (hK8 _ _ (WC.region (WL.r 3 hs47 [] rfl (WL.nil (tkN ?_)))))
   refine ⟨sbF rfl, (hs47.drop (by repeat (first | exact List.Sublist.refl _ | exact List.sublist_append_left _ _ | exact List.Sublist.trans (List.sublist_append_left _ _) (List.sublist_append_left _ _) | apply List.Sublist.cons | refine List.Sublist.trans ?_ (sR _)))), _, ?_, x + 1, rfl, ?_, ?_, ?_, ⟨rfl, trivial⟩⟩
   · omega
   · omega
   · omega
   · intro y h1 h2; rcases Nat.lt_or_ge y x with h3 | h3
     · exact p2 y h1 h3
     obtain rfl : y = x := by omega
     unfold begHit; rw [decide_eq_false e1]; simp only [Bool.false_or, Bool.and_eq_false_iff, decide_eq_false_iff_not]; by_cases h9 : b.length = 1
     · exact .inr (e2 h9)
     · exact .inl h9
  have e2 : b.length = 1 → ¬ rvS (runeL (b ++ [ub x, 129])) = 3 := fun h_ => absurd h_ (by omega)
  refine WC.skip (hK8 _ _ (WC.region (WL.r 3 hs26 [] rfl (WL.nil (tkN ?_)))))
  refine ⟨sbF rfl, (hs26.drop (by repeat (first | exact List.Sublist.refl _ | exact List.sublist_append_left _ _ | exact List.Sublist.trans (List.sublist_append_left _ _) (List.sublist_append_left _ _) | apply List.Sublist.cons | refine List.Sublist.trans ?_ (sR _)))), _, ?_, x + 1, rfl, ?_, ?_, ?_, ⟨rfl, trivial⟩⟩
  · omega
  · omega
  · omega
  · intro y h1 h2; rcases Nat.lt_or_ge y x with h3 | h3
    · exact p2 y h1 h3
    obtain rfl : y = x := by omega
    unfold begHit; rw [decide_eq_false e1]; simp only [Bool.false_or, Bool.and_eq_false_iff, decide_eq_false_iff_not]; by_cases h9 : b.length = 1
    · exact .inr (e2 h9)
    · exact .inl h9
 refine WC.exit (hK4 _ _ (WC.r1 hs5 [] rfl (WC.ret (rtv rfl rfl hs5 ?_))))
 rw [beg_no hl (fun y h1 h2 => p2 y h1 (by omega))]
theorem k47_ (n : Int) (w : World) :
    Calls Tryz.prog 270 #[i64 n] w fun e w' => e = .returned (.bool (!within n 0 9999)) ∧ St w [] [] w' := by
 refine enter 6 Tryz.func270 rfl Tryz.ntmps270 rfl rfl ?_
 have hs1 := St.init w
 refine WC.r1 hs1 [] rfl (WC.sr (WL.r 1 hs1 [] rfl (WL.cl Tryz.call58 rfl (k0_ _ _ _ _) ?_)))
 rintro _ whs2 ⟨rfl, hs2⟩
 replace hs2 := hs1.call0 hs2
 refine ⟨_, rfl, WL.r 2 hs2 [] rfl (WL.nil (WC.ret (rtv rfl rfl hs2 ?_)))⟩
 rfl
theorem k48_ (A_s : Option Addr) (n_s c_s : Nat) (s : List Int) (w : World) (f_s : SlF encI w A_s n_s s) (hn : n_s ≤ 1099511627776) :
    Calls Tryz.prog 291 #[.slice A_s n_s c_s, .func (.func 270) #[] #[]] w fun e w' => e = .returned (.int .i64 (findI (fun n => !within n 0 9999) s)) ∧ St w [] [] w' := by
 refine enter 19 Tryz.func291 rfl Tryz.ntmps291 rfl rfl ?_
 have hs1 := St.init w
 refine WC.r1 hs1 [] rfl (WC.seq (fun K2 hK2 => WC.r1 hs1 [] rfl (WC.block ?_)))
 refine WC.lS [0, 1, 7] rfl hs1 (fun k_ f w' => ∃ (i : Nat), k_ = n_s - i ∧ (i ≤ n_s) ∧ (∀ j, j < i → (fun n => !within n 0 9999) (gat encI s j) = false) ∧ Sub [(8, .int .i64 i)] f) ((fun (i : Nat) => n_s - i) (0)) ?_ ?_
 ·refine ⟨0, rfl, ?_, ?_, ⟨rfl, trivial⟩⟩
  · exact Nat.zero_le _
  · exact fun j hj => absurd hj (by omega)
 clear hs1
 rintro _ f w ⟨i, rfl, p0, p1, hG⟩ hF hs3
 refine WC.sub _ (hG.app hF) ?_
 clear hG hF
 refine WC.r1 hs3 [] rfl (WC.seq (fun K4 hK4 => ?_))
 refine WC.cond rfl (fun h5 => ?_) (fun h5 => ?_)
 ·have qh5 := h5
  try simp only [decide_eq_true_eq, decide_eq_false_iff_not] at qh5
  refine WC.skip (hK4 _ _ (WC.seq (fun K6 hK6 => WC.block (WC.r1 hs3 [] rfl (WC.sr (WL.r 3 hs3 [] rfl ?_))))))
  refine WL.val rfl rfl rfl (Run.idxN Tryz.runUnderlying60 Tryz.sizeOf3 rfl rfl rfl ?_ ?_ ?_) ?_
  · exact SlF.some_ (SlF.st0 f_s hs3)
  · omega
  · omega
  refine WL.val rfl rfl rfl (Run.load Tryz.isAgg3 rfl rfl (SlF.one1 (SlF.st0 f_s hs3) ?_ rfl)) ?_
  · omega
  refine WL.cl Tryz.call270 rfl (k47_ _ _) ?_
  rintro _ whs7 ⟨rfl, hs7⟩
  replace hs7 := hs3.call0 hs7
  refine ⟨_, rfl, WL.nil (WC.cond rfl (fun h8 => ?_) (fun h8 => ?_))⟩
  ·have qh8 := h8
   try simp only [decide_eq_true_eq, decide_eq_false_iff_not] at qh8
   refine WC.r1 hs7 [] rfl (WC.ret (ibR (tkR (tkR (ibR (tkR ?_))))))
   clear hK6 hK2
   refine rtv rfl rfl hs7 ?_
   rw [findI_some (F := encI) (by rw [f_s.len]; omega) p1 h8]
  have qh8 := h8
  try simp only [decide_eq_true_eq, decide_eq_false_iff_not] at qh8
  refine WC.skip (hK6 _ _ (WC.region (WL.r 2 hs7 [] rfl (WL.nil (tkN ?_)))))
  refine ⟨sbF rfl, hs7, _, ?_, i + 1, rfl, ?_, ?_, ⟨rfl, trivial⟩⟩
  · omega
  · omega
  · intro j hj; rcases Nat.lt_or_ge j i with h_ | h_
    · exact p1 j h_
    · obtain rfl : j = i := by omega
      exact h8
 have qh5 := h5
 try simp only [decide_eq_true_eq, decide_eq_false_iff_not] at qh5
 refine WC.exit (hK2 _ _ (WC.r1 hs3 [] rfl (WC.ret (rtv rfl rfl hs3 ?_))))
 rw [findI_none (F := encI) (fun j hj => p1 j (by rw [f_s.len] at hj; omega))]
theorem k49_ (A_s : Option Addr) (n_s c_s : Nat) (s : List Int) (w : World) (f_s : SlF encI w A_s n_s s) (hn : n_s ≤ 549755813888) :
    Calls Tryz.prog 269 #[.slice A_s n_s c_s, .func (.func 270) #[] #[]] w fun e w' => e = .returned (.bool (decide (0 ≤ findI (fun n => !within n 0 9999) s))) ∧ St w [] [] w' := by
 refine enter 9 Tryz.func269 rfl Tryz.ntmps269 rfl rfl ?_
 have hs1 := St.init w
 refine WC.r1 hs1 [] rfl (WC.sr (WL.r 2 hs1 [] rfl (WL.cl Tryz.call291 rfl (k48_ _ _ _ _ _ (SlF.st0 f_s hs1) ?_) ?_)))
 · first | assumption | rfl | omega
 rintro _ whs2 ⟨rfl, hs2⟩
 replace hs2 := hs1.call0 hs2
 refine ⟨_, rfl, WL.r 2 hs2 [] rfl (WL.nil (WC.ret (rtv rfl rfl hs2 ?_)))⟩
 rfl
theorem k50_ (A_l : Option Addr) (n_l c_l : Nat) (l : List Int) (w : World) (f_l : SlF encI w A_l n_l l) (hn : n_l ≤ 549755813888) :
    Calls Tryz.prog 230 #[.slice A_l n_l c_l] w fun e w' => e = .returned (.bool (areArgs l)) ∧ St w [] [] w' := by
 refine enter 11 Tryz.func230 rfl Tryz.ntmps230 rfl rfl ?_
 have hs1 := St.init w
 refine WC.r1 hs1 [] rfl (WC.sr (WL.r 4 hs1 [] rfl ?_))
 apply WL.gA 3 Acts.nil hs1 rfl
 ·intro g2 J3
  have qg2 := g2
  try simp only [bf, within_iff, within_not] at qg2
  refine WL.runA tbk 1 (Acts.nil.cons (j := 3) rfl g2) hs1 [] rfl trivial (WL.call (wantT rfl g2) rfl rfl (Run.call Tryz.call269 rfl rfl rfl) (k49_ _ _ _ _ _ (SlF.st0 f_l hs1) ?_) ?_)
  · first | assumption | rfl | omega
  rintro _ whs4 ⟨rfl, hs4⟩
  replace hs4 := hs1.call0 hs4
  refine ⟨_, rfl, WL.runA tbk 1 (Acts.nil.cons (j := 3) rfl g2) hs4 [] rfl trivial (WL.eA 3 Acts.nil J3 hs4 g2 rfl rfl)⟩
 intro _ hs5
 refine WL.r 1 hs5 [] rfl (WL.nil (WC.ret (rtv rfl rfl hs5 ?_)))
 rw [all_find, ← f_l.len]; unfold areArgs; rw [show decide ((l.length : Int) ≤ 8) = decide (l.length ≤ 8) from by rw [decide_eq_decide]; omega]
theorem k51_ (n : Int) (w : World) :
    Calls Tryz.prog 217 #[i64 n] w fun e w' => e = .returned (.bool (decide (n = 2) || decide (n = 3))) ∧ St w [] [] w' := by
 refine enter 9 Tryz.func217 rfl Tryz.ntmps217 rfl rfl ?_
 have hs1 := St.init w
 refine WC.r1 hs1 [] rfl (WC.sr (WL.r 3 hs1 [] rfl (WL.pO tbk 2 Acts.nil hs1 [] rfl rfl rfl rfl (fun g_ => trivial) (WL.r 1 hs1 [] rfl (WL.nil (WC.ret (retV1 rfl (resV.tmp rfl) ?_)))))))
 refine ⟨congrArg Ending.returned ?_, hs1.nil⟩
 rfl
theorem k52_ (p : VpR) (w : World) (f_p : okVpR 549755813888 w p) :
    Calls Tryz.prog 194 #[.agg #[i64 p.State, .bool p.Mark, .slice p.Args.A p.Args.n p.Args.c, .slice p.Part.A p.Part.n p.Part.c]] w fun e w' => e = .returned (.bool (vpOk p.dat)) ∧ St w [] [] w' := by
 have nb_p_Args := f_p.Args_n
 have nl_p_Args := f_p.Args.len
 have nb_p_Part := f_p.Part_n
 have nl_p_Part := f_p.Part.len
 have hal := f_p.Args.len
 have hpl := f_p.Part.len
 have e1 : decide ((p.Args.n : Int) = 0) = decide (p.dat.Args.length = 0) := by rw [decide_eq_decide]; show _ ↔ p.Args.xs.length = 0; omega
 have e2 : decide ((p.Part.n : Int) = 0) = decide (p.dat.Part.length = 0) := by rw [decide_eq_decide]; show _ ↔ p.Part.xs.length = 0; omega
 refine enter 56 Tryz.func194 rfl Tryz.ntmps194 rfl rfl ?_
 have hs1 := St.init w
 refine WC.sr (WL.bx hs1 rfl (fun b2 _ hs3 => WL.r 1 hs3 [] rfl (WL.nil (WC.seq (fun K4 hK4 => WC.r1 hs3 [0] rfl (WC.block (WC.r1 hs3 [] rfl ?_)))))))
 refine WC.cD rfl (fun qh5 => ?_) (fun qh5 => ?_)
 ·refine WC.sr (WL.r 4 hs3 [0] rfl (WL.pA tbk 4 Acts.nil hs3 [0] rfl rfl rfl rfl (fun g_ => ⟨rfl, trivial⟩) (WL.r 1 hs3 [] rfl ?_)))
  apply WL.gA 9 Acts.nil hs3 rfl
  ·intro g6 J7
   have qg6 := g6
   try simp only [bf, within_iff, within_not] at qg6
   refine WL.runA tbk 5 (Acts.nil.cons (j := 9) rfl g6) hs3 [0] rfl ⟨rfl, trivial⟩ ?_
   apply WL.gO 3 (Acts.nil.cons (j := 9) rfl g6) hs3 rfl
   ·intro g8 J9
    have qg8 := g8
    try simp only [bf, within_iff, within_not] at qg8
    refine WL.runA tbk 2 (Acts.nil.cons (j := 14) rfl g8) hs3 [0] rfl ⟨rfl, trivial⟩ (WL.call (wantF rfl g8) rfl rfl (Run.call Tryz.call229 rfl rfl rfl) (k45_ _ _ _ _ _ (SlF.st0 f_p.Part hs3) f_p.Part_c ?_) ?_)
    · first | assumption | rfl | omega
    rintro _ whs10 ⟨rfl, hs10⟩
    replace hs10 := hs3.call0 hs10
    refine ⟨_, rfl, WL.eO 3 (Acts.nil.cons (j := 9) rfl g6) J9 hs10 g8 rfl rfl⟩
   intro _ hs11
   exact WL.eA 6 Acts.nil J7 hs11 g6 rfl rfl
  intro _ hs12
  refine WL.r 1 hs12 [] rfl (WL.nil (WC.ret (ibR (tkR ?_))))
  clear hK4
  refine rtv rfl rfl hs12 ?_
  rw [e1, e2]; unfold vpOk; rw [if_pos (by show p.State = 0; omega)]; rfl
 refine WC.r1 hs3 [] rfl (WC.cD rfl (fun qh13 => ?_) (fun qh13 => ?_))
 ·refine WC.sr (WL.r 4 hs3 [0] rfl (WL.pA tbk 4 Acts.nil hs3 [0] rfl rfl rfl rfl (fun g_ => ⟨rfl, trivial⟩) (WL.r 1 hs3 [] rfl (WL.pA tbk 4 Acts.nil hs3 [0] rfl rfl rfl rfl (fun g_ => ⟨rfl, trivial⟩) (WL.r 1 hs3 [] rfl (WL.nil (WC.ret ?_)))))))
  refine ibR (tkR ?_)
  clear hK4
  refine rtv rfl rfl hs3 ?_
  rw [e1, e2]; unfold vpOk; rw [if_neg (by show ¬ p.State = 0; omega), if_pos (by show p.State = 1; omega)]; rfl
 refine WC.seq (fun K14 hK14 => WC.r1 hs3 [] rfl ?_)
 refine WC.cD rfl (fun qh15 => ?_) (fun qh15 => ?_)
 ·refine WC.skip (hK14 _ _ (WC.condT rfl (decide_eq_true qh15) (WC.sr (WL.r 2 hs3 [0] rfl ?_))))
  refine WL.cl Tryz.call230 rfl (k50_ _ _ _ _ _ (SlF.st0 f_p.Args hs3) ?_) ?_
  · first | assumption | rfl | omega
  rintro _ whs17 ⟨rfl, hs17⟩
  replace hs17 := hs3.call0 hs17
  refine ⟨_, rfl, WL.r 1 hs17 [] rfl (WL.pA tbk 4 Acts.nil hs17 [0] rfl rfl rfl rfl (fun g_ => ⟨rfl, trivial⟩) (WL.r 1 hs17 [] rfl (WL.nil (WC.ret (ibR (tkR ?_))))))⟩
  clear hK4
  refine rtv rfl rfl hs17 ?_
  rw [vpOk_csi (.inl (by show p.State = 2; omega)), e2]; rfl
 refine WC.region (WL.r 2 hs3 [] rfl (WL.nil (hK14 _ _ ?_)))
 refine WC.cD rfl (fun qh18 => ?_) (fun qh18 => ?_)
 ·refine WC.sr (WL.r 2 hs3 [0] rfl (WL.cl Tryz.call230 rfl (k50_ _ _ _ _ _ (SlF.st0 f_p.Args hs3) ?_) ?_))
  · first | assumption | rfl | omega
  rintro _ whs19 ⟨rfl, hs19⟩
  replace hs19 := hs3.call0 hs19
  refine ⟨_, rfl, WL.r 1 hs19 [] rfl (WL.pA tbk 4 Acts.nil hs19 [0] rfl rfl rfl rfl (fun g_ => ⟨rfl, trivial⟩) (WL.r 1 hs19 [] rfl (WL.nil (WC.ret (ibR (tkR ?_))))))⟩
  clear hK4
  refine rtv rfl rfl hs19 ?_
  rw [vpOk_csi (.inr (by show p.State = 3; omega)), e2]; rfl
 refine WC.skip (hK4 _ _ (WC.r1 hs3 [] rfl (WC.ret (rtv rfl rfl hs3 ?_))))
 unfold vpOk; rw [if_neg (by show ¬ p.State = 0; omega), if_neg (by show ¬ p.State = 1; omega), if_neg (by show ¬ (p.State = 2 ∨ p.State = 3); omega)]
theorem k53_ (p : VpR) (w : World) (f_p : okVpR 549755813888 w p) :
    Calls Tryz.prog 182 #[.agg #[i64 p.State, .bool p.Mark, .slice p.Args.A p.Args.n p.Args.c, .slice p.Part.A p.Part.n p.Part.c]] w fun e w' => e = .returned (.bool (vpOk p.dat)) ∧ St w [] [] w' := by
 have nb_p_Args := f_p.Args_n
 have nl_p_Args := f_p.Args.len
 have nb_p_Part := f_p.Part_n
 have nl_p_Part := f_p.Part.len
 have hal := f_p.Args.len
 have hpl := f_p.Part.len
 have e1 : decide ((p.Args.n : Int) = 0) = decide (p.dat.Args.length = 0) := by rw [decide_eq_decide]; show _ ↔ p.Args.xs.length = 0; omega
 have e2 : decide ((p.Part.n : Int) = 0) = decide (p.dat.Part.length = 0) := by rw [decide_eq_decide]; show _ ↔ p.Part.xs.length = 0; omega
 refine enter 63 Tryz.func182 rfl Tryz.ntmps182 rfl rfl ?_
 have hs1 := St.init w
 refine WC.sr (WL.bx hs1 rfl (fun b2 _ hs3 => WL.r 1 hs3 [] rfl (WL.nil (WC.seq (fun K4 hK4 => WC.sr (WL.r 4 hs3 [0] rfl (WL.pO tbk 3 Acts.nil hs3 [0] rfl rfl rfl rfl (fun g_ => ⟨rfl, trivial⟩) ?_)))))))
 refine WL.r 1 hs3 [] rfl (WL.pO tbk 4 Acts.nil hs3 [0] rfl rfl rfl rfl (fun g_ => ⟨rfl, trivial⟩) (WL.r 1 hs3 [] rfl ?_))
 apply WL.gO 14 Acts.nil hs3 rfl
 ·intro g5 J6
  have qg5 := g5
  try simp only [bf, within_iff, within_not] at qg5
  refine WL.runA tbk 2 (Acts.nil.cons (j := 14) rfl g5) hs3 [0] rfl ⟨rfl, trivial⟩ (WL.call (wantF rfl g5) rfl rfl (Run.call Tryz.call217 rfl rfl rfl) (k51_ _ _) ?_)
  rintro _ whs7 ⟨rfl, hs7⟩
  replace hs7 := hs3.call0 hs7
  refine ⟨_, rfl, WL.runA tbk 2 (Acts.nil.cons (j := 14) rfl g5) hs7 [] rfl trivial ?_⟩
  apply WL.gA 8 (Acts.nil.cons (j := 14) rfl g5) hs7 rfl
  ·intro g8 J9
   have qg8 := g8
   try simp only [bf, within_iff, within_not] at qg8
   refine WL.runA tbk 3 (Acts.nil.cons (j := 19) rfl g8) hs7 [0] rfl ⟨rfl, trivial⟩ (WL.pO tbk 4 (Acts.nil.cons (j := 19) rfl g8) hs7 [0] rfl rfl rfl rfl (fun g_ => ⟨rfl, trivial⟩) (WL.eA 4 (Acts.nil.cons (j := 14) rfl g5) J9 hs7 g8 rfl rfl))
  intro _ hs10
  exact WL.eO 6 Acts.nil J6 hs10 g5 rfl rfl
 intro _ hs11
 refine WL.nil (WC.cq rfl (fun h12 qh12 => ?_) (fun h12 qh12 => ?_))
 ·have hbad : vpBad p.dat = true := by unfold vpBad; rw [show p.dat.Args.length = p.Args.n from hal]; exact h12
  refine WC.r1 hs11 [] rfl (WC.ret (tkR ?_))
  clear hK4
  refine rtv rfl rfl hs11 ?_
  rw [vpOk_bad hbad]
 have hbad : vpBad p.dat = false := by unfold vpBad; rw [show p.dat.Args.length = p.Args.n from hal]; exact h12
 refine WC.skip (hK4 _ _ (WC.seq (fun K13 hK13 => WC.r1 hs11 [0] rfl (WC.block ?_))))
 refine WC.lS [1, 34, 36, 37] rfl hs11 (fun k_ f w' => ∃ (i : Nat), k_ = p.Args.n - i ∧ (i ≤ p.Args.n) ∧ (∀ j, j < i → within (gat encI p.Args.xs j) 0 9999 = true) ∧ Sub [(38, .int .i64 i)] f) ((fun (i : Nat) => p.Args.n - i) (0)) ?_ ?_
 ·refine ⟨0, rfl, ?_, ?_, ⟨rfl, trivial⟩⟩
  · exact Nat.zero_le _
  · exact fun j hj => absurd hj (by omega)
 clear hs11
 rintro _ f w ⟨i, rfl, p0, p1, hG⟩ hF hs14
 refine WC.sub _ (hG.app hF) ?_
 clear hG hF
 refine WC.r1 hs14 [] rfl (WC.seq (fun K15 hK15 => ?_))
 refine WC.cD rfl (fun qh16 => ?_) (fun qh16 => ?_)
 ·refine WC.skip (hK15 _ _ (WC.seq (fun K17 hK17 => WC.block (WC.sr ?_))))
  refine WL.val rfl rfl rfl (Run.idxN Tryz.runUnderlying60 Tryz.sizeOf3 rfl rfl rfl ?_ ?_ ?_) ?_
  · exact SlF.some_ (SlF.st0 f_p.Args hs14)
  · omega
  · omega
  refine WL.val rfl rfl rfl (Run.load Tryz.isAgg3 rfl rfl (SlF.one1 (SlF.st0 f_p.Args hs14) ?_ rfl)) ?_
  · omega
  refine WL.r 1 hs14 [] rfl (WL.nil (WC.sr (WL.r 3 hs14 [] rfl (WL.pO tbk 2 Acts.nil hs14 [] rfl rfl rfl rfl (fun g_ => trivial) (WL.nil (WC.cq rfl (fun h18 qh18 => ?_) (fun h18 qh18 => ?_)))))))
  ·refine WC.r1 hs14 [] rfl (WC.ret (ibR (tkR (tkR (ibR (tkR ?_))))))
   clear hK17 hK13
   refine rtv rfl rfl hs14 ?_
   rw [vpOk_arg (v := p.dat) (j := i) (by show i < p.Args.xs.length; omega) (by rw [← Bool.not_eq_true, within_iff]; show ¬ (0 ≤ gat encI p.Args.xs i ∧ gat encI p.Args.xs i ≤ 9999); simp at qh18; omega)]
  refine WC.skip (hK17 _ _ (WC.region (WL.r 2 hs14 [] rfl (WL.nil (tkN ?_)))))
  refine ⟨sbF rfl, hs14, _, ?_, i + 1, rfl, ?_, ?_, ⟨rfl, trivial⟩⟩
  · omega
  · omega
  · intro j hj; rcases Nat.lt_or_ge j i with h_ | h_
    · exact p1 j h_
    · obtain rfl : j = i := by omega
      rw [within_iff]; simp at qh18; omega
 refine WC.exit (hK13 _ _ (WC.sr (WL.r 5 hs14 [0] rfl ?_)))
 apply WL.gO 8 Acts.nil hs14 rfl
 ·intro g19 J20
  have qg19 := g19
  try simp only [bf, within_iff, within_not] at qg19
  refine WL.runA tbk 4 (Acts.nil.cons (j := 4) rfl g19) hs14 [0] rfl ⟨rfl, trivial⟩ ?_
  apply WL.gA 3 (Acts.nil.cons (j := 4) rfl g19) hs14 rfl
  ·intro g21 J22
   have qg21 := g21
   try simp only [bf, within_iff, within_not] at qg21
   refine WL.runA tbk 2 (Acts.nil.cons (j := 8) rfl g21) hs14 [0] rfl ⟨rfl, trivial⟩ (WL.call (wantT rfl g21) rfl rfl (Run.call Tryz.call218 rfl rfl rfl) (k46_ _ _ _ _ _ (SlF.st0 f_p.Part hs14) f_p.Part_c ?_) ?_)
   · first | assumption | rfl | omega
   rintro _ whs23 ⟨rfl, hs23⟩
   replace hs23 := hs14.call0 hs23
   refine ⟨_, rfl, WL.eA 3 (Acts.nil.cons (j := 4) rfl g19) J22 hs23 g21 rfl rfl⟩
  intro _ hs24
  exact WL.eO 5 Acts.nil J20 hs24 g19 rfl rfl
 intro _ hs25
 refine WL.r 1 hs25 [] rfl (WL.nil (WC.ret (rtv rfl rfl hs25 ?_)))
 rw [vpOk_end hbad (fun j hj => p1 j (by have : j < p.Args.xs.length := hj; omega)), e2]; rfl
theorem k54_ (w_ h_ : Int) (w : World) :
    Calls Tryz.prog 57 #[i64 w_, i64 h_] w fun e w' => e = .returned (.bool (isSize w_ h_)) ∧ St w [] [] w' := by
 refine enter 17 Tryz.func57 rfl Tryz.ntmps57 rfl rfl ?_
 have hs1 := St.init w
 refine WC.r1 hs1 [] rfl (WC.sr (WL.r 1 hs1 [] rfl (WL.cl Tryz.call58 rfl (k0_ _ _ _ _) ?_)))
 rintro _ whs2 ⟨rfl, hs2⟩
 replace hs2 := hs1.call0 hs2
 refine ⟨_, rfl, WL.r 1 hs2 [] rfl ?_⟩
 apply WL.gA 2 Acts.nil hs2 rfl
 ·intro g3 J4
  have qg3 := g3
  try simp only [bf, within_iff, within_not] at qg3
  refine WL.runA tbk 1 (Acts.nil.cons (j := 2) rfl g3) hs2 [] rfl trivial (WL.call (wantT rfl g3) rfl rfl (Run.call Tryz.call58 rfl rfl rfl) (k0_ _ _ _ _) ?_)
  rintro _ whs5 ⟨rfl, hs5⟩
  replace hs5 := hs2.call0 hs5
  refine ⟨_, rfl, WL.eA 2 Acts.nil J4 hs5 g3 rfl rfl⟩
 intro _ hs6
 refine WL.r 1 hs6 [] rfl ?_
 apply WL.gA 4 Acts.nil hs6 rfl
 ·intro g7 J8
  have qg7 := g7
  try simp only [bf, within_iff, within_not] at qg7
  refine WL.runA tbk 4 (Acts.nil.cons (j := 6) rfl g7) hs6 [] rfl ⟨?_, trivial⟩ ?_
  · (have h9 := mul_size (w := w_) (h := h_) (by omega) (by omega); constructor <;> omega)
  exact WL.eA 4 Acts.nil J8 hs6 g7 rfl rfl
 intro _ hs9
 refine WL.r 1 hs9 [] rfl (WL.nil (WC.ret (rtv rfl rfl hs9 ?_)))
 rfl
theorem k55_ (g : GridR) (w : World) (f_g : okGridR 549755813888 w g) :
    Calls Tryz.prog 231 #[.agg #[i64 g.W, i64 g.H, .slice g.Cells.A g.Cells.n g.Cells.c]] w fun e w' => e = .returned (.bool (gridOk g.dat)) ∧ St w [] [] w' := by
 have nb_g_Cells := f_g.Cells_n
 have nl_g_Cells := f_g.Cells.len
 refine enter 24 Tryz.func231 rfl Tryz.ntmps231 rfl rfl ?_
 have hs1 := St.init w
 refine WC.sr (WL.bx hs1 rfl (fun b2 _ hs3 => WL.r 1 hs3 [] rfl (WL.nil (WC.sr (WL.r 4 hs3 [0, 0] rfl (WL.cl Tryz.call57 rfl (k54_ _ _ _) ?_))))))
 rintro _ whs4 ⟨rfl, hs4⟩
 replace hs4 := hs3.call0 hs4
 refine ⟨_, rfl, WL.r 1 hs4 [] rfl ?_⟩
 apply WL.gA 9 Acts.nil hs4 rfl
 ·intro g5 J6
  have qg5 := g5
  try simp only [bf, within_iff, within_not] at qg5
  refine WL.runA tbk 9 (Acts.nil.cons (j := 5) rfl g5) hs4 [0, 0, 0] rfl ⟨?_, rfl, rfl, rfl, trivial⟩ ?_
  · (obtain ⟨_, _, h9, h10⟩ := isSize_bnd (w := g.W) (h := g.H) (by assumption); constructor <;> omega)
  exact WL.eA 9 Acts.nil J6 hs4 g5 rfl rfl
 intro _ hs7
 refine WL.r 1 hs7 [] rfl ?_
 apply WL.gA 3 Acts.nil hs7 rfl
 ·intro g8 J9
  have qg8 := g8
  try simp only [bf, within_iff, within_not] at qg8
  refine WL.runA tbk 2 (Acts.nil.cons (j := 16) rfl g8) hs7 [0] rfl ⟨rfl, trivial⟩ (WL.call (wantT rfl g8) rfl rfl (Run.call Tryz.call271 rfl rfl rfl) (k41_ _ _ _ _ _ (SlF.st0 f_g.Cells hs7) ?_) ?_)
  · first | assumption | rfl | omega
  rintro _ whs10 ⟨rfl, hs10⟩
  replace hs10 := hs7.call0 hs10
  refine ⟨_, rfl, WL.eA 3 Acts.nil J9 hs10 g8 rfl rfl⟩
 intro _ hs11
 refine WL.r 1 hs11 [] rfl (WL.nil (WC.ret (rtv rfl rfl hs11 ?_)))
 rw [← nl_g_Cells]; rfl
theorem k56_ (g : GridR) (x : Int) (y : Int) (w : World) (f_g : okGridR 549755813888 w g) (hw : 0 ≤ g.W ∧ g.W ≤ 120) (hh : 0 ≤ g.H ∧ g.H ≤ 120) :
    Calls Tryz.prog 232 #[.agg #[i64 g.W, i64 g.H, .slice g.Cells.A g.Cells.n g.Cells.c], i64 x, i64 y] w fun e w' => e = .returned (.bool (gridHas g.dat x y)) ∧ St w [] [] w' := by
 have nb_g_Cells := f_g.Cells_n
 have nl_g_Cells := f_g.Cells.len
 refine enter 19 Tryz.func232 rfl Tryz.ntmps232 rfl rfl ?_
 have hs1 := St.init w
 refine WC.sr (WL.bx hs1 rfl (fun b2 _ hs3 => WL.r 1 hs3 [] rfl (WL.nil (WC.sr (WL.r 4 hs3 [0] rfl (WL.cl Tryz.call58 rfl (k0_ _ _ _ _) ?_))))))
 rintro _ whs4 ⟨rfl, hs4⟩
 replace hs4 := hs3.call0 hs4
 refine ⟨_, rfl, WL.r 1 hs4 [] rfl ?_⟩
 apply WL.gA 5 Acts.nil hs4 rfl
 ·intro g5 J6
  have qg5 := g5
  try simp only [bf, within_iff, within_not] at qg5
  refine WL.runA tbk 4 (Acts.nil.cons (j := 5) rfl g5) hs4 [0] rfl ⟨by omega, rfl, trivial⟩ (WL.call (wantT rfl g5) rfl rfl (Run.call Tryz.call58 rfl rfl rfl) (k0_ _ _ _ _) ?_)
  rintro _ whs7 ⟨rfl, hs7⟩
  replace hs7 := hs4.call0 hs7
  refine ⟨_, rfl, WL.eA 5 Acts.nil J6 hs7 g5 rfl rfl⟩
 intro _ hs8
 refine WL.r 1 hs8 [] rfl (WL.nil (WC.ret (rtv rfl rfl hs8 ?_)))
 rfl
theorem k57_ (A_l : Option Addr) (n_l c_l : Nat) (l : List Int) (lo : Int) (hi : Int) (w : World) (f_l : SlF encI w A_l n_l l) (hn : n_l ≤ 549755813888) :
    Calls Tryz.prog 234 #[.slice A_l n_l c_l, i64 lo, i64 hi] w fun e w' => e = .returned (.bool (isAsc l lo hi)) ∧ St w [] [] w' := by
 refine enter 35 Tryz.func234 rfl Tryz.ntmps234 rfl rfl ?_
 have hs1 := St.init w
 refine WC.r1 hs1 [] rfl (WC.seq (fun K2 hK2 => WC.r1 hs1 [] rfl (WC.block ?_)))
 refine WC.lS [0, 1, 2, 9, 10] rfl hs1 (fun k_ f w' => ∃ (i : Nat), k_ = n_l - i ∧ (i ≤ n_l) ∧ (∀ j, j < i → ascAt l lo hi j = true) ∧ Sub [(11, .int .i64 i)] f) ((fun (i : Nat) => n_l - i) (0)) ?_ ?_
 ·refine ⟨0, rfl, ?_, ?_, ⟨rfl, trivial⟩⟩
  · exact Nat.zero_le _
  · exact fun j hj => absurd hj (by omega)
 clear hs1
 rintro _ f w ⟨i, rfl, p0, p1, hG⟩ hF hs3
 refine WC.sub _ (hG.app hF) ?_
 clear hG hF
 refine WC.r1 hs3 [] rfl (WC.seq (fun K4 hK4 => ?_))
 refine WC.cq rfl (fun h5 qh5 => ?_) (fun h5 qh5 => ?_)
 ·refine WC.skip (hK4 _ _ (WC.seq (fun K6 hK6 => WC.block (WC.sr (WL.r 1 hs3 [] rfl ?_)))))
  refine WL.val rfl rfl rfl (Run.idxN Tryz.runUnderlying60 Tryz.sizeOf3 rfl rfl rfl ?_ ?_ ?_) ?_
  · exact SlF.some_ (SlF.st0 f_l hs3)
  · omega
  · omega
  refine WL.val rfl rfl rfl (Run.load Tryz.isAgg3 rfl rfl (SlF.one1 (SlF.st0 f_l hs3) ?_ rfl)) ?_
  · omega
  refine WL.r 2 hs3 [] rfl (WL.nil (WC.sr (WL.r 3 hs3 [] rfl (WL.cl Tryz.call58 rfl (k0_ _ _ _ _) ?_))))
  rintro _ whs7 ⟨rfl, hs7⟩
  replace hs7 := hs3.call0 hs7
  refine ⟨_, rfl, WL.r 2 hs7 [] rfl ?_⟩
  apply WL.gO 11 Acts.nil hs7 rfl
  ·intro g8 J9
   have qg8 := g8
   try simp only [bf, within_iff, within_not] at qg8
   refine WL.runA tbk 3 (Acts.nil.cons (j := 5) rfl g8) hs7 [] rfl trivial ?_
   apply WL.gA 7 (Acts.nil.cons (j := 5) rfl g8) hs7 rfl
   ·intro g10 J11
    have qg10 := g10
    try simp only [bf, within_iff, within_not] at qg10
    refine WL.runA tbk 3 (Acts.nil.cons (j := 8) rfl g10) hs7 [] rfl ⟨by omega, trivial⟩ (WL.val (wantT rfl g10) rfl rfl (Run.idxK (i - 1) Tryz.runUnderlying60 Tryz.sizeOf3 rfl rfl rfl ?_ ?_ ?_) ?_)
    · exact SlF.some_ (SlF.st0 f_l hs7)
    · omega
    · omega
    refine WL.val (wantT rfl g10) rfl rfl (Run.load Tryz.isAgg3 rfl rfl (SlF.one1 (SlF.st0 f_l hs7) ?_ rfl)) ?_
    · omega
    refine WL.runA tbk 2 (Acts.nil.cons (j := 8) rfl g10) hs7 [] rfl trivial (WL.eA 7 (Acts.nil.cons (j := 5) rfl g8) J11 hs7 g10 rfl rfl)
   intro _ hs12
   exact WL.eO 4 Acts.nil J9 hs12 g8 rfl rfl
  intro _ hs13
  refine WL.nil (WC.cq rfl (fun h14 qh14 => ?_) (fun h14 qh14 => ?_))
  ·have ha : ascAt l lo hi i = false := by unfold ascAt; have h9 := h14; simp only [iat]; cases hw_ : within (gat encI l i) lo hi <;> rw [hw_] at h9 <;> simp at h9 ⊢ <;> omega
   refine WC.r1 hs13 [] rfl (WC.ret (ibR (tkR (tkR (ibR (tkR ?_))))))
   clear hK6 hK2
   refine rtv rfl rfl hs13 ?_
   rw [isAsc_not (by rw [f_l.len]; omega) ha]
  have ha : ascAt l lo hi i = true := by unfold ascAt; have h9 := h14; simp only [iat]; cases hw_ : within (gat encI l i) lo hi <;> rw [hw_] at h9 <;> simp at h9 ⊢ <;> omega
  refine WC.skip (hK6 _ _ (WC.region (WL.r 2 hs13 [] rfl (WL.nil (tkN ?_)))))
  refine ⟨sbF rfl, hs13, _, ?_, i + 1, rfl, ?_, ?_, ⟨rfl, trivial⟩⟩
  · omega
  · omega
  · intro j hj; rcases Nat.lt_or_ge j i with h_ | h_
    · exact p1 j h_
    · obtain rfl : j = i := by omega
      exact ha
 refine WC.exit (hK2 _ _ (WC.r1 hs3 [] rfl (WC.ret (rtv rfl rfl hs3 ?_))))
 rw [isAsc_all (fun j hj => p1 j (by rw [f_l.len] at hj; omega))]
theorem k58_ (r : RowR) (w : World) (f_r : okRowR 549755813888 w r) :
    Calls Tryz.prog 273 #[.agg #[.slice r.Cells.A r.Cells.n r.Cells.c]] w fun e w' => e = .returned (.bool (!rowOk r.dat)) ∧ St w [] [] w' := by
 have nb_r_Cells := f_r.Cells_n
 have nl_r_Cells := f_r.Cells.len
 refine enter 14 Tryz.func273 rfl Tryz.ntmps273 rfl rfl ?_
 have hs1 := St.init w
 refine WC.sr (WL.bx hs1 rfl (fun b2 _ hs3 => WL.r 1 hs3 [] rfl (WL.nil (WC.sr (WL.r 3 hs3 [0] rfl (WL.cl Tryz.call58 rfl (k0_ _ _ _ _) ?_))))))
 rintro _ whs4 ⟨rfl, hs4⟩
 replace hs4 := hs3.call0 hs4
 refine ⟨_, rfl, WL.r 2 hs4 [] rfl ?_⟩
 apply WL.gO 4 Acts.nil hs4 rfl
 ·intro g5 J6
  have qg5 := g5
  try simp only [bf, within_iff, within_not] at qg5
  refine WL.runA tbk 2 (Acts.nil.cons (j := 5) rfl g5) hs4 [0] rfl ⟨rfl, trivial⟩ (WL.call (wantF rfl g5) rfl rfl (Run.call Tryz.call271 rfl rfl rfl) (k41_ _ _ _ _ _ (SlF.st0 f_r.Cells hs4) ?_) ?_)
  · first | assumption | rfl | omega
  rintro _ whs7 ⟨rfl, hs7⟩
  replace hs7 := hs4.call0 hs7
  refine ⟨_, rfl, WL.runA tbk 1 (Acts.nil.cons (j := 5) rfl g5) hs7 [] rfl trivial (WL.eO 4 Acts.nil J6 hs7 g5 rfl rfl)⟩
 intro _ hs8
 refine WL.r 1 hs8 [] rfl (WL.nil (WC.ret (rtv rfl rfl hs8 ?_)))
 rw [show rowOk r.dat = (within (r.Cells.n : Int) 1 120 && cellsOk r.Cells.xs) by unfold rowOk; rw [← nl_r_Cells]; rfl, Bool.not_and]
theorem k59_ (A_s : Option Addr) (n_s c_s : Nat) (s : List RowR) (w : World) (f_s : SlN encRowR (okRowR 549755813888) w A_s n_s s) (hn : n_s ≤ 549755813888) :
    Calls Tryz.prog 295 #[.slice A_s n_s c_s, .func (.func 273) #[] #[]] w fun e w' => e = .returned (.int .i64 (findI (fun r => !rowOk r.dat) s)) ∧ St w [] [] w' := by
 refine enter 19 Tryz.func295 rfl Tryz.ntmps295 rfl rfl ?_
 have hs1 := St.init w
 refine WC.r1 hs1 [] rfl (WC.seq (fun K2 hK2 => WC.r1 hs1 [] rfl (WC.block ?_)))
 refine WC.lS [0, 1, 7] rfl hs1 (fun k_ f w' => ∃ (i : Nat), k_ = n_s - i ∧ (i ≤ n_s) ∧ (∀ j, j < i → (fun r => !rowOk r.dat) (gat encRowR s j) = false) ∧ Sub [(8, .int .i64 i)] f) ((fun (i : Nat) => n_s - i) (0)) ?_ ?_
 ·refine ⟨0, rfl, ?_, ?_, ⟨rfl, trivial⟩⟩
  · exact Nat.zero_le _
  · exact fun j hj => absurd hj (by omega)
 clear hs1
 rintro _ f w ⟨i, rfl, p0, p1, hG⟩ hF hs3
 refine WC.sub _ (hG.app hF) ?_
 clear hG hF
 refine WC.r1 hs3 [] rfl (WC.seq (fun K4 hK4 => ?_))
 refine WC.cond rfl (fun h5 => ?_) (fun h5 => ?_)
 ·have qh5 := h5
  try simp only [decide_eq_true_eq, decide_eq_false_iff_not] at qh5
  refine WC.skip (hK4 _ _ (WC.seq (fun K6 hK6 => WC.block (WC.r1 hs3 [] rfl (WC.sr (WL.r 3 hs3 [] rfl ?_))))))
  refine WL.val rfl rfl rfl (Run.idxN Tryz.runUnderlying87 Tryz.sizeOf181 rfl rfl rfl ?_ ?_ ?_) ?_
  · exact SlF.some_ (SlF.st0 f_s.sl hs3)
  · omega
  · omega
  refine WL.val rfl rfl rfl (Run.loadA Tryz.isAgg181 Tryz.sizeOf181 rfl rfl (SlF.whole (SlF.st0 f_s.sl hs3) ?_)) ?_
  · omega
  refine WL.cl Tryz.call273 rfl (k58_ (gat encRowR s i) _ (okRowR.st0 (SlN.nth f_s (by omega)) hs3)) ?_
  rintro _ whs7 ⟨rfl, hs7⟩
  replace hs7 := hs3.call0 hs7
  refine ⟨_, rfl, WL.nil (WC.cond rfl (fun h8 => ?_) (fun h8 => ?_))⟩
  ·have qh8 := h8
   try simp only [decide_eq_true_eq, decide_eq_false_iff_not] at qh8
   refine WC.r1 hs7 [] rfl (WC.ret (ibR (tkR (tkR (ibR (tkR ?_))))))
   clear hK6 hK2
   refine rtv rfl rfl hs7 ?_
   rw [findI_some (F := encRowR) (by rw [f_s.len]; omega) p1 h8]
  have qh8 := h8
  try simp only [decide_eq_true_eq, decide_eq_false_iff_not] at qh8
  refine WC.skip (hK6 _ _ (WC.region (WL.r 2 hs7 [] rfl (WL.nil (tkN ?_)))))
  refine ⟨sbF rfl, hs7, _, ?_, i + 1, rfl, ?_, ?_, ⟨rfl, trivial⟩⟩
  · omega
  · omega
  · intro j hj; rcases Nat.lt_or_ge j i with h_ | h_
    · exact p1 j h_
    · obtain rfl : j = i := by omega
      exact h8
 have qh5 := h5
 try simp only [decide_eq_true_eq, decide_eq_false_iff_not] at qh5
 refine WC.exit (hK2 _ _ (WC.r1 hs3 [] rfl (WC.ret (rtv rfl rfl hs3 ?_))))
 rw [findI_none (F := encRowR) (fun j hj => p1 j (by rw [f_s.len] at hj; omega))]
theorem k60_ (A_s : Option Addr) (n_s c_s : Nat) (s : List RowR) (w : World) (f_s : SlN encRowR (okRowR 549755813888) w A_s n_s s) (hn : n_s ≤ 549755813888) :
    Calls Tryz.prog 272 #[.slice A_s n_s c_s, .func (.func 273) #[] #[]] w fun e w' => e = .returned (.bool (decide (0 ≤ findI (fun r => !rowOk r.dat) s))) ∧ St w [] [] w' := by
 refine enter 9 Tryz.func272 rfl Tryz.ntmps272 rfl rfl ?_
 have hs1 := St.init w
 refine WC.r1 hs1 [] rfl (WC.sr (WL.r 2 hs1 [] rfl (WL.cl Tryz.call295 rfl (k59_ _ _ _ _ _ (SlN.st0 okRowR.st0 f_s hs1) ?_) ?_)))
 · first | assumption | rfl | omega
 rintro _ whs2 ⟨rfl, hs2⟩
 replace hs2 := hs1.call0 hs2
 refine ⟨_, rfl, WL.r 2 hs2 [] rfl (WL.nil (WC.ret (rtv rfl rfl hs2 ?_)))⟩
 rfl
theorem k61_ (A_b : Option Addr) (n_b c_b : Nat) (b : List RowR) (l : Int) (w : World) (f_b : SlN encRowR (okRowR 549755813888) w A_b n_b b) (hn : n_b ≤ 549755813888) :
    Calls Tryz.prog 235 #[.slice A_b n_b c_b, i64 l] w fun e w' => e = .returned (.bool (backOk (b.map RowR.dat) l)) ∧ St w [] [] w' := by
 refine enter 14 Tryz.func235 rfl Tryz.ntmps235 rfl rfl ?_
 have hs1 := St.init w
 refine WC.r1 hs1 [] rfl (WC.sr (WL.r 5 hs1 [] rfl ?_))
 apply WL.gA 3 Acts.nil hs1 rfl
 ·intro g2 J3
  have qg2 := g2
  try simp only [bf, within_iff, within_not] at qg2
  refine WL.runA tbk 1 (Acts.nil.cons (j := 4) rfl g2) hs1 [] rfl trivial (WL.call (wantT rfl g2) rfl rfl (Run.call Tryz.call272 rfl rfl rfl) (k60_ _ _ _ _ _ (SlN.st0 okRowR.st0 f_b hs1) ?_) ?_)
  · first | assumption | rfl | omega
  rintro _ whs4 ⟨rfl, hs4⟩
  replace hs4 := hs1.call0 hs4
  refine ⟨_, rfl, WL.runA tbk 1 (Acts.nil.cons (j := 4) rfl g2) hs4 [] rfl trivial (WL.eA 3 Acts.nil J3 hs4 g2 rfl rfl)⟩
 intro _ hs5
 refine WL.r 1 hs5 [] rfl (WL.nil (WC.ret (rtv rfl rfl hs5 ?_)))
 unfold backOk; rw [List.length_map, f_b.len, List.all_map, ← all_find]; rfl
set_option maxHeartbeats 4000000 in
theorem k62_ (s : ScrR) (w : World) (f_s : okScrR 549755813888 w s) :
    Calls Tryz.prog 195 #[.agg (cScr s).toArray] w fun e w' => e = .returned (.bool (scrOk s.dat)) ∧ St w [] [] w' := by
 have nb_s_Main_Cells := f_s.Main.Cells_n
 have nl_s_Main_Cells := f_s.Main.Cells.len
 have nb_s_Alt_Cells := f_s.Alt.Cells_n
 have nl_s_Alt_Cells := f_s.Alt.Cells.len
 have nb_s_Tabs := f_s.Tabs_n
 have nl_s_Tabs := f_s.Tabs.len
 have nb_s_Back := f_s.Back_n
 have nl_s_Back := f_s.Back.sl.len
 have hlit : ∀ y, y ∈ [s.Main, s.Alt] → okGridR 549755813888 w y := by intro y hy; simp only [List.mem_cons, List.not_mem_nil, or_false] at hy; rcases hy with rfl | rfl; exact f_s.Main; exact f_s.Alt
 refine enter 122 Tryz.func195 rfl Tryz.ntmps195 rfl rfl ?_
 have hs1 := St.init w
 refine WC.sr (WL.bx hs1 rfl (fun b2 _ hs3 => WL.r 1 hs3 [] rfl (WL.nil (WC.seq (fun K4 hK4 => WC.sr (WL.r 4 hs3 [0, 0] rfl (WL.buildF (F := encGridR) hs3 ([s.Main, s.Alt]) Tryz.runUnderlying244 Tryz.sizeOf76 Tryz.zeroValue76 rfl rfl rfl rfl rfl rfl rfl rfl rfl rfl rfl rfl (fun A8 c9 L5 whs6 hs6 ho7 => ?_))))))))
 replace hs6 := St.back [_] hs6
 refine WL.r 2 hs6 [] rfl (WL.nil (WC.block (WC.lS [1, 9, 10] rfl hs6 (fun k_ f w' => ∃ (i : Nat), k_ = 2 - i ∧ (i ≤ 2) ∧ (∀ j, j < i → gridFit (GridR.dat (gat encGridR [s.Main, s.Alt] j)) s.W s.H = true) ∧ Sub [(11, .int .i64 i)] f) ((fun (i : Nat) => 2 - i) (0)) ?_ ?_)))
 ·refine ⟨0, rfl, ?_, ?_, ⟨rfl, trivial⟩⟩
  · omega
  · exact fun j hj => absurd hj (by omega)
 clear hs6
 rintro _ f w ⟨i, rfl, p0, p1, hG⟩ hF hs10
 refine WC.sub _ (hG.app hF) ?_
 clear hG hF
 refine WC.r1 hs10 [] rfl (WC.seq (fun K11 hK11 => ?_))
 refine WC.cq rfl (fun h12 qh12 => ?_) (fun h12 qh12 => ?_)
 ·have hi2 : i < 2 := by have h8 := h12; simp at h8; omega
  refine WC.skip (hK11 _ _ (WC.seq (fun K13 hK13 => WC.block (WC.sr ?_))))
  refine WL.val rfl rfl rfl (Run.idxN Tryz.runUnderlying244 Tryz.sizeOf76 rfl rfl rfl ?_ ?_ ?_) ?_
  · exact SlF.some_ (SlF.ofOwn ho7 (hs10.ow L5))
  · first | omega | (simp; omega)
  · first | omega | (simp; omega)
  refine WL.val rfl rfl rfl (Run.loadA Tryz.isAgg76 Tryz.sizeOf76 rfl rfl (SlF.whole (SlF.ofOwn ho7 (hs10.ow L5)) ?_)) ?_
  · first | omega | (simp; omega)
  refine WL.al hs10 Tryz.zeroValue76 rfl rfl (fun b14 _ hs15 => WL.st tbk hs15 0 rfl rfl (fun _ hs16 => WL.nil (WC.sr (WL.r 1 hs16 [0] rfl ?_))))
  refine WL.cl Tryz.call231 rfl (k55_ (gat encGridR [s.Main, s.Alt] i) _ (okGridR.st0 (hlit _ (gat_mem (by first | omega | (simp; omega)))) hs16)) ?_
  rintro _ whs17 ⟨rfl, hs17⟩
  replace hs17 := hs16.call0 hs17
  refine ⟨_, rfl, WL.r 2 hs17 [] rfl (WL.pO tbk 5 Acts.nil hs17 [0, 1] rfl rfl rfl rfl (fun g_ => ⟨rfl, rfl, trivial⟩) (WL.r 1 hs17 [] rfl (WL.pO tbk 5 Acts.nil hs17 [0, 1] rfl rfl rfl rfl (fun g_ => ⟨rfl, rfl, trivial⟩) (WL.nil (WC.cq rfl (fun h18 qh18 => ?_) (fun h18 qh18 => ?_))))))⟩
  ·have ha : gridFit (GridR.dat (gat encGridR [s.Main, s.Alt] i)) s.W s.H = false := by unfold gridFit; have h9 := h18; show (gridOk (GridR.dat (gat encGridR [s.Main, s.Alt] i)) && (decide ((gat encGridR [s.Main, s.Alt] i).W = s.W) && decide ((gat encGridR [s.Main, s.Alt] i).H = s.H))) = false; revert h9; cases gridOk (GridR.dat (gat encGridR [s.Main, s.Alt] i)) <;> cases decide ((gat encGridR [s.Main, s.Alt] i).W = s.W) <;> cases decide ((gat encGridR [s.Main, s.Alt] i).H = s.H) <;> simp
   have hp1 : scrP1 s.dat = false := by unfold scrP1; rcases (show i = 0 ∨ i = 1 by omega) with rfl | rfl; (rw [show gridFit s.dat.Main s.dat.W s.dat.H = false from ha]; rfl); (rw [show gridFit s.dat.Alt s.dat.W s.dat.H = false from ha, Bool.and_false])
   refine WC.r1 hs17 [] rfl (WC.ret (ibR (tkR (tkR (ibR (tkR ?_))))))
   clear hK13 hK4
   refine rtv rfl rfl hs17 ?_
   rw [scrOk_no (.inl hp1)]
  have ha : gridFit (GridR.dat (gat encGridR [s.Main, s.Alt] i)) s.W s.H = true := by unfold gridFit; have h9 := h18; show (gridOk (GridR.dat (gat encGridR [s.Main, s.Alt] i)) && (decide ((gat encGridR [s.Main, s.Alt] i).W = s.W) && decide ((gat encGridR [s.Main, s.Alt] i).H = s.H))) = true; revert h9; cases gridOk (GridR.dat (gat encGridR [s.Main, s.Alt] i)) <;> cases decide ((gat encGridR [s.Main, s.Alt] i).W = s.W) <;> cases decide ((gat encGridR [s.Main, s.Alt] i).H = s.H) <;> simp
  refine WC.skip (hK13 _ _ (WC.region (WL.r 2 hs17 [] rfl (WL.nil (tkN ?_)))))
  refine ⟨sbF rfl, (hs17.drop (by repeat (first | exact List.Sublist.refl _ | exact List.sublist_append_left _ _ | exact List.Sublist.trans (List.sublist_append_left _ _) (List.sublist_append_left _ _) | apply List.Sublist.cons | refine List.Sublist.trans ?_ (sR _)))), _, ?_, i + 1, rfl, ?_, ?_, ⟨rfl, trivial⟩⟩
  · omega
  · omega
  · intro j hj; rcases Nat.lt_or_ge j i with h_ | h_
    · exact p1 j h_
    · obtain rfl : j = i := by omega
      exact ha
 have hi2 : ¬ i < 2 := by have h8 := h12; simp at h8; omega
 have hp1 : scrP1 s.dat = true := by unfold scrP1; rw [show gridFit s.dat.Main s.dat.W s.dat.H = true from p1 0 (by omega), show gridFit s.dat.Alt s.dat.W s.dat.H = true from p1 1 (by omega)]; rfl
 have hbn : (1 ≤ s.W ∧ s.W ≤ 120) ∧ (1 ≤ s.H ∧ s.H ≤ 120) ∧ s.Main.W = s.W ∧ s.Main.H = s.H ∧ s.Alt.W = s.W ∧ s.Alt.H = s.H := scrP1_bnd hp1
 refine WC.exit (hK4 _ _ (WC.seq (fun K19 hK19 => WC.sr (WL.r 6 hs10 [0, 0, 0] rfl ?_))))
 refine WL.cl Tryz.call232 rfl (k56_ s.Main _ _ _ (okGridR.st0 f_s.Main hs10) ?_ ?_) ?_
 iterate 2 first | assumption | rfl | omega
 rintro _ whs20 ⟨rfl, hs20⟩
 replace hs20 := hs10.call0 hs20
 refine ⟨_, rfl, WL.r 2 hs20 [] rfl ?_⟩
 apply WL.gO 8 Acts.nil hs20 rfl
 ·intro g21 J22
  have qg21 := g21
  try simp only [bf, within_iff, within_not] at qg21
  refine WL.runA tbk 6 (Acts.nil.cons (j := 8) rfl g21) hs20 [0, 0, 0] rfl ⟨rfl, rfl, rfl, trivial⟩ (WL.call (wantF rfl g21) rfl rfl (Run.call Tryz.call232 rfl rfl rfl) (k56_ s.Main _ _ _ (okGridR.st0 f_s.Main hs20) ?_ ?_) ?_)
  iterate 2 first | assumption | rfl | omega
  rintro _ whs23 ⟨rfl, hs23⟩
  replace hs23 := hs20.call0 hs23
  refine ⟨_, rfl, WL.runA tbk 1 (Acts.nil.cons (j := 8) rfl g21) hs23 [] rfl trivial (WL.eO 8 Acts.nil J22 hs23 g21 rfl rfl)⟩
 intro _ hs24
 refine WL.r 1 hs24 [] rfl ?_
 apply WL.gO 10 Acts.nil hs24 rfl
 ·intro g25 J26
  have qg25 := g25
  try simp only [bf, within_iff, within_not] at qg25
  refine WL.runA tbk 3 (Acts.nil.cons (j := 18) rfl g25) hs24 [0] rfl ⟨rfl, trivial⟩ ?_
  refine WL.pA tbk 6 (Acts.nil.cons (j := 18) rfl g25) hs24 [0, 0] rfl rfl rfl rfl (fun g_ => by (try simp only [bf, within_iff, within_not] at g_); exact ⟨by omega, rfl, rfl, trivial⟩) (WL.eO 4 Acts.nil J26 hs24 g25 rfl rfl)
 intro _ hs27
 refine WL.r 1 hs27 [] rfl ?_
 apply WL.gO 4 Acts.nil hs27 rfl
 ·intro g28 J29
  have qg28 := g28
  try simp only [bf, within_iff, within_not] at qg28
  refine WL.runA tbk 2 (Acts.nil.cons (j := 30) rfl g28) hs27 [0] rfl ⟨rfl, trivial⟩ (WL.call (wantF rfl g28) rfl rfl (Run.call Tryz.call233 rfl rfl rfl) (k34_ _ _ _ _ _ _) ?_)
  rintro _ whs30 ⟨rfl, hs30⟩
  replace hs30 := hs27.call0 hs30
  refine ⟨_, rfl, WL.runA tbk 1 (Acts.nil.cons (j := 30) rfl g28) hs30 [] rfl trivial (WL.eO 4 Acts.nil J29 hs30 g28 rfl rfl)⟩
 intro _ hs31
 refine WL.r 1 hs31 [] rfl ?_
 apply WL.gO 4 Acts.nil hs31 rfl
 ·intro g32 J33
  have qg32 := g32
  try simp only [bf, within_iff, within_not] at qg32
  refine WL.runA tbk 2 (Acts.nil.cons (j := 36) rfl g32) hs31 [0] rfl ⟨rfl, trivial⟩ (WL.call (wantF rfl g32) rfl rfl (Run.call Tryz.call233 rfl rfl rfl) (k34_ _ _ _ _ _ _) ?_)
  rintro _ whs34 ⟨rfl, hs34⟩
  replace hs34 := hs31.call0 hs34
  refine ⟨_, rfl, WL.runA tbk 1 (Acts.nil.cons (j := 36) rfl g32) hs34 [] rfl trivial (WL.eO 4 Acts.nil J33 hs34 g32 rfl rfl)⟩
 intro _ hs35
 refine WL.nil (WC.cq rfl (fun h36 qh36 => ?_) (fun h36 qh36 => ?_))
 ·have hp2 : scrP2 s.dat = false := by have h9 := h36; unfold scrP2; show (((gridHas s.Main.dat s.X s.Y && gridHas s.Main.dat s.SaveX s.SaveY) && ((!s.Wrap || decide (s.X = s.W - 1)) && (attrOk s.A.Fg s.A.Bg && attrOk s.SaveA.Fg s.SaveA.Bg)))) = false; revert h9; cases gridHas s.Main.dat s.X s.Y <;> cases gridHas s.Main.dat s.SaveX s.SaveY <;> cases s.Wrap <;> cases decide (s.X = s.W - 1) <;> cases attrOk s.A.Fg s.A.Bg <;> cases attrOk s.SaveA.Fg s.SaveA.Bg <;> simp
  refine WC.r1 hs35 [] rfl (WC.ret (tkR ?_))
  clear hK19
  refine rtv rfl rfl hs35 ?_
  rw [scrOk_no (.inr (.inl hp2))]
 have hp2 : scrP2 s.dat = true := by have h9 := h36; unfold scrP2; show (((gridHas s.Main.dat s.X s.Y && gridHas s.Main.dat s.SaveX s.SaveY) && ((!s.Wrap || decide (s.X = s.W - 1)) && (attrOk s.A.Fg s.A.Bg && attrOk s.SaveA.Fg s.SaveA.Bg)))) = true; revert h9; cases gridHas s.Main.dat s.X s.Y <;> cases gridHas s.Main.dat s.SaveX s.SaveY <;> cases s.Wrap <;> cases decide (s.X = s.W - 1) <;> cases attrOk s.A.Fg s.A.Bg <;> cases attrOk s.SaveA.Fg s.SaveA.Bg <;> simp
 refine WC.skip (hK19 _ _ (WC.seq (fun K37 hK37 => WC.sr (WL.r 4 hs35 [0] rfl (WL.pO tbk 5 Acts.nil hs35 [0, 0] rfl rfl rfl rfl (fun g_ => ⟨rfl, rfl, trivial⟩) (WL.r 1 hs35 [] rfl (WL.pO tbk 5 Acts.nil hs35 [0, 0] rfl rfl rfl rfl (fun g_ => ⟨rfl, rfl, trivial⟩) ?_)))))))
 refine WL.r 1 hs35 [] rfl ?_
 apply WL.gO 10 Acts.nil hs35 rfl
 ·intro g38 J39
  have qg38 := g38
  try simp only [bf, within_iff, within_not] at qg38
  refine WL.runA tbk 6 (Acts.nil.cons (j := 17) rfl g38) hs35 [0, 0] rfl ⟨rfl, rfl, trivial⟩ (WL.pA tbk 3 (Acts.nil.cons (j := 17) rfl g38) hs35 [0] rfl rfl rfl rfl (fun g_ => ⟨rfl, trivial⟩) (WL.eO 7 Acts.nil J39 hs35 g38 rfl rfl))
 intro _ hs40
 refine WL.nil (WC.cq rfl (fun h41 qh41 => ?_) (fun h41 qh41 => ?_))
 ·have hp3 : scrP3 s.dat = false := by have h9 := h41; unfold scrP3; show ((decide (0 ≤ s.Top) && decide (s.Top ≤ s.Bot)) && (decide (s.Bot < s.H) && (!decide (s.Top = s.Bot) || decide (s.H = 1)))) = false; simp at h9 ⊢; omega
  refine WC.r1 hs40 [] rfl (WC.ret (tkR ?_))
  clear hK37
  refine rtv rfl rfl hs40 ?_
  rw [scrOk_no (.inr (.inr (.inl hp3)))]
 have hp3 : scrP3 s.dat = true := by have h9 := h41; unfold scrP3; show ((decide (0 ≤ s.Top) && decide (s.Top ≤ s.Bot)) && (decide (s.Bot < s.H) && (!decide (s.Top = s.Bot) || decide (s.H = 1)))) = true; simp at h9 ⊢; omega
 refine WC.skip (hK37 _ _ (WC.sr (WL.r 5 hs40 [0, 0] rfl ?_)))
 refine WL.cl Tryz.call234 rfl (k57_ _ _ _ _ _ _ _ (SlF.st0 f_s.Tabs hs40) ?_) ?_
 · first | assumption | rfl | omega
 rintro _ whs42 ⟨rfl, hs42⟩
 replace hs42 := hs40.call0 hs42
 refine ⟨_, rfl, WL.r 1 hs42 [] rfl ?_⟩
 apply WL.gA 3 Acts.nil hs42 rfl
 ·intro g43 J44
  have qg43 := g43
  try simp only [bf, within_iff, within_not] at qg43
  refine WL.runA tbk 2 (Acts.nil.cons (j := 6) rfl g43) hs42 [0] rfl ⟨rfl, trivial⟩ (WL.call (wantT rfl g43) rfl rfl (Run.call Tryz.call58 rfl rfl rfl) (k0_ _ _ _ _) ?_)
  rintro _ whs45 ⟨rfl, hs45⟩
  replace hs45 := hs42.call0 hs45
  refine ⟨_, rfl, WL.eA 3 Acts.nil J44 hs45 g43 rfl rfl⟩
 intro _ hs46
 refine WL.r 1 hs46 [] rfl ?_
 apply WL.gA 5 Acts.nil hs46 rfl
 ·intro g47 J48
  have qg47 := g47
  try simp only [bf, within_iff, within_not] at qg47
  refine WL.runA tbk 4 (Acts.nil.cons (j := 11) rfl g47) hs46 [0, 0] rfl ⟨rfl, rfl, trivial⟩ (WL.call (wantT rfl g47) rfl rfl (Run.call Tryz.call235 rfl rfl rfl) (k61_ _ _ _ _ _ _ (SlN.st0 okRowR.st0 f_s.Back hs46) ?_) ?_)
  · first | assumption | rfl | omega
  rintro _ whs49 ⟨rfl, hs49⟩
  replace hs49 := hs46.call0 hs49
  refine ⟨_, rfl, WL.eA 5 Acts.nil J48 hs49 g47 rfl rfl⟩
 intro _ hs50
 refine WL.r 1 hs50 [] rfl (WL.nil (WC.ret (rtv rfl rfl hs50 ?_)))
 rw [scrOk_yes hp1 hp2 hp3]; rfl
theorem k63_ (t : TermR) (w : World) (f_t : okTermR 549755813888 w t) :
    Calls Tryz.prog 150 #[.agg #[i64 t.P.State, .bool t.P.Mark, .slice t.P.Args.A t.P.Args.n t.P.Args.c, .slice t.P.Part.A t.P.Part.n t.P.Part.c, i64 t.S.W, i64 t.S.H, i64 t.S.Main.W, i64 t.S.Main.H, .slice t.S.Main.Cells.A t.S.Main.Cells.n t.S.Main.Cells.c, i64 t.S.Alt.W, i64 t.S.Alt.H, .slice t.S.Alt.Cells.A t.S.Alt.Cells.n t.S.Alt.Cells.c, .bool t.S.OnAlt, i64 t.S.X, i64 t.S.Y, .bool t.S.Wrap, i64 t.S.A.Fg, i64 t.S.A.Bg, .bool t.S.A.Bold, .bool t.S.A.Under, .bool t.S.A.Turn, i64 t.S.Top, i64 t.S.Bot, .bool t.S.NoWrap, .bool t.S.Hide, i64 t.S.SaveX, i64 t.S.SaveY, i64 t.S.SaveA.Fg, i64 t.S.SaveA.Bg, .bool t.S.SaveA.Bold, .bool t.S.SaveA.Under, .bool t.S.SaveA.Turn, .slice t.S.Tabs.A t.S.Tabs.n t.S.Tabs.c, i64 t.S.Limit, .slice t.S.Back.A t.S.Back.n t.S.Back.c]] w fun e w' => e = .returned (.bool (termOk t.dat)) ∧ St w [] [] w' := by
 have nb_t_P_Args := f_t.P.Args_n
 have nl_t_P_Args := f_t.P.Args.len
 have nb_t_P_Part := f_t.P.Part_n
 have nl_t_P_Part := f_t.P.Part.len
 have nb_t_S_Main_Cells := f_t.S.Main.Cells_n
 have nl_t_S_Main_Cells := f_t.S.Main.Cells.len
 have nb_t_S_Alt_Cells := f_t.S.Alt.Cells_n
 have nl_t_S_Alt_Cells := f_t.S.Alt.Cells.len
 have nb_t_S_Tabs := f_t.S.Tabs_n
 have nl_t_S_Tabs := f_t.S.Tabs.len
 have nb_t_S_Back := f_t.S.Back_n
 have nl_t_S_Back := f_t.S.Back.sl.len
 refine enter 11 Tryz.func150 rfl Tryz.ntmps150 rfl rfl ?_
 have hs1 := St.init w
 refine WC.sr (WL.bx hs1 rfl (fun b2 _ hs3 => WL.r 1 hs3 [] rfl (WL.nil (WC.sr (WL.r 2 hs3 [0] rfl (WL.cl Tryz.call194 rfl (k52_ t.P _ (okVpR.st0 f_t.P hs3)) ?_))))))
 rintro _ whs4 ⟨rfl, hs4⟩
 replace hs4 := hs3.call0 hs4
 refine ⟨_, rfl, WL.r 1 hs4 [] rfl ?_⟩
 apply WL.gA 3 Acts.nil hs4 rfl
 ·intro g5 J6
  have qg5 := g5
  try simp only [bf, within_iff, within_not] at qg5
  refine WL.runA tbk 2 (Acts.nil.cons (j := 3) rfl g5) hs4 [0] rfl ⟨rfl, trivial⟩ (WL.call (wantT rfl g5) rfl rfl (Run.call Tryz.call195 rfl rfl rfl) (k62_ t.S _ (okScrR.st0 f_t.S hs4)) ?_)
  rintro _ whs7 ⟨rfl, hs7⟩
  replace hs7 := hs4.call0 hs7
  refine ⟨_, rfl, WL.eA 3 Acts.nil J6 hs7 g5 rfl rfl⟩
 intro _ hs8
 refine WL.r 1 hs8 [] rfl (WL.nil (WC.ret (rtv rfl rfl hs8 ?_)))
 rfl
theorem k64_ (g : GridR) (w : World) (f_g : okGridR 549755813888 w g) :
    Calls Tryz.prog 219 #[.agg #[i64 g.W, i64 g.H, .slice g.Cells.A g.Cells.n g.Cells.c]] w fun e w' => e = .returned (.bool (gridOk g.dat)) ∧ St w [] [] w' := by
 have nb_g_Cells := f_g.Cells_n
 have nl_g_Cells := f_g.Cells.len
 refine enter 53 Tryz.func219 rfl Tryz.ntmps219 rfl rfl ?_
 have hs1 := St.init w
 refine WC.sr (WL.bx hs1 rfl (fun b2 _ hs3 => WL.r 1 hs3 [] rfl (WL.nil (WC.seq (fun K4 hK4 => WC.sr (WL.r 4 hs3 [0] rfl (WL.pO tbk 3 Acts.nil hs3 [0] rfl rfl rfl rfl (fun g_ => ⟨rfl, trivial⟩) ?_)))))))
 refine WL.r 1 hs3 [] rfl (WL.pO tbk 3 Acts.nil hs3 [0] rfl rfl rfl rfl (fun g_ => ⟨rfl, trivial⟩) (WL.r 1 hs3 [] rfl (WL.pO tbk 3 Acts.nil hs3 [0] rfl rfl rfl rfl (fun g_ => ⟨rfl, trivial⟩) (WL.r 1 hs3 [] rfl ?_))))
 apply WL.gO 6 Acts.nil hs3 rfl
 ·intro g5 J6
  have qg5 := g5
  try simp only [bf, within_iff, within_not] at qg5
  refine WL.runA tbk 6 (Acts.nil.cons (j := 18) rfl g5) hs3 [0, 0] rfl ⟨?_, rfl, rfl, trivial⟩ ?_
  · (have h9 := mul_size (w := g.W) (h := g.H) (by omega) (by omega); constructor <;> omega)
  exact WL.eO 6 Acts.nil J6 hs3 g5 rfl rfl
 intro _ hs7
 refine WL.r 1 hs7 [] rfl ?_
 apply WL.gO 9 Acts.nil hs7 rfl
 ·intro g8 J9
  have qg8 := g8
  try simp only [bf, within_iff, within_not] at qg8
  refine WL.runA tbk 9 (Acts.nil.cons (j := 26) rfl g8) hs7 [0, 0, 0] rfl ⟨?_, rfl, rfl, rfl, trivial⟩ ?_
  · (have h9 := mul_size (w := g.W) (h := g.H) (by omega) (by omega); constructor <;> omega)
  exact WL.eO 9 Acts.nil J9 hs7 g8 rfl rfl
 intro _ hs10
 refine WL.nil (WC.cq rfl (fun h11 qh11 => ?_) (fun h11 qh11 => ?_))
 ·have hg : gridOk g.dat = false := by rw [← Bool.not_eq_true]; intro h8; have hb : (1 ≤ g.W ∧ g.W ≤ 120) ∧ (1 ≤ g.H ∧ g.H ≤ 120) ∧ 1 ≤ g.W * g.H ∧ g.W * g.H ≤ 4000 := gridOk_bnd h8; unfold gridOk at h8; rw [Bool.and_eq_true, Bool.and_eq_true, decide_eq_true_eq] at h8; have h7 : (g.Cells.xs.length : Int) = g.W * g.H := h8.1.2; have h9 := h11; simp at h9; omega
  refine WC.r1 hs10 [] rfl (WC.ret (tkR ?_))
  clear hK4
  refine rtv rfl rfl hs10 ?_
  rw [hg]
 have hs : isSize g.W g.H = true ∧ (g.Cells.n : Int) = g.W * g.H := by rw [isSize_iff]; have h9 := h11; simp at h9; omega
 refine WC.skip (hK4 _ _ (WC.seq (fun K12 hK12 => WC.r1 hs10 [0] rfl (WC.block ?_))))
 refine WC.lS [41, 43, 44] rfl hs10 (fun k_ f w' => ∃ (i : Nat), k_ = g.Cells.n - i ∧ (i ≤ g.Cells.n) ∧ (∀ j, j < i → cellOk (gat encCell g.Cells.xs j) = true) ∧ Sub [(45, .int .i64 i)] f) ((fun (i : Nat) => g.Cells.n - i) (0)) ?_ ?_
 ·refine ⟨0, rfl, ?_, ?_, ⟨rfl, trivial⟩⟩
  · exact Nat.zero_le _
  · exact fun j hj => absurd hj (by omega)
 clear hs10
 rintro _ f w ⟨i, rfl, p0, p1, hG⟩ hF hs13
 refine WC.sub _ (hG.app hF) ?_
 clear hG hF
 refine WC.r1 hs13 [] rfl (WC.seq (fun K14 hK14 => ?_))
 refine WC.cq rfl (fun h15 qh15 => ?_) (fun h15 qh15 => ?_)
 ·refine WC.skip (hK14 _ _ (WC.seq (fun K16 hK16 => WC.block (WC.sr ?_))))
  refine WL.val rfl rfl rfl (Run.idxN Tryz.runUnderlying74 Tryz.sizeOf164 rfl rfl rfl ?_ ?_ ?_) ?_
  · exact SlF.some_ (SlF.st0 f_g.Cells hs13)
  · omega
  · omega
  refine WL.val rfl rfl rfl (Run.loadA Tryz.isAgg164 Tryz.sizeOf164 rfl rfl (SlF.whole (SlF.st0 f_g.Cells hs13) ?_)) ?_
  · omega
  refine WL.al hs13 Tryz.zeroValue164 rfl rfl (fun b17 _ hs18 => WL.st tbk hs18 0 rfl rfl (fun _ hs19 => WL.nil (WC.sr (WL.r 1 hs19 [0] rfl (WL.cl Tryz.call185 rfl (k37_ _ _ _ _ _ _ _) ?_)))))
  rintro _ whs20 ⟨rfl, hs20⟩
  replace hs20 := hs19.call0 hs20
  refine ⟨_, rfl, WL.r 1 hs20 [] rfl (WL.nil (WC.cq rfl (fun h21 qh21 => ?_) (fun h21 qh21 => ?_)))⟩
  ·have hci : cellOk (gat encCell g.Cells.xs i) = false := by simpa using h21
   refine WC.r1 hs20 [] rfl (WC.ret (ibR (tkR (tkR (ibR (tkR ?_))))))
   clear hK16 hK12
   refine rtv rfl rfl hs20 ?_
   rw [show gridOk g.dat = false from by unfold gridOk; rw [show cellsOk g.dat.Cells = false from cellsOk_not (i := i) (by show i < g.Cells.xs.length; omega) hci, Bool.and_false]]
  have hci : cellOk (gat encCell g.Cells.xs i) = true := by simpa using h21
  refine WC.skip (hK16 _ _ (WC.region (WL.r 2 hs20 [] rfl (WL.nil (tkN ?_)))))
  refine ⟨sbF rfl, (hs20.drop (by repeat (first | exact List.Sublist.refl _ | exact List.sublist_append_left _ _ | exact List.Sublist.trans (List.sublist_append_left _ _) (List.sublist_append_left _ _) | apply List.Sublist.cons | refine List.Sublist.trans ?_ (sR _)))), _, ?_, i + 1, rfl, ?_, ?_, ⟨rfl, trivial⟩⟩
  · omega
  · omega
  · intro j hj; rcases Nat.lt_or_ge j i with h_ | h_
    · exact p1 j h_
    · obtain rfl : j = i := by omega
      exact hci
 refine WC.exit (hK12 _ _ (WC.r1 hs13 [] rfl (WC.ret (rtv rfl rfl hs13 ?_))))
 rw [show gridOk g.dat = true from by unfold gridOk; rw [show cellsOk g.dat.Cells = true from cellsOk_all (fun j hj => p1 j (by have : j < g.Cells.xs.length := hj; omega)), show isSize g.dat.W g.dat.H = true from hs.1, decide_eq_true (show (g.dat.Cells.length : Int) = g.dat.W * g.dat.H from by show (g.Cells.xs.length : Int) = g.W * g.H; rw [nl_g_Cells]; exact hs.2)]; rfl]
theorem k65_ (r : RowR) (w : World) (f_r : okRowR 549755813888 w r) :
    Calls Tryz.prog 220 #[.agg #[.slice r.Cells.A r.Cells.n r.Cells.c]] w fun e w' => e = .returned (.bool (rowOk r.dat)) ∧ St w [] [] w' := by
 have nb_r_Cells := f_r.Cells_n
 have nl_r_Cells := f_r.Cells.len
 refine enter 26 Tryz.func220 rfl Tryz.ntmps220 rfl rfl ?_
 have hs1 := St.init w
 refine WC.sr (WL.bx hs1 rfl (fun b2 _ hs3 => WL.r 1 hs3 [] rfl (WL.nil (WC.seq (fun K4 hK4 => WC.r1 hs3 [0] rfl (WC.block ?_))))))
 refine WC.lS [1, 6, 7] rfl hs3 (fun k_ f w' => ∃ (i : Nat), k_ = r.Cells.n - i ∧ (i ≤ r.Cells.n) ∧ (∀ j, j < i → cellOk (gat encCell r.Cells.xs j) = true) ∧ Sub [(8, .int .i64 i)] f) ((fun (i : Nat) => r.Cells.n - i) (0)) ?_ ?_
 ·refine ⟨0, rfl, ?_, ?_, ⟨rfl, trivial⟩⟩
  · exact Nat.zero_le _
  · exact fun j hj => absurd hj (by omega)
 clear hs3
 rintro _ f w ⟨i, rfl, p0, p1, hG⟩ hF hs5
 refine WC.sub _ (hG.app hF) ?_
 clear hG hF
 refine WC.r1 hs5 [] rfl (WC.seq (fun K6 hK6 => ?_))
 refine WC.cq rfl (fun h7 qh7 => ?_) (fun h7 qh7 => ?_)
 ·refine WC.skip (hK6 _ _ (WC.seq (fun K8 hK8 => WC.block (WC.sr ?_))))
  refine WL.val rfl rfl rfl (Run.idxN Tryz.runUnderlying74 Tryz.sizeOf164 rfl rfl rfl ?_ ?_ ?_) ?_
  · exact SlF.some_ (SlF.st0 f_r.Cells hs5)
  · omega
  · omega
  refine WL.val rfl rfl rfl (Run.loadA Tryz.isAgg164 Tryz.sizeOf164 rfl rfl (SlF.whole (SlF.st0 f_r.Cells hs5) ?_)) ?_
  · omega
  refine WL.al hs5 Tryz.zeroValue164 rfl rfl (fun b9 _ hs10 => WL.st tbk hs10 0 rfl rfl (fun _ hs11 => WL.nil (WC.sr (WL.r 1 hs11 [0] rfl (WL.cl Tryz.call185 rfl (k37_ _ _ _ _ _ _ _) ?_)))))
  rintro _ whs12 ⟨rfl, hs12⟩
  replace hs12 := hs11.call0 hs12
  refine ⟨_, rfl, WL.r 1 hs12 [] rfl (WL.nil (WC.cq rfl (fun h13 qh13 => ?_) (fun h13 qh13 => ?_)))⟩
  ·have hci : cellOk (gat encCell r.Cells.xs i) = false := by simpa using h13
   refine WC.r1 hs12 [] rfl (WC.ret (ibR (tkR (tkR (ibR (tkR ?_))))))
   clear hK8 hK4
   refine rtv rfl rfl hs12 ?_
   rw [show rowOk r.dat = false from by unfold rowOk; rw [show cellsOk r.dat.Cells = false from cellsOk_not (i := i) (by show i < r.Cells.xs.length; omega) hci, Bool.and_false]]
  have hci : cellOk (gat encCell r.Cells.xs i) = true := by simpa using h13
  refine WC.skip (hK8 _ _ (WC.region (WL.r 2 hs12 [] rfl (WL.nil (tkN ?_)))))
  refine ⟨sbF rfl, (hs12.drop (by repeat (first | exact List.Sublist.refl _ | exact List.sublist_append_left _ _ | exact List.Sublist.trans (List.sublist_append_left _ _) (List.sublist_append_left _ _) | apply List.Sublist.cons | refine List.Sublist.trans ?_ (sR _)))), _, ?_, i + 1, rfl, ?_, ?_, ⟨rfl, trivial⟩⟩
  · omega
  · omega
  · intro j hj; rcases Nat.lt_or_ge j i with h_ | h_
    · exact p1 j h_
    · obtain rfl : j = i := by omega
      exact hci
 refine WC.exit (hK4 _ _ (WC.sr (WL.r 5 hs5 [0] rfl (WL.pA tbk 4 Acts.nil hs5 [0] rfl rfl rfl rfl (fun g_ => ⟨rfl, trivial⟩) (WL.r 1 hs5 [] rfl (WL.nil (WC.ret ?_)))))))
 refine rtv rfl rfl hs5 ?_
 rw [show rowOk r.dat = within (r.Cells.n : Int) 1 120 from by unfold rowOk; rw [show cellsOk r.dat.Cells = true from cellsOk_all (fun j hj => p1 j (by have : j < r.Cells.xs.length := hj; omega)), Bool.and_true, ← nl_r_Cells]; rfl]; rfl
set_option maxHeartbeats 4000000 in
theorem k66_ (s : ScrR) (w : World) (f_s : okScrR 549755813888 w s) :
    Calls Tryz.prog 183 #[.agg (cScr s).toArray] w fun e w' => e = .returned (.bool (scrOk s.dat)) ∧ St w [] [] w' := by
 have nb_s_Main_Cells := f_s.Main.Cells_n
 have nl_s_Main_Cells := f_s.Main.Cells.len
 have nb_s_Alt_Cells := f_s.Alt.Cells_n
 have nl_s_Alt_Cells := f_s.Alt.Cells.len
 have nb_s_Tabs := f_s.Tabs_n
 have nl_s_Tabs := f_s.Tabs.len
 have nb_s_Back := f_s.Back_n
 have nl_s_Back := f_s.Back.sl.len
 refine enter 208 Tryz.func183 rfl Tryz.ntmps183 rfl rfl ?_
 have hs1 := St.init w
 refine WC.sr (WL.bx hs1 rfl (fun b2 _ hs3 => WL.r 1 hs3 [] rfl (WL.nil (WC.seq (fun K4 hK4 => WC.sr (WL.r 2 hs3 [0] rfl (WL.cl Tryz.call219 rfl (k64_ s.Main _ (okGridR.st0 f_s.Main hs3)) ?_)))))))
 rintro _ whs5 ⟨rfl, hs5⟩
 replace hs5 := hs3.call0 hs5
 refine ⟨_, rfl, WL.r 2 hs5 [] rfl ?_⟩
 apply WL.gO 4 Acts.nil hs5 rfl
 ·intro g6 J7
  have qg6 := g6
  try simp only [bf, within_iff, within_not] at qg6
  refine WL.runA tbk 2 (Acts.nil.cons (j := 4) rfl g6) hs5 [0] rfl ⟨rfl, trivial⟩ (WL.call (wantF rfl g6) rfl rfl (Run.call Tryz.call219 rfl rfl rfl) (k64_ s.Alt _ (okGridR.st0 f_s.Alt hs5)) ?_)
  rintro _ whs8 ⟨rfl, hs8⟩
  replace hs8 := hs5.call0 hs8
  refine ⟨_, rfl, WL.runA tbk 1 (Acts.nil.cons (j := 4) rfl g6) hs8 [] rfl trivial (WL.eO 4 Acts.nil J7 hs8 g6 rfl rfl)⟩
 intro _ hs9
 refine WL.r 1 hs9 [] rfl (WL.pO tbk 6 Acts.nil hs9 [0, 0] rfl rfl rfl rfl (fun g_ => ⟨rfl, rfl, trivial⟩) (WL.r 1 hs9 [] rfl (WL.pO tbk 6 Acts.nil hs9 [0, 0] rfl rfl rfl rfl (fun g_ => ⟨rfl, rfl, trivial⟩) (WL.r 1 hs9 [] rfl (WL.pO tbk 6 Acts.nil hs9 [0, 0] rfl rfl rfl rfl (fun g_ => ⟨rfl, rfl, trivial⟩) (WL.r 1 hs9 [] rfl (WL.pO tbk 6 Acts.nil hs9 [0, 0] rfl rfl rfl rfl (fun g_ => ⟨rfl, rfl, trivial⟩) ?_)))))))
 refine WL.nil (WC.cq rfl (fun h10 qh10 => ?_) (fun h10 qh10 => ?_))
 ·have hp1 : scrP1 s.dat = false := by have h9 := h10; unfold scrP1 gridFit; show ((gridOk s.Main.dat && (decide (s.Main.W = s.W) && decide (s.Main.H = s.H))) && (gridOk s.Alt.dat && (decide (s.Alt.W = s.W) && decide (s.Alt.H = s.H)))) = false; revert h9; cases gridOk s.Main.dat <;> cases gridOk s.Alt.dat <;> cases decide (s.Main.W = s.W) <;> cases decide (s.Main.H = s.H) <;> cases decide (s.Alt.W = s.W) <;> cases decide (s.Alt.H = s.H) <;> simp
  refine WC.r1 hs9 [] rfl (WC.ret (tkR ?_))
  clear hK4
  refine rtv rfl rfl hs9 ?_
  rw [scrOk_no (.inl hp1)]
 have hp1 : scrP1 s.dat = true := by have h9 := h10; unfold scrP1 gridFit; show ((gridOk s.Main.dat && (decide (s.Main.W = s.W) && decide (s.Main.H = s.H))) && (gridOk s.Alt.dat && (decide (s.Alt.W = s.W) && decide (s.Alt.H = s.H)))) = true; revert h9; cases gridOk s.Main.dat <;> cases gridOk s.Alt.dat <;> cases decide (s.Main.W = s.W) <;> cases decide (s.Main.H = s.H) <;> cases decide (s.Alt.W = s.W) <;> cases decide (s.Alt.H = s.H) <;> simp
 have hbn : (1 ≤ s.W ∧ s.W ≤ 120) ∧ (1 ≤ s.H ∧ s.H ≤ 120) ∧ s.Main.W = s.W ∧ s.Main.H = s.H ∧ s.Alt.W = s.W ∧ s.Alt.H = s.H := scrP1_bnd hp1
 refine WC.skip (hK4 _ _ (WC.seq (fun K11 hK11 => WC.sr (WL.r 4 hs9 [0] rfl (WL.pO tbk 5 Acts.nil hs9 [0, 0] rfl rfl rfl rfl (fun g_ => ⟨rfl, rfl, trivial⟩) (WL.r 1 hs9 [] rfl (WL.pO tbk 3 Acts.nil hs9 [0] rfl rfl rfl rfl (fun g_ => ⟨rfl, trivial⟩) ?_)))))))
 refine WL.r 1 hs9 [] rfl (WL.pO tbk 5 Acts.nil hs9 [0, 0] rfl rfl rfl rfl (fun g_ => ⟨rfl, rfl, trivial⟩) (WL.r 1 hs9 [] rfl ?_))
 apply WL.gO 10 Acts.nil hs9 rfl
 ·intro g12 J13
  have qg12 := g12
  try simp only [bf, within_iff, within_not] at qg12
  refine WL.runA tbk 3 (Acts.nil.cons (j := 22) rfl g12) hs9 [0] rfl ⟨rfl, trivial⟩ ?_
  refine WL.pA tbk 6 (Acts.nil.cons (j := 22) rfl g12) hs9 [0, 0] rfl rfl rfl rfl (fun g_ => by (try simp only [bf, within_iff, within_not] at g_); exact ⟨by omega, rfl, rfl, trivial⟩) (WL.eO 4 Acts.nil J13 hs9 g12 rfl rfl)
 intro _ hs14
 refine WL.r 1 hs14 [] rfl (WL.pO tbk 3 Acts.nil hs14 [0] rfl rfl rfl rfl (fun g_ => ⟨rfl, trivial⟩) (WL.r 1 hs14 [] rfl (WL.pO tbk 5 Acts.nil hs14 [0, 0] rfl rfl rfl rfl (fun g_ => ⟨rfl, rfl, trivial⟩) (WL.r 1 hs14 [] rfl (WL.pO tbk 3 Acts.nil hs14 [0] rfl rfl rfl rfl (fun g_ => ⟨rfl, trivial⟩) (WL.r 1 hs14 [] rfl (WL.pO tbk 5 Acts.nil hs14 [0, 0] rfl rfl rfl rfl (fun g_ => ⟨rfl, rfl, trivial⟩) ?_)))))))
 refine WL.r 1 hs14 [] rfl ?_
 apply WL.gO 4 Acts.nil hs14 rfl
 ·intro g15 J16
  have qg15 := g15
  try simp only [bf, within_iff, within_not] at qg15
  refine WL.runA tbk 2 (Acts.nil.cons (j := 58) rfl g15) hs14 [0] rfl ⟨rfl, trivial⟩ (WL.call (wantF rfl g15) rfl rfl (Run.call Tryz.call184 rfl rfl rfl) (k35_ _ _ _ _ _ _) ?_)
  rintro _ whs17 ⟨rfl, hs17⟩
  replace hs17 := hs14.call0 hs17
  refine ⟨_, rfl, WL.runA tbk 1 (Acts.nil.cons (j := 58) rfl g15) hs17 [] rfl trivial (WL.eO 4 Acts.nil J16 hs17 g15 rfl rfl)⟩
 intro _ hs18
 refine WL.r 1 hs18 [] rfl ?_
 apply WL.gO 4 Acts.nil hs18 rfl
 ·intro g19 J20
  have qg19 := g19
  try simp only [bf, within_iff, within_not] at qg19
  refine WL.runA tbk 2 (Acts.nil.cons (j := 64) rfl g19) hs18 [0] rfl ⟨rfl, trivial⟩ (WL.call (wantF rfl g19) rfl rfl (Run.call Tryz.call184 rfl rfl rfl) (k35_ _ _ _ _ _ _) ?_)
  rintro _ whs21 ⟨rfl, hs21⟩
  replace hs21 := hs18.call0 hs21
  refine ⟨_, rfl, WL.runA tbk 1 (Acts.nil.cons (j := 64) rfl g19) hs21 [] rfl trivial (WL.eO 4 Acts.nil J20 hs21 g19 rfl rfl)⟩
 intro _ hs22
 refine WL.nil (WC.cq rfl (fun h23 qh23 => ?_) (fun h23 qh23 => ?_))
 ·have hp2 : scrP2 s.dat = false := by have h9 := h23; unfold scrP2 gridHas within; show ((((decide (0 ≤ s.X) && decide (s.X ≤ s.Main.W - 1)) && (decide (0 ≤ s.Y) && decide (s.Y ≤ s.Main.H - 1))) && ((decide (0 ≤ s.SaveX) && decide (s.SaveX ≤ s.Main.W - 1)) && (decide (0 ≤ s.SaveY) && decide (s.SaveY ≤ s.Main.H - 1)))) && ((!s.Wrap || decide (s.X = s.W - 1)) && (attrOk s.A.Fg s.A.Bg && attrOk s.SaveA.Fg s.SaveA.Bg))) = false; revert h9; cases s.Wrap <;> cases attrOk s.A.Fg s.A.Bg <;> cases attrOk s.SaveA.Fg s.SaveA.Bg <;> intro h9 <;> simp at h9 ⊢ <;> omega
  refine WC.r1 hs22 [] rfl (WC.ret (tkR ?_))
  clear hK11
  refine rtv rfl rfl hs22 ?_
  rw [scrOk_no (.inr (.inl hp2))]
 have hp2 : scrP2 s.dat = true := by have h9 := h23; unfold scrP2 gridHas within; show ((((decide (0 ≤ s.X) && decide (s.X ≤ s.Main.W - 1)) && (decide (0 ≤ s.Y) && decide (s.Y ≤ s.Main.H - 1))) && ((decide (0 ≤ s.SaveX) && decide (s.SaveX ≤ s.Main.W - 1)) && (decide (0 ≤ s.SaveY) && decide (s.SaveY ≤ s.Main.H - 1)))) && ((!s.Wrap || decide (s.X = s.W - 1)) && (attrOk s.A.Fg s.A.Bg && attrOk s.SaveA.Fg s.SaveA.Bg))) = true; revert h9; cases s.Wrap <;> cases attrOk s.A.Fg s.A.Bg <;> cases attrOk s.SaveA.Fg s.SaveA.Bg <;> intro h9 <;> simp at h9 ⊢ <;> omega
 refine WC.skip (hK11 _ _ (WC.seq (fun K24 hK24 => WC.sr (WL.r 4 hs22 [0] rfl (WL.pO tbk 5 Acts.nil hs22 [0, 0] rfl rfl rfl rfl (fun g_ => ⟨rfl, rfl, trivial⟩) (WL.r 1 hs22 [] rfl (WL.pO tbk 5 Acts.nil hs22 [0, 0] rfl rfl rfl rfl (fun g_ => ⟨rfl, rfl, trivial⟩) ?_)))))))
 refine WL.r 1 hs22 [] rfl ?_
 apply WL.gO 10 Acts.nil hs22 rfl
 ·intro g25 J26
  have qg25 := g25
  try simp only [bf, within_iff, within_not] at qg25
  refine WL.runA tbk 6 (Acts.nil.cons (j := 17) rfl g25) hs22 [0, 0] rfl ⟨rfl, rfl, trivial⟩ (WL.pA tbk 3 (Acts.nil.cons (j := 17) rfl g25) hs22 [0] rfl rfl rfl rfl (fun g_ => ⟨rfl, trivial⟩) (WL.eO 7 Acts.nil J26 hs22 g25 rfl rfl))
 intro _ hs27
 refine WL.r 1 hs27 [] rfl (WL.pO tbk 3 Acts.nil hs27 [0] rfl rfl rfl rfl (fun g_ => ⟨rfl, trivial⟩) (WL.r 1 hs27 [] rfl (WL.pO tbk 3 Acts.nil hs27 [0] rfl rfl rfl rfl (fun g_ => ⟨rfl, trivial⟩) (WL.r 1 hs27 [] rfl (WL.pO tbk 6 Acts.nil hs27 [0, 0] rfl rfl rfl rfl (fun g_ => ⟨rfl, rfl, trivial⟩) (WL.nil (WC.cq rfl (fun h28 qh28 => ?_) (fun h28 qh28 => ?_))))))))
 ·have hp34 : scrP3 s.dat = false ∨ scrP4 s.dat = false := by have h9 := h28; unfold scrP3 scrP4 within; show ((decide (0 ≤ s.Top) && decide (s.Top ≤ s.Bot)) && (decide (s.Bot < s.H) && (!decide (s.Top = s.Bot) || decide (s.H = 1)))) = false ∨ ((decide (0 ≤ s.Limit) && decide (s.Limit ≤ 100)) && decide (((s.Back.xs.map RowR.dat).length : Int) ≤ s.Limit)) = false; rw [List.length_map, nl_s_Back]; simp at h9 ⊢; omega
  refine WC.r1 hs27 [] rfl (WC.ret (tkR ?_))
  clear hK24
  refine rtv rfl rfl hs27 ?_
  rw [scrOk_no (.inr (.inr (hp34.elim .inl (fun h => .inr (.inl h)))))]
 have hp34 : scrP3 s.dat = true ∧ scrP4 s.dat = true := by have h9 := h28; unfold scrP3 scrP4 within; show ((decide (0 ≤ s.Top) && decide (s.Top ≤ s.Bot)) && (decide (s.Bot < s.H) && (!decide (s.Top = s.Bot) || decide (s.H = 1)))) = true ∧ ((decide (0 ≤ s.Limit) && decide (s.Limit ≤ 100)) && decide (((s.Back.xs.map RowR.dat).length : Int) ≤ s.Limit)) = true; rw [List.length_map, nl_s_Back]; simp at h9 ⊢; omega
 refine WC.skip (hK24 _ _ (WC.seq (fun K29 hK29 => WC.r1 hs27 [0] rfl (WC.block ?_))))
 refine WC.lS [1, 48, 118, 165, 167, 168] rfl hs27 (fun k_ f w' => ∃ (i : Nat), k_ = s.Tabs.n - i ∧ (i ≤ s.Tabs.n) ∧ (∀ j, j < i → ascAt s.Tabs.xs 0 (s.W - 1) j = true) ∧ Sub [(169, .int .i64 i)] f) ((fun (i : Nat) => s.Tabs.n - i) (0)) ?_ ?_
 ·refine ⟨0, rfl, ?_, ?_, ⟨rfl, trivial⟩⟩
  · exact Nat.zero_le _
  · exact fun j hj => absurd hj (by omega)
 clear hs27
 rintro _ f w ⟨i, rfl, p0, p1, hG⟩ hF hs30
 refine WC.sub _ (hG.app hF) ?_
 clear hG hF
 refine WC.r1 hs30 [] rfl (WC.seq (fun K31 hK31 => ?_))
 refine WC.cq rfl (fun h32 qh32 => ?_) (fun h32 qh32 => ?_)
 ·refine WC.skip (hK31 _ _ (WC.seq (fun K33 hK33 => WC.block (WC.sr (WL.r 1 hs30 [] rfl ?_)))))
  refine WL.val rfl rfl rfl (Run.idxN Tryz.runUnderlying60 Tryz.sizeOf3 rfl rfl rfl ?_ ?_ ?_) ?_
  · exact SlF.some_ (SlF.st0 f_s.Tabs hs30)
  · omega
  · omega
  refine WL.val rfl rfl rfl (Run.load Tryz.isAgg3 rfl rfl (SlF.one1 (SlF.st0 f_s.Tabs hs30) ?_ rfl)) ?_
  · omega
  refine WL.r 2 hs30 [] rfl (WL.nil (WC.sr (WL.r 3 hs30 [] rfl (WL.pO tbk 4 Acts.nil hs30 [0] rfl rfl rfl rfl (fun g_ => ⟨rfl, trivial⟩) (WL.r 1 hs30 [] rfl ?_)))))
  apply WL.gO 12 Acts.nil hs30 rfl
  ·intro g34 J35
   have qg34 := g34
   try simp only [bf, within_iff, within_not] at qg34
   refine WL.runA tbk 3 (Acts.nil.cons (j := 8) rfl g34) hs30 [] rfl trivial ?_
   apply WL.gA 8 (Acts.nil.cons (j := 8) rfl g34) hs30 rfl
   ·intro g36 J37
    have qg36 := g36
    try simp only [bf, within_iff, within_not] at qg36
    refine WL.runA tbk 4 (Acts.nil.cons (j := 11) rfl g36) hs30 [0] rfl ⟨by omega, rfl, trivial⟩ (WL.val (wantT rfl g36) rfl rfl (Run.idxK (i - 1) Tryz.runUnderlying60 Tryz.sizeOf3 rfl rfl rfl ?_ ?_ ?_) ?_)
    · exact SlF.some_ (SlF.st0 f_s.Tabs hs30)
    · omega
    · omega
    refine WL.val (wantT rfl g36) rfl rfl (Run.load Tryz.isAgg3 rfl rfl (SlF.one1 (SlF.st0 f_s.Tabs hs30) ?_ rfl)) ?_
    · omega
    refine WL.runA tbk 2 (Acts.nil.cons (j := 11) rfl g36) hs30 [] rfl trivial (WL.eA 8 (Acts.nil.cons (j := 8) rfl g34) J37 hs30 g36 rfl rfl)
   intro _ hs38
   exact WL.eO 4 Acts.nil J35 hs38 g34 rfl rfl
  intro _ hs39
  refine WL.nil (WC.cq rfl (fun h40 qh40 => ?_) (fun h40 qh40 => ?_))
  ·have ha : ascAt s.Tabs.xs 0 (s.W - 1) i = false := by unfold ascAt within iat; have h9 := h40; simp at h9 ⊢; omega
   refine WC.r1 hs39 [] rfl (WC.ret (ibR (tkR (tkR (ibR (tkR ?_))))))
   clear hK33 hK29
   refine rtv rfl rfl hs39 ?_
   rw [scrOk_no (.inr (.inr (.inr (.inr (.inl (isAsc_not (i := i) (by show i < s.Tabs.xs.length; omega) ha))))))]
  have ha : ascAt s.Tabs.xs 0 (s.W - 1) i = true := by unfold ascAt within iat; have h9 := h40; simp at h9 ⊢; omega
  refine WC.skip (hK33 _ _ (WC.region (WL.r 2 hs39 [] rfl (WL.nil (tkN ?_)))))
  refine ⟨sbF rfl, hs39, _, ?_, i + 1, rfl, ?_, ?_, ⟨rfl, trivial⟩⟩
  · omega
  · omega
  · intro j hj; rcases Nat.lt_or_ge j i with h_ | h_
    · exact p1 j h_
    · obtain rfl : j = i := by omega
      exact ha
 have hasc : isAsc s.dat.Tabs 0 (s.dat.W - 1) = true := isAsc_all (fun j hj => p1 j (by have : j < s.Tabs.xs.length := hj; omega))
 refine WC.exit (hK29 _ _ (WC.seq (fun K41 hK41 => WC.r1 hs30 [0] rfl (WC.block ?_))))
 refine WC.lS [48, 118, 165, 170, 198, 199] rfl hs30 (fun k_ f w' => ∃ (i : Nat), k_ = s.Back.n - i ∧ (i ≤ s.Back.n) ∧ (∀ j, j < i → rowOk (RowR.dat (gat encRowR s.Back.xs j)) = true) ∧ Sub [(200, .int .i64 i)] f) ((fun (i : Nat) => s.Back.n - i) (0)) ?_ ?_
 ·refine ⟨0, rfl, ?_, ?_, ⟨rfl, trivial⟩⟩
  · exact Nat.zero_le _
  · exact fun j hj => absurd hj (by omega)
 clear hs30
 rintro _ f w ⟨i, rfl, r0, r1, hG⟩ hF hs42
 refine WC.sub _ (hG.app hF) ?_
 clear hG hF
 refine WC.r1 hs42 [] rfl (WC.seq (fun K43 hK43 => ?_))
 refine WC.cq rfl (fun h44 qh44 => ?_) (fun h44 qh44 => ?_)
 ·refine WC.skip (hK43 _ _ (WC.seq (fun K45 hK45 => WC.block (WC.sr ?_))))
  refine WL.val rfl rfl rfl (Run.idxN Tryz.runUnderlying87 Tryz.sizeOf181 rfl rfl rfl ?_ ?_ ?_) ?_
  · exact SlF.some_ (SlF.st0 f_s.Back.sl hs42)
  · omega
  · omega
  refine WL.val rfl rfl rfl (Run.loadA Tryz.isAgg181 Tryz.sizeOf181 rfl rfl (SlF.whole (SlF.st0 f_s.Back.sl hs42) ?_)) ?_
  · omega
  refine WL.al hs42 Tryz.zeroValue181 rfl rfl (fun b46 _ hs47 => WL.st tbk hs47 0 rfl rfl (fun _ hs48 => WL.nil (WC.sr (WL.r 1 hs48 [0] rfl (WL.cl Tryz.call220 rfl (k65_ (gat encRowR s.Back.xs i) _ (okRowR.st0 (SlN.nth f_s.Back (by omega)) hs48)) ?_)))))
  rintro _ whs49 ⟨rfl, hs49⟩
  replace hs49 := hs48.call0 hs49
  refine ⟨_, rfl, WL.r 1 hs49 [] rfl (WL.nil (WC.cq rfl (fun h50 qh50 => ?_) (fun h50 qh50 => ?_)))⟩
  ·refine WC.r1 hs49 [] rfl (WC.ret (ibR (tkR (tkR (ibR (tkR ?_))))))
   clear hK45 hK41
   refine rtv rfl rfl hs49 ?_
   rw [scrOk_no (.inr (.inr (.inr (.inr (.inr (all_gat_not (F := encRowR) (j := i) (by omega) (by simpa using h50)))))))]
  refine WC.skip (hK45 _ _ (WC.region (WL.r 2 hs49 [] rfl (WL.nil (tkN ?_)))))
  refine ⟨sbF rfl, (hs49.drop (by repeat (first | exact List.Sublist.refl _ | exact List.sublist_append_left _ _ | exact List.Sublist.trans (List.sublist_append_left _ _) (List.sublist_append_left _ _) | apply List.Sublist.cons | refine List.Sublist.trans ?_ (sR _)))), _, ?_, i + 1, rfl, ?_, ?_, ⟨rfl, trivial⟩⟩
  · omega
  · omega
  · intro j hj; rcases Nat.lt_or_ge j i with h_ | h_
    · exact r1 j h_
    · obtain rfl : j = i := by omega
      simpa using h50
 refine WC.exit (hK41 _ _ (WC.r1 hs42 [] rfl (WC.ret (rtv rfl rfl hs42 ?_))))
 rw [scrOk_all hp1 hp2 hp34.1 hp34.2 hasc (all_gat (F := encRowR) (fun j hj => r1 j (by omega)))]
theorem k67_ (t : TermR) (w : World) (f_t : okTermR 549755813888 w t) :
    Calls Tryz.prog 136 #[.agg #[i64 t.P.State, .bool t.P.Mark, .slice t.P.Args.A t.P.Args.n t.P.Args.c, .slice t.P.Part.A t.P.Part.n t.P.Part.c, i64 t.S.W, i64 t.S.H, i64 t.S.Main.W, i64 t.S.Main.H, .slice t.S.Main.Cells.A t.S.Main.Cells.n t.S.Main.Cells.c, i64 t.S.Alt.W, i64 t.S.Alt.H, .slice t.S.Alt.Cells.A t.S.Alt.Cells.n t.S.Alt.Cells.c, .bool t.S.OnAlt, i64 t.S.X, i64 t.S.Y, .bool t.S.Wrap, i64 t.S.A.Fg, i64 t.S.A.Bg, .bool t.S.A.Bold, .bool t.S.A.Under, .bool t.S.A.Turn, i64 t.S.Top, i64 t.S.Bot, .bool t.S.NoWrap, .bool t.S.Hide, i64 t.S.SaveX, i64 t.S.SaveY, i64 t.S.SaveA.Fg, i64 t.S.SaveA.Bg, .bool t.S.SaveA.Bold, .bool t.S.SaveA.Under, .bool t.S.SaveA.Turn, .slice t.S.Tabs.A t.S.Tabs.n t.S.Tabs.c, i64 t.S.Limit, .slice t.S.Back.A t.S.Back.n t.S.Back.c]] w fun e w' => e = .returned (.bool (termOk t.dat)) ∧ St w [] [] w' := by
 have nb_t_P_Args := f_t.P.Args_n
 have nl_t_P_Args := f_t.P.Args.len
 have nb_t_P_Part := f_t.P.Part_n
 have nl_t_P_Part := f_t.P.Part.len
 have nb_t_S_Main_Cells := f_t.S.Main.Cells_n
 have nl_t_S_Main_Cells := f_t.S.Main.Cells.len
 have nb_t_S_Alt_Cells := f_t.S.Alt.Cells_n
 have nl_t_S_Alt_Cells := f_t.S.Alt.Cells.len
 have nb_t_S_Tabs := f_t.S.Tabs_n
 have nl_t_S_Tabs := f_t.S.Tabs.len
 have nb_t_S_Back := f_t.S.Back_n
 have nl_t_S_Back := f_t.S.Back.sl.len
 refine enter 11 Tryz.func136 rfl Tryz.ntmps136 rfl rfl ?_
 have hs1 := St.init w
 refine WC.sr (WL.bx hs1 rfl (fun b2 _ hs3 => WL.r 1 hs3 [] rfl (WL.nil (WC.sr (WL.r 2 hs3 [0] rfl (WL.cl Tryz.call182 rfl (k53_ t.P _ (okVpR.st0 f_t.P hs3)) ?_))))))
 rintro _ whs4 ⟨rfl, hs4⟩
 replace hs4 := hs3.call0 hs4
 refine ⟨_, rfl, WL.r 1 hs4 [] rfl ?_⟩
 apply WL.gA 3 Acts.nil hs4 rfl
 ·intro g5 J6
  have qg5 := g5
  try simp only [bf, within_iff, within_not] at qg5
  refine WL.runA tbk 2 (Acts.nil.cons (j := 3) rfl g5) hs4 [0] rfl ⟨rfl, trivial⟩ (WL.call (wantT rfl g5) rfl rfl (Run.call Tryz.call183 rfl rfl rfl) (k66_ t.S _ (okScrR.st0 f_t.S hs4)) ?_)
  rintro _ whs7 ⟨rfl, hs7⟩
  replace hs7 := hs4.call0 hs7
  refine ⟨_, rfl, WL.eA 3 Acts.nil J6 hs7 g5 rfl rfl⟩
 intro _ hs8
 refine WL.r 1 hs8 [] rfl (WL.nil (WC.ret (rtv rfl rfl hs8 ?_)))
 rfl
def leafOk (n : NodeD) : Bool := isId n.Pane && !n.Down && decide (n.First = 0)
def nodeOk (n : NodeD) : Bool := if n.Pane = 0 then within n.First 1 120 else leafOk n
inductive Tr where
  | leaf (n : NodeD)
  | split (n : NodeD) (a b : Tr)
def Tr.flat : Tr → List NodeD
  | .leaf n => [n]
  | .split n a b => n :: (a.flat ++ b.flat)
def Tr.shaped : Tr → Prop
  | .leaf n => n.Pane ≠ 0
  | .split n a b => n.Pane = 0 ∧ a.shaped ∧ b.shaped
theorem Tr.flat_pos : ∀ (T : Tr), 0 < T.flat.length
  | .leaf n => by simp [flat]
  | .split n a b => by simp [flat]
def skipF (ok : NodeD → Bool) : Nat → List NodeD → Option (List NodeD)
  | 0, _ => none
  | _ + 1, [] => none
  | k + 1, n :: r => if ok n = false then none else if n.Pane ≠ 0 then some r else (skipF ok k r).bind (skipF ok k)
theorem skipF_flat {ok : NodeD → Bool} : ∀ {T : Tr} {k : Nat} {r : List NodeD}, T.shaped → (∀ n, n ∈ T.flat → ok n = true) → T.flat.length ≤ k → skipF ok k (T.flat ++ r) = some r
  | .leaf n, k, r, hs, ho, hk => by
    cases k with
    | zero => simp [Tr.flat] at hk
    | succ k =>
      have := ho n (by simp [Tr.flat])
      simp only [Tr.shaped] at hs
      simp [Tr.flat, skipF, this, hs]
  | .split n a b, k, r, hs, ho, hk => by
    cases k with
    | zero => simp [Tr.flat] at hk
    | succ k =>
      obtain ⟨h0, h1, h2⟩ := hs
      simp only [Tr.flat, List.length_cons, List.length_append] at hk
      have hn := ho n (by simp [Tr.flat])
      have ha := skipF_flat (T := a) (k := k) (r := b.flat ++ r) h1 (fun m hm => ho m (by simp [Tr.flat, hm])) (by omega)
      have hb := skipF_flat (T := b) (k := k) (r := r) h2 (fun m hm => ho m (by simp [Tr.flat, hm])) (by omega)
      simp only [Tr.flat, List.cons_append, List.append_assoc, skipF, hn, h0, ha, hb, Option.bind]
      simp
theorem skipF_some {ok : NodeD → Bool} : ∀ {k : Nat} {l r : List NodeD}, skipF ok k l = some r → ∃ T : Tr, T.shaped ∧ (∀ n, n ∈ T.flat → ok n = true) ∧ l = T.flat ++ r
  | 0, l, r, h => by simp [skipF] at h
  | k + 1, [], r, h => by simp [skipF] at h
  | k + 1, n :: l, r, h => by
    rw [skipF] at h
    split at h
    · cases h
    · rename_i ho
      have ho : ok n = true := by simpa using ho
      split at h
      · rename_i hp
        obtain rfl := Option.some.inj h
        exact ⟨.leaf n, hp, by simpa [Tr.flat] using ho, rfl⟩
      · rename_i hp
        have hp : n.Pane = 0 := by simpa using hp
        obtain ⟨m, h1, h2⟩ := Option.bind_eq_some_iff.1 h
        obtain ⟨a, ha, hao, rfl⟩ := skipF_some h1
        obtain ⟨b, hb, hbo, rfl⟩ := skipF_some h2
        refine ⟨.split n a b, ⟨hp, ha, hb⟩, ?_, by simp [Tr.flat]⟩
        intro m hm
        simp only [Tr.flat, List.mem_cons, List.mem_append] at hm
        rcases hm with rfl | hm | hm
        · exact ho
        · exact hao m hm
        · exact hbo m hm
theorem skipF_more {ok : NodeD → Bool} {k k' : Nat} {l : List NodeD} (h : l.length ≤ k) (h' : l.length ≤ k') : skipF ok k l = skipF ok k' l := by
  have key : ∀ {k k' : Nat} {r : List NodeD}, l.length ≤ k' → skipF ok k l = some r → skipF ok k' l = some r := by
    intro k k' r hk hr
    obtain ⟨T, hT, ho, rfl⟩ := skipF_some hr
    rw [List.length_append] at hk
    exact skipF_flat hT ho (by omega)
  cases e : skipF ok k l with
  | some r => exact (key h' e).symm
  | none =>
    cases e' : skipF ok k' l with
    | none => rfl
    | some r => rw [key h e'] at e; cases e
def needGo : Nat → List NodeD → Option (List NodeD)
  | _, [] => none
  | need, n :: r => if (if n.Pane = 0 then need + 1 else need - 1) = 0 then some r else needGo (if n.Pane = 0 then need + 1 else need - 1) r
theorem needGo_flat : ∀ {T : Tr} {k : Nat} {r : List NodeD}, T.shaped → needGo (k + 1) (T.flat ++ r) = if k = 0 then some r else needGo k r
  | .leaf n, k, r, hs => by
    simp only [Tr.shaped] at hs
    simp [Tr.flat, needGo, hs]
  | .split n a b, k, r, hs => by
    obtain ⟨h0, h1, h2⟩ := hs
    have ha := needGo_flat (T := a) (k := k + 1) (r := b.flat ++ r) h1
    have hb := needGo_flat (T := b) (k := k) (r := r) h2
    simp only [Tr.flat, List.cons_append, List.append_assoc, needGo, h0, if_true]
    rw [if_neg (by omega), ha, if_neg (by omega), hb]
theorem needGo_some : ∀ {l r : List NodeD} {k : Nat}, needGo (k + 1) l = some r → ∃ (T : Tr) (l' : List NodeD), T.shaped ∧ l = T.flat ++ l' ∧ (if k = 0 then l' = r else needGo k l' = some r)
  | [], r, k, h => by simp [needGo] at h
  | n :: l, r, k, h => by
    rw [needGo] at h
    by_cases hp : n.Pane = 0
    · simp only [if_pos hp] at h
      rw [if_neg (by omega)] at h
      obtain ⟨a, l1, ha, rfl, h1⟩ := needGo_some (k := k + 1) h
      rw [if_neg (by omega)] at h1
      have hl : l1.length < (n :: (a.flat ++ l1)).length := by simp; omega
      obtain ⟨b, l2, hb, rfl, h2⟩ := needGo_some (k := k) h1
      exact ⟨.split n a b, l2, ⟨hp, ha, hb⟩, by simp [Tr.flat], h2⟩
    · simp only [if_neg hp] at h
      refine ⟨.leaf n, l, hp, rfl, ?_⟩
      by_cases hk : k = 0
      · subst hk
        simp at h
        rw [if_pos rfl]; exact h
      · rw [if_neg hk]
        rw [Nat.add_sub_cancel, if_neg hk] at h
        exact h
termination_by l => l.length
def endOfL (t : List NodeD) (o : Option (List NodeD)) : Int := match o with | some r => (t.length : Int) - r.length | none => -1
def endI (t : List NodeD) (at_ : Int) : Int := if 0 ≤ at_ ∧ at_ < t.length then endOfL t (skipF nodeOk t.length (t.drop at_.toNat)) else -1
def sEnd (t : List NodeD) (at_ : Nat) : Int := endOfL t (needGo 1 (t.drop at_))
theorem nat_drop {t : List NodeD} {i : Nat} (h : i < t.length) : t.drop i = gat encNode t i :: t.drop (i + 1) := by
  rw [List.drop_eq_getElem_cons h]; congr 1; have := gat_get (F := encNode) h; rw [List.getElem?_eq_getElem h] at this; exact Option.some.inj this
theorem endI_out {t : List NodeD} {at_ : Int} (h : ¬ (0 ≤ at_ ∧ at_ < t.length)) : endI t at_ = -1 := if_neg h
theorem endI_leaf {t : List NodeD} {i : Nat} (h : i < t.length) (hp : (gat encNode t i).Pane ≠ 0) : endI t i = if leafOk (gat encNode t i) = true then (i : Int) + 1 else -1 := by
  rw [endI, if_pos ⟨by omega, by omega⟩, Int.toNat_natCast, nat_drop h]
  obtain ⟨k, hk⟩ : ∃ k, t.length = k + 1 := ⟨t.length - 1, by omega⟩
  rw [hk, skipF, nodeOk, if_neg hp]
  cases e : leafOk (gat encNode t i)
  · simp [endOfL]
  · simp [hp, endOfL]; omega
theorem endI_bad {t : List NodeD} {i : Nat} (h : i < t.length) (hp : (gat encNode t i).Pane = 0) (hf : within (gat encNode t i).First 1 120 = false) : endI t i = -1 := by
  rw [endI, if_pos ⟨by omega, by omega⟩, Int.toNat_natCast, nat_drop h]
  obtain ⟨k, hk⟩ : ∃ k, t.length = k + 1 := ⟨t.length - 1, by omega⟩
  rw [hk, skipF, nodeOk, if_pos hp, hf]
  simp [endOfL]
theorem endI_range {t : List NodeD} {at_ : Int} : endI t at_ = -1 ∨ at_ < endI t at_ ∧ endI t at_ ≤ t.length ∧ 0 ≤ at_ := by
  by_cases h : 0 ≤ at_ ∧ at_ < t.length
  · rw [endI, if_pos h]
    cases e : skipF nodeOk t.length (t.drop at_.toNat) with
    | none => exact Or.inl rfl
    | some r =>
      obtain ⟨T, hT, _, hl⟩ := skipF_some e
      have h1 := congrArg List.length hl
      have h2 := T.flat_pos
      rw [List.length_drop, List.length_append] at h1
      simp only [endOfL]
      exact Or.inr ⟨by omega, by omega, h.1⟩
  · exact Or.inl (endI_out h)
theorem endI_split {t : List NodeD} {i : Nat} (h : i < t.length) (hp : (gat encNode t i).Pane = 0) (hf : within (gat encNode t i).First 1 120 = true) : endI t i = endI t (endI t ((i : Int) + 1)) := by
  rw [endI, if_pos ⟨by omega, by omega⟩, Int.toNat_natCast, nat_drop h]
  obtain ⟨k, hk⟩ : ∃ k, t.length = k + 1 := ⟨t.length - 1, by omega⟩
  rw [hk, skipF, nodeOk, if_pos hp, hf]
  simp only [Bool.true_eq_false, if_false, ne_eq, hp, not_true_eq_false]
  have hd : (t.drop (i + 1)).length ≤ k := by rw [List.length_drop]; omega
  rw [skipF_more (k := k) (k' := t.length) hd (by rw [List.length_drop]; omega)]
  by_cases hi : i + 1 < t.length
  · have e1 : endI t ((i : Int) + 1) = endOfL t (skipF nodeOk t.length (t.drop (i + 1))) := by
      rw [endI, if_pos ⟨by omega, by omega⟩, show ((i : Int) + 1).toNat = i + 1 by omega]
    rw [e1]
    cases e : skipF nodeOk t.length (t.drop (i + 1)) with
    | none =>
      rw [endOfL, endI_out (by omega)]
      rfl
    | some r =>
      obtain ⟨T, hT, _, hl⟩ := skipF_some e
      have h1 := congrArg List.length hl
      have h2 := T.flat_pos
      rw [List.length_drop, List.length_append] at h1
      have hr : r = t.drop (t.length - r.length) := by
        have e2 : t.length - r.length = (i + 1) + T.flat.length := by omega
        rw [e2, ← List.drop_drop, hl, List.drop_left]
      simp only [Option.bind, endOfL]
      by_cases hr0 : r.length = 0
      · have : r = [] := List.eq_nil_of_length_eq_zero hr0
        subst this
        rw [endI_out (by simp)]
        obtain ⟨k', hk'⟩ : ∃ k', k = k' + 1 := ⟨k - 1, by omega⟩
        rw [hk', skipF]
      · rw [endI, if_pos ⟨by omega, by omega⟩, show ((t.length : Int) - r.length).toNat = t.length - r.length by omega, ← hr, skipF_more (k := k) (k' := t.length) (by omega) (by omega)]
        rfl
  · have e1 : endI t ((i : Int) + 1) = -1 := endI_out (by omega)
    rw [e1, endI_out (by omega), List.drop_eq_nil_of_le (by omega)]
    obtain ⟨k', hk'⟩ : ∃ k', t.length = k' + 1 := ⟨t.length - 1, by omega⟩
    rw [hk', skipF]
    rfl
def panesL (t : List NodeD) : List Int := (t.filter fun n => decide (n.Pane ≠ 0)).map (·.Pane)
def treeOk (t : List NodeD) : Bool := decide (t.length ≤ 31) && decide (endI t 0 = t.length) && decide (panesL t).Nodup
def Valid (t : List NodeD) (T : Tr) : Prop := T.shaped ∧ (∀ n, n ∈ t → nodeOk n = true) ∧ T.flat = t
theorem panesL_take {t : List NodeD} {i : Nat} (h : i < t.length) : panesL (t.take (i + 1)) = panesL (t.take i) ++ (if (gat encNode t i).Pane ≠ 0 then [(gat encNode t i).Pane] else []) := by
  unfold panesL
  rw [List.take_add_one, gat_get (F := encNode) h, List.filter_append, List.map_append]
  congr 1
  by_cases h : (gat encNode t i).Pane = 0 <;> simp [h]
theorem endI_zero {t : List NodeD} : endI t 0 = t.length ↔ ∃ T, Valid t T := by
  constructor
  · intro h
    by_cases h0 : 0 < t.length
    · rw [endI, if_pos ⟨by omega, by omega⟩] at h
      cases e : skipF nodeOk t.length (t.drop (0 : Int).toNat) with
      | none => rw [e] at h; simp only [endOfL] at h; omega
      | some r =>
        rw [e] at h
        obtain ⟨T, hT, ho, hl⟩ := skipF_some e
        simp only [endOfL] at h
        have : r = [] := List.eq_nil_of_length_eq_zero (by omega)
        subst this
        simp at hl
        exact ⟨T, hT, by rw [hl]; exact ho, hl.symm⟩
    · rw [endI_out (by omega)] at h
      omega
  · rintro ⟨T, hT, ho, rfl⟩
    have h0 := T.flat_pos
    have := skipF_flat (ok := nodeOk) (T := T) (k := T.flat.length) (r := []) hT ho (Nat.le_refl _)
    rw [endI, if_pos ⟨by omega, by omega⟩]
    simp only [Int.toNat_zero, List.drop_zero]
    rw [List.append_nil] at this
    rw [this]
    simp [endOfL]
theorem sEnd_zero {t : List NodeD} : sEnd t 0 = t.length ↔ ∃ T : Tr, T.shaped ∧ T.flat = t := by
  constructor
  · intro h
    rw [sEnd] at h
    cases e : needGo 1 (t.drop 0) with
    | none => rw [e] at h; simp only [endOfL] at h; omega
    | some r =>
      rw [e] at h
      obtain ⟨T, l', hT, hl, h1⟩ := needGo_some (k := 0) e
      rw [if_pos rfl] at h1
      subst h1
      simp only [endOfL] at h
      have : l' = [] := List.eq_nil_of_length_eq_zero (by omega)
      subst this
      simp at hl
      exact ⟨T, hT, hl.symm⟩
  · rintro ⟨T, hT, rfl⟩
    have := needGo_flat (T := T) (k := 0) (r := []) hT
    rw [if_pos rfl, List.append_nil] at this
    rw [sEnd, List.drop_zero]
    rw [show needGo 1 T.flat = some [] from this]
    simp [endOfL]
theorem treeOk_iff {t : List NodeD} : treeOk t = true ↔ t.length ≤ 31 ∧ (∃ T, Valid t T) ∧ (panesL t).Nodup := by
  simp only [treeOk, Bool.and_eq_true, decide_eq_true_eq, endI_zero, and_assoc]
theorem treeOk_mk {t : List NodeD} (h1 : t.length ≤ 31) (h2 : sEnd t 0 = t.length) (h3 : ∀ i, i < t.length → nodeOk (gat encNode t i) = true) (h4 : (panesL t).Nodup) : treeOk t = true := by
  obtain ⟨T, hT, hf⟩ := sEnd_zero.1 h2
  refine treeOk_iff.2 ⟨h1, ⟨T, hT, fun n hn => ?_, hf⟩, h4⟩
  obtain ⟨i, hi, rfl⟩ := List.mem_iff_getElem.1 hn
  have e := gat_get (F := encNode) hi
  rw [List.getElem?_eq_getElem hi] at e
  rw [Option.some.inj e]
  exact h3 i hi
theorem treeOk_len {t : List NodeD} (h : treeOk t = true) : t.length ≤ 31 := (treeOk_iff.1 h).1
theorem treeOk_sEnd {t : List NodeD} (h : treeOk t = true) : sEnd t 0 = t.length := by
  obtain ⟨_, ⟨T, hT, _, hf⟩, _⟩ := treeOk_iff.1 h
  exact sEnd_zero.2 ⟨T, hT, hf⟩
theorem treeOk_node {t : List NodeD} (h : treeOk t = true) {i : Nat} (hi : i < t.length) : nodeOk (gat encNode t i) = true := by
  obtain ⟨_, ⟨T, hT, ho, hf⟩, _⟩ := treeOk_iff.1 h
  exact ho _ (gat_mem hi)
theorem treeOk_nodup {t : List NodeD} (h : treeOk t = true) : (panesL t).Nodup := (treeOk_iff.1 h).2.2
theorem panesL_sub {t : List NodeD} {i : Nat} : (panesL (t.take i)).Sublist (panesL t) := by
  unfold panesL
  exact ((List.take_sublist i t).filter _).map _
theorem nodeOk_pane {n : NodeD} (h : nodeOk n = true) : 0 ≤ n.Pane ∧ n.Pane ≤ 1000000 ∧ 0 ≤ n.First ∧ n.First ≤ 120 := by
  unfold nodeOk leafOk isId at h
  split at h <;> simp [within] at h <;> omega
def adjNe (l : List Int) : Prop := ∀ i, i + 1 < l.length → iat l (i + 1) ≠ iat l i
theorem iat_getElem {l : List Int} {i : Nat} (h : i < l.length) : iat l i = l[i] := by
  have e := gat_get (F := encI) h
  rw [List.getElem?_eq_getElem h] at e
  exact (Option.some.inj e).symm
theorem sorted_adj {l : List Int} (hs : l.Pairwise (· ≤ ·)) : adjNe l ↔ l.Nodup := by
  rw [List.Nodup]
  constructor
  · intro h
    rw [List.pairwise_iff_getElem] at hs ⊢
    intro i j hi hj hij
    have h1 := h i (by omega)
    rw [iat_getElem (by omega), iat_getElem (by omega)] at h1
    have h2 := hs i (i + 1) (by omega) (by omega) (by omega)
    rcases Nat.lt_or_ge (i + 1) j with h3 | h3
    · have := hs (i + 1) j (by omega) hj h3
      omega
    · obtain rfl : j = i + 1 := by omega
      omega
  · intro h i hi
    rw [iat_getElem (by omega), iat_getElem (by omega)]
    have := List.pairwise_iff_getElem.1 h i (i + 1) (by omega) hi (by omega)
    exact fun e => this e.symm
def sortI (l : List Int) : List Int := l.mergeSort fun x y => decide (x ≤ y)
theorem sortI_perm (l : List Int) : (sortI l).Perm l := List.mergeSort_perm _ _
theorem sortI_len (l : List Int) : (sortI l).length = l.length := (sortI_perm l).length_eq
theorem sortI_sorted (l : List Int) : (sortI l).Pairwise (· ≤ ·) := by
  have := List.pairwise_mergeSort (le := fun x y : Int => decide (x ≤ y)) (fun a b c h1 h2 => by simp at *; omega) (fun a b => by simp; omega) l
  exact this.imp (fun h => by simpa using h)
theorem sortI_adj {l : List Int} : adjNe (sortI l) ↔ l.Nodup := (sorted_adj (sortI_sorted l)).trans (sortI_perm l).nodup_iff
def leavesL (t : List NodeD) : List Int := if treeOk t = true then panesL t else []
theorem panesL_len (t : List NodeD) : (panesL t).length ≤ t.length := by
  unfold panesL
  rw [List.length_map]
  exact List.length_filter_le _ _
theorem leavesL_len (t : List NodeD) : (leavesL t).length ≤ 31 := by
  unfold leavesL
  split
  · rename_i h
    have := treeOk_len h
    have := panesL_len t
    omega
  · simp
theorem nodup_snoc {l : List Int} {x : Int} (h : l.Nodup) (hx : x ∉ l) : (l ++ [x]).Nodup := by
  rw [List.nodup_append]
  refine ⟨h, by simp, fun a ha b hb => ?_⟩
  simp at hb
  subst hb
  exact fun e => hx (e ▸ ha)
def leafB (n : NodeD) : Bool := decide (1 ≤ n.Pane) && decide (n.Pane ≤ 1000000) && !n.Down && decide (n.First = 0)
def splitB (n : NodeD) : Bool := decide (n.Pane = 0) && decide (1 ≤ n.First) && decide (n.First ≤ 120)
theorem nodeOk_or (n : NodeD) : nodeOk n = (leafB n || splitB n) := by
  rw [Bool.eq_iff_iff]
  unfold nodeOk leafOk isId within leafB splitB
  by_cases h : n.Pane = 0
  · simp [h]
  · simp [h]
theorem leafB_ne {n : NodeD} (h : leafB n = true) : n.Pane ≠ 0 := by
  simp [leafB] at h; omega
theorem leafB_not {n : NodeD} (h : leafB n = false) (hn : nodeOk n = true) : n.Pane = 0 := by
  rw [nodeOk_or, h, Bool.false_or] at hn
  simp [splitB] at hn
  exact hn.1.1
theorem node_step {n : NodeD} {zs : List Int} (h : (!leafB n && !splitB n || leafB n && decide (n.Pane ∈ zs)) = false) : nodeOk n = true ∧ (leafB n = true → n.Pane ∉ zs) := by
  rw [nodeOk_or]
  cases h1 : leafB n <;> cases h2 : splitB n <;> simp_all
theorem node_bad {t : List NodeD} {i : Nat} (hi : i < t.length) (h : (!leafB (gat encNode t i) && !splitB (gat encNode t i) || leafB (gat encNode t i) && decide ((gat encNode t i).Pane ∈ panesL (t.take i))) = true) : treeOk t = false := by
  cases ht : treeOk t with
  | false => rfl
  | true =>
    exfalso
    have h1 := treeOk_node ht hi
    have h2 := (treeOk_nodup ht).sublist (panesL_sub (i := i + 1))
    rw [nodeOk_or] at h1
    cases hl : leafB (gat encNode t i) with
    | false => rw [hl, Bool.false_or] at h1; rw [hl, h1] at h; simp at h
    | true =>
      rw [hl] at h
      rw [panesL_take hi, if_pos (leafB_ne hl), List.nodup_append] at h2
      simp at h
      exact h2.2.2 _ h _ (by simp) rfl
theorem findI_lt {α : Type} {p : α → Bool} {xs : List α} : -1 ≤ findI p xs ∧ findI p xs < xs.length := by
  rcases findI_cases (p := p) (xs := xs) with ⟨h, _⟩ | ⟨i, hi, h, _⟩ <;> omega
def atL (t : List NodeD) (p : Int) : Int := findI (fun n => !decide (n.Pane = 0) && decide (n.Pane = p)) t
theorem sub_at : ∀ {T : Tr} {i : Nat}, T.shaped → i < T.flat.length → ∃ (S : Tr) (r : List NodeD), S.shaped ∧ (∀ n, n ∈ S.flat → n ∈ T.flat) ∧ T.flat.drop i = S.flat ++ r
  | .leaf n, i, hs, hi => by
    have : i = 0 := by simp [Tr.flat] at hi; omega
    subst this
    exact ⟨.leaf n, [], hs, fun _ h => h, by simp⟩
  | .split n a b, 0, hs, hi => ⟨.split n a b, [], hs, fun _ h => h, by simp⟩
  | .split n a b, i + 1, hs, hi => by
    obtain ⟨h0, h1, h2⟩ := hs
    simp only [Tr.flat, List.length_cons, List.length_append] at hi
    simp only [Tr.flat, List.drop_succ_cons]
    rcases Nat.lt_or_ge i a.flat.length with h | h
    · obtain ⟨S, r, hS, hm, hd⟩ := sub_at h1 h
      refine ⟨S, r ++ b.flat, hS, fun n hn => by simp [hm n hn], ?_⟩
      rw [List.drop_append_of_le_length (by omega), hd, List.append_assoc]
    · obtain ⟨S, r, hS, hm, hd⟩ := sub_at h2 (show i - a.flat.length < b.flat.length by omega)
      refine ⟨S, r, hS, fun n hn => by simp [hm n hn], ?_⟩
      rw [List.drop_append, List.drop_eq_nil_of_le (by omega), List.nil_append, hd]
structure At (t : List NodeD) (i : Nat) (S : Tr) : Prop where
  shaped : S.shaped
  ok : ∀ n, n ∈ S.flat → nodeOk n = true
  drop : ∃ r, t.drop i = S.flat ++ r
theorem Valid.at_ {t : List NodeD} {T : Tr} (h : Valid t T) {i : Nat} (hi : i < t.length) : ∃ S, At t i S := by
  obtain ⟨hT, ho, rfl⟩ := h
  obtain ⟨S, r, hS, hm, hd⟩ := sub_at hT hi
  exact ⟨S, hS, fun n hn => ho n (hm n hn), r, hd⟩
theorem At.le {t : List NodeD} {i : Nat} {S : Tr} (h : At t i S) : i + S.flat.length ≤ t.length := by
  obtain ⟨r, hr⟩ := h.drop
  have := congrArg List.length hr
  have h0 := S.flat_pos
  rw [List.length_drop, List.length_append] at this
  omega
theorem At.lt {t : List NodeD} {i : Nat} {S : Tr} (h : At t i S) : i < t.length := by
  have := h.le
  have := S.flat_pos
  omega
theorem At.endI {t : List NodeD} {i : Nat} {S : Tr} (h : At t i S) : endI t i = (i + S.flat.length : Nat) := by
  obtain ⟨r, hr⟩ := h.drop
  have h1 := h.le
  have h2 := h.lt
  have h3 := congrArg List.length hr
  rw [List.length_drop, List.length_append] at h3
  rw [Go.Proofs.YthfhhldbglaieaaGreat.endI, if_pos ⟨by omega, by omega⟩, Int.toNat_natCast, hr, skipF_flat h.shaped h.ok (by omega)]
  simp only [endOfL]
  omega
theorem At.sEnd {t : List NodeD} {i : Nat} {S : Tr} (h : At t i S) : sEnd t i = (i + S.flat.length : Nat) := by
  obtain ⟨r, hr⟩ := h.drop
  have h1 := h.le
  have h3 := congrArg List.length hr
  rw [List.length_drop, List.length_append] at h3
  have := needGo_flat (T := S) (k := 0) (r := r) h.shaped
  rw [if_pos rfl] at this
  rw [Go.Proofs.YthfhhldbglaieaaGreat.sEnd, hr, this]
  simp only [endOfL]
  omega
theorem At.head {t : List NodeD} {i : Nat} {S : Tr} (h : At t i S) : S.flat.head? = some (gat encNode t i) := by
  obtain ⟨r, hr⟩ := h.drop
  rw [nat_drop h.lt] at hr
  cases S with
  | leaf n => simp [Tr.flat] at hr ⊢; exact hr.1.symm
  | split n a b => simp [Tr.flat] at hr ⊢; exact hr.1.symm
theorem At.parts {t : List NodeD} {i : Nat} {n : NodeD} {a b : Tr} (h : At t i (.split n a b)) : gat encNode t i = n ∧ At t (i + 1) a ∧ At t (i + 1 + a.flat.length) b := by
  obtain ⟨h0, h1, h2⟩ := h.shaped
  obtain ⟨r, hr⟩ := h.drop
  have hh := h.head
  simp [Tr.flat] at hh
  have hd : t.drop (i + 1) = a.flat ++ (b.flat ++ r) := by
    rw [← List.drop_drop, hr]
    simp [Tr.flat]
  refine ⟨hh.symm, ⟨h1, fun m hm => h.ok m (by simp [Tr.flat, hm]), _, hd⟩, ⟨h2, fun m hm => h.ok m (by simp [Tr.flat, hm]), r, ?_⟩⟩
  rw [← List.drop_drop, hd, List.drop_left]
def isSplit (t : List NodeD) (i : Nat) : Bool := decide ((gat encNode t i).Pane = 0)
theorem At.of_split {t : List NodeD} {i : Nat} {S : Tr} (h : At t i S) (hp : isSplit t i = true) : ∃ n a b, S = .split n a b := by
  have hh := h.head
  cases S with
  | leaf n =>
    simp [Tr.flat] at hh
    have := h.shaped
    simp only [Tr.shaped] at this
    rw [isSplit, ← hh] at hp
    exact absurd (by simpa using hp) this
  | split n a b => exact ⟨n, a, b, rfl⟩
theorem At.of_leaf {t : List NodeD} {i : Nat} {S : Tr} (h : At t i S) (hp : isSplit t i = false) : S = .leaf (gat encNode t i) := by
  have hh := h.head
  cases S with
  | leaf n => simp [Tr.flat] at hh; rw [hh]
  | split n a b =>
    simp [Tr.flat] at hh
    have := h.shaped.1
    rw [isSplit, ← hh] at hp
    exact absurd this (by simpa using hp)
def isOver (t : List NodeD) (at_ i : Nat) : Bool := isSplit t i && decide (endI t i > at_)
def lastI (p : Nat → Bool) : Nat → Int
  | 0 => -1
  | k + 1 => if p k = true then (k : Int) else lastI p k
def sizeR (n : NodeD) (r : RectD) : Int := if n.Down = true then r.H else r.W
def firstR (n : NodeD) (r : RectD) : RectD := if n.Down = true then { r with H := min n.First (r.H - 2) } else { r with W := min n.First (r.W - 2) }
def secondR (n : NodeD) (r : RectD) : RectD :=
  if n.Down = true then { r with Y := r.Y + min n.First (r.H - 2) + 1, H := r.H - min n.First (r.H - 2) - 1 } else { r with X := r.X + min n.First (r.W - 2) + 1, W := r.W - min n.First (r.W - 2) - 1 }
structure Fine (r : RectD) : Prop where
  pane : r.Pane = 0
  x : 0 ≤ r.X
  y : 0 ≤ r.Y
  w : 1 ≤ r.W
  h : 1 ≤ r.H
  xw : r.X + r.W ≤ 120
  yh : r.Y + r.H ≤ 120
theorem Fine.first {r : RectD} {n : NodeD} (h : Fine r) (hf : 1 ≤ n.First) (hs : 3 ≤ sizeR n r) : Fine (firstR n r) := by
  obtain ⟨h0, h1, h2, h3, h4, h5, h6⟩ := h
  unfold sizeR at hs
  unfold firstR
  split at hs <;> rename_i hd <;> simp only [hd] <;> constructor <;> simp <;> omega
theorem Fine.second {r : RectD} {n : NodeD} (h : Fine r) (hf : 1 ≤ n.First) (hs : 3 ≤ sizeR n r) : Fine (secondR n r) := by
  obtain ⟨h0, h1, h2, h3, h4, h5, h6⟩ := h
  unfold sizeR at hs
  unfold secondR
  split at hs <;> rename_i hd <;> simp only [hd] <;> constructor <;> simp <;> omega
def putL : Tr → RectD → List RectD × Bool
  | .leaf n, r => ([{ r with Pane := n.Pane }], true)
  | .split n a b, r =>
    if 3 ≤ sizeR n r then
      if (putL a (firstR n r)).2 = true then ({ r with Pane := n.Pane } :: ((putL a (firstR n r)).1 ++ (putL b (secondR n r)).1), (putL b (secondR n r)).2)
      else ({ r with Pane := n.Pane } :: (putL a (firstR n r)).1, false)
    else ([{ r with Pane := n.Pane }], false)
def placeS : Tr → RectD → List RectD × Bool
  | .leaf n, r => ([{ r with Pane := n.Pane }], true)
  | .split n a b, r => if 3 ≤ sizeR n r then ((placeS a (firstR n r)).1 ++ (placeS b (secondR n r)).1, (placeS a (firstR n r)).2 && (placeS b (secondR n r)).2) else ([], false)
def isLeafR (r : RectD) : Bool := decide (r.Pane ≠ 0)
theorem put_place : ∀ {T : Tr} {r : RectD}, T.shaped → (putL T r).2 = (placeS T r).2 ∧ ((placeS T r).2 = true → (putL T r).1.filter isLeafR = (placeS T r).1)
  | .leaf n, r, h => by
    simp only [Tr.shaped] at h
    simp [putL, placeS, isLeafR, h]
  | .split n a b, r, h => by
    obtain ⟨h0, h1, h2⟩ := h
    obtain ⟨e1, e2⟩ := put_place (T := a) (r := firstR n r) h1
    obtain ⟨e3, e4⟩ := put_place (T := b) (r := secondR n r) h2
    simp only [putL, placeS]
    by_cases hs : 3 ≤ sizeR n r
    · simp only [hs, if_true]
      cases ea : (placeS a (firstR n r)).2 with
      | false =>
        rw [ea] at e1
        simp [e1]
      | true =>
        rw [ea] at e1
        simp only [e1, if_true, Bool.true_and]
        refine ⟨e3, fun hb => ?_⟩
        rw [List.filter_cons, if_neg (by simp [isLeafR, h0]), List.filter_append, e2 ea, e4 hb]
    · simp [hs]
theorem putL_len : ∀ {T : Tr} {r : RectD}, (putL T r).1.length ≤ T.flat.length
  | .leaf n, r => by simp [putL, Tr.flat]
  | .split n a b, r => by
    have h1 := putL_len (T := a) (r := firstR n r)
    have h2 := putL_len (T := b) (r := secondR n r)
    simp only [putL, Tr.flat, List.length_cons, List.length_append]
    (repeat' split) <;> simp <;> omega
theorem placeS_len : ∀ {T : Tr} {r : RectD}, (placeS T r).1.length ≤ T.flat.length
  | .leaf n, r => by simp [placeS, Tr.flat]
  | .split n a b, r => by
    have h1 := placeS_len (T := a) (r := firstR n r)
    have h2 := placeS_len (T := b) (r := secondR n r)
    simp only [placeS, Tr.flat, List.length_cons, List.length_append]
    split <;> simp <;> omega
def cutOk (t : List NodeD) (p : Int) : Bool := treeOk t && decide (1 ≤ atL t p)
def upL (t : List NodeD) (p : Int) : Nat := (lastI (isOver t (atL t p).toNat) (atL t p).toNat).toNat
def cutL (t : List NodeD) (p : Int) : List NodeD :=
  if cutOk t p = true then t.take (upL t p) ++ (t.drop (upL t p + 1)).take ((atL t p).toNat - (upL t p + 1)) ++ t.drop ((atL t p).toNat + 1) else []
def parseF : Nat → List NodeD → Option (Tr × List NodeD)
  | 0, _ => none
  | _ + 1, [] => none
  | k + 1, n :: r => if n.Pane ≠ 0 then some (.leaf n, r) else match parseF k r with
    | none => none
    | some (a, r1) => match parseF k r1 with
      | none => none
      | some (b, r2) => some (.split n a b, r2)
theorem parseF_flat : ∀ {T : Tr} {k : Nat} {r : List NodeD}, T.shaped → T.flat.length ≤ k → parseF k (T.flat ++ r) = some (T, r)
  | .leaf n, k, r, hs, hk => by
    cases k with
    | zero => simp [Tr.flat] at hk
    | succ k =>
      simp only [Tr.shaped] at hs
      simp [Tr.flat, parseF, hs]
  | .split n a b, k, r, hs, hk => by
    cases k with
    | zero => simp [Tr.flat] at hk
    | succ k =>
      obtain ⟨h0, h1, h2⟩ := hs
      simp only [Tr.flat, List.length_cons, List.length_append] at hk
      have ha := parseF_flat (T := a) (k := k) (r := b.flat ++ r) h1 (by omega)
      have hb := parseF_flat (T := b) (k := k) (r := r) h2 (by omega)
      simp only [Tr.flat, List.cons_append, List.append_assoc, parseF, h0, ha, hb]
      simp
def theT (t : List NodeD) : Tr := match parseF t.length t with | some (T, _) => T | none => .leaf ⟨0, false, 0⟩
theorem theT_eq {t : List NodeD} {T : Tr} (h : Valid t T) : theT t = T := by
  obtain ⟨hT, _, rfl⟩ := h
  have := parseF_flat (T := T) (k := T.flat.length) (r := []) hT (Nat.le_refl _)
  rw [List.append_nil] at this
  rw [theT, this]
theorem theT_at {t : List NodeD} (h : treeOk t = true) : At t 0 (theT t) ∧ (theT t).flat = t ∧ (theT t).shaped := by
  obtain ⟨_, ⟨T, hv⟩, _⟩ := treeOk_iff.1 h
  rw [theT_eq hv]
  exact ⟨⟨hv.1, by rw [hv.2.2]; exact hv.2.1, [], by rw [hv.2.2]; simp⟩, hv.2.2, hv.1⟩
theorem fine0 {w h : Int} (hw : within w 1 120 = true) (hh : within h 1 120 = true) : Fine ⟨0, 0, 0, w, h⟩ := by
  rw [within_iff] at hw hh
  constructor <;> simp <;> omega
def sidesOk (t : List NodeD) (w h : Int) : Bool := treeOk t && within w 1 120 && within h 1 120
def placesOk (t : List NodeD) (w h : Int) : Bool := sidesOk t w h && (placeS (theT t) ⟨0, 0, 0, w, h⟩).2
def placesL (t : List NodeD) (w h : Int) : List RectD := if placesOk t w h = true then (placeS (theT t) ⟨0, 0, 0, w, h⟩).1 else []
def areasL (t : List NodeD) (w h : Int) : List RectD := if sidesOk t w h = true then (putL (theT t) ⟨0, 0, 0, w, h⟩).1 else []
theorem placesL_len (t : List NodeD) (w h : Int) : (placesL t w h).length ≤ 31 := by
  unfold placesL
  split
  · rename_i hp
    simp only [placesOk, sidesOk, Bool.and_eq_true] at hp
    have h1 := treeOk_len hp.1.1.1
    have h2 := placeS_len (T := theT t) (r := ⟨0, 0, 0, w, h⟩)
    rw [(theT_at hp.1.1.1).2.1] at h2
    omega
  · simp
theorem areasL_len (t : List NodeD) (w h : Int) : (areasL t w h).length ≤ 31 := by
  unfold areasL
  split
  · rename_i hp
    simp only [sidesOk, Bool.and_eq_true] at hp
    have h1 := treeOk_len hp.1.1
    have h2 := putL_len (T := theT t) (r := ⟨0, 0, 0, w, h⟩)
    rw [(theT_at hp.1.1).2.1] at h2
    omega
  · simp
theorem put_eq {t : List NodeD} {w h : Int} (ht : treeOk t = true) : (putL (theT t) ⟨0, 0, 0, w, h⟩).2 = (placeS (theT t) ⟨0, 0, 0, w, h⟩).2 := (put_place (theT_at ht).2.2).1
theorem areas_filter {t : List NodeD} {w h : Int} (hp : placesOk t w h = true) : (areasL t w h).filter (fun r => !decide (r.Pane = 0)) = placesL t w h := by
  have hp' := hp
  simp only [placesOk, Bool.and_eq_true] at hp'
  have hs := hp'.1
  simp only [sidesOk, Bool.and_eq_true] at hs
  rw [areasL, if_pos hp'.1, placesL, if_pos hp, ← (put_place (theT_at hs.1.1).2.2).2 hp'.2]
  congr 1
  funext r
  simp [isLeafR]
def placeAt (t : List NodeD) (w h p : Int) : Int := findI (fun r : RectD => decide (r.Pane = p)) (placesL t w h)
def placeR (t : List NodeD) (w h p : Int) : RectD := if 0 ≤ placeAt t w h p then gat encRect (placesL t w h) (placeAt t w h p).toNat else ⟨0, 0, 0, 0, 0⟩
theorem placeAt_lt (t : List NodeD) (w h p : Int) : -1 ≤ placeAt t w h p ∧ placeAt t w h p < (placesL t w h).length := findI_lt
structure Within (q r : RectD) : Prop where
  x0 : r.X ≤ q.X
  y0 : r.Y ≤ q.Y
  w1 : 1 ≤ q.W
  h1 : 1 ≤ q.H
  x1 : q.X + q.W ≤ r.X + r.W
  y1 : q.Y + q.H ≤ r.Y + r.H
theorem Within.trans {a b c : RectD} (h : Within a b) (k : Within b c) : Within a c :=
  ⟨by have := h.x0; have := k.x0; omega, by have := h.y0; have := k.y0; omega, h.w1, h.h1, by have := h.x1; have := k.x1; omega, by have := h.y1; have := k.y1; omega⟩
theorem filter_take {α : Type} {F : Enc α} {p : α → Bool} {xs : List α} {j : Nat} (hj : j < xs.length) : (xs.take (j + 1)).filter p = (xs.take j).filter p ++ (if p (gat F xs j) = true then [gat F xs j] else []) := by
  rw [List.take_add_one, gat_get (F := F) hj, List.filter_append]
  congr 1
  cases h : p (gat F xs j) <;> simp [h]
theorem filter_none {α : Type} {p : α → Bool} {xs : List α} (h : ∀ x, x ∈ xs → p x = false) : xs.filter (fun x => !p x) = xs := by
  rw [List.filter_eq_self]
  intro x hx
  simp [h x hx]
theorem set_take {α : Type} {zs : List α} {i : Nat} {x : α} (h : i < zs.length) : (zs.set i x).take (i + 1) = zs.take i ++ [x] := by
  have hl : (zs.set i x)[i]? = some x := by simp [h]
  rw [List.take_add_one, hl, List.take_set_of_le (Nat.le_refl i)]
  rfl
theorem gat_set_ne {α : Type} {F : Enc α} {zs : List α} {i k : Nat} {x : α} (h : k ≠ i) : gat F (zs.set i x) k = gat F zs k := by
  unfold gat
  simp [List.getD_eq_getElem?_getD, List.getElem?_set_ne (Ne.symm h)]
theorem findI_map {α β : Type} {f : α → β} {p : β → Bool} {l : List α} : findI p (l.map f) = findI (fun x => p (f x)) l := by
 unfold findI
 rw [List.findIdx?_map]
 rfl
def hasI (l : List Int) (x : Int) : Bool := decide (x ∈ l)
theorem hasI_find {l : List Int} {x : Int} : decide (0 ≤ findI (fun z => decide (x = z)) l) = hasI l x := by
 have h := all_find (p := fun z => !decide (x = z)) (l := l)
 simp only [Bool.not_not] at h
 have h2 : decide (0 ≤ findI (fun z => decide (x = z)) l) = !(l.all fun z => !decide (x = z)) := by rw [← h, Bool.not_not]
 rw [h2, Bool.eq_iff_iff]
 simp [hasI]
theorem hasI_not {l : List Int} {x : Int} (h : ∀ j, j < l.length → iat l j ≠ x) : x ∉ l := by
 intro hx
 obtain ⟨j, hj, rfl⟩ := List.mem_iff_getElem.1 hx
 exact h j hj (by simp [gat, List.getD, hj])
end Go.Proofs.YthfhhldbglaieaaGreat
