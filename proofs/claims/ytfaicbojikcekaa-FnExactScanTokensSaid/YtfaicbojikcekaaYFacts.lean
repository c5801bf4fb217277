/-
  Proved here: closed facts of the translated program: types, their sizes, results.
  No condition beyond what each statement spells out.
-/
import Derived.Test.YtfaicbojikcekaaProg
import Derived.Test.YtfaicbojikcekaaF3
import Derived.KernelRfl
set_option linter.all false
/-
  Closed facts on the translation: sizes, fields and zero values of its types; that its functions have bodies. Written by a program of ours.
-/
namespace Go.Proofs.Ytfaicbojikcekaa
@[simp] theorem Try.agg2 : Aw.aggSize Try.prog 2 = none := by kernel_rfl
@[simp] theorem Try.one2 : Aw.oneSize Try.prog 2 = true := by kernel_rfl
@[simp] theorem Try.siz2 : Aw.sizeA Try.prog 2 = some 1 := by kernel_rfl
@[simp] theorem Try.zer2 : Aw.zeroA Try.prog 2 = some [.int .i64 0] := by kernel_rfl
@[simp] theorem Try.zsz2 : Aw.zeroSz Try.prog 2 1 = true := by kernel_rfl
@[simp] theorem Try.int2 : Aw.intType Try.prog 2 = some .i64 := by kernel_rfl
@[simp] theorem Try.som2 : (Try.prog.underlying 2).isSome = true := by kernel_rfl
@[simp] theorem Try.agg3 : Aw.aggSize Try.prog 3 = none := by kernel_rfl
@[simp] theorem Try.one3 : Aw.oneSize Try.prog 3 = true := by kernel_rfl
@[simp] theorem Try.siz3 : Aw.sizeA Try.prog 3 = some 1 := by kernel_rfl
@[simp] theorem Try.zer3 : Aw.zeroA Try.prog 3 = some [.int .i64 0] := by kernel_rfl
@[simp] theorem Try.zsz3 : Aw.zeroSz Try.prog 3 1 = true := by kernel_rfl
@[simp] theorem Try.int3 : Aw.intType Try.prog 3 = some .i64 := by kernel_rfl
@[simp] theorem Try.som3 : (Try.prog.underlying 3).isSome = true := by kernel_rfl
@[simp] theorem Try.agg4 : Aw.aggSize Try.prog 4 = none := by kernel_rfl
@[simp] theorem Try.one4 : Aw.oneSize Try.prog 4 = true := by kernel_rfl
@[simp] theorem Try.siz4 : Aw.sizeA Try.prog 4 = some 1 := by kernel_rfl
@[simp] theorem Try.zer4 : Aw.zeroA Try.prog 4 = some [.bool false] := by kernel_rfl
@[simp] theorem Try.zsz4 : Aw.zeroSz Try.prog 4 1 = true := by kernel_rfl
@[simp] theorem Try.bol4 : Aw.boolType Try.prog 4 = true := by kernel_rfl
@[simp] theorem Try.agg5 : Aw.aggSize Try.prog 5 = none := by kernel_rfl
@[simp] theorem Try.one5 : Aw.oneSize Try.prog 5 = true := by kernel_rfl
@[simp] theorem Try.siz5 : Aw.sizeA Try.prog 5 = some 1 := by kernel_rfl
@[simp] theorem Try.zer5 : Aw.zeroA Try.prog 5 = some [.int .u8 0] := by kernel_rfl
@[simp] theorem Try.zsz5 : Aw.zeroSz Try.prog 5 1 = true := by kernel_rfl
@[simp] theorem Try.int5 : Aw.intType Try.prog 5 = some .u8 := by kernel_rfl
@[simp] theorem Try.som5 : (Try.prog.underlying 5).isSome = true := by kernel_rfl
@[simp] theorem Try.agg9 : Aw.aggSize Try.prog 9 = none := by kernel_rfl
@[simp] theorem Try.one9 : Aw.oneSize Try.prog 9 = true := by kernel_rfl
@[simp] theorem Try.siz9 : Aw.sizeA Try.prog 9 = some 1 := by kernel_rfl
@[simp] theorem Try.zer9 : Aw.zeroA Try.prog 9 = some [.str []] := by kernel_rfl
@[simp] theorem Try.zsz9 : Aw.zeroSz Try.prog 9 1 = true := by kernel_rfl
@[simp] theorem Try.iss9 : Aw.isString Try.prog 9 = true := by kernel_rfl
@[simp] theorem Try.apd9 : Aw.appendable Try.prog 9 = true := by kernel_rfl
@[simp] theorem Try.agg12 : Aw.aggSize Try.prog 12 = none := by kernel_rfl
@[simp] theorem Try.one12 : Aw.oneSize Try.prog 12 = true := by kernel_rfl
@[simp] theorem Try.siz12 : Aw.sizeA Try.prog 12 = some 1 := by kernel_rfl
@[simp] theorem Try.zer12 : Aw.zeroA Try.prog 12 = some [.int .u64 0] := by kernel_rfl
@[simp] theorem Try.zsz12 : Aw.zeroSz Try.prog 12 1 = true := by kernel_rfl
@[simp] theorem Try.int12 : Aw.intType Try.prog 12 = some .u64 := by kernel_rfl
@[simp] theorem Try.som12 : (Try.prog.underlying 12).isSome = true := by kernel_rfl
@[simp] theorem Try.agg21 : Aw.aggSize Try.prog 21 = none := by kernel_rfl
@[simp] theorem Try.one21 : Aw.oneSize Try.prog 21 = true := by kernel_rfl
@[simp] theorem Try.siz21 : Aw.sizeA Try.prog 21 = some 1 := by kernel_rfl
@[simp] theorem Try.zer21 : Aw.zeroA Try.prog 21 = some [.int .i32 0] := by kernel_rfl
@[simp] theorem Try.zsz21 : Aw.zeroSz Try.prog 21 1 = true := by kernel_rfl
@[simp] theorem Try.int21 : Aw.intType Try.prog 21 = some .i32 := by kernel_rfl
@[simp] theorem Try.som21 : (Try.prog.underlying 21).isSome = true := by kernel_rfl
@[simp] theorem Try.agg22 : Aw.aggSize Try.prog 22 = none := by kernel_rfl
@[simp] theorem Try.one22 : Aw.oneSize Try.prog 22 = true := by kernel_rfl
@[simp] theorem Try.siz22 : Aw.sizeA Try.prog 22 = some 1 := by kernel_rfl
@[simp] theorem Try.zer22 : Aw.zeroA Try.prog 22 = some [.sl .own 0 []] := by kernel_rfl
@[simp] theorem Try.zsz22 : Aw.zeroSz Try.prog 22 1 = true := by kernel_rfl
@[simp] theorem Try.elm22 : Aw.elemA Try.prog 22 = some (120, 9, 104) := by kernel_rfl
@[simp] theorem Try.isl22 : Aw.isSlice Try.prog 22 = true := by kernel_rfl
@[simp] theorem Try.apd22 : Aw.appendable Try.prog 22 = true := by kernel_rfl
@[simp] theorem Try.agg24 : Aw.aggSize Try.prog 24 = some 2 := by kernel_rfl
@[simp] theorem Try.siz24 : Aw.sizeA Try.prog 24 = some 2 := by kernel_rfl
@[simp] theorem Try.zer24 : Aw.zeroA Try.prog 24 = some [.str [], .str []] := by kernel_rfl
@[simp] theorem Try.zsz24 : Aw.zeroSz Try.prog 24 2 = true := by kernel_rfl
@[simp] theorem Try.fld24_0 : Aw.fieldA Try.prog 24 0 = some 0 := by kernel_rfl
@[simp] theorem Try.fld24_1 : Aw.fieldA Try.prog 24 1 = some 1 := by kernel_rfl
@[simp] theorem Try.plc24 : Aw.placesA Try.prog 24 = some [(0, 1), (1, 1)] := by kernel_rfl
@[simp] theorem Try.agg27 : Aw.aggSize Try.prog 27 = none := by kernel_rfl
@[simp] theorem Try.one27 : Aw.oneSize Try.prog 27 = true := by kernel_rfl
@[simp] theorem Try.siz27 : Aw.sizeA Try.prog 27 = some 1 := by kernel_rfl
@[simp] theorem Try.zer27 : Aw.zeroA Try.prog 27 = some [.sl .own 0 []] := by kernel_rfl
@[simp] theorem Try.zsz27 : Aw.zeroSz Try.prog 27 1 = true := by kernel_rfl
@[simp] theorem Try.elm27 : Aw.elemA Try.prog 27 = some (124, 9, 104) := by kernel_rfl
@[simp] theorem Try.isl27 : Aw.isSlice Try.prog 27 = true := by kernel_rfl
@[simp] theorem Try.apd27 : Aw.appendable Try.prog 27 = true := by kernel_rfl
@[simp] theorem Try.agg29 : Aw.aggSize Try.prog 29 = some 6 := by kernel_rfl
@[simp] theorem Try.siz29 : Aw.sizeA Try.prog 29 = some 6 := by kernel_rfl
@[simp] theorem Try.zer29 : Aw.zeroA Try.prog 29 = some [.int .i64 0, .int .i64 0, .str [], .int .i64 0, .bool false, .str []] := by kernel_rfl
@[simp] theorem Try.zsz29 : Aw.zeroSz Try.prog 29 6 = true := by kernel_rfl
@[simp] theorem Try.fld29_0 : Aw.fieldA Try.prog 29 0 = some 0 := by kernel_rfl
@[simp] theorem Try.fld29_1 : Aw.fieldA Try.prog 29 1 = some 1 := by kernel_rfl
@[simp] theorem Try.fld29_2 : Aw.fieldA Try.prog 29 2 = some 2 := by kernel_rfl
@[simp] theorem Try.fld29_3 : Aw.fieldA Try.prog 29 3 = some 3 := by kernel_rfl
@[simp] theorem Try.fld29_4 : Aw.fieldA Try.prog 29 4 = some 4 := by kernel_rfl
@[simp] theorem Try.fld29_5 : Aw.fieldA Try.prog 29 5 = some 5 := by kernel_rfl
@[simp] theorem Try.plc29 : Aw.placesA Try.prog 29 = some [(0, 1), (1, 1), (2, 1), (3, 1), (4, 1), (5, 1)] := by kernel_rfl
@[simp] theorem Try.agg33 : Aw.aggSize Try.prog 33 = some 2 := by kernel_rfl
@[simp] theorem Try.siz33 : Aw.sizeA Try.prog 33 = some 2 := by kernel_rfl
@[simp] theorem Try.zer33 : Aw.zeroA Try.prog 33 = some [.str [], .str []] := by kernel_rfl
@[simp] theorem Try.zsz33 : Aw.zeroSz Try.prog 33 2 = true := by kernel_rfl
@[simp] theorem Try.fld33_0 : Aw.fieldA Try.prog 33 0 = some 0 := by kernel_rfl
@[simp] theorem Try.fld33_1 : Aw.fieldA Try.prog 33 1 = some 1 := by kernel_rfl
@[simp] theorem Try.plc33 : Aw.placesA Try.prog 33 = some [(0, 1), (1, 1)] := by kernel_rfl
@[simp] theorem Try.agg39 : Aw.aggSize Try.prog 39 = some 6 := by kernel_rfl
@[simp] theorem Try.siz39 : Aw.sizeA Try.prog 39 = some 6 := by kernel_rfl
@[simp] theorem Try.zer39 : Aw.zeroA Try.prog 39 = some [.int .i64 0, .int .i64 0, .str [], .int .i64 0, .bool false, .str []] := by kernel_rfl
@[simp] theorem Try.zsz39 : Aw.zeroSz Try.prog 39 6 = true := by kernel_rfl
@[simp] theorem Try.fld39_0 : Aw.fieldA Try.prog 39 0 = some 0 := by kernel_rfl
@[simp] theorem Try.fld39_1 : Aw.fieldA Try.prog 39 1 = some 1 := by kernel_rfl
@[simp] theorem Try.fld39_2 : Aw.fieldA Try.prog 39 2 = some 2 := by kernel_rfl
@[simp] theorem Try.fld39_3 : Aw.fieldA Try.prog 39 3 = some 3 := by kernel_rfl
@[simp] theorem Try.fld39_4 : Aw.fieldA Try.prog 39 4 = some 4 := by kernel_rfl
@[simp] theorem Try.fld39_5 : Aw.fieldA Try.prog 39 5 = some 5 := by kernel_rfl
@[simp] theorem Try.plc39 : Aw.placesA Try.prog 39 = some [(0, 1), (1, 1), (2, 1), (3, 1), (4, 1), (5, 1)] := by kernel_rfl
@[simp] theorem Try.agg45 : Aw.aggSize Try.prog 45 = none := by kernel_rfl
@[simp] theorem Try.one45 : Aw.oneSize Try.prog 45 = true := by kernel_rfl
@[simp] theorem Try.siz45 : Aw.sizeA Try.prog 45 = some 1 := by kernel_rfl
@[simp] theorem Try.zer45 : Aw.zeroA Try.prog 45 = some [.sl .own 0 []] := by kernel_rfl
@[simp] theorem Try.zsz45 : Aw.zeroSz Try.prog 45 1 = true := by kernel_rfl
@[simp] theorem Try.elm45 : Aw.elemA Try.prog 45 = some (181, 2, 32) := by kernel_rfl
@[simp] theorem Try.isl45 : Aw.isSlice Try.prog 45 = true := by kernel_rfl
@[simp] theorem Try.apd45 : Aw.appendable Try.prog 45 = true := by kernel_rfl
@[simp] theorem Try.agg47 : Aw.aggSize Try.prog 47 = some 4 := by kernel_rfl
@[simp] theorem Try.siz47 : Aw.sizeA Try.prog 47 = some 4 := by kernel_rfl
@[simp] theorem Try.zer47 : Aw.zeroA Try.prog 47 = some [.int .i64 0, .str [], .sl .own 0 [], .str []] := by kernel_rfl
@[simp] theorem Try.zsz47 : Aw.zeroSz Try.prog 47 4 = true := by kernel_rfl
@[simp] theorem Try.fld47_0 : Aw.fieldA Try.prog 47 0 = some 0 := by kernel_rfl
@[simp] theorem Try.fld47_1 : Aw.fieldA Try.prog 47 1 = some 1 := by kernel_rfl
@[simp] theorem Try.fld47_2 : Aw.fieldA Try.prog 47 2 = some 2 := by kernel_rfl
@[simp] theorem Try.fld47_3 : Aw.fieldA Try.prog 47 3 = some 3 := by kernel_rfl
@[simp] theorem Try.plc47 : Aw.placesA Try.prog 47 = some [(0, 1), (1, 1), (2, 1), (3, 1)] := by kernel_rfl
@[simp] theorem Try.agg50 : Aw.aggSize Try.prog 50 = some 5 := by kernel_rfl
@[simp] theorem Try.siz50 : Aw.sizeA Try.prog 50 = some 5 := by kernel_rfl
@[simp] theorem Try.zer50 : Aw.zeroA Try.prog 50 = some [.int .i64 0, .str [], .str [], .str [], .str []] := by kernel_rfl
@[simp] theorem Try.zsz50 : Aw.zeroSz Try.prog 50 5 = true := by kernel_rfl
@[simp] theorem Try.fld50_0 : Aw.fieldA Try.prog 50 0 = some 0 := by kernel_rfl
@[simp] theorem Try.fld50_1 : Aw.fieldA Try.prog 50 1 = some 1 := by kernel_rfl
@[simp] theorem Try.fld50_2 : Aw.fieldA Try.prog 50 2 = some 3 := by kernel_rfl
@[simp] theorem Try.fld50_3 : Aw.fieldA Try.prog 50 3 = some 4 := by kernel_rfl
@[simp] theorem Try.plc50 : Aw.placesA Try.prog 50 = some [(0, 1), (1, 2), (3, 1), (4, 1)] := by kernel_rfl
@[simp] theorem Try.agg53 : Aw.aggSize Try.prog 53 = none := by kernel_rfl
@[simp] theorem Try.one53 : Aw.oneSize Try.prog 53 = true := by kernel_rfl
@[simp] theorem Try.siz53 : Aw.sizeA Try.prog 53 = some 1 := by kernel_rfl
@[simp] theorem Try.zer53 : Aw.zeroA Try.prog 53 = some [.sl .own 0 []] := by kernel_rfl
@[simp] theorem Try.zsz53 : Aw.zeroSz Try.prog 53 1 = true := by kernel_rfl
@[simp] theorem Try.elm53 : Aw.elemA Try.prog 53 = some (182, 2, 32) := by kernel_rfl
@[simp] theorem Try.isl53 : Aw.isSlice Try.prog 53 = true := by kernel_rfl
@[simp] theorem Try.apd53 : Aw.appendable Try.prog 53 = true := by kernel_rfl
@[simp] theorem Try.agg55 : Aw.aggSize Try.prog 55 = some 4 := by kernel_rfl
@[simp] theorem Try.siz55 : Aw.sizeA Try.prog 55 = some 4 := by kernel_rfl
@[simp] theorem Try.zer55 : Aw.zeroA Try.prog 55 = some [.int .i64 0, .str [], .sl .own 0 [], .str []] := by kernel_rfl
@[simp] theorem Try.zsz55 : Aw.zeroSz Try.prog 55 4 = true := by kernel_rfl
@[simp] theorem Try.fld55_0 : Aw.fieldA Try.prog 55 0 = some 0 := by kernel_rfl
@[simp] theorem Try.fld55_1 : Aw.fieldA Try.prog 55 1 = some 1 := by kernel_rfl
@[simp] theorem Try.fld55_2 : Aw.fieldA Try.prog 55 2 = some 2 := by kernel_rfl
@[simp] theorem Try.fld55_3 : Aw.fieldA Try.prog 55 3 = some 3 := by kernel_rfl
@[simp] theorem Try.plc55 : Aw.placesA Try.prog 55 = some [(0, 1), (1, 1), (2, 1), (3, 1)] := by kernel_rfl
@[simp] theorem Try.agg60 : Aw.aggSize Try.prog 60 = none := by kernel_rfl
@[simp] theorem Try.one60 : Aw.oneSize Try.prog 60 = true := by kernel_rfl
@[simp] theorem Try.siz60 : Aw.sizeA Try.prog 60 = some 1 := by kernel_rfl
@[simp] theorem Try.zer60 : Aw.zeroA Try.prog 60 = some [.sl .own 0 []] := by kernel_rfl
@[simp] theorem Try.zsz60 : Aw.zeroSz Try.prog 60 1 = true := by kernel_rfl
@[simp] theorem Try.elm60 : Aw.elemA Try.prog 60 = some (47, 4, 64) := by kernel_rfl
@[simp] theorem Try.isl60 : Aw.isSlice Try.prog 60 = true := by kernel_rfl
@[simp] theorem Try.apd60 : Aw.appendable Try.prog 60 = true := by kernel_rfl
@[simp] theorem Try.agg62 : Aw.aggSize Try.prog 62 = none := by kernel_rfl
@[simp] theorem Try.one62 : Aw.oneSize Try.prog 62 = true := by kernel_rfl
@[simp] theorem Try.siz62 : Aw.sizeA Try.prog 62 = some 1 := by kernel_rfl
@[simp] theorem Try.zer62 : Aw.zeroA Try.prog 62 = some [.sl .own 0 []] := by kernel_rfl
@[simp] theorem Try.zsz62 : Aw.zeroSz Try.prog 62 1 = true := by kernel_rfl
@[simp] theorem Try.elm62 : Aw.elemA Try.prog 62 = some (50, 5, 72) := by kernel_rfl
@[simp] theorem Try.isl62 : Aw.isSlice Try.prog 62 = true := by kernel_rfl
@[simp] theorem Try.apd62 : Aw.appendable Try.prog 62 = true := by kernel_rfl
@[simp] theorem Try.agg64 : Aw.aggSize Try.prog 64 = none := by kernel_rfl
@[simp] theorem Try.one64 : Aw.oneSize Try.prog 64 = true := by kernel_rfl
@[simp] theorem Try.siz64 : Aw.sizeA Try.prog 64 = some 1 := by kernel_rfl
@[simp] theorem Try.zer64 : Aw.zeroA Try.prog 64 = some [.sl .own 0 []] := by kernel_rfl
@[simp] theorem Try.zsz64 : Aw.zeroSz Try.prog 64 1 = true := by kernel_rfl
@[simp] theorem Try.elm64 : Aw.elemA Try.prog 64 = some (55, 4, 64) := by kernel_rfl
@[simp] theorem Try.isl64 : Aw.isSlice Try.prog 64 = true := by kernel_rfl
@[simp] theorem Try.apd64 : Aw.appendable Try.prog 64 = true := by kernel_rfl
@[simp] theorem Try.agg71 : Aw.aggSize Try.prog 71 = none := by kernel_rfl
@[simp] theorem Try.one71 : Aw.oneSize Try.prog 71 = true := by kernel_rfl
@[simp] theorem Try.siz71 : Aw.sizeA Try.prog 71 = some 1 := by kernel_rfl
@[simp] theorem Try.zer71 : Aw.zeroA Try.prog 71 = some [.sl .own 0 []] := by kernel_rfl
@[simp] theorem Try.zsz71 : Aw.zeroSz Try.prog 71 1 = true := by kernel_rfl
@[simp] theorem Try.elm71 : Aw.elemA Try.prog 71 = some (221, 4, 64) := by kernel_rfl
@[simp] theorem Try.isl71 : Aw.isSlice Try.prog 71 = true := by kernel_rfl
@[simp] theorem Try.apd71 : Aw.appendable Try.prog 71 = true := by kernel_rfl
@[simp] theorem Try.agg72 : Aw.aggSize Try.prog 72 = none := by kernel_rfl
@[simp] theorem Try.one72 : Aw.oneSize Try.prog 72 = true := by kernel_rfl
@[simp] theorem Try.siz72 : Aw.sizeA Try.prog 72 = some 1 := by kernel_rfl
@[simp] theorem Try.zer72 : Aw.zeroA Try.prog 72 = some [.sl .own 0 []] := by kernel_rfl
@[simp] theorem Try.zsz72 : Aw.zeroSz Try.prog 72 1 = true := by kernel_rfl
@[simp] theorem Try.elm72 : Aw.elemA Try.prog 72 = some (3, 1, 8) := by kernel_rfl
@[simp] theorem Try.isl72 : Aw.isSlice Try.prog 72 = true := by kernel_rfl
@[simp] theorem Try.apd72 : Aw.appendable Try.prog 72 = true := by kernel_rfl
@[simp] theorem Try.agg74 : Aw.aggSize Try.prog 74 = some 2 := by kernel_rfl
@[simp] theorem Try.siz74 : Aw.sizeA Try.prog 74 = some 2 := by kernel_rfl
@[simp] theorem Try.zer74 : Aw.zeroA Try.prog 74 = some [.sl .own 0 [], .sl .own 0 []] := by kernel_rfl
@[simp] theorem Try.zsz74 : Aw.zeroSz Try.prog 74 2 = true := by kernel_rfl
@[simp] theorem Try.fld74_0 : Aw.fieldA Try.prog 74 0 = some 0 := by kernel_rfl
@[simp] theorem Try.fld74_1 : Aw.fieldA Try.prog 74 1 = some 1 := by kernel_rfl
@[simp] theorem Try.plc74 : Aw.placesA Try.prog 74 = some [(0, 1), (1, 1)] := by kernel_rfl
@[simp] theorem Try.agg75 : Aw.aggSize Try.prog 75 = none := by kernel_rfl
@[simp] theorem Try.one75 : Aw.oneSize Try.prog 75 = true := by kernel_rfl
@[simp] theorem Try.siz75 : Aw.sizeA Try.prog 75 = some 1 := by kernel_rfl
@[simp] theorem Try.zer75 : Aw.zeroA Try.prog 75 = some [.sl .own 0 []] := by kernel_rfl
@[simp] theorem Try.zsz75 : Aw.zeroSz Try.prog 75 1 = true := by kernel_rfl
@[simp] theorem Try.elm75 : Aw.elemA Try.prog 75 = some (9, 1, 16) := by kernel_rfl
@[simp] theorem Try.isl75 : Aw.isSlice Try.prog 75 = true := by kernel_rfl
@[simp] theorem Try.apd75 : Aw.appendable Try.prog 75 = true := by kernel_rfl
@[simp] theorem Try.agg76 : Aw.aggSize Try.prog 76 = none := by kernel_rfl
@[simp] theorem Try.one76 : Aw.oneSize Try.prog 76 = true := by kernel_rfl
@[simp] theorem Try.siz76 : Aw.sizeA Try.prog 76 = some 1 := by kernel_rfl
@[simp] theorem Try.zer76 : Aw.zeroA Try.prog 76 = some [.sl .own 0 []] := by kernel_rfl
@[simp] theorem Try.zsz76 : Aw.zeroSz Try.prog 76 1 = true := by kernel_rfl
@[simp] theorem Try.elm76 : Aw.elemA Try.prog 76 = some (223, 2, 24) := by kernel_rfl
@[simp] theorem Try.isl76 : Aw.isSlice Try.prog 76 = true := by kernel_rfl
@[simp] theorem Try.apd76 : Aw.appendable Try.prog 76 = true := by kernel_rfl
@[simp] theorem Try.agg78 : Aw.aggSize Try.prog 78 = some 1 := by kernel_rfl
@[simp] theorem Try.siz78 : Aw.sizeA Try.prog 78 = some 1 := by kernel_rfl
@[simp] theorem Try.zer78 : Aw.zeroA Try.prog 78 = some [.sl .own 0 []] := by kernel_rfl
@[simp] theorem Try.zsz78 : Aw.zeroSz Try.prog 78 1 = true := by kernel_rfl
@[simp] theorem Try.fld78_0 : Aw.fieldA Try.prog 78 0 = some 0 := by kernel_rfl
@[simp] theorem Try.plc78 : Aw.placesA Try.prog 78 = some [(0, 1)] := by kernel_rfl
@[simp] theorem Try.agg80 : Aw.aggSize Try.prog 80 = some 6 := by kernel_rfl
@[simp] theorem Try.siz80 : Aw.sizeA Try.prog 80 = some 6 := by kernel_rfl
@[simp] theorem Try.zer80 : Aw.zeroA Try.prog 80 = some [.sl .own 0 [], .sl .own 0 [], .sl .own 0 [], .sl .own 0 [], .sl .own 0 [], .bool false] := by kernel_rfl
@[simp] theorem Try.zsz80 : Aw.zeroSz Try.prog 80 6 = true := by kernel_rfl
@[simp] theorem Try.fld80_0 : Aw.fieldA Try.prog 80 0 = some 0 := by kernel_rfl
@[simp] theorem Try.fld80_1 : Aw.fieldA Try.prog 80 1 = some 2 := by kernel_rfl
@[simp] theorem Try.fld80_2 : Aw.fieldA Try.prog 80 2 = some 3 := by kernel_rfl
@[simp] theorem Try.fld80_3 : Aw.fieldA Try.prog 80 3 = some 4 := by kernel_rfl
@[simp] theorem Try.fld80_4 : Aw.fieldA Try.prog 80 4 = some 5 := by kernel_rfl
@[simp] theorem Try.plc80 : Aw.placesA Try.prog 80 = some [(0, 2), (2, 1), (3, 1), (4, 1), (5, 1)] := by kernel_rfl
@[simp] theorem Try.agg83 : Aw.aggSize Try.prog 83 = none := by kernel_rfl
@[simp] theorem Try.one83 : Aw.oneSize Try.prog 83 = true := by kernel_rfl
@[simp] theorem Try.siz83 : Aw.sizeA Try.prog 83 = some 1 := by kernel_rfl
@[simp] theorem Try.zer83 : Aw.zeroA Try.prog 83 = some [.sl .own 0 []] := by kernel_rfl
@[simp] theorem Try.zsz83 : Aw.zeroSz Try.prog 83 1 = true := by kernel_rfl
@[simp] theorem Try.elm83 : Aw.elemA Try.prog 83 = some (196, 4, 64) := by kernel_rfl
@[simp] theorem Try.isl83 : Aw.isSlice Try.prog 83 = true := by kernel_rfl
@[simp] theorem Try.apd83 : Aw.appendable Try.prog 83 = true := by kernel_rfl
@[simp] theorem Try.agg85 : Aw.aggSize Try.prog 85 = some 2 := by kernel_rfl
@[simp] theorem Try.siz85 : Aw.sizeA Try.prog 85 = some 2 := by kernel_rfl
@[simp] theorem Try.zer85 : Aw.zeroA Try.prog 85 = some [.sl .own 0 [], .sl .own 0 []] := by kernel_rfl
@[simp] theorem Try.zsz85 : Aw.zeroSz Try.prog 85 2 = true := by kernel_rfl
@[simp] theorem Try.fld85_0 : Aw.fieldA Try.prog 85 0 = some 0 := by kernel_rfl
@[simp] theorem Try.fld85_1 : Aw.fieldA Try.prog 85 1 = some 1 := by kernel_rfl
@[simp] theorem Try.plc85 : Aw.placesA Try.prog 85 = some [(0, 1), (1, 1)] := by kernel_rfl
@[simp] theorem Try.agg86 : Aw.aggSize Try.prog 86 = none := by kernel_rfl
@[simp] theorem Try.one86 : Aw.oneSize Try.prog 86 = true := by kernel_rfl
@[simp] theorem Try.siz86 : Aw.sizeA Try.prog 86 = some 1 := by kernel_rfl
@[simp] theorem Try.zer86 : Aw.zeroA Try.prog 86 = some [.sl .own 0 []] := by kernel_rfl
@[simp] theorem Try.zsz86 : Aw.zeroSz Try.prog 86 1 = true := by kernel_rfl
@[simp] theorem Try.elm86 : Aw.elemA Try.prog 86 = some (198, 2, 24) := by kernel_rfl
@[simp] theorem Try.isl86 : Aw.isSlice Try.prog 86 = true := by kernel_rfl
@[simp] theorem Try.apd86 : Aw.appendable Try.prog 86 = true := by kernel_rfl
@[simp] theorem Try.agg88 : Aw.aggSize Try.prog 88 = some 1 := by kernel_rfl
@[simp] theorem Try.siz88 : Aw.sizeA Try.prog 88 = some 1 := by kernel_rfl
@[simp] theorem Try.zer88 : Aw.zeroA Try.prog 88 = some [.sl .own 0 []] := by kernel_rfl
@[simp] theorem Try.zsz88 : Aw.zeroSz Try.prog 88 1 = true := by kernel_rfl
@[simp] theorem Try.fld88_0 : Aw.fieldA Try.prog 88 0 = some 0 := by kernel_rfl
@[simp] theorem Try.plc88 : Aw.placesA Try.prog 88 = some [(0, 1)] := by kernel_rfl
@[simp] theorem Try.agg90 : Aw.aggSize Try.prog 90 = some 6 := by kernel_rfl
@[simp] theorem Try.siz90 : Aw.sizeA Try.prog 90 = some 6 := by kernel_rfl
@[simp] theorem Try.zer90 : Aw.zeroA Try.prog 90 = some [.sl .own 0 [], .sl .own 0 [], .sl .own 0 [], .sl .own 0 [], .sl .own 0 [], .bool false] := by kernel_rfl
@[simp] theorem Try.zsz90 : Aw.zeroSz Try.prog 90 6 = true := by kernel_rfl
@[simp] theorem Try.fld90_0 : Aw.fieldA Try.prog 90 0 = some 0 := by kernel_rfl
@[simp] theorem Try.fld90_1 : Aw.fieldA Try.prog 90 1 = some 2 := by kernel_rfl
@[simp] theorem Try.fld90_2 : Aw.fieldA Try.prog 90 2 = some 3 := by kernel_rfl
@[simp] theorem Try.fld90_3 : Aw.fieldA Try.prog 90 3 = some 4 := by kernel_rfl
@[simp] theorem Try.fld90_4 : Aw.fieldA Try.prog 90 4 = some 5 := by kernel_rfl
@[simp] theorem Try.plc90 : Aw.placesA Try.prog 90 = some [(0, 2), (2, 1), (3, 1), (4, 1), (5, 1)] := by kernel_rfl
@[simp] theorem Try.agg94 : Aw.aggSize Try.prog 94 = some 5 := by kernel_rfl
@[simp] theorem Try.siz94 : Aw.sizeA Try.prog 94 = some 5 := by kernel_rfl
@[simp] theorem Try.zer94 : Aw.zeroA Try.prog 94 = some [.bool false, .sl .own 0 [], .sl .own 0 [], .sl .own 0 [], .str []] := by kernel_rfl
@[simp] theorem Try.zsz94 : Aw.zeroSz Try.prog 94 5 = true := by kernel_rfl
@[simp] theorem Try.fld94_0 : Aw.fieldA Try.prog 94 0 = some 0 := by kernel_rfl
@[simp] theorem Try.fld94_1 : Aw.fieldA Try.prog 94 1 = some 1 := by kernel_rfl
@[simp] theorem Try.fld94_2 : Aw.fieldA Try.prog 94 2 = some 2 := by kernel_rfl
@[simp] theorem Try.fld94_3 : Aw.fieldA Try.prog 94 3 = some 3 := by kernel_rfl
@[simp] theorem Try.fld94_4 : Aw.fieldA Try.prog 94 4 = some 4 := by kernel_rfl
@[simp] theorem Try.plc94 : Aw.placesA Try.prog 94 = some [(0, 1), (1, 1), (2, 1), (3, 1), (4, 1)] := by kernel_rfl
@[simp] theorem Try.agg96 : Aw.aggSize Try.prog 96 = some 1 := by kernel_rfl
@[simp] theorem Try.siz96 : Aw.sizeA Try.prog 96 = some 1 := by kernel_rfl
@[simp] theorem Try.zer96 : Aw.zeroA Try.prog 96 = some [.str []] := by kernel_rfl
@[simp] theorem Try.zsz96 : Aw.zeroSz Try.prog 96 1 = true := by kernel_rfl
@[simp] theorem Try.fld96_0 : Aw.fieldA Try.prog 96 0 = some 0 := by kernel_rfl
@[simp] theorem Try.plc96 : Aw.placesA Try.prog 96 = some [(0, 1)] := by kernel_rfl
@[simp] theorem Try.agg97 : Aw.aggSize Try.prog 97 = none := by kernel_rfl
@[simp] theorem Try.one97 : Aw.oneSize Try.prog 97 = true := by kernel_rfl
@[simp] theorem Try.siz97 : Aw.sizeA Try.prog 97 = some 1 := by kernel_rfl
@[simp] theorem Try.zer97 : Aw.zeroA Try.prog 97 = some [.sl .own 0 []] := by kernel_rfl
@[simp] theorem Try.zsz97 : Aw.zeroSz Try.prog 97 1 = true := by kernel_rfl
@[simp] theorem Try.elm97 : Aw.elemA Try.prog 97 = some (207, 8, 96) := by kernel_rfl
@[simp] theorem Try.isl97 : Aw.isSlice Try.prog 97 = true := by kernel_rfl
@[simp] theorem Try.apd97 : Aw.appendable Try.prog 97 = true := by kernel_rfl
@[simp] theorem Try.agg98 : Aw.aggSize Try.prog 98 = none := by kernel_rfl
@[simp] theorem Try.one98 : Aw.oneSize Try.prog 98 = true := by kernel_rfl
@[simp] theorem Try.siz98 : Aw.sizeA Try.prog 98 = some 1 := by kernel_rfl
@[simp] theorem Try.zer98 : Aw.zeroA Try.prog 98 = some [.sl .own 0 []] := by kernel_rfl
@[simp] theorem Try.zsz98 : Aw.zeroSz Try.prog 98 1 = true := by kernel_rfl
@[simp] theorem Try.elm98 : Aw.elemA Try.prog 98 = some (210, 5, 64) := by kernel_rfl
@[simp] theorem Try.isl98 : Aw.isSlice Try.prog 98 = true := by kernel_rfl
@[simp] theorem Try.apd98 : Aw.appendable Try.prog 98 = true := by kernel_rfl
@[simp] theorem Try.agg99 : Aw.aggSize Try.prog 99 = none := by kernel_rfl
@[simp] theorem Try.one99 : Aw.oneSize Try.prog 99 = true := by kernel_rfl
@[simp] theorem Try.siz99 : Aw.sizeA Try.prog 99 = some 1 := by kernel_rfl
@[simp] theorem Try.zer99 : Aw.zeroA Try.prog 99 = some [.sl .own 0 []] := by kernel_rfl
@[simp] theorem Try.zsz99 : Aw.zeroSz Try.prog 99 1 = true := by kernel_rfl
@[simp] theorem Try.elm99 : Aw.elemA Try.prog 99 = some (24, 2, 32) := by kernel_rfl
@[simp] theorem Try.isl99 : Aw.isSlice Try.prog 99 = true := by kernel_rfl
@[simp] theorem Try.apd99 : Aw.appendable Try.prog 99 = true := by kernel_rfl
@[simp] theorem Try.agg101 : Aw.aggSize Try.prog 101 = some 22 := by kernel_rfl
@[simp] theorem Try.siz101 : Aw.sizeA Try.prog 101 = some 22 := by kernel_rfl
@[simp] theorem Try.zer101 : Aw.zeroA Try.prog 101 = some [.str [], .str [], .bool false, .sl .own 0 [], .sl .own 0 [], .sl .own 0 [], .str [], .str [], .sl .own 0 [], .bool false, .sl .own 0 [], .sl .own 0 [], .sl .own 0 [], .sl .own 0 [], .sl .own 0 [], .int .i64 0, .int .i64 0, .int .i64 0, .int .i64 0, .sl .own 0 [], .sl .own 0 [], .bool false] := by kernel_rfl
@[simp] theorem Try.zsz101 : Aw.zeroSz Try.prog 101 22 = true := by kernel_rfl
@[simp] theorem Try.fld101_0 : Aw.fieldA Try.prog 101 0 = some 0 := by kernel_rfl
@[simp] theorem Try.fld101_1 : Aw.fieldA Try.prog 101 1 = some 2 := by kernel_rfl
@[simp] theorem Try.fld101_2 : Aw.fieldA Try.prog 101 2 = some 7 := by kernel_rfl
@[simp] theorem Try.fld101_3 : Aw.fieldA Try.prog 101 3 = some 8 := by kernel_rfl
@[simp] theorem Try.fld101_4 : Aw.fieldA Try.prog 101 4 = some 9 := by kernel_rfl
@[simp] theorem Try.fld101_5 : Aw.fieldA Try.prog 101 5 = some 10 := by kernel_rfl
@[simp] theorem Try.fld101_6 : Aw.fieldA Try.prog 101 6 = some 12 := by kernel_rfl
@[simp] theorem Try.fld101_7 : Aw.fieldA Try.prog 101 7 = some 13 := by kernel_rfl
@[simp] theorem Try.fld101_8 : Aw.fieldA Try.prog 101 8 = some 14 := by kernel_rfl
@[simp] theorem Try.fld101_9 : Aw.fieldA Try.prog 101 9 = some 15 := by kernel_rfl
@[simp] theorem Try.fld101_10 : Aw.fieldA Try.prog 101 10 = some 16 := by kernel_rfl
@[simp] theorem Try.fld101_11 : Aw.fieldA Try.prog 101 11 = some 17 := by kernel_rfl
@[simp] theorem Try.fld101_12 : Aw.fieldA Try.prog 101 12 = some 18 := by kernel_rfl
@[simp] theorem Try.fld101_13 : Aw.fieldA Try.prog 101 13 = some 19 := by kernel_rfl
@[simp] theorem Try.fld101_14 : Aw.fieldA Try.prog 101 14 = some 20 := by kernel_rfl
@[simp] theorem Try.fld101_15 : Aw.fieldA Try.prog 101 15 = some 21 := by kernel_rfl
@[simp] theorem Try.plc101 : Aw.placesA Try.prog 101 = some [(0, 2), (2, 5), (7, 1), (8, 1), (9, 1), (10, 2), (12, 1), (13, 1), (14, 1), (15, 1), (16, 1), (17, 1), (18, 1), (19, 1), (20, 1), (21, 1)] := by kernel_rfl
@[simp] theorem Try.agg104 : Aw.aggSize Try.prog 104 = some 5 := by kernel_rfl
@[simp] theorem Try.siz104 : Aw.sizeA Try.prog 104 = some 5 := by kernel_rfl
@[simp] theorem Try.zer104 : Aw.zeroA Try.prog 104 = some [.bool false, .sl .own 0 [], .sl .own 0 [], .sl .own 0 [], .str []] := by kernel_rfl
@[simp] theorem Try.zsz104 : Aw.zeroSz Try.prog 104 5 = true := by kernel_rfl
@[simp] theorem Try.fld104_0 : Aw.fieldA Try.prog 104 0 = some 0 := by kernel_rfl
@[simp] theorem Try.fld104_1 : Aw.fieldA Try.prog 104 1 = some 1 := by kernel_rfl
@[simp] theorem Try.fld104_2 : Aw.fieldA Try.prog 104 2 = some 2 := by kernel_rfl
@[simp] theorem Try.fld104_3 : Aw.fieldA Try.prog 104 3 = some 3 := by kernel_rfl
@[simp] theorem Try.fld104_4 : Aw.fieldA Try.prog 104 4 = some 4 := by kernel_rfl
@[simp] theorem Try.plc104 : Aw.placesA Try.prog 104 = some [(0, 1), (1, 1), (2, 1), (3, 1), (4, 1)] := by kernel_rfl
@[simp] theorem Try.agg105 : Aw.aggSize Try.prog 105 = some 1 := by kernel_rfl
@[simp] theorem Try.siz105 : Aw.sizeA Try.prog 105 = some 1 := by kernel_rfl
@[simp] theorem Try.zer105 : Aw.zeroA Try.prog 105 = some [.str []] := by kernel_rfl
@[simp] theorem Try.zsz105 : Aw.zeroSz Try.prog 105 1 = true := by kernel_rfl
@[simp] theorem Try.fld105_0 : Aw.fieldA Try.prog 105 0 = some 0 := by kernel_rfl
@[simp] theorem Try.plc105 : Aw.placesA Try.prog 105 = some [(0, 1)] := by kernel_rfl
@[simp] theorem Try.agg106 : Aw.aggSize Try.prog 106 = none := by kernel_rfl
@[simp] theorem Try.one106 : Aw.oneSize Try.prog 106 = true := by kernel_rfl
@[simp] theorem Try.siz106 : Aw.sizeA Try.prog 106 = some 1 := by kernel_rfl
@[simp] theorem Try.zer106 : Aw.zeroA Try.prog 106 = some [.sl .own 0 []] := by kernel_rfl
@[simp] theorem Try.zsz106 : Aw.zeroSz Try.prog 106 1 = true := by kernel_rfl
@[simp] theorem Try.elm106 : Aw.elemA Try.prog 106 = some (154, 8, 96) := by kernel_rfl
@[simp] theorem Try.isl106 : Aw.isSlice Try.prog 106 = true := by kernel_rfl
@[simp] theorem Try.apd106 : Aw.appendable Try.prog 106 = true := by kernel_rfl
@[simp] theorem Try.agg107 : Aw.aggSize Try.prog 107 = none := by kernel_rfl
@[simp] theorem Try.one107 : Aw.oneSize Try.prog 107 = true := by kernel_rfl
@[simp] theorem Try.siz107 : Aw.sizeA Try.prog 107 = some 1 := by kernel_rfl
@[simp] theorem Try.zer107 : Aw.zeroA Try.prog 107 = some [.sl .own 0 []] := by kernel_rfl
@[simp] theorem Try.zsz107 : Aw.zeroSz Try.prog 107 1 = true := by kernel_rfl
@[simp] theorem Try.elm107 : Aw.elemA Try.prog 107 = some (158, 5, 64) := by kernel_rfl
@[simp] theorem Try.isl107 : Aw.isSlice Try.prog 107 = true := by kernel_rfl
@[simp] theorem Try.apd107 : Aw.appendable Try.prog 107 = true := by kernel_rfl
@[simp] theorem Try.agg108 : Aw.aggSize Try.prog 108 = none := by kernel_rfl
@[simp] theorem Try.one108 : Aw.oneSize Try.prog 108 = true := by kernel_rfl
@[simp] theorem Try.siz108 : Aw.sizeA Try.prog 108 = some 1 := by kernel_rfl
@[simp] theorem Try.zer108 : Aw.zeroA Try.prog 108 = some [.sl .own 0 []] := by kernel_rfl
@[simp] theorem Try.zsz108 : Aw.zeroSz Try.prog 108 1 = true := by kernel_rfl
@[simp] theorem Try.elm108 : Aw.elemA Try.prog 108 = some (33, 2, 32) := by kernel_rfl
@[simp] theorem Try.isl108 : Aw.isSlice Try.prog 108 = true := by kernel_rfl
@[simp] theorem Try.apd108 : Aw.appendable Try.prog 108 = true := by kernel_rfl
@[simp] theorem Try.agg110 : Aw.aggSize Try.prog 110 = some 22 := by kernel_rfl
@[simp] theorem Try.siz110 : Aw.sizeA Try.prog 110 = some 22 := by kernel_rfl
@[simp] theorem Try.zer110 : Aw.zeroA Try.prog 110 = some [.str [], .str [], .bool false, .sl .own 0 [], .sl .own 0 [], .sl .own 0 [], .str [], .str [], .sl .own 0 [], .bool false, .sl .own 0 [], .sl .own 0 [], .sl .own 0 [], .sl .own 0 [], .sl .own 0 [], .int .i64 0, .int .i64 0, .int .i64 0, .int .i64 0, .sl .own 0 [], .sl .own 0 [], .bool false] := by kernel_rfl
@[simp] theorem Try.zsz110 : Aw.zeroSz Try.prog 110 22 = true := by kernel_rfl
@[simp] theorem Try.fld110_0 : Aw.fieldA Try.prog 110 0 = some 0 := by kernel_rfl
@[simp] theorem Try.fld110_1 : Aw.fieldA Try.prog 110 1 = some 2 := by kernel_rfl
@[simp] theorem Try.fld110_2 : Aw.fieldA Try.prog 110 2 = some 7 := by kernel_rfl
@[simp] theorem Try.fld110_3 : Aw.fieldA Try.prog 110 3 = some 8 := by kernel_rfl
@[simp] theorem Try.fld110_4 : Aw.fieldA Try.prog 110 4 = some 9 := by kernel_rfl
@[simp] theorem Try.fld110_5 : Aw.fieldA Try.prog 110 5 = some 10 := by kernel_rfl
@[simp] theorem Try.fld110_6 : Aw.fieldA Try.prog 110 6 = some 12 := by kernel_rfl
@[simp] theorem Try.fld110_7 : Aw.fieldA Try.prog 110 7 = some 13 := by kernel_rfl
@[simp] theorem Try.fld110_8 : Aw.fieldA Try.prog 110 8 = some 14 := by kernel_rfl
@[simp] theorem Try.fld110_9 : Aw.fieldA Try.prog 110 9 = some 15 := by kernel_rfl
@[simp] theorem Try.fld110_10 : Aw.fieldA Try.prog 110 10 = some 16 := by kernel_rfl
@[simp] theorem Try.fld110_11 : Aw.fieldA Try.prog 110 11 = some 17 := by kernel_rfl
@[simp] theorem Try.fld110_12 : Aw.fieldA Try.prog 110 12 = some 18 := by kernel_rfl
@[simp] theorem Try.fld110_13 : Aw.fieldA Try.prog 110 13 = some 19 := by kernel_rfl
@[simp] theorem Try.fld110_14 : Aw.fieldA Try.prog 110 14 = some 20 := by kernel_rfl
@[simp] theorem Try.fld110_15 : Aw.fieldA Try.prog 110 15 = some 21 := by kernel_rfl
@[simp] theorem Try.plc110 : Aw.placesA Try.prog 110 = some [(0, 2), (2, 5), (7, 1), (8, 1), (9, 1), (10, 2), (12, 1), (13, 1), (14, 1), (15, 1), (16, 1), (17, 1), (18, 1), (19, 1), (20, 1), (21, 1)] := by kernel_rfl
@[simp] theorem Try.agg120 : Aw.aggSize Try.prog 120 = some 9 := by kernel_rfl
@[simp] theorem Try.siz120 : Aw.sizeA Try.prog 120 = some 9 := by kernel_rfl
@[simp] theorem Try.zer120 : Aw.zeroA Try.prog 120 = some [.str [], .str [], .int .i64 0, .int .i64 0, .str [], .int .i64 0, .bool false, .str [], .bool false] := by kernel_rfl
@[simp] theorem Try.zsz120 : Aw.zeroSz Try.prog 120 9 = true := by kernel_rfl
@[simp] theorem Try.fld120_0 : Aw.fieldA Try.prog 120 0 = some 0 := by kernel_rfl
@[simp] theorem Try.fld120_1 : Aw.fieldA Try.prog 120 1 = some 2 := by kernel_rfl
@[simp] theorem Try.fld120_2 : Aw.fieldA Try.prog 120 2 = some 8 := by kernel_rfl
@[simp] theorem Try.plc120 : Aw.placesA Try.prog 120 = some [(0, 2), (2, 6), (8, 1)] := by kernel_rfl
@[simp] theorem Try.agg124 : Aw.aggSize Try.prog 124 = some 9 := by kernel_rfl
@[simp] theorem Try.siz124 : Aw.sizeA Try.prog 124 = some 9 := by kernel_rfl
@[simp] theorem Try.zer124 : Aw.zeroA Try.prog 124 = some [.str [], .str [], .int .i64 0, .int .i64 0, .str [], .int .i64 0, .bool false, .str [], .bool false] := by kernel_rfl
@[simp] theorem Try.zsz124 : Aw.zeroSz Try.prog 124 9 = true := by kernel_rfl
@[simp] theorem Try.fld124_0 : Aw.fieldA Try.prog 124 0 = some 0 := by kernel_rfl
@[simp] theorem Try.fld124_1 : Aw.fieldA Try.prog 124 1 = some 2 := by kernel_rfl
@[simp] theorem Try.fld124_2 : Aw.fieldA Try.prog 124 2 = some 8 := by kernel_rfl
@[simp] theorem Try.plc124 : Aw.placesA Try.prog 124 = some [(0, 2), (2, 6), (8, 1)] := by kernel_rfl
@[simp] theorem Try.agg143 : Aw.aggSize Try.prog 143 = none := by kernel_rfl
@[simp] theorem Try.one143 : Aw.oneSize Try.prog 143 = true := by kernel_rfl
@[simp] theorem Try.siz143 : Aw.sizeA Try.prog 143 = some 1 := by kernel_rfl
@[simp] theorem Try.zer143 : Aw.zeroA Try.prog 143 = some [.sl .own 0 []] := by kernel_rfl
@[simp] theorem Try.zsz143 : Aw.zeroSz Try.prog 143 1 = true := by kernel_rfl
@[simp] theorem Try.elm143 : Aw.elemA Try.prog 143 = some (88, 1, 24) := by kernel_rfl
@[simp] theorem Try.isl143 : Aw.isSlice Try.prog 143 = true := by kernel_rfl
@[simp] theorem Try.apd143 : Aw.appendable Try.prog 143 = true := by kernel_rfl
@[simp] theorem Try.agg154 : Aw.aggSize Try.prog 154 = some 8 := by kernel_rfl
@[simp] theorem Try.siz154 : Aw.sizeA Try.prog 154 = some 8 := by kernel_rfl
@[simp] theorem Try.zer154 : Aw.zeroA Try.prog 154 = some [.int .i64 0, .str [], .str [], .str [], .int .i64 0, .bool false, .int .i64 0, .str []] := by kernel_rfl
@[simp] theorem Try.zsz154 : Aw.zeroSz Try.prog 154 8 = true := by kernel_rfl
@[simp] theorem Try.fld154_0 : Aw.fieldA Try.prog 154 0 = some 0 := by kernel_rfl
@[simp] theorem Try.fld154_1 : Aw.fieldA Try.prog 154 1 = some 1 := by kernel_rfl
@[simp] theorem Try.fld154_2 : Aw.fieldA Try.prog 154 2 = some 3 := by kernel_rfl
@[simp] theorem Try.fld154_3 : Aw.fieldA Try.prog 154 3 = some 4 := by kernel_rfl
@[simp] theorem Try.fld154_4 : Aw.fieldA Try.prog 154 4 = some 5 := by kernel_rfl
@[simp] theorem Try.fld154_5 : Aw.fieldA Try.prog 154 5 = some 6 := by kernel_rfl
@[simp] theorem Try.fld154_6 : Aw.fieldA Try.prog 154 6 = some 7 := by kernel_rfl
@[simp] theorem Try.plc154 : Aw.placesA Try.prog 154 = some [(0, 1), (1, 2), (3, 1), (4, 1), (5, 1), (6, 1), (7, 1)] := by kernel_rfl
@[simp] theorem Try.agg158 : Aw.aggSize Try.prog 158 = some 5 := by kernel_rfl
@[simp] theorem Try.siz158 : Aw.sizeA Try.prog 158 = some 5 := by kernel_rfl
@[simp] theorem Try.zer158 : Aw.zeroA Try.prog 158 = some [.str [], .str [], .bool false, .int .i64 0, .str []] := by kernel_rfl
@[simp] theorem Try.zsz158 : Aw.zeroSz Try.prog 158 5 = true := by kernel_rfl
@[simp] theorem Try.fld158_0 : Aw.fieldA Try.prog 158 0 = some 0 := by kernel_rfl
@[simp] theorem Try.fld158_1 : Aw.fieldA Try.prog 158 1 = some 2 := by kernel_rfl
@[simp] theorem Try.fld158_2 : Aw.fieldA Try.prog 158 2 = some 3 := by kernel_rfl
@[simp] theorem Try.fld158_3 : Aw.fieldA Try.prog 158 3 = some 4 := by kernel_rfl
@[simp] theorem Try.plc158 : Aw.placesA Try.prog 158 = some [(0, 2), (2, 1), (3, 1), (4, 1)] := by kernel_rfl
@[simp] theorem Try.agg178 : Aw.aggSize Try.prog 178 = none := by kernel_rfl
@[simp] theorem Try.one178 : Aw.oneSize Try.prog 178 = true := by kernel_rfl
@[simp] theorem Try.siz178 : Aw.sizeA Try.prog 178 = some 1 := by kernel_rfl
@[simp] theorem Try.zer178 : Aw.zeroA Try.prog 178 = some [.sl .own 0 []] := by kernel_rfl
@[simp] theorem Try.zsz178 : Aw.zeroSz Try.prog 178 1 = true := by kernel_rfl
@[simp] theorem Try.elm178 : Aw.elemA Try.prog 178 = some (5, 1, 1) := by kernel_rfl
@[simp] theorem Try.isl178 : Aw.isSlice Try.prog 178 = true := by kernel_rfl
@[simp] theorem Try.apd178 : Aw.appendable Try.prog 178 = true := by kernel_rfl
@[simp] theorem Try.agg181 : Aw.aggSize Try.prog 181 = some 2 := by kernel_rfl
@[simp] theorem Try.siz181 : Aw.sizeA Try.prog 181 = some 2 := by kernel_rfl
@[simp] theorem Try.zer181 : Aw.zeroA Try.prog 181 = some [.str [], .str []] := by kernel_rfl
@[simp] theorem Try.zsz181 : Aw.zeroSz Try.prog 181 2 = true := by kernel_rfl
@[simp] theorem Try.fld181_0 : Aw.fieldA Try.prog 181 0 = some 0 := by kernel_rfl
@[simp] theorem Try.fld181_1 : Aw.fieldA Try.prog 181 1 = some 1 := by kernel_rfl
@[simp] theorem Try.plc181 : Aw.placesA Try.prog 181 = some [(0, 1), (1, 1)] := by kernel_rfl
@[simp] theorem Try.agg182 : Aw.aggSize Try.prog 182 = some 2 := by kernel_rfl
@[simp] theorem Try.siz182 : Aw.sizeA Try.prog 182 = some 2 := by kernel_rfl
@[simp] theorem Try.zer182 : Aw.zeroA Try.prog 182 = some [.str [], .str []] := by kernel_rfl
@[simp] theorem Try.zsz182 : Aw.zeroSz Try.prog 182 2 = true := by kernel_rfl
@[simp] theorem Try.fld182_0 : Aw.fieldA Try.prog 182 0 = some 0 := by kernel_rfl
@[simp] theorem Try.fld182_1 : Aw.fieldA Try.prog 182 1 = some 1 := by kernel_rfl
@[simp] theorem Try.plc182 : Aw.placesA Try.prog 182 = some [(0, 1), (1, 1)] := by kernel_rfl
@[simp] theorem Try.agg196 : Aw.aggSize Try.prog 196 = some 4 := by kernel_rfl
@[simp] theorem Try.siz196 : Aw.sizeA Try.prog 196 = some 4 := by kernel_rfl
@[simp] theorem Try.zer196 : Aw.zeroA Try.prog 196 = some [.str [], .str [], .int .i64 0, .sl .own 0 []] := by kernel_rfl
@[simp] theorem Try.zsz196 : Aw.zeroSz Try.prog 196 4 = true := by kernel_rfl
@[simp] theorem Try.fld196_0 : Aw.fieldA Try.prog 196 0 = some 0 := by kernel_rfl
@[simp] theorem Try.fld196_1 : Aw.fieldA Try.prog 196 1 = some 1 := by kernel_rfl
@[simp] theorem Try.fld196_2 : Aw.fieldA Try.prog 196 2 = some 2 := by kernel_rfl
@[simp] theorem Try.fld196_3 : Aw.fieldA Try.prog 196 3 = some 3 := by kernel_rfl
@[simp] theorem Try.plc196 : Aw.placesA Try.prog 196 = some [(0, 1), (1, 1), (2, 1), (3, 1)] := by kernel_rfl
@[simp] theorem Try.agg198 : Aw.aggSize Try.prog 198 = some 2 := by kernel_rfl
@[simp] theorem Try.siz198 : Aw.sizeA Try.prog 198 = some 2 := by kernel_rfl
@[simp] theorem Try.zer198 : Aw.zeroA Try.prog 198 = some [.str [], .int .i64 0] := by kernel_rfl
@[simp] theorem Try.zsz198 : Aw.zeroSz Try.prog 198 2 = true := by kernel_rfl
@[simp] theorem Try.fld198_0 : Aw.fieldA Try.prog 198 0 = some 0 := by kernel_rfl
@[simp] theorem Try.fld198_1 : Aw.fieldA Try.prog 198 1 = some 1 := by kernel_rfl
@[simp] theorem Try.plc198 : Aw.placesA Try.prog 198 = some [(0, 1), (1, 1)] := by kernel_rfl
@[simp] theorem Try.agg207 : Aw.aggSize Try.prog 207 = some 8 := by kernel_rfl
@[simp] theorem Try.siz207 : Aw.sizeA Try.prog 207 = some 8 := by kernel_rfl
@[simp] theorem Try.zer207 : Aw.zeroA Try.prog 207 = some [.int .i64 0, .str [], .str [], .str [], .int .i64 0, .bool false, .int .i64 0, .str []] := by kernel_rfl
@[simp] theorem Try.zsz207 : Aw.zeroSz Try.prog 207 8 = true := by kernel_rfl
@[simp] theorem Try.fld207_0 : Aw.fieldA Try.prog 207 0 = some 0 := by kernel_rfl
@[simp] theorem Try.fld207_1 : Aw.fieldA Try.prog 207 1 = some 1 := by kernel_rfl
@[simp] theorem Try.fld207_2 : Aw.fieldA Try.prog 207 2 = some 3 := by kernel_rfl
@[simp] theorem Try.fld207_3 : Aw.fieldA Try.prog 207 3 = some 4 := by kernel_rfl
@[simp] theorem Try.fld207_4 : Aw.fieldA Try.prog 207 4 = some 5 := by kernel_rfl
@[simp] theorem Try.fld207_5 : Aw.fieldA Try.prog 207 5 = some 6 := by kernel_rfl
@[simp] theorem Try.fld207_6 : Aw.fieldA Try.prog 207 6 = some 7 := by kernel_rfl
@[simp] theorem Try.plc207 : Aw.placesA Try.prog 207 = some [(0, 1), (1, 2), (3, 1), (4, 1), (5, 1), (6, 1), (7, 1)] := by kernel_rfl
@[simp] theorem Try.agg210 : Aw.aggSize Try.prog 210 = some 5 := by kernel_rfl
@[simp] theorem Try.siz210 : Aw.sizeA Try.prog 210 = some 5 := by kernel_rfl
@[simp] theorem Try.zer210 : Aw.zeroA Try.prog 210 = some [.str [], .str [], .bool false, .int .i64 0, .str []] := by kernel_rfl
@[simp] theorem Try.zsz210 : Aw.zeroSz Try.prog 210 5 = true := by kernel_rfl
@[simp] theorem Try.fld210_0 : Aw.fieldA Try.prog 210 0 = some 0 := by kernel_rfl
@[simp] theorem Try.fld210_1 : Aw.fieldA Try.prog 210 1 = some 2 := by kernel_rfl
@[simp] theorem Try.fld210_2 : Aw.fieldA Try.prog 210 2 = some 3 := by kernel_rfl
@[simp] theorem Try.fld210_3 : Aw.fieldA Try.prog 210 3 = some 4 := by kernel_rfl
@[simp] theorem Try.plc210 : Aw.placesA Try.prog 210 = some [(0, 2), (2, 1), (3, 1), (4, 1)] := by kernel_rfl
@[simp] theorem Try.agg221 : Aw.aggSize Try.prog 221 = some 4 := by kernel_rfl
@[simp] theorem Try.siz221 : Aw.sizeA Try.prog 221 = some 4 := by kernel_rfl
@[simp] theorem Try.zer221 : Aw.zeroA Try.prog 221 = some [.str [], .str [], .int .i64 0, .sl .own 0 []] := by kernel_rfl
@[simp] theorem Try.zsz221 : Aw.zeroSz Try.prog 221 4 = true := by kernel_rfl
@[simp] theorem Try.fld221_0 : Aw.fieldA Try.prog 221 0 = some 0 := by kernel_rfl
@[simp] theorem Try.fld221_1 : Aw.fieldA Try.prog 221 1 = some 1 := by kernel_rfl
@[simp] theorem Try.fld221_2 : Aw.fieldA Try.prog 221 2 = some 2 := by kernel_rfl
@[simp] theorem Try.fld221_3 : Aw.fieldA Try.prog 221 3 = some 3 := by kernel_rfl
@[simp] theorem Try.plc221 : Aw.placesA Try.prog 221 = some [(0, 1), (1, 1), (2, 1), (3, 1)] := by kernel_rfl
@[simp] theorem Try.agg223 : Aw.aggSize Try.prog 223 = some 2 := by kernel_rfl
@[simp] theorem Try.siz223 : Aw.sizeA Try.prog 223 = some 2 := by kernel_rfl
@[simp] theorem Try.zer223 : Aw.zeroA Try.prog 223 = some [.str [], .int .i64 0] := by kernel_rfl
@[simp] theorem Try.zsz223 : Aw.zeroSz Try.prog 223 2 = true := by kernel_rfl
@[simp] theorem Try.fld223_0 : Aw.fieldA Try.prog 223 0 = some 0 := by kernel_rfl
@[simp] theorem Try.fld223_1 : Aw.fieldA Try.prog 223 1 = some 1 := by kernel_rfl
@[simp] theorem Try.plc223 : Aw.placesA Try.prog 223 = some [(0, 1), (1, 1)] := by kernel_rfl
@[simp] theorem Try.agg229 : Aw.aggSize Try.prog 229 = none := by kernel_rfl
@[simp] theorem Try.one229 : Aw.oneSize Try.prog 229 = true := by kernel_rfl
@[simp] theorem Try.siz229 : Aw.sizeA Try.prog 229 = some 1 := by kernel_rfl
@[simp] theorem Try.zer229 : Aw.zeroA Try.prog 229 = some [.int .u64 0] := by kernel_rfl
@[simp] theorem Try.zsz229 : Aw.zeroSz Try.prog 229 1 = true := by kernel_rfl
@[simp] theorem Try.int229 : Aw.intType Try.prog 229 = some .u64 := by kernel_rfl
@[simp] theorem Try.som229 : (Try.prog.underlying 229).isSome = true := by kernel_rfl
@[simp] theorem Try.agg230 : Aw.aggSize Try.prog 230 = none := by kernel_rfl
@[simp] theorem Try.one230 : Aw.oneSize Try.prog 230 = true := by kernel_rfl
@[simp] theorem Try.siz230 : Aw.sizeA Try.prog 230 = some 1 := by kernel_rfl
@[simp] theorem Try.zer230 : Aw.zeroA Try.prog 230 = some [.int .u32 0] := by kernel_rfl
@[simp] theorem Try.zsz230 : Aw.zeroSz Try.prog 230 1 = true := by kernel_rfl
@[simp] theorem Try.int230 : Aw.intType Try.prog 230 = some .u32 := by kernel_rfl
@[simp] theorem Try.som230 : (Try.prog.underlying 230).isSome = true := by kernel_rfl
@[simp] theorem Try.cal3 : Aw.callable Try.prog 3 = true := by kernel_rfl
@[simp] theorem Try.cal4 : Aw.callable Try.prog 4 = true := by kernel_rfl
@[simp] theorem Try.cal5 : Aw.callable Try.prog 5 = true := by kernel_rfl
@[simp] theorem Try.cal6 : Aw.callable Try.prog 6 = true := by kernel_rfl
@[simp] theorem Try.cal7 : Aw.callable Try.prog 7 = true := by kernel_rfl
@[simp] theorem Try.cal8 : Aw.callable Try.prog 8 = true := by kernel_rfl
@[simp] theorem Try.cal9 : Aw.callable Try.prog 9 = true := by kernel_rfl
@[simp] theorem Try.cal10 : Aw.callable Try.prog 10 = true := by kernel_rfl
@[simp] theorem Try.cal11 : Aw.callable Try.prog 11 = true := by kernel_rfl
@[simp] theorem Try.cal12 : Aw.callable Try.prog 12 = true := by kernel_rfl
@[simp] theorem Try.cal13 : Aw.callable Try.prog 13 = true := by kernel_rfl
@[simp] theorem Try.cal14 : Aw.callable Try.prog 14 = true := by kernel_rfl
@[simp] theorem Try.cal15 : Aw.callable Try.prog 15 = true := by kernel_rfl
@[simp] theorem Try.cal16 : Aw.callable Try.prog 16 = true := by kernel_rfl
@[simp] theorem Try.cal17 : Aw.callable Try.prog 17 = true := by kernel_rfl
@[simp] theorem Try.cal18 : Aw.callable Try.prog 18 = true := by kernel_rfl
@[simp] theorem Try.cal19 : Aw.callable Try.prog 19 = true := by kernel_rfl
@[simp] theorem Try.cal20 : Aw.callable Try.prog 20 = true := by kernel_rfl
@[simp] theorem Try.cal21 : Aw.callable Try.prog 21 = true := by kernel_rfl
@[simp] theorem Try.cal22 : Aw.callable Try.prog 22 = true := by kernel_rfl
@[simp] theorem Try.cal23 : Aw.callable Try.prog 23 = true := by kernel_rfl
@[simp] theorem Try.cal24 : Aw.callable Try.prog 24 = true := by kernel_rfl
@[simp] theorem Try.cal25 : Aw.callable Try.prog 25 = true := by kernel_rfl
@[simp] theorem Try.cal26 : Aw.callable Try.prog 26 = true := by kernel_rfl
@[simp] theorem Try.cal27 : Aw.callable Try.prog 27 = true := by kernel_rfl
@[simp] theorem Try.cal28 : Aw.callable Try.prog 28 = true := by kernel_rfl
@[simp] theorem Try.cal29 : Aw.callable Try.prog 29 = true := by kernel_rfl
@[simp] theorem Try.cal30 : Aw.callable Try.prog 30 = true := by kernel_rfl
@[simp] theorem Try.cal31 : Aw.callable Try.prog 31 = true := by kernel_rfl
@[simp] theorem Try.cal32 : Aw.callable Try.prog 32 = true := by kernel_rfl
@[simp] theorem Try.cal33 : Aw.callable Try.prog 33 = true := by kernel_rfl
@[simp] theorem Try.cal34 : Aw.callable Try.prog 34 = true := by kernel_rfl
@[simp] theorem Try.cal35 : Aw.callable Try.prog 35 = true := by kernel_rfl
@[simp] theorem Try.cal36 : Aw.callable Try.prog 36 = true := by kernel_rfl
@[simp] theorem Try.cal37 : Aw.callable Try.prog 37 = true := by kernel_rfl
@[simp] theorem Try.cal38 : Aw.callable Try.prog 38 = true := by kernel_rfl
@[simp] theorem Try.cal39 : Aw.callable Try.prog 39 = true := by kernel_rfl
@[simp] theorem Try.cal40 : Aw.callable Try.prog 40 = true := by kernel_rfl
@[simp] theorem Try.cal41 : Aw.callable Try.prog 41 = true := by kernel_rfl
@[simp] theorem Try.cal42 : Aw.callable Try.prog 42 = true := by kernel_rfl
@[simp] theorem Try.cal43 : Aw.callable Try.prog 43 = true := by kernel_rfl
@[simp] theorem Try.cal44 : Aw.callable Try.prog 44 = true := by kernel_rfl
@[simp] theorem Try.cal45 : Aw.callable Try.prog 45 = true := by kernel_rfl
@[simp] theorem Try.cal46 : Aw.callable Try.prog 46 = true := by kernel_rfl
@[simp] theorem Try.cal47 : Aw.callable Try.prog 47 = true := by kernel_rfl
@[simp] theorem Try.cal48 : Aw.callable Try.prog 48 = true := by kernel_rfl
@[simp] theorem Try.cal49 : Aw.callable Try.prog 49 = true := by kernel_rfl
@[simp] theorem Try.cal50 : Aw.callable Try.prog 50 = true := by kernel_rfl
@[simp] theorem Try.cal51 : Aw.callable Try.prog 51 = true := by kernel_rfl
@[simp] theorem Try.cal52 : Aw.callable Try.prog 52 = true := by kernel_rfl
@[simp] theorem Try.cal53 : Aw.callable Try.prog 53 = true := by kernel_rfl
@[simp] theorem Try.cal54 : Aw.callable Try.prog 54 = true := by kernel_rfl
@[simp] theorem Try.cal55 : Aw.callable Try.prog 55 = true := by kernel_rfl
@[simp] theorem Try.cal56 : Aw.callable Try.prog 56 = true := by kernel_rfl
@[simp] theorem Try.cal57 : Aw.callable Try.prog 57 = true := by kernel_rfl
@[simp] theorem Try.cal58 : Aw.callable Try.prog 58 = true := by kernel_rfl
@[simp] theorem Try.cal59 : Aw.callable Try.prog 59 = true := by kernel_rfl
@[simp] theorem Try.cal60 : Aw.callable Try.prog 60 = true := by kernel_rfl
@[simp] theorem Try.cal61 : Aw.callable Try.prog 61 = true := by kernel_rfl
@[simp] theorem Try.cal62 : Aw.callable Try.prog 62 = true := by kernel_rfl
@[simp] theorem Try.cal63 : Aw.callable Try.prog 63 = true := by kernel_rfl
@[simp] theorem Try.cal64 : Aw.callable Try.prog 64 = true := by kernel_rfl
@[simp] theorem Try.cal65 : Aw.callable Try.prog 65 = true := by kernel_rfl
@[simp] theorem Try.cal66 : Aw.callable Try.prog 66 = true := by kernel_rfl
@[simp] theorem Try.cal67 : Aw.callable Try.prog 67 = true := by kernel_rfl
@[simp] theorem Try.cal68 : Aw.callable Try.prog 68 = true := by kernel_rfl
@[simp] theorem Try.cal69 : Aw.callable Try.prog 69 = true := by kernel_rfl
@[simp] theorem Try.cal70 : Aw.callable Try.prog 70 = true := by kernel_rfl
@[simp] theorem Try.cal71 : Aw.callable Try.prog 71 = true := by kernel_rfl
@[simp] theorem Try.cal72 : Aw.callable Try.prog 72 = true := by kernel_rfl
@[simp] theorem Try.cal73 : Aw.callable Try.prog 73 = true := by kernel_rfl
@[simp] theorem Try.cal74 : Aw.callable Try.prog 74 = true := by kernel_rfl
@[simp] theorem Try.cal75 : Aw.callable Try.prog 75 = true := by kernel_rfl
@[simp] theorem Try.cal76 : Aw.callable Try.prog 76 = true := by kernel_rfl
@[simp] theorem Try.cal77 : Aw.callable Try.prog 77 = true := by kernel_rfl
@[simp] theorem Try.cal78 : Aw.callable Try.prog 78 = true := by kernel_rfl
@[simp] theorem Try.cal79 : Aw.callable Try.prog 79 = true := by kernel_rfl
@[simp] theorem Try.cal80 : Aw.callable Try.prog 80 = true := by kernel_rfl
@[simp] theorem Try.cal81 : Aw.callable Try.prog 81 = true := by kernel_rfl
@[simp] theorem Try.cal82 : Aw.callable Try.prog 82 = true := by kernel_rfl
@[simp] theorem Try.cal83 : Aw.callable Try.prog 83 = true := by kernel_rfl
@[simp] theorem Try.cal84 : Aw.callable Try.prog 84 = true := by kernel_rfl
@[simp] theorem Try.cal85 : Aw.callable Try.prog 85 = true := by kernel_rfl
@[simp] theorem Try.cal86 : Aw.callable Try.prog 86 = true := by kernel_rfl
@[simp] theorem Try.cal87 : Aw.callable Try.prog 87 = true := by kernel_rfl
@[simp] theorem Try.cal88 : Aw.callable Try.prog 88 = true := by kernel_rfl
@[simp] theorem Try.cal89 : Aw.callable Try.prog 89 = true := by kernel_rfl
@[simp] theorem Try.cal90 : Aw.callable Try.prog 90 = true := by kernel_rfl
@[simp] theorem Try.cal91 : Aw.callable Try.prog 91 = true := by kernel_rfl
@[simp] theorem Try.cal92 : Aw.callable Try.prog 92 = true := by kernel_rfl
@[simp] theorem Try.cal93 : Aw.callable Try.prog 93 = true := by kernel_rfl
@[simp] theorem Try.cal94 : Aw.callable Try.prog 94 = true := by kernel_rfl
@[simp] theorem Try.cal95 : Aw.callable Try.prog 95 = true := by kernel_rfl
@[simp] theorem Try.cal96 : Aw.callable Try.prog 96 = true := by kernel_rfl
@[simp] theorem Try.cal97 : Aw.callable Try.prog 97 = true := by kernel_rfl
@[simp] theorem Try.cal98 : Aw.callable Try.prog 98 = true := by kernel_rfl
@[simp] theorem Try.cal99 : Aw.callable Try.prog 99 = true := by kernel_rfl
@[simp] theorem Try.cal100 : Aw.callable Try.prog 100 = true := by kernel_rfl
@[simp] theorem Try.cal101 : Aw.callable Try.prog 101 = true := by kernel_rfl
@[simp] theorem Try.cal102 : Aw.callable Try.prog 102 = true := by kernel_rfl
@[simp] theorem Try.cal103 : Aw.callable Try.prog 103 = true := by kernel_rfl
@[simp] theorem Try.cal104 : Aw.callable Try.prog 104 = true := by kernel_rfl
@[simp] theorem Try.cal105 : Aw.callable Try.prog 105 = true := by kernel_rfl
@[simp] theorem Try.cal106 : Aw.callable Try.prog 106 = true := by kernel_rfl
@[simp] theorem Try.cal107 : Aw.callable Try.prog 107 = true := by kernel_rfl
@[simp] theorem Try.cal108 : Aw.callable Try.prog 108 = true := by kernel_rfl
@[simp] theorem Try.cal109 : Aw.callable Try.prog 109 = true := by kernel_rfl
@[simp] theorem Try.cal110 : Aw.callable Try.prog 110 = true := by kernel_rfl
@[simp] theorem Try.cal111 : Aw.callable Try.prog 111 = true := by kernel_rfl
@[simp] theorem Try.cal112 : Aw.callable Try.prog 112 = true := by kernel_rfl
@[simp] theorem Try.cal113 : Aw.callable Try.prog 113 = true := by kernel_rfl
@[simp] theorem Try.cal114 : Aw.callable Try.prog 114 = true := by kernel_rfl
@[simp] theorem Try.cal115 : Aw.callable Try.prog 115 = true := by kernel_rfl
@[simp] theorem Try.cal116 : Aw.callable Try.prog 116 = true := by kernel_rfl
@[simp] theorem Try.cal117 : Aw.callable Try.prog 117 = true := by kernel_rfl
@[simp] theorem Try.cal118 : Aw.callable Try.prog 118 = true := by kernel_rfl
@[simp] theorem Try.cal119 : Aw.callable Try.prog 119 = true := by kernel_rfl
@[simp] theorem Try.cal120 : Aw.callable Try.prog 120 = true := by kernel_rfl
@[simp] theorem Try.cal121 : Aw.callable Try.prog 121 = true := by kernel_rfl
@[simp] theorem Try.cal122 : Aw.callable Try.prog 122 = true := by kernel_rfl
@[simp] theorem Try.cal123 : Aw.callable Try.prog 123 = true := by kernel_rfl
@[simp] theorem Try.cal124 : Aw.callable Try.prog 124 = true := by kernel_rfl
@[simp] theorem Try.cal125 : Aw.callable Try.prog 125 = true := by kernel_rfl
@[simp] theorem Try.cal126 : Aw.callable Try.prog 126 = true := by kernel_rfl
@[simp] theorem Try.cal127 : Aw.callable Try.prog 127 = true := by kernel_rfl
@[simp] theorem Try.cal128 : Aw.callable Try.prog 128 = true := by kernel_rfl
@[simp] theorem Try.cal129 : Aw.callable Try.prog 129 = true := by kernel_rfl
@[simp] theorem Try.cal130 : Aw.callable Try.prog 130 = true := by kernel_rfl
@[simp] theorem Try.cal131 : Aw.callable Try.prog 131 = true := by kernel_rfl
@[simp] theorem Try.cal132 : Aw.callable Try.prog 132 = true := by kernel_rfl
@[simp] theorem Try.cal133 : Aw.callable Try.prog 133 = true := by kernel_rfl
@[simp] theorem Try.cal134 : Aw.callable Try.prog 134 = true := by kernel_rfl
@[simp] theorem Try.cal135 : Aw.callable Try.prog 135 = true := by kernel_rfl
@[simp] theorem Try.cal136 : Aw.callable Try.prog 136 = true := by kernel_rfl
@[simp] theorem Try.cal137 : Aw.callable Try.prog 137 = true := by kernel_rfl
@[simp] theorem Try.cal138 : Aw.callable Try.prog 138 = true := by kernel_rfl
@[simp] theorem Try.cal139 : Aw.callable Try.prog 139 = true := by kernel_rfl
@[simp] theorem Try.cal140 : Aw.callable Try.prog 140 = true := by kernel_rfl
@[simp] theorem Try.cal141 : Aw.callable Try.prog 141 = true := by kernel_rfl
@[simp] theorem Try.cal142 : Aw.callable Try.prog 142 = true := by kernel_rfl
@[simp] theorem Try.cal143 : Aw.callable Try.prog 143 = true := by kernel_rfl
@[simp] theorem Try.cal144 : Aw.callable Try.prog 144 = true := by kernel_rfl
@[simp] theorem Try.cal145 : Aw.callable Try.prog 145 = true := by kernel_rfl
@[simp] theorem Try.cal146 : Aw.callable Try.prog 146 = true := by kernel_rfl
@[simp] theorem Try.cal147 : Aw.callable Try.prog 147 = true := by kernel_rfl
@[simp] theorem Try.cal148 : Aw.callable Try.prog 148 = true := by kernel_rfl
@[simp] theorem Try.cal149 : Aw.callable Try.prog 149 = true := by kernel_rfl
@[simp] theorem Try.cal150 : Aw.callable Try.prog 150 = true := by kernel_rfl
@[simp] theorem Try.cal151 : Aw.callable Try.prog 151 = true := by kernel_rfl
@[simp] theorem Try.cal152 : Aw.callable Try.prog 152 = true := by kernel_rfl
@[simp] theorem Try.cal153 : Aw.callable Try.prog 153 = true := by kernel_rfl
@[simp] theorem Try.cal154 : Aw.callable Try.prog 154 = true := by kernel_rfl
@[simp] theorem Try.cal155 : Aw.callable Try.prog 155 = true := by kernel_rfl
@[simp] theorem Try.cal156 : Aw.callable Try.prog 156 = true := by kernel_rfl
@[simp] theorem Try.cal157 : Aw.callable Try.prog 157 = true := by kernel_rfl
@[simp] theorem Try.cal158 : Aw.callable Try.prog 158 = true := by kernel_rfl
@[simp] theorem Try.cal159 : Aw.callable Try.prog 159 = true := by kernel_rfl
@[simp] theorem Try.cal160 : Aw.callable Try.prog 160 = true := by kernel_rfl
@[simp] theorem Try.cal161 : Aw.callable Try.prog 161 = true := by kernel_rfl
@[simp] theorem Try.cal162 : Aw.callable Try.prog 162 = true := by kernel_rfl
@[simp] theorem Try.cal163 : Aw.callable Try.prog 163 = true := by kernel_rfl
@[simp] theorem Try.cal164 : Aw.callable Try.prog 164 = true := by kernel_rfl
@[simp] theorem Try.cal165 : Aw.callable Try.prog 165 = true := by kernel_rfl
@[simp] theorem Try.cal166 : Aw.callable Try.prog 166 = true := by kernel_rfl
@[simp] theorem Try.cal167 : Aw.callable Try.prog 167 = true := by kernel_rfl
@[simp] theorem Try.cal168 : Aw.callable Try.prog 168 = true := by kernel_rfl
@[simp] theorem Try.cal169 : Aw.callable Try.prog 169 = true := by kernel_rfl
@[simp] theorem Try.cal170 : Aw.callable Try.prog 170 = true := by kernel_rfl
@[simp] theorem Try.cal171 : Aw.callable Try.prog 171 = true := by kernel_rfl
@[simp] theorem Try.cal172 : Aw.callable Try.prog 172 = true := by kernel_rfl
@[simp] theorem Try.cal173 : Aw.callable Try.prog 173 = true := by kernel_rfl
@[simp] theorem Try.cal174 : Aw.callable Try.prog 174 = false := by kernel_rfl
@[simp] theorem Try.cal175 : Aw.callable Try.prog 175 = true := by kernel_rfl
@[simp] theorem Try.cal176 : Aw.callable Try.prog 176 = true := by kernel_rfl
@[simp] theorem Try.cal177 : Aw.callable Try.prog 177 = false := by kernel_rfl
@[simp] theorem Try.cal178 : Aw.callable Try.prog 178 = true := by kernel_rfl
end Go.Proofs.Ytfaicbojikcekaa
