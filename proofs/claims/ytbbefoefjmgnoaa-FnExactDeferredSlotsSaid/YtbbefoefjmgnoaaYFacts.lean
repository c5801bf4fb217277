/-
  Proved here: closed facts of the translated program: types, their sizes, results.
  No condition beyond what each statement spells out.
-/
/-
  Closed facts on the translation: sizes, fields and zero values of its types; that its functions have bodies. Written by a program of ours.
-/
import Derived.Test.YtbbefoefjmgnoaaProg
import Derived.Test.YtbbefoefjmgnoaaAwFun
import Derived.KernelRfl
set_option linter.all false
namespace Go.Proofs.Ytbbefoefjmgnoaa
@[simp] theorem Try.agg2 : Aw.aggSize Try.prog 2 = none := by kernel_rfl
@[simp] theorem Try.one2 : Aw.oneSize Try.prog 2 = true := by kernel_rfl
@[simp] theorem Try.siz2 : Aw.sizeA Try.prog 2 = some 1 := by kernel_rfl
@[simp] theorem Try.zer2 : Aw.zeroA Try.prog 2 = some [.int .i64 0] := by kernel_rfl
@[simp] theorem Try.zsz2 : Aw.zeroSz Try.prog 2 1 = true := by kernel_rfl
@[simp] theorem Try.int2 : Aw.intType Try.prog 2 = some .i64 := by kernel_rfl
@[simp] theorem Try.som2 : (Try.prog.underlying 2).isSome = true := by kernel_rfl
@[simp] theorem Try.agg3 : Aw.aggSize Try.prog 3 = none := by kernel_rfl
@[simp] theorem Try.one3 : Aw.oneSize Try.prog 3 = true := by kernel_rfl
@[simp] theorem Try.siz3 : Aw.sizeA Try.prog 3 = some 1 := by kernel_rfl
@[simp] theorem Try.zer3 : Aw.zeroA Try.prog 3 = some [.int .i64 0] := by kernel_rfl
@[simp] theorem Try.zsz3 : Aw.zeroSz Try.prog 3 1 = true := by kernel_rfl
@[simp] theorem Try.int3 : Aw.intType Try.prog 3 = some .i64 := by kernel_rfl
@[simp] theorem Try.som3 : (Try.prog.underlying 3).isSome = true := by kernel_rfl
@[simp] theorem Try.agg4 : Aw.aggSize Try.prog 4 = none := by kernel_rfl
@[simp] theorem Try.one4 : Aw.oneSize Try.prog 4 = true := by kernel_rfl
@[simp] theorem Try.siz4 : Aw.sizeA Try.prog 4 = some 1 := by kernel_rfl
@[simp] theorem Try.zer4 : Aw.zeroA Try.prog 4 = some [.bool false] := by kernel_rfl
@[simp] theorem Try.zsz4 : Aw.zeroSz Try.prog 4 1 = true := by kernel_rfl
@[simp] theorem Try.bol4 : Aw.boolType Try.prog 4 = true := by kernel_rfl
@[simp] theorem Try.agg5 : Aw.aggSize Try.prog 5 = none := by kernel_rfl
@[simp] theorem Try.one5 : Aw.oneSize Try.prog 5 = true := by kernel_rfl
@[simp] theorem Try.siz5 : Aw.sizeA Try.prog 5 = some 1 := by kernel_rfl
@[simp] theorem Try.zer5 : Aw.zeroA Try.prog 5 = some [.int .u8 0] := by kernel_rfl
@[simp] theorem Try.zsz5 : Aw.zeroSz Try.prog 5 1 = true := by kernel_rfl
@[simp] theorem Try.int5 : Aw.intType Try.prog 5 = some .u8 := by kernel_rfl
@[simp] theorem Try.som5 : (Try.prog.underlying 5).isSome = true := by kernel_rfl
@[simp] theorem Try.agg9 : Aw.aggSize Try.prog 9 = none := by kernel_rfl
@[simp] theorem Try.one9 : Aw.oneSize Try.prog 9 = true := by kernel_rfl
@[simp] theorem Try.siz9 : Aw.sizeA Try.prog 9 = some 1 := by kernel_rfl
@[simp] theorem Try.zer9 : Aw.zeroA Try.prog 9 = some [.str []] := by kernel_rfl
@[simp] theorem Try.zsz9 : Aw.zeroSz Try.prog 9 1 = true := by kernel_rfl
@[simp] theorem Try.iss9 : Aw.isString Try.prog 9 = true := by kernel_rfl
@[simp] theorem Try.apd9 : Aw.appendable Try.prog 9 = true := by kernel_rfl
@[simp] theorem Try.agg12 : Aw.aggSize Try.prog 12 = none := by kernel_rfl
@[simp] theorem Try.one12 : Aw.oneSize Try.prog 12 = true := by kernel_rfl
@[simp] theorem Try.siz12 : Aw.sizeA Try.prog 12 = some 1 := by kernel_rfl
@[simp] theorem Try.zer12 : Aw.zeroA Try.prog 12 = some [.int .u64 0] := by kernel_rfl
@[simp] theorem Try.zsz12 : Aw.zeroSz Try.prog 12 1 = true := by kernel_rfl
@[simp] theorem Try.int12 : Aw.intType Try.prog 12 = some .u64 := by kernel_rfl
@[simp] theorem Try.som12 : (Try.prog.underlying 12).isSome = true := by kernel_rfl
@[simp] theorem Try.agg21 : Aw.aggSize Try.prog 21 = none := by kernel_rfl
@[simp] theorem Try.one21 : Aw.oneSize Try.prog 21 = true := by kernel_rfl
@[simp] theorem Try.siz21 : Aw.sizeA Try.prog 21 = some 1 := by kernel_rfl
@[simp] theorem Try.zer21 : Aw.zeroA Try.prog 21 = some [.int .i32 0] := by kernel_rfl
@[simp] theorem Try.zsz21 : Aw.zeroSz Try.prog 21 1 = true := by kernel_rfl
@[simp] theorem Try.int21 : Aw.intType Try.prog 21 = some .i32 := by kernel_rfl
@[simp] theorem Try.som21 : (Try.prog.underlying 21).isSome = true := by kernel_rfl
@[simp] theorem Try.agg23 : Aw.aggSize Try.prog 23 = some 2 := by kernel_rfl
@[simp] theorem Try.siz23 : Aw.sizeA Try.prog 23 = some 2 := by kernel_rfl
@[simp] theorem Try.zer23 : Aw.zeroA Try.prog 23 = some [.str [], .str []] := by kernel_rfl
@[simp] theorem Try.zsz23 : Aw.zeroSz Try.prog 23 2 = true := by kernel_rfl
@[simp] theorem Try.fld23_0 : Aw.fieldA Try.prog 23 0 = some 0 := by kernel_rfl
@[simp] theorem Try.fld23_1 : Aw.fieldA Try.prog 23 1 = some 1 := by kernel_rfl
@[simp] theorem Try.plc23 : Aw.placesA Try.prog 23 = some [(0, 1), (1, 1)] := by kernel_rfl
@[simp] theorem Try.agg24 : Aw.aggSize Try.prog 24 = none := by kernel_rfl
@[simp] theorem Try.one24 : Aw.oneSize Try.prog 24 = true := by kernel_rfl
@[simp] theorem Try.siz24 : Aw.sizeA Try.prog 24 = some 1 := by kernel_rfl
@[simp] theorem Try.zer24 : Aw.zeroA Try.prog 24 = some [.sl .own 0 []] := by kernel_rfl
@[simp] theorem Try.zsz24 : Aw.zeroSz Try.prog 24 1 = true := by kernel_rfl
@[simp] theorem Try.elm24 : Aw.elemA Try.prog 24 = some (9, 1, 16) := by kernel_rfl
@[simp] theorem Try.isl24 : Aw.isSlice Try.prog 24 = true := by kernel_rfl
@[simp] theorem Try.apd24 : Aw.appendable Try.prog 24 = true := by kernel_rfl
@[simp] theorem Try.agg26 : Aw.aggSize Try.prog 26 = some 5 := by kernel_rfl
@[simp] theorem Try.siz26 : Aw.sizeA Try.prog 26 = some 5 := by kernel_rfl
@[simp] theorem Try.zer26 : Aw.zeroA Try.prog 26 = some [.bool false, .sl .own 0 [], .sl .own 0 [], .sl .own 0 [], .str []] := by kernel_rfl
@[simp] theorem Try.zsz26 : Aw.zeroSz Try.prog 26 5 = true := by kernel_rfl
@[simp] theorem Try.fld26_0 : Aw.fieldA Try.prog 26 0 = some 0 := by kernel_rfl
@[simp] theorem Try.fld26_1 : Aw.fieldA Try.prog 26 1 = some 1 := by kernel_rfl
@[simp] theorem Try.fld26_2 : Aw.fieldA Try.prog 26 2 = some 2 := by kernel_rfl
@[simp] theorem Try.fld26_3 : Aw.fieldA Try.prog 26 3 = some 3 := by kernel_rfl
@[simp] theorem Try.fld26_4 : Aw.fieldA Try.prog 26 4 = some 4 := by kernel_rfl
@[simp] theorem Try.plc26 : Aw.placesA Try.prog 26 = some [(0, 1), (1, 1), (2, 1), (3, 1), (4, 1)] := by kernel_rfl
@[simp] theorem Try.agg28 : Aw.aggSize Try.prog 28 = some 1 := by kernel_rfl
@[simp] theorem Try.siz28 : Aw.sizeA Try.prog 28 = some 1 := by kernel_rfl
@[simp] theorem Try.zer28 : Aw.zeroA Try.prog 28 = some [.str []] := by kernel_rfl
@[simp] theorem Try.zsz28 : Aw.zeroSz Try.prog 28 1 = true := by kernel_rfl
@[simp] theorem Try.fld28_0 : Aw.fieldA Try.prog 28 0 = some 0 := by kernel_rfl
@[simp] theorem Try.plc28 : Aw.placesA Try.prog 28 = some [(0, 1)] := by kernel_rfl
@[simp] theorem Try.agg29 : Aw.aggSize Try.prog 29 = none := by kernel_rfl
@[simp] theorem Try.one29 : Aw.oneSize Try.prog 29 = true := by kernel_rfl
@[simp] theorem Try.siz29 : Aw.sizeA Try.prog 29 = some 1 := by kernel_rfl
@[simp] theorem Try.zer29 : Aw.zeroA Try.prog 29 = some [.sl .own 0 []] := by kernel_rfl
@[simp] theorem Try.zsz29 : Aw.zeroSz Try.prog 29 1 = true := by kernel_rfl
@[simp] theorem Try.elm29 : Aw.elemA Try.prog 29 = some (105, 4, 64) := by kernel_rfl
@[simp] theorem Try.isl29 : Aw.isSlice Try.prog 29 = true := by kernel_rfl
@[simp] theorem Try.apd29 : Aw.appendable Try.prog 29 = true := by kernel_rfl
@[simp] theorem Try.agg30 : Aw.aggSize Try.prog 30 = none := by kernel_rfl
@[simp] theorem Try.one30 : Aw.oneSize Try.prog 30 = true := by kernel_rfl
@[simp] theorem Try.siz30 : Aw.sizeA Try.prog 30 = some 1 := by kernel_rfl
@[simp] theorem Try.zer30 : Aw.zeroA Try.prog 30 = some [.sl .own 0 []] := by kernel_rfl
@[simp] theorem Try.zsz30 : Aw.zeroSz Try.prog 30 1 = true := by kernel_rfl
@[simp] theorem Try.elm30 : Aw.elemA Try.prog 30 = some (134, 4, 64) := by kernel_rfl
@[simp] theorem Try.isl30 : Aw.isSlice Try.prog 30 = true := by kernel_rfl
@[simp] theorem Try.apd30 : Aw.appendable Try.prog 30 = true := by kernel_rfl
@[simp] theorem Try.agg31 : Aw.aggSize Try.prog 31 = none := by kernel_rfl
@[simp] theorem Try.one31 : Aw.oneSize Try.prog 31 = true := by kernel_rfl
@[simp] theorem Try.siz31 : Aw.sizeA Try.prog 31 = some 1 := by kernel_rfl
@[simp] theorem Try.zer31 : Aw.zeroA Try.prog 31 = some [.sl .own 0 []] := by kernel_rfl
@[simp] theorem Try.zsz31 : Aw.zeroSz Try.prog 31 1 = true := by kernel_rfl
@[simp] theorem Try.elm31 : Aw.elemA Try.prog 31 = some (3, 1, 8) := by kernel_rfl
@[simp] theorem Try.isl31 : Aw.isSlice Try.prog 31 = true := by kernel_rfl
@[simp] theorem Try.apd31 : Aw.appendable Try.prog 31 = true := by kernel_rfl
@[simp] theorem Try.agg33 : Aw.aggSize Try.prog 33 = some 2 := by kernel_rfl
@[simp] theorem Try.siz33 : Aw.sizeA Try.prog 33 = some 2 := by kernel_rfl
@[simp] theorem Try.zer33 : Aw.zeroA Try.prog 33 = some [.sl .own 0 [], .sl .own 0 []] := by kernel_rfl
@[simp] theorem Try.zsz33 : Aw.zeroSz Try.prog 33 2 = true := by kernel_rfl
@[simp] theorem Try.fld33_0 : Aw.fieldA Try.prog 33 0 = some 0 := by kernel_rfl
@[simp] theorem Try.fld33_1 : Aw.fieldA Try.prog 33 1 = some 1 := by kernel_rfl
@[simp] theorem Try.plc33 : Aw.placesA Try.prog 33 = some [(0, 1), (1, 1)] := by kernel_rfl
@[simp] theorem Try.agg34 : Aw.aggSize Try.prog 34 = none := by kernel_rfl
@[simp] theorem Try.one34 : Aw.oneSize Try.prog 34 = true := by kernel_rfl
@[simp] theorem Try.siz34 : Aw.sizeA Try.prog 34 = some 1 := by kernel_rfl
@[simp] theorem Try.zer34 : Aw.zeroA Try.prog 34 = some [.sl .own 0 []] := by kernel_rfl
@[simp] theorem Try.zsz34 : Aw.zeroSz Try.prog 34 1 = true := by kernel_rfl
@[simp] theorem Try.elm34 : Aw.elemA Try.prog 34 = some (109, 8, 96) := by kernel_rfl
@[simp] theorem Try.isl34 : Aw.isSlice Try.prog 34 = true := by kernel_rfl
@[simp] theorem Try.apd34 : Aw.appendable Try.prog 34 = true := by kernel_rfl
@[simp] theorem Try.agg35 : Aw.aggSize Try.prog 35 = none := by kernel_rfl
@[simp] theorem Try.one35 : Aw.oneSize Try.prog 35 = true := by kernel_rfl
@[simp] theorem Try.siz35 : Aw.sizeA Try.prog 35 = some 1 := by kernel_rfl
@[simp] theorem Try.zer35 : Aw.zeroA Try.prog 35 = some [.sl .own 0 []] := by kernel_rfl
@[simp] theorem Try.zsz35 : Aw.zeroSz Try.prog 35 1 = true := by kernel_rfl
@[simp] theorem Try.elm35 : Aw.elemA Try.prog 35 = some (112, 5, 64) := by kernel_rfl
@[simp] theorem Try.isl35 : Aw.isSlice Try.prog 35 = true := by kernel_rfl
@[simp] theorem Try.apd35 : Aw.appendable Try.prog 35 = true := by kernel_rfl
@[simp] theorem Try.agg36 : Aw.aggSize Try.prog 36 = none := by kernel_rfl
@[simp] theorem Try.one36 : Aw.oneSize Try.prog 36 = true := by kernel_rfl
@[simp] theorem Try.siz36 : Aw.sizeA Try.prog 36 = some 1 := by kernel_rfl
@[simp] theorem Try.zer36 : Aw.zeroA Try.prog 36 = some [.sl .own 0 []] := by kernel_rfl
@[simp] theorem Try.zsz36 : Aw.zeroSz Try.prog 36 1 = true := by kernel_rfl
@[simp] theorem Try.elm36 : Aw.elemA Try.prog 36 = some (23, 2, 32) := by kernel_rfl
@[simp] theorem Try.isl36 : Aw.isSlice Try.prog 36 = true := by kernel_rfl
@[simp] theorem Try.apd36 : Aw.appendable Try.prog 36 = true := by kernel_rfl
@[simp] theorem Try.agg38 : Aw.aggSize Try.prog 38 = some 22 := by kernel_rfl
@[simp] theorem Try.siz38 : Aw.sizeA Try.prog 38 = some 22 := by kernel_rfl
@[simp] theorem Try.zer38 : Aw.zeroA Try.prog 38 = some [.str [], .str [], .bool false, .sl .own 0 [], .sl .own 0 [], .sl .own 0 [], .str [], .str [], .sl .own 0 [], .bool false, .sl .own 0 [], .sl .own 0 [], .sl .own 0 [], .sl .own 0 [], .sl .own 0 [], .int .i64 0, .int .i64 0, .int .i64 0, .int .i64 0, .sl .own 0 [], .sl .own 0 [], .bool false] := by kernel_rfl
@[simp] theorem Try.zsz38 : Aw.zeroSz Try.prog 38 22 = true := by kernel_rfl
@[simp] theorem Try.fld38_0 : Aw.fieldA Try.prog 38 0 = some 0 := by kernel_rfl
@[simp] theorem Try.fld38_1 : Aw.fieldA Try.prog 38 1 = some 2 := by kernel_rfl
@[simp] theorem Try.fld38_2 : Aw.fieldA Try.prog 38 2 = some 7 := by kernel_rfl
@[simp] theorem Try.fld38_3 : Aw.fieldA Try.prog 38 3 = some 8 := by kernel_rfl
@[simp] theorem Try.fld38_4 : Aw.fieldA Try.prog 38 4 = some 9 := by kernel_rfl
@[simp] theorem Try.fld38_5 : Aw.fieldA Try.prog 38 5 = some 10 := by kernel_rfl
@[simp] theorem Try.fld38_6 : Aw.fieldA Try.prog 38 6 = some 12 := by kernel_rfl
@[simp] theorem Try.fld38_7 : Aw.fieldA Try.prog 38 7 = some 13 := by kernel_rfl
@[simp] theorem Try.fld38_8 : Aw.fieldA Try.prog 38 8 = some 14 := by kernel_rfl
@[simp] theorem Try.fld38_9 : Aw.fieldA Try.prog 38 9 = some 15 := by kernel_rfl
@[simp] theorem Try.fld38_10 : Aw.fieldA Try.prog 38 10 = some 16 := by kernel_rfl
@[simp] theorem Try.fld38_11 : Aw.fieldA Try.prog 38 11 = some 17 := by kernel_rfl
@[simp] theorem Try.fld38_12 : Aw.fieldA Try.prog 38 12 = some 18 := by kernel_rfl
@[simp] theorem Try.fld38_13 : Aw.fieldA Try.prog 38 13 = some 19 := by kernel_rfl
@[simp] theorem Try.fld38_14 : Aw.fieldA Try.prog 38 14 = some 20 := by kernel_rfl
@[simp] theorem Try.fld38_15 : Aw.fieldA Try.prog 38 15 = some 21 := by kernel_rfl
@[simp] theorem Try.plc38 : Aw.placesA Try.prog 38 = some [(0, 2), (2, 5), (7, 1), (8, 1), (9, 1), (10, 2), (12, 1), (13, 1), (14, 1), (15, 1), (16, 1), (17, 1), (18, 1), (19, 1), (20, 1), (21, 1)] := by kernel_rfl
@[simp] theorem Try.agg41 : Aw.aggSize Try.prog 41 = some 2 := by kernel_rfl
@[simp] theorem Try.siz41 : Aw.sizeA Try.prog 41 = some 2 := by kernel_rfl
@[simp] theorem Try.zer41 : Aw.zeroA Try.prog 41 = some [.str [], .str []] := by kernel_rfl
@[simp] theorem Try.zsz41 : Aw.zeroSz Try.prog 41 2 = true := by kernel_rfl
@[simp] theorem Try.fld41_0 : Aw.fieldA Try.prog 41 0 = some 0 := by kernel_rfl
@[simp] theorem Try.fld41_1 : Aw.fieldA Try.prog 41 1 = some 1 := by kernel_rfl
@[simp] theorem Try.plc41 : Aw.placesA Try.prog 41 = some [(0, 1), (1, 1)] := by kernel_rfl
@[simp] theorem Try.agg42 : Aw.aggSize Try.prog 42 = some 5 := by kernel_rfl
@[simp] theorem Try.siz42 : Aw.sizeA Try.prog 42 = some 5 := by kernel_rfl
@[simp] theorem Try.zer42 : Aw.zeroA Try.prog 42 = some [.bool false, .sl .own 0 [], .sl .own 0 [], .sl .own 0 [], .str []] := by kernel_rfl
@[simp] theorem Try.zsz42 : Aw.zeroSz Try.prog 42 5 = true := by kernel_rfl
@[simp] theorem Try.fld42_0 : Aw.fieldA Try.prog 42 0 = some 0 := by kernel_rfl
@[simp] theorem Try.fld42_1 : Aw.fieldA Try.prog 42 1 = some 1 := by kernel_rfl
@[simp] theorem Try.fld42_2 : Aw.fieldA Try.prog 42 2 = some 2 := by kernel_rfl
@[simp] theorem Try.fld42_3 : Aw.fieldA Try.prog 42 3 = some 3 := by kernel_rfl
@[simp] theorem Try.fld42_4 : Aw.fieldA Try.prog 42 4 = some 4 := by kernel_rfl
@[simp] theorem Try.plc42 : Aw.placesA Try.prog 42 = some [(0, 1), (1, 1), (2, 1), (3, 1), (4, 1)] := by kernel_rfl
@[simp] theorem Try.agg43 : Aw.aggSize Try.prog 43 = some 1 := by kernel_rfl
@[simp] theorem Try.siz43 : Aw.sizeA Try.prog 43 = some 1 := by kernel_rfl
@[simp] theorem Try.zer43 : Aw.zeroA Try.prog 43 = some [.str []] := by kernel_rfl
@[simp] theorem Try.zsz43 : Aw.zeroSz Try.prog 43 1 = true := by kernel_rfl
@[simp] theorem Try.fld43_0 : Aw.fieldA Try.prog 43 0 = some 0 := by kernel_rfl
@[simp] theorem Try.plc43 : Aw.placesA Try.prog 43 = some [(0, 1)] := by kernel_rfl
@[simp] theorem Try.agg44 : Aw.aggSize Try.prog 44 = none := by kernel_rfl
@[simp] theorem Try.one44 : Aw.oneSize Try.prog 44 = true := by kernel_rfl
@[simp] theorem Try.siz44 : Aw.sizeA Try.prog 44 = some 1 := by kernel_rfl
@[simp] theorem Try.zer44 : Aw.zeroA Try.prog 44 = some [.sl .own 0 []] := by kernel_rfl
@[simp] theorem Try.zsz44 : Aw.zeroSz Try.prog 44 1 = true := by kernel_rfl
@[simp] theorem Try.elm44 : Aw.elemA Try.prog 44 = some (115, 4, 64) := by kernel_rfl
@[simp] theorem Try.isl44 : Aw.isSlice Try.prog 44 = true := by kernel_rfl
@[simp] theorem Try.apd44 : Aw.appendable Try.prog 44 = true := by kernel_rfl
@[simp] theorem Try.agg45 : Aw.aggSize Try.prog 45 = none := by kernel_rfl
@[simp] theorem Try.one45 : Aw.oneSize Try.prog 45 = true := by kernel_rfl
@[simp] theorem Try.siz45 : Aw.sizeA Try.prog 45 = some 1 := by kernel_rfl
@[simp] theorem Try.zer45 : Aw.zeroA Try.prog 45 = some [.sl .own 0 []] := by kernel_rfl
@[simp] theorem Try.zsz45 : Aw.zeroSz Try.prog 45 1 = true := by kernel_rfl
@[simp] theorem Try.elm45 : Aw.elemA Try.prog 45 = some (137, 4, 64) := by kernel_rfl
@[simp] theorem Try.isl45 : Aw.isSlice Try.prog 45 = true := by kernel_rfl
@[simp] theorem Try.apd45 : Aw.appendable Try.prog 45 = true := by kernel_rfl
@[simp] theorem Try.agg47 : Aw.aggSize Try.prog 47 = some 2 := by kernel_rfl
@[simp] theorem Try.siz47 : Aw.sizeA Try.prog 47 = some 2 := by kernel_rfl
@[simp] theorem Try.zer47 : Aw.zeroA Try.prog 47 = some [.sl .own 0 [], .sl .own 0 []] := by kernel_rfl
@[simp] theorem Try.zsz47 : Aw.zeroSz Try.prog 47 2 = true := by kernel_rfl
@[simp] theorem Try.fld47_0 : Aw.fieldA Try.prog 47 0 = some 0 := by kernel_rfl
@[simp] theorem Try.fld47_1 : Aw.fieldA Try.prog 47 1 = some 1 := by kernel_rfl
@[simp] theorem Try.plc47 : Aw.placesA Try.prog 47 = some [(0, 1), (1, 1)] := by kernel_rfl
@[simp] theorem Try.agg48 : Aw.aggSize Try.prog 48 = none := by kernel_rfl
@[simp] theorem Try.one48 : Aw.oneSize Try.prog 48 = true := by kernel_rfl
@[simp] theorem Try.siz48 : Aw.sizeA Try.prog 48 = some 1 := by kernel_rfl
@[simp] theorem Try.zer48 : Aw.zeroA Try.prog 48 = some [.sl .own 0 []] := by kernel_rfl
@[simp] theorem Try.zsz48 : Aw.zeroSz Try.prog 48 1 = true := by kernel_rfl
@[simp] theorem Try.elm48 : Aw.elemA Try.prog 48 = some (90, 8, 96) := by kernel_rfl
@[simp] theorem Try.isl48 : Aw.isSlice Try.prog 48 = true := by kernel_rfl
@[simp] theorem Try.apd48 : Aw.appendable Try.prog 48 = true := by kernel_rfl
@[simp] theorem Try.agg49 : Aw.aggSize Try.prog 49 = none := by kernel_rfl
@[simp] theorem Try.one49 : Aw.oneSize Try.prog 49 = true := by kernel_rfl
@[simp] theorem Try.siz49 : Aw.sizeA Try.prog 49 = some 1 := by kernel_rfl
@[simp] theorem Try.zer49 : Aw.zeroA Try.prog 49 = some [.sl .own 0 []] := by kernel_rfl
@[simp] theorem Try.zsz49 : Aw.zeroSz Try.prog 49 1 = true := by kernel_rfl
@[simp] theorem Try.elm49 : Aw.elemA Try.prog 49 = some (101, 5, 64) := by kernel_rfl
@[simp] theorem Try.isl49 : Aw.isSlice Try.prog 49 = true := by kernel_rfl
@[simp] theorem Try.apd49 : Aw.appendable Try.prog 49 = true := by kernel_rfl
@[simp] theorem Try.agg50 : Aw.aggSize Try.prog 50 = none := by kernel_rfl
@[simp] theorem Try.one50 : Aw.oneSize Try.prog 50 = true := by kernel_rfl
@[simp] theorem Try.siz50 : Aw.sizeA Try.prog 50 = some 1 := by kernel_rfl
@[simp] theorem Try.zer50 : Aw.zeroA Try.prog 50 = some [.sl .own 0 []] := by kernel_rfl
@[simp] theorem Try.zsz50 : Aw.zeroSz Try.prog 50 1 = true := by kernel_rfl
@[simp] theorem Try.elm50 : Aw.elemA Try.prog 50 = some (41, 2, 32) := by kernel_rfl
@[simp] theorem Try.isl50 : Aw.isSlice Try.prog 50 = true := by kernel_rfl
@[simp] theorem Try.apd50 : Aw.appendable Try.prog 50 = true := by kernel_rfl
@[simp] theorem Try.agg52 : Aw.aggSize Try.prog 52 = some 22 := by kernel_rfl
@[simp] theorem Try.siz52 : Aw.sizeA Try.prog 52 = some 22 := by kernel_rfl
@[simp] theorem Try.zer52 : Aw.zeroA Try.prog 52 = some [.str [], .str [], .bool false, .sl .own 0 [], .sl .own 0 [], .sl .own 0 [], .str [], .str [], .sl .own 0 [], .bool false, .sl .own 0 [], .sl .own 0 [], .sl .own 0 [], .sl .own 0 [], .sl .own 0 [], .int .i64 0, .int .i64 0, .int .i64 0, .int .i64 0, .sl .own 0 [], .sl .own 0 [], .bool false] := by kernel_rfl
@[simp] theorem Try.zsz52 : Aw.zeroSz Try.prog 52 22 = true := by kernel_rfl
@[simp] theorem Try.fld52_0 : Aw.fieldA Try.prog 52 0 = some 0 := by kernel_rfl
@[simp] theorem Try.fld52_1 : Aw.fieldA Try.prog 52 1 = some 2 := by kernel_rfl
@[simp] theorem Try.fld52_2 : Aw.fieldA Try.prog 52 2 = some 7 := by kernel_rfl
@[simp] theorem Try.fld52_3 : Aw.fieldA Try.prog 52 3 = some 8 := by kernel_rfl
@[simp] theorem Try.fld52_4 : Aw.fieldA Try.prog 52 4 = some 9 := by kernel_rfl
@[simp] theorem Try.fld52_5 : Aw.fieldA Try.prog 52 5 = some 10 := by kernel_rfl
@[simp] theorem Try.fld52_6 : Aw.fieldA Try.prog 52 6 = some 12 := by kernel_rfl
@[simp] theorem Try.fld52_7 : Aw.fieldA Try.prog 52 7 = some 13 := by kernel_rfl
@[simp] theorem Try.fld52_8 : Aw.fieldA Try.prog 52 8 = some 14 := by kernel_rfl
@[simp] theorem Try.fld52_9 : Aw.fieldA Try.prog 52 9 = some 15 := by kernel_rfl
@[simp] theorem Try.fld52_10 : Aw.fieldA Try.prog 52 10 = some 16 := by kernel_rfl
@[simp] theorem Try.fld52_11 : Aw.fieldA Try.prog 52 11 = some 17 := by kernel_rfl
@[simp] theorem Try.fld52_12 : Aw.fieldA Try.prog 52 12 = some 18 := by kernel_rfl
@[simp] theorem Try.fld52_13 : Aw.fieldA Try.prog 52 13 = some 19 := by kernel_rfl
@[simp] theorem Try.fld52_14 : Aw.fieldA Try.prog 52 14 = some 20 := by kernel_rfl
@[simp] theorem Try.fld52_15 : Aw.fieldA Try.prog 52 15 = some 21 := by kernel_rfl
@[simp] theorem Try.plc52 : Aw.placesA Try.prog 52 = some [(0, 2), (2, 5), (7, 1), (8, 1), (9, 1), (10, 2), (12, 1), (13, 1), (14, 1), (15, 1), (16, 1), (17, 1), (18, 1), (19, 1), (20, 1), (21, 1)] := by kernel_rfl
@[simp] theorem Try.agg90 : Aw.aggSize Try.prog 90 = some 8 := by kernel_rfl
@[simp] theorem Try.siz90 : Aw.sizeA Try.prog 90 = some 8 := by kernel_rfl
@[simp] theorem Try.zer90 : Aw.zeroA Try.prog 90 = some [.int .i64 0, .str [], .str [], .str [], .int .i64 0, .bool false, .int .i64 0, .str []] := by kernel_rfl
@[simp] theorem Try.zsz90 : Aw.zeroSz Try.prog 90 8 = true := by kernel_rfl
@[simp] theorem Try.fld90_0 : Aw.fieldA Try.prog 90 0 = some 0 := by kernel_rfl
@[simp] theorem Try.fld90_1 : Aw.fieldA Try.prog 90 1 = some 1 := by kernel_rfl
@[simp] theorem Try.fld90_2 : Aw.fieldA Try.prog 90 2 = some 3 := by kernel_rfl
@[simp] theorem Try.fld90_3 : Aw.fieldA Try.prog 90 3 = some 4 := by kernel_rfl
@[simp] theorem Try.fld90_4 : Aw.fieldA Try.prog 90 4 = some 5 := by kernel_rfl
@[simp] theorem Try.fld90_5 : Aw.fieldA Try.prog 90 5 = some 6 := by kernel_rfl
@[simp] theorem Try.fld90_6 : Aw.fieldA Try.prog 90 6 = some 7 := by kernel_rfl
@[simp] theorem Try.plc90 : Aw.placesA Try.prog 90 = some [(0, 1), (1, 2), (3, 1), (4, 1), (5, 1), (6, 1), (7, 1)] := by kernel_rfl
@[simp] theorem Try.agg101 : Aw.aggSize Try.prog 101 = some 5 := by kernel_rfl
@[simp] theorem Try.siz101 : Aw.sizeA Try.prog 101 = some 5 := by kernel_rfl
@[simp] theorem Try.zer101 : Aw.zeroA Try.prog 101 = some [.str [], .str [], .bool false, .int .i64 0, .str []] := by kernel_rfl
@[simp] theorem Try.zsz101 : Aw.zeroSz Try.prog 101 5 = true := by kernel_rfl
@[simp] theorem Try.fld101_0 : Aw.fieldA Try.prog 101 0 = some 0 := by kernel_rfl
@[simp] theorem Try.fld101_1 : Aw.fieldA Try.prog 101 1 = some 2 := by kernel_rfl
@[simp] theorem Try.fld101_2 : Aw.fieldA Try.prog 101 2 = some 3 := by kernel_rfl
@[simp] theorem Try.fld101_3 : Aw.fieldA Try.prog 101 3 = some 4 := by kernel_rfl
@[simp] theorem Try.plc101 : Aw.placesA Try.prog 101 = some [(0, 2), (2, 1), (3, 1), (4, 1)] := by kernel_rfl
@[simp] theorem Try.agg103 : Aw.aggSize Try.prog 103 = none := by kernel_rfl
@[simp] theorem Try.one103 : Aw.oneSize Try.prog 103 = true := by kernel_rfl
@[simp] theorem Try.siz103 : Aw.sizeA Try.prog 103 = some 1 := by kernel_rfl
@[simp] theorem Try.zer103 : Aw.zeroA Try.prog 103 = some [.sl .own 0 []] := by kernel_rfl
@[simp] theorem Try.zsz103 : Aw.zeroSz Try.prog 103 1 = true := by kernel_rfl
@[simp] theorem Try.elm103 : Aw.elemA Try.prog 103 = some (145, 2, 32) := by kernel_rfl
@[simp] theorem Try.isl103 : Aw.isSlice Try.prog 103 = true := by kernel_rfl
@[simp] theorem Try.apd103 : Aw.appendable Try.prog 103 = true := by kernel_rfl
@[simp] theorem Try.agg105 : Aw.aggSize Try.prog 105 = some 4 := by kernel_rfl
@[simp] theorem Try.siz105 : Aw.sizeA Try.prog 105 = some 4 := by kernel_rfl
@[simp] theorem Try.zer105 : Aw.zeroA Try.prog 105 = some [.int .i64 0, .str [], .sl .own 0 [], .str []] := by kernel_rfl
@[simp] theorem Try.zsz105 : Aw.zeroSz Try.prog 105 4 = true := by kernel_rfl
@[simp] theorem Try.fld105_0 : Aw.fieldA Try.prog 105 0 = some 0 := by kernel_rfl
@[simp] theorem Try.fld105_1 : Aw.fieldA Try.prog 105 1 = some 1 := by kernel_rfl
@[simp] theorem Try.fld105_2 : Aw.fieldA Try.prog 105 2 = some 2 := by kernel_rfl
@[simp] theorem Try.fld105_3 : Aw.fieldA Try.prog 105 3 = some 3 := by kernel_rfl
@[simp] theorem Try.plc105 : Aw.placesA Try.prog 105 = some [(0, 1), (1, 1), (2, 1), (3, 1)] := by kernel_rfl
@[simp] theorem Try.agg109 : Aw.aggSize Try.prog 109 = some 8 := by kernel_rfl
@[simp] theorem Try.siz109 : Aw.sizeA Try.prog 109 = some 8 := by kernel_rfl
@[simp] theorem Try.zer109 : Aw.zeroA Try.prog 109 = some [.int .i64 0, .str [], .str [], .str [], .int .i64 0, .bool false, .int .i64 0, .str []] := by kernel_rfl
@[simp] theorem Try.zsz109 : Aw.zeroSz Try.prog 109 8 = true := by kernel_rfl
@[simp] theorem Try.fld109_0 : Aw.fieldA Try.prog 109 0 = some 0 := by kernel_rfl
@[simp] theorem Try.fld109_1 : Aw.fieldA Try.prog 109 1 = some 1 := by kernel_rfl
@[simp] theorem Try.fld109_2 : Aw.fieldA Try.prog 109 2 = some 3 := by kernel_rfl
@[simp] theorem Try.fld109_3 : Aw.fieldA Try.prog 109 3 = some 4 := by kernel_rfl
@[simp] theorem Try.fld109_4 : Aw.fieldA Try.prog 109 4 = some 5 := by kernel_rfl
@[simp] theorem Try.fld109_5 : Aw.fieldA Try.prog 109 5 = some 6 := by kernel_rfl
@[simp] theorem Try.fld109_6 : Aw.fieldA Try.prog 109 6 = some 7 := by kernel_rfl
@[simp] theorem Try.plc109 : Aw.placesA Try.prog 109 = some [(0, 1), (1, 2), (3, 1), (4, 1), (5, 1), (6, 1), (7, 1)] := by kernel_rfl
@[simp] theorem Try.agg112 : Aw.aggSize Try.prog 112 = some 5 := by kernel_rfl
@[simp] theorem Try.siz112 : Aw.sizeA Try.prog 112 = some 5 := by kernel_rfl
@[simp] theorem Try.zer112 : Aw.zeroA Try.prog 112 = some [.str [], .str [], .bool false, .int .i64 0, .str []] := by kernel_rfl
@[simp] theorem Try.zsz112 : Aw.zeroSz Try.prog 112 5 = true := by kernel_rfl
@[simp] theorem Try.fld112_0 : Aw.fieldA Try.prog 112 0 = some 0 := by kernel_rfl
@[simp] theorem Try.fld112_1 : Aw.fieldA Try.prog 112 1 = some 2 := by kernel_rfl
@[simp] theorem Try.fld112_2 : Aw.fieldA Try.prog 112 2 = some 3 := by kernel_rfl
@[simp] theorem Try.fld112_3 : Aw.fieldA Try.prog 112 3 = some 4 := by kernel_rfl
@[simp] theorem Try.plc112 : Aw.placesA Try.prog 112 = some [(0, 2), (2, 1), (3, 1), (4, 1)] := by kernel_rfl
@[simp] theorem Try.agg113 : Aw.aggSize Try.prog 113 = none := by kernel_rfl
@[simp] theorem Try.one113 : Aw.oneSize Try.prog 113 = true := by kernel_rfl
@[simp] theorem Try.siz113 : Aw.sizeA Try.prog 113 = some 1 := by kernel_rfl
@[simp] theorem Try.zer113 : Aw.zeroA Try.prog 113 = some [.sl .own 0 []] := by kernel_rfl
@[simp] theorem Try.zsz113 : Aw.zeroSz Try.prog 113 1 = true := by kernel_rfl
@[simp] theorem Try.elm113 : Aw.elemA Try.prog 113 = some (143, 2, 32) := by kernel_rfl
@[simp] theorem Try.isl113 : Aw.isSlice Try.prog 113 = true := by kernel_rfl
@[simp] theorem Try.apd113 : Aw.appendable Try.prog 113 = true := by kernel_rfl
@[simp] theorem Try.agg115 : Aw.aggSize Try.prog 115 = some 4 := by kernel_rfl
@[simp] theorem Try.siz115 : Aw.sizeA Try.prog 115 = some 4 := by kernel_rfl
@[simp] theorem Try.zer115 : Aw.zeroA Try.prog 115 = some [.int .i64 0, .str [], .sl .own 0 [], .str []] := by kernel_rfl
@[simp] theorem Try.zsz115 : Aw.zeroSz Try.prog 115 4 = true := by kernel_rfl
@[simp] theorem Try.fld115_0 : Aw.fieldA Try.prog 115 0 = some 0 := by kernel_rfl
@[simp] theorem Try.fld115_1 : Aw.fieldA Try.prog 115 1 = some 1 := by kernel_rfl
@[simp] theorem Try.fld115_2 : Aw.fieldA Try.prog 115 2 = some 2 := by kernel_rfl
@[simp] theorem Try.fld115_3 : Aw.fieldA Try.prog 115 3 = some 3 := by kernel_rfl
@[simp] theorem Try.plc115 : Aw.placesA Try.prog 115 = some [(0, 1), (1, 1), (2, 1), (3, 1)] := by kernel_rfl
@[simp] theorem Try.agg134 : Aw.aggSize Try.prog 134 = some 4 := by kernel_rfl
@[simp] theorem Try.siz134 : Aw.sizeA Try.prog 134 = some 4 := by kernel_rfl
@[simp] theorem Try.zer134 : Aw.zeroA Try.prog 134 = some [.str [], .str [], .int .i64 0, .sl .own 0 []] := by kernel_rfl
@[simp] theorem Try.zsz134 : Aw.zeroSz Try.prog 134 4 = true := by kernel_rfl
@[simp] theorem Try.fld134_0 : Aw.fieldA Try.prog 134 0 = some 0 := by kernel_rfl
@[simp] theorem Try.fld134_1 : Aw.fieldA Try.prog 134 1 = some 1 := by kernel_rfl
@[simp] theorem Try.fld134_2 : Aw.fieldA Try.prog 134 2 = some 2 := by kernel_rfl
@[simp] theorem Try.fld134_3 : Aw.fieldA Try.prog 134 3 = some 3 := by kernel_rfl
@[simp] theorem Try.plc134 : Aw.placesA Try.prog 134 = some [(0, 1), (1, 1), (2, 1), (3, 1)] := by kernel_rfl
@[simp] theorem Try.agg137 : Aw.aggSize Try.prog 137 = some 4 := by kernel_rfl
@[simp] theorem Try.siz137 : Aw.sizeA Try.prog 137 = some 4 := by kernel_rfl
@[simp] theorem Try.zer137 : Aw.zeroA Try.prog 137 = some [.str [], .str [], .int .i64 0, .sl .own 0 []] := by kernel_rfl
@[simp] theorem Try.zsz137 : Aw.zeroSz Try.prog 137 4 = true := by kernel_rfl
@[simp] theorem Try.fld137_0 : Aw.fieldA Try.prog 137 0 = some 0 := by kernel_rfl
@[simp] theorem Try.fld137_1 : Aw.fieldA Try.prog 137 1 = some 1 := by kernel_rfl
@[simp] theorem Try.fld137_2 : Aw.fieldA Try.prog 137 2 = some 2 := by kernel_rfl
@[simp] theorem Try.fld137_3 : Aw.fieldA Try.prog 137 3 = some 3 := by kernel_rfl
@[simp] theorem Try.plc137 : Aw.placesA Try.prog 137 = some [(0, 1), (1, 1), (2, 1), (3, 1)] := by kernel_rfl
@[simp] theorem Try.agg141 : Aw.aggSize Try.prog 141 = none := by kernel_rfl
@[simp] theorem Try.one141 : Aw.oneSize Try.prog 141 = true := by kernel_rfl
@[simp] theorem Try.siz141 : Aw.sizeA Try.prog 141 = some 1 := by kernel_rfl
@[simp] theorem Try.zer141 : Aw.zeroA Try.prog 141 = some [.sl .own 0 []] := by kernel_rfl
@[simp] theorem Try.zsz141 : Aw.zeroSz Try.prog 141 1 = true := by kernel_rfl
@[simp] theorem Try.elm141 : Aw.elemA Try.prog 141 = some (5, 1, 1) := by kernel_rfl
@[simp] theorem Try.isl141 : Aw.isSlice Try.prog 141 = true := by kernel_rfl
@[simp] theorem Try.apd141 : Aw.appendable Try.prog 141 = true := by kernel_rfl
@[simp] theorem Try.agg143 : Aw.aggSize Try.prog 143 = some 2 := by kernel_rfl
@[simp] theorem Try.siz143 : Aw.sizeA Try.prog 143 = some 2 := by kernel_rfl
@[simp] theorem Try.zer143 : Aw.zeroA Try.prog 143 = some [.str [], .str []] := by kernel_rfl
@[simp] theorem Try.zsz143 : Aw.zeroSz Try.prog 143 2 = true := by kernel_rfl
@[simp] theorem Try.fld143_0 : Aw.fieldA Try.prog 143 0 = some 0 := by kernel_rfl
@[simp] theorem Try.fld143_1 : Aw.fieldA Try.prog 143 1 = some 1 := by kernel_rfl
@[simp] theorem Try.plc143 : Aw.placesA Try.prog 143 = some [(0, 1), (1, 1)] := by kernel_rfl
@[simp] theorem Try.agg145 : Aw.aggSize Try.prog 145 = some 2 := by kernel_rfl
@[simp] theorem Try.siz145 : Aw.sizeA Try.prog 145 = some 2 := by kernel_rfl
@[simp] theorem Try.zer145 : Aw.zeroA Try.prog 145 = some [.str [], .str []] := by kernel_rfl
@[simp] theorem Try.zsz145 : Aw.zeroSz Try.prog 145 2 = true := by kernel_rfl
@[simp] theorem Try.fld145_0 : Aw.fieldA Try.prog 145 0 = some 0 := by kernel_rfl
@[simp] theorem Try.fld145_1 : Aw.fieldA Try.prog 145 1 = some 1 := by kernel_rfl
@[simp] theorem Try.plc145 : Aw.placesA Try.prog 145 = some [(0, 1), (1, 1)] := by kernel_rfl
@[simp] theorem Try.agg155 : Aw.aggSize Try.prog 155 = none := by kernel_rfl
@[simp] theorem Try.one155 : Aw.oneSize Try.prog 155 = true := by kernel_rfl
@[simp] theorem Try.siz155 : Aw.sizeA Try.prog 155 = some 1 := by kernel_rfl
@[simp] theorem Try.zer155 : Aw.zeroA Try.prog 155 = some [.int .u32 0] := by kernel_rfl
@[simp] theorem Try.zsz155 : Aw.zeroSz Try.prog 155 1 = true := by kernel_rfl
@[simp] theorem Try.int155 : Aw.intType Try.prog 155 = some .u32 := by kernel_rfl
@[simp] theorem Try.som155 : (Try.prog.underlying 155).isSome = true := by kernel_rfl
@[simp] theorem Try.cal3 : Aw.callable Try.prog 3 = true := by kernel_rfl
@[simp] theorem Try.cal4 : Aw.callable Try.prog 4 = true := by kernel_rfl
@[simp] theorem Try.cal5 : Aw.callable Try.prog 5 = true := by kernel_rfl
@[simp] theorem Try.cal6 : Aw.callable Try.prog 6 = true := by kernel_rfl
@[simp] theorem Try.cal7 : Aw.callable Try.prog 7 = true := by kernel_rfl
@[simp] theorem Try.cal8 : Aw.callable Try.prog 8 = true := by kernel_rfl
@[simp] theorem Try.cal9 : Aw.callable Try.prog 9 = true := by kernel_rfl
@[simp] theorem Try.cal10 : Aw.callable Try.prog 10 = true := by kernel_rfl
@[simp] theorem Try.cal11 : Aw.callable Try.prog 11 = true := by kernel_rfl
@[simp] theorem Try.cal12 : Aw.callable Try.prog 12 = true := by kernel_rfl
@[simp] theorem Try.cal13 : Aw.callable Try.prog 13 = true := by kernel_rfl
@[simp] theorem Try.cal14 : Aw.callable Try.prog 14 = true := by kernel_rfl
@[simp] theorem Try.cal15 : Aw.callable Try.prog 15 = true := by kernel_rfl
@[simp] theorem Try.cal16 : Aw.callable Try.prog 16 = true := by kernel_rfl
@[simp] theorem Try.cal17 : Aw.callable Try.prog 17 = true := by kernel_rfl
@[simp] theorem Try.cal18 : Aw.callable Try.prog 18 = true := by kernel_rfl
@[simp] theorem Try.cal19 : Aw.callable Try.prog 19 = true := by kernel_rfl
@[simp] theorem Try.cal20 : Aw.callable Try.prog 20 = true := by kernel_rfl
@[simp] theorem Try.cal21 : Aw.callable Try.prog 21 = true := by kernel_rfl
@[simp] theorem Try.cal22 : Aw.callable Try.prog 22 = true := by kernel_rfl
@[simp] theorem Try.cal23 : Aw.callable Try.prog 23 = true := by kernel_rfl
@[simp] theorem Try.cal24 : Aw.callable Try.prog 24 = true := by kernel_rfl
@[simp] theorem Try.cal25 : Aw.callable Try.prog 25 = true := by kernel_rfl
@[simp] theorem Try.cal26 : Aw.callable Try.prog 26 = true := by kernel_rfl
@[simp] theorem Try.cal27 : Aw.callable Try.prog 27 = true := by kernel_rfl
@[simp] theorem Try.cal28 : Aw.callable Try.prog 28 = true := by kernel_rfl
@[simp] theorem Try.cal29 : Aw.callable Try.prog 29 = true := by kernel_rfl
@[simp] theorem Try.cal30 : Aw.callable Try.prog 30 = true := by kernel_rfl
@[simp] theorem Try.cal31 : Aw.callable Try.prog 31 = true := by kernel_rfl
@[simp] theorem Try.cal32 : Aw.callable Try.prog 32 = true := by kernel_rfl
@[simp] theorem Try.cal33 : Aw.callable Try.prog 33 = true := by kernel_rfl
@[simp] theorem Try.cal34 : Aw.callable Try.prog 34 = true := by kernel_rfl
@[simp] theorem Try.cal35 : Aw.callable Try.prog 35 = true := by kernel_rfl
@[simp] theorem Try.cal36 : Aw.callable Try.prog 36 = true := by kernel_rfl
@[simp] theorem Try.cal37 : Aw.callable Try.prog 37 = true := by kernel_rfl
@[simp] theorem Try.cal38 : Aw.callable Try.prog 38 = true := by kernel_rfl
@[simp] theorem Try.cal39 : Aw.callable Try.prog 39 = true := by kernel_rfl
@[simp] theorem Try.cal40 : Aw.callable Try.prog 40 = true := by kernel_rfl
@[simp] theorem Try.cal41 : Aw.callable Try.prog 41 = true := by kernel_rfl
@[simp] theorem Try.cal42 : Aw.callable Try.prog 42 = true := by kernel_rfl
@[simp] theorem Try.cal43 : Aw.callable Try.prog 43 = true := by kernel_rfl
@[simp] theorem Try.cal44 : Aw.callable Try.prog 44 = true := by kernel_rfl
@[simp] theorem Try.cal45 : Aw.callable Try.prog 45 = true := by kernel_rfl
@[simp] theorem Try.cal46 : Aw.callable Try.prog 46 = true := by kernel_rfl
@[simp] theorem Try.cal47 : Aw.callable Try.prog 47 = true := by kernel_rfl
@[simp] theorem Try.cal48 : Aw.callable Try.prog 48 = true := by kernel_rfl
@[simp] theorem Try.cal49 : Aw.callable Try.prog 49 = true := by kernel_rfl
@[simp] theorem Try.cal50 : Aw.callable Try.prog 50 = true := by kernel_rfl
@[simp] theorem Try.cal51 : Aw.callable Try.prog 51 = true := by kernel_rfl
@[simp] theorem Try.cal52 : Aw.callable Try.prog 52 = true := by kernel_rfl
@[simp] theorem Try.cal53 : Aw.callable Try.prog 53 = true := by kernel_rfl
@[simp] theorem Try.cal54 : Aw.callable Try.prog 54 = true := by kernel_rfl
@[simp] theorem Try.cal55 : Aw.callable Try.prog 55 = true := by kernel_rfl
@[simp] theorem Try.cal56 : Aw.callable Try.prog 56 = true := by kernel_rfl
@[simp] theorem Try.cal57 : Aw.callable Try.prog 57 = true := by kernel_rfl
@[simp] theorem Try.cal58 : Aw.callable Try.prog 58 = true := by kernel_rfl
@[simp] theorem Try.cal59 : Aw.callable Try.prog 59 = true := by kernel_rfl
@[simp] theorem Try.cal60 : Aw.callable Try.prog 60 = true := by kernel_rfl
@[simp] theorem Try.cal61 : Aw.callable Try.prog 61 = true := by kernel_rfl
@[simp] theorem Try.cal62 : Aw.callable Try.prog 62 = true := by kernel_rfl
@[simp] theorem Try.cal63 : Aw.callable Try.prog 63 = true := by kernel_rfl
@[simp] theorem Try.cal64 : Aw.callable Try.prog 64 = true := by kernel_rfl
@[simp] theorem Try.cal65 : Aw.callable Try.prog 65 = true := by kernel_rfl
@[simp] theorem Try.cal66 : Aw.callable Try.prog 66 = true := by kernel_rfl
@[simp] theorem Try.cal67 : Aw.callable Try.prog 67 = true := by kernel_rfl
@[simp] theorem Try.cal68 : Aw.callable Try.prog 68 = true := by kernel_rfl
@[simp] theorem Try.cal69 : Aw.callable Try.prog 69 = true := by kernel_rfl
@[simp] theorem Try.cal70 : Aw.callable Try.prog 70 = true := by kernel_rfl
@[simp] theorem Try.cal71 : Aw.callable Try.prog 71 = true := by kernel_rfl
@[simp] theorem Try.cal72 : Aw.callable Try.prog 72 = true := by kernel_rfl
@[simp] theorem Try.cal73 : Aw.callable Try.prog 73 = true := by kernel_rfl
@[simp] theorem Try.cal74 : Aw.callable Try.prog 74 = true := by kernel_rfl
@[simp] theorem Try.cal75 : Aw.callable Try.prog 75 = true := by kernel_rfl
@[simp] theorem Try.cal76 : Aw.callable Try.prog 76 = true := by kernel_rfl
@[simp] theorem Try.cal77 : Aw.callable Try.prog 77 = true := by kernel_rfl
@[simp] theorem Try.cal78 : Aw.callable Try.prog 78 = true := by kernel_rfl
@[simp] theorem Try.cal79 : Aw.callable Try.prog 79 = true := by kernel_rfl
@[simp] theorem Try.cal80 : Aw.callable Try.prog 80 = true := by kernel_rfl
@[simp] theorem Try.cal81 : Aw.callable Try.prog 81 = true := by kernel_rfl
@[simp] theorem Try.cal82 : Aw.callable Try.prog 82 = true := by kernel_rfl
@[simp] theorem Try.cal83 : Aw.callable Try.prog 83 = true := by kernel_rfl
@[simp] theorem Try.cal84 : Aw.callable Try.prog 84 = true := by kernel_rfl
@[simp] theorem Try.cal85 : Aw.callable Try.prog 85 = true := by kernel_rfl
@[simp] theorem Try.cal86 : Aw.callable Try.prog 86 = true := by kernel_rfl
@[simp] theorem Try.cal87 : Aw.callable Try.prog 87 = true := by kernel_rfl
@[simp] theorem Try.cal88 : Aw.callable Try.prog 88 = true := by kernel_rfl
@[simp] theorem Try.cal89 : Aw.callable Try.prog 89 = true := by kernel_rfl
@[simp] theorem Try.cal90 : Aw.callable Try.prog 90 = true := by kernel_rfl
@[simp] theorem Try.cal91 : Aw.callable Try.prog 91 = true := by kernel_rfl
@[simp] theorem Try.cal92 : Aw.callable Try.prog 92 = true := by kernel_rfl
@[simp] theorem Try.cal93 : Aw.callable Try.prog 93 = true := by kernel_rfl
@[simp] theorem Try.cal94 : Aw.callable Try.prog 94 = true := by kernel_rfl
@[simp] theorem Try.cal95 : Aw.callable Try.prog 95 = true := by kernel_rfl
@[simp] theorem Try.cal96 : Aw.callable Try.prog 96 = true := by kernel_rfl
@[simp] theorem Try.cal97 : Aw.callable Try.prog 97 = true := by kernel_rfl
@[simp] theorem Try.cal98 : Aw.callable Try.prog 98 = true := by kernel_rfl
@[simp] theorem Try.cal99 : Aw.callable Try.prog 99 = true := by kernel_rfl
@[simp] theorem Try.cal100 : Aw.callable Try.prog 100 = true := by kernel_rfl
end Go.Proofs.Ytbbefoefjmgnoaa
