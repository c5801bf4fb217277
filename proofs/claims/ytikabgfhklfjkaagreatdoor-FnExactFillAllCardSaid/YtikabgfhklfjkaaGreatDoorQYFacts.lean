/-
  Proved here: closed facts of the translated program: types, their sizes, results.
  No condition beyond what each statement spells out.
-/
import Derived.Test.YtikabgfhklfjkaaGreatDoorProg
import Derived.Test.YtikabgfhklfjkaaGreatDoorQF3
import Derived.KernelRfl
set_option linter.all false
/-
  Closed facts on the translation: sizes, fields and zero values of its types; that its functions have bodies. Written by a program of ours.
-/
namespace Go.Proofs.YtikabgfhklfjkaaGreatDoor
@[simp] theorem Tryz.agg2 : Aw.aggSize Tryz.prog 2 = none := by kernel_rfl
@[simp] theorem Tryz.one2 : Aw.oneSize Tryz.prog 2 = true := by kernel_rfl
@[simp] theorem Tryz.siz2 : Aw.sizeA Tryz.prog 2 = some 1 := by kernel_rfl
@[simp] theorem Tryz.zer2 : Aw.zeroA Tryz.prog 2 = some [.int .i64 0] := by kernel_rfl
@[simp] theorem Tryz.zsz2 : Aw.zeroSz Tryz.prog 2 1 = true := by kernel_rfl
@[simp] theorem Tryz.int2 : Aw.intType Tryz.prog 2 = some .i64 := by kernel_rfl
@[simp] theorem Tryz.som2 : (Tryz.prog.underlying 2).isSome = true := by kernel_rfl
@[simp] theorem Tryz.agg3 : Aw.aggSize Tryz.prog 3 = none := by kernel_rfl
@[simp] theorem Tryz.one3 : Aw.oneSize Tryz.prog 3 = true := by kernel_rfl
@[simp] theorem Tryz.siz3 : Aw.sizeA Tryz.prog 3 = some 1 := by kernel_rfl
@[simp] theorem Tryz.zer3 : Aw.zeroA Tryz.prog 3 = some [.int .i64 0] := by kernel_rfl
@[simp] theorem Tryz.zsz3 : Aw.zeroSz Tryz.prog 3 1 = true := by kernel_rfl
@[simp] theorem Tryz.int3 : Aw.intType Tryz.prog 3 = some .i64 := by kernel_rfl
@[simp] theorem Tryz.som3 : (Tryz.prog.underlying 3).isSome = true := by kernel_rfl
@[simp] theorem Tryz.agg4 : Aw.aggSize Tryz.prog 4 = none := by kernel_rfl
@[simp] theorem Tryz.one4 : Aw.oneSize Tryz.prog 4 = true := by kernel_rfl
@[simp] theorem Tryz.siz4 : Aw.sizeA Tryz.prog 4 = some 1 := by kernel_rfl
@[simp] theorem Tryz.zer4 : Aw.zeroA Tryz.prog 4 = some [.bool false] := by kernel_rfl
@[simp] theorem Tryz.zsz4 : Aw.zeroSz Tryz.prog 4 1 = true := by kernel_rfl
@[simp] theorem Tryz.bol4 : Aw.boolType Tryz.prog 4 = true := by kernel_rfl
@[simp] theorem Tryz.agg5 : Aw.aggSize Tryz.prog 5 = none := by kernel_rfl
@[simp] theorem Tryz.one5 : Aw.oneSize Tryz.prog 5 = true := by kernel_rfl
@[simp] theorem Tryz.siz5 : Aw.sizeA Tryz.prog 5 = some 1 := by kernel_rfl
@[simp] theorem Tryz.zer5 : Aw.zeroA Tryz.prog 5 = some [.int .u8 0] := by kernel_rfl
@[simp] theorem Tryz.zsz5 : Aw.zeroSz Tryz.prog 5 1 = true := by kernel_rfl
@[simp] theorem Tryz.int5 : Aw.intType Tryz.prog 5 = some .u8 := by kernel_rfl
@[simp] theorem Tryz.som5 : (Tryz.prog.underlying 5).isSome = true := by kernel_rfl
@[simp] theorem Tryz.agg9 : Aw.aggSize Tryz.prog 9 = none := by kernel_rfl
@[simp] theorem Tryz.one9 : Aw.oneSize Tryz.prog 9 = true := by kernel_rfl
@[simp] theorem Tryz.siz9 : Aw.sizeA Tryz.prog 9 = some 1 := by kernel_rfl
@[simp] theorem Tryz.zer9 : Aw.zeroA Tryz.prog 9 = some [.str []] := by kernel_rfl
@[simp] theorem Tryz.zsz9 : Aw.zeroSz Tryz.prog 9 1 = true := by kernel_rfl
@[simp] theorem Tryz.iss9 : Aw.isString Tryz.prog 9 = true := by kernel_rfl
@[simp] theorem Tryz.apd9 : Aw.appendable Tryz.prog 9 = true := by kernel_rfl
@[simp] theorem Tryz.agg12 : Aw.aggSize Tryz.prog 12 = none := by kernel_rfl
@[simp] theorem Tryz.one12 : Aw.oneSize Tryz.prog 12 = true := by kernel_rfl
@[simp] theorem Tryz.siz12 : Aw.sizeA Tryz.prog 12 = some 1 := by kernel_rfl
@[simp] theorem Tryz.zer12 : Aw.zeroA Tryz.prog 12 = some [.int .u64 0] := by kernel_rfl
@[simp] theorem Tryz.zsz12 : Aw.zeroSz Tryz.prog 12 1 = true := by kernel_rfl
@[simp] theorem Tryz.int12 : Aw.intType Tryz.prog 12 = some .u64 := by kernel_rfl
@[simp] theorem Tryz.som12 : (Tryz.prog.underlying 12).isSome = true := by kernel_rfl
@[simp] theorem Tryz.agg21 : Aw.aggSize Tryz.prog 21 = none := by kernel_rfl
@[simp] theorem Tryz.one21 : Aw.oneSize Tryz.prog 21 = true := by kernel_rfl
@[simp] theorem Tryz.siz21 : Aw.sizeA Tryz.prog 21 = some 1 := by kernel_rfl
@[simp] theorem Tryz.zer21 : Aw.zeroA Tryz.prog 21 = some [.int .i32 0] := by kernel_rfl
@[simp] theorem Tryz.zsz21 : Aw.zeroSz Tryz.prog 21 1 = true := by kernel_rfl
@[simp] theorem Tryz.int21 : Aw.intType Tryz.prog 21 = some .i32 := by kernel_rfl
@[simp] theorem Tryz.som21 : (Tryz.prog.underlying 21).isSome = true := by kernel_rfl
@[simp] theorem Tryz.agg23 : Aw.aggSize Tryz.prog 23 = some 2 := by kernel_rfl
@[simp] theorem Tryz.siz23 : Aw.sizeA Tryz.prog 23 = some 2 := by kernel_rfl
@[simp] theorem Tryz.zer23 : Aw.zeroA Tryz.prog 23 = some [.str [], .str []] := by kernel_rfl
@[simp] theorem Tryz.zsz23 : Aw.zeroSz Tryz.prog 23 2 = true := by kernel_rfl
@[simp] theorem Tryz.fld23_0 : Aw.fieldA Tryz.prog 23 0 = some 0 := by kernel_rfl
@[simp] theorem Tryz.fld23_1 : Aw.fieldA Tryz.prog 23 1 = some 1 := by kernel_rfl
@[simp] theorem Tryz.plc23 : Aw.placesA Tryz.prog 23 = some [(0, 1), (1, 1)] := by kernel_rfl
@[simp] theorem Tryz.agg24 : Aw.aggSize Tryz.prog 24 = none := by kernel_rfl
@[simp] theorem Tryz.one24 : Aw.oneSize Tryz.prog 24 = true := by kernel_rfl
@[simp] theorem Tryz.siz24 : Aw.sizeA Tryz.prog 24 = some 1 := by kernel_rfl
@[simp] theorem Tryz.zer24 : Aw.zeroA Tryz.prog 24 = some [.sl .own 1 []] := by kernel_rfl
@[simp] theorem Tryz.zsz24 : Aw.zeroSz Tryz.prog 24 1 = true := by kernel_rfl
@[simp] theorem Tryz.elm24 : Aw.elemA Tryz.prog 24 = some (9, 1, 16) := by kernel_rfl
@[simp] theorem Tryz.isl24 : Aw.isSlice Tryz.prog 24 = true := by kernel_rfl
@[simp] theorem Tryz.apd24 : Aw.appendable Tryz.prog 24 = true := by kernel_rfl
@[simp] theorem Tryz.agg26 : Aw.aggSize Tryz.prog 26 = some 5 := by kernel_rfl
@[simp] theorem Tryz.siz26 : Aw.sizeA Tryz.prog 26 = some 5 := by kernel_rfl
@[simp] theorem Tryz.zer26 : Aw.zeroA Tryz.prog 26 = some [.bool false, .sl .own 1 [], .sl .own 1 [], .sl .own 1 [], .str []] := by kernel_rfl
@[simp] theorem Tryz.zsz26 : Aw.zeroSz Tryz.prog 26 5 = true := by kernel_rfl
@[simp] theorem Tryz.fld26_0 : Aw.fieldA Tryz.prog 26 0 = some 0 := by kernel_rfl
@[simp] theorem Tryz.fld26_1 : Aw.fieldA Tryz.prog 26 1 = some 1 := by kernel_rfl
@[simp] theorem Tryz.fld26_2 : Aw.fieldA Tryz.prog 26 2 = some 2 := by kernel_rfl
@[simp] theorem Tryz.fld26_3 : Aw.fieldA Tryz.prog 26 3 = some 3 := by kernel_rfl
@[simp] theorem Tryz.fld26_4 : Aw.fieldA Tryz.prog 26 4 = some 4 := by kernel_rfl
@[simp] theorem Tryz.plc26 : Aw.placesA Tryz.prog 26 = some [(0, 1), (1, 1), (2, 1), (3, 1), (4, 1)] := by kernel_rfl
@[simp] theorem Tryz.agg28 : Aw.aggSize Tryz.prog 28 = some 1 := by kernel_rfl
@[simp] theorem Tryz.siz28 : Aw.sizeA Tryz.prog 28 = some 1 := by kernel_rfl
@[simp] theorem Tryz.zer28 : Aw.zeroA Tryz.prog 28 = some [.str []] := by kernel_rfl
@[simp] theorem Tryz.zsz28 : Aw.zeroSz Tryz.prog 28 1 = true := by kernel_rfl
@[simp] theorem Tryz.fld28_0 : Aw.fieldA Tryz.prog 28 0 = some 0 := by kernel_rfl
@[simp] theorem Tryz.plc28 : Aw.placesA Tryz.prog 28 = some [(0, 1)] := by kernel_rfl
@[simp] theorem Tryz.agg29 : Aw.aggSize Tryz.prog 29 = none := by kernel_rfl
@[simp] theorem Tryz.one29 : Aw.oneSize Tryz.prog 29 = true := by kernel_rfl
@[simp] theorem Tryz.siz29 : Aw.sizeA Tryz.prog 29 = some 1 := by kernel_rfl
@[simp] theorem Tryz.zer29 : Aw.zeroA Tryz.prog 29 = some [.sl .own 4 []] := by kernel_rfl
@[simp] theorem Tryz.zsz29 : Aw.zeroSz Tryz.prog 29 1 = true := by kernel_rfl
@[simp] theorem Tryz.elm29 : Aw.elemA Tryz.prog 29 = some (192, 4, 64) := by kernel_rfl
@[simp] theorem Tryz.isl29 : Aw.isSlice Tryz.prog 29 = true := by kernel_rfl
@[simp] theorem Tryz.apd29 : Aw.appendable Tryz.prog 29 = true := by kernel_rfl
@[simp] theorem Tryz.agg30 : Aw.aggSize Tryz.prog 30 = none := by kernel_rfl
@[simp] theorem Tryz.one30 : Aw.oneSize Tryz.prog 30 = true := by kernel_rfl
@[simp] theorem Tryz.siz30 : Aw.sizeA Tryz.prog 30 = some 1 := by kernel_rfl
@[simp] theorem Tryz.zer30 : Aw.zeroA Tryz.prog 30 = some [.sl .own 4 []] := by kernel_rfl
@[simp] theorem Tryz.zsz30 : Aw.zeroSz Tryz.prog 30 1 = true := by kernel_rfl
@[simp] theorem Tryz.elm30 : Aw.elemA Tryz.prog 30 = some (286, 4, 64) := by kernel_rfl
@[simp] theorem Tryz.isl30 : Aw.isSlice Tryz.prog 30 = true := by kernel_rfl
@[simp] theorem Tryz.apd30 : Aw.appendable Tryz.prog 30 = true := by kernel_rfl
@[simp] theorem Tryz.agg31 : Aw.aggSize Tryz.prog 31 = none := by kernel_rfl
@[simp] theorem Tryz.one31 : Aw.oneSize Tryz.prog 31 = true := by kernel_rfl
@[simp] theorem Tryz.siz31 : Aw.sizeA Tryz.prog 31 = some 1 := by kernel_rfl
@[simp] theorem Tryz.zer31 : Aw.zeroA Tryz.prog 31 = some [.sl .own 1 []] := by kernel_rfl
@[simp] theorem Tryz.zsz31 : Aw.zeroSz Tryz.prog 31 1 = true := by kernel_rfl
@[simp] theorem Tryz.elm31 : Aw.elemA Tryz.prog 31 = some (3, 1, 8) := by kernel_rfl
@[simp] theorem Tryz.isl31 : Aw.isSlice Tryz.prog 31 = true := by kernel_rfl
@[simp] theorem Tryz.apd31 : Aw.appendable Tryz.prog 31 = true := by kernel_rfl
@[simp] theorem Tryz.agg33 : Aw.aggSize Tryz.prog 33 = some 2 := by kernel_rfl
@[simp] theorem Tryz.siz33 : Aw.sizeA Tryz.prog 33 = some 2 := by kernel_rfl
@[simp] theorem Tryz.zer33 : Aw.zeroA Tryz.prog 33 = some [.sl .own 4 [], .sl .own 1 []] := by kernel_rfl
@[simp] theorem Tryz.zsz33 : Aw.zeroSz Tryz.prog 33 2 = true := by kernel_rfl
@[simp] theorem Tryz.fld33_0 : Aw.fieldA Tryz.prog 33 0 = some 0 := by kernel_rfl
@[simp] theorem Tryz.fld33_1 : Aw.fieldA Tryz.prog 33 1 = some 1 := by kernel_rfl
@[simp] theorem Tryz.plc33 : Aw.placesA Tryz.prog 33 = some [(0, 1), (1, 1)] := by kernel_rfl
@[simp] theorem Tryz.agg34 : Aw.aggSize Tryz.prog 34 = none := by kernel_rfl
@[simp] theorem Tryz.one34 : Aw.oneSize Tryz.prog 34 = true := by kernel_rfl
@[simp] theorem Tryz.siz34 : Aw.sizeA Tryz.prog 34 = some 1 := by kernel_rfl
@[simp] theorem Tryz.zer34 : Aw.zeroA Tryz.prog 34 = some [.sl .own 8 []] := by kernel_rfl
@[simp] theorem Tryz.zsz34 : Aw.zeroSz Tryz.prog 34 1 = true := by kernel_rfl
@[simp] theorem Tryz.elm34 : Aw.elemA Tryz.prog 34 = some (197, 8, 96) := by kernel_rfl
@[simp] theorem Tryz.isl34 : Aw.isSlice Tryz.prog 34 = true := by kernel_rfl
@[simp] theorem Tryz.apd34 : Aw.appendable Tryz.prog 34 = true := by kernel_rfl
@[simp] theorem Tryz.agg35 : Aw.aggSize Tryz.prog 35 = none := by kernel_rfl
@[simp] theorem Tryz.one35 : Aw.oneSize Tryz.prog 35 = true := by kernel_rfl
@[simp] theorem Tryz.siz35 : Aw.sizeA Tryz.prog 35 = some 1 := by kernel_rfl
@[simp] theorem Tryz.zer35 : Aw.zeroA Tryz.prog 35 = some [.sl .own 5 []] := by kernel_rfl
@[simp] theorem Tryz.zsz35 : Aw.zeroSz Tryz.prog 35 1 = true := by kernel_rfl
@[simp] theorem Tryz.elm35 : Aw.elemA Tryz.prog 35 = some (200, 5, 64) := by kernel_rfl
@[simp] theorem Tryz.isl35 : Aw.isSlice Tryz.prog 35 = true := by kernel_rfl
@[simp] theorem Tryz.apd35 : Aw.appendable Tryz.prog 35 = true := by kernel_rfl
@[simp] theorem Tryz.agg36 : Aw.aggSize Tryz.prog 36 = none := by kernel_rfl
@[simp] theorem Tryz.one36 : Aw.oneSize Tryz.prog 36 = true := by kernel_rfl
@[simp] theorem Tryz.siz36 : Aw.sizeA Tryz.prog 36 = some 1 := by kernel_rfl
@[simp] theorem Tryz.zer36 : Aw.zeroA Tryz.prog 36 = some [.sl .own 2 []] := by kernel_rfl
@[simp] theorem Tryz.zsz36 : Aw.zeroSz Tryz.prog 36 1 = true := by kernel_rfl
@[simp] theorem Tryz.elm36 : Aw.elemA Tryz.prog 36 = some (23, 2, 32) := by kernel_rfl
@[simp] theorem Tryz.isl36 : Aw.isSlice Tryz.prog 36 = true := by kernel_rfl
@[simp] theorem Tryz.apd36 : Aw.appendable Tryz.prog 36 = true := by kernel_rfl
@[simp] theorem Tryz.agg38 : Aw.aggSize Tryz.prog 38 = some 22 := by kernel_rfl
@[simp] theorem Tryz.siz38 : Aw.sizeA Tryz.prog 38 = some 22 := by kernel_rfl
@[simp] theorem Tryz.zer38 : Aw.zeroA Tryz.prog 38 = some [.str [], .str [], .bool false, .sl .own 1 [], .sl .own 1 [], .sl .own 1 [], .str [], .str [], .sl .own 4 [], .bool false, .sl .own 4 [], .sl .own 1 [], .sl .own 8 [], .sl .own 5 [], .sl .own 2 [], .int .i64 0, .int .i64 0, .int .i64 0, .int .i64 0, .sl .own 2 [], .sl .own 1 [], .bool false] := by kernel_rfl
@[simp] theorem Tryz.zsz38 : Aw.zeroSz Tryz.prog 38 22 = true := by kernel_rfl
@[simp] theorem Tryz.fld38_0 : Aw.fieldA Tryz.prog 38 0 = some 0 := by kernel_rfl
@[simp] theorem Tryz.fld38_1 : Aw.fieldA Tryz.prog 38 1 = some 2 := by kernel_rfl
@[simp] theorem Tryz.fld38_2 : Aw.fieldA Tryz.prog 38 2 = some 7 := by kernel_rfl
@[simp] theorem Tryz.fld38_3 : Aw.fieldA Tryz.prog 38 3 = some 8 := by kernel_rfl
@[simp] theorem Tryz.fld38_4 : Aw.fieldA Tryz.prog 38 4 = some 9 := by kernel_rfl
@[simp] theorem Tryz.fld38_5 : Aw.fieldA Tryz.prog 38 5 = some 10 := by kernel_rfl
@[simp] theorem Tryz.fld38_6 : Aw.fieldA Tryz.prog 38 6 = some 12 := by kernel_rfl
@[simp] theorem Tryz.fld38_7 : Aw.fieldA Tryz.prog 38 7 = some 13 := by kernel_rfl
@[simp] theorem Tryz.fld38_8 : Aw.fieldA Tryz.prog 38 8 = some 14 := by kernel_rfl
@[simp] theorem Tryz.fld38_9 : Aw.fieldA Tryz.prog 38 9 = some 15 := by kernel_rfl
@[simp] theorem Tryz.fld38_10 : Aw.fieldA Tryz.prog 38 10 = some 16 := by kernel_rfl
@[simp] theorem Tryz.fld38_11 : Aw.fieldA Tryz.prog 38 11 = some 17 := by kernel_rfl
@[simp] theorem Tryz.fld38_12 : Aw.fieldA Tryz.prog 38 12 = some 18 := by kernel_rfl
@[simp] theorem Tryz.fld38_13 : Aw.fieldA Tryz.prog 38 13 = some 19 := by kernel_rfl
@[simp] theorem Tryz.fld38_14 : Aw.fieldA Tryz.prog 38 14 = some 20 := by kernel_rfl
@[simp] theorem Tryz.fld38_15 : Aw.fieldA Tryz.prog 38 15 = some 21 := by kernel_rfl
@[simp] theorem Tryz.plc38 : Aw.placesA Tryz.prog 38 = some [(0, 2), (2, 5), (7, 1), (8, 1), (9, 1), (10, 2), (12, 1), (13, 1), (14, 1), (15, 1), (16, 1), (17, 1), (18, 1), (19, 1), (20, 1), (21, 1)] := by kernel_rfl
@[simp] theorem Tryz.agg40 : Aw.aggSize Tryz.prog 40 = none := by kernel_rfl
@[simp] theorem Tryz.one40 : Aw.oneSize Tryz.prog 40 = true := by kernel_rfl
@[simp] theorem Tryz.siz40 : Aw.sizeA Tryz.prog 40 = some 1 := by kernel_rfl
@[simp] theorem Tryz.zer40 : Aw.zeroA Tryz.prog 40 = some [.sl .own 4 []] := by kernel_rfl
@[simp] theorem Tryz.zsz40 : Aw.zeroSz Tryz.prog 40 1 = true := by kernel_rfl
@[simp] theorem Tryz.elm40 : Aw.elemA Tryz.prog 40 = some (203, 4, 64) := by kernel_rfl
@[simp] theorem Tryz.isl40 : Aw.isSlice Tryz.prog 40 = true := by kernel_rfl
@[simp] theorem Tryz.apd40 : Aw.appendable Tryz.prog 40 = true := by kernel_rfl
@[simp] theorem Tryz.agg42 : Aw.aggSize Tryz.prog 42 = some 2 := by kernel_rfl
@[simp] theorem Tryz.siz42 : Aw.sizeA Tryz.prog 42 = some 2 := by kernel_rfl
@[simp] theorem Tryz.zer42 : Aw.zeroA Tryz.prog 42 = some [.sl .own 4 [], .sl .own 1 []] := by kernel_rfl
@[simp] theorem Tryz.zsz42 : Aw.zeroSz Tryz.prog 42 2 = true := by kernel_rfl
@[simp] theorem Tryz.fld42_0 : Aw.fieldA Tryz.prog 42 0 = some 0 := by kernel_rfl
@[simp] theorem Tryz.fld42_1 : Aw.fieldA Tryz.prog 42 1 = some 1 := by kernel_rfl
@[simp] theorem Tryz.plc42 : Aw.placesA Tryz.prog 42 = some [(0, 1), (1, 1)] := by kernel_rfl
@[simp] theorem Tryz.agg43 : Aw.aggSize Tryz.prog 43 = none := by kernel_rfl
@[simp] theorem Tryz.one43 : Aw.oneSize Tryz.prog 43 = true := by kernel_rfl
@[simp] theorem Tryz.siz43 : Aw.sizeA Tryz.prog 43 = some 1 := by kernel_rfl
@[simp] theorem Tryz.zer43 : Aw.zeroA Tryz.prog 43 = some [.sl .own 2 []] := by kernel_rfl
@[simp] theorem Tryz.zsz43 : Aw.zeroSz Tryz.prog 43 1 = true := by kernel_rfl
@[simp] theorem Tryz.elm43 : Aw.elemA Tryz.prog 43 = some (208, 2, 24) := by kernel_rfl
@[simp] theorem Tryz.isl43 : Aw.isSlice Tryz.prog 43 = true := by kernel_rfl
@[simp] theorem Tryz.apd43 : Aw.appendable Tryz.prog 43 = true := by kernel_rfl
@[simp] theorem Tryz.agg45 : Aw.aggSize Tryz.prog 45 = some 1 := by kernel_rfl
@[simp] theorem Tryz.siz45 : Aw.sizeA Tryz.prog 45 = some 1 := by kernel_rfl
@[simp] theorem Tryz.zer45 : Aw.zeroA Tryz.prog 45 = some [.sl .own 2 []] := by kernel_rfl
@[simp] theorem Tryz.zsz45 : Aw.zeroSz Tryz.prog 45 1 = true := by kernel_rfl
@[simp] theorem Tryz.fld45_0 : Aw.fieldA Tryz.prog 45 0 = some 0 := by kernel_rfl
@[simp] theorem Tryz.plc45 : Aw.placesA Tryz.prog 45 = some [(0, 1)] := by kernel_rfl
@[simp] theorem Tryz.agg47 : Aw.aggSize Tryz.prog 47 = some 6 := by kernel_rfl
@[simp] theorem Tryz.siz47 : Aw.sizeA Tryz.prog 47 = some 6 := by kernel_rfl
@[simp] theorem Tryz.zer47 : Aw.zeroA Tryz.prog 47 = some [.sl .own 4 [], .sl .own 1 [], .sl .own 1 [], .sl .own 1 [], .sl .own 2 [], .bool false] := by kernel_rfl
@[simp] theorem Tryz.zsz47 : Aw.zeroSz Tryz.prog 47 6 = true := by kernel_rfl
@[simp] theorem Tryz.fld47_0 : Aw.fieldA Tryz.prog 47 0 = some 0 := by kernel_rfl
@[simp] theorem Tryz.fld47_1 : Aw.fieldA Tryz.prog 47 1 = some 2 := by kernel_rfl
@[simp] theorem Tryz.fld47_2 : Aw.fieldA Tryz.prog 47 2 = some 3 := by kernel_rfl
@[simp] theorem Tryz.fld47_3 : Aw.fieldA Tryz.prog 47 3 = some 4 := by kernel_rfl
@[simp] theorem Tryz.fld47_4 : Aw.fieldA Tryz.prog 47 4 = some 5 := by kernel_rfl
@[simp] theorem Tryz.plc47 : Aw.placesA Tryz.prog 47 = some [(0, 2), (2, 1), (3, 1), (4, 1), (5, 1)] := by kernel_rfl
@[simp] theorem Tryz.agg49 : Aw.aggSize Tryz.prog 49 = some 2 := by kernel_rfl
@[simp] theorem Tryz.siz49 : Aw.sizeA Tryz.prog 49 = some 2 := by kernel_rfl
@[simp] theorem Tryz.zer49 : Aw.zeroA Tryz.prog 49 = some [.str [], .str []] := by kernel_rfl
@[simp] theorem Tryz.zsz49 : Aw.zeroSz Tryz.prog 49 2 = true := by kernel_rfl
@[simp] theorem Tryz.fld49_0 : Aw.fieldA Tryz.prog 49 0 = some 0 := by kernel_rfl
@[simp] theorem Tryz.fld49_1 : Aw.fieldA Tryz.prog 49 1 = some 1 := by kernel_rfl
@[simp] theorem Tryz.plc49 : Aw.placesA Tryz.prog 49 = some [(0, 1), (1, 1)] := by kernel_rfl
@[simp] theorem Tryz.agg50 : Aw.aggSize Tryz.prog 50 = some 5 := by kernel_rfl
@[simp] theorem Tryz.siz50 : Aw.sizeA Tryz.prog 50 = some 5 := by kernel_rfl
@[simp] theorem Tryz.zer50 : Aw.zeroA Tryz.prog 50 = some [.bool false, .sl .own 1 [], .sl .own 1 [], .sl .own 1 [], .str []] := by kernel_rfl
@[simp] theorem Tryz.zsz50 : Aw.zeroSz Tryz.prog 50 5 = true := by kernel_rfl
@[simp] theorem Tryz.fld50_0 : Aw.fieldA Tryz.prog 50 0 = some 0 := by kernel_rfl
@[simp] theorem Tryz.fld50_1 : Aw.fieldA Tryz.prog 50 1 = some 1 := by kernel_rfl
@[simp] theorem Tryz.fld50_2 : Aw.fieldA Tryz.prog 50 2 = some 2 := by kernel_rfl
@[simp] theorem Tryz.fld50_3 : Aw.fieldA Tryz.prog 50 3 = some 3 := by kernel_rfl
@[simp] theorem Tryz.fld50_4 : Aw.fieldA Tryz.prog 50 4 = some 4 := by kernel_rfl
@[simp] theorem Tryz.plc50 : Aw.placesA Tryz.prog 50 = some [(0, 1), (1, 1), (2, 1), (3, 1), (4, 1)] := by kernel_rfl
@[simp] theorem Tryz.agg51 : Aw.aggSize Tryz.prog 51 = some 1 := by kernel_rfl
@[simp] theorem Tryz.siz51 : Aw.sizeA Tryz.prog 51 = some 1 := by kernel_rfl
@[simp] theorem Tryz.zer51 : Aw.zeroA Tryz.prog 51 = some [.str []] := by kernel_rfl
@[simp] theorem Tryz.zsz51 : Aw.zeroSz Tryz.prog 51 1 = true := by kernel_rfl
@[simp] theorem Tryz.fld51_0 : Aw.fieldA Tryz.prog 51 0 = some 0 := by kernel_rfl
@[simp] theorem Tryz.plc51 : Aw.placesA Tryz.prog 51 = some [(0, 1)] := by kernel_rfl
@[simp] theorem Tryz.agg52 : Aw.aggSize Tryz.prog 52 = none := by kernel_rfl
@[simp] theorem Tryz.one52 : Aw.oneSize Tryz.prog 52 = true := by kernel_rfl
@[simp] theorem Tryz.siz52 : Aw.sizeA Tryz.prog 52 = some 1 := by kernel_rfl
@[simp] theorem Tryz.zer52 : Aw.zeroA Tryz.prog 52 = some [.sl .own 4 []] := by kernel_rfl
@[simp] theorem Tryz.zsz52 : Aw.zeroSz Tryz.prog 52 1 = true := by kernel_rfl
@[simp] theorem Tryz.elm52 : Aw.elemA Tryz.prog 52 = some (212, 4, 64) := by kernel_rfl
@[simp] theorem Tryz.isl52 : Aw.isSlice Tryz.prog 52 = true := by kernel_rfl
@[simp] theorem Tryz.apd52 : Aw.appendable Tryz.prog 52 = true := by kernel_rfl
@[simp] theorem Tryz.agg53 : Aw.aggSize Tryz.prog 53 = none := by kernel_rfl
@[simp] theorem Tryz.one53 : Aw.oneSize Tryz.prog 53 = true := by kernel_rfl
@[simp] theorem Tryz.siz53 : Aw.sizeA Tryz.prog 53 = some 1 := by kernel_rfl
@[simp] theorem Tryz.zer53 : Aw.zeroA Tryz.prog 53 = some [.sl .own 8 []] := by kernel_rfl
@[simp] theorem Tryz.zsz53 : Aw.zeroSz Tryz.prog 53 1 = true := by kernel_rfl
@[simp] theorem Tryz.elm53 : Aw.elemA Tryz.prog 53 = some (149, 8, 96) := by kernel_rfl
@[simp] theorem Tryz.isl53 : Aw.isSlice Tryz.prog 53 = true := by kernel_rfl
@[simp] theorem Tryz.apd53 : Aw.appendable Tryz.prog 53 = true := by kernel_rfl
@[simp] theorem Tryz.agg54 : Aw.aggSize Tryz.prog 54 = none := by kernel_rfl
@[simp] theorem Tryz.one54 : Aw.oneSize Tryz.prog 54 = true := by kernel_rfl
@[simp] theorem Tryz.siz54 : Aw.sizeA Tryz.prog 54 = some 1 := by kernel_rfl
@[simp] theorem Tryz.zer54 : Aw.zeroA Tryz.prog 54 = some [.sl .own 5 []] := by kernel_rfl
@[simp] theorem Tryz.zsz54 : Aw.zeroSz Tryz.prog 54 1 = true := by kernel_rfl
@[simp] theorem Tryz.elm54 : Aw.elemA Tryz.prog 54 = some (169, 5, 64) := by kernel_rfl
@[simp] theorem Tryz.isl54 : Aw.isSlice Tryz.prog 54 = true := by kernel_rfl
@[simp] theorem Tryz.apd54 : Aw.appendable Tryz.prog 54 = true := by kernel_rfl
@[simp] theorem Tryz.agg55 : Aw.aggSize Tryz.prog 55 = none := by kernel_rfl
@[simp] theorem Tryz.one55 : Aw.oneSize Tryz.prog 55 = true := by kernel_rfl
@[simp] theorem Tryz.siz55 : Aw.sizeA Tryz.prog 55 = some 1 := by kernel_rfl
@[simp] theorem Tryz.zer55 : Aw.zeroA Tryz.prog 55 = some [.sl .own 2 []] := by kernel_rfl
@[simp] theorem Tryz.zsz55 : Aw.zeroSz Tryz.prog 55 1 = true := by kernel_rfl
@[simp] theorem Tryz.elm55 : Aw.elemA Tryz.prog 55 = some (49, 2, 32) := by kernel_rfl
@[simp] theorem Tryz.isl55 : Aw.isSlice Tryz.prog 55 = true := by kernel_rfl
@[simp] theorem Tryz.apd55 : Aw.appendable Tryz.prog 55 = true := by kernel_rfl
@[simp] theorem Tryz.agg57 : Aw.aggSize Tryz.prog 57 = some 22 := by kernel_rfl
@[simp] theorem Tryz.siz57 : Aw.sizeA Tryz.prog 57 = some 22 := by kernel_rfl
@[simp] theorem Tryz.zer57 : Aw.zeroA Tryz.prog 57 = some [.str [], .str [], .bool false, .sl .own 1 [], .sl .own 1 [], .sl .own 1 [], .str [], .str [], .sl .own 4 [], .bool false, .sl .own 4 [], .sl .own 1 [], .sl .own 8 [], .sl .own 5 [], .sl .own 2 [], .int .i64 0, .int .i64 0, .int .i64 0, .int .i64 0, .sl .own 2 [], .sl .own 1 [], .bool false] := by kernel_rfl
@[simp] theorem Tryz.zsz57 : Aw.zeroSz Tryz.prog 57 22 = true := by kernel_rfl
@[simp] theorem Tryz.fld57_0 : Aw.fieldA Tryz.prog 57 0 = some 0 := by kernel_rfl
@[simp] theorem Tryz.fld57_1 : Aw.fieldA Tryz.prog 57 1 = some 2 := by kernel_rfl
@[simp] theorem Tryz.fld57_2 : Aw.fieldA Tryz.prog 57 2 = some 7 := by kernel_rfl
@[simp] theorem Tryz.fld57_3 : Aw.fieldA Tryz.prog 57 3 = some 8 := by kernel_rfl
@[simp] theorem Tryz.fld57_4 : Aw.fieldA Tryz.prog 57 4 = some 9 := by kernel_rfl
@[simp] theorem Tryz.fld57_5 : Aw.fieldA Tryz.prog 57 5 = some 10 := by kernel_rfl
@[simp] theorem Tryz.fld57_6 : Aw.fieldA Tryz.prog 57 6 = some 12 := by kernel_rfl
@[simp] theorem Tryz.fld57_7 : Aw.fieldA Tryz.prog 57 7 = some 13 := by kernel_rfl
@[simp] theorem Tryz.fld57_8 : Aw.fieldA Tryz.prog 57 8 = some 14 := by kernel_rfl
@[simp] theorem Tryz.fld57_9 : Aw.fieldA Tryz.prog 57 9 = some 15 := by kernel_rfl
@[simp] theorem Tryz.fld57_10 : Aw.fieldA Tryz.prog 57 10 = some 16 := by kernel_rfl
@[simp] theorem Tryz.fld57_11 : Aw.fieldA Tryz.prog 57 11 = some 17 := by kernel_rfl
@[simp] theorem Tryz.fld57_12 : Aw.fieldA Tryz.prog 57 12 = some 18 := by kernel_rfl
@[simp] theorem Tryz.fld57_13 : Aw.fieldA Tryz.prog 57 13 = some 19 := by kernel_rfl
@[simp] theorem Tryz.fld57_14 : Aw.fieldA Tryz.prog 57 14 = some 20 := by kernel_rfl
@[simp] theorem Tryz.fld57_15 : Aw.fieldA Tryz.prog 57 15 = some 21 := by kernel_rfl
@[simp] theorem Tryz.plc57 : Aw.placesA Tryz.prog 57 = some [(0, 2), (2, 5), (7, 1), (8, 1), (9, 1), (10, 2), (12, 1), (13, 1), (14, 1), (15, 1), (16, 1), (17, 1), (18, 1), (19, 1), (20, 1), (21, 1)] := by kernel_rfl
@[simp] theorem Tryz.agg65 : Aw.aggSize Tryz.prog 65 = some 6 := by kernel_rfl
@[simp] theorem Tryz.siz65 : Aw.sizeA Tryz.prog 65 = some 6 := by kernel_rfl
@[simp] theorem Tryz.zer65 : Aw.zeroA Tryz.prog 65 = some [.int .i64 0, .int .i64 0, .str [], .int .i64 0, .bool false, .str []] := by kernel_rfl
@[simp] theorem Tryz.zsz65 : Aw.zeroSz Tryz.prog 65 6 = true := by kernel_rfl
@[simp] theorem Tryz.fld65_0 : Aw.fieldA Tryz.prog 65 0 = some 0 := by kernel_rfl
@[simp] theorem Tryz.fld65_1 : Aw.fieldA Tryz.prog 65 1 = some 1 := by kernel_rfl
@[simp] theorem Tryz.fld65_2 : Aw.fieldA Tryz.prog 65 2 = some 2 := by kernel_rfl
@[simp] theorem Tryz.fld65_3 : Aw.fieldA Tryz.prog 65 3 = some 3 := by kernel_rfl
@[simp] theorem Tryz.fld65_4 : Aw.fieldA Tryz.prog 65 4 = some 4 := by kernel_rfl
@[simp] theorem Tryz.fld65_5 : Aw.fieldA Tryz.prog 65 5 = some 5 := by kernel_rfl
@[simp] theorem Tryz.plc65 : Aw.placesA Tryz.prog 65 = some [(0, 1), (1, 1), (2, 1), (3, 1), (4, 1), (5, 1)] := by kernel_rfl
@[simp] theorem Tryz.agg71 : Aw.aggSize Tryz.prog 71 = some 6 := by kernel_rfl
@[simp] theorem Tryz.siz71 : Aw.sizeA Tryz.prog 71 = some 6 := by kernel_rfl
@[simp] theorem Tryz.zer71 : Aw.zeroA Tryz.prog 71 = some [.int .i64 0, .int .i64 0, .str [], .int .i64 0, .bool false, .str []] := by kernel_rfl
@[simp] theorem Tryz.zsz71 : Aw.zeroSz Tryz.prog 71 6 = true := by kernel_rfl
@[simp] theorem Tryz.fld71_0 : Aw.fieldA Tryz.prog 71 0 = some 0 := by kernel_rfl
@[simp] theorem Tryz.fld71_1 : Aw.fieldA Tryz.prog 71 1 = some 1 := by kernel_rfl
@[simp] theorem Tryz.fld71_2 : Aw.fieldA Tryz.prog 71 2 = some 2 := by kernel_rfl
@[simp] theorem Tryz.fld71_3 : Aw.fieldA Tryz.prog 71 3 = some 3 := by kernel_rfl
@[simp] theorem Tryz.fld71_4 : Aw.fieldA Tryz.prog 71 4 = some 4 := by kernel_rfl
@[simp] theorem Tryz.fld71_5 : Aw.fieldA Tryz.prog 71 5 = some 5 := by kernel_rfl
@[simp] theorem Tryz.plc71 : Aw.placesA Tryz.prog 71 = some [(0, 1), (1, 1), (2, 1), (3, 1), (4, 1), (5, 1)] := by kernel_rfl
@[simp] theorem Tryz.agg78 : Aw.aggSize Tryz.prog 78 = none := by kernel_rfl
@[simp] theorem Tryz.one78 : Aw.oneSize Tryz.prog 78 = true := by kernel_rfl
@[simp] theorem Tryz.siz78 : Aw.sizeA Tryz.prog 78 = some 1 := by kernel_rfl
@[simp] theorem Tryz.zer78 : Aw.zeroA Tryz.prog 78 = some [.sl .own 2 []] := by kernel_rfl
@[simp] theorem Tryz.zsz78 : Aw.zeroSz Tryz.prog 78 1 = true := by kernel_rfl
@[simp] theorem Tryz.elm78 : Aw.elemA Tryz.prog 78 = some (242, 2, 40) := by kernel_rfl
@[simp] theorem Tryz.isl78 : Aw.isSlice Tryz.prog 78 = true := by kernel_rfl
@[simp] theorem Tryz.apd78 : Aw.appendable Tryz.prog 78 = true := by kernel_rfl
@[simp] theorem Tryz.agg79 : Aw.aggSize Tryz.prog 79 = none := by kernel_rfl
@[simp] theorem Tryz.one79 : Aw.oneSize Tryz.prog 79 = true := by kernel_rfl
@[simp] theorem Tryz.siz79 : Aw.sizeA Tryz.prog 79 = some 1 := by kernel_rfl
@[simp] theorem Tryz.zer79 : Aw.zeroA Tryz.prog 79 = some [.sl .own 10 []] := by kernel_rfl
@[simp] theorem Tryz.zsz79 : Aw.zeroSz Tryz.prog 79 1 = true := by kernel_rfl
@[simp] theorem Tryz.elm79 : Aw.elemA Tryz.prog 79 = some (312, 10, 120) := by kernel_rfl
@[simp] theorem Tryz.isl79 : Aw.isSlice Tryz.prog 79 = true := by kernel_rfl
@[simp] theorem Tryz.apd79 : Aw.appendable Tryz.prog 79 = true := by kernel_rfl
@[simp] theorem Tryz.agg81 : Aw.aggSize Tryz.prog 81 = some 1 := by kernel_rfl
@[simp] theorem Tryz.siz81 : Aw.sizeA Tryz.prog 81 = some 1 := by kernel_rfl
@[simp] theorem Tryz.zer81 : Aw.zeroA Tryz.prog 81 = some [.sl .own 10 []] := by kernel_rfl
@[simp] theorem Tryz.zsz81 : Aw.zeroSz Tryz.prog 81 1 = true := by kernel_rfl
@[simp] theorem Tryz.fld81_0 : Aw.fieldA Tryz.prog 81 0 = some 0 := by kernel_rfl
@[simp] theorem Tryz.plc81 : Aw.placesA Tryz.prog 81 = some [(0, 1)] := by kernel_rfl
@[simp] theorem Tryz.agg82 : Aw.aggSize Tryz.prog 82 = none := by kernel_rfl
@[simp] theorem Tryz.one82 : Aw.oneSize Tryz.prog 82 = true := by kernel_rfl
@[simp] theorem Tryz.siz82 : Aw.sizeA Tryz.prog 82 = some 1 := by kernel_rfl
@[simp] theorem Tryz.zer82 : Aw.zeroA Tryz.prog 82 = some [.sl .own 4 []] := by kernel_rfl
@[simp] theorem Tryz.zsz82 : Aw.zeroSz Tryz.prog 82 1 = true := by kernel_rfl
@[simp] theorem Tryz.elm82 : Aw.elemA Tryz.prog 82 = some (246, 4, 56) := by kernel_rfl
@[simp] theorem Tryz.isl82 : Aw.isSlice Tryz.prog 82 = true := by kernel_rfl
@[simp] theorem Tryz.apd82 : Aw.appendable Tryz.prog 82 = true := by kernel_rfl
@[simp] theorem Tryz.agg84 : Aw.aggSize Tryz.prog 84 = some 4 := by kernel_rfl
@[simp] theorem Tryz.siz84 : Aw.sizeA Tryz.prog 84 = some 4 := by kernel_rfl
@[simp] theorem Tryz.zer84 : Aw.zeroA Tryz.prog 84 = some [.sl .own 2 [], .sl .own 10 [], .sl .own 4 [], .int .i64 0] := by kernel_rfl
@[simp] theorem Tryz.zsz84 : Aw.zeroSz Tryz.prog 84 4 = true := by kernel_rfl
@[simp] theorem Tryz.fld84_0 : Aw.fieldA Tryz.prog 84 0 = some 0 := by kernel_rfl
@[simp] theorem Tryz.fld84_1 : Aw.fieldA Tryz.prog 84 1 = some 1 := by kernel_rfl
@[simp] theorem Tryz.fld84_2 : Aw.fieldA Tryz.prog 84 2 = some 2 := by kernel_rfl
@[simp] theorem Tryz.fld84_3 : Aw.fieldA Tryz.prog 84 3 = some 3 := by kernel_rfl
@[simp] theorem Tryz.plc84 : Aw.placesA Tryz.prog 84 = some [(0, 1), (1, 1), (2, 1), (3, 1)] := by kernel_rfl
@[simp] theorem Tryz.agg87 : Aw.aggSize Tryz.prog 87 = none := by kernel_rfl
@[simp] theorem Tryz.one87 : Aw.oneSize Tryz.prog 87 = true := by kernel_rfl
@[simp] theorem Tryz.siz87 : Aw.sizeA Tryz.prog 87 = some 1 := by kernel_rfl
@[simp] theorem Tryz.zer87 : Aw.zeroA Tryz.prog 87 = some [.sl .own 2 []] := by kernel_rfl
@[simp] theorem Tryz.zsz87 : Aw.zeroSz Tryz.prog 87 1 = true := by kernel_rfl
@[simp] theorem Tryz.elm87 : Aw.elemA Tryz.prog 87 = some (257, 2, 40) := by kernel_rfl
@[simp] theorem Tryz.isl87 : Aw.isSlice Tryz.prog 87 = true := by kernel_rfl
@[simp] theorem Tryz.apd87 : Aw.appendable Tryz.prog 87 = true := by kernel_rfl
@[simp] theorem Tryz.agg88 : Aw.aggSize Tryz.prog 88 = none := by kernel_rfl
@[simp] theorem Tryz.one88 : Aw.oneSize Tryz.prog 88 = true := by kernel_rfl
@[simp] theorem Tryz.siz88 : Aw.sizeA Tryz.prog 88 = some 1 := by kernel_rfl
@[simp] theorem Tryz.zer88 : Aw.zeroA Tryz.prog 88 = some [.sl .own 10 []] := by kernel_rfl
@[simp] theorem Tryz.zsz88 : Aw.zeroSz Tryz.prog 88 1 = true := by kernel_rfl
@[simp] theorem Tryz.elm88 : Aw.elemA Tryz.prog 88 = some (316, 10, 120) := by kernel_rfl
@[simp] theorem Tryz.isl88 : Aw.isSlice Tryz.prog 88 = true := by kernel_rfl
@[simp] theorem Tryz.apd88 : Aw.appendable Tryz.prog 88 = true := by kernel_rfl
@[simp] theorem Tryz.agg90 : Aw.aggSize Tryz.prog 90 = some 1 := by kernel_rfl
@[simp] theorem Tryz.siz90 : Aw.sizeA Tryz.prog 90 = some 1 := by kernel_rfl
@[simp] theorem Tryz.zer90 : Aw.zeroA Tryz.prog 90 = some [.sl .own 10 []] := by kernel_rfl
@[simp] theorem Tryz.zsz90 : Aw.zeroSz Tryz.prog 90 1 = true := by kernel_rfl
@[simp] theorem Tryz.fld90_0 : Aw.fieldA Tryz.prog 90 0 = some 0 := by kernel_rfl
@[simp] theorem Tryz.plc90 : Aw.placesA Tryz.prog 90 = some [(0, 1)] := by kernel_rfl
@[simp] theorem Tryz.agg91 : Aw.aggSize Tryz.prog 91 = none := by kernel_rfl
@[simp] theorem Tryz.one91 : Aw.oneSize Tryz.prog 91 = true := by kernel_rfl
@[simp] theorem Tryz.siz91 : Aw.sizeA Tryz.prog 91 = some 1 := by kernel_rfl
@[simp] theorem Tryz.zer91 : Aw.zeroA Tryz.prog 91 = some [.sl .own 4 []] := by kernel_rfl
@[simp] theorem Tryz.zsz91 : Aw.zeroSz Tryz.prog 91 1 = true := by kernel_rfl
@[simp] theorem Tryz.elm91 : Aw.elemA Tryz.prog 91 = some (253, 4, 56) := by kernel_rfl
@[simp] theorem Tryz.isl91 : Aw.isSlice Tryz.prog 91 = true := by kernel_rfl
@[simp] theorem Tryz.apd91 : Aw.appendable Tryz.prog 91 = true := by kernel_rfl
@[simp] theorem Tryz.agg93 : Aw.aggSize Tryz.prog 93 = some 4 := by kernel_rfl
@[simp] theorem Tryz.siz93 : Aw.sizeA Tryz.prog 93 = some 4 := by kernel_rfl
@[simp] theorem Tryz.zer93 : Aw.zeroA Tryz.prog 93 = some [.sl .own 2 [], .sl .own 10 [], .sl .own 4 [], .int .i64 0] := by kernel_rfl
@[simp] theorem Tryz.zsz93 : Aw.zeroSz Tryz.prog 93 4 = true := by kernel_rfl
@[simp] theorem Tryz.fld93_0 : Aw.fieldA Tryz.prog 93 0 = some 0 := by kernel_rfl
@[simp] theorem Tryz.fld93_1 : Aw.fieldA Tryz.prog 93 1 = some 1 := by kernel_rfl
@[simp] theorem Tryz.fld93_2 : Aw.fieldA Tryz.prog 93 2 = some 2 := by kernel_rfl
@[simp] theorem Tryz.fld93_3 : Aw.fieldA Tryz.prog 93 3 = some 3 := by kernel_rfl
@[simp] theorem Tryz.plc93 : Aw.placesA Tryz.prog 93 = some [(0, 1), (1, 1), (2, 1), (3, 1)] := by kernel_rfl
@[simp] theorem Tryz.agg116 : Aw.aggSize Tryz.prog 116 = none := by kernel_rfl
@[simp] theorem Tryz.one116 : Aw.oneSize Tryz.prog 116 = true := by kernel_rfl
@[simp] theorem Tryz.siz116 : Aw.sizeA Tryz.prog 116 = some 1 := by kernel_rfl
@[simp] theorem Tryz.zer116 : Aw.zeroA Tryz.prog 116 = some [.sl .own 1 []] := by kernel_rfl
@[simp] theorem Tryz.zsz116 : Aw.zeroSz Tryz.prog 116 1 = true := by kernel_rfl
@[simp] theorem Tryz.elm116 : Aw.elemA Tryz.prog 116 = some (45, 1, 24) := by kernel_rfl
@[simp] theorem Tryz.isl116 : Aw.isSlice Tryz.prog 116 = true := by kernel_rfl
@[simp] theorem Tryz.apd116 : Aw.appendable Tryz.prog 116 = true := by kernel_rfl
@[simp] theorem Tryz.agg149 : Aw.aggSize Tryz.prog 149 = some 8 := by kernel_rfl
@[simp] theorem Tryz.siz149 : Aw.sizeA Tryz.prog 149 = some 8 := by kernel_rfl
@[simp] theorem Tryz.zer149 : Aw.zeroA Tryz.prog 149 = some [.int .i64 0, .str [], .str [], .str [], .int .i64 0, .bool false, .int .i64 0, .str []] := by kernel_rfl
@[simp] theorem Tryz.zsz149 : Aw.zeroSz Tryz.prog 149 8 = true := by kernel_rfl
@[simp] theorem Tryz.fld149_0 : Aw.fieldA Tryz.prog 149 0 = some 0 := by kernel_rfl
@[simp] theorem Tryz.fld149_1 : Aw.fieldA Tryz.prog 149 1 = some 1 := by kernel_rfl
@[simp] theorem Tryz.fld149_2 : Aw.fieldA Tryz.prog 149 2 = some 3 := by kernel_rfl
@[simp] theorem Tryz.fld149_3 : Aw.fieldA Tryz.prog 149 3 = some 4 := by kernel_rfl
@[simp] theorem Tryz.fld149_4 : Aw.fieldA Tryz.prog 149 4 = some 5 := by kernel_rfl
@[simp] theorem Tryz.fld149_5 : Aw.fieldA Tryz.prog 149 5 = some 6 := by kernel_rfl
@[simp] theorem Tryz.fld149_6 : Aw.fieldA Tryz.prog 149 6 = some 7 := by kernel_rfl
@[simp] theorem Tryz.plc149 : Aw.placesA Tryz.prog 149 = some [(0, 1), (1, 2), (3, 1), (4, 1), (5, 1), (6, 1), (7, 1)] := by kernel_rfl
@[simp] theorem Tryz.agg151 : Aw.aggSize Tryz.prog 151 = some 5 := by kernel_rfl
@[simp] theorem Tryz.siz151 : Aw.sizeA Tryz.prog 151 = some 5 := by kernel_rfl
@[simp] theorem Tryz.zer151 : Aw.zeroA Tryz.prog 151 = some [.int .i64 0, .str [], .str [], .str [], .str []] := by kernel_rfl
@[simp] theorem Tryz.zsz151 : Aw.zeroSz Tryz.prog 151 5 = true := by kernel_rfl
@[simp] theorem Tryz.fld151_0 : Aw.fieldA Tryz.prog 151 0 = some 0 := by kernel_rfl
@[simp] theorem Tryz.fld151_1 : Aw.fieldA Tryz.prog 151 1 = some 1 := by kernel_rfl
@[simp] theorem Tryz.fld151_2 : Aw.fieldA Tryz.prog 151 2 = some 3 := by kernel_rfl
@[simp] theorem Tryz.fld151_3 : Aw.fieldA Tryz.prog 151 3 = some 4 := by kernel_rfl
@[simp] theorem Tryz.plc151 : Aw.placesA Tryz.prog 151 = some [(0, 1), (1, 2), (3, 1), (4, 1)] := by kernel_rfl
@[simp] theorem Tryz.agg169 : Aw.aggSize Tryz.prog 169 = some 5 := by kernel_rfl
@[simp] theorem Tryz.siz169 : Aw.sizeA Tryz.prog 169 = some 5 := by kernel_rfl
@[simp] theorem Tryz.zer169 : Aw.zeroA Tryz.prog 169 = some [.str [], .str [], .bool false, .int .i64 0, .str []] := by kernel_rfl
@[simp] theorem Tryz.zsz169 : Aw.zeroSz Tryz.prog 169 5 = true := by kernel_rfl
@[simp] theorem Tryz.fld169_0 : Aw.fieldA Tryz.prog 169 0 = some 0 := by kernel_rfl
@[simp] theorem Tryz.fld169_1 : Aw.fieldA Tryz.prog 169 1 = some 2 := by kernel_rfl
@[simp] theorem Tryz.fld169_2 : Aw.fieldA Tryz.prog 169 2 = some 3 := by kernel_rfl
@[simp] theorem Tryz.fld169_3 : Aw.fieldA Tryz.prog 169 3 = some 4 := by kernel_rfl
@[simp] theorem Tryz.plc169 : Aw.placesA Tryz.prog 169 = some [(0, 2), (2, 1), (3, 1), (4, 1)] := by kernel_rfl
@[simp] theorem Tryz.agg173 : Aw.aggSize Tryz.prog 173 = none := by kernel_rfl
@[simp] theorem Tryz.one173 : Aw.oneSize Tryz.prog 173 = true := by kernel_rfl
@[simp] theorem Tryz.siz173 : Aw.sizeA Tryz.prog 173 = some 1 := by kernel_rfl
@[simp] theorem Tryz.zer173 : Aw.zeroA Tryz.prog 173 = some [.sl .own 2 []] := by kernel_rfl
@[simp] theorem Tryz.zsz173 : Aw.zeroSz Tryz.prog 173 1 = true := by kernel_rfl
@[simp] theorem Tryz.elm173 : Aw.elemA Tryz.prog 173 = some (275, 2, 24) := by kernel_rfl
@[simp] theorem Tryz.isl173 : Aw.isSlice Tryz.prog 173 = true := by kernel_rfl
@[simp] theorem Tryz.apd173 : Aw.appendable Tryz.prog 173 = true := by kernel_rfl
@[simp] theorem Tryz.agg190 : Aw.aggSize Tryz.prog 190 = none := by kernel_rfl
@[simp] theorem Tryz.one190 : Aw.oneSize Tryz.prog 190 = true := by kernel_rfl
@[simp] theorem Tryz.siz190 : Aw.sizeA Tryz.prog 190 = some 1 := by kernel_rfl
@[simp] theorem Tryz.zer190 : Aw.zeroA Tryz.prog 190 = some [.sl .own 2 []] := by kernel_rfl
@[simp] theorem Tryz.zsz190 : Aw.zeroSz Tryz.prog 190 1 = true := by kernel_rfl
@[simp] theorem Tryz.elm190 : Aw.elemA Tryz.prog 190 = some (348, 2, 32) := by kernel_rfl
@[simp] theorem Tryz.isl190 : Aw.isSlice Tryz.prog 190 = true := by kernel_rfl
@[simp] theorem Tryz.apd190 : Aw.appendable Tryz.prog 190 = true := by kernel_rfl
@[simp] theorem Tryz.agg192 : Aw.aggSize Tryz.prog 192 = some 4 := by kernel_rfl
@[simp] theorem Tryz.siz192 : Aw.sizeA Tryz.prog 192 = some 4 := by kernel_rfl
@[simp] theorem Tryz.zer192 : Aw.zeroA Tryz.prog 192 = some [.int .i64 0, .str [], .sl .own 2 [], .str []] := by kernel_rfl
@[simp] theorem Tryz.zsz192 : Aw.zeroSz Tryz.prog 192 4 = true := by kernel_rfl
@[simp] theorem Tryz.fld192_0 : Aw.fieldA Tryz.prog 192 0 = some 0 := by kernel_rfl
@[simp] theorem Tryz.fld192_1 : Aw.fieldA Tryz.prog 192 1 = some 1 := by kernel_rfl
@[simp] theorem Tryz.fld192_2 : Aw.fieldA Tryz.prog 192 2 = some 2 := by kernel_rfl
@[simp] theorem Tryz.fld192_3 : Aw.fieldA Tryz.prog 192 3 = some 3 := by kernel_rfl
@[simp] theorem Tryz.plc192 : Aw.placesA Tryz.prog 192 = some [(0, 1), (1, 1), (2, 1), (3, 1)] := by kernel_rfl
@[simp] theorem Tryz.agg197 : Aw.aggSize Tryz.prog 197 = some 8 := by kernel_rfl
@[simp] theorem Tryz.siz197 : Aw.sizeA Tryz.prog 197 = some 8 := by kernel_rfl
@[simp] theorem Tryz.zer197 : Aw.zeroA Tryz.prog 197 = some [.int .i64 0, .str [], .str [], .str [], .int .i64 0, .bool false, .int .i64 0, .str []] := by kernel_rfl
@[simp] theorem Tryz.zsz197 : Aw.zeroSz Tryz.prog 197 8 = true := by kernel_rfl
@[simp] theorem Tryz.fld197_0 : Aw.fieldA Tryz.prog 197 0 = some 0 := by kernel_rfl
@[simp] theorem Tryz.fld197_1 : Aw.fieldA Tryz.prog 197 1 = some 1 := by kernel_rfl
@[simp] theorem Tryz.fld197_2 : Aw.fieldA Tryz.prog 197 2 = some 3 := by kernel_rfl
@[simp] theorem Tryz.fld197_3 : Aw.fieldA Tryz.prog 197 3 = some 4 := by kernel_rfl
@[simp] theorem Tryz.fld197_4 : Aw.fieldA Tryz.prog 197 4 = some 5 := by kernel_rfl
@[simp] theorem Tryz.fld197_5 : Aw.fieldA Tryz.prog 197 5 = some 6 := by kernel_rfl
@[simp] theorem Tryz.fld197_6 : Aw.fieldA Tryz.prog 197 6 = some 7 := by kernel_rfl
@[simp] theorem Tryz.plc197 : Aw.placesA Tryz.prog 197 = some [(0, 1), (1, 2), (3, 1), (4, 1), (5, 1), (6, 1), (7, 1)] := by kernel_rfl
@[simp] theorem Tryz.agg200 : Aw.aggSize Tryz.prog 200 = some 5 := by kernel_rfl
@[simp] theorem Tryz.siz200 : Aw.sizeA Tryz.prog 200 = some 5 := by kernel_rfl
@[simp] theorem Tryz.zer200 : Aw.zeroA Tryz.prog 200 = some [.str [], .str [], .bool false, .int .i64 0, .str []] := by kernel_rfl
@[simp] theorem Tryz.zsz200 : Aw.zeroSz Tryz.prog 200 5 = true := by kernel_rfl
@[simp] theorem Tryz.fld200_0 : Aw.fieldA Tryz.prog 200 0 = some 0 := by kernel_rfl
@[simp] theorem Tryz.fld200_1 : Aw.fieldA Tryz.prog 200 1 = some 2 := by kernel_rfl
@[simp] theorem Tryz.fld200_2 : Aw.fieldA Tryz.prog 200 2 = some 3 := by kernel_rfl
@[simp] theorem Tryz.fld200_3 : Aw.fieldA Tryz.prog 200 3 = some 4 := by kernel_rfl
@[simp] theorem Tryz.plc200 : Aw.placesA Tryz.prog 200 = some [(0, 2), (2, 1), (3, 1), (4, 1)] := by kernel_rfl
@[simp] theorem Tryz.agg201 : Aw.aggSize Tryz.prog 201 = none := by kernel_rfl
@[simp] theorem Tryz.one201 : Aw.oneSize Tryz.prog 201 = true := by kernel_rfl
@[simp] theorem Tryz.siz201 : Aw.sizeA Tryz.prog 201 = some 1 := by kernel_rfl
@[simp] theorem Tryz.zer201 : Aw.zeroA Tryz.prog 201 = some [.sl .own 2 []] := by kernel_rfl
@[simp] theorem Tryz.zsz201 : Aw.zeroSz Tryz.prog 201 1 = true := by kernel_rfl
@[simp] theorem Tryz.elm201 : Aw.elemA Tryz.prog 201 = some (301, 2, 32) := by kernel_rfl
@[simp] theorem Tryz.isl201 : Aw.isSlice Tryz.prog 201 = true := by kernel_rfl
@[simp] theorem Tryz.apd201 : Aw.appendable Tryz.prog 201 = true := by kernel_rfl
@[simp] theorem Tryz.agg203 : Aw.aggSize Tryz.prog 203 = some 4 := by kernel_rfl
@[simp] theorem Tryz.siz203 : Aw.sizeA Tryz.prog 203 = some 4 := by kernel_rfl
@[simp] theorem Tryz.zer203 : Aw.zeroA Tryz.prog 203 = some [.str [], .str [], .int .i64 0, .sl .own 2 []] := by kernel_rfl
@[simp] theorem Tryz.zsz203 : Aw.zeroSz Tryz.prog 203 4 = true := by kernel_rfl
@[simp] theorem Tryz.fld203_0 : Aw.fieldA Tryz.prog 203 0 = some 0 := by kernel_rfl
@[simp] theorem Tryz.fld203_1 : Aw.fieldA Tryz.prog 203 1 = some 1 := by kernel_rfl
@[simp] theorem Tryz.fld203_2 : Aw.fieldA Tryz.prog 203 2 = some 2 := by kernel_rfl
@[simp] theorem Tryz.fld203_3 : Aw.fieldA Tryz.prog 203 3 = some 3 := by kernel_rfl
@[simp] theorem Tryz.plc203 : Aw.placesA Tryz.prog 203 = some [(0, 1), (1, 1), (2, 1), (3, 1)] := by kernel_rfl
@[simp] theorem Tryz.agg208 : Aw.aggSize Tryz.prog 208 = some 2 := by kernel_rfl
@[simp] theorem Tryz.siz208 : Aw.sizeA Tryz.prog 208 = some 2 := by kernel_rfl
@[simp] theorem Tryz.zer208 : Aw.zeroA Tryz.prog 208 = some [.str [], .int .i64 0] := by kernel_rfl
@[simp] theorem Tryz.zsz208 : Aw.zeroSz Tryz.prog 208 2 = true := by kernel_rfl
@[simp] theorem Tryz.fld208_0 : Aw.fieldA Tryz.prog 208 0 = some 0 := by kernel_rfl
@[simp] theorem Tryz.fld208_1 : Aw.fieldA Tryz.prog 208 1 = some 1 := by kernel_rfl
@[simp] theorem Tryz.plc208 : Aw.placesA Tryz.prog 208 = some [(0, 1), (1, 1)] := by kernel_rfl
@[simp] theorem Tryz.agg212 : Aw.aggSize Tryz.prog 212 = some 4 := by kernel_rfl
@[simp] theorem Tryz.siz212 : Aw.sizeA Tryz.prog 212 = some 4 := by kernel_rfl
@[simp] theorem Tryz.zer212 : Aw.zeroA Tryz.prog 212 = some [.int .i64 0, .str [], .sl .own 2 [], .str []] := by kernel_rfl
@[simp] theorem Tryz.zsz212 : Aw.zeroSz Tryz.prog 212 4 = true := by kernel_rfl
@[simp] theorem Tryz.fld212_0 : Aw.fieldA Tryz.prog 212 0 = some 0 := by kernel_rfl
@[simp] theorem Tryz.fld212_1 : Aw.fieldA Tryz.prog 212 1 = some 1 := by kernel_rfl
@[simp] theorem Tryz.fld212_2 : Aw.fieldA Tryz.prog 212 2 = some 2 := by kernel_rfl
@[simp] theorem Tryz.fld212_3 : Aw.fieldA Tryz.prog 212 3 = some 3 := by kernel_rfl
@[simp] theorem Tryz.plc212 : Aw.placesA Tryz.prog 212 = some [(0, 1), (1, 1), (2, 1), (3, 1)] := by kernel_rfl
@[simp] theorem Tryz.agg232 : Aw.aggSize Tryz.prog 232 = some 3 := by kernel_rfl
@[simp] theorem Tryz.siz232 : Aw.sizeA Tryz.prog 232 = some 3 := by kernel_rfl
@[simp] theorem Tryz.zer232 : Aw.zeroA Tryz.prog 232 = some [.sl .own 1 [], .sl .own 1 [], .sl .own 1 []] := by kernel_rfl
@[simp] theorem Tryz.zsz232 : Aw.zeroSz Tryz.prog 232 3 = true := by kernel_rfl
@[simp] theorem Tryz.plc232 : Aw.placesA Tryz.prog 232 = some [] := by kernel_rfl
@[simp] theorem Tryz.arr232 : Aw.arrA Tryz.prog 232 = some (3, 1) := by kernel_rfl
@[simp] theorem Tryz.agg240 : Aw.aggSize Tryz.prog 240 = none := by kernel_rfl
@[simp] theorem Tryz.one240 : Aw.oneSize Tryz.prog 240 = true := by kernel_rfl
@[simp] theorem Tryz.siz240 : Aw.sizeA Tryz.prog 240 = some 1 := by kernel_rfl
@[simp] theorem Tryz.zer240 : Aw.zeroA Tryz.prog 240 = some [.sl .own 7 []] := by kernel_rfl
@[simp] theorem Tryz.zsz240 : Aw.zeroSz Tryz.prog 240 1 = true := by kernel_rfl
@[simp] theorem Tryz.elm240 : Aw.elemA Tryz.prog 240 = some (369, 7, 80) := by kernel_rfl
@[simp] theorem Tryz.isl240 : Aw.isSlice Tryz.prog 240 = true := by kernel_rfl
@[simp] theorem Tryz.apd240 : Aw.appendable Tryz.prog 240 = true := by kernel_rfl
@[simp] theorem Tryz.agg242 : Aw.aggSize Tryz.prog 242 = some 2 := by kernel_rfl
@[simp] theorem Tryz.siz242 : Aw.sizeA Tryz.prog 242 = some 2 := by kernel_rfl
@[simp] theorem Tryz.zer242 : Aw.zeroA Tryz.prog 242 = some [.str [], .sl .own 7 []] := by kernel_rfl
@[simp] theorem Tryz.zsz242 : Aw.zeroSz Tryz.prog 242 2 = true := by kernel_rfl
@[simp] theorem Tryz.fld242_0 : Aw.fieldA Tryz.prog 242 0 = some 0 := by kernel_rfl
@[simp] theorem Tryz.fld242_1 : Aw.fieldA Tryz.prog 242 1 = some 1 := by kernel_rfl
@[simp] theorem Tryz.plc242 : Aw.placesA Tryz.prog 242 = some [(0, 1), (1, 1)] := by kernel_rfl
@[simp] theorem Tryz.agg246 : Aw.aggSize Tryz.prog 246 = some 4 := by kernel_rfl
@[simp] theorem Tryz.siz246 : Aw.sizeA Tryz.prog 246 = some 4 := by kernel_rfl
@[simp] theorem Tryz.zer246 : Aw.zeroA Tryz.prog 246 = some [.str [], .str [], .str [], .bool false] := by kernel_rfl
@[simp] theorem Tryz.zsz246 : Aw.zeroSz Tryz.prog 246 4 = true := by kernel_rfl
@[simp] theorem Tryz.fld246_0 : Aw.fieldA Tryz.prog 246 0 = some 0 := by kernel_rfl
@[simp] theorem Tryz.fld246_1 : Aw.fieldA Tryz.prog 246 1 = some 1 := by kernel_rfl
@[simp] theorem Tryz.fld246_2 : Aw.fieldA Tryz.prog 246 2 = some 3 := by kernel_rfl
@[simp] theorem Tryz.plc246 : Aw.placesA Tryz.prog 246 = some [(0, 1), (1, 2), (3, 1)] := by kernel_rfl
@[simp] theorem Tryz.agg253 : Aw.aggSize Tryz.prog 253 = some 4 := by kernel_rfl
@[simp] theorem Tryz.siz253 : Aw.sizeA Tryz.prog 253 = some 4 := by kernel_rfl
@[simp] theorem Tryz.zer253 : Aw.zeroA Tryz.prog 253 = some [.str [], .str [], .str [], .bool false] := by kernel_rfl
@[simp] theorem Tryz.zsz253 : Aw.zeroSz Tryz.prog 253 4 = true := by kernel_rfl
@[simp] theorem Tryz.fld253_0 : Aw.fieldA Tryz.prog 253 0 = some 0 := by kernel_rfl
@[simp] theorem Tryz.fld253_1 : Aw.fieldA Tryz.prog 253 1 = some 1 := by kernel_rfl
@[simp] theorem Tryz.fld253_2 : Aw.fieldA Tryz.prog 253 2 = some 3 := by kernel_rfl
@[simp] theorem Tryz.plc253 : Aw.placesA Tryz.prog 253 = some [(0, 1), (1, 2), (3, 1)] := by kernel_rfl
@[simp] theorem Tryz.agg255 : Aw.aggSize Tryz.prog 255 = none := by kernel_rfl
@[simp] theorem Tryz.one255 : Aw.oneSize Tryz.prog 255 = true := by kernel_rfl
@[simp] theorem Tryz.siz255 : Aw.sizeA Tryz.prog 255 = some 1 := by kernel_rfl
@[simp] theorem Tryz.zer255 : Aw.zeroA Tryz.prog 255 = some [.sl .own 7 []] := by kernel_rfl
@[simp] theorem Tryz.zsz255 : Aw.zeroSz Tryz.prog 255 1 = true := by kernel_rfl
@[simp] theorem Tryz.elm255 : Aw.elemA Tryz.prog 255 = some (320, 7, 80) := by kernel_rfl
@[simp] theorem Tryz.isl255 : Aw.isSlice Tryz.prog 255 = true := by kernel_rfl
@[simp] theorem Tryz.apd255 : Aw.appendable Tryz.prog 255 = true := by kernel_rfl
@[simp] theorem Tryz.agg257 : Aw.aggSize Tryz.prog 257 = some 2 := by kernel_rfl
@[simp] theorem Tryz.siz257 : Aw.sizeA Tryz.prog 257 = some 2 := by kernel_rfl
@[simp] theorem Tryz.zer257 : Aw.zeroA Tryz.prog 257 = some [.str [], .sl .own 7 []] := by kernel_rfl
@[simp] theorem Tryz.zsz257 : Aw.zeroSz Tryz.prog 257 2 = true := by kernel_rfl
@[simp] theorem Tryz.fld257_0 : Aw.fieldA Tryz.prog 257 0 = some 0 := by kernel_rfl
@[simp] theorem Tryz.fld257_1 : Aw.fieldA Tryz.prog 257 1 = some 1 := by kernel_rfl
@[simp] theorem Tryz.plc257 : Aw.placesA Tryz.prog 257 = some [(0, 1), (1, 1)] := by kernel_rfl
@[simp] theorem Tryz.agg273 : Aw.aggSize Tryz.prog 273 = none := by kernel_rfl
@[simp] theorem Tryz.one273 : Aw.oneSize Tryz.prog 273 = true := by kernel_rfl
@[simp] theorem Tryz.siz273 : Aw.sizeA Tryz.prog 273 = some 1 := by kernel_rfl
@[simp] theorem Tryz.zer273 : Aw.zeroA Tryz.prog 273 = some [.sl .own 1 []] := by kernel_rfl
@[simp] theorem Tryz.zsz273 : Aw.zeroSz Tryz.prog 273 1 = true := by kernel_rfl
@[simp] theorem Tryz.elm273 : Aw.elemA Tryz.prog 273 = some (5, 1, 1) := by kernel_rfl
@[simp] theorem Tryz.isl273 : Aw.isSlice Tryz.prog 273 = true := by kernel_rfl
@[simp] theorem Tryz.apd273 : Aw.appendable Tryz.prog 273 = true := by kernel_rfl
@[simp] theorem Tryz.agg275 : Aw.aggSize Tryz.prog 275 = some 2 := by kernel_rfl
@[simp] theorem Tryz.siz275 : Aw.sizeA Tryz.prog 275 = some 2 := by kernel_rfl
@[simp] theorem Tryz.zer275 : Aw.zeroA Tryz.prog 275 = some [.int .i64 0, .str []] := by kernel_rfl
@[simp] theorem Tryz.zsz275 : Aw.zeroSz Tryz.prog 275 2 = true := by kernel_rfl
@[simp] theorem Tryz.fld275_0 : Aw.fieldA Tryz.prog 275 0 = some 0 := by kernel_rfl
@[simp] theorem Tryz.fld275_1 : Aw.fieldA Tryz.prog 275 1 = some 1 := by kernel_rfl
@[simp] theorem Tryz.plc275 : Aw.placesA Tryz.prog 275 = some [(0, 1), (1, 1)] := by kernel_rfl
@[simp] theorem Tryz.agg286 : Aw.aggSize Tryz.prog 286 = some 4 := by kernel_rfl
@[simp] theorem Tryz.siz286 : Aw.sizeA Tryz.prog 286 = some 4 := by kernel_rfl
@[simp] theorem Tryz.zer286 : Aw.zeroA Tryz.prog 286 = some [.str [], .str [], .int .i64 0, .sl .own 2 []] := by kernel_rfl
@[simp] theorem Tryz.zsz286 : Aw.zeroSz Tryz.prog 286 4 = true := by kernel_rfl
@[simp] theorem Tryz.fld286_0 : Aw.fieldA Tryz.prog 286 0 = some 0 := by kernel_rfl
@[simp] theorem Tryz.fld286_1 : Aw.fieldA Tryz.prog 286 1 = some 1 := by kernel_rfl
@[simp] theorem Tryz.fld286_2 : Aw.fieldA Tryz.prog 286 2 = some 2 := by kernel_rfl
@[simp] theorem Tryz.fld286_3 : Aw.fieldA Tryz.prog 286 3 = some 3 := by kernel_rfl
@[simp] theorem Tryz.plc286 : Aw.placesA Tryz.prog 286 = some [(0, 1), (1, 1), (2, 1), (3, 1)] := by kernel_rfl
@[simp] theorem Tryz.agg294 : Aw.aggSize Tryz.prog 294 = none := by kernel_rfl
@[simp] theorem Tryz.one294 : Aw.oneSize Tryz.prog 294 = true := by kernel_rfl
@[simp] theorem Tryz.siz294 : Aw.sizeA Tryz.prog 294 = some 1 := by kernel_rfl
@[simp] theorem Tryz.zer294 : Aw.zeroA Tryz.prog 294 = some [.int .u64 0] := by kernel_rfl
@[simp] theorem Tryz.zsz294 : Aw.zeroSz Tryz.prog 294 1 = true := by kernel_rfl
@[simp] theorem Tryz.int294 : Aw.intType Tryz.prog 294 = some .u64 := by kernel_rfl
@[simp] theorem Tryz.som294 : (Tryz.prog.underlying 294).isSome = true := by kernel_rfl
@[simp] theorem Tryz.agg301 : Aw.aggSize Tryz.prog 301 = some 2 := by kernel_rfl
@[simp] theorem Tryz.siz301 : Aw.sizeA Tryz.prog 301 = some 2 := by kernel_rfl
@[simp] theorem Tryz.zer301 : Aw.zeroA Tryz.prog 301 = some [.str [], .str []] := by kernel_rfl
@[simp] theorem Tryz.zsz301 : Aw.zeroSz Tryz.prog 301 2 = true := by kernel_rfl
@[simp] theorem Tryz.fld301_0 : Aw.fieldA Tryz.prog 301 0 = some 0 := by kernel_rfl
@[simp] theorem Tryz.fld301_1 : Aw.fieldA Tryz.prog 301 1 = some 1 := by kernel_rfl
@[simp] theorem Tryz.plc301 : Aw.placesA Tryz.prog 301 = some [(0, 1), (1, 1)] := by kernel_rfl
@[simp] theorem Tryz.agg312 : Aw.aggSize Tryz.prog 312 = some 10 := by kernel_rfl
@[simp] theorem Tryz.siz312 : Aw.sizeA Tryz.prog 312 = some 10 := by kernel_rfl
@[simp] theorem Tryz.zer312 : Aw.zeroA Tryz.prog 312 = some [.str [], .str [], .str [], .int .i64 0, .int .i64 0, .str [], .int .i64 0, .bool false, .str [], .int .i64 0] := by kernel_rfl
@[simp] theorem Tryz.zsz312 : Aw.zeroSz Tryz.prog 312 10 = true := by kernel_rfl
@[simp] theorem Tryz.fld312_0 : Aw.fieldA Tryz.prog 312 0 = some 0 := by kernel_rfl
@[simp] theorem Tryz.fld312_1 : Aw.fieldA Tryz.prog 312 1 = some 1 := by kernel_rfl
@[simp] theorem Tryz.fld312_2 : Aw.fieldA Tryz.prog 312 2 = some 3 := by kernel_rfl
@[simp] theorem Tryz.fld312_3 : Aw.fieldA Tryz.prog 312 3 = some 9 := by kernel_rfl
@[simp] theorem Tryz.plc312 : Aw.placesA Tryz.prog 312 = some [(0, 1), (1, 2), (3, 6), (9, 1)] := by kernel_rfl
@[simp] theorem Tryz.agg316 : Aw.aggSize Tryz.prog 316 = some 10 := by kernel_rfl
@[simp] theorem Tryz.siz316 : Aw.sizeA Tryz.prog 316 = some 10 := by kernel_rfl
@[simp] theorem Tryz.zer316 : Aw.zeroA Tryz.prog 316 = some [.str [], .str [], .str [], .int .i64 0, .int .i64 0, .str [], .int .i64 0, .bool false, .str [], .int .i64 0] := by kernel_rfl
@[simp] theorem Tryz.zsz316 : Aw.zeroSz Tryz.prog 316 10 = true := by kernel_rfl
@[simp] theorem Tryz.fld316_0 : Aw.fieldA Tryz.prog 316 0 = some 0 := by kernel_rfl
@[simp] theorem Tryz.fld316_1 : Aw.fieldA Tryz.prog 316 1 = some 1 := by kernel_rfl
@[simp] theorem Tryz.fld316_2 : Aw.fieldA Tryz.prog 316 2 = some 3 := by kernel_rfl
@[simp] theorem Tryz.fld316_3 : Aw.fieldA Tryz.prog 316 3 = some 9 := by kernel_rfl
@[simp] theorem Tryz.plc316 : Aw.placesA Tryz.prog 316 = some [(0, 1), (1, 2), (3, 6), (9, 1)] := by kernel_rfl
@[simp] theorem Tryz.agg320 : Aw.aggSize Tryz.prog 320 = some 7 := by kernel_rfl
@[simp] theorem Tryz.siz320 : Aw.sizeA Tryz.prog 320 = some 7 := by kernel_rfl
@[simp] theorem Tryz.zer320 : Aw.zeroA Tryz.prog 320 = some [.str [], .int .i64 0, .int .i64 0, .str [], .int .i64 0, .bool false, .str []] := by kernel_rfl
@[simp] theorem Tryz.zsz320 : Aw.zeroSz Tryz.prog 320 7 = true := by kernel_rfl
@[simp] theorem Tryz.fld320_0 : Aw.fieldA Tryz.prog 320 0 = some 0 := by kernel_rfl
@[simp] theorem Tryz.fld320_1 : Aw.fieldA Tryz.prog 320 1 = some 1 := by kernel_rfl
@[simp] theorem Tryz.plc320 : Aw.placesA Tryz.prog 320 = some [(0, 1), (1, 6)] := by kernel_rfl
@[simp] theorem Tryz.agg332 : Aw.aggSize Tryz.prog 332 = some 2 := by kernel_rfl
@[simp] theorem Tryz.siz332 : Aw.sizeA Tryz.prog 332 = some 2 := by kernel_rfl
@[simp] theorem Tryz.zer332 : Aw.zeroA Tryz.prog 332 = some [.undef, .sl .own 1 []] := by kernel_rfl
@[simp] theorem Tryz.zsz332 : Aw.zeroSz Tryz.prog 332 2 = true := by kernel_rfl
@[simp] theorem Tryz.fld332_0 : Aw.fieldA Tryz.prog 332 0 = some 0 := by kernel_rfl
@[simp] theorem Tryz.fld332_1 : Aw.fieldA Tryz.prog 332 1 = some 1 := by kernel_rfl
@[simp] theorem Tryz.agg348 : Aw.aggSize Tryz.prog 348 = some 2 := by kernel_rfl
@[simp] theorem Tryz.siz348 : Aw.sizeA Tryz.prog 348 = some 2 := by kernel_rfl
@[simp] theorem Tryz.zer348 : Aw.zeroA Tryz.prog 348 = some [.str [], .str []] := by kernel_rfl
@[simp] theorem Tryz.zsz348 : Aw.zeroSz Tryz.prog 348 2 = true := by kernel_rfl
@[simp] theorem Tryz.fld348_0 : Aw.fieldA Tryz.prog 348 0 = some 0 := by kernel_rfl
@[simp] theorem Tryz.fld348_1 : Aw.fieldA Tryz.prog 348 1 = some 1 := by kernel_rfl
@[simp] theorem Tryz.plc348 : Aw.placesA Tryz.prog 348 = some [(0, 1), (1, 1)] := by kernel_rfl
@[simp] theorem Tryz.agg351 : Aw.aggSize Tryz.prog 351 = none := by kernel_rfl
@[simp] theorem Tryz.one351 : Aw.oneSize Tryz.prog 351 = true := by kernel_rfl
@[simp] theorem Tryz.siz351 : Aw.sizeA Tryz.prog 351 = some 1 := by kernel_rfl
@[simp] theorem Tryz.zer351 : Aw.zeroA Tryz.prog 351 = some [.int .i64 0] := by kernel_rfl
@[simp] theorem Tryz.zsz351 : Aw.zeroSz Tryz.prog 351 1 = true := by kernel_rfl
@[simp] theorem Tryz.int351 : Aw.intType Tryz.prog 351 = some .i64 := by kernel_rfl
@[simp] theorem Tryz.som351 : (Tryz.prog.underlying 351).isSome = true := by kernel_rfl
@[simp] theorem Tryz.agg358 : Aw.aggSize Tryz.prog 358 = none := by kernel_rfl
@[simp] theorem Tryz.one358 : Aw.oneSize Tryz.prog 358 = true := by kernel_rfl
@[simp] theorem Tryz.siz358 : Aw.sizeA Tryz.prog 358 = some 1 := by kernel_rfl
@[simp] theorem Tryz.zer358 : Aw.zeroA Tryz.prog 358 = some [.int .u32 0] := by kernel_rfl
@[simp] theorem Tryz.zsz358 : Aw.zeroSz Tryz.prog 358 1 = true := by kernel_rfl
@[simp] theorem Tryz.int358 : Aw.intType Tryz.prog 358 = some .u32 := by kernel_rfl
@[simp] theorem Tryz.som358 : (Tryz.prog.underlying 358).isSome = true := by kernel_rfl
@[simp] theorem Tryz.agg360 : Aw.aggSize Tryz.prog 360 = none := by kernel_rfl
@[simp] theorem Tryz.one360 : Aw.oneSize Tryz.prog 360 = true := by kernel_rfl
@[simp] theorem Tryz.siz360 : Aw.sizeA Tryz.prog 360 = some 1 := by kernel_rfl
@[simp] theorem Tryz.zer360 : Aw.zeroA Tryz.prog 360 = some [.int .u64 0] := by kernel_rfl
@[simp] theorem Tryz.zsz360 : Aw.zeroSz Tryz.prog 360 1 = true := by kernel_rfl
@[simp] theorem Tryz.int360 : Aw.intType Tryz.prog 360 = some .u64 := by kernel_rfl
@[simp] theorem Tryz.som360 : (Tryz.prog.underlying 360).isSome = true := by kernel_rfl
@[simp] theorem Tryz.agg369 : Aw.aggSize Tryz.prog 369 = some 7 := by kernel_rfl
@[simp] theorem Tryz.siz369 : Aw.sizeA Tryz.prog 369 = some 7 := by kernel_rfl
@[simp] theorem Tryz.zer369 : Aw.zeroA Tryz.prog 369 = some [.str [], .int .i64 0, .int .i64 0, .str [], .int .i64 0, .bool false, .str []] := by kernel_rfl
@[simp] theorem Tryz.zsz369 : Aw.zeroSz Tryz.prog 369 7 = true := by kernel_rfl
@[simp] theorem Tryz.fld369_0 : Aw.fieldA Tryz.prog 369 0 = some 0 := by kernel_rfl
@[simp] theorem Tryz.fld369_1 : Aw.fieldA Tryz.prog 369 1 = some 1 := by kernel_rfl
@[simp] theorem Tryz.plc369 : Aw.placesA Tryz.prog 369 = some [(0, 1), (1, 6)] := by kernel_rfl
@[simp] theorem Tryz.agg380 : Aw.aggSize Tryz.prog 380 = none := by kernel_rfl
@[simp] theorem Tryz.one380 : Aw.oneSize Tryz.prog 380 = true := by kernel_rfl
@[simp] theorem Tryz.siz380 : Aw.sizeA Tryz.prog 380 = some 1 := by kernel_rfl
@[simp] theorem Tryz.zer380 : Aw.zeroA Tryz.prog 380 = some [.int .u64 0] := by kernel_rfl
@[simp] theorem Tryz.zsz380 : Aw.zeroSz Tryz.prog 380 1 = true := by kernel_rfl
@[simp] theorem Tryz.int380 : Aw.intType Tryz.prog 380 = some .u64 := by kernel_rfl
@[simp] theorem Tryz.som380 : (Tryz.prog.underlying 380).isSome = true := by kernel_rfl
@[simp] theorem Tryz.agg412 : Aw.aggSize Tryz.prog 412 = some 1 := by kernel_rfl
@[simp] theorem Tryz.siz412 : Aw.sizeA Tryz.prog 412 = some 1 := by kernel_rfl
@[simp] theorem Tryz.zer412 : Aw.zeroA Tryz.prog 412 = some [.int .u32 0] := by kernel_rfl
@[simp] theorem Tryz.zsz412 : Aw.zeroSz Tryz.prog 412 1 = true := by kernel_rfl
@[simp] theorem Tryz.fld412_1 : Aw.fieldA Tryz.prog 412 1 = some 0 := by kernel_rfl
@[simp] theorem Tryz.plc412 : Aw.placesA Tryz.prog 412 = some [(0, 0), (0, 1)] := by kernel_rfl
@[simp] theorem Tryz.agg416 : Aw.aggSize Tryz.prog 416 = some 2 := by kernel_rfl
@[simp] theorem Tryz.siz416 : Aw.sizeA Tryz.prog 416 = some 2 := by kernel_rfl
@[simp] theorem Tryz.zer416 : Aw.zeroA Tryz.prog 416 = some [.int .i32 0, .int .u32 0] := by kernel_rfl
@[simp] theorem Tryz.zsz416 : Aw.zeroSz Tryz.prog 416 2 = true := by kernel_rfl
@[simp] theorem Tryz.fld416_1 : Aw.fieldA Tryz.prog 416 1 = some 0 := by kernel_rfl
@[simp] theorem Tryz.plc416 : Aw.placesA Tryz.prog 416 = some [(0, 0), (0, 2)] := by kernel_rfl
@[simp] theorem Tryz.agg418 : Aw.aggSize Tryz.prog 418 = some 3 := by kernel_rfl
@[simp] theorem Tryz.siz418 : Aw.sizeA Tryz.prog 418 = some 3 := by kernel_rfl
@[simp] theorem Tryz.zer418 : Aw.zeroA Tryz.prog 418 = some [.int .u32 0, .int .i32 0, .int .u32 0] := by kernel_rfl
@[simp] theorem Tryz.zsz418 : Aw.zeroSz Tryz.prog 418 3 = true := by kernel_rfl
@[simp] theorem Tryz.fld418_1 : Aw.fieldA Tryz.prog 418 1 = some 0 := by kernel_rfl
@[simp] theorem Tryz.fld418_2 : Aw.fieldA Tryz.prog 418 2 = some 1 := by kernel_rfl
@[simp] theorem Tryz.plc418 : Aw.placesA Tryz.prog 418 = some [(0, 0), (0, 1), (1, 2)] := by kernel_rfl
@[simp] theorem Tryz.agg422 : Aw.aggSize Tryz.prog 422 = some 5 := by kernel_rfl
@[simp] theorem Tryz.siz422 : Aw.sizeA Tryz.prog 422 = some 5 := by kernel_rfl
@[simp] theorem Tryz.zer422 : Aw.zeroA Tryz.prog 422 = some [.int .u32 0, .int .i32 0, .int .u32 0, .undef, .sl .own 1 []] := by kernel_rfl
@[simp] theorem Tryz.zsz422 : Aw.zeroSz Tryz.prog 422 5 = true := by kernel_rfl
@[simp] theorem Tryz.fld422_0 : Aw.fieldA Tryz.prog 422 0 = some 0 := by kernel_rfl
@[simp] theorem Tryz.fld422_1 : Aw.fieldA Tryz.prog 422 1 = some 3 := by kernel_rfl
@[simp] theorem Tryz.fld422_2 : Aw.fieldA Tryz.prog 422 2 = some 4 := by kernel_rfl
@[simp] theorem Tryz.agg431 : Aw.aggSize Tryz.prog 431 = some 3 := by kernel_rfl
@[simp] theorem Tryz.siz431 : Aw.sizeA Tryz.prog 431 = some 3 := by kernel_rfl
@[simp] theorem Tryz.zer431 : Aw.zeroA Tryz.prog 431 = some [.str [], .str [], .undef] := by kernel_rfl
@[simp] theorem Tryz.zsz431 : Aw.zeroSz Tryz.prog 431 3 = true := by kernel_rfl
@[simp] theorem Tryz.fld431_0 : Aw.fieldA Tryz.prog 431 0 = some 0 := by kernel_rfl
@[simp] theorem Tryz.fld431_1 : Aw.fieldA Tryz.prog 431 1 = some 1 := by kernel_rfl
@[simp] theorem Tryz.fld431_2 : Aw.fieldA Tryz.prog 431 2 = some 2 := by kernel_rfl
@[simp] theorem Tryz.agg435 : Aw.aggSize Tryz.prog 435 = some 2 := by kernel_rfl
@[simp] theorem Tryz.siz435 : Aw.sizeA Tryz.prog 435 = some 2 := by kernel_rfl
@[simp] theorem Tryz.zer435 : Aw.zeroA Tryz.prog 435 = some [.int .u8 0, .int .u8 0] := by kernel_rfl
@[simp] theorem Tryz.zsz435 : Aw.zeroSz Tryz.prog 435 2 = true := by kernel_rfl
@[simp] theorem Tryz.fld435_0 : Aw.fieldA Tryz.prog 435 0 = some 0 := by kernel_rfl
@[simp] theorem Tryz.fld435_1 : Aw.fieldA Tryz.prog 435 1 = some 1 := by kernel_rfl
@[simp] theorem Tryz.plc435 : Aw.placesA Tryz.prog 435 = some [(0, 1), (1, 1)] := by kernel_rfl
@[simp] theorem Tryz.agg447 : Aw.aggSize Tryz.prog 447 = some 1 := by kernel_rfl
@[simp] theorem Tryz.siz447 : Aw.sizeA Tryz.prog 447 = some 1 := by kernel_rfl
@[simp] theorem Tryz.zer447 : Aw.zeroA Tryz.prog 447 = some [.str []] := by kernel_rfl
@[simp] theorem Tryz.zsz447 : Aw.zeroSz Tryz.prog 447 1 = true := by kernel_rfl
@[simp] theorem Tryz.fld447_0 : Aw.fieldA Tryz.prog 447 0 = some 0 := by kernel_rfl
@[simp] theorem Tryz.plc447 : Aw.placesA Tryz.prog 447 = some [(0, 1)] := by kernel_rfl
@[simp] theorem Tryz.agg464 : Aw.aggSize Tryz.prog 464 = some 257 := by kernel_rfl
@[simp] theorem Tryz.siz464 : Aw.sizeA Tryz.prog 464 = some 257 := by kernel_rfl
@[simp] theorem Tryz.zer464 : Aw.zeroA Tryz.prog 464 = some [.sl .own 1 [], .sl .own 1 [], .sl .own 1 [], .sl .own 1 [], .sl .own 1 [], .sl .own 1 [], .sl .own 1 [], .sl .own 1 [], .sl .own 1 [], .sl .own 1 [], .sl .own 1 [], .sl .own 1 [], .sl .own 1 [], .sl .own 1 [], .sl .own 1 [], .sl .own 1 [], .sl .own 1 [], .sl .own 1 [], .sl .own 1 [], .sl .own 1 [], .sl .own 1 [], .sl .own 1 [], .sl .own 1 [], .sl .own 1 [], .sl .own 1 [], .sl .own 1 [], .sl .own 1 [], .sl .own 1 [], .sl .own 1 [], .sl .own 1 [], .sl .own 1 [], .sl .own 1 [], .sl .own 1 [], .sl .own 1 [], .sl .own 1 [], .sl .own 1 [], .sl .own 1 [], .sl .own 1 [], .sl .own 1 [], .sl .own 1 [], .sl .own 1 [], .sl .own 1 [], .sl .own 1 [], .sl .own 1 [], .sl .own 1 [], .sl .own 1 [], .sl .own 1 [], .sl .own 1 [], .sl .own 1 [], .sl .own 1 [], .sl .own 1 [], .sl .own 1 [], .sl .own 1 [], .sl .own 1 [], .sl .own 1 [], .sl .own 1 [], .sl .own 1 [], .sl .own 1 [], .sl .own 1 [], .sl .own 1 [], .sl .own 1 [], .sl .own 1 [], .sl .own 1 [], .sl .own 1 [], .sl .own 1 [], .sl .own 1 [], .sl .own 1 [], .sl .own 1 [], .sl .own 1 [], .sl .own 1 [], .sl .own 1 [], .sl .own 1 [], .sl .own 1 [], .sl .own 1 [], .sl .own 1 [], .sl .own 1 [], .sl .own 1 [], .sl .own 1 [], .sl .own 1 [], .sl .own 1 [], .sl .own 1 [], .sl .own 1 [], .sl .own 1 [], .sl .own 1 [], .sl .own 1 [], .sl .own 1 [], .sl .own 1 [], .sl .own 1 [], .sl .own 1 [], .sl .own 1 [], .sl .own 1 [], .sl .own 1 [], .sl .own 1 [], .sl .own 1 [], .sl .own 1 [], .sl .own 1 [], .sl .own 1 [], .sl .own 1 [], .sl .own 1 [], .sl .own 1 [], .sl .own 1 [], .sl .own 1 [], .sl .own 1 [], .sl .own 1 [], .sl .own 1 [], .sl .own 1 [], .sl .own 1 [], .sl .own 1 [], .sl .own 1 [], .sl .own 1 [], .sl .own 1 [], .sl .own 1 [], .sl .own 1 [], .sl .own 1 [], .sl .own 1 [], .sl .own 1 [], .sl .own 1 [], .sl .own 1 [], .sl .own 1 [], .sl .own 1 [], .sl .own 1 [], .sl .own 1 [], .sl .own 1 [], .sl .own 1 [], .sl .own 1 [], .sl .own 1 [], .sl .own 1 [], .sl .own 1 [], .sl .own 1 [], .sl .own 1 [], .sl .own 1 [], .sl .own 1 [], .sl .own 1 [], .sl .own 1 [], .sl .own 1 [], .sl .own 1 [], .sl .own 1 [], .sl .own 1 [], .sl .own 1 [], .sl .own 1 [], .sl .own 1 [], .sl .own 1 [], .sl .own 1 [], .sl .own 1 [], .sl .own 1 [], .sl .own 1 [], .sl .own 1 [], .sl .own 1 [], .sl .own 1 [], .sl .own 1 [], .sl .own 1 [], .sl .own 1 [], .sl .own 1 [], .sl .own 1 [], .sl .own 1 [], .sl .own 1 [], .sl .own 1 [], .sl .own 1 [], .sl .own 1 [], .sl .own 1 [], .sl .own 1 [], .sl .own 1 [], .sl .own 1 [], .sl .own 1 [], .sl .own 1 [], .sl .own 1 [], .sl .own 1 [], .sl .own 1 [], .sl .own 1 [], .sl .own 1 [], .sl .own 1 [], .sl .own 1 [], .sl .own 1 [], .sl .own 1 [], .sl .own 1 [], .sl .own 1 [], .sl .own 1 [], .sl .own 1 [], .sl .own 1 [], .sl .own 1 [], .sl .own 1 [], .sl .own 1 [], .sl .own 1 [], .sl .own 1 [], .sl .own 1 [], .sl .own 1 [], .sl .own 1 [], .sl .own 1 [], .sl .own 1 [], .sl .own 1 [], .sl .own 1 [], .sl .own 1 [], .sl .own 1 [], .sl .own 1 [], .sl .own 1 [], .sl .own 1 [], .sl .own 1 [], .sl .own 1 [], .sl .own 1 [], .sl .own 1 [], .sl .own 1 [], .sl .own 1 [], .sl .own 1 [], .sl .own 1 [], .sl .own 1 [], .sl .own 1 [], .sl .own 1 [], .sl .own 1 [], .sl .own 1 [], .sl .own 1 [], .sl .own 1 [], .sl .own 1 [], .sl .own 1 [], .sl .own 1 [], .sl .own 1 [], .sl .own 1 [], .sl .own 1 [], .sl .own 1 [], .sl .own 1 [], .sl .own 1 [], .sl .own 1 [], .sl .own 1 [], .sl .own 1 [], .sl .own 1 [], .sl .own 1 [], .sl .own 1 [], .sl .own 1 [], .sl .own 1 [], .sl .own 1 [], .sl .own 1 [], .sl .own 1 [], .sl .own 1 [], .sl .own 1 [], .sl .own 1 [], .sl .own 1 [], .sl .own 1 [], .sl .own 1 [], .sl .own 1 [], .sl .own 1 [], .sl .own 1 [], .sl .own 1 [], .sl .own 1 [], .sl .own 1 [], .sl .own 1 [], .sl .own 1 [], .sl .own 1 [], .sl .own 1 [], .sl .own 1 [], .sl .own 1 [], .sl .own 1 [], .sl .own 1 [], .sl .own 1 [], .sl .own 1 [], .sl .own 1 [], .sl .own 1 [], .sl .own 1 [], .sl .own 1 []] := by kernel_rfl
@[simp] theorem Tryz.zsz464 : Aw.zeroSz Tryz.prog 464 257 = true := by kernel_rfl
@[simp] theorem Tryz.fld464_0 : Aw.fieldA Tryz.prog 464 0 = some 0 := by kernel_rfl
@[simp] theorem Tryz.fld464_1 : Aw.fieldA Tryz.prog 464 1 = some 256 := by kernel_rfl
@[simp] theorem Tryz.plc464 : Aw.placesA Tryz.prog 464 = some [(0, 256), (256, 1)] := by kernel_rfl
@[simp] theorem Tryz.agg472 : Aw.aggSize Tryz.prog 472 = some 2 := by kernel_rfl
@[simp] theorem Tryz.siz472 : Aw.sizeA Tryz.prog 472 = some 2 := by kernel_rfl
@[simp] theorem Tryz.zer472 : Aw.zeroA Tryz.prog 472 = some [.undef, .str []] := by kernel_rfl
@[simp] theorem Tryz.zsz472 : Aw.zeroSz Tryz.prog 472 2 = true := by kernel_rfl
@[simp] theorem Tryz.fld472_0 : Aw.fieldA Tryz.prog 472 0 = some 0 := by kernel_rfl
@[simp] theorem Tryz.fld472_1 : Aw.fieldA Tryz.prog 472 1 = some 1 := by kernel_rfl
@[simp] theorem Tryz.agg474 : Aw.aggSize Tryz.prog 474 = none := by kernel_rfl
@[simp] theorem Tryz.one474 : Aw.oneSize Tryz.prog 474 = true := by kernel_rfl
@[simp] theorem Tryz.siz474 : Aw.sizeA Tryz.prog 474 = some 1 := by kernel_rfl
@[simp] theorem Tryz.zer474 : Aw.zeroA Tryz.prog 474 = some [.sl .own 1 []] := by kernel_rfl
@[simp] theorem Tryz.zsz474 : Aw.zeroSz Tryz.prog 474 1 = true := by kernel_rfl
@[simp] theorem Tryz.elm474 : Aw.elemA Tryz.prog 474 = some (473, 1, 8) := by kernel_rfl
@[simp] theorem Tryz.isl474 : Aw.isSlice Tryz.prog 474 = true := by kernel_rfl
@[simp] theorem Tryz.apd474 : Aw.appendable Tryz.prog 474 = true := by kernel_rfl
@[simp] theorem Tryz.agg476 : Aw.aggSize Tryz.prog 476 = some 5 := by kernel_rfl
@[simp] theorem Tryz.siz476 : Aw.sizeA Tryz.prog 476 = some 5 := by kernel_rfl
@[simp] theorem Tryz.zer476 : Aw.zeroA Tryz.prog 476 = some [.str [], .int .i64 0, .str [], .undef, .sl .own 1 []] := by kernel_rfl
@[simp] theorem Tryz.zsz476 : Aw.zeroSz Tryz.prog 476 5 = true := by kernel_rfl
@[simp] theorem Tryz.fld476_0 : Aw.fieldA Tryz.prog 476 0 = some 0 := by kernel_rfl
@[simp] theorem Tryz.fld476_1 : Aw.fieldA Tryz.prog 476 1 = some 1 := by kernel_rfl
@[simp] theorem Tryz.fld476_2 : Aw.fieldA Tryz.prog 476 2 = some 2 := by kernel_rfl
@[simp] theorem Tryz.fld476_3 : Aw.fieldA Tryz.prog 476 3 = some 3 := by kernel_rfl
@[simp] theorem Tryz.fld476_4 : Aw.fieldA Tryz.prog 476 4 = some 4 := by kernel_rfl
@[simp] theorem Tryz.agg478 : Aw.aggSize Tryz.prog 478 = some 262 := by kernel_rfl
@[simp] theorem Tryz.siz478 : Aw.sizeA Tryz.prog 478 = some 262 := by kernel_rfl
@[simp] theorem Tryz.zer478 : Aw.zeroA Tryz.prog 478 = some [.str [], .int .i64 0, .str [], .undef, .sl .own 1 [], .int .i64 0, .int .u8 0, .int .u8 0, .int .u8 0, .int .u8 0, .int .u8 0, .int .u8 0, .int .u8 0, .int .u8 0, .int .u8 0, .int .u8 0, .int .u8 0, .int .u8 0, .int .u8 0, .int .u8 0, .int .u8 0, .int .u8 0, .int .u8 0, .int .u8 0, .int .u8 0, .int .u8 0, .int .u8 0, .int .u8 0, .int .u8 0, .int .u8 0, .int .u8 0, .int .u8 0, .int .u8 0, .int .u8 0, .int .u8 0, .int .u8 0, .int .u8 0, .int .u8 0, .int .u8 0, .int .u8 0, .int .u8 0, .int .u8 0, .int .u8 0, .int .u8 0, .int .u8 0, .int .u8 0, .int .u8 0, .int .u8 0, .int .u8 0, .int .u8 0, .int .u8 0, .int .u8 0, .int .u8 0, .int .u8 0, .int .u8 0, .int .u8 0, .int .u8 0, .int .u8 0, .int .u8 0, .int .u8 0, .int .u8 0, .int .u8 0, .int .u8 0, .int .u8 0, .int .u8 0, .int .u8 0, .int .u8 0, .int .u8 0, .int .u8 0, .int .u8 0, .int .u8 0, .int .u8 0, .int .u8 0, .int .u8 0, .int .u8 0, .int .u8 0, .int .u8 0, .int .u8 0, .int .u8 0, .int .u8 0, .int .u8 0, .int .u8 0, .int .u8 0, .int .u8 0, .int .u8 0, .int .u8 0, .int .u8 0, .int .u8 0, .int .u8 0, .int .u8 0, .int .u8 0, .int .u8 0, .int .u8 0, .int .u8 0, .int .u8 0, .int .u8 0, .int .u8 0, .int .u8 0, .int .u8 0, .int .u8 0, .int .u8 0, .int .u8 0, .int .u8 0, .int .u8 0, .int .u8 0, .int .u8 0, .int .u8 0, .int .u8 0, .int .u8 0, .int .u8 0, .int .u8 0, .int .u8 0, .int .u8 0, .int .u8 0, .int .u8 0, .int .u8 0, .int .u8 0, .int .u8 0, .int .u8 0, .int .u8 0, .int .u8 0, .int .u8 0, .int .u8 0, .int .u8 0, .int .u8 0, .int .u8 0, .int .u8 0, .int .u8 0, .int .u8 0, .int .u8 0, .int .u8 0, .int .u8 0, .int .u8 0, .int .u8 0, .int .u8 0, .int .u8 0, .int .u8 0, .int .u8 0, .int .u8 0, .int .u8 0, .int .u8 0, .int .u8 0, .int .u8 0, .int .u8 0, .int .u8 0, .int .u8 0, .int .u8 0, .int .u8 0, .int .u8 0, .int .u8 0, .int .u8 0, .int .u8 0, .int .u8 0, .int .u8 0, .int .u8 0, .int .u8 0, .int .u8 0, .int .u8 0, .int .u8 0, .int .u8 0, .int .u8 0, .int .u8 0, .int .u8 0, .int .u8 0, .int .u8 0, .int .u8 0, .int .u8 0, .int .u8 0, .int .u8 0, .int .u8 0, .int .u8 0, .int .u8 0, .int .u8 0, .int .u8 0, .int .u8 0, .int .u8 0, .int .u8 0, .int .u8 0, .int .u8 0, .int .u8 0, .int .u8 0, .int .u8 0, .int .u8 0, .int .u8 0, .int .u8 0, .int .u8 0, .int .u8 0, .int .u8 0, .int .u8 0, .int .u8 0, .int .u8 0, .int .u8 0, .int .u8 0, .int .u8 0, .int .u8 0, .int .u8 0, .int .u8 0, .int .u8 0, .int .u8 0, .int .u8 0, .int .u8 0, .int .u8 0, .int .u8 0, .int .u8 0, .int .u8 0, .int .u8 0, .int .u8 0, .int .u8 0, .int .u8 0, .int .u8 0, .int .u8 0, .int .u8 0, .int .u8 0, .int .u8 0, .int .u8 0, .int .u8 0, .int .u8 0, .int .u8 0, .int .u8 0, .int .u8 0, .int .u8 0, .int .u8 0, .int .u8 0, .int .u8 0, .int .u8 0, .int .u8 0, .int .u8 0, .int .u8 0, .int .u8 0, .int .u8 0, .int .u8 0, .int .u8 0, .int .u8 0, .int .u8 0, .int .u8 0, .int .u8 0, .int .u8 0, .int .u8 0, .int .u8 0, .int .u8 0, .int .u8 0, .int .u8 0, .int .u8 0, .int .u8 0, .int .u8 0, .int .u8 0, .int .u8 0, .int .u8 0, .int .u8 0, .int .u8 0, .int .u8 0, .int .u8 0, .int .u8 0, .int .u8 0, .int .u8 0, .int .u8 0, .int .u8 0, .int .u8 0, .int .u8 0, .int .u8 0, .int .u8 0, .int .u8 0] := by kernel_rfl
@[simp] theorem Tryz.zsz478 : Aw.zeroSz Tryz.prog 478 262 = true := by kernel_rfl
@[simp] theorem Tryz.fld478_0 : Aw.fieldA Tryz.prog 478 0 = some 0 := by kernel_rfl
@[simp] theorem Tryz.fld478_1 : Aw.fieldA Tryz.prog 478 1 = some 5 := by kernel_rfl
@[simp] theorem Tryz.fld478_2 : Aw.fieldA Tryz.prog 478 2 = some 6 := by kernel_rfl
@[simp] theorem Tryz.plc478 : Aw.placesA Tryz.prog 478 = some [(0, 5), (5, 1), (6, 256)] := by kernel_rfl
@[simp] theorem Tryz.agg490 : Aw.aggSize Tryz.prog 490 = some 258 := by kernel_rfl
@[simp] theorem Tryz.siz490 : Aw.sizeA Tryz.prog 490 = some 258 := by kernel_rfl
@[simp] theorem Tryz.zer490 : Aw.zeroA Tryz.prog 490 = some [.str [], .int .i64 0, .int .i64 0, .int .i64 0, .int .i64 0, .int .i64 0, .int .i64 0, .int .i64 0, .int .i64 0, .int .i64 0, .int .i64 0, .int .i64 0, .int .i64 0, .int .i64 0, .int .i64 0, .int .i64 0, .int .i64 0, .int .i64 0, .int .i64 0, .int .i64 0, .int .i64 0, .int .i64 0, .int .i64 0, .int .i64 0, .int .i64 0, .int .i64 0, .int .i64 0, .int .i64 0, .int .i64 0, .int .i64 0, .int .i64 0, .int .i64 0, .int .i64 0, .int .i64 0, .int .i64 0, .int .i64 0, .int .i64 0, .int .i64 0, .int .i64 0, .int .i64 0, .int .i64 0, .int .i64 0, .int .i64 0, .int .i64 0, .int .i64 0, .int .i64 0, .int .i64 0, .int .i64 0, .int .i64 0, .int .i64 0, .int .i64 0, .int .i64 0, .int .i64 0, .int .i64 0, .int .i64 0, .int .i64 0, .int .i64 0, .int .i64 0, .int .i64 0, .int .i64 0, .int .i64 0, .int .i64 0, .int .i64 0, .int .i64 0, .int .i64 0, .int .i64 0, .int .i64 0, .int .i64 0, .int .i64 0, .int .i64 0, .int .i64 0, .int .i64 0, .int .i64 0, .int .i64 0, .int .i64 0, .int .i64 0, .int .i64 0, .int .i64 0, .int .i64 0, .int .i64 0, .int .i64 0, .int .i64 0, .int .i64 0, .int .i64 0, .int .i64 0, .int .i64 0, .int .i64 0, .int .i64 0, .int .i64 0, .int .i64 0, .int .i64 0, .int .i64 0, .int .i64 0, .int .i64 0, .int .i64 0, .int .i64 0, .int .i64 0, .int .i64 0, .int .i64 0, .int .i64 0, .int .i64 0, .int .i64 0, .int .i64 0, .int .i64 0, .int .i64 0, .int .i64 0, .int .i64 0, .int .i64 0, .int .i64 0, .int .i64 0, .int .i64 0, .int .i64 0, .int .i64 0, .int .i64 0, .int .i64 0, .int .i64 0, .int .i64 0, .int .i64 0, .int .i64 0, .int .i64 0, .int .i64 0, .int .i64 0, .int .i64 0, .int .i64 0, .int .i64 0, .int .i64 0, .int .i64 0, .int .i64 0, .int .i64 0, .int .i64 0, .int .i64 0, .int .i64 0, .int .i64 0, .int .i64 0, .int .i64 0, .int .i64 0, .int .i64 0, .int .i64 0, .int .i64 0, .int .i64 0, .int .i64 0, .int .i64 0, .int .i64 0, .int .i64 0, .int .i64 0, .int .i64 0, .int .i64 0, .int .i64 0, .int .i64 0, .int .i64 0, .int .i64 0, .int .i64 0, .int .i64 0, .int .i64 0, .int .i64 0, .int .i64 0, .int .i64 0, .int .i64 0, .int .i64 0, .int .i64 0, .int .i64 0, .int .i64 0, .int .i64 0, .int .i64 0, .int .i64 0, .int .i64 0, .int .i64 0, .int .i64 0, .int .i64 0, .int .i64 0, .int .i64 0, .int .i64 0, .int .i64 0, .int .i64 0, .int .i64 0, .int .i64 0, .int .i64 0, .int .i64 0, .int .i64 0, .int .i64 0, .int .i64 0, .int .i64 0, .int .i64 0, .int .i64 0, .int .i64 0, .int .i64 0, .int .i64 0, .int .i64 0, .int .i64 0, .int .i64 0, .int .i64 0, .int .i64 0, .int .i64 0, .int .i64 0, .int .i64 0, .int .i64 0, .int .i64 0, .int .i64 0, .int .i64 0, .int .i64 0, .int .i64 0, .int .i64 0, .int .i64 0, .int .i64 0, .int .i64 0, .int .i64 0, .int .i64 0, .int .i64 0, .int .i64 0, .int .i64 0, .int .i64 0, .int .i64 0, .int .i64 0, .int .i64 0, .int .i64 0, .int .i64 0, .int .i64 0, .int .i64 0, .int .i64 0, .int .i64 0, .int .i64 0, .int .i64 0, .int .i64 0, .int .i64 0, .int .i64 0, .int .i64 0, .int .i64 0, .int .i64 0, .int .i64 0, .int .i64 0, .int .i64 0, .int .i64 0, .int .i64 0, .int .i64 0, .int .i64 0, .int .i64 0, .int .i64 0, .int .i64 0, .int .i64 0, .int .i64 0, .int .i64 0, .int .i64 0, .int .i64 0, .int .i64 0, .int .i64 0, .int .i64 0, .int .i64 0, .int .i64 0, .int .i64 0, .int .i64 0, .int .i64 0, .int .i64 0, .int .i64 0, .int .i64 0, .int .i64 0, .int .i64 0, .int .i64 0, .sl .own 1 []] := by kernel_rfl
@[simp] theorem Tryz.zsz490 : Aw.zeroSz Tryz.prog 490 258 = true := by kernel_rfl
@[simp] theorem Tryz.fld490_0 : Aw.fieldA Tryz.prog 490 0 = some 0 := by kernel_rfl
@[simp] theorem Tryz.fld490_1 : Aw.fieldA Tryz.prog 490 1 = some 1 := by kernel_rfl
@[simp] theorem Tryz.fld490_2 : Aw.fieldA Tryz.prog 490 2 = some 257 := by kernel_rfl
@[simp] theorem Tryz.plc490 : Aw.placesA Tryz.prog 490 = some [(0, 1), (1, 256), (257, 1)] := by kernel_rfl
@[simp] theorem Tryz.agg508 : Aw.aggSize Tryz.prog 508 = none := by kernel_rfl
@[simp] theorem Tryz.one508 : Aw.oneSize Tryz.prog 508 = true := by kernel_rfl
@[simp] theorem Tryz.siz508 : Aw.sizeA Tryz.prog 508 = some 1 := by kernel_rfl
@[simp] theorem Tryz.zer508 : Aw.zeroA Tryz.prog 508 = some [.sl .own 1 []] := by kernel_rfl
@[simp] theorem Tryz.zsz508 : Aw.zeroSz Tryz.prog 508 1 = true := by kernel_rfl
@[simp] theorem Tryz.elm508 : Aw.elemA Tryz.prog 508 = some (5, 1, 1) := by kernel_rfl
@[simp] theorem Tryz.isl508 : Aw.isSlice Tryz.prog 508 = true := by kernel_rfl
@[simp] theorem Tryz.apd508 : Aw.appendable Tryz.prog 508 = true := by kernel_rfl
@[simp] theorem Tryz.agg519 : Aw.aggSize Tryz.prog 519 = some 1 := by kernel_rfl
@[simp] theorem Tryz.siz519 : Aw.sizeA Tryz.prog 519 = some 1 := by kernel_rfl
@[simp] theorem Tryz.zer519 : Aw.zeroA Tryz.prog 519 = some [.undef] := by kernel_rfl
@[simp] theorem Tryz.zsz519 : Aw.zeroSz Tryz.prog 519 1 = true := by kernel_rfl
@[simp] theorem Tryz.fld519_0 : Aw.fieldA Tryz.prog 519 0 = some 0 := by kernel_rfl
@[simp] theorem Tryz.cal3 : Aw.callable Tryz.prog 3 = true := by kernel_rfl
@[simp] theorem Tryz.cal4 : Aw.callable Tryz.prog 4 = true := by kernel_rfl
@[simp] theorem Tryz.cal5 : Aw.callable Tryz.prog 5 = true := by kernel_rfl
@[simp] theorem Tryz.cal6 : Aw.callable Tryz.prog 6 = true := by kernel_rfl
@[simp] theorem Tryz.cal7 : Aw.callable Tryz.prog 7 = true := by kernel_rfl
@[simp] theorem Tryz.cal8 : Aw.callable Tryz.prog 8 = true := by kernel_rfl
@[simp] theorem Tryz.cal9 : Aw.callable Tryz.prog 9 = true := by kernel_rfl
@[simp] theorem Tryz.cal10 : Aw.callable Tryz.prog 10 = true := by kernel_rfl
@[simp] theorem Tryz.cal11 : Aw.callable Tryz.prog 11 = true := by kernel_rfl
@[simp] theorem Tryz.cal12 : Aw.callable Tryz.prog 12 = true := by kernel_rfl
@[simp] theorem Tryz.cal13 : Aw.callable Tryz.prog 13 = true := by kernel_rfl
@[simp] theorem Tryz.cal14 : Aw.callable Tryz.prog 14 = true := by kernel_rfl
@[simp] theorem Tryz.cal15 : Aw.callable Tryz.prog 15 = true := by kernel_rfl
@[simp] theorem Tryz.cal16 : Aw.callable Tryz.prog 16 = true := by kernel_rfl
@[simp] theorem Tryz.cal17 : Aw.callable Tryz.prog 17 = true := by kernel_rfl
@[simp] theorem Tryz.cal18 : Aw.callable Tryz.prog 18 = true := by kernel_rfl
@[simp] theorem Tryz.cal19 : Aw.callable Tryz.prog 19 = true := by kernel_rfl
@[simp] theorem Tryz.cal20 : Aw.callable Tryz.prog 20 = true := by kernel_rfl
@[simp] theorem Tryz.cal21 : Aw.callable Tryz.prog 21 = true := by kernel_rfl
@[simp] theorem Tryz.cal22 : Aw.callable Tryz.prog 22 = true := by kernel_rfl
@[simp] theorem Tryz.cal23 : Aw.callable Tryz.prog 23 = true := by kernel_rfl
@[simp] theorem Tryz.cal24 : Aw.callable Tryz.prog 24 = true := by kernel_rfl
@[simp] theorem Tryz.cal25 : Aw.callable Tryz.prog 25 = true := by kernel_rfl
@[simp] theorem Tryz.cal26 : Aw.callable Tryz.prog 26 = true := by kernel_rfl
@[simp] theorem Tryz.cal27 : Aw.callable Tryz.prog 27 = true := by kernel_rfl
@[simp] theorem Tryz.cal28 : Aw.callable Tryz.prog 28 = true := by kernel_rfl
@[simp] theorem Tryz.cal29 : Aw.callable Tryz.prog 29 = true := by kernel_rfl
@[simp] theorem Tryz.cal30 : Aw.callable Tryz.prog 30 = true := by kernel_rfl
@[simp] theorem Tryz.cal31 : Aw.callable Tryz.prog 31 = true := by kernel_rfl
@[simp] theorem Tryz.cal32 : Aw.callable Tryz.prog 32 = true := by kernel_rfl
@[simp] theorem Tryz.cal33 : Aw.callable Tryz.prog 33 = true := by kernel_rfl
@[simp] theorem Tryz.cal34 : Aw.callable Tryz.prog 34 = true := by kernel_rfl
@[simp] theorem Tryz.cal35 : Aw.callable Tryz.prog 35 = true := by kernel_rfl
@[simp] theorem Tryz.cal36 : Aw.callable Tryz.prog 36 = true := by kernel_rfl
@[simp] theorem Tryz.cal37 : Aw.callable Tryz.prog 37 = true := by kernel_rfl
@[simp] theorem Tryz.cal38 : Aw.callable Tryz.prog 38 = true := by kernel_rfl
@[simp] theorem Tryz.cal39 : Aw.callable Tryz.prog 39 = true := by kernel_rfl
@[simp] theorem Tryz.cal40 : Aw.callable Tryz.prog 40 = true := by kernel_rfl
@[simp] theorem Tryz.cal41 : Aw.callable Tryz.prog 41 = true := by kernel_rfl
@[simp] theorem Tryz.cal42 : Aw.callable Tryz.prog 42 = true := by kernel_rfl
@[simp] theorem Tryz.cal43 : Aw.callable Tryz.prog 43 = true := by kernel_rfl
@[simp] theorem Tryz.cal44 : Aw.callable Tryz.prog 44 = true := by kernel_rfl
@[simp] theorem Tryz.cal45 : Aw.callable Tryz.prog 45 = true := by kernel_rfl
@[simp] theorem Tryz.cal46 : Aw.callable Tryz.prog 46 = true := by kernel_rfl
@[simp] theorem Tryz.cal47 : Aw.callable Tryz.prog 47 = true := by kernel_rfl
@[simp] theorem Tryz.cal48 : Aw.callable Tryz.prog 48 = true := by kernel_rfl
@[simp] theorem Tryz.cal49 : Aw.callable Tryz.prog 49 = true := by kernel_rfl
@[simp] theorem Tryz.cal50 : Aw.callable Tryz.prog 50 = true := by kernel_rfl
@[simp] theorem Tryz.cal51 : Aw.callable Tryz.prog 51 = true := by kernel_rfl
@[simp] theorem Tryz.cal52 : Aw.callable Tryz.prog 52 = true := by kernel_rfl
@[simp] theorem Tryz.cal53 : Aw.callable Tryz.prog 53 = true := by kernel_rfl
@[simp] theorem Tryz.cal54 : Aw.callable Tryz.prog 54 = true := by kernel_rfl
@[simp] theorem Tryz.cal55 : Aw.callable Tryz.prog 55 = true := by kernel_rfl
@[simp] theorem Tryz.cal56 : Aw.callable Tryz.prog 56 = true := by kernel_rfl
@[simp] theorem Tryz.cal57 : Aw.callable Tryz.prog 57 = true := by kernel_rfl
@[simp] theorem Tryz.cal58 : Aw.callable Tryz.prog 58 = true := by kernel_rfl
@[simp] theorem Tryz.cal59 : Aw.callable Tryz.prog 59 = true := by kernel_rfl
@[simp] theorem Tryz.cal60 : Aw.callable Tryz.prog 60 = true := by kernel_rfl
@[simp] theorem Tryz.cal61 : Aw.callable Tryz.prog 61 = true := by kernel_rfl
@[simp] theorem Tryz.cal62 : Aw.callable Tryz.prog 62 = true := by kernel_rfl
@[simp] theorem Tryz.cal63 : Aw.callable Tryz.prog 63 = true := by kernel_rfl
@[simp] theorem Tryz.cal64 : Aw.callable Tryz.prog 64 = true := by kernel_rfl
@[simp] theorem Tryz.cal65 : Aw.callable Tryz.prog 65 = true := by kernel_rfl
@[simp] theorem Tryz.cal66 : Aw.callable Tryz.prog 66 = true := by kernel_rfl
@[simp] theorem Tryz.cal67 : Aw.callable Tryz.prog 67 = true := by kernel_rfl
@[simp] theorem Tryz.cal68 : Aw.callable Tryz.prog 68 = true := by kernel_rfl
@[simp] theorem Tryz.cal69 : Aw.callable Tryz.prog 69 = true := by kernel_rfl
@[simp] theorem Tryz.cal70 : Aw.callable Tryz.prog 70 = true := by kernel_rfl
@[simp] theorem Tryz.cal71 : Aw.callable Tryz.prog 71 = true := by kernel_rfl
@[simp] theorem Tryz.cal72 : Aw.callable Tryz.prog 72 = true := by kernel_rfl
@[simp] theorem Tryz.cal73 : Aw.callable Tryz.prog 73 = true := by kernel_rfl
@[simp] theorem Tryz.cal74 : Aw.callable Tryz.prog 74 = true := by kernel_rfl
@[simp] theorem Tryz.cal75 : Aw.callable Tryz.prog 75 = true := by kernel_rfl
@[simp] theorem Tryz.cal76 : Aw.callable Tryz.prog 76 = true := by kernel_rfl
@[simp] theorem Tryz.cal77 : Aw.callable Tryz.prog 77 = true := by kernel_rfl
@[simp] theorem Tryz.cal78 : Aw.callable Tryz.prog 78 = true := by kernel_rfl
@[simp] theorem Tryz.cal79 : Aw.callable Tryz.prog 79 = true := by kernel_rfl
@[simp] theorem Tryz.cal80 : Aw.callable Tryz.prog 80 = true := by kernel_rfl
@[simp] theorem Tryz.cal81 : Aw.callable Tryz.prog 81 = true := by kernel_rfl
@[simp] theorem Tryz.cal82 : Aw.callable Tryz.prog 82 = true := by kernel_rfl
@[simp] theorem Tryz.cal83 : Aw.callable Tryz.prog 83 = true := by kernel_rfl
@[simp] theorem Tryz.cal84 : Aw.callable Tryz.prog 84 = true := by kernel_rfl
@[simp] theorem Tryz.cal85 : Aw.callable Tryz.prog 85 = true := by kernel_rfl
@[simp] theorem Tryz.cal86 : Aw.callable Tryz.prog 86 = true := by kernel_rfl
@[simp] theorem Tryz.cal87 : Aw.callable Tryz.prog 87 = true := by kernel_rfl
@[simp] theorem Tryz.cal88 : Aw.callable Tryz.prog 88 = true := by kernel_rfl
@[simp] theorem Tryz.cal89 : Aw.callable Tryz.prog 89 = true := by kernel_rfl
@[simp] theorem Tryz.cal90 : Aw.callable Tryz.prog 90 = true := by kernel_rfl
@[simp] theorem Tryz.cal91 : Aw.callable Tryz.prog 91 = true := by kernel_rfl
@[simp] theorem Tryz.cal92 : Aw.callable Tryz.prog 92 = true := by kernel_rfl
@[simp] theorem Tryz.cal93 : Aw.callable Tryz.prog 93 = true := by kernel_rfl
@[simp] theorem Tryz.cal94 : Aw.callable Tryz.prog 94 = true := by kernel_rfl
@[simp] theorem Tryz.cal95 : Aw.callable Tryz.prog 95 = true := by kernel_rfl
@[simp] theorem Tryz.cal96 : Aw.callable Tryz.prog 96 = true := by kernel_rfl
@[simp] theorem Tryz.cal97 : Aw.callable Tryz.prog 97 = true := by kernel_rfl
@[simp] theorem Tryz.cal98 : Aw.callable Tryz.prog 98 = true := by kernel_rfl
@[simp] theorem Tryz.cal99 : Aw.callable Tryz.prog 99 = true := by kernel_rfl
@[simp] theorem Tryz.cal100 : Aw.callable Tryz.prog 100 = true := by kernel_rfl
@[simp] theorem Tryz.cal101 : Aw.callable Tryz.prog 101 = true := by kernel_rfl
@[simp] theorem Tryz.cal102 : Aw.callable Tryz.prog 102 = true := by kernel_rfl
@[simp] theorem Tryz.cal103 : Aw.callable Tryz.prog 103 = true := by kernel_rfl
@[simp] theorem Tryz.cal104 : Aw.callable Tryz.prog 104 = true := by kernel_rfl
@[simp] theorem Tryz.cal105 : Aw.callable Tryz.prog 105 = true := by kernel_rfl
@[simp] theorem Tryz.cal106 : Aw.callable Tryz.prog 106 = true := by kernel_rfl
@[simp] theorem Tryz.cal107 : Aw.callable Tryz.prog 107 = true := by kernel_rfl
@[simp] theorem Tryz.cal108 : Aw.callable Tryz.prog 108 = true := by kernel_rfl
@[simp] theorem Tryz.cal109 : Aw.callable Tryz.prog 109 = true := by kernel_rfl
@[simp] theorem Tryz.cal110 : Aw.callable Tryz.prog 110 = true := by kernel_rfl
@[simp] theorem Tryz.cal111 : Aw.callable Tryz.prog 111 = true := by kernel_rfl
@[simp] theorem Tryz.cal112 : Aw.callable Tryz.prog 112 = true := by kernel_rfl
@[simp] theorem Tryz.cal113 : Aw.callable Tryz.prog 113 = true := by kernel_rfl
@[simp] theorem Tryz.cal114 : Aw.callable Tryz.prog 114 = true := by kernel_rfl
@[simp] theorem Tryz.cal115 : Aw.callable Tryz.prog 115 = true := by kernel_rfl
@[simp] theorem Tryz.cal116 : Aw.callable Tryz.prog 116 = true := by kernel_rfl
@[simp] theorem Tryz.cal117 : Aw.callable Tryz.prog 117 = true := by kernel_rfl
@[simp] theorem Tryz.cal118 : Aw.callable Tryz.prog 118 = true := by kernel_rfl
@[simp] theorem Tryz.cal119 : Aw.callable Tryz.prog 119 = true := by kernel_rfl
@[simp] theorem Tryz.cal120 : Aw.callable Tryz.prog 120 = true := by kernel_rfl
@[simp] theorem Tryz.cal121 : Aw.callable Tryz.prog 121 = true := by kernel_rfl
@[simp] theorem Tryz.cal122 : Aw.callable Tryz.prog 122 = true := by kernel_rfl
@[simp] theorem Tryz.cal123 : Aw.callable Tryz.prog 123 = true := by kernel_rfl
@[simp] theorem Tryz.cal124 : Aw.callable Tryz.prog 124 = true := by kernel_rfl
@[simp] theorem Tryz.cal125 : Aw.callable Tryz.prog 125 = true := by kernel_rfl
@[simp] theorem Tryz.cal126 : Aw.callable Tryz.prog 126 = true := by kernel_rfl
@[simp] theorem Tryz.cal127 : Aw.callable Tryz.prog 127 = true := by kernel_rfl
@[simp] theorem Tryz.cal128 : Aw.callable Tryz.prog 128 = true := by kernel_rfl
@[simp] theorem Tryz.cal129 : Aw.callable Tryz.prog 129 = true := by kernel_rfl
@[simp] theorem Tryz.cal130 : Aw.callable Tryz.prog 130 = true := by kernel_rfl
@[simp] theorem Tryz.cal131 : Aw.callable Tryz.prog 131 = true := by kernel_rfl
@[simp] theorem Tryz.cal132 : Aw.callable Tryz.prog 132 = true := by kernel_rfl
@[simp] theorem Tryz.cal133 : Aw.callable Tryz.prog 133 = true := by kernel_rfl
@[simp] theorem Tryz.cal134 : Aw.callable Tryz.prog 134 = true := by kernel_rfl
@[simp] theorem Tryz.cal135 : Aw.callable Tryz.prog 135 = true := by kernel_rfl
@[simp] theorem Tryz.cal136 : Aw.callable Tryz.prog 136 = true := by kernel_rfl
@[simp] theorem Tryz.cal137 : Aw.callable Tryz.prog 137 = true := by kernel_rfl
@[simp] theorem Tryz.cal138 : Aw.callable Tryz.prog 138 = true := by kernel_rfl
@[simp] theorem Tryz.cal139 : Aw.callable Tryz.prog 139 = true := by kernel_rfl
@[simp] theorem Tryz.cal140 : Aw.callable Tryz.prog 140 = true := by kernel_rfl
@[simp] theorem Tryz.cal141 : Aw.callable Tryz.prog 141 = true := by kernel_rfl
@[simp] theorem Tryz.cal142 : Aw.callable Tryz.prog 142 = true := by kernel_rfl
@[simp] theorem Tryz.cal143 : Aw.callable Tryz.prog 143 = true := by kernel_rfl
@[simp] theorem Tryz.cal144 : Aw.callable Tryz.prog 144 = true := by kernel_rfl
@[simp] theorem Tryz.cal145 : Aw.callable Tryz.prog 145 = true := by kernel_rfl
@[simp] theorem Tryz.cal146 : Aw.callable Tryz.prog 146 = true := by kernel_rfl
@[simp] theorem Tryz.cal147 : Aw.callable Tryz.prog 147 = true := by kernel_rfl
@[simp] theorem Tryz.cal148 : Aw.callable Tryz.prog 148 = true := by kernel_rfl
@[simp] theorem Tryz.cal149 : Aw.callable Tryz.prog 149 = true := by kernel_rfl
@[simp] theorem Tryz.cal150 : Aw.callable Tryz.prog 150 = true := by kernel_rfl
@[simp] theorem Tryz.cal151 : Aw.callable Tryz.prog 151 = true := by kernel_rfl
@[simp] theorem Tryz.cal152 : Aw.callable Tryz.prog 152 = true := by kernel_rfl
@[simp] theorem Tryz.cal153 : Aw.callable Tryz.prog 153 = true := by kernel_rfl
@[simp] theorem Tryz.cal154 : Aw.callable Tryz.prog 154 = true := by kernel_rfl
@[simp] theorem Tryz.cal155 : Aw.callable Tryz.prog 155 = true := by kernel_rfl
@[simp] theorem Tryz.cal156 : Aw.callable Tryz.prog 156 = true := by kernel_rfl
@[simp] theorem Tryz.cal157 : Aw.callable Tryz.prog 157 = true := by kernel_rfl
@[simp] theorem Tryz.cal158 : Aw.callable Tryz.prog 158 = true := by kernel_rfl
@[simp] theorem Tryz.cal159 : Aw.callable Tryz.prog 159 = true := by kernel_rfl
@[simp] theorem Tryz.cal160 : Aw.callable Tryz.prog 160 = true := by kernel_rfl
@[simp] theorem Tryz.cal161 : Aw.callable Tryz.prog 161 = true := by kernel_rfl
@[simp] theorem Tryz.cal162 : Aw.callable Tryz.prog 162 = true := by kernel_rfl
@[simp] theorem Tryz.cal163 : Aw.callable Tryz.prog 163 = true := by kernel_rfl
@[simp] theorem Tryz.cal164 : Aw.callable Tryz.prog 164 = true := by kernel_rfl
@[simp] theorem Tryz.cal165 : Aw.callable Tryz.prog 165 = true := by kernel_rfl
@[simp] theorem Tryz.cal166 : Aw.callable Tryz.prog 166 = true := by kernel_rfl
@[simp] theorem Tryz.cal167 : Aw.callable Tryz.prog 167 = true := by kernel_rfl
@[simp] theorem Tryz.cal168 : Aw.callable Tryz.prog 168 = true := by kernel_rfl
@[simp] theorem Tryz.cal169 : Aw.callable Tryz.prog 169 = true := by kernel_rfl
@[simp] theorem Tryz.cal170 : Aw.callable Tryz.prog 170 = true := by kernel_rfl
@[simp] theorem Tryz.cal171 : Aw.callable Tryz.prog 171 = true := by kernel_rfl
@[simp] theorem Tryz.cal172 : Aw.callable Tryz.prog 172 = true := by kernel_rfl
@[simp] theorem Tryz.cal173 : Aw.callable Tryz.prog 173 = true := by kernel_rfl
@[simp] theorem Tryz.cal174 : Aw.callable Tryz.prog 174 = true := by kernel_rfl
@[simp] theorem Tryz.cal175 : Aw.callable Tryz.prog 175 = true := by kernel_rfl
@[simp] theorem Tryz.cal176 : Aw.callable Tryz.prog 176 = true := by kernel_rfl
@[simp] theorem Tryz.cal177 : Aw.callable Tryz.prog 177 = true := by kernel_rfl
@[simp] theorem Tryz.cal178 : Aw.callable Tryz.prog 178 = true := by kernel_rfl
@[simp] theorem Tryz.cal179 : Aw.callable Tryz.prog 179 = true := by kernel_rfl
@[simp] theorem Tryz.cal180 : Aw.callable Tryz.prog 180 = true := by kernel_rfl
@[simp] theorem Tryz.cal181 : Aw.callable Tryz.prog 181 = true := by kernel_rfl
@[simp] theorem Tryz.cal182 : Aw.callable Tryz.prog 182 = true := by kernel_rfl
@[simp] theorem Tryz.cal183 : Aw.callable Tryz.prog 183 = true := by kernel_rfl
@[simp] theorem Tryz.cal184 : Aw.callable Tryz.prog 184 = true := by kernel_rfl
@[simp] theorem Tryz.cal185 : Aw.callable Tryz.prog 185 = true := by kernel_rfl
@[simp] theorem Tryz.cal186 : Aw.callable Tryz.prog 186 = true := by kernel_rfl
@[simp] theorem Tryz.cal187 : Aw.callable Tryz.prog 187 = true := by kernel_rfl
@[simp] theorem Tryz.cal188 : Aw.callable Tryz.prog 188 = true := by kernel_rfl
@[simp] theorem Tryz.cal189 : Aw.callable Tryz.prog 189 = true := by kernel_rfl
@[simp] theorem Tryz.cal190 : Aw.callable Tryz.prog 190 = true := by kernel_rfl
@[simp] theorem Tryz.cal191 : Aw.callable Tryz.prog 191 = true := by kernel_rfl
@[simp] theorem Tryz.cal192 : Aw.callable Tryz.prog 192 = true := by kernel_rfl
@[simp] theorem Tryz.cal193 : Aw.callable Tryz.prog 193 = true := by kernel_rfl
@[simp] theorem Tryz.cal194 : Aw.callable Tryz.prog 194 = true := by kernel_rfl
@[simp] theorem Tryz.cal195 : Aw.callable Tryz.prog 195 = true := by kernel_rfl
@[simp] theorem Tryz.cal196 : Aw.callable Tryz.prog 196 = true := by kernel_rfl
@[simp] theorem Tryz.cal197 : Aw.callable Tryz.prog 197 = true := by kernel_rfl
@[simp] theorem Tryz.cal198 : Aw.callable Tryz.prog 198 = true := by kernel_rfl
@[simp] theorem Tryz.cal199 : Aw.callable Tryz.prog 199 = true := by kernel_rfl
@[simp] theorem Tryz.cal200 : Aw.callable Tryz.prog 200 = true := by kernel_rfl
@[simp] theorem Tryz.cal201 : Aw.callable Tryz.prog 201 = true := by kernel_rfl
@[simp] theorem Tryz.cal202 : Aw.callable Tryz.prog 202 = true := by kernel_rfl
@[simp] theorem Tryz.cal203 : Aw.callable Tryz.prog 203 = true := by kernel_rfl
@[simp] theorem Tryz.cal204 : Aw.callable Tryz.prog 204 = true := by kernel_rfl
@[simp] theorem Tryz.cal205 : Aw.callable Tryz.prog 205 = true := by kernel_rfl
@[simp] theorem Tryz.cal206 : Aw.callable Tryz.prog 206 = true := by kernel_rfl
@[simp] theorem Tryz.cal207 : Aw.callable Tryz.prog 207 = true := by kernel_rfl
@[simp] theorem Tryz.cal208 : Aw.callable Tryz.prog 208 = true := by kernel_rfl
@[simp] theorem Tryz.cal209 : Aw.callable Tryz.prog 209 = true := by kernel_rfl
@[simp] theorem Tryz.cal210 : Aw.callable Tryz.prog 210 = true := by kernel_rfl
@[simp] theorem Tryz.cal211 : Aw.callable Tryz.prog 211 = true := by kernel_rfl
@[simp] theorem Tryz.cal212 : Aw.callable Tryz.prog 212 = true := by kernel_rfl
@[simp] theorem Tryz.cal213 : Aw.callable Tryz.prog 213 = true := by kernel_rfl
@[simp] theorem Tryz.cal214 : Aw.callable Tryz.prog 214 = true := by kernel_rfl
@[simp] theorem Tryz.cal215 : Aw.callable Tryz.prog 215 = true := by kernel_rfl
@[simp] theorem Tryz.cal216 : Aw.callable Tryz.prog 216 = true := by kernel_rfl
@[simp] theorem Tryz.cal217 : Aw.callable Tryz.prog 217 = true := by kernel_rfl
@[simp] theorem Tryz.cal218 : Aw.callable Tryz.prog 218 = true := by kernel_rfl
@[simp] theorem Tryz.cal219 : Aw.callable Tryz.prog 219 = true := by kernel_rfl
@[simp] theorem Tryz.cal220 : Aw.callable Tryz.prog 220 = true := by kernel_rfl
@[simp] theorem Tryz.cal221 : Aw.callable Tryz.prog 221 = true := by kernel_rfl
@[simp] theorem Tryz.cal222 : Aw.callable Tryz.prog 222 = true := by kernel_rfl
@[simp] theorem Tryz.cal223 : Aw.callable Tryz.prog 223 = true := by kernel_rfl
@[simp] theorem Tryz.cal224 : Aw.callable Tryz.prog 224 = true := by kernel_rfl
@[simp] theorem Tryz.cal225 : Aw.callable Tryz.prog 225 = true := by kernel_rfl
@[simp] theorem Tryz.cal226 : Aw.callable Tryz.prog 226 = true := by kernel_rfl
@[simp] theorem Tryz.cal227 : Aw.callable Tryz.prog 227 = true := by kernel_rfl
@[simp] theorem Tryz.cal228 : Aw.callable Tryz.prog 228 = true := by kernel_rfl
@[simp] theorem Tryz.cal229 : Aw.callable Tryz.prog 229 = true := by kernel_rfl
@[simp] theorem Tryz.cal230 : Aw.callable Tryz.prog 230 = true := by kernel_rfl
@[simp] theorem Tryz.cal231 : Aw.callable Tryz.prog 231 = true := by kernel_rfl
@[simp] theorem Tryz.cal232 : Aw.callable Tryz.prog 232 = true := by kernel_rfl
@[simp] theorem Tryz.cal233 : Aw.callable Tryz.prog 233 = true := by kernel_rfl
@[simp] theorem Tryz.cal234 : Aw.callable Tryz.prog 234 = true := by kernel_rfl
@[simp] theorem Tryz.cal235 : Aw.callable Tryz.prog 235 = true := by kernel_rfl
@[simp] theorem Tryz.cal236 : Aw.callable Tryz.prog 236 = true := by kernel_rfl
@[simp] theorem Tryz.cal237 : Aw.callable Tryz.prog 237 = true := by kernel_rfl
@[simp] theorem Tryz.cal238 : Aw.callable Tryz.prog 238 = true := by kernel_rfl
@[simp] theorem Tryz.cal239 : Aw.callable Tryz.prog 239 = true := by kernel_rfl
@[simp] theorem Tryz.cal240 : Aw.callable Tryz.prog 240 = true := by kernel_rfl
@[simp] theorem Tryz.cal241 : Aw.callable Tryz.prog 241 = true := by kernel_rfl
@[simp] theorem Tryz.cal242 : Aw.callable Tryz.prog 242 = true := by kernel_rfl
@[simp] theorem Tryz.cal243 : Aw.callable Tryz.prog 243 = true := by kernel_rfl
@[simp] theorem Tryz.cal244 : Aw.callable Tryz.prog 244 = true := by kernel_rfl
@[simp] theorem Tryz.cal245 : Aw.callable Tryz.prog 245 = true := by kernel_rfl
@[simp] theorem Tryz.cal246 : Aw.callable Tryz.prog 246 = true := by kernel_rfl
@[simp] theorem Tryz.cal247 : Aw.callable Tryz.prog 247 = true := by kernel_rfl
@[simp] theorem Tryz.cal248 : Aw.callable Tryz.prog 248 = true := by kernel_rfl
@[simp] theorem Tryz.cal249 : Aw.callable Tryz.prog 249 = true := by kernel_rfl
@[simp] theorem Tryz.cal250 : Aw.callable Tryz.prog 250 = true := by kernel_rfl
@[simp] theorem Tryz.cal251 : Aw.callable Tryz.prog 251 = true := by kernel_rfl
@[simp] theorem Tryz.cal252 : Aw.callable Tryz.prog 252 = true := by kernel_rfl
@[simp] theorem Tryz.cal253 : Aw.callable Tryz.prog 253 = true := by kernel_rfl
@[simp] theorem Tryz.cal254 : Aw.callable Tryz.prog 254 = true := by kernel_rfl
@[simp] theorem Tryz.cal255 : Aw.callable Tryz.prog 255 = true := by kernel_rfl
@[simp] theorem Tryz.cal256 : Aw.callable Tryz.prog 256 = true := by kernel_rfl
@[simp] theorem Tryz.cal257 : Aw.callable Tryz.prog 257 = true := by kernel_rfl
@[simp] theorem Tryz.cal258 : Aw.callable Tryz.prog 258 = true := by kernel_rfl
@[simp] theorem Tryz.cal259 : Aw.callable Tryz.prog 259 = true := by kernel_rfl
@[simp] theorem Tryz.cal260 : Aw.callable Tryz.prog 260 = true := by kernel_rfl
@[simp] theorem Tryz.cal261 : Aw.callable Tryz.prog 261 = true := by kernel_rfl
@[simp] theorem Tryz.cal262 : Aw.callable Tryz.prog 262 = true := by kernel_rfl
@[simp] theorem Tryz.cal263 : Aw.callable Tryz.prog 263 = true := by kernel_rfl
@[simp] theorem Tryz.cal264 : Aw.callable Tryz.prog 264 = true := by kernel_rfl
@[simp] theorem Tryz.cal265 : Aw.callable Tryz.prog 265 = true := by kernel_rfl
@[simp] theorem Tryz.cal266 : Aw.callable Tryz.prog 266 = true := by kernel_rfl
@[simp] theorem Tryz.cal267 : Aw.callable Tryz.prog 267 = true := by kernel_rfl
@[simp] theorem Tryz.cal268 : Aw.callable Tryz.prog 268 = true := by kernel_rfl
@[simp] theorem Tryz.cal269 : Aw.callable Tryz.prog 269 = true := by kernel_rfl
@[simp] theorem Tryz.cal270 : Aw.callable Tryz.prog 270 = true := by kernel_rfl
@[simp] theorem Tryz.cal271 : Aw.callable Tryz.prog 271 = true := by kernel_rfl
@[simp] theorem Tryz.cal272 : Aw.callable Tryz.prog 272 = true := by kernel_rfl
@[simp] theorem Tryz.cal273 : Aw.callable Tryz.prog 273 = true := by kernel_rfl
@[simp] theorem Tryz.cal274 : Aw.callable Tryz.prog 274 = true := by kernel_rfl
@[simp] theorem Tryz.cal275 : Aw.callable Tryz.prog 275 = true := by kernel_rfl
@[simp] theorem Tryz.cal276 : Aw.callable Tryz.prog 276 = true := by kernel_rfl
@[simp] theorem Tryz.cal277 : Aw.callable Tryz.prog 277 = true := by kernel_rfl
@[simp] theorem Tryz.cal278 : Aw.callable Tryz.prog 278 = true := by kernel_rfl
@[simp] theorem Tryz.cal279 : Aw.callable Tryz.prog 279 = true := by kernel_rfl
@[simp] theorem Tryz.cal280 : Aw.callable Tryz.prog 280 = true := by kernel_rfl
@[simp] theorem Tryz.cal281 : Aw.callable Tryz.prog 281 = true := by kernel_rfl
@[simp] theorem Tryz.cal282 : Aw.callable Tryz.prog 282 = true := by kernel_rfl
@[simp] theorem Tryz.cal283 : Aw.callable Tryz.prog 283 = true := by kernel_rfl
@[simp] theorem Tryz.cal284 : Aw.callable Tryz.prog 284 = true := by kernel_rfl
@[simp] theorem Tryz.cal285 : Aw.callable Tryz.prog 285 = true := by kernel_rfl
@[simp] theorem Tryz.cal286 : Aw.callable Tryz.prog 286 = true := by kernel_rfl
@[simp] theorem Tryz.cal287 : Aw.callable Tryz.prog 287 = true := by kernel_rfl
@[simp] theorem Tryz.cal288 : Aw.callable Tryz.prog 288 = true := by kernel_rfl
@[simp] theorem Tryz.cal289 : Aw.callable Tryz.prog 289 = true := by kernel_rfl
@[simp] theorem Tryz.cal290 : Aw.callable Tryz.prog 290 = true := by kernel_rfl
@[simp] theorem Tryz.cal291 : Aw.callable Tryz.prog 291 = true := by kernel_rfl
@[simp] theorem Tryz.cal293 : Aw.callable Tryz.prog 293 = true := by kernel_rfl
@[simp] theorem Tryz.cal294 : Aw.callable Tryz.prog 294 = true := by kernel_rfl
@[simp] theorem Tryz.cal295 : Aw.callable Tryz.prog 295 = true := by kernel_rfl
@[simp] theorem Tryz.cal296 : Aw.callable Tryz.prog 296 = true := by kernel_rfl
@[simp] theorem Tryz.cal297 : Aw.callable Tryz.prog 297 = true := by kernel_rfl
@[simp] theorem Tryz.cal298 : Aw.callable Tryz.prog 298 = true := by kernel_rfl
@[simp] theorem Tryz.cal299 : Aw.callable Tryz.prog 299 = true := by kernel_rfl
@[simp] theorem Tryz.cal300 : Aw.callable Tryz.prog 300 = true := by kernel_rfl
@[simp] theorem Tryz.cal301 : Aw.callable Tryz.prog 301 = true := by kernel_rfl
@[simp] theorem Tryz.cal302 : Aw.callable Tryz.prog 302 = true := by kernel_rfl
@[simp] theorem Tryz.cal303 : Aw.callable Tryz.prog 303 = true := by kernel_rfl
@[simp] theorem Tryz.cal304 : Aw.callable Tryz.prog 304 = true := by kernel_rfl
@[simp] theorem Tryz.cal305 : Aw.callable Tryz.prog 305 = true := by kernel_rfl
@[simp] theorem Tryz.cal306 : Aw.callable Tryz.prog 306 = true := by kernel_rfl
@[simp] theorem Tryz.cal307 : Aw.callable Tryz.prog 307 = true := by kernel_rfl
@[simp] theorem Tryz.cal308 : Aw.callable Tryz.prog 308 = true := by kernel_rfl
@[simp] theorem Tryz.cal309 : Aw.callable Tryz.prog 309 = true := by kernel_rfl
@[simp] theorem Tryz.cal310 : Aw.callable Tryz.prog 310 = true := by kernel_rfl
@[simp] theorem Tryz.cal311 : Aw.callable Tryz.prog 311 = true := by kernel_rfl
@[simp] theorem Tryz.cal312 : Aw.callable Tryz.prog 312 = true := by kernel_rfl
@[simp] theorem Tryz.cal313 : Aw.callable Tryz.prog 313 = true := by kernel_rfl
@[simp] theorem Tryz.cal314 : Aw.callable Tryz.prog 314 = true := by kernel_rfl
@[simp] theorem Tryz.cal315 : Aw.callable Tryz.prog 315 = true := by kernel_rfl
@[simp] theorem Tryz.cal316 : Aw.callable Tryz.prog 316 = true := by kernel_rfl
@[simp] theorem Tryz.cal317 : Aw.callable Tryz.prog 317 = true := by kernel_rfl
@[simp] theorem Tryz.cal318 : Aw.callable Tryz.prog 318 = true := by kernel_rfl
@[simp] theorem Tryz.cal319 : Aw.callable Tryz.prog 319 = true := by kernel_rfl
@[simp] theorem Tryz.cal320 : Aw.callable Tryz.prog 320 = true := by kernel_rfl
@[simp] theorem Tryz.cal321 : Aw.callable Tryz.prog 321 = true := by kernel_rfl
@[simp] theorem Tryz.cal322 : Aw.callable Tryz.prog 322 = true := by kernel_rfl
@[simp] theorem Tryz.cal323 : Aw.callable Tryz.prog 323 = true := by kernel_rfl
@[simp] theorem Tryz.cal324 : Aw.callable Tryz.prog 324 = true := by kernel_rfl
@[simp] theorem Tryz.cal325 : Aw.callable Tryz.prog 325 = true := by kernel_rfl
@[simp] theorem Tryz.cal326 : Aw.callable Tryz.prog 326 = true := by kernel_rfl
@[simp] theorem Tryz.cal327 : Aw.callable Tryz.prog 327 = true := by kernel_rfl
@[simp] theorem Tryz.cal328 : Aw.callable Tryz.prog 328 = true := by kernel_rfl
@[simp] theorem Tryz.cal329 : Aw.callable Tryz.prog 329 = true := by kernel_rfl
@[simp] theorem Tryz.cal330 : Aw.callable Tryz.prog 330 = true := by kernel_rfl
@[simp] theorem Tryz.cal331 : Aw.callable Tryz.prog 331 = true := by kernel_rfl
@[simp] theorem Tryz.cal332 : Aw.callable Tryz.prog 332 = true := by kernel_rfl
@[simp] theorem Tryz.cal333 : Aw.callable Tryz.prog 333 = true := by kernel_rfl
@[simp] theorem Tryz.cal334 : Aw.callable Tryz.prog 334 = true := by kernel_rfl
@[simp] theorem Tryz.cal335 : Aw.callable Tryz.prog 335 = true := by kernel_rfl
@[simp] theorem Tryz.cal336 : Aw.callable Tryz.prog 336 = true := by kernel_rfl
@[simp] theorem Tryz.cal337 : Aw.callable Tryz.prog 337 = true := by kernel_rfl
@[simp] theorem Tryz.cal338 : Aw.callable Tryz.prog 338 = true := by kernel_rfl
@[simp] theorem Tryz.cal339 : Aw.callable Tryz.prog 339 = true := by kernel_rfl
@[simp] theorem Tryz.cal340 : Aw.callable Tryz.prog 340 = true := by kernel_rfl
@[simp] theorem Tryz.cal341 : Aw.callable Tryz.prog 341 = true := by kernel_rfl
@[simp] theorem Tryz.cal342 : Aw.callable Tryz.prog 342 = true := by kernel_rfl
@[simp] theorem Tryz.cal343 : Aw.callable Tryz.prog 343 = true := by kernel_rfl
@[simp] theorem Tryz.cal344 : Aw.callable Tryz.prog 344 = true := by kernel_rfl
@[simp] theorem Tryz.cal345 : Aw.callable Tryz.prog 345 = true := by kernel_rfl
@[simp] theorem Tryz.cal346 : Aw.callable Tryz.prog 346 = true := by kernel_rfl
@[simp] theorem Tryz.cal347 : Aw.callable Tryz.prog 347 = true := by kernel_rfl
@[simp] theorem Tryz.cal348 : Aw.callable Tryz.prog 348 = true := by kernel_rfl
@[simp] theorem Tryz.cal349 : Aw.callable Tryz.prog 349 = true := by kernel_rfl
@[simp] theorem Tryz.cal350 : Aw.callable Tryz.prog 350 = true := by kernel_rfl
@[simp] theorem Tryz.cal351 : Aw.callable Tryz.prog 351 = true := by kernel_rfl
@[simp] theorem Tryz.cal352 : Aw.callable Tryz.prog 352 = true := by kernel_rfl
@[simp] theorem Tryz.cal353 : Aw.callable Tryz.prog 353 = true := by kernel_rfl
@[simp] theorem Tryz.cal354 : Aw.callable Tryz.prog 354 = true := by kernel_rfl
@[simp] theorem Tryz.cal355 : Aw.callable Tryz.prog 355 = true := by kernel_rfl
@[simp] theorem Tryz.cal356 : Aw.callable Tryz.prog 356 = true := by kernel_rfl
@[simp] theorem Tryz.cal357 : Aw.callable Tryz.prog 357 = true := by kernel_rfl
@[simp] theorem Tryz.cal358 : Aw.callable Tryz.prog 358 = true := by kernel_rfl
@[simp] theorem Tryz.cal359 : Aw.callable Tryz.prog 359 = true := by kernel_rfl
@[simp] theorem Tryz.cal360 : Aw.callable Tryz.prog 360 = true := by kernel_rfl
@[simp] theorem Tryz.cal361 : Aw.callable Tryz.prog 361 = true := by kernel_rfl
@[simp] theorem Tryz.cal362 : Aw.callable Tryz.prog 362 = true := by kernel_rfl
@[simp] theorem Tryz.cal363 : Aw.callable Tryz.prog 363 = true := by kernel_rfl
@[simp] theorem Tryz.cal364 : Aw.callable Tryz.prog 364 = true := by kernel_rfl
@[simp] theorem Tryz.cal365 : Aw.callable Tryz.prog 365 = false := by kernel_rfl
@[simp] theorem Tryz.cal366 : Aw.callable Tryz.prog 366 = true := by kernel_rfl
@[simp] theorem Tryz.cal367 : Aw.callable Tryz.prog 367 = true := by kernel_rfl
@[simp] theorem Tryz.cal368 : Aw.callable Tryz.prog 368 = true := by kernel_rfl
@[simp] theorem Tryz.cal369 : Aw.callable Tryz.prog 369 = true := by kernel_rfl
@[simp] theorem Tryz.cal370 : Aw.callable Tryz.prog 370 = true := by kernel_rfl
@[simp] theorem Tryz.cal371 : Aw.callable Tryz.prog 371 = true := by kernel_rfl
@[simp] theorem Tryz.cal372 : Aw.callable Tryz.prog 372 = true := by kernel_rfl
@[simp] theorem Tryz.cal373 : Aw.callable Tryz.prog 373 = false := by kernel_rfl
@[simp] theorem Tryz.cal374 : Aw.callable Tryz.prog 374 = false := by kernel_rfl
@[simp] theorem Tryz.cal375 : Aw.callable Tryz.prog 375 = false := by kernel_rfl
@[simp] theorem Tryz.cal376 : Aw.callable Tryz.prog 376 = true := by kernel_rfl
@[simp] theorem Tryz.cal377 : Aw.callable Tryz.prog 377 = true := by kernel_rfl
@[simp] theorem Tryz.cal378 : Aw.callable Tryz.prog 378 = true := by kernel_rfl
@[simp] theorem Tryz.cal379 : Aw.callable Tryz.prog 379 = true := by kernel_rfl
@[simp] theorem Tryz.cal380 : Aw.callable Tryz.prog 380 = true := by kernel_rfl
@[simp] theorem Tryz.cal381 : Aw.callable Tryz.prog 381 = true := by kernel_rfl
@[simp] theorem Tryz.cal382 : Aw.callable Tryz.prog 382 = false := by kernel_rfl
@[simp] theorem Tryz.cal383 : Aw.callable Tryz.prog 383 = true := by kernel_rfl
@[simp] theorem Tryz.cal384 : Aw.callable Tryz.prog 384 = true := by kernel_rfl
@[simp] theorem Tryz.cal385 : Aw.callable Tryz.prog 385 = true := by kernel_rfl
@[simp] theorem Tryz.cal386 : Aw.callable Tryz.prog 386 = true := by kernel_rfl
@[simp] theorem Tryz.cal387 : Aw.callable Tryz.prog 387 = true := by kernel_rfl
@[simp] theorem Tryz.cal388 : Aw.callable Tryz.prog 388 = true := by kernel_rfl
@[simp] theorem Tryz.cal389 : Aw.callable Tryz.prog 389 = true := by kernel_rfl
@[simp] theorem Tryz.cal390 : Aw.callable Tryz.prog 390 = true := by kernel_rfl
@[simp] theorem Tryz.cal391 : Aw.callable Tryz.prog 391 = true := by kernel_rfl
@[simp] theorem Tryz.cal392 : Aw.callable Tryz.prog 392 = true := by kernel_rfl
@[simp] theorem Tryz.cal393 : Aw.callable Tryz.prog 393 = true := by kernel_rfl
@[simp] theorem Tryz.cal394 : Aw.callable Tryz.prog 394 = true := by kernel_rfl
@[simp] theorem Tryz.cal395 : Aw.callable Tryz.prog 395 = false := by kernel_rfl
@[simp] theorem Tryz.cal396 : Aw.callable Tryz.prog 396 = true := by kernel_rfl
@[simp] theorem Tryz.cal397 : Aw.callable Tryz.prog 397 = true := by kernel_rfl
@[simp] theorem Tryz.cal398 : Aw.callable Tryz.prog 398 = true := by kernel_rfl
@[simp] theorem Tryz.cal399 : Aw.callable Tryz.prog 399 = true := by kernel_rfl
@[simp] theorem Tryz.cal400 : Aw.callable Tryz.prog 400 = true := by kernel_rfl
@[simp] theorem Tryz.cal401 : Aw.callable Tryz.prog 401 = true := by kernel_rfl
@[simp] theorem Tryz.cal402 : Aw.callable Tryz.prog 402 = true := by kernel_rfl
@[simp] theorem Tryz.cal403 : Aw.callable Tryz.prog 403 = true := by kernel_rfl
@[simp] theorem Tryz.cal404 : Aw.callable Tryz.prog 404 = true := by kernel_rfl
@[simp] theorem Tryz.cal405 : Aw.callable Tryz.prog 405 = true := by kernel_rfl
@[simp] theorem Tryz.cal406 : Aw.callable Tryz.prog 406 = true := by kernel_rfl
@[simp] theorem Tryz.cal407 : Aw.callable Tryz.prog 407 = true := by kernel_rfl
@[simp] theorem Tryz.cal408 : Aw.callable Tryz.prog 408 = true := by kernel_rfl
@[simp] theorem Tryz.cal409 : Aw.callable Tryz.prog 409 = true := by kernel_rfl
@[simp] theorem Tryz.cal410 : Aw.callable Tryz.prog 410 = true := by kernel_rfl
@[simp] theorem Tryz.cal411 : Aw.callable Tryz.prog 411 = true := by kernel_rfl
@[simp] theorem Tryz.cal412 : Aw.callable Tryz.prog 412 = true := by kernel_rfl
@[simp] theorem Tryz.cal413 : Aw.callable Tryz.prog 413 = true := by kernel_rfl
@[simp] theorem Tryz.cal414 : Aw.callable Tryz.prog 414 = true := by kernel_rfl
@[simp] theorem Tryz.cal416 : Aw.callable Tryz.prog 416 = true := by kernel_rfl
@[simp] theorem Tryz.cal417 : Aw.callable Tryz.prog 417 = true := by kernel_rfl
@[simp] theorem Tryz.cal418 : Aw.callable Tryz.prog 418 = true := by kernel_rfl
@[simp] theorem Tryz.cal419 : Aw.callable Tryz.prog 419 = true := by kernel_rfl
@[simp] theorem Tryz.cal420 : Aw.callable Tryz.prog 420 = true := by kernel_rfl
@[simp] theorem Tryz.cal421 : Aw.callable Tryz.prog 421 = true := by kernel_rfl
@[simp] theorem Tryz.cal422 : Aw.callable Tryz.prog 422 = true := by kernel_rfl
@[simp] theorem Tryz.cal423 : Aw.callable Tryz.prog 423 = true := by kernel_rfl
@[simp] theorem Tryz.cal424 : Aw.callable Tryz.prog 424 = true := by kernel_rfl
@[simp] theorem Tryz.cal426 : Aw.callable Tryz.prog 426 = true := by kernel_rfl
@[simp] theorem Tryz.cal427 : Aw.callable Tryz.prog 427 = true := by kernel_rfl
@[simp] theorem Tryz.cal428 : Aw.callable Tryz.prog 428 = true := by kernel_rfl
@[simp] theorem Tryz.cal433 : Aw.callable Tryz.prog 433 = true := by kernel_rfl
@[simp] theorem Tryz.cal436 : Aw.callable Tryz.prog 436 = true := by kernel_rfl
@[simp] theorem Tryz.cal437 : Aw.callable Tryz.prog 437 = true := by kernel_rfl
@[simp] theorem Tryz.cal438 : Aw.callable Tryz.prog 438 = true := by kernel_rfl
@[simp] theorem Tryz.cal465 : Aw.callable Tryz.prog 465 = true := by kernel_rfl
@[simp] theorem Tryz.cal466 : Aw.callable Tryz.prog 466 = true := by kernel_rfl
@[simp] theorem Tryz.cal467 : Aw.callable Tryz.prog 467 = true := by kernel_rfl
@[simp] theorem Tryz.cal468 : Aw.callable Tryz.prog 468 = true := by kernel_rfl
@[simp] theorem Tryz.cal469 : Aw.callable Tryz.prog 469 = true := by kernel_rfl
@[simp] theorem Tryz.cal470 : Aw.callable Tryz.prog 470 = true := by kernel_rfl
@[simp] theorem Tryz.cal471 : Aw.callable Tryz.prog 471 = true := by kernel_rfl
@[simp] theorem Tryz.cal472 : Aw.callable Tryz.prog 472 = true := by kernel_rfl
@[simp] theorem Tryz.cal473 : Aw.callable Tryz.prog 473 = true := by kernel_rfl
@[simp] theorem Tryz.cal474 : Aw.callable Tryz.prog 474 = true := by kernel_rfl
@[simp] theorem Tryz.cal475 : Aw.callable Tryz.prog 475 = true := by kernel_rfl
@[simp] theorem Tryz.cal477 : Aw.callable Tryz.prog 477 = true := by kernel_rfl
@[simp] theorem Tryz.cal478 : Aw.callable Tryz.prog 478 = true := by kernel_rfl
@[simp] theorem Tryz.cal479 : Aw.callable Tryz.prog 479 = true := by kernel_rfl
@[simp] theorem Tryz.cal480 : Aw.callable Tryz.prog 480 = true := by kernel_rfl
@[simp] theorem Tryz.cal481 : Aw.callable Tryz.prog 481 = true := by kernel_rfl
end Go.Proofs.YtikabgfhklfjkaaGreatDoor
