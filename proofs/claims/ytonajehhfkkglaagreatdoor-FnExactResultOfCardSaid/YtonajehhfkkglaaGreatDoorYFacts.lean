/-
  Proved here: closed facts of the translated program: types, their sizes, results.
  No condition beyond what each statement spells out.
-/
import Derived.Test.YtonajehhfkkglaaGreatDoorProg
import Derived.Test.YtonajehhfkkglaaGreatDoorF3
import Derived.KernelRfl
set_option linter.all false
/-
  Closed facts on the translation: sizes, fields and zero values of its types; that its functions have bodies. Written by a program of ours.
-/
namespace Go.Proofs.YtonajehhfkkglaaGreatDoor
@[simp] theorem Tryz.agg2 : Aw.aggSize Tryz.prog 2 = none := by kernel_rfl
@[simp] theorem Tryz.one2 : Aw.oneSize Tryz.prog 2 = true := by kernel_rfl
@[simp] theorem Tryz.siz2 : Aw.sizeA Tryz.prog 2 = some 1 := by kernel_rfl
@[simp] theorem Tryz.zer2 : Aw.zeroA Tryz.prog 2 = some [.int .i64 0] := by kernel_rfl
@[simp] theorem Tryz.zsz2 : Aw.zeroSz Tryz.prog 2 1 = true := by kernel_rfl
@[simp] theorem Tryz.int2 : Aw.intType Tryz.prog 2 = some .i64 := by kernel_rfl
@[simp] theorem Tryz.som2 : (Tryz.prog.underlying 2).isSome = true := by kernel_rfl
@[simp] theorem Tryz.agg3 : Aw.aggSize Tryz.prog 3 = none := by kernel_rfl
@[simp] theorem Tryz.one3 : Aw.oneSize Tryz.prog 3 = true := by kernel_rfl
@[simp] theorem Tryz.siz3 : Aw.sizeA Tryz.prog 3 = some 1 := by kernel_rfl
@[simp] theorem Tryz.zer3 : Aw.zeroA Tryz.prog 3 = some [.int .i64 0] := by kernel_rfl
@[simp] theorem Tryz.zsz3 : Aw.zeroSz Tryz.prog 3 1 = true := by kernel_rfl
@[simp] theorem Tryz.int3 : Aw.intType Tryz.prog 3 = some .i64 := by kernel_rfl
@[simp] theorem Tryz.som3 : (Tryz.prog.underlying 3).isSome = true := by kernel_rfl
@[simp] theorem Tryz.agg4 : Aw.aggSize Tryz.prog 4 = none := by kernel_rfl
@[simp] theorem Tryz.one4 : Aw.oneSize Tryz.prog 4 = true := by kernel_rfl
@[simp] theorem Tryz.siz4 : Aw.sizeA Tryz.prog 4 = some 1 := by kernel_rfl
@[simp] theorem Tryz.zer4 : Aw.zeroA Tryz.prog 4 = some [.bool false] := by kernel_rfl
@[simp] theorem Tryz.zsz4 : Aw.zeroSz Tryz.prog 4 1 = true := by kernel_rfl
@[simp] theorem Tryz.bol4 : Aw.boolType Tryz.prog 4 = true := by kernel_rfl
@[simp] theorem Tryz.agg5 : Aw.aggSize Tryz.prog 5 = none := by kernel_rfl
@[simp] theorem Tryz.one5 : Aw.oneSize Tryz.prog 5 = true := by kernel_rfl
@[simp] theorem Tryz.siz5 : Aw.sizeA Tryz.prog 5 = some 1 := by kernel_rfl
@[simp] theorem Tryz.zer5 : Aw.zeroA Tryz.prog 5 = some [.int .u8 0] := by kernel_rfl
@[simp] theorem Tryz.zsz5 : Aw.zeroSz Tryz.prog 5 1 = true := by kernel_rfl
@[simp] theorem Tryz.int5 : Aw.intType Tryz.prog 5 = some .u8 := by kernel_rfl
@[simp] theorem Tryz.som5 : (Tryz.prog.underlying 5).isSome = true := by kernel_rfl
@[simp] theorem Tryz.agg9 : Aw.aggSize Tryz.prog 9 = none := by kernel_rfl
@[simp] theorem Tryz.one9 : Aw.oneSize Tryz.prog 9 = true := by kernel_rfl
@[simp] theorem Tryz.siz9 : Aw.sizeA Tryz.prog 9 = some 1 := by kernel_rfl
@[simp] theorem Tryz.zer9 : Aw.zeroA Tryz.prog 9 = some [.str []] := by kernel_rfl
@[simp] theorem Tryz.zsz9 : Aw.zeroSz Tryz.prog 9 1 = true := by kernel_rfl
@[simp] theorem Tryz.iss9 : Aw.isString Tryz.prog 9 = true := by kernel_rfl
@[simp] theorem Tryz.apd9 : Aw.appendable Tryz.prog 9 = true := by kernel_rfl
@[simp] theorem Tryz.agg12 : Aw.aggSize Tryz.prog 12 = none := by kernel_rfl
@[simp] theorem Tryz.one12 : Aw.oneSize Tryz.prog 12 = true := by kernel_rfl
@[simp] theorem Tryz.siz12 : Aw.sizeA Tryz.prog 12 = some 1 := by kernel_rfl
@[simp] theorem Tryz.zer12 : Aw.zeroA Tryz.prog 12 = some [.int .u64 0] := by kernel_rfl
@[simp] theorem Tryz.zsz12 : Aw.zeroSz Tryz.prog 12 1 = true := by kernel_rfl
@[simp] theorem Tryz.int12 : Aw.intType Tryz.prog 12 = some .u64 := by kernel_rfl
@[simp] theorem Tryz.som12 : (Tryz.prog.underlying 12).isSome = true := by kernel_rfl
@[simp] theorem Tryz.agg21 : Aw.aggSize Tryz.prog 21 = none := by kernel_rfl
@[simp] theorem Tryz.one21 : Aw.oneSize Tryz.prog 21 = true := by kernel_rfl
@[simp] theorem Tryz.siz21 : Aw.sizeA Tryz.prog 21 = some 1 := by kernel_rfl
@[simp] theorem Tryz.zer21 : Aw.zeroA Tryz.prog 21 = some [.int .i32 0] := by kernel_rfl
@[simp] theorem Tryz.zsz21 : Aw.zeroSz Tryz.prog 21 1 = true := by kernel_rfl
@[simp] theorem Tryz.int21 : Aw.intType Tryz.prog 21 = some .i32 := by kernel_rfl
@[simp] theorem Tryz.som21 : (Tryz.prog.underlying 21).isSome = true := by kernel_rfl
@[simp] theorem Tryz.agg23 : Aw.aggSize Tryz.prog 23 = some 2 := by kernel_rfl
@[simp] theorem Tryz.siz23 : Aw.sizeA Tryz.prog 23 = some 2 := by kernel_rfl
@[simp] theorem Tryz.zer23 : Aw.zeroA Tryz.prog 23 = some [.str [], .str []] := by kernel_rfl
@[simp] theorem Tryz.zsz23 : Aw.zeroSz Tryz.prog 23 2 = true := by kernel_rfl
@[simp] theorem Tryz.fld23_0 : Aw.fieldA Tryz.prog 23 0 = some 0 := by kernel_rfl
@[simp] theorem Tryz.fld23_1 : Aw.fieldA Tryz.prog 23 1 = some 1 := by kernel_rfl
@[simp] theorem Tryz.plc23 : Aw.placesA Tryz.prog 23 = some [(0, 1), (1, 1)] := by kernel_rfl
@[simp] theorem Tryz.agg24 : Aw.aggSize Tryz.prog 24 = none := by kernel_rfl
@[simp] theorem Tryz.one24 : Aw.oneSize Tryz.prog 24 = true := by kernel_rfl
@[simp] theorem Tryz.siz24 : Aw.sizeA Tryz.prog 24 = some 1 := by kernel_rfl
@[simp] theorem Tryz.zer24 : Aw.zeroA Tryz.prog 24 = some [.sl .own 1 []] := by kernel_rfl
@[simp] theorem Tryz.zsz24 : Aw.zeroSz Tryz.prog 24 1 = true := by kernel_rfl
@[simp] theorem Tryz.elm24 : Aw.elemA Tryz.prog 24 = some (9, 1, 16) := by kernel_rfl
@[simp] theorem Tryz.isl24 : Aw.isSlice Tryz.prog 24 = true := by kernel_rfl
@[simp] theorem Tryz.apd24 : Aw.appendable Tryz.prog 24 = true := by kernel_rfl
@[simp] theorem Tryz.agg26 : Aw.aggSize Tryz.prog 26 = some 5 := by kernel_rfl
@[simp] theorem Tryz.siz26 : Aw.sizeA Tryz.prog 26 = some 5 := by kernel_rfl
@[simp] theorem Tryz.zer26 : Aw.zeroA Tryz.prog 26 = some [.bool false, .sl .own 1 [], .sl .own 1 [], .sl .own 1 [], .str []] := by kernel_rfl
@[simp] theorem Tryz.zsz26 : Aw.zeroSz Tryz.prog 26 5 = true := by kernel_rfl
@[simp] theorem Tryz.fld26_0 : Aw.fieldA Tryz.prog 26 0 = some 0 := by kernel_rfl
@[simp] theorem Tryz.fld26_1 : Aw.fieldA Tryz.prog 26 1 = some 1 := by kernel_rfl
@[simp] theorem Tryz.fld26_2 : Aw.fieldA Tryz.prog 26 2 = some 2 := by kernel_rfl
@[simp] theorem Tryz.fld26_3 : Aw.fieldA Tryz.prog 26 3 = some 3 := by kernel_rfl
@[simp] theorem Tryz.fld26_4 : Aw.fieldA Tryz.prog 26 4 = some 4 := by kernel_rfl
@[simp] theorem Tryz.plc26 : Aw.placesA Tryz.prog 26 = some [(0, 1), (1, 1), (2, 1), (3, 1), (4, 1)] := by kernel_rfl
@[simp] theorem Tryz.agg28 : Aw.aggSize Tryz.prog 28 = some 1 := by kernel_rfl
@[simp] theorem Tryz.siz28 : Aw.sizeA Tryz.prog 28 = some 1 := by kernel_rfl
@[simp] theorem Tryz.zer28 : Aw.zeroA Tryz.prog 28 = some [.str []] := by kernel_rfl
@[simp] theorem Tryz.zsz28 : Aw.zeroSz Tryz.prog 28 1 = true := by kernel_rfl
@[simp] theorem Tryz.fld28_0 : Aw.fieldA Tryz.prog 28 0 = some 0 := by kernel_rfl
@[simp] theorem Tryz.plc28 : Aw.placesA Tryz.prog 28 = some [(0, 1)] := by kernel_rfl
@[simp] theorem Tryz.agg29 : Aw.aggSize Tryz.prog 29 = none := by kernel_rfl
@[simp] theorem Tryz.one29 : Aw.oneSize Tryz.prog 29 = true := by kernel_rfl
@[simp] theorem Tryz.siz29 : Aw.sizeA Tryz.prog 29 = some 1 := by kernel_rfl
@[simp] theorem Tryz.zer29 : Aw.zeroA Tryz.prog 29 = some [.sl .own 4 []] := by kernel_rfl
@[simp] theorem Tryz.zsz29 : Aw.zeroSz Tryz.prog 29 1 = true := by kernel_rfl
@[simp] theorem Tryz.elm29 : Aw.elemA Tryz.prog 29 = some (107, 4, 64) := by kernel_rfl
@[simp] theorem Tryz.isl29 : Aw.isSlice Tryz.prog 29 = true := by kernel_rfl
@[simp] theorem Tryz.apd29 : Aw.appendable Tryz.prog 29 = true := by kernel_rfl
@[simp] theorem Tryz.agg30 : Aw.aggSize Tryz.prog 30 = none := by kernel_rfl
@[simp] theorem Tryz.one30 : Aw.oneSize Tryz.prog 30 = true := by kernel_rfl
@[simp] theorem Tryz.siz30 : Aw.sizeA Tryz.prog 30 = some 1 := by kernel_rfl
@[simp] theorem Tryz.zer30 : Aw.zeroA Tryz.prog 30 = some [.sl .own 4 []] := by kernel_rfl
@[simp] theorem Tryz.zsz30 : Aw.zeroSz Tryz.prog 30 1 = true := by kernel_rfl
@[simp] theorem Tryz.elm30 : Aw.elemA Tryz.prog 30 = some (151, 4, 64) := by kernel_rfl
@[simp] theorem Tryz.isl30 : Aw.isSlice Tryz.prog 30 = true := by kernel_rfl
@[simp] theorem Tryz.apd30 : Aw.appendable Tryz.prog 30 = true := by kernel_rfl
@[simp] theorem Tryz.agg31 : Aw.aggSize Tryz.prog 31 = none := by kernel_rfl
@[simp] theorem Tryz.one31 : Aw.oneSize Tryz.prog 31 = true := by kernel_rfl
@[simp] theorem Tryz.siz31 : Aw.sizeA Tryz.prog 31 = some 1 := by kernel_rfl
@[simp] theorem Tryz.zer31 : Aw.zeroA Tryz.prog 31 = some [.sl .own 1 []] := by kernel_rfl
@[simp] theorem Tryz.zsz31 : Aw.zeroSz Tryz.prog 31 1 = true := by kernel_rfl
@[simp] theorem Tryz.elm31 : Aw.elemA Tryz.prog 31 = some (3, 1, 8) := by kernel_rfl
@[simp] theorem Tryz.isl31 : Aw.isSlice Tryz.prog 31 = true := by kernel_rfl
@[simp] theorem Tryz.apd31 : Aw.appendable Tryz.prog 31 = true := by kernel_rfl
@[simp] theorem Tryz.agg33 : Aw.aggSize Tryz.prog 33 = some 2 := by kernel_rfl
@[simp] theorem Tryz.siz33 : Aw.sizeA Tryz.prog 33 = some 2 := by kernel_rfl
@[simp] theorem Tryz.zer33 : Aw.zeroA Tryz.prog 33 = some [.sl .own 4 [], .sl .own 1 []] := by kernel_rfl
@[simp] theorem Tryz.zsz33 : Aw.zeroSz Tryz.prog 33 2 = true := by kernel_rfl
@[simp] theorem Tryz.fld33_0 : Aw.fieldA Tryz.prog 33 0 = some 0 := by kernel_rfl
@[simp] theorem Tryz.fld33_1 : Aw.fieldA Tryz.prog 33 1 = some 1 := by kernel_rfl
@[simp] theorem Tryz.plc33 : Aw.placesA Tryz.prog 33 = some [(0, 1), (1, 1)] := by kernel_rfl
@[simp] theorem Tryz.agg34 : Aw.aggSize Tryz.prog 34 = none := by kernel_rfl
@[simp] theorem Tryz.one34 : Aw.oneSize Tryz.prog 34 = true := by kernel_rfl
@[simp] theorem Tryz.siz34 : Aw.sizeA Tryz.prog 34 = some 1 := by kernel_rfl
@[simp] theorem Tryz.zer34 : Aw.zeroA Tryz.prog 34 = some [.sl .own 8 []] := by kernel_rfl
@[simp] theorem Tryz.zsz34 : Aw.zeroSz Tryz.prog 34 1 = true := by kernel_rfl
@[simp] theorem Tryz.elm34 : Aw.elemA Tryz.prog 34 = some (112, 8, 96) := by kernel_rfl
@[simp] theorem Tryz.isl34 : Aw.isSlice Tryz.prog 34 = true := by kernel_rfl
@[simp] theorem Tryz.apd34 : Aw.appendable Tryz.prog 34 = true := by kernel_rfl
@[simp] theorem Tryz.agg35 : Aw.aggSize Tryz.prog 35 = none := by kernel_rfl
@[simp] theorem Tryz.one35 : Aw.oneSize Tryz.prog 35 = true := by kernel_rfl
@[simp] theorem Tryz.siz35 : Aw.sizeA Tryz.prog 35 = some 1 := by kernel_rfl
@[simp] theorem Tryz.zer35 : Aw.zeroA Tryz.prog 35 = some [.sl .own 5 []] := by kernel_rfl
@[simp] theorem Tryz.zsz35 : Aw.zeroSz Tryz.prog 35 1 = true := by kernel_rfl
@[simp] theorem Tryz.elm35 : Aw.elemA Tryz.prog 35 = some (115, 5, 64) := by kernel_rfl
@[simp] theorem Tryz.isl35 : Aw.isSlice Tryz.prog 35 = true := by kernel_rfl
@[simp] theorem Tryz.apd35 : Aw.appendable Tryz.prog 35 = true := by kernel_rfl
@[simp] theorem Tryz.agg36 : Aw.aggSize Tryz.prog 36 = none := by kernel_rfl
@[simp] theorem Tryz.one36 : Aw.oneSize Tryz.prog 36 = true := by kernel_rfl
@[simp] theorem Tryz.siz36 : Aw.sizeA Tryz.prog 36 = some 1 := by kernel_rfl
@[simp] theorem Tryz.zer36 : Aw.zeroA Tryz.prog 36 = some [.sl .own 2 []] := by kernel_rfl
@[simp] theorem Tryz.zsz36 : Aw.zeroSz Tryz.prog 36 1 = true := by kernel_rfl
@[simp] theorem Tryz.elm36 : Aw.elemA Tryz.prog 36 = some (23, 2, 32) := by kernel_rfl
@[simp] theorem Tryz.isl36 : Aw.isSlice Tryz.prog 36 = true := by kernel_rfl
@[simp] theorem Tryz.apd36 : Aw.appendable Tryz.prog 36 = true := by kernel_rfl
@[simp] theorem Tryz.agg38 : Aw.aggSize Tryz.prog 38 = some 22 := by kernel_rfl
@[simp] theorem Tryz.siz38 : Aw.sizeA Tryz.prog 38 = some 22 := by kernel_rfl
@[simp] theorem Tryz.zer38 : Aw.zeroA Tryz.prog 38 = some [.str [], .str [], .bool false, .sl .own 1 [], .sl .own 1 [], .sl .own 1 [], .str [], .str [], .sl .own 4 [], .bool false, .sl .own 4 [], .sl .own 1 [], .sl .own 8 [], .sl .own 5 [], .sl .own 2 [], .int .i64 0, .int .i64 0, .int .i64 0, .int .i64 0, .sl .own 2 [], .sl .own 1 [], .bool false] := by kernel_rfl
@[simp] theorem Tryz.zsz38 : Aw.zeroSz Tryz.prog 38 22 = true := by kernel_rfl
@[simp] theorem Tryz.fld38_0 : Aw.fieldA Tryz.prog 38 0 = some 0 := by kernel_rfl
@[simp] theorem Tryz.fld38_1 : Aw.fieldA Tryz.prog 38 1 = some 2 := by kernel_rfl
@[simp] theorem Tryz.fld38_2 : Aw.fieldA Tryz.prog 38 2 = some 7 := by kernel_rfl
@[simp] theorem Tryz.fld38_3 : Aw.fieldA Tryz.prog 38 3 = some 8 := by kernel_rfl
@[simp] theorem Tryz.fld38_4 : Aw.fieldA Tryz.prog 38 4 = some 9 := by kernel_rfl
@[simp] theorem Tryz.fld38_5 : Aw.fieldA Tryz.prog 38 5 = some 10 := by kernel_rfl
@[simp] theorem Tryz.fld38_6 : Aw.fieldA Tryz.prog 38 6 = some 12 := by kernel_rfl
@[simp] theorem Tryz.fld38_7 : Aw.fieldA Tryz.prog 38 7 = some 13 := by kernel_rfl
@[simp] theorem Tryz.fld38_8 : Aw.fieldA Tryz.prog 38 8 = some 14 := by kernel_rfl
@[simp] theorem Tryz.fld38_9 : Aw.fieldA Tryz.prog 38 9 = some 15 := by kernel_rfl
@[simp] theorem Tryz.fld38_10 : Aw.fieldA Tryz.prog 38 10 = some 16 := by kernel_rfl
@[simp] theorem Tryz.fld38_11 : Aw.fieldA Tryz.prog 38 11 = some 17 := by kernel_rfl
@[simp] theorem Tryz.fld38_12 : Aw.fieldA Tryz.prog 38 12 = some 18 := by kernel_rfl
@[simp] theorem Tryz.fld38_13 : Aw.fieldA Tryz.prog 38 13 = some 19 := by kernel_rfl
@[simp] theorem Tryz.fld38_14 : Aw.fieldA Tryz.prog 38 14 = some 20 := by kernel_rfl
@[simp] theorem Tryz.fld38_15 : Aw.fieldA Tryz.prog 38 15 = some 21 := by kernel_rfl
@[simp] theorem Tryz.plc38 : Aw.placesA Tryz.prog 38 = some [(0, 2), (2, 5), (7, 1), (8, 1), (9, 1), (10, 2), (12, 1), (13, 1), (14, 1), (15, 1), (16, 1), (17, 1), (18, 1), (19, 1), (20, 1), (21, 1)] := by kernel_rfl
@[simp] theorem Tryz.agg40 : Aw.aggSize Tryz.prog 40 = none := by kernel_rfl
@[simp] theorem Tryz.one40 : Aw.oneSize Tryz.prog 40 = true := by kernel_rfl
@[simp] theorem Tryz.siz40 : Aw.sizeA Tryz.prog 40 = some 1 := by kernel_rfl
@[simp] theorem Tryz.zer40 : Aw.zeroA Tryz.prog 40 = some [.sl .own 4 []] := by kernel_rfl
@[simp] theorem Tryz.zsz40 : Aw.zeroSz Tryz.prog 40 1 = true := by kernel_rfl
@[simp] theorem Tryz.elm40 : Aw.elemA Tryz.prog 40 = some (118, 4, 64) := by kernel_rfl
@[simp] theorem Tryz.isl40 : Aw.isSlice Tryz.prog 40 = true := by kernel_rfl
@[simp] theorem Tryz.apd40 : Aw.appendable Tryz.prog 40 = true := by kernel_rfl
@[simp] theorem Tryz.agg42 : Aw.aggSize Tryz.prog 42 = some 2 := by kernel_rfl
@[simp] theorem Tryz.siz42 : Aw.sizeA Tryz.prog 42 = some 2 := by kernel_rfl
@[simp] theorem Tryz.zer42 : Aw.zeroA Tryz.prog 42 = some [.sl .own 4 [], .sl .own 1 []] := by kernel_rfl
@[simp] theorem Tryz.zsz42 : Aw.zeroSz Tryz.prog 42 2 = true := by kernel_rfl
@[simp] theorem Tryz.fld42_0 : Aw.fieldA Tryz.prog 42 0 = some 0 := by kernel_rfl
@[simp] theorem Tryz.fld42_1 : Aw.fieldA Tryz.prog 42 1 = some 1 := by kernel_rfl
@[simp] theorem Tryz.plc42 : Aw.placesA Tryz.prog 42 = some [(0, 1), (1, 1)] := by kernel_rfl
@[simp] theorem Tryz.agg43 : Aw.aggSize Tryz.prog 43 = none := by kernel_rfl
@[simp] theorem Tryz.one43 : Aw.oneSize Tryz.prog 43 = true := by kernel_rfl
@[simp] theorem Tryz.siz43 : Aw.sizeA Tryz.prog 43 = some 1 := by kernel_rfl
@[simp] theorem Tryz.zer43 : Aw.zeroA Tryz.prog 43 = some [.sl .own 2 []] := by kernel_rfl
@[simp] theorem Tryz.zsz43 : Aw.zeroSz Tryz.prog 43 1 = true := by kernel_rfl
@[simp] theorem Tryz.elm43 : Aw.elemA Tryz.prog 43 = some (127, 2, 24) := by kernel_rfl
@[simp] theorem Tryz.isl43 : Aw.isSlice Tryz.prog 43 = true := by kernel_rfl
@[simp] theorem Tryz.apd43 : Aw.appendable Tryz.prog 43 = true := by kernel_rfl
@[simp] theorem Tryz.agg45 : Aw.aggSize Tryz.prog 45 = some 1 := by kernel_rfl
@[simp] theorem Tryz.siz45 : Aw.sizeA Tryz.prog 45 = some 1 := by kernel_rfl
@[simp] theorem Tryz.zer45 : Aw.zeroA Tryz.prog 45 = some [.sl .own 2 []] := by kernel_rfl
@[simp] theorem Tryz.zsz45 : Aw.zeroSz Tryz.prog 45 1 = true := by kernel_rfl
@[simp] theorem Tryz.fld45_0 : Aw.fieldA Tryz.prog 45 0 = some 0 := by kernel_rfl
@[simp] theorem Tryz.plc45 : Aw.placesA Tryz.prog 45 = some [(0, 1)] := by kernel_rfl
@[simp] theorem Tryz.agg47 : Aw.aggSize Tryz.prog 47 = some 6 := by kernel_rfl
@[simp] theorem Tryz.siz47 : Aw.sizeA Tryz.prog 47 = some 6 := by kernel_rfl
@[simp] theorem Tryz.zer47 : Aw.zeroA Tryz.prog 47 = some [.sl .own 4 [], .sl .own 1 [], .sl .own 1 [], .sl .own 1 [], .sl .own 2 [], .bool false] := by kernel_rfl
@[simp] theorem Tryz.zsz47 : Aw.zeroSz Tryz.prog 47 6 = true := by kernel_rfl
@[simp] theorem Tryz.fld47_0 : Aw.fieldA Tryz.prog 47 0 = some 0 := by kernel_rfl
@[simp] theorem Tryz.fld47_1 : Aw.fieldA Tryz.prog 47 1 = some 2 := by kernel_rfl
@[simp] theorem Tryz.fld47_2 : Aw.fieldA Tryz.prog 47 2 = some 3 := by kernel_rfl
@[simp] theorem Tryz.fld47_3 : Aw.fieldA Tryz.prog 47 3 = some 4 := by kernel_rfl
@[simp] theorem Tryz.fld47_4 : Aw.fieldA Tryz.prog 47 4 = some 5 := by kernel_rfl
@[simp] theorem Tryz.plc47 : Aw.placesA Tryz.prog 47 = some [(0, 2), (2, 1), (3, 1), (4, 1), (5, 1)] := by kernel_rfl
@[simp] theorem Tryz.agg49 : Aw.aggSize Tryz.prog 49 = some 2 := by kernel_rfl
@[simp] theorem Tryz.siz49 : Aw.sizeA Tryz.prog 49 = some 2 := by kernel_rfl
@[simp] theorem Tryz.zer49 : Aw.zeroA Tryz.prog 49 = some [.str [], .str []] := by kernel_rfl
@[simp] theorem Tryz.zsz49 : Aw.zeroSz Tryz.prog 49 2 = true := by kernel_rfl
@[simp] theorem Tryz.fld49_0 : Aw.fieldA Tryz.prog 49 0 = some 0 := by kernel_rfl
@[simp] theorem Tryz.fld49_1 : Aw.fieldA Tryz.prog 49 1 = some 1 := by kernel_rfl
@[simp] theorem Tryz.plc49 : Aw.placesA Tryz.prog 49 = some [(0, 1), (1, 1)] := by kernel_rfl
@[simp] theorem Tryz.agg50 : Aw.aggSize Tryz.prog 50 = some 5 := by kernel_rfl
@[simp] theorem Tryz.siz50 : Aw.sizeA Tryz.prog 50 = some 5 := by kernel_rfl
@[simp] theorem Tryz.zer50 : Aw.zeroA Tryz.prog 50 = some [.bool false, .sl .own 1 [], .sl .own 1 [], .sl .own 1 [], .str []] := by kernel_rfl
@[simp] theorem Tryz.zsz50 : Aw.zeroSz Tryz.prog 50 5 = true := by kernel_rfl
@[simp] theorem Tryz.fld50_0 : Aw.fieldA Tryz.prog 50 0 = some 0 := by kernel_rfl
@[simp] theorem Tryz.fld50_1 : Aw.fieldA Tryz.prog 50 1 = some 1 := by kernel_rfl
@[simp] theorem Tryz.fld50_2 : Aw.fieldA Tryz.prog 50 2 = some 2 := by kernel_rfl
@[simp] theorem Tryz.fld50_3 : Aw.fieldA Tryz.prog 50 3 = some 3 := by kernel_rfl
@[simp] theorem Tryz.fld50_4 : Aw.fieldA Tryz.prog 50 4 = some 4 := by kernel_rfl
@[simp] theorem Tryz.plc50 : Aw.placesA Tryz.prog 50 = some [(0, 1), (1, 1), (2, 1), (3, 1), (4, 1)] := by kernel_rfl
@[simp] theorem Tryz.agg51 : Aw.aggSize Tryz.prog 51 = some 1 := by kernel_rfl
@[simp] theorem Tryz.siz51 : Aw.sizeA Tryz.prog 51 = some 1 := by kernel_rfl
@[simp] theorem Tryz.zer51 : Aw.zeroA Tryz.prog 51 = some [.str []] := by kernel_rfl
@[simp] theorem Tryz.zsz51 : Aw.zeroSz Tryz.prog 51 1 = true := by kernel_rfl
@[simp] theorem Tryz.fld51_0 : Aw.fieldA Tryz.prog 51 0 = some 0 := by kernel_rfl
@[simp] theorem Tryz.plc51 : Aw.placesA Tryz.prog 51 = some [(0, 1)] := by kernel_rfl
@[simp] theorem Tryz.agg52 : Aw.aggSize Tryz.prog 52 = none := by kernel_rfl
@[simp] theorem Tryz.one52 : Aw.oneSize Tryz.prog 52 = true := by kernel_rfl
@[simp] theorem Tryz.siz52 : Aw.sizeA Tryz.prog 52 = some 1 := by kernel_rfl
@[simp] theorem Tryz.zer52 : Aw.zeroA Tryz.prog 52 = some [.sl .own 4 []] := by kernel_rfl
@[simp] theorem Tryz.zsz52 : Aw.zeroSz Tryz.prog 52 1 = true := by kernel_rfl
@[simp] theorem Tryz.elm52 : Aw.elemA Tryz.prog 52 = some (131, 4, 64) := by kernel_rfl
@[simp] theorem Tryz.isl52 : Aw.isSlice Tryz.prog 52 = true := by kernel_rfl
@[simp] theorem Tryz.apd52 : Aw.appendable Tryz.prog 52 = true := by kernel_rfl
@[simp] theorem Tryz.agg53 : Aw.aggSize Tryz.prog 53 = none := by kernel_rfl
@[simp] theorem Tryz.one53 : Aw.oneSize Tryz.prog 53 = true := by kernel_rfl
@[simp] theorem Tryz.siz53 : Aw.sizeA Tryz.prog 53 = some 1 := by kernel_rfl
@[simp] theorem Tryz.zer53 : Aw.zeroA Tryz.prog 53 = some [.sl .own 8 []] := by kernel_rfl
@[simp] theorem Tryz.zsz53 : Aw.zeroSz Tryz.prog 53 1 = true := by kernel_rfl
@[simp] theorem Tryz.elm53 : Aw.elemA Tryz.prog 53 = some (121, 8, 96) := by kernel_rfl
@[simp] theorem Tryz.isl53 : Aw.isSlice Tryz.prog 53 = true := by kernel_rfl
@[simp] theorem Tryz.apd53 : Aw.appendable Tryz.prog 53 = true := by kernel_rfl
@[simp] theorem Tryz.agg54 : Aw.aggSize Tryz.prog 54 = none := by kernel_rfl
@[simp] theorem Tryz.one54 : Aw.oneSize Tryz.prog 54 = true := by kernel_rfl
@[simp] theorem Tryz.siz54 : Aw.sizeA Tryz.prog 54 = some 1 := by kernel_rfl
@[simp] theorem Tryz.zer54 : Aw.zeroA Tryz.prog 54 = some [.sl .own 5 []] := by kernel_rfl
@[simp] theorem Tryz.zsz54 : Aw.zeroSz Tryz.prog 54 1 = true := by kernel_rfl
@[simp] theorem Tryz.elm54 : Aw.elemA Tryz.prog 54 = some (125, 5, 64) := by kernel_rfl
@[simp] theorem Tryz.isl54 : Aw.isSlice Tryz.prog 54 = true := by kernel_rfl
@[simp] theorem Tryz.apd54 : Aw.appendable Tryz.prog 54 = true := by kernel_rfl
@[simp] theorem Tryz.agg55 : Aw.aggSize Tryz.prog 55 = none := by kernel_rfl
@[simp] theorem Tryz.one55 : Aw.oneSize Tryz.prog 55 = true := by kernel_rfl
@[simp] theorem Tryz.siz55 : Aw.sizeA Tryz.prog 55 = some 1 := by kernel_rfl
@[simp] theorem Tryz.zer55 : Aw.zeroA Tryz.prog 55 = some [.sl .own 2 []] := by kernel_rfl
@[simp] theorem Tryz.zsz55 : Aw.zeroSz Tryz.prog 55 1 = true := by kernel_rfl
@[simp] theorem Tryz.elm55 : Aw.elemA Tryz.prog 55 = some (49, 2, 32) := by kernel_rfl
@[simp] theorem Tryz.isl55 : Aw.isSlice Tryz.prog 55 = true := by kernel_rfl
@[simp] theorem Tryz.apd55 : Aw.appendable Tryz.prog 55 = true := by kernel_rfl
@[simp] theorem Tryz.agg57 : Aw.aggSize Tryz.prog 57 = some 22 := by kernel_rfl
@[simp] theorem Tryz.siz57 : Aw.sizeA Tryz.prog 57 = some 22 := by kernel_rfl
@[simp] theorem Tryz.zer57 : Aw.zeroA Tryz.prog 57 = some [.str [], .str [], .bool false, .sl .own 1 [], .sl .own 1 [], .sl .own 1 [], .str [], .str [], .sl .own 4 [], .bool false, .sl .own 4 [], .sl .own 1 [], .sl .own 8 [], .sl .own 5 [], .sl .own 2 [], .int .i64 0, .int .i64 0, .int .i64 0, .int .i64 0, .sl .own 2 [], .sl .own 1 [], .bool false] := by kernel_rfl
@[simp] theorem Tryz.zsz57 : Aw.zeroSz Tryz.prog 57 22 = true := by kernel_rfl
@[simp] theorem Tryz.fld57_0 : Aw.fieldA Tryz.prog 57 0 = some 0 := by kernel_rfl
@[simp] theorem Tryz.fld57_1 : Aw.fieldA Tryz.prog 57 1 = some 2 := by kernel_rfl
@[simp] theorem Tryz.fld57_2 : Aw.fieldA Tryz.prog 57 2 = some 7 := by kernel_rfl
@[simp] theorem Tryz.fld57_3 : Aw.fieldA Tryz.prog 57 3 = some 8 := by kernel_rfl
@[simp] theorem Tryz.fld57_4 : Aw.fieldA Tryz.prog 57 4 = some 9 := by kernel_rfl
@[simp] theorem Tryz.fld57_5 : Aw.fieldA Tryz.prog 57 5 = some 10 := by kernel_rfl
@[simp] theorem Tryz.fld57_6 : Aw.fieldA Tryz.prog 57 6 = some 12 := by kernel_rfl
@[simp] theorem Tryz.fld57_7 : Aw.fieldA Tryz.prog 57 7 = some 13 := by kernel_rfl
@[simp] theorem Tryz.fld57_8 : Aw.fieldA Tryz.prog 57 8 = some 14 := by kernel_rfl
@[simp] theorem Tryz.fld57_9 : Aw.fieldA Tryz.prog 57 9 = some 15 := by kernel_rfl
@[simp] theorem Tryz.fld57_10 : Aw.fieldA Tryz.prog 57 10 = some 16 := by kernel_rfl
@[simp] theorem Tryz.fld57_11 : Aw.fieldA Tryz.prog 57 11 = some 17 := by kernel_rfl
@[simp] theorem Tryz.fld57_12 : Aw.fieldA Tryz.prog 57 12 = some 18 := by kernel_rfl
@[simp] theorem Tryz.fld57_13 : Aw.fieldA Tryz.prog 57 13 = some 19 := by kernel_rfl
@[simp] theorem Tryz.fld57_14 : Aw.fieldA Tryz.prog 57 14 = some 20 := by kernel_rfl
@[simp] theorem Tryz.fld57_15 : Aw.fieldA Tryz.prog 57 15 = some 21 := by kernel_rfl
@[simp] theorem Tryz.plc57 : Aw.placesA Tryz.prog 57 = some [(0, 2), (2, 5), (7, 1), (8, 1), (9, 1), (10, 2), (12, 1), (13, 1), (14, 1), (15, 1), (16, 1), (17, 1), (18, 1), (19, 1), (20, 1), (21, 1)] := by kernel_rfl
@[simp] theorem Tryz.agg76 : Aw.aggSize Tryz.prog 76 = none := by kernel_rfl
@[simp] theorem Tryz.one76 : Aw.oneSize Tryz.prog 76 = true := by kernel_rfl
@[simp] theorem Tryz.siz76 : Aw.sizeA Tryz.prog 76 = some 1 := by kernel_rfl
@[simp] theorem Tryz.zer76 : Aw.zeroA Tryz.prog 76 = some [.sl .own 1 []] := by kernel_rfl
@[simp] theorem Tryz.zsz76 : Aw.zeroSz Tryz.prog 76 1 = true := by kernel_rfl
@[simp] theorem Tryz.elm76 : Aw.elemA Tryz.prog 76 = some (45, 1, 24) := by kernel_rfl
@[simp] theorem Tryz.isl76 : Aw.isSlice Tryz.prog 76 = true := by kernel_rfl
@[simp] theorem Tryz.apd76 : Aw.appendable Tryz.prog 76 = true := by kernel_rfl
@[simp] theorem Tryz.agg105 : Aw.aggSize Tryz.prog 105 = none := by kernel_rfl
@[simp] theorem Tryz.one105 : Aw.oneSize Tryz.prog 105 = true := by kernel_rfl
@[simp] theorem Tryz.siz105 : Aw.sizeA Tryz.prog 105 = some 1 := by kernel_rfl
@[simp] theorem Tryz.zer105 : Aw.zeroA Tryz.prog 105 = some [.sl .own 2 []] := by kernel_rfl
@[simp] theorem Tryz.zsz105 : Aw.zeroSz Tryz.prog 105 1 = true := by kernel_rfl
@[simp] theorem Tryz.elm105 : Aw.elemA Tryz.prog 105 = some (173, 2, 32) := by kernel_rfl
@[simp] theorem Tryz.isl105 : Aw.isSlice Tryz.prog 105 = true := by kernel_rfl
@[simp] theorem Tryz.apd105 : Aw.appendable Tryz.prog 105 = true := by kernel_rfl
@[simp] theorem Tryz.agg107 : Aw.aggSize Tryz.prog 107 = some 4 := by kernel_rfl
@[simp] theorem Tryz.siz107 : Aw.sizeA Tryz.prog 107 = some 4 := by kernel_rfl
@[simp] theorem Tryz.zer107 : Aw.zeroA Tryz.prog 107 = some [.int .i64 0, .str [], .sl .own 2 [], .str []] := by kernel_rfl
@[simp] theorem Tryz.zsz107 : Aw.zeroSz Tryz.prog 107 4 = true := by kernel_rfl
@[simp] theorem Tryz.fld107_0 : Aw.fieldA Tryz.prog 107 0 = some 0 := by kernel_rfl
@[simp] theorem Tryz.fld107_1 : Aw.fieldA Tryz.prog 107 1 = some 1 := by kernel_rfl
@[simp] theorem Tryz.fld107_2 : Aw.fieldA Tryz.prog 107 2 = some 2 := by kernel_rfl
@[simp] theorem Tryz.fld107_3 : Aw.fieldA Tryz.prog 107 3 = some 3 := by kernel_rfl
@[simp] theorem Tryz.plc107 : Aw.placesA Tryz.prog 107 = some [(0, 1), (1, 1), (2, 1), (3, 1)] := by kernel_rfl
@[simp] theorem Tryz.agg112 : Aw.aggSize Tryz.prog 112 = some 8 := by kernel_rfl
@[simp] theorem Tryz.siz112 : Aw.sizeA Tryz.prog 112 = some 8 := by kernel_rfl
@[simp] theorem Tryz.zer112 : Aw.zeroA Tryz.prog 112 = some [.int .i64 0, .str [], .str [], .str [], .int .i64 0, .bool false, .int .i64 0, .str []] := by kernel_rfl
@[simp] theorem Tryz.zsz112 : Aw.zeroSz Tryz.prog 112 8 = true := by kernel_rfl
@[simp] theorem Tryz.fld112_0 : Aw.fieldA Tryz.prog 112 0 = some 0 := by kernel_rfl
@[simp] theorem Tryz.fld112_1 : Aw.fieldA Tryz.prog 112 1 = some 1 := by kernel_rfl
@[simp] theorem Tryz.fld112_2 : Aw.fieldA Tryz.prog 112 2 = some 3 := by kernel_rfl
@[simp] theorem Tryz.fld112_3 : Aw.fieldA Tryz.prog 112 3 = some 4 := by kernel_rfl
@[simp] theorem Tryz.fld112_4 : Aw.fieldA Tryz.prog 112 4 = some 5 := by kernel_rfl
@[simp] theorem Tryz.fld112_5 : Aw.fieldA Tryz.prog 112 5 = some 6 := by kernel_rfl
@[simp] theorem Tryz.fld112_6 : Aw.fieldA Tryz.prog 112 6 = some 7 := by kernel_rfl
@[simp] theorem Tryz.plc112 : Aw.placesA Tryz.prog 112 = some [(0, 1), (1, 2), (3, 1), (4, 1), (5, 1), (6, 1), (7, 1)] := by kernel_rfl
@[simp] theorem Tryz.agg115 : Aw.aggSize Tryz.prog 115 = some 5 := by kernel_rfl
@[simp] theorem Tryz.siz115 : Aw.sizeA Tryz.prog 115 = some 5 := by kernel_rfl
@[simp] theorem Tryz.zer115 : Aw.zeroA Tryz.prog 115 = some [.str [], .str [], .bool false, .int .i64 0, .str []] := by kernel_rfl
@[simp] theorem Tryz.zsz115 : Aw.zeroSz Tryz.prog 115 5 = true := by kernel_rfl
@[simp] theorem Tryz.fld115_0 : Aw.fieldA Tryz.prog 115 0 = some 0 := by kernel_rfl
@[simp] theorem Tryz.fld115_1 : Aw.fieldA Tryz.prog 115 1 = some 2 := by kernel_rfl
@[simp] theorem Tryz.fld115_2 : Aw.fieldA Tryz.prog 115 2 = some 3 := by kernel_rfl
@[simp] theorem Tryz.fld115_3 : Aw.fieldA Tryz.prog 115 3 = some 4 := by kernel_rfl
@[simp] theorem Tryz.plc115 : Aw.placesA Tryz.prog 115 = some [(0, 2), (2, 1), (3, 1), (4, 1)] := by kernel_rfl
@[simp] theorem Tryz.agg116 : Aw.aggSize Tryz.prog 116 = none := by kernel_rfl
@[simp] theorem Tryz.one116 : Aw.oneSize Tryz.prog 116 = true := by kernel_rfl
@[simp] theorem Tryz.siz116 : Aw.sizeA Tryz.prog 116 = some 1 := by kernel_rfl
@[simp] theorem Tryz.zer116 : Aw.zeroA Tryz.prog 116 = some [.sl .own 2 []] := by kernel_rfl
@[simp] theorem Tryz.zsz116 : Aw.zeroSz Tryz.prog 116 1 = true := by kernel_rfl
@[simp] theorem Tryz.elm116 : Aw.elemA Tryz.prog 116 = some (171, 2, 32) := by kernel_rfl
@[simp] theorem Tryz.isl116 : Aw.isSlice Tryz.prog 116 = true := by kernel_rfl
@[simp] theorem Tryz.apd116 : Aw.appendable Tryz.prog 116 = true := by kernel_rfl
@[simp] theorem Tryz.agg118 : Aw.aggSize Tryz.prog 118 = some 4 := by kernel_rfl
@[simp] theorem Tryz.siz118 : Aw.sizeA Tryz.prog 118 = some 4 := by kernel_rfl
@[simp] theorem Tryz.zer118 : Aw.zeroA Tryz.prog 118 = some [.str [], .str [], .int .i64 0, .sl .own 2 []] := by kernel_rfl
@[simp] theorem Tryz.zsz118 : Aw.zeroSz Tryz.prog 118 4 = true := by kernel_rfl
@[simp] theorem Tryz.fld118_0 : Aw.fieldA Tryz.prog 118 0 = some 0 := by kernel_rfl
@[simp] theorem Tryz.fld118_1 : Aw.fieldA Tryz.prog 118 1 = some 1 := by kernel_rfl
@[simp] theorem Tryz.fld118_2 : Aw.fieldA Tryz.prog 118 2 = some 2 := by kernel_rfl
@[simp] theorem Tryz.fld118_3 : Aw.fieldA Tryz.prog 118 3 = some 3 := by kernel_rfl
@[simp] theorem Tryz.plc118 : Aw.placesA Tryz.prog 118 = some [(0, 1), (1, 1), (2, 1), (3, 1)] := by kernel_rfl
@[simp] theorem Tryz.agg121 : Aw.aggSize Tryz.prog 121 = some 8 := by kernel_rfl
@[simp] theorem Tryz.siz121 : Aw.sizeA Tryz.prog 121 = some 8 := by kernel_rfl
@[simp] theorem Tryz.zer121 : Aw.zeroA Tryz.prog 121 = some [.int .i64 0, .str [], .str [], .str [], .int .i64 0, .bool false, .int .i64 0, .str []] := by kernel_rfl
@[simp] theorem Tryz.zsz121 : Aw.zeroSz Tryz.prog 121 8 = true := by kernel_rfl
@[simp] theorem Tryz.fld121_0 : Aw.fieldA Tryz.prog 121 0 = some 0 := by kernel_rfl
@[simp] theorem Tryz.fld121_1 : Aw.fieldA Tryz.prog 121 1 = some 1 := by kernel_rfl
@[simp] theorem Tryz.fld121_2 : Aw.fieldA Tryz.prog 121 2 = some 3 := by kernel_rfl
@[simp] theorem Tryz.fld121_3 : Aw.fieldA Tryz.prog 121 3 = some 4 := by kernel_rfl
@[simp] theorem Tryz.fld121_4 : Aw.fieldA Tryz.prog 121 4 = some 5 := by kernel_rfl
@[simp] theorem Tryz.fld121_5 : Aw.fieldA Tryz.prog 121 5 = some 6 := by kernel_rfl
@[simp] theorem Tryz.fld121_6 : Aw.fieldA Tryz.prog 121 6 = some 7 := by kernel_rfl
@[simp] theorem Tryz.plc121 : Aw.placesA Tryz.prog 121 = some [(0, 1), (1, 2), (3, 1), (4, 1), (5, 1), (6, 1), (7, 1)] := by kernel_rfl
@[simp] theorem Tryz.agg125 : Aw.aggSize Tryz.prog 125 = some 5 := by kernel_rfl
@[simp] theorem Tryz.siz125 : Aw.sizeA Tryz.prog 125 = some 5 := by kernel_rfl
@[simp] theorem Tryz.zer125 : Aw.zeroA Tryz.prog 125 = some [.str [], .str [], .bool false, .int .i64 0, .str []] := by kernel_rfl
@[simp] theorem Tryz.zsz125 : Aw.zeroSz Tryz.prog 125 5 = true := by kernel_rfl
@[simp] theorem Tryz.fld125_0 : Aw.fieldA Tryz.prog 125 0 = some 0 := by kernel_rfl
@[simp] theorem Tryz.fld125_1 : Aw.fieldA Tryz.prog 125 1 = some 2 := by kernel_rfl
@[simp] theorem Tryz.fld125_2 : Aw.fieldA Tryz.prog 125 2 = some 3 := by kernel_rfl
@[simp] theorem Tryz.fld125_3 : Aw.fieldA Tryz.prog 125 3 = some 4 := by kernel_rfl
@[simp] theorem Tryz.plc125 : Aw.placesA Tryz.prog 125 = some [(0, 2), (2, 1), (3, 1), (4, 1)] := by kernel_rfl
@[simp] theorem Tryz.agg127 : Aw.aggSize Tryz.prog 127 = some 2 := by kernel_rfl
@[simp] theorem Tryz.siz127 : Aw.sizeA Tryz.prog 127 = some 2 := by kernel_rfl
@[simp] theorem Tryz.zer127 : Aw.zeroA Tryz.prog 127 = some [.str [], .int .i64 0] := by kernel_rfl
@[simp] theorem Tryz.zsz127 : Aw.zeroSz Tryz.prog 127 2 = true := by kernel_rfl
@[simp] theorem Tryz.fld127_0 : Aw.fieldA Tryz.prog 127 0 = some 0 := by kernel_rfl
@[simp] theorem Tryz.fld127_1 : Aw.fieldA Tryz.prog 127 1 = some 1 := by kernel_rfl
@[simp] theorem Tryz.plc127 : Aw.placesA Tryz.prog 127 = some [(0, 1), (1, 1)] := by kernel_rfl
@[simp] theorem Tryz.agg131 : Aw.aggSize Tryz.prog 131 = some 4 := by kernel_rfl
@[simp] theorem Tryz.siz131 : Aw.sizeA Tryz.prog 131 = some 4 := by kernel_rfl
@[simp] theorem Tryz.zer131 : Aw.zeroA Tryz.prog 131 = some [.int .i64 0, .str [], .sl .own 2 [], .str []] := by kernel_rfl
@[simp] theorem Tryz.zsz131 : Aw.zeroSz Tryz.prog 131 4 = true := by kernel_rfl
@[simp] theorem Tryz.fld131_0 : Aw.fieldA Tryz.prog 131 0 = some 0 := by kernel_rfl
@[simp] theorem Tryz.fld131_1 : Aw.fieldA Tryz.prog 131 1 = some 1 := by kernel_rfl
@[simp] theorem Tryz.fld131_2 : Aw.fieldA Tryz.prog 131 2 = some 2 := by kernel_rfl
@[simp] theorem Tryz.fld131_3 : Aw.fieldA Tryz.prog 131 3 = some 3 := by kernel_rfl
@[simp] theorem Tryz.plc131 : Aw.placesA Tryz.prog 131 = some [(0, 1), (1, 1), (2, 1), (3, 1)] := by kernel_rfl
@[simp] theorem Tryz.agg151 : Aw.aggSize Tryz.prog 151 = some 4 := by kernel_rfl
@[simp] theorem Tryz.siz151 : Aw.sizeA Tryz.prog 151 = some 4 := by kernel_rfl
@[simp] theorem Tryz.zer151 : Aw.zeroA Tryz.prog 151 = some [.str [], .str [], .int .i64 0, .sl .own 2 []] := by kernel_rfl
@[simp] theorem Tryz.zsz151 : Aw.zeroSz Tryz.prog 151 4 = true := by kernel_rfl
@[simp] theorem Tryz.fld151_0 : Aw.fieldA Tryz.prog 151 0 = some 0 := by kernel_rfl
@[simp] theorem Tryz.fld151_1 : Aw.fieldA Tryz.prog 151 1 = some 1 := by kernel_rfl
@[simp] theorem Tryz.fld151_2 : Aw.fieldA Tryz.prog 151 2 = some 2 := by kernel_rfl
@[simp] theorem Tryz.fld151_3 : Aw.fieldA Tryz.prog 151 3 = some 3 := by kernel_rfl
@[simp] theorem Tryz.plc151 : Aw.placesA Tryz.prog 151 = some [(0, 1), (1, 1), (2, 1), (3, 1)] := by kernel_rfl
@[simp] theorem Tryz.agg162 : Aw.aggSize Tryz.prog 162 = none := by kernel_rfl
@[simp] theorem Tryz.one162 : Aw.oneSize Tryz.prog 162 = true := by kernel_rfl
@[simp] theorem Tryz.siz162 : Aw.sizeA Tryz.prog 162 = some 1 := by kernel_rfl
@[simp] theorem Tryz.zer162 : Aw.zeroA Tryz.prog 162 = some [.int .u64 0] := by kernel_rfl
@[simp] theorem Tryz.zsz162 : Aw.zeroSz Tryz.prog 162 1 = true := by kernel_rfl
@[simp] theorem Tryz.int162 : Aw.intType Tryz.prog 162 = some .u64 := by kernel_rfl
@[simp] theorem Tryz.som162 : (Tryz.prog.underlying 162).isSome = true := by kernel_rfl
@[simp] theorem Tryz.agg169 : Aw.aggSize Tryz.prog 169 = none := by kernel_rfl
@[simp] theorem Tryz.one169 : Aw.oneSize Tryz.prog 169 = true := by kernel_rfl
@[simp] theorem Tryz.siz169 : Aw.sizeA Tryz.prog 169 = some 1 := by kernel_rfl
@[simp] theorem Tryz.zer169 : Aw.zeroA Tryz.prog 169 = some [.sl .own 1 []] := by kernel_rfl
@[simp] theorem Tryz.zsz169 : Aw.zeroSz Tryz.prog 169 1 = true := by kernel_rfl
@[simp] theorem Tryz.elm169 : Aw.elemA Tryz.prog 169 = some (5, 1, 1) := by kernel_rfl
@[simp] theorem Tryz.isl169 : Aw.isSlice Tryz.prog 169 = true := by kernel_rfl
@[simp] theorem Tryz.apd169 : Aw.appendable Tryz.prog 169 = true := by kernel_rfl
@[simp] theorem Tryz.agg171 : Aw.aggSize Tryz.prog 171 = some 2 := by kernel_rfl
@[simp] theorem Tryz.siz171 : Aw.sizeA Tryz.prog 171 = some 2 := by kernel_rfl
@[simp] theorem Tryz.zer171 : Aw.zeroA Tryz.prog 171 = some [.str [], .str []] := by kernel_rfl
@[simp] theorem Tryz.zsz171 : Aw.zeroSz Tryz.prog 171 2 = true := by kernel_rfl
@[simp] theorem Tryz.fld171_0 : Aw.fieldA Tryz.prog 171 0 = some 0 := by kernel_rfl
@[simp] theorem Tryz.fld171_1 : Aw.fieldA Tryz.prog 171 1 = some 1 := by kernel_rfl
@[simp] theorem Tryz.plc171 : Aw.placesA Tryz.prog 171 = some [(0, 1), (1, 1)] := by kernel_rfl
@[simp] theorem Tryz.agg173 : Aw.aggSize Tryz.prog 173 = some 2 := by kernel_rfl
@[simp] theorem Tryz.siz173 : Aw.sizeA Tryz.prog 173 = some 2 := by kernel_rfl
@[simp] theorem Tryz.zer173 : Aw.zeroA Tryz.prog 173 = some [.str [], .str []] := by kernel_rfl
@[simp] theorem Tryz.zsz173 : Aw.zeroSz Tryz.prog 173 2 = true := by kernel_rfl
@[simp] theorem Tryz.fld173_0 : Aw.fieldA Tryz.prog 173 0 = some 0 := by kernel_rfl
@[simp] theorem Tryz.fld173_1 : Aw.fieldA Tryz.prog 173 1 = some 1 := by kernel_rfl
@[simp] theorem Tryz.plc173 : Aw.placesA Tryz.prog 173 = some [(0, 1), (1, 1)] := by kernel_rfl
@[simp] theorem Tryz.agg177 : Aw.aggSize Tryz.prog 177 = none := by kernel_rfl
@[simp] theorem Tryz.one177 : Aw.oneSize Tryz.prog 177 = true := by kernel_rfl
@[simp] theorem Tryz.siz177 : Aw.sizeA Tryz.prog 177 = some 1 := by kernel_rfl
@[simp] theorem Tryz.zer177 : Aw.zeroA Tryz.prog 177 = some [.int .i64 0] := by kernel_rfl
@[simp] theorem Tryz.zsz177 : Aw.zeroSz Tryz.prog 177 1 = true := by kernel_rfl
@[simp] theorem Tryz.int177 : Aw.intType Tryz.prog 177 = some .i64 := by kernel_rfl
@[simp] theorem Tryz.som177 : (Tryz.prog.underlying 177).isSome = true := by kernel_rfl
@[simp] theorem Tryz.agg185 : Aw.aggSize Tryz.prog 185 = none := by kernel_rfl
@[simp] theorem Tryz.one185 : Aw.oneSize Tryz.prog 185 = true := by kernel_rfl
@[simp] theorem Tryz.siz185 : Aw.sizeA Tryz.prog 185 = some 1 := by kernel_rfl
@[simp] theorem Tryz.zer185 : Aw.zeroA Tryz.prog 185 = some [.int .u32 0] := by kernel_rfl
@[simp] theorem Tryz.zsz185 : Aw.zeroSz Tryz.prog 185 1 = true := by kernel_rfl
@[simp] theorem Tryz.int185 : Aw.intType Tryz.prog 185 = some .u32 := by kernel_rfl
@[simp] theorem Tryz.som185 : (Tryz.prog.underlying 185).isSome = true := by kernel_rfl
@[simp] theorem Tryz.agg187 : Aw.aggSize Tryz.prog 187 = none := by kernel_rfl
@[simp] theorem Tryz.one187 : Aw.oneSize Tryz.prog 187 = true := by kernel_rfl
@[simp] theorem Tryz.siz187 : Aw.sizeA Tryz.prog 187 = some 1 := by kernel_rfl
@[simp] theorem Tryz.zer187 : Aw.zeroA Tryz.prog 187 = some [.int .u64 0] := by kernel_rfl
@[simp] theorem Tryz.zsz187 : Aw.zeroSz Tryz.prog 187 1 = true := by kernel_rfl
@[simp] theorem Tryz.int187 : Aw.intType Tryz.prog 187 = some .u64 := by kernel_rfl
@[simp] theorem Tryz.som187 : (Tryz.prog.underlying 187).isSome = true := by kernel_rfl
@[simp] theorem Tryz.agg194 : Aw.aggSize Tryz.prog 194 = none := by kernel_rfl
@[simp] theorem Tryz.one194 : Aw.oneSize Tryz.prog 194 = true := by kernel_rfl
@[simp] theorem Tryz.siz194 : Aw.sizeA Tryz.prog 194 = some 1 := by kernel_rfl
@[simp] theorem Tryz.zer194 : Aw.zeroA Tryz.prog 194 = some [.int .u64 0] := by kernel_rfl
@[simp] theorem Tryz.zsz194 : Aw.zeroSz Tryz.prog 194 1 = true := by kernel_rfl
@[simp] theorem Tryz.int194 : Aw.intType Tryz.prog 194 = some .u64 := by kernel_rfl
@[simp] theorem Tryz.som194 : (Tryz.prog.underlying 194).isSome = true := by kernel_rfl
@[simp] theorem Tryz.agg222 : Aw.aggSize Tryz.prog 222 = some 3 := by kernel_rfl
@[simp] theorem Tryz.siz222 : Aw.sizeA Tryz.prog 222 = some 3 := by kernel_rfl
@[simp] theorem Tryz.zer222 : Aw.zeroA Tryz.prog 222 = some [.str [], .str [], .undef] := by kernel_rfl
@[simp] theorem Tryz.zsz222 : Aw.zeroSz Tryz.prog 222 3 = true := by kernel_rfl
@[simp] theorem Tryz.fld222_0 : Aw.fieldA Tryz.prog 222 0 = some 0 := by kernel_rfl
@[simp] theorem Tryz.fld222_1 : Aw.fieldA Tryz.prog 222 1 = some 1 := by kernel_rfl
@[simp] theorem Tryz.fld222_2 : Aw.fieldA Tryz.prog 222 2 = some 2 := by kernel_rfl
@[simp] theorem Tryz.agg227 : Aw.aggSize Tryz.prog 227 = some 2 := by kernel_rfl
@[simp] theorem Tryz.siz227 : Aw.sizeA Tryz.prog 227 = some 2 := by kernel_rfl
@[simp] theorem Tryz.zer227 : Aw.zeroA Tryz.prog 227 = some [.int .u8 0, .int .u8 0] := by kernel_rfl
@[simp] theorem Tryz.zsz227 : Aw.zeroSz Tryz.prog 227 2 = true := by kernel_rfl
@[simp] theorem Tryz.fld227_0 : Aw.fieldA Tryz.prog 227 0 = some 0 := by kernel_rfl
@[simp] theorem Tryz.fld227_1 : Aw.fieldA Tryz.prog 227 1 = some 1 := by kernel_rfl
@[simp] theorem Tryz.plc227 : Aw.placesA Tryz.prog 227 = some [(0, 1), (1, 1)] := by kernel_rfl
@[simp] theorem Tryz.agg233 : Aw.aggSize Tryz.prog 233 = some 1 := by kernel_rfl
@[simp] theorem Tryz.siz233 : Aw.sizeA Tryz.prog 233 = some 1 := by kernel_rfl
@[simp] theorem Tryz.zer233 : Aw.zeroA Tryz.prog 233 = some [.str []] := by kernel_rfl
@[simp] theorem Tryz.zsz233 : Aw.zeroSz Tryz.prog 233 1 = true := by kernel_rfl
@[simp] theorem Tryz.fld233_0 : Aw.fieldA Tryz.prog 233 0 = some 0 := by kernel_rfl
@[simp] theorem Tryz.plc233 : Aw.placesA Tryz.prog 233 = some [(0, 1)] := by kernel_rfl
@[simp] theorem Tryz.cal3 : Aw.callable Tryz.prog 3 = true := by kernel_rfl
@[simp] theorem Tryz.cal4 : Aw.callable Tryz.prog 4 = true := by kernel_rfl
@[simp] theorem Tryz.cal5 : Aw.callable Tryz.prog 5 = true := by kernel_rfl
@[simp] theorem Tryz.cal6 : Aw.callable Tryz.prog 6 = true := by kernel_rfl
@[simp] theorem Tryz.cal7 : Aw.callable Tryz.prog 7 = true := by kernel_rfl
@[simp] theorem Tryz.cal8 : Aw.callable Tryz.prog 8 = true := by kernel_rfl
@[simp] theorem Tryz.cal9 : Aw.callable Tryz.prog 9 = true := by kernel_rfl
@[simp] theorem Tryz.cal10 : Aw.callable Tryz.prog 10 = true := by kernel_rfl
@[simp] theorem Tryz.cal11 : Aw.callable Tryz.prog 11 = true := by kernel_rfl
@[simp] theorem Tryz.cal12 : Aw.callable Tryz.prog 12 = true := by kernel_rfl
@[simp] theorem Tryz.cal13 : Aw.callable Tryz.prog 13 = true := by kernel_rfl
@[simp] theorem Tryz.cal14 : Aw.callable Tryz.prog 14 = true := by kernel_rfl
@[simp] theorem Tryz.cal15 : Aw.callable Tryz.prog 15 = true := by kernel_rfl
@[simp] theorem Tryz.cal16 : Aw.callable Tryz.prog 16 = true := by kernel_rfl
@[simp] theorem Tryz.cal17 : Aw.callable Tryz.prog 17 = true := by kernel_rfl
@[simp] theorem Tryz.cal18 : Aw.callable Tryz.prog 18 = true := by kernel_rfl
@[simp] theorem Tryz.cal19 : Aw.callable Tryz.prog 19 = true := by kernel_rfl
@[simp] theorem Tryz.cal20 : Aw.callable Tryz.prog 20 = true := by kernel_rfl
@[simp] theorem Tryz.cal21 : Aw.callable Tryz.prog 21 = true := by kernel_rfl
@[simp] theorem Tryz.cal22 : Aw.callable Tryz.prog 22 = true := by kernel_rfl
@[simp] theorem Tryz.cal23 : Aw.callable Tryz.prog 23 = true := by kernel_rfl
@[simp] theorem Tryz.cal24 : Aw.callable Tryz.prog 24 = true := by kernel_rfl
@[simp] theorem Tryz.cal25 : Aw.callable Tryz.prog 25 = true := by kernel_rfl
@[simp] theorem Tryz.cal26 : Aw.callable Tryz.prog 26 = true := by kernel_rfl
@[simp] theorem Tryz.cal27 : Aw.callable Tryz.prog 27 = true := by kernel_rfl
@[simp] theorem Tryz.cal28 : Aw.callable Tryz.prog 28 = true := by kernel_rfl
@[simp] theorem Tryz.cal29 : Aw.callable Tryz.prog 29 = true := by kernel_rfl
@[simp] theorem Tryz.cal30 : Aw.callable Tryz.prog 30 = true := by kernel_rfl
@[simp] theorem Tryz.cal31 : Aw.callable Tryz.prog 31 = true := by kernel_rfl
@[simp] theorem Tryz.cal32 : Aw.callable Tryz.prog 32 = true := by kernel_rfl
@[simp] theorem Tryz.cal33 : Aw.callable Tryz.prog 33 = true := by kernel_rfl
@[simp] theorem Tryz.cal34 : Aw.callable Tryz.prog 34 = true := by kernel_rfl
@[simp] theorem Tryz.cal35 : Aw.callable Tryz.prog 35 = true := by kernel_rfl
@[simp] theorem Tryz.cal36 : Aw.callable Tryz.prog 36 = true := by kernel_rfl
@[simp] theorem Tryz.cal37 : Aw.callable Tryz.prog 37 = true := by kernel_rfl
@[simp] theorem Tryz.cal38 : Aw.callable Tryz.prog 38 = true := by kernel_rfl
@[simp] theorem Tryz.cal39 : Aw.callable Tryz.prog 39 = true := by kernel_rfl
@[simp] theorem Tryz.cal40 : Aw.callable Tryz.prog 40 = true := by kernel_rfl
@[simp] theorem Tryz.cal41 : Aw.callable Tryz.prog 41 = true := by kernel_rfl
@[simp] theorem Tryz.cal42 : Aw.callable Tryz.prog 42 = true := by kernel_rfl
@[simp] theorem Tryz.cal43 : Aw.callable Tryz.prog 43 = true := by kernel_rfl
@[simp] theorem Tryz.cal44 : Aw.callable Tryz.prog 44 = true := by kernel_rfl
@[simp] theorem Tryz.cal45 : Aw.callable Tryz.prog 45 = true := by kernel_rfl
@[simp] theorem Tryz.cal46 : Aw.callable Tryz.prog 46 = true := by kernel_rfl
@[simp] theorem Tryz.cal47 : Aw.callable Tryz.prog 47 = true := by kernel_rfl
@[simp] theorem Tryz.cal48 : Aw.callable Tryz.prog 48 = true := by kernel_rfl
@[simp] theorem Tryz.cal49 : Aw.callable Tryz.prog 49 = true := by kernel_rfl
@[simp] theorem Tryz.cal50 : Aw.callable Tryz.prog 50 = true := by kernel_rfl
@[simp] theorem Tryz.cal51 : Aw.callable Tryz.prog 51 = true := by kernel_rfl
@[simp] theorem Tryz.cal52 : Aw.callable Tryz.prog 52 = true := by kernel_rfl
@[simp] theorem Tryz.cal53 : Aw.callable Tryz.prog 53 = true := by kernel_rfl
@[simp] theorem Tryz.cal54 : Aw.callable Tryz.prog 54 = true := by kernel_rfl
@[simp] theorem Tryz.cal55 : Aw.callable Tryz.prog 55 = true := by kernel_rfl
@[simp] theorem Tryz.cal56 : Aw.callable Tryz.prog 56 = true := by kernel_rfl
@[simp] theorem Tryz.cal57 : Aw.callable Tryz.prog 57 = true := by kernel_rfl
@[simp] theorem Tryz.cal58 : Aw.callable Tryz.prog 58 = true := by kernel_rfl
@[simp] theorem Tryz.cal59 : Aw.callable Tryz.prog 59 = true := by kernel_rfl
@[simp] theorem Tryz.cal60 : Aw.callable Tryz.prog 60 = true := by kernel_rfl
@[simp] theorem Tryz.cal61 : Aw.callable Tryz.prog 61 = true := by kernel_rfl
@[simp] theorem Tryz.cal62 : Aw.callable Tryz.prog 62 = true := by kernel_rfl
@[simp] theorem Tryz.cal63 : Aw.callable Tryz.prog 63 = true := by kernel_rfl
@[simp] theorem Tryz.cal64 : Aw.callable Tryz.prog 64 = true := by kernel_rfl
@[simp] theorem Tryz.cal65 : Aw.callable Tryz.prog 65 = true := by kernel_rfl
@[simp] theorem Tryz.cal66 : Aw.callable Tryz.prog 66 = true := by kernel_rfl
@[simp] theorem Tryz.cal67 : Aw.callable Tryz.prog 67 = true := by kernel_rfl
@[simp] theorem Tryz.cal68 : Aw.callable Tryz.prog 68 = true := by kernel_rfl
@[simp] theorem Tryz.cal69 : Aw.callable Tryz.prog 69 = true := by kernel_rfl
@[simp] theorem Tryz.cal70 : Aw.callable Tryz.prog 70 = true := by kernel_rfl
@[simp] theorem Tryz.cal71 : Aw.callable Tryz.prog 71 = true := by kernel_rfl
@[simp] theorem Tryz.cal72 : Aw.callable Tryz.prog 72 = true := by kernel_rfl
@[simp] theorem Tryz.cal73 : Aw.callable Tryz.prog 73 = true := by kernel_rfl
@[simp] theorem Tryz.cal74 : Aw.callable Tryz.prog 74 = true := by kernel_rfl
@[simp] theorem Tryz.cal75 : Aw.callable Tryz.prog 75 = true := by kernel_rfl
@[simp] theorem Tryz.cal76 : Aw.callable Tryz.prog 76 = true := by kernel_rfl
@[simp] theorem Tryz.cal77 : Aw.callable Tryz.prog 77 = true := by kernel_rfl
@[simp] theorem Tryz.cal78 : Aw.callable Tryz.prog 78 = true := by kernel_rfl
@[simp] theorem Tryz.cal79 : Aw.callable Tryz.prog 79 = true := by kernel_rfl
@[simp] theorem Tryz.cal80 : Aw.callable Tryz.prog 80 = true := by kernel_rfl
@[simp] theorem Tryz.cal81 : Aw.callable Tryz.prog 81 = true := by kernel_rfl
@[simp] theorem Tryz.cal82 : Aw.callable Tryz.prog 82 = true := by kernel_rfl
@[simp] theorem Tryz.cal83 : Aw.callable Tryz.prog 83 = true := by kernel_rfl
@[simp] theorem Tryz.cal84 : Aw.callable Tryz.prog 84 = true := by kernel_rfl
@[simp] theorem Tryz.cal85 : Aw.callable Tryz.prog 85 = true := by kernel_rfl
@[simp] theorem Tryz.cal86 : Aw.callable Tryz.prog 86 = true := by kernel_rfl
@[simp] theorem Tryz.cal87 : Aw.callable Tryz.prog 87 = true := by kernel_rfl
@[simp] theorem Tryz.cal88 : Aw.callable Tryz.prog 88 = true := by kernel_rfl
@[simp] theorem Tryz.cal89 : Aw.callable Tryz.prog 89 = true := by kernel_rfl
@[simp] theorem Tryz.cal90 : Aw.callable Tryz.prog 90 = true := by kernel_rfl
@[simp] theorem Tryz.cal91 : Aw.callable Tryz.prog 91 = true := by kernel_rfl
@[simp] theorem Tryz.cal92 : Aw.callable Tryz.prog 92 = true := by kernel_rfl
@[simp] theorem Tryz.cal93 : Aw.callable Tryz.prog 93 = true := by kernel_rfl
@[simp] theorem Tryz.cal94 : Aw.callable Tryz.prog 94 = true := by kernel_rfl
@[simp] theorem Tryz.cal95 : Aw.callable Tryz.prog 95 = true := by kernel_rfl
@[simp] theorem Tryz.cal96 : Aw.callable Tryz.prog 96 = true := by kernel_rfl
@[simp] theorem Tryz.cal97 : Aw.callable Tryz.prog 97 = true := by kernel_rfl
@[simp] theorem Tryz.cal98 : Aw.callable Tryz.prog 98 = true := by kernel_rfl
@[simp] theorem Tryz.cal99 : Aw.callable Tryz.prog 99 = true := by kernel_rfl
@[simp] theorem Tryz.cal100 : Aw.callable Tryz.prog 100 = true := by kernel_rfl
@[simp] theorem Tryz.cal101 : Aw.callable Tryz.prog 101 = true := by kernel_rfl
@[simp] theorem Tryz.cal102 : Aw.callable Tryz.prog 102 = true := by kernel_rfl
@[simp] theorem Tryz.cal103 : Aw.callable Tryz.prog 103 = true := by kernel_rfl
@[simp] theorem Tryz.cal104 : Aw.callable Tryz.prog 104 = true := by kernel_rfl
@[simp] theorem Tryz.cal105 : Aw.callable Tryz.prog 105 = true := by kernel_rfl
@[simp] theorem Tryz.cal106 : Aw.callable Tryz.prog 106 = true := by kernel_rfl
@[simp] theorem Tryz.cal107 : Aw.callable Tryz.prog 107 = true := by kernel_rfl
@[simp] theorem Tryz.cal108 : Aw.callable Tryz.prog 108 = true := by kernel_rfl
@[simp] theorem Tryz.cal111 : Aw.callable Tryz.prog 111 = true := by kernel_rfl
@[simp] theorem Tryz.cal112 : Aw.callable Tryz.prog 112 = true := by kernel_rfl
@[simp] theorem Tryz.cal113 : Aw.callable Tryz.prog 113 = true := by kernel_rfl
@[simp] theorem Tryz.cal114 : Aw.callable Tryz.prog 114 = true := by kernel_rfl
@[simp] theorem Tryz.cal115 : Aw.callable Tryz.prog 115 = true := by kernel_rfl
@[simp] theorem Tryz.cal116 : Aw.callable Tryz.prog 116 = true := by kernel_rfl
@[simp] theorem Tryz.cal117 : Aw.callable Tryz.prog 117 = true := by kernel_rfl
@[simp] theorem Tryz.cal118 : Aw.callable Tryz.prog 118 = true := by kernel_rfl
@[simp] theorem Tryz.cal119 : Aw.callable Tryz.prog 119 = true := by kernel_rfl
@[simp] theorem Tryz.cal120 : Aw.callable Tryz.prog 120 = true := by kernel_rfl
@[simp] theorem Tryz.cal121 : Aw.callable Tryz.prog 121 = true := by kernel_rfl
@[simp] theorem Tryz.cal122 : Aw.callable Tryz.prog 122 = true := by kernel_rfl
@[simp] theorem Tryz.cal123 : Aw.callable Tryz.prog 123 = true := by kernel_rfl
@[simp] theorem Tryz.cal124 : Aw.callable Tryz.prog 124 = true := by kernel_rfl
@[simp] theorem Tryz.cal137 : Aw.callable Tryz.prog 137 = true := by kernel_rfl
@[simp] theorem Tryz.cal139 : Aw.callable Tryz.prog 139 = true := by kernel_rfl
@[simp] theorem Tryz.cal140 : Aw.callable Tryz.prog 140 = true := by kernel_rfl
@[simp] theorem Tryz.cal150 : Aw.callable Tryz.prog 150 = true := by kernel_rfl
@[simp] theorem Tryz.cal153 : Aw.callable Tryz.prog 153 = true := by kernel_rfl
@[simp] theorem Tryz.cal158 : Aw.callable Tryz.prog 158 = true := by kernel_rfl
@[simp] theorem Tryz.cal169 : Aw.callable Tryz.prog 169 = false := by kernel_rfl
end Go.Proofs.YtonajehhfkkglaaGreatDoor
