/-
  Proved here: closed facts of the translated program: types, their sizes, results.
  No condition beyond what each statement spells out.
-/
import Derived.Test.YtphofanfadgalaaGreatDoorProg
import Derived.Test.YtphofanfadgalaaGreatDoorF3
import Derived.KernelRfl
set_option linter.all false
/-
  Closed facts on the translation: sizes, fields and zero values of its types; that its functions have bodies. Written by a program of ours.
-/
namespace Go.Proofs.YtphofanfadgalaaGreatDoor
@[simp] theorem Tryz.agg2 : Aw.aggSize Tryz.prog 2 = none := by kernel_rfl
@[simp] theorem Tryz.one2 : Aw.oneSize Tryz.prog 2 = true := by kernel_rfl
@[simp] theorem Tryz.siz2 : Aw.sizeA Tryz.prog 2 = some 1 := by kernel_rfl
@[simp] theorem Tryz.zer2 : Aw.zeroA Tryz.prog 2 = some [.int .i64 0] := by kernel_rfl
@[simp] theorem Tryz.zsz2 : Aw.zeroSz Tryz.prog 2 1 = true := by kernel_rfl
@[simp] theorem Tryz.int2 : Aw.intType Tryz.prog 2 = some .i64 := by kernel_rfl
@[simp] theorem Tryz.som2 : (Tryz.prog.underlying 2).isSome = true := by kernel_rfl
@[simp] theorem Tryz.agg3 : Aw.aggSize Tryz.prog 3 = none := by kernel_rfl
@[simp] theorem Tryz.one3 : Aw.oneSize Tryz.prog 3 = true := by kernel_rfl
@[simp] theorem Tryz.siz3 : Aw.sizeA Tryz.prog 3 = some 1 := by kernel_rfl
@[simp] theorem Tryz.zer3 : Aw.zeroA Tryz.prog 3 = some [.int .i64 0] := by kernel_rfl
@[simp] theorem Tryz.zsz3 : Aw.zeroSz Tryz.prog 3 1 = true := by kernel_rfl
@[simp] theorem Tryz.int3 : Aw.intType Tryz.prog 3 = some .i64 := by kernel_rfl
@[simp] theorem Tryz.som3 : (Tryz.prog.underlying 3).isSome = true := by kernel_rfl
@[simp] theorem Tryz.agg4 : Aw.aggSize Tryz.prog 4 = none := by kernel_rfl
@[simp] theorem Tryz.one4 : Aw.oneSize Tryz.prog 4 = true := by kernel_rfl
@[simp] theorem Tryz.siz4 : Aw.sizeA Tryz.prog 4 = some 1 := by kernel_rfl
@[simp] theorem Tryz.zer4 : Aw.zeroA Tryz.prog 4 = some [.bool false] := by kernel_rfl
@[simp] theorem Tryz.zsz4 : Aw.zeroSz Tryz.prog 4 1 = true := by kernel_rfl
@[simp] theorem Tryz.bol4 : Aw.boolType Tryz.prog 4 = true := by kernel_rfl
@[simp] theorem Tryz.agg5 : Aw.aggSize Tryz.prog 5 = none := by kernel_rfl
@[simp] theorem Tryz.one5 : Aw.oneSize Tryz.prog 5 = true := by kernel_rfl
@[simp] theorem Tryz.siz5 : Aw.sizeA Tryz.prog 5 = some 1 := by kernel_rfl
@[simp] theorem Tryz.zer5 : Aw.zeroA Tryz.prog 5 = some [.int .u8 0] := by kernel_rfl
@[simp] theorem Tryz.zsz5 : Aw.zeroSz Tryz.prog 5 1 = true := by kernel_rfl
@[simp] theorem Tryz.int5 : Aw.intType Tryz.prog 5 = some .u8 := by kernel_rfl
@[simp] theorem Tryz.som5 : (Tryz.prog.underlying 5).isSome = true := by kernel_rfl
@[simp] theorem Tryz.agg9 : Aw.aggSize Tryz.prog 9 = none := by kernel_rfl
@[simp] theorem Tryz.one9 : Aw.oneSize Tryz.prog 9 = true := by kernel_rfl
@[simp] theorem Tryz.siz9 : Aw.sizeA Tryz.prog 9 = some 1 := by kernel_rfl
@[simp] theorem Tryz.zer9 : Aw.zeroA Tryz.prog 9 = some [.str []] := by kernel_rfl
@[simp] theorem Tryz.zsz9 : Aw.zeroSz Tryz.prog 9 1 = true := by kernel_rfl
@[simp] theorem Tryz.iss9 : Aw.isString Tryz.prog 9 = true := by kernel_rfl
@[simp] theorem Tryz.apd9 : Aw.appendable Tryz.prog 9 = true := by kernel_rfl
@[simp] theorem Tryz.agg12 : Aw.aggSize Tryz.prog 12 = none := by kernel_rfl
@[simp] theorem Tryz.one12 : Aw.oneSize Tryz.prog 12 = true := by kernel_rfl
@[simp] theorem Tryz.siz12 : Aw.sizeA Tryz.prog 12 = some 1 := by kernel_rfl
@[simp] theorem Tryz.zer12 : Aw.zeroA Tryz.prog 12 = some [.int .u64 0] := by kernel_rfl
@[simp] theorem Tryz.zsz12 : Aw.zeroSz Tryz.prog 12 1 = true := by kernel_rfl
@[simp] theorem Tryz.int12 : Aw.intType Tryz.prog 12 = some .u64 := by kernel_rfl
@[simp] theorem Tryz.som12 : (Tryz.prog.underlying 12).isSome = true := by kernel_rfl
@[simp] theorem Tryz.agg21 : Aw.aggSize Tryz.prog 21 = none := by kernel_rfl
@[simp] theorem Tryz.one21 : Aw.oneSize Tryz.prog 21 = true := by kernel_rfl
@[simp] theorem Tryz.siz21 : Aw.sizeA Tryz.prog 21 = some 1 := by kernel_rfl
@[simp] theorem Tryz.zer21 : Aw.zeroA Tryz.prog 21 = some [.int .i32 0] := by kernel_rfl
@[simp] theorem Tryz.zsz21 : Aw.zeroSz Tryz.prog 21 1 = true := by kernel_rfl
@[simp] theorem Tryz.int21 : Aw.intType Tryz.prog 21 = some .i32 := by kernel_rfl
@[simp] theorem Tryz.som21 : (Tryz.prog.underlying 21).isSome = true := by kernel_rfl
@[simp] theorem Tryz.agg23 : Aw.aggSize Tryz.prog 23 = some 2 := by kernel_rfl
@[simp] theorem Tryz.siz23 : Aw.sizeA Tryz.prog 23 = some 2 := by kernel_rfl
@[simp] theorem Tryz.zer23 : Aw.zeroA Tryz.prog 23 = some [.str [], .str []] := by kernel_rfl
@[simp] theorem Tryz.zsz23 : Aw.zeroSz Tryz.prog 23 2 = true := by kernel_rfl
@[simp] theorem Tryz.fld23_0 : Aw.fieldA Tryz.prog 23 0 = some 0 := by kernel_rfl
@[simp] theorem Tryz.fld23_1 : Aw.fieldA Tryz.prog 23 1 = some 1 := by kernel_rfl
@[simp] theorem Tryz.plc23 : Aw.placesA Tryz.prog 23 = some [(0, 1), (1, 1)] := by kernel_rfl
@[simp] theorem Tryz.agg24 : Aw.aggSize Tryz.prog 24 = none := by kernel_rfl
@[simp] theorem Tryz.one24 : Aw.oneSize Tryz.prog 24 = true := by kernel_rfl
@[simp] theorem Tryz.siz24 : Aw.sizeA Tryz.prog 24 = some 1 := by kernel_rfl
@[simp] theorem Tryz.zer24 : Aw.zeroA Tryz.prog 24 = some [.sl .own 1 []] := by kernel_rfl
@[simp] theorem Tryz.zsz24 : Aw.zeroSz Tryz.prog 24 1 = true := by kernel_rfl
@[simp] theorem Tryz.elm24 : Aw.elemA Tryz.prog 24 = some (9, 1, 16) := by kernel_rfl
@[simp] theorem Tryz.isl24 : Aw.isSlice Tryz.prog 24 = true := by kernel_rfl
@[simp] theorem Tryz.apd24 : Aw.appendable Tryz.prog 24 = true := by kernel_rfl
@[simp] theorem Tryz.agg26 : Aw.aggSize Tryz.prog 26 = some 5 := by kernel_rfl
@[simp] theorem Tryz.siz26 : Aw.sizeA Tryz.prog 26 = some 5 := by kernel_rfl
@[simp] theorem Tryz.zer26 : Aw.zeroA Tryz.prog 26 = some [.bool false, .sl .own 1 [], .sl .own 1 [], .sl .own 1 [], .str []] := by kernel_rfl
@[simp] theorem Tryz.zsz26 : Aw.zeroSz Tryz.prog 26 5 = true := by kernel_rfl
@[simp] theorem Tryz.fld26_0 : Aw.fieldA Tryz.prog 26 0 = some 0 := by kernel_rfl
@[simp] theorem Tryz.fld26_1 : Aw.fieldA Tryz.prog 26 1 = some 1 := by kernel_rfl
@[simp] theorem Tryz.fld26_2 : Aw.fieldA Tryz.prog 26 2 = some 2 := by kernel_rfl
@[simp] theorem Tryz.fld26_3 : Aw.fieldA Tryz.prog 26 3 = some 3 := by kernel_rfl
@[simp] theorem Tryz.fld26_4 : Aw.fieldA Tryz.prog 26 4 = some 4 := by kernel_rfl
@[simp] theorem Tryz.plc26 : Aw.placesA Tryz.prog 26 = some [(0, 1), (1, 1), (2, 1), (3, 1), (4, 1)] := by kernel_rfl
@[simp] theorem Tryz.agg28 : Aw.aggSize Tryz.prog 28 = some 1 := by kernel_rfl
@[simp] theorem Tryz.siz28 : Aw.sizeA Tryz.prog 28 = some 1 := by kernel_rfl
@[simp] theorem Tryz.zer28 : Aw.zeroA Tryz.prog 28 = some [.str []] := by kernel_rfl
@[simp] theorem Tryz.zsz28 : Aw.zeroSz Tryz.prog 28 1 = true := by kernel_rfl
@[simp] theorem Tryz.fld28_0 : Aw.fieldA Tryz.prog 28 0 = some 0 := by kernel_rfl
@[simp] theorem Tryz.plc28 : Aw.placesA Tryz.prog 28 = some [(0, 1)] := by kernel_rfl
@[simp] theorem Tryz.agg29 : Aw.aggSize Tryz.prog 29 = none := by kernel_rfl
@[simp] theorem Tryz.one29 : Aw.oneSize Tryz.prog 29 = true := by kernel_rfl
@[simp] theorem Tryz.siz29 : Aw.sizeA Tryz.prog 29 = some 1 := by kernel_rfl
@[simp] theorem Tryz.zer29 : Aw.zeroA Tryz.prog 29 = some [.sl .own 4 []] := by kernel_rfl
@[simp] theorem Tryz.zsz29 : Aw.zeroSz Tryz.prog 29 1 = true := by kernel_rfl
@[simp] theorem Tryz.elm29 : Aw.elemA Tryz.prog 29 = some (122, 4, 64) := by kernel_rfl
@[simp] theorem Tryz.isl29 : Aw.isSlice Tryz.prog 29 = true := by kernel_rfl
@[simp] theorem Tryz.apd29 : Aw.appendable Tryz.prog 29 = true := by kernel_rfl
@[simp] theorem Tryz.agg30 : Aw.aggSize Tryz.prog 30 = none := by kernel_rfl
@[simp] theorem Tryz.one30 : Aw.oneSize Tryz.prog 30 = true := by kernel_rfl
@[simp] theorem Tryz.siz30 : Aw.sizeA Tryz.prog 30 = some 1 := by kernel_rfl
@[simp] theorem Tryz.zer30 : Aw.zeroA Tryz.prog 30 = some [.sl .own 4 []] := by kernel_rfl
@[simp] theorem Tryz.zsz30 : Aw.zeroSz Tryz.prog 30 1 = true := by kernel_rfl
@[simp] theorem Tryz.elm30 : Aw.elemA Tryz.prog 30 = some (172, 4, 64) := by kernel_rfl
@[simp] theorem Tryz.isl30 : Aw.isSlice Tryz.prog 30 = true := by kernel_rfl
@[simp] theorem Tryz.apd30 : Aw.appendable Tryz.prog 30 = true := by kernel_rfl
@[simp] theorem Tryz.agg31 : Aw.aggSize Tryz.prog 31 = none := by kernel_rfl
@[simp] theorem Tryz.one31 : Aw.oneSize Tryz.prog 31 = true := by kernel_rfl
@[simp] theorem Tryz.siz31 : Aw.sizeA Tryz.prog 31 = some 1 := by kernel_rfl
@[simp] theorem Tryz.zer31 : Aw.zeroA Tryz.prog 31 = some [.sl .own 1 []] := by kernel_rfl
@[simp] theorem Tryz.zsz31 : Aw.zeroSz Tryz.prog 31 1 = true := by kernel_rfl
@[simp] theorem Tryz.elm31 : Aw.elemA Tryz.prog 31 = some (3, 1, 8) := by kernel_rfl
@[simp] theorem Tryz.isl31 : Aw.isSlice Tryz.prog 31 = true := by kernel_rfl
@[simp] theorem Tryz.apd31 : Aw.appendable Tryz.prog 31 = true := by kernel_rfl
@[simp] theorem Tryz.agg33 : Aw.aggSize Tryz.prog 33 = some 2 := by kernel_rfl
@[simp] theorem Tryz.siz33 : Aw.sizeA Tryz.prog 33 = some 2 := by kernel_rfl
@[simp] theorem Tryz.zer33 : Aw.zeroA Tryz.prog 33 = some [.sl .own 4 [], .sl .own 1 []] := by kernel_rfl
@[simp] theorem Tryz.zsz33 : Aw.zeroSz Tryz.prog 33 2 = true := by kernel_rfl
@[simp] theorem Tryz.fld33_0 : Aw.fieldA Tryz.prog 33 0 = some 0 := by kernel_rfl
@[simp] theorem Tryz.fld33_1 : Aw.fieldA Tryz.prog 33 1 = some 1 := by kernel_rfl
@[simp] theorem Tryz.plc33 : Aw.placesA Tryz.prog 33 = some [(0, 1), (1, 1)] := by kernel_rfl
@[simp] theorem Tryz.agg34 : Aw.aggSize Tryz.prog 34 = none := by kernel_rfl
@[simp] theorem Tryz.one34 : Aw.oneSize Tryz.prog 34 = true := by kernel_rfl
@[simp] theorem Tryz.siz34 : Aw.sizeA Tryz.prog 34 = some 1 := by kernel_rfl
@[simp] theorem Tryz.zer34 : Aw.zeroA Tryz.prog 34 = some [.sl .own 8 []] := by kernel_rfl
@[simp] theorem Tryz.zsz34 : Aw.zeroSz Tryz.prog 34 1 = true := by kernel_rfl
@[simp] theorem Tryz.elm34 : Aw.elemA Tryz.prog 34 = some (127, 8, 96) := by kernel_rfl
@[simp] theorem Tryz.isl34 : Aw.isSlice Tryz.prog 34 = true := by kernel_rfl
@[simp] theorem Tryz.apd34 : Aw.appendable Tryz.prog 34 = true := by kernel_rfl
@[simp] theorem Tryz.agg35 : Aw.aggSize Tryz.prog 35 = none := by kernel_rfl
@[simp] theorem Tryz.one35 : Aw.oneSize Tryz.prog 35 = true := by kernel_rfl
@[simp] theorem Tryz.siz35 : Aw.sizeA Tryz.prog 35 = some 1 := by kernel_rfl
@[simp] theorem Tryz.zer35 : Aw.zeroA Tryz.prog 35 = some [.sl .own 5 []] := by kernel_rfl
@[simp] theorem Tryz.zsz35 : Aw.zeroSz Tryz.prog 35 1 = true := by kernel_rfl
@[simp] theorem Tryz.elm35 : Aw.elemA Tryz.prog 35 = some (130, 5, 64) := by kernel_rfl
@[simp] theorem Tryz.isl35 : Aw.isSlice Tryz.prog 35 = true := by kernel_rfl
@[simp] theorem Tryz.apd35 : Aw.appendable Tryz.prog 35 = true := by kernel_rfl
@[simp] theorem Tryz.agg36 : Aw.aggSize Tryz.prog 36 = none := by kernel_rfl
@[simp] theorem Tryz.one36 : Aw.oneSize Tryz.prog 36 = true := by kernel_rfl
@[simp] theorem Tryz.siz36 : Aw.sizeA Tryz.prog 36 = some 1 := by kernel_rfl
@[simp] theorem Tryz.zer36 : Aw.zeroA Tryz.prog 36 = some [.sl .own 2 []] := by kernel_rfl
@[simp] theorem Tryz.zsz36 : Aw.zeroSz Tryz.prog 36 1 = true := by kernel_rfl
@[simp] theorem Tryz.elm36 : Aw.elemA Tryz.prog 36 = some (23, 2, 32) := by kernel_rfl
@[simp] theorem Tryz.isl36 : Aw.isSlice Tryz.prog 36 = true := by kernel_rfl
@[simp] theorem Tryz.apd36 : Aw.appendable Tryz.prog 36 = true := by kernel_rfl
@[simp] theorem Tryz.agg38 : Aw.aggSize Tryz.prog 38 = some 22 := by kernel_rfl
@[simp] theorem Tryz.siz38 : Aw.sizeA Tryz.prog 38 = some 22 := by kernel_rfl
@[simp] theorem Tryz.zer38 : Aw.zeroA Tryz.prog 38 = some [.str [], .str [], .bool false, .sl .own 1 [], .sl .own 1 [], .sl .own 1 [], .str [], .str [], .sl .own 4 [], .bool false, .sl .own 4 [], .sl .own 1 [], .sl .own 8 [], .sl .own 5 [], .sl .own 2 [], .int .i64 0, .int .i64 0, .int .i64 0, .int .i64 0, .sl .own 2 [], .sl .own 1 [], .bool false] := by kernel_rfl
@[simp] theorem Tryz.zsz38 : Aw.zeroSz Tryz.prog 38 22 = true := by kernel_rfl
@[simp] theorem Tryz.fld38_0 : Aw.fieldA Tryz.prog 38 0 = some 0 := by kernel_rfl
@[simp] theorem Tryz.fld38_1 : Aw.fieldA Tryz.prog 38 1 = some 2 := by kernel_rfl
@[simp] theorem Tryz.fld38_2 : Aw.fieldA Tryz.prog 38 2 = some 7 := by kernel_rfl
@[simp] theorem Tryz.fld38_3 : Aw.fieldA Tryz.prog 38 3 = some 8 := by kernel_rfl
@[simp] theorem Tryz.fld38_4 : Aw.fieldA Tryz.prog 38 4 = some 9 := by kernel_rfl
@[simp] theorem Tryz.fld38_5 : Aw.fieldA Tryz.prog 38 5 = some 10 := by kernel_rfl
@[simp] theorem Tryz.fld38_6 : Aw.fieldA Tryz.prog 38 6 = some 12 := by kernel_rfl
@[simp] theorem Tryz.fld38_7 : Aw.fieldA Tryz.prog 38 7 = some 13 := by kernel_rfl
@[simp] theorem Tryz.fld38_8 : Aw.fieldA Tryz.prog 38 8 = some 14 := by kernel_rfl
@[simp] theorem Tryz.fld38_9 : Aw.fieldA Tryz.prog 38 9 = some 15 := by kernel_rfl
@[simp] theorem Tryz.fld38_10 : Aw.fieldA Tryz.prog 38 10 = some 16 := by kernel_rfl
@[simp] theorem Tryz.fld38_11 : Aw.fieldA Tryz.prog 38 11 = some 17 := by kernel_rfl
@[simp] theorem Tryz.fld38_12 : Aw.fieldA Tryz.prog 38 12 = some 18 := by kernel_rfl
@[simp] theorem Tryz.fld38_13 : Aw.fieldA Tryz.prog 38 13 = some 19 := by kernel_rfl
@[simp] theorem Tryz.fld38_14 : Aw.fieldA Tryz.prog 38 14 = some 20 := by kernel_rfl
@[simp] theorem Tryz.fld38_15 : Aw.fieldA Tryz.prog 38 15 = some 21 := by kernel_rfl
@[simp] theorem Tryz.plc38 : Aw.placesA Tryz.prog 38 = some [(0, 2), (2, 5), (7, 1), (8, 1), (9, 1), (10, 2), (12, 1), (13, 1), (14, 1), (15, 1), (16, 1), (17, 1), (18, 1), (19, 1), (20, 1), (21, 1)] := by kernel_rfl
@[simp] theorem Tryz.agg42 : Aw.aggSize Tryz.prog 42 = some 2 := by kernel_rfl
@[simp] theorem Tryz.siz42 : Aw.sizeA Tryz.prog 42 = some 2 := by kernel_rfl
@[simp] theorem Tryz.zer42 : Aw.zeroA Tryz.prog 42 = some [.str [], .str []] := by kernel_rfl
@[simp] theorem Tryz.zsz42 : Aw.zeroSz Tryz.prog 42 2 = true := by kernel_rfl
@[simp] theorem Tryz.fld42_0 : Aw.fieldA Tryz.prog 42 0 = some 0 := by kernel_rfl
@[simp] theorem Tryz.fld42_1 : Aw.fieldA Tryz.prog 42 1 = some 1 := by kernel_rfl
@[simp] theorem Tryz.plc42 : Aw.placesA Tryz.prog 42 = some [(0, 1), (1, 1)] := by kernel_rfl
@[simp] theorem Tryz.agg43 : Aw.aggSize Tryz.prog 43 = some 5 := by kernel_rfl
@[simp] theorem Tryz.siz43 : Aw.sizeA Tryz.prog 43 = some 5 := by kernel_rfl
@[simp] theorem Tryz.zer43 : Aw.zeroA Tryz.prog 43 = some [.bool false, .sl .own 1 [], .sl .own 1 [], .sl .own 1 [], .str []] := by kernel_rfl
@[simp] theorem Tryz.zsz43 : Aw.zeroSz Tryz.prog 43 5 = true := by kernel_rfl
@[simp] theorem Tryz.fld43_0 : Aw.fieldA Tryz.prog 43 0 = some 0 := by kernel_rfl
@[simp] theorem Tryz.fld43_1 : Aw.fieldA Tryz.prog 43 1 = some 1 := by kernel_rfl
@[simp] theorem Tryz.fld43_2 : Aw.fieldA Tryz.prog 43 2 = some 2 := by kernel_rfl
@[simp] theorem Tryz.fld43_3 : Aw.fieldA Tryz.prog 43 3 = some 3 := by kernel_rfl
@[simp] theorem Tryz.fld43_4 : Aw.fieldA Tryz.prog 43 4 = some 4 := by kernel_rfl
@[simp] theorem Tryz.plc43 : Aw.placesA Tryz.prog 43 = some [(0, 1), (1, 1), (2, 1), (3, 1), (4, 1)] := by kernel_rfl
@[simp] theorem Tryz.agg44 : Aw.aggSize Tryz.prog 44 = some 1 := by kernel_rfl
@[simp] theorem Tryz.siz44 : Aw.sizeA Tryz.prog 44 = some 1 := by kernel_rfl
@[simp] theorem Tryz.zer44 : Aw.zeroA Tryz.prog 44 = some [.str []] := by kernel_rfl
@[simp] theorem Tryz.zsz44 : Aw.zeroSz Tryz.prog 44 1 = true := by kernel_rfl
@[simp] theorem Tryz.fld44_0 : Aw.fieldA Tryz.prog 44 0 = some 0 := by kernel_rfl
@[simp] theorem Tryz.plc44 : Aw.placesA Tryz.prog 44 = some [(0, 1)] := by kernel_rfl
@[simp] theorem Tryz.agg45 : Aw.aggSize Tryz.prog 45 = none := by kernel_rfl
@[simp] theorem Tryz.one45 : Aw.oneSize Tryz.prog 45 = true := by kernel_rfl
@[simp] theorem Tryz.siz45 : Aw.sizeA Tryz.prog 45 = some 1 := by kernel_rfl
@[simp] theorem Tryz.zer45 : Aw.zeroA Tryz.prog 45 = some [.sl .own 4 []] := by kernel_rfl
@[simp] theorem Tryz.zsz45 : Aw.zeroSz Tryz.prog 45 1 = true := by kernel_rfl
@[simp] theorem Tryz.elm45 : Aw.elemA Tryz.prog 45 = some (133, 4, 64) := by kernel_rfl
@[simp] theorem Tryz.isl45 : Aw.isSlice Tryz.prog 45 = true := by kernel_rfl
@[simp] theorem Tryz.apd45 : Aw.appendable Tryz.prog 45 = true := by kernel_rfl
@[simp] theorem Tryz.agg46 : Aw.aggSize Tryz.prog 46 = none := by kernel_rfl
@[simp] theorem Tryz.one46 : Aw.oneSize Tryz.prog 46 = true := by kernel_rfl
@[simp] theorem Tryz.siz46 : Aw.sizeA Tryz.prog 46 = some 1 := by kernel_rfl
@[simp] theorem Tryz.zer46 : Aw.zeroA Tryz.prog 46 = some [.sl .own 4 []] := by kernel_rfl
@[simp] theorem Tryz.zsz46 : Aw.zeroSz Tryz.prog 46 1 = true := by kernel_rfl
@[simp] theorem Tryz.elm46 : Aw.elemA Tryz.prog 46 = some (175, 4, 64) := by kernel_rfl
@[simp] theorem Tryz.isl46 : Aw.isSlice Tryz.prog 46 = true := by kernel_rfl
@[simp] theorem Tryz.apd46 : Aw.appendable Tryz.prog 46 = true := by kernel_rfl
@[simp] theorem Tryz.agg48 : Aw.aggSize Tryz.prog 48 = some 2 := by kernel_rfl
@[simp] theorem Tryz.siz48 : Aw.sizeA Tryz.prog 48 = some 2 := by kernel_rfl
@[simp] theorem Tryz.zer48 : Aw.zeroA Tryz.prog 48 = some [.sl .own 4 [], .sl .own 1 []] := by kernel_rfl
@[simp] theorem Tryz.zsz48 : Aw.zeroSz Tryz.prog 48 2 = true := by kernel_rfl
@[simp] theorem Tryz.fld48_0 : Aw.fieldA Tryz.prog 48 0 = some 0 := by kernel_rfl
@[simp] theorem Tryz.fld48_1 : Aw.fieldA Tryz.prog 48 1 = some 1 := by kernel_rfl
@[simp] theorem Tryz.plc48 : Aw.placesA Tryz.prog 48 = some [(0, 1), (1, 1)] := by kernel_rfl
@[simp] theorem Tryz.agg49 : Aw.aggSize Tryz.prog 49 = none := by kernel_rfl
@[simp] theorem Tryz.one49 : Aw.oneSize Tryz.prog 49 = true := by kernel_rfl
@[simp] theorem Tryz.siz49 : Aw.sizeA Tryz.prog 49 = some 1 := by kernel_rfl
@[simp] theorem Tryz.zer49 : Aw.zeroA Tryz.prog 49 = some [.sl .own 8 []] := by kernel_rfl
@[simp] theorem Tryz.zsz49 : Aw.zeroSz Tryz.prog 49 1 = true := by kernel_rfl
@[simp] theorem Tryz.elm49 : Aw.elemA Tryz.prog 49 = some (138, 8, 96) := by kernel_rfl
@[simp] theorem Tryz.isl49 : Aw.isSlice Tryz.prog 49 = true := by kernel_rfl
@[simp] theorem Tryz.apd49 : Aw.appendable Tryz.prog 49 = true := by kernel_rfl
@[simp] theorem Tryz.agg50 : Aw.aggSize Tryz.prog 50 = none := by kernel_rfl
@[simp] theorem Tryz.one50 : Aw.oneSize Tryz.prog 50 = true := by kernel_rfl
@[simp] theorem Tryz.siz50 : Aw.sizeA Tryz.prog 50 = some 1 := by kernel_rfl
@[simp] theorem Tryz.zer50 : Aw.zeroA Tryz.prog 50 = some [.sl .own 5 []] := by kernel_rfl
@[simp] theorem Tryz.zsz50 : Aw.zeroSz Tryz.prog 50 1 = true := by kernel_rfl
@[simp] theorem Tryz.elm50 : Aw.elemA Tryz.prog 50 = some (79, 5, 64) := by kernel_rfl
@[simp] theorem Tryz.isl50 : Aw.isSlice Tryz.prog 50 = true := by kernel_rfl
@[simp] theorem Tryz.apd50 : Aw.appendable Tryz.prog 50 = true := by kernel_rfl
@[simp] theorem Tryz.agg51 : Aw.aggSize Tryz.prog 51 = none := by kernel_rfl
@[simp] theorem Tryz.one51 : Aw.oneSize Tryz.prog 51 = true := by kernel_rfl
@[simp] theorem Tryz.siz51 : Aw.sizeA Tryz.prog 51 = some 1 := by kernel_rfl
@[simp] theorem Tryz.zer51 : Aw.zeroA Tryz.prog 51 = some [.sl .own 2 []] := by kernel_rfl
@[simp] theorem Tryz.zsz51 : Aw.zeroSz Tryz.prog 51 1 = true := by kernel_rfl
@[simp] theorem Tryz.elm51 : Aw.elemA Tryz.prog 51 = some (42, 2, 32) := by kernel_rfl
@[simp] theorem Tryz.isl51 : Aw.isSlice Tryz.prog 51 = true := by kernel_rfl
@[simp] theorem Tryz.apd51 : Aw.appendable Tryz.prog 51 = true := by kernel_rfl
@[simp] theorem Tryz.agg53 : Aw.aggSize Tryz.prog 53 = some 22 := by kernel_rfl
@[simp] theorem Tryz.siz53 : Aw.sizeA Tryz.prog 53 = some 22 := by kernel_rfl
@[simp] theorem Tryz.zer53 : Aw.zeroA Tryz.prog 53 = some [.str [], .str [], .bool false, .sl .own 1 [], .sl .own 1 [], .sl .own 1 [], .str [], .str [], .sl .own 4 [], .bool false, .sl .own 4 [], .sl .own 1 [], .sl .own 8 [], .sl .own 5 [], .sl .own 2 [], .int .i64 0, .int .i64 0, .int .i64 0, .int .i64 0, .sl .own 2 [], .sl .own 1 [], .bool false] := by kernel_rfl
@[simp] theorem Tryz.zsz53 : Aw.zeroSz Tryz.prog 53 22 = true := by kernel_rfl
@[simp] theorem Tryz.fld53_0 : Aw.fieldA Tryz.prog 53 0 = some 0 := by kernel_rfl
@[simp] theorem Tryz.fld53_1 : Aw.fieldA Tryz.prog 53 1 = some 2 := by kernel_rfl
@[simp] theorem Tryz.fld53_2 : Aw.fieldA Tryz.prog 53 2 = some 7 := by kernel_rfl
@[simp] theorem Tryz.fld53_3 : Aw.fieldA Tryz.prog 53 3 = some 8 := by kernel_rfl
@[simp] theorem Tryz.fld53_4 : Aw.fieldA Tryz.prog 53 4 = some 9 := by kernel_rfl
@[simp] theorem Tryz.fld53_5 : Aw.fieldA Tryz.prog 53 5 = some 10 := by kernel_rfl
@[simp] theorem Tryz.fld53_6 : Aw.fieldA Tryz.prog 53 6 = some 12 := by kernel_rfl
@[simp] theorem Tryz.fld53_7 : Aw.fieldA Tryz.prog 53 7 = some 13 := by kernel_rfl
@[simp] theorem Tryz.fld53_8 : Aw.fieldA Tryz.prog 53 8 = some 14 := by kernel_rfl
@[simp] theorem Tryz.fld53_9 : Aw.fieldA Tryz.prog 53 9 = some 15 := by kernel_rfl
@[simp] theorem Tryz.fld53_10 : Aw.fieldA Tryz.prog 53 10 = some 16 := by kernel_rfl
@[simp] theorem Tryz.fld53_11 : Aw.fieldA Tryz.prog 53 11 = some 17 := by kernel_rfl
@[simp] theorem Tryz.fld53_12 : Aw.fieldA Tryz.prog 53 12 = some 18 := by kernel_rfl
@[simp] theorem Tryz.fld53_13 : Aw.fieldA Tryz.prog 53 13 = some 19 := by kernel_rfl
@[simp] theorem Tryz.fld53_14 : Aw.fieldA Tryz.prog 53 14 = some 20 := by kernel_rfl
@[simp] theorem Tryz.fld53_15 : Aw.fieldA Tryz.prog 53 15 = some 21 := by kernel_rfl
@[simp] theorem Tryz.plc53 : Aw.placesA Tryz.prog 53 = some [(0, 2), (2, 5), (7, 1), (8, 1), (9, 1), (10, 2), (12, 1), (13, 1), (14, 1), (15, 1), (16, 1), (17, 1), (18, 1), (19, 1), (20, 1), (21, 1)] := by kernel_rfl
@[simp] theorem Tryz.agg63 : Aw.aggSize Tryz.prog 63 = some 6 := by kernel_rfl
@[simp] theorem Tryz.siz63 : Aw.sizeA Tryz.prog 63 = some 6 := by kernel_rfl
@[simp] theorem Tryz.zer63 : Aw.zeroA Tryz.prog 63 = some [.int .i64 0, .int .i64 0, .str [], .int .i64 0, .bool false, .str []] := by kernel_rfl
@[simp] theorem Tryz.zsz63 : Aw.zeroSz Tryz.prog 63 6 = true := by kernel_rfl
@[simp] theorem Tryz.fld63_0 : Aw.fieldA Tryz.prog 63 0 = some 0 := by kernel_rfl
@[simp] theorem Tryz.fld63_1 : Aw.fieldA Tryz.prog 63 1 = some 1 := by kernel_rfl
@[simp] theorem Tryz.fld63_2 : Aw.fieldA Tryz.prog 63 2 = some 2 := by kernel_rfl
@[simp] theorem Tryz.fld63_3 : Aw.fieldA Tryz.prog 63 3 = some 3 := by kernel_rfl
@[simp] theorem Tryz.fld63_4 : Aw.fieldA Tryz.prog 63 4 = some 4 := by kernel_rfl
@[simp] theorem Tryz.fld63_5 : Aw.fieldA Tryz.prog 63 5 = some 5 := by kernel_rfl
@[simp] theorem Tryz.plc63 : Aw.placesA Tryz.prog 63 = some [(0, 1), (1, 1), (2, 1), (3, 1), (4, 1), (5, 1)] := by kernel_rfl
@[simp] theorem Tryz.agg66 : Aw.aggSize Tryz.prog 66 = some 6 := by kernel_rfl
@[simp] theorem Tryz.siz66 : Aw.sizeA Tryz.prog 66 = some 6 := by kernel_rfl
@[simp] theorem Tryz.zer66 : Aw.zeroA Tryz.prog 66 = some [.int .i64 0, .int .i64 0, .str [], .int .i64 0, .bool false, .str []] := by kernel_rfl
@[simp] theorem Tryz.zsz66 : Aw.zeroSz Tryz.prog 66 6 = true := by kernel_rfl
@[simp] theorem Tryz.fld66_0 : Aw.fieldA Tryz.prog 66 0 = some 0 := by kernel_rfl
@[simp] theorem Tryz.fld66_1 : Aw.fieldA Tryz.prog 66 1 = some 1 := by kernel_rfl
@[simp] theorem Tryz.fld66_2 : Aw.fieldA Tryz.prog 66 2 = some 2 := by kernel_rfl
@[simp] theorem Tryz.fld66_3 : Aw.fieldA Tryz.prog 66 3 = some 3 := by kernel_rfl
@[simp] theorem Tryz.fld66_4 : Aw.fieldA Tryz.prog 66 4 = some 4 := by kernel_rfl
@[simp] theorem Tryz.fld66_5 : Aw.fieldA Tryz.prog 66 5 = some 5 := by kernel_rfl
@[simp] theorem Tryz.plc66 : Aw.placesA Tryz.prog 66 = some [(0, 1), (1, 1), (2, 1), (3, 1), (4, 1), (5, 1)] := by kernel_rfl
@[simp] theorem Tryz.agg79 : Aw.aggSize Tryz.prog 79 = some 5 := by kernel_rfl
@[simp] theorem Tryz.siz79 : Aw.sizeA Tryz.prog 79 = some 5 := by kernel_rfl
@[simp] theorem Tryz.zer79 : Aw.zeroA Tryz.prog 79 = some [.str [], .str [], .bool false, .int .i64 0, .str []] := by kernel_rfl
@[simp] theorem Tryz.zsz79 : Aw.zeroSz Tryz.prog 79 5 = true := by kernel_rfl
@[simp] theorem Tryz.fld79_0 : Aw.fieldA Tryz.prog 79 0 = some 0 := by kernel_rfl
@[simp] theorem Tryz.fld79_1 : Aw.fieldA Tryz.prog 79 1 = some 2 := by kernel_rfl
@[simp] theorem Tryz.fld79_2 : Aw.fieldA Tryz.prog 79 2 = some 3 := by kernel_rfl
@[simp] theorem Tryz.fld79_3 : Aw.fieldA Tryz.prog 79 3 = some 4 := by kernel_rfl
@[simp] theorem Tryz.plc79 : Aw.placesA Tryz.prog 79 = some [(0, 2), (2, 1), (3, 1), (4, 1)] := by kernel_rfl
@[simp] theorem Tryz.agg98 : Aw.aggSize Tryz.prog 98 = none := by kernel_rfl
@[simp] theorem Tryz.one98 : Aw.oneSize Tryz.prog 98 = true := by kernel_rfl
@[simp] theorem Tryz.siz98 : Aw.sizeA Tryz.prog 98 = some 1 := by kernel_rfl
@[simp] theorem Tryz.zer98 : Aw.zeroA Tryz.prog 98 = some [.sl .own 2 []] := by kernel_rfl
@[simp] theorem Tryz.zsz98 : Aw.zeroSz Tryz.prog 98 1 = true := by kernel_rfl
@[simp] theorem Tryz.elm98 : Aw.elemA Tryz.prog 98 = some (186, 2, 24) := by kernel_rfl
@[simp] theorem Tryz.isl98 : Aw.isSlice Tryz.prog 98 = true := by kernel_rfl
@[simp] theorem Tryz.apd98 : Aw.appendable Tryz.prog 98 = true := by kernel_rfl
@[simp] theorem Tryz.agg113 : Aw.aggSize Tryz.prog 113 = some 5 := by kernel_rfl
@[simp] theorem Tryz.siz113 : Aw.sizeA Tryz.prog 113 = some 5 := by kernel_rfl
@[simp] theorem Tryz.zer113 : Aw.zeroA Tryz.prog 113 = some [.int .i64 0, .str [], .str [], .str [], .str []] := by kernel_rfl
@[simp] theorem Tryz.zsz113 : Aw.zeroSz Tryz.prog 113 5 = true := by kernel_rfl
@[simp] theorem Tryz.fld113_0 : Aw.fieldA Tryz.prog 113 0 = some 0 := by kernel_rfl
@[simp] theorem Tryz.fld113_1 : Aw.fieldA Tryz.prog 113 1 = some 1 := by kernel_rfl
@[simp] theorem Tryz.fld113_2 : Aw.fieldA Tryz.prog 113 2 = some 3 := by kernel_rfl
@[simp] theorem Tryz.fld113_3 : Aw.fieldA Tryz.prog 113 3 = some 4 := by kernel_rfl
@[simp] theorem Tryz.plc113 : Aw.placesA Tryz.prog 113 = some [(0, 1), (1, 2), (3, 1), (4, 1)] := by kernel_rfl
@[simp] theorem Tryz.agg120 : Aw.aggSize Tryz.prog 120 = none := by kernel_rfl
@[simp] theorem Tryz.one120 : Aw.oneSize Tryz.prog 120 = true := by kernel_rfl
@[simp] theorem Tryz.siz120 : Aw.sizeA Tryz.prog 120 = some 1 := by kernel_rfl
@[simp] theorem Tryz.zer120 : Aw.zeroA Tryz.prog 120 = some [.sl .own 2 []] := by kernel_rfl
@[simp] theorem Tryz.zsz120 : Aw.zeroSz Tryz.prog 120 1 = true := by kernel_rfl
@[simp] theorem Tryz.elm120 : Aw.elemA Tryz.prog 120 = some (211, 2, 32) := by kernel_rfl
@[simp] theorem Tryz.isl120 : Aw.isSlice Tryz.prog 120 = true := by kernel_rfl
@[simp] theorem Tryz.apd120 : Aw.appendable Tryz.prog 120 = true := by kernel_rfl
@[simp] theorem Tryz.agg122 : Aw.aggSize Tryz.prog 122 = some 4 := by kernel_rfl
@[simp] theorem Tryz.siz122 : Aw.sizeA Tryz.prog 122 = some 4 := by kernel_rfl
@[simp] theorem Tryz.zer122 : Aw.zeroA Tryz.prog 122 = some [.int .i64 0, .str [], .sl .own 2 [], .str []] := by kernel_rfl
@[simp] theorem Tryz.zsz122 : Aw.zeroSz Tryz.prog 122 4 = true := by kernel_rfl
@[simp] theorem Tryz.fld122_0 : Aw.fieldA Tryz.prog 122 0 = some 0 := by kernel_rfl
@[simp] theorem Tryz.fld122_1 : Aw.fieldA Tryz.prog 122 1 = some 1 := by kernel_rfl
@[simp] theorem Tryz.fld122_2 : Aw.fieldA Tryz.prog 122 2 = some 2 := by kernel_rfl
@[simp] theorem Tryz.fld122_3 : Aw.fieldA Tryz.prog 122 3 = some 3 := by kernel_rfl
@[simp] theorem Tryz.plc122 : Aw.placesA Tryz.prog 122 = some [(0, 1), (1, 1), (2, 1), (3, 1)] := by kernel_rfl
@[simp] theorem Tryz.agg127 : Aw.aggSize Tryz.prog 127 = some 8 := by kernel_rfl
@[simp] theorem Tryz.siz127 : Aw.sizeA Tryz.prog 127 = some 8 := by kernel_rfl
@[simp] theorem Tryz.zer127 : Aw.zeroA Tryz.prog 127 = some [.int .i64 0, .str [], .str [], .str [], .int .i64 0, .bool false, .int .i64 0, .str []] := by kernel_rfl
@[simp] theorem Tryz.zsz127 : Aw.zeroSz Tryz.prog 127 8 = true := by kernel_rfl
@[simp] theorem Tryz.fld127_0 : Aw.fieldA Tryz.prog 127 0 = some 0 := by kernel_rfl
@[simp] theorem Tryz.fld127_1 : Aw.fieldA Tryz.prog 127 1 = some 1 := by kernel_rfl
@[simp] theorem Tryz.fld127_2 : Aw.fieldA Tryz.prog 127 2 = some 3 := by kernel_rfl
@[simp] theorem Tryz.fld127_3 : Aw.fieldA Tryz.prog 127 3 = some 4 := by kernel_rfl
@[simp] theorem Tryz.fld127_4 : Aw.fieldA Tryz.prog 127 4 = some 5 := by kernel_rfl
@[simp] theorem Tryz.fld127_5 : Aw.fieldA Tryz.prog 127 5 = some 6 := by kernel_rfl
@[simp] theorem Tryz.fld127_6 : Aw.fieldA Tryz.prog 127 6 = some 7 := by kernel_rfl
@[simp] theorem Tryz.plc127 : Aw.placesA Tryz.prog 127 = some [(0, 1), (1, 2), (3, 1), (4, 1), (5, 1), (6, 1), (7, 1)] := by kernel_rfl
@[simp] theorem Tryz.agg130 : Aw.aggSize Tryz.prog 130 = some 5 := by kernel_rfl
@[simp] theorem Tryz.siz130 : Aw.sizeA Tryz.prog 130 = some 5 := by kernel_rfl
@[simp] theorem Tryz.zer130 : Aw.zeroA Tryz.prog 130 = some [.str [], .str [], .bool false, .int .i64 0, .str []] := by kernel_rfl
@[simp] theorem Tryz.zsz130 : Aw.zeroSz Tryz.prog 130 5 = true := by kernel_rfl
@[simp] theorem Tryz.fld130_0 : Aw.fieldA Tryz.prog 130 0 = some 0 := by kernel_rfl
@[simp] theorem Tryz.fld130_1 : Aw.fieldA Tryz.prog 130 1 = some 2 := by kernel_rfl
@[simp] theorem Tryz.fld130_2 : Aw.fieldA Tryz.prog 130 2 = some 3 := by kernel_rfl
@[simp] theorem Tryz.fld130_3 : Aw.fieldA Tryz.prog 130 3 = some 4 := by kernel_rfl
@[simp] theorem Tryz.plc130 : Aw.placesA Tryz.prog 130 = some [(0, 2), (2, 1), (3, 1), (4, 1)] := by kernel_rfl
@[simp] theorem Tryz.agg131 : Aw.aggSize Tryz.prog 131 = none := by kernel_rfl
@[simp] theorem Tryz.one131 : Aw.oneSize Tryz.prog 131 = true := by kernel_rfl
@[simp] theorem Tryz.siz131 : Aw.sizeA Tryz.prog 131 = some 1 := by kernel_rfl
@[simp] theorem Tryz.zer131 : Aw.zeroA Tryz.prog 131 = some [.sl .own 2 []] := by kernel_rfl
@[simp] theorem Tryz.zsz131 : Aw.zeroSz Tryz.prog 131 1 = true := by kernel_rfl
@[simp] theorem Tryz.elm131 : Aw.elemA Tryz.prog 131 = some (200, 2, 32) := by kernel_rfl
@[simp] theorem Tryz.isl131 : Aw.isSlice Tryz.prog 131 = true := by kernel_rfl
@[simp] theorem Tryz.apd131 : Aw.appendable Tryz.prog 131 = true := by kernel_rfl
@[simp] theorem Tryz.agg133 : Aw.aggSize Tryz.prog 133 = some 4 := by kernel_rfl
@[simp] theorem Tryz.siz133 : Aw.sizeA Tryz.prog 133 = some 4 := by kernel_rfl
@[simp] theorem Tryz.zer133 : Aw.zeroA Tryz.prog 133 = some [.int .i64 0, .str [], .sl .own 2 [], .str []] := by kernel_rfl
@[simp] theorem Tryz.zsz133 : Aw.zeroSz Tryz.prog 133 4 = true := by kernel_rfl
@[simp] theorem Tryz.fld133_0 : Aw.fieldA Tryz.prog 133 0 = some 0 := by kernel_rfl
@[simp] theorem Tryz.fld133_1 : Aw.fieldA Tryz.prog 133 1 = some 1 := by kernel_rfl
@[simp] theorem Tryz.fld133_2 : Aw.fieldA Tryz.prog 133 2 = some 2 := by kernel_rfl
@[simp] theorem Tryz.fld133_3 : Aw.fieldA Tryz.prog 133 3 = some 3 := by kernel_rfl
@[simp] theorem Tryz.plc133 : Aw.placesA Tryz.prog 133 = some [(0, 1), (1, 1), (2, 1), (3, 1)] := by kernel_rfl
@[simp] theorem Tryz.agg138 : Aw.aggSize Tryz.prog 138 = some 8 := by kernel_rfl
@[simp] theorem Tryz.siz138 : Aw.sizeA Tryz.prog 138 = some 8 := by kernel_rfl
@[simp] theorem Tryz.zer138 : Aw.zeroA Tryz.prog 138 = some [.int .i64 0, .str [], .str [], .str [], .int .i64 0, .bool false, .int .i64 0, .str []] := by kernel_rfl
@[simp] theorem Tryz.zsz138 : Aw.zeroSz Tryz.prog 138 8 = true := by kernel_rfl
@[simp] theorem Tryz.fld138_0 : Aw.fieldA Tryz.prog 138 0 = some 0 := by kernel_rfl
@[simp] theorem Tryz.fld138_1 : Aw.fieldA Tryz.prog 138 1 = some 1 := by kernel_rfl
@[simp] theorem Tryz.fld138_2 : Aw.fieldA Tryz.prog 138 2 = some 3 := by kernel_rfl
@[simp] theorem Tryz.fld138_3 : Aw.fieldA Tryz.prog 138 3 = some 4 := by kernel_rfl
@[simp] theorem Tryz.fld138_4 : Aw.fieldA Tryz.prog 138 4 = some 5 := by kernel_rfl
@[simp] theorem Tryz.fld138_5 : Aw.fieldA Tryz.prog 138 5 = some 6 := by kernel_rfl
@[simp] theorem Tryz.fld138_6 : Aw.fieldA Tryz.prog 138 6 = some 7 := by kernel_rfl
@[simp] theorem Tryz.plc138 : Aw.placesA Tryz.prog 138 = some [(0, 1), (1, 2), (3, 1), (4, 1), (5, 1), (6, 1), (7, 1)] := by kernel_rfl
@[simp] theorem Tryz.agg158 : Aw.aggSize Tryz.prog 158 = none := by kernel_rfl
@[simp] theorem Tryz.one158 : Aw.oneSize Tryz.prog 158 = true := by kernel_rfl
@[simp] theorem Tryz.siz158 : Aw.sizeA Tryz.prog 158 = some 1 := by kernel_rfl
@[simp] theorem Tryz.zer158 : Aw.zeroA Tryz.prog 158 = some [.sl .own 1 []] := by kernel_rfl
@[simp] theorem Tryz.zsz158 : Aw.zeroSz Tryz.prog 158 1 = true := by kernel_rfl
@[simp] theorem Tryz.elm158 : Aw.elemA Tryz.prog 158 = some (5, 1, 1) := by kernel_rfl
@[simp] theorem Tryz.isl158 : Aw.isSlice Tryz.prog 158 = true := by kernel_rfl
@[simp] theorem Tryz.apd158 : Aw.appendable Tryz.prog 158 = true := by kernel_rfl
@[simp] theorem Tryz.agg172 : Aw.aggSize Tryz.prog 172 = some 4 := by kernel_rfl
@[simp] theorem Tryz.siz172 : Aw.sizeA Tryz.prog 172 = some 4 := by kernel_rfl
@[simp] theorem Tryz.zer172 : Aw.zeroA Tryz.prog 172 = some [.str [], .str [], .int .i64 0, .sl .own 2 []] := by kernel_rfl
@[simp] theorem Tryz.zsz172 : Aw.zeroSz Tryz.prog 172 4 = true := by kernel_rfl
@[simp] theorem Tryz.fld172_0 : Aw.fieldA Tryz.prog 172 0 = some 0 := by kernel_rfl
@[simp] theorem Tryz.fld172_1 : Aw.fieldA Tryz.prog 172 1 = some 1 := by kernel_rfl
@[simp] theorem Tryz.fld172_2 : Aw.fieldA Tryz.prog 172 2 = some 2 := by kernel_rfl
@[simp] theorem Tryz.fld172_3 : Aw.fieldA Tryz.prog 172 3 = some 3 := by kernel_rfl
@[simp] theorem Tryz.plc172 : Aw.placesA Tryz.prog 172 = some [(0, 1), (1, 1), (2, 1), (3, 1)] := by kernel_rfl
@[simp] theorem Tryz.agg175 : Aw.aggSize Tryz.prog 175 = some 4 := by kernel_rfl
@[simp] theorem Tryz.siz175 : Aw.sizeA Tryz.prog 175 = some 4 := by kernel_rfl
@[simp] theorem Tryz.zer175 : Aw.zeroA Tryz.prog 175 = some [.str [], .str [], .int .i64 0, .sl .own 2 []] := by kernel_rfl
@[simp] theorem Tryz.zsz175 : Aw.zeroSz Tryz.prog 175 4 = true := by kernel_rfl
@[simp] theorem Tryz.fld175_0 : Aw.fieldA Tryz.prog 175 0 = some 0 := by kernel_rfl
@[simp] theorem Tryz.fld175_1 : Aw.fieldA Tryz.prog 175 1 = some 1 := by kernel_rfl
@[simp] theorem Tryz.fld175_2 : Aw.fieldA Tryz.prog 175 2 = some 2 := by kernel_rfl
@[simp] theorem Tryz.fld175_3 : Aw.fieldA Tryz.prog 175 3 = some 3 := by kernel_rfl
@[simp] theorem Tryz.plc175 : Aw.placesA Tryz.prog 175 = some [(0, 1), (1, 1), (2, 1), (3, 1)] := by kernel_rfl
@[simp] theorem Tryz.agg186 : Aw.aggSize Tryz.prog 186 = some 2 := by kernel_rfl
@[simp] theorem Tryz.siz186 : Aw.sizeA Tryz.prog 186 = some 2 := by kernel_rfl
@[simp] theorem Tryz.zer186 : Aw.zeroA Tryz.prog 186 = some [.int .i64 0, .str []] := by kernel_rfl
@[simp] theorem Tryz.zsz186 : Aw.zeroSz Tryz.prog 186 2 = true := by kernel_rfl
@[simp] theorem Tryz.fld186_0 : Aw.fieldA Tryz.prog 186 0 = some 0 := by kernel_rfl
@[simp] theorem Tryz.fld186_1 : Aw.fieldA Tryz.prog 186 1 = some 1 := by kernel_rfl
@[simp] theorem Tryz.plc186 : Aw.placesA Tryz.prog 186 = some [(0, 1), (1, 1)] := by kernel_rfl
@[simp] theorem Tryz.agg191 : Aw.aggSize Tryz.prog 191 = some 2 := by kernel_rfl
@[simp] theorem Tryz.siz191 : Aw.sizeA Tryz.prog 191 = some 2 := by kernel_rfl
@[simp] theorem Tryz.zer191 : Aw.zeroA Tryz.prog 191 = some [.undef, .sl .own 1 []] := by kernel_rfl
@[simp] theorem Tryz.zsz191 : Aw.zeroSz Tryz.prog 191 2 = true := by kernel_rfl
@[simp] theorem Tryz.fld191_0 : Aw.fieldA Tryz.prog 191 0 = some 0 := by kernel_rfl
@[simp] theorem Tryz.fld191_1 : Aw.fieldA Tryz.prog 191 1 = some 1 := by kernel_rfl
@[simp] theorem Tryz.agg200 : Aw.aggSize Tryz.prog 200 = some 2 := by kernel_rfl
@[simp] theorem Tryz.siz200 : Aw.sizeA Tryz.prog 200 = some 2 := by kernel_rfl
@[simp] theorem Tryz.zer200 : Aw.zeroA Tryz.prog 200 = some [.str [], .str []] := by kernel_rfl
@[simp] theorem Tryz.zsz200 : Aw.zeroSz Tryz.prog 200 2 = true := by kernel_rfl
@[simp] theorem Tryz.fld200_0 : Aw.fieldA Tryz.prog 200 0 = some 0 := by kernel_rfl
@[simp] theorem Tryz.fld200_1 : Aw.fieldA Tryz.prog 200 1 = some 1 := by kernel_rfl
@[simp] theorem Tryz.plc200 : Aw.placesA Tryz.prog 200 = some [(0, 1), (1, 1)] := by kernel_rfl
@[simp] theorem Tryz.agg211 : Aw.aggSize Tryz.prog 211 = some 2 := by kernel_rfl
@[simp] theorem Tryz.siz211 : Aw.sizeA Tryz.prog 211 = some 2 := by kernel_rfl
@[simp] theorem Tryz.zer211 : Aw.zeroA Tryz.prog 211 = some [.str [], .str []] := by kernel_rfl
@[simp] theorem Tryz.zsz211 : Aw.zeroSz Tryz.prog 211 2 = true := by kernel_rfl
@[simp] theorem Tryz.fld211_0 : Aw.fieldA Tryz.prog 211 0 = some 0 := by kernel_rfl
@[simp] theorem Tryz.fld211_1 : Aw.fieldA Tryz.prog 211 1 = some 1 := by kernel_rfl
@[simp] theorem Tryz.plc211 : Aw.placesA Tryz.prog 211 = some [(0, 1), (1, 1)] := by kernel_rfl
@[simp] theorem Tryz.agg222 : Aw.aggSize Tryz.prog 222 = some 3 := by kernel_rfl
@[simp] theorem Tryz.siz222 : Aw.sizeA Tryz.prog 222 = some 3 := by kernel_rfl
@[simp] theorem Tryz.zer222 : Aw.zeroA Tryz.prog 222 = some [.sl .own 1 [], .sl .own 1 [], .sl .own 1 []] := by kernel_rfl
@[simp] theorem Tryz.zsz222 : Aw.zeroSz Tryz.prog 222 3 = true := by kernel_rfl
@[simp] theorem Tryz.plc222 : Aw.placesA Tryz.prog 222 = some [] := by kernel_rfl
@[simp] theorem Tryz.arr222 : Aw.arrA Tryz.prog 222 = some (3, 1) := by kernel_rfl
@[simp] theorem Tryz.agg235 : Aw.aggSize Tryz.prog 235 = none := by kernel_rfl
@[simp] theorem Tryz.one235 : Aw.oneSize Tryz.prog 235 = true := by kernel_rfl
@[simp] theorem Tryz.siz235 : Aw.sizeA Tryz.prog 235 = some 1 := by kernel_rfl
@[simp] theorem Tryz.zer235 : Aw.zeroA Tryz.prog 235 = some [.int .u64 0] := by kernel_rfl
@[simp] theorem Tryz.zsz235 : Aw.zeroSz Tryz.prog 235 1 = true := by kernel_rfl
@[simp] theorem Tryz.int235 : Aw.intType Tryz.prog 235 = some .u64 := by kernel_rfl
@[simp] theorem Tryz.som235 : (Tryz.prog.underlying 235).isSome = true := by kernel_rfl
@[simp] theorem Tryz.agg240 : Aw.aggSize Tryz.prog 240 = some 2 := by kernel_rfl
@[simp] theorem Tryz.siz240 : Aw.sizeA Tryz.prog 240 = some 2 := by kernel_rfl
@[simp] theorem Tryz.zer240 : Aw.zeroA Tryz.prog 240 = some [.int .u8 0, .int .u8 0] := by kernel_rfl
@[simp] theorem Tryz.zsz240 : Aw.zeroSz Tryz.prog 240 2 = true := by kernel_rfl
@[simp] theorem Tryz.fld240_0 : Aw.fieldA Tryz.prog 240 0 = some 0 := by kernel_rfl
@[simp] theorem Tryz.fld240_1 : Aw.fieldA Tryz.prog 240 1 = some 1 := by kernel_rfl
@[simp] theorem Tryz.plc240 : Aw.placesA Tryz.prog 240 = some [(0, 1), (1, 1)] := by kernel_rfl
@[simp] theorem Tryz.agg242 : Aw.aggSize Tryz.prog 242 = none := by kernel_rfl
@[simp] theorem Tryz.one242 : Aw.oneSize Tryz.prog 242 = true := by kernel_rfl
@[simp] theorem Tryz.siz242 : Aw.sizeA Tryz.prog 242 = some 1 := by kernel_rfl
@[simp] theorem Tryz.zer242 : Aw.zeroA Tryz.prog 242 = some [.int .u32 0] := by kernel_rfl
@[simp] theorem Tryz.zsz242 : Aw.zeroSz Tryz.prog 242 1 = true := by kernel_rfl
@[simp] theorem Tryz.int242 : Aw.intType Tryz.prog 242 = some .u32 := by kernel_rfl
@[simp] theorem Tryz.som242 : (Tryz.prog.underlying 242).isSome = true := by kernel_rfl
@[simp] theorem Tryz.agg247 : Aw.aggSize Tryz.prog 247 = none := by kernel_rfl
@[simp] theorem Tryz.one247 : Aw.oneSize Tryz.prog 247 = true := by kernel_rfl
@[simp] theorem Tryz.siz247 : Aw.sizeA Tryz.prog 247 = some 1 := by kernel_rfl
@[simp] theorem Tryz.zer247 : Aw.zeroA Tryz.prog 247 = some [.int .u64 0] := by kernel_rfl
@[simp] theorem Tryz.zsz247 : Aw.zeroSz Tryz.prog 247 1 = true := by kernel_rfl
@[simp] theorem Tryz.int247 : Aw.intType Tryz.prog 247 = some .u64 := by kernel_rfl
@[simp] theorem Tryz.som247 : (Tryz.prog.underlying 247).isSome = true := by kernel_rfl
@[simp] theorem Tryz.cal4 : Aw.callable Tryz.prog 4 = true := by kernel_rfl
@[simp] theorem Tryz.cal6 : Aw.callable Tryz.prog 6 = true := by kernel_rfl
@[simp] theorem Tryz.cal7 : Aw.callable Tryz.prog 7 = true := by kernel_rfl
@[simp] theorem Tryz.cal8 : Aw.callable Tryz.prog 8 = true := by kernel_rfl
@[simp] theorem Tryz.cal10 : Aw.callable Tryz.prog 10 = true := by kernel_rfl
@[simp] theorem Tryz.cal11 : Aw.callable Tryz.prog 11 = true := by kernel_rfl
@[simp] theorem Tryz.cal13 : Aw.callable Tryz.prog 13 = true := by kernel_rfl
@[simp] theorem Tryz.cal18 : Aw.callable Tryz.prog 18 = true := by kernel_rfl
@[simp] theorem Tryz.cal19 : Aw.callable Tryz.prog 19 = true := by kernel_rfl
@[simp] theorem Tryz.cal20 : Aw.callable Tryz.prog 20 = true := by kernel_rfl
@[simp] theorem Tryz.cal21 : Aw.callable Tryz.prog 21 = true := by kernel_rfl
@[simp] theorem Tryz.cal22 : Aw.callable Tryz.prog 22 = true := by kernel_rfl
@[simp] theorem Tryz.cal23 : Aw.callable Tryz.prog 23 = true := by kernel_rfl
@[simp] theorem Tryz.cal24 : Aw.callable Tryz.prog 24 = true := by kernel_rfl
@[simp] theorem Tryz.cal25 : Aw.callable Tryz.prog 25 = true := by kernel_rfl
@[simp] theorem Tryz.cal26 : Aw.callable Tryz.prog 26 = true := by kernel_rfl
@[simp] theorem Tryz.cal27 : Aw.callable Tryz.prog 27 = true := by kernel_rfl
@[simp] theorem Tryz.cal28 : Aw.callable Tryz.prog 28 = true := by kernel_rfl
@[simp] theorem Tryz.cal29 : Aw.callable Tryz.prog 29 = true := by kernel_rfl
@[simp] theorem Tryz.cal30 : Aw.callable Tryz.prog 30 = true := by kernel_rfl
@[simp] theorem Tryz.cal31 : Aw.callable Tryz.prog 31 = true := by kernel_rfl
@[simp] theorem Tryz.cal32 : Aw.callable Tryz.prog 32 = true := by kernel_rfl
@[simp] theorem Tryz.cal33 : Aw.callable Tryz.prog 33 = true := by kernel_rfl
@[simp] theorem Tryz.cal34 : Aw.callable Tryz.prog 34 = true := by kernel_rfl
@[simp] theorem Tryz.cal35 : Aw.callable Tryz.prog 35 = true := by kernel_rfl
@[simp] theorem Tryz.cal36 : Aw.callable Tryz.prog 36 = true := by kernel_rfl
@[simp] theorem Tryz.cal37 : Aw.callable Tryz.prog 37 = true := by kernel_rfl
@[simp] theorem Tryz.cal38 : Aw.callable Tryz.prog 38 = true := by kernel_rfl
@[simp] theorem Tryz.cal39 : Aw.callable Tryz.prog 39 = true := by kernel_rfl
@[simp] theorem Tryz.cal40 : Aw.callable Tryz.prog 40 = true := by kernel_rfl
@[simp] theorem Tryz.cal41 : Aw.callable Tryz.prog 41 = true := by kernel_rfl
@[simp] theorem Tryz.cal42 : Aw.callable Tryz.prog 42 = true := by kernel_rfl
@[simp] theorem Tryz.cal43 : Aw.callable Tryz.prog 43 = true := by kernel_rfl
@[simp] theorem Tryz.cal44 : Aw.callable Tryz.prog 44 = true := by kernel_rfl
@[simp] theorem Tryz.cal45 : Aw.callable Tryz.prog 45 = true := by kernel_rfl
@[simp] theorem Tryz.cal46 : Aw.callable Tryz.prog 46 = true := by kernel_rfl
@[simp] theorem Tryz.cal47 : Aw.callable Tryz.prog 47 = true := by kernel_rfl
@[simp] theorem Tryz.cal48 : Aw.callable Tryz.prog 48 = true := by kernel_rfl
@[simp] theorem Tryz.cal49 : Aw.callable Tryz.prog 49 = true := by kernel_rfl
@[simp] theorem Tryz.cal50 : Aw.callable Tryz.prog 50 = true := by kernel_rfl
@[simp] theorem Tryz.cal51 : Aw.callable Tryz.prog 51 = true := by kernel_rfl
@[simp] theorem Tryz.cal52 : Aw.callable Tryz.prog 52 = true := by kernel_rfl
@[simp] theorem Tryz.cal53 : Aw.callable Tryz.prog 53 = true := by kernel_rfl
@[simp] theorem Tryz.cal54 : Aw.callable Tryz.prog 54 = true := by kernel_rfl
@[simp] theorem Tryz.cal57 : Aw.callable Tryz.prog 57 = true := by kernel_rfl
@[simp] theorem Tryz.cal58 : Aw.callable Tryz.prog 58 = true := by kernel_rfl
@[simp] theorem Tryz.cal59 : Aw.callable Tryz.prog 59 = true := by kernel_rfl
@[simp] theorem Tryz.cal60 : Aw.callable Tryz.prog 60 = true := by kernel_rfl
@[simp] theorem Tryz.cal61 : Aw.callable Tryz.prog 61 = true := by kernel_rfl
@[simp] theorem Tryz.cal62 : Aw.callable Tryz.prog 62 = true := by kernel_rfl
@[simp] theorem Tryz.cal63 : Aw.callable Tryz.prog 63 = true := by kernel_rfl
@[simp] theorem Tryz.cal64 : Aw.callable Tryz.prog 64 = true := by kernel_rfl
@[simp] theorem Tryz.cal65 : Aw.callable Tryz.prog 65 = true := by kernel_rfl
@[simp] theorem Tryz.cal66 : Aw.callable Tryz.prog 66 = true := by kernel_rfl
@[simp] theorem Tryz.cal67 : Aw.callable Tryz.prog 67 = true := by kernel_rfl
@[simp] theorem Tryz.cal68 : Aw.callable Tryz.prog 68 = true := by kernel_rfl
@[simp] theorem Tryz.cal69 : Aw.callable Tryz.prog 69 = true := by kernel_rfl
@[simp] theorem Tryz.cal70 : Aw.callable Tryz.prog 70 = true := by kernel_rfl
@[simp] theorem Tryz.cal71 : Aw.callable Tryz.prog 71 = true := by kernel_rfl
@[simp] theorem Tryz.cal72 : Aw.callable Tryz.prog 72 = true := by kernel_rfl
@[simp] theorem Tryz.cal73 : Aw.callable Tryz.prog 73 = true := by kernel_rfl
@[simp] theorem Tryz.cal74 : Aw.callable Tryz.prog 74 = true := by kernel_rfl
@[simp] theorem Tryz.cal75 : Aw.callable Tryz.prog 75 = true := by kernel_rfl
@[simp] theorem Tryz.cal76 : Aw.callable Tryz.prog 76 = true := by kernel_rfl
@[simp] theorem Tryz.cal77 : Aw.callable Tryz.prog 77 = true := by kernel_rfl
@[simp] theorem Tryz.cal78 : Aw.callable Tryz.prog 78 = true := by kernel_rfl
@[simp] theorem Tryz.cal79 : Aw.callable Tryz.prog 79 = true := by kernel_rfl
@[simp] theorem Tryz.cal80 : Aw.callable Tryz.prog 80 = true := by kernel_rfl
@[simp] theorem Tryz.cal81 : Aw.callable Tryz.prog 81 = true := by kernel_rfl
@[simp] theorem Tryz.cal82 : Aw.callable Tryz.prog 82 = true := by kernel_rfl
@[simp] theorem Tryz.cal83 : Aw.callable Tryz.prog 83 = true := by kernel_rfl
@[simp] theorem Tryz.cal84 : Aw.callable Tryz.prog 84 = true := by kernel_rfl
@[simp] theorem Tryz.cal85 : Aw.callable Tryz.prog 85 = true := by kernel_rfl
@[simp] theorem Tryz.cal86 : Aw.callable Tryz.prog 86 = true := by kernel_rfl
@[simp] theorem Tryz.cal87 : Aw.callable Tryz.prog 87 = true := by kernel_rfl
@[simp] theorem Tryz.cal88 : Aw.callable Tryz.prog 88 = true := by kernel_rfl
@[simp] theorem Tryz.cal89 : Aw.callable Tryz.prog 89 = true := by kernel_rfl
@[simp] theorem Tryz.cal90 : Aw.callable Tryz.prog 90 = true := by kernel_rfl
@[simp] theorem Tryz.cal91 : Aw.callable Tryz.prog 91 = true := by kernel_rfl
@[simp] theorem Tryz.cal92 : Aw.callable Tryz.prog 92 = true := by kernel_rfl
@[simp] theorem Tryz.cal93 : Aw.callable Tryz.prog 93 = true := by kernel_rfl
@[simp] theorem Tryz.cal94 : Aw.callable Tryz.prog 94 = true := by kernel_rfl
@[simp] theorem Tryz.cal95 : Aw.callable Tryz.prog 95 = true := by kernel_rfl
@[simp] theorem Tryz.cal96 : Aw.callable Tryz.prog 96 = true := by kernel_rfl
@[simp] theorem Tryz.cal97 : Aw.callable Tryz.prog 97 = true := by kernel_rfl
@[simp] theorem Tryz.cal98 : Aw.callable Tryz.prog 98 = true := by kernel_rfl
@[simp] theorem Tryz.cal99 : Aw.callable Tryz.prog 99 = true := by kernel_rfl
@[simp] theorem Tryz.cal100 : Aw.callable Tryz.prog 100 = true := by kernel_rfl
@[simp] theorem Tryz.cal101 : Aw.callable Tryz.prog 101 = true := by kernel_rfl
@[simp] theorem Tryz.cal102 : Aw.callable Tryz.prog 102 = true := by kernel_rfl
@[simp] theorem Tryz.cal103 : Aw.callable Tryz.prog 103 = true := by kernel_rfl
@[simp] theorem Tryz.cal104 : Aw.callable Tryz.prog 104 = true := by kernel_rfl
@[simp] theorem Tryz.cal105 : Aw.callable Tryz.prog 105 = true := by kernel_rfl
@[simp] theorem Tryz.cal106 : Aw.callable Tryz.prog 106 = true := by kernel_rfl
@[simp] theorem Tryz.cal107 : Aw.callable Tryz.prog 107 = true := by kernel_rfl
@[simp] theorem Tryz.cal108 : Aw.callable Tryz.prog 108 = true := by kernel_rfl
@[simp] theorem Tryz.cal109 : Aw.callable Tryz.prog 109 = true := by kernel_rfl
@[simp] theorem Tryz.cal110 : Aw.callable Tryz.prog 110 = true := by kernel_rfl
@[simp] theorem Tryz.cal111 : Aw.callable Tryz.prog 111 = true := by kernel_rfl
@[simp] theorem Tryz.cal112 : Aw.callable Tryz.prog 112 = true := by kernel_rfl
@[simp] theorem Tryz.cal113 : Aw.callable Tryz.prog 113 = true := by kernel_rfl
@[simp] theorem Tryz.cal114 : Aw.callable Tryz.prog 114 = true := by kernel_rfl
@[simp] theorem Tryz.cal115 : Aw.callable Tryz.prog 115 = true := by kernel_rfl
@[simp] theorem Tryz.cal116 : Aw.callable Tryz.prog 116 = true := by kernel_rfl
@[simp] theorem Tryz.cal117 : Aw.callable Tryz.prog 117 = true := by kernel_rfl
@[simp] theorem Tryz.cal118 : Aw.callable Tryz.prog 118 = true := by kernel_rfl
@[simp] theorem Tryz.cal119 : Aw.callable Tryz.prog 119 = true := by kernel_rfl
@[simp] theorem Tryz.cal120 : Aw.callable Tryz.prog 120 = true := by kernel_rfl
@[simp] theorem Tryz.cal121 : Aw.callable Tryz.prog 121 = true := by kernel_rfl
@[simp] theorem Tryz.cal122 : Aw.callable Tryz.prog 122 = true := by kernel_rfl
@[simp] theorem Tryz.cal123 : Aw.callable Tryz.prog 123 = true := by kernel_rfl
@[simp] theorem Tryz.cal124 : Aw.callable Tryz.prog 124 = true := by kernel_rfl
@[simp] theorem Tryz.cal125 : Aw.callable Tryz.prog 125 = true := by kernel_rfl
@[simp] theorem Tryz.cal126 : Aw.callable Tryz.prog 126 = true := by kernel_rfl
@[simp] theorem Tryz.cal127 : Aw.callable Tryz.prog 127 = true := by kernel_rfl
@[simp] theorem Tryz.cal128 : Aw.callable Tryz.prog 128 = true := by kernel_rfl
@[simp] theorem Tryz.cal129 : Aw.callable Tryz.prog 129 = true := by kernel_rfl
@[simp] theorem Tryz.cal130 : Aw.callable Tryz.prog 130 = true := by kernel_rfl
@[simp] theorem Tryz.cal131 : Aw.callable Tryz.prog 131 = true := by kernel_rfl
@[simp] theorem Tryz.cal132 : Aw.callable Tryz.prog 132 = true := by kernel_rfl
@[simp] theorem Tryz.cal133 : Aw.callable Tryz.prog 133 = true := by kernel_rfl
@[simp] theorem Tryz.cal134 : Aw.callable Tryz.prog 134 = true := by kernel_rfl
@[simp] theorem Tryz.cal135 : Aw.callable Tryz.prog 135 = true := by kernel_rfl
@[simp] theorem Tryz.cal136 : Aw.callable Tryz.prog 136 = true := by kernel_rfl
@[simp] theorem Tryz.cal137 : Aw.callable Tryz.prog 137 = true := by kernel_rfl
@[simp] theorem Tryz.cal138 : Aw.callable Tryz.prog 138 = true := by kernel_rfl
@[simp] theorem Tryz.cal140 : Aw.callable Tryz.prog 140 = true := by kernel_rfl
@[simp] theorem Tryz.cal141 : Aw.callable Tryz.prog 141 = true := by kernel_rfl
@[simp] theorem Tryz.cal142 : Aw.callable Tryz.prog 142 = true := by kernel_rfl
@[simp] theorem Tryz.cal143 : Aw.callable Tryz.prog 143 = true := by kernel_rfl
@[simp] theorem Tryz.cal147 : Aw.callable Tryz.prog 147 = true := by kernel_rfl
@[simp] theorem Tryz.cal148 : Aw.callable Tryz.prog 148 = true := by kernel_rfl
@[simp] theorem Tryz.cal149 : Aw.callable Tryz.prog 149 = true := by kernel_rfl
@[simp] theorem Tryz.cal150 : Aw.callable Tryz.prog 150 = true := by kernel_rfl
@[simp] theorem Tryz.cal151 : Aw.callable Tryz.prog 151 = true := by kernel_rfl
@[simp] theorem Tryz.cal152 : Aw.callable Tryz.prog 152 = true := by kernel_rfl
@[simp] theorem Tryz.cal153 : Aw.callable Tryz.prog 153 = true := by kernel_rfl
@[simp] theorem Tryz.cal154 : Aw.callable Tryz.prog 154 = true := by kernel_rfl
@[simp] theorem Tryz.cal155 : Aw.callable Tryz.prog 155 = true := by kernel_rfl
@[simp] theorem Tryz.cal156 : Aw.callable Tryz.prog 156 = true := by kernel_rfl
@[simp] theorem Tryz.cal157 : Aw.callable Tryz.prog 157 = true := by kernel_rfl
@[simp] theorem Tryz.cal158 : Aw.callable Tryz.prog 158 = true := by kernel_rfl
@[simp] theorem Tryz.cal159 : Aw.callable Tryz.prog 159 = true := by kernel_rfl
@[simp] theorem Tryz.cal160 : Aw.callable Tryz.prog 160 = true := by kernel_rfl
@[simp] theorem Tryz.cal161 : Aw.callable Tryz.prog 161 = true := by kernel_rfl
@[simp] theorem Tryz.cal164 : Aw.callable Tryz.prog 164 = true := by kernel_rfl
@[simp] theorem Tryz.cal165 : Aw.callable Tryz.prog 165 = true := by kernel_rfl
@[simp] theorem Tryz.cal166 : Aw.callable Tryz.prog 166 = true := by kernel_rfl
@[simp] theorem Tryz.cal167 : Aw.callable Tryz.prog 167 = true := by kernel_rfl
@[simp] theorem Tryz.cal168 : Aw.callable Tryz.prog 168 = true := by kernel_rfl
@[simp] theorem Tryz.cal169 : Aw.callable Tryz.prog 169 = true := by kernel_rfl
@[simp] theorem Tryz.cal173 : Aw.callable Tryz.prog 173 = true := by kernel_rfl
@[simp] theorem Tryz.cal174 : Aw.callable Tryz.prog 174 = true := by kernel_rfl
@[simp] theorem Tryz.cal175 : Aw.callable Tryz.prog 175 = true := by kernel_rfl
@[simp] theorem Tryz.cal176 : Aw.callable Tryz.prog 176 = true := by kernel_rfl
@[simp] theorem Tryz.cal179 : Aw.callable Tryz.prog 179 = true := by kernel_rfl
@[simp] theorem Tryz.cal180 : Aw.callable Tryz.prog 180 = true := by kernel_rfl
@[simp] theorem Tryz.cal181 : Aw.callable Tryz.prog 181 = true := by kernel_rfl
@[simp] theorem Tryz.cal182 : Aw.callable Tryz.prog 182 = true := by kernel_rfl
@[simp] theorem Tryz.cal183 : Aw.callable Tryz.prog 183 = true := by kernel_rfl
@[simp] theorem Tryz.cal184 : Aw.callable Tryz.prog 184 = true := by kernel_rfl
@[simp] theorem Tryz.cal185 : Aw.callable Tryz.prog 185 = true := by kernel_rfl
@[simp] theorem Tryz.cal186 : Aw.callable Tryz.prog 186 = true := by kernel_rfl
@[simp] theorem Tryz.cal187 : Aw.callable Tryz.prog 187 = true := by kernel_rfl
@[simp] theorem Tryz.cal188 : Aw.callable Tryz.prog 188 = true := by kernel_rfl
@[simp] theorem Tryz.cal189 : Aw.callable Tryz.prog 189 = true := by kernel_rfl
@[simp] theorem Tryz.cal190 : Aw.callable Tryz.prog 190 = true := by kernel_rfl
@[simp] theorem Tryz.cal191 : Aw.callable Tryz.prog 191 = true := by kernel_rfl
@[simp] theorem Tryz.cal192 : Aw.callable Tryz.prog 192 = true := by kernel_rfl
@[simp] theorem Tryz.cal194 : Aw.callable Tryz.prog 194 = true := by kernel_rfl
@[simp] theorem Tryz.cal198 : Aw.callable Tryz.prog 198 = true := by kernel_rfl
@[simp] theorem Tryz.cal201 : Aw.callable Tryz.prog 201 = true := by kernel_rfl
@[simp] theorem Tryz.cal202 : Aw.callable Tryz.prog 202 = true := by kernel_rfl
@[simp] theorem Tryz.cal203 : Aw.callable Tryz.prog 203 = true := by kernel_rfl
@[simp] theorem Tryz.cal204 : Aw.callable Tryz.prog 204 = true := by kernel_rfl
@[simp] theorem Tryz.cal205 : Aw.callable Tryz.prog 205 = true := by kernel_rfl
@[simp] theorem Tryz.cal206 : Aw.callable Tryz.prog 206 = true := by kernel_rfl
@[simp] theorem Tryz.cal208 : Aw.callable Tryz.prog 208 = true := by kernel_rfl
@[simp] theorem Tryz.cal209 : Aw.callable Tryz.prog 209 = false := by kernel_rfl
@[simp] theorem Tryz.cal212 : Aw.callable Tryz.prog 212 = true := by kernel_rfl
@[simp] theorem Tryz.cal216 : Aw.callable Tryz.prog 216 = true := by kernel_rfl
@[simp] theorem Tryz.cal217 : Aw.callable Tryz.prog 217 = true := by kernel_rfl
@[simp] theorem Tryz.cal219 : Aw.callable Tryz.prog 219 = false := by kernel_rfl
@[simp] theorem Tryz.cal221 : Aw.callable Tryz.prog 221 = true := by kernel_rfl
@[simp] theorem Tryz.cal222 : Aw.callable Tryz.prog 222 = true := by kernel_rfl
@[simp] theorem Tryz.cal227 : Aw.callable Tryz.prog 227 = true := by kernel_rfl
end Go.Proofs.YtphofanfadgalaaGreatDoor
