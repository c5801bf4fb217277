/-
  Proved here: closed facts of the translated program: types, their sizes, results.
  No condition beyond what each statement spells out.
-/
import Derived.Test.YtonajehhfkkglabGreatProg
import Derived.Test.YtonajehhfkkglabGreatF3
import Derived.KernelRfl
set_option linter.all false
/-
  Closed facts on the translation: sizes, fields and zero values of its types; that its functions have bodies. Written by a program of ours.
-/
namespace Go.Proofs.YtonajehhfkkglabGreat
@[simp] theorem Tryz.agg2 : Aw.aggSize Tryz.prog 2 = none := by kernel_rfl
@[simp] theorem Tryz.one2 : Aw.oneSize Tryz.prog 2 = true := by kernel_rfl
@[simp] theorem Tryz.siz2 : Aw.sizeA Tryz.prog 2 = some 1 := by kernel_rfl
@[simp] theorem Tryz.zer2 : Aw.zeroA Tryz.prog 2 = some [.int .i64 0] := by kernel_rfl
@[simp] theorem Tryz.zsz2 : Aw.zeroSz Tryz.prog 2 1 = true := by kernel_rfl
@[simp] theorem Tryz.int2 : Aw.intType Tryz.prog 2 = some .i64 := by kernel_rfl
@[simp] theorem Tryz.som2 : (Tryz.prog.underlying 2).isSome = true := by kernel_rfl
@[simp] theorem Tryz.agg3 : Aw.aggSize Tryz.prog 3 = none := by kernel_rfl
@[simp] theorem Tryz.one3 : Aw.oneSize Tryz.prog 3 = true := by kernel_rfl
@[simp] theorem Tryz.siz3 : Aw.sizeA Tryz.prog 3 = some 1 := by kernel_rfl
@[simp] theorem Tryz.zer3 : Aw.zeroA Tryz.prog 3 = some [.int .i64 0] := by kernel_rfl
@[simp] theorem Tryz.zsz3 : Aw.zeroSz Tryz.prog 3 1 = true := by kernel_rfl
@[simp] theorem Tryz.int3 : Aw.intType Tryz.prog 3 = some .i64 := by kernel_rfl
@[simp] theorem Tryz.som3 : (Tryz.prog.underlying 3).isSome = true := by kernel_rfl
@[simp] theorem Tryz.agg4 : Aw.aggSize Tryz.prog 4 = none := by kernel_rfl
@[simp] theorem Tryz.one4 : Aw.oneSize Tryz.prog 4 = true := by kernel_rfl
@[simp] theorem Tryz.siz4 : Aw.sizeA Tryz.prog 4 = some 1 := by kernel_rfl
@[simp] theorem Tryz.zer4 : Aw.zeroA Tryz.prog 4 = some [.bool false] := by kernel_rfl
@[simp] theorem Tryz.zsz4 : Aw.zeroSz Tryz.prog 4 1 = true := by kernel_rfl
@[simp] theorem Tryz.bol4 : Aw.boolType Tryz.prog 4 = true := by kernel_rfl
@[simp] theorem Tryz.agg5 : Aw.aggSize Tryz.prog 5 = none := by kernel_rfl
@[simp] theorem Tryz.one5 : Aw.oneSize Tryz.prog 5 = true := by kernel_rfl
@[simp] theorem Tryz.siz5 : Aw.sizeA Tryz.prog 5 = some 1 := by kernel_rfl
@[simp] theorem Tryz.zer5 : Aw.zeroA Tryz.prog 5 = some [.int .u8 0] := by kernel_rfl
@[simp] theorem Tryz.zsz5 : Aw.zeroSz Tryz.prog 5 1 = true := by kernel_rfl
@[simp] theorem Tryz.int5 : Aw.intType Tryz.prog 5 = some .u8 := by kernel_rfl
@[simp] theorem Tryz.som5 : (Tryz.prog.underlying 5).isSome = true := by kernel_rfl
@[simp] theorem Tryz.agg9 : Aw.aggSize Tryz.prog 9 = none := by kernel_rfl
@[simp] theorem Tryz.one9 : Aw.oneSize Tryz.prog 9 = true := by kernel_rfl
@[simp] theorem Tryz.siz9 : Aw.sizeA Tryz.prog 9 = some 1 := by kernel_rfl
@[simp] theorem Tryz.zer9 : Aw.zeroA Tryz.prog 9 = some [.str []] := by kernel_rfl
@[simp] theorem Tryz.zsz9 : Aw.zeroSz Tryz.prog 9 1 = true := by kernel_rfl
@[simp] theorem Tryz.iss9 : Aw.isString Tryz.prog 9 = true := by kernel_rfl
@[simp] theorem Tryz.apd9 : Aw.appendable Tryz.prog 9 = true := by kernel_rfl
@[simp] theorem Tryz.agg12 : Aw.aggSize Tryz.prog 12 = none := by kernel_rfl
@[simp] theorem Tryz.one12 : Aw.oneSize Tryz.prog 12 = true := by kernel_rfl
@[simp] theorem Tryz.siz12 : Aw.sizeA Tryz.prog 12 = some 1 := by kernel_rfl
@[simp] theorem Tryz.zer12 : Aw.zeroA Tryz.prog 12 = some [.int .u64 0] := by kernel_rfl
@[simp] theorem Tryz.zsz12 : Aw.zeroSz Tryz.prog 12 1 = true := by kernel_rfl
@[simp] theorem Tryz.int12 : Aw.intType Tryz.prog 12 = some .u64 := by kernel_rfl
@[simp] theorem Tryz.som12 : (Tryz.prog.underlying 12).isSome = true := by kernel_rfl
@[simp] theorem Tryz.agg21 : Aw.aggSize Tryz.prog 21 = none := by kernel_rfl
@[simp] theorem Tryz.one21 : Aw.oneSize Tryz.prog 21 = true := by kernel_rfl
@[simp] theorem Tryz.siz21 : Aw.sizeA Tryz.prog 21 = some 1 := by kernel_rfl
@[simp] theorem Tryz.zer21 : Aw.zeroA Tryz.prog 21 = some [.int .i32 0] := by kernel_rfl
@[simp] theorem Tryz.zsz21 : Aw.zeroSz Tryz.prog 21 1 = true := by kernel_rfl
@[simp] theorem Tryz.int21 : Aw.intType Tryz.prog 21 = some .i32 := by kernel_rfl
@[simp] theorem Tryz.som21 : (Tryz.prog.underlying 21).isSome = true := by kernel_rfl
@[simp] theorem Tryz.agg23 : Aw.aggSize Tryz.prog 23 = some 2 := by kernel_rfl
@[simp] theorem Tryz.siz23 : Aw.sizeA Tryz.prog 23 = some 2 := by kernel_rfl
@[simp] theorem Tryz.zer23 : Aw.zeroA Tryz.prog 23 = some [.str [], .str []] := by kernel_rfl
@[simp] theorem Tryz.zsz23 : Aw.zeroSz Tryz.prog 23 2 = true := by kernel_rfl
@[simp] theorem Tryz.fld23_0 : Aw.fieldA Tryz.prog 23 0 = some 0 := by kernel_rfl
@[simp] theorem Tryz.fld23_1 : Aw.fieldA Tryz.prog 23 1 = some 1 := by kernel_rfl
@[simp] theorem Tryz.plc23 : Aw.placesA Tryz.prog 23 = some [(0, 1), (1, 1)] := by kernel_rfl
@[simp] theorem Tryz.agg24 : Aw.aggSize Tryz.prog 24 = none := by kernel_rfl
@[simp] theorem Tryz.one24 : Aw.oneSize Tryz.prog 24 = true := by kernel_rfl
@[simp] theorem Tryz.siz24 : Aw.sizeA Tryz.prog 24 = some 1 := by kernel_rfl
@[simp] theorem Tryz.zer24 : Aw.zeroA Tryz.prog 24 = some [.sl .own 1 []] := by kernel_rfl
@[simp] theorem Tryz.zsz24 : Aw.zeroSz Tryz.prog 24 1 = true := by kernel_rfl
@[simp] theorem Tryz.elm24 : Aw.elemA Tryz.prog 24 = some (9, 1, 16) := by kernel_rfl
@[simp] theorem Tryz.isl24 : Aw.isSlice Tryz.prog 24 = true := by kernel_rfl
@[simp] theorem Tryz.apd24 : Aw.appendable Tryz.prog 24 = true := by kernel_rfl
@[simp] theorem Tryz.agg26 : Aw.aggSize Tryz.prog 26 = some 5 := by kernel_rfl
@[simp] theorem Tryz.siz26 : Aw.sizeA Tryz.prog 26 = some 5 := by kernel_rfl
@[simp] theorem Tryz.zer26 : Aw.zeroA Tryz.prog 26 = some [.bool false, .sl .own 1 [], .sl .own 1 [], .sl .own 1 [], .str []] := by kernel_rfl
@[simp] theorem Tryz.zsz26 : Aw.zeroSz Tryz.prog 26 5 = true := by kernel_rfl
@[simp] theorem Tryz.fld26_0 : Aw.fieldA Tryz.prog 26 0 = some 0 := by kernel_rfl
@[simp] theorem Tryz.fld26_1 : Aw.fieldA Tryz.prog 26 1 = some 1 := by kernel_rfl
@[simp] theorem Tryz.fld26_2 : Aw.fieldA Tryz.prog 26 2 = some 2 := by kernel_rfl
@[simp] theorem Tryz.fld26_3 : Aw.fieldA Tryz.prog 26 3 = some 3 := by kernel_rfl
@[simp] theorem Tryz.fld26_4 : Aw.fieldA Tryz.prog 26 4 = some 4 := by kernel_rfl
@[simp] theorem Tryz.plc26 : Aw.placesA Tryz.prog 26 = some [(0, 1), (1, 1), (2, 1), (3, 1), (4, 1)] := by kernel_rfl
@[simp] theorem Tryz.agg28 : Aw.aggSize Tryz.prog 28 = some 1 := by kernel_rfl
@[simp] theorem Tryz.siz28 : Aw.sizeA Tryz.prog 28 = some 1 := by kernel_rfl
@[simp] theorem Tryz.zer28 : Aw.zeroA Tryz.prog 28 = some [.str []] := by kernel_rfl
@[simp] theorem Tryz.zsz28 : Aw.zeroSz Tryz.prog 28 1 = true := by kernel_rfl
@[simp] theorem Tryz.fld28_0 : Aw.fieldA Tryz.prog 28 0 = some 0 := by kernel_rfl
@[simp] theorem Tryz.plc28 : Aw.placesA Tryz.prog 28 = some [(0, 1)] := by kernel_rfl
@[simp] theorem Tryz.agg29 : Aw.aggSize Tryz.prog 29 = none := by kernel_rfl
@[simp] theorem Tryz.one29 : Aw.oneSize Tryz.prog 29 = true := by kernel_rfl
@[simp] theorem Tryz.siz29 : Aw.sizeA Tryz.prog 29 = some 1 := by kernel_rfl
@[simp] theorem Tryz.zer29 : Aw.zeroA Tryz.prog 29 = some [.sl .own 4 []] := by kernel_rfl
@[simp] theorem Tryz.zsz29 : Aw.zeroSz Tryz.prog 29 1 = true := by kernel_rfl
@[simp] theorem Tryz.elm29 : Aw.elemA Tryz.prog 29 = some (105, 4, 64) := by kernel_rfl
@[simp] theorem Tryz.isl29 : Aw.isSlice Tryz.prog 29 = true := by kernel_rfl
@[simp] theorem Tryz.apd29 : Aw.appendable Tryz.prog 29 = true := by kernel_rfl
@[simp] theorem Tryz.agg30 : Aw.aggSize Tryz.prog 30 = none := by kernel_rfl
@[simp] theorem Tryz.one30 : Aw.oneSize Tryz.prog 30 = true := by kernel_rfl
@[simp] theorem Tryz.siz30 : Aw.sizeA Tryz.prog 30 = some 1 := by kernel_rfl
@[simp] theorem Tryz.zer30 : Aw.zeroA Tryz.prog 30 = some [.sl .own 4 []] := by kernel_rfl
@[simp] theorem Tryz.zsz30 : Aw.zeroSz Tryz.prog 30 1 = true := by kernel_rfl
@[simp] theorem Tryz.elm30 : Aw.elemA Tryz.prog 30 = some (146, 4, 64) := by kernel_rfl
@[simp] theorem Tryz.isl30 : Aw.isSlice Tryz.prog 30 = true := by kernel_rfl
@[simp] theorem Tryz.apd30 : Aw.appendable Tryz.prog 30 = true := by kernel_rfl
@[simp] theorem Tryz.agg31 : Aw.aggSize Tryz.prog 31 = none := by kernel_rfl
@[simp] theorem Tryz.one31 : Aw.oneSize Tryz.prog 31 = true := by kernel_rfl
@[simp] theorem Tryz.siz31 : Aw.sizeA Tryz.prog 31 = some 1 := by kernel_rfl
@[simp] theorem Tryz.zer31 : Aw.zeroA Tryz.prog 31 = some [.sl .own 1 []] := by kernel_rfl
@[simp] theorem Tryz.zsz31 : Aw.zeroSz Tryz.prog 31 1 = true := by kernel_rfl
@[simp] theorem Tryz.elm31 : Aw.elemA Tryz.prog 31 = some (3, 1, 8) := by kernel_rfl
@[simp] theorem Tryz.isl31 : Aw.isSlice Tryz.prog 31 = true := by kernel_rfl
@[simp] theorem Tryz.apd31 : Aw.appendable Tryz.prog 31 = true := by kernel_rfl
@[simp] theorem Tryz.agg33 : Aw.aggSize Tryz.prog 33 = some 2 := by kernel_rfl
@[simp] theorem Tryz.siz33 : Aw.sizeA Tryz.prog 33 = some 2 := by kernel_rfl
@[simp] theorem Tryz.zer33 : Aw.zeroA Tryz.prog 33 = some [.sl .own 4 [], .sl .own 1 []] := by kernel_rfl
@[simp] theorem Tryz.zsz33 : Aw.zeroSz Tryz.prog 33 2 = true := by kernel_rfl
@[simp] theorem Tryz.fld33_0 : Aw.fieldA Tryz.prog 33 0 = some 0 := by kernel_rfl
@[simp] theorem Tryz.fld33_1 : Aw.fieldA Tryz.prog 33 1 = some 1 := by kernel_rfl
@[simp] theorem Tryz.plc33 : Aw.placesA Tryz.prog 33 = some [(0, 1), (1, 1)] := by kernel_rfl
@[simp] theorem Tryz.agg34 : Aw.aggSize Tryz.prog 34 = none := by kernel_rfl
@[simp] theorem Tryz.one34 : Aw.oneSize Tryz.prog 34 = true := by kernel_rfl
@[simp] theorem Tryz.siz34 : Aw.sizeA Tryz.prog 34 = some 1 := by kernel_rfl
@[simp] theorem Tryz.zer34 : Aw.zeroA Tryz.prog 34 = some [.sl .own 8 []] := by kernel_rfl
@[simp] theorem Tryz.zsz34 : Aw.zeroSz Tryz.prog 34 1 = true := by kernel_rfl
@[simp] theorem Tryz.elm34 : Aw.elemA Tryz.prog 34 = some (110, 8, 96) := by kernel_rfl
@[simp] theorem Tryz.isl34 : Aw.isSlice Tryz.prog 34 = true := by kernel_rfl
@[simp] theorem Tryz.apd34 : Aw.appendable Tryz.prog 34 = true := by kernel_rfl
@[simp] theorem Tryz.agg35 : Aw.aggSize Tryz.prog 35 = none := by kernel_rfl
@[simp] theorem Tryz.one35 : Aw.oneSize Tryz.prog 35 = true := by kernel_rfl
@[simp] theorem Tryz.siz35 : Aw.sizeA Tryz.prog 35 = some 1 := by kernel_rfl
@[simp] theorem Tryz.zer35 : Aw.zeroA Tryz.prog 35 = some [.sl .own 5 []] := by kernel_rfl
@[simp] theorem Tryz.zsz35 : Aw.zeroSz Tryz.prog 35 1 = true := by kernel_rfl
@[simp] theorem Tryz.elm35 : Aw.elemA Tryz.prog 35 = some (113, 5, 64) := by kernel_rfl
@[simp] theorem Tryz.isl35 : Aw.isSlice Tryz.prog 35 = true := by kernel_rfl
@[simp] theorem Tryz.apd35 : Aw.appendable Tryz.prog 35 = true := by kernel_rfl
@[simp] theorem Tryz.agg36 : Aw.aggSize Tryz.prog 36 = none := by kernel_rfl
@[simp] theorem Tryz.one36 : Aw.oneSize Tryz.prog 36 = true := by kernel_rfl
@[simp] theorem Tryz.siz36 : Aw.sizeA Tryz.prog 36 = some 1 := by kernel_rfl
@[simp] theorem Tryz.zer36 : Aw.zeroA Tryz.prog 36 = some [.sl .own 2 []] := by kernel_rfl
@[simp] theorem Tryz.zsz36 : Aw.zeroSz Tryz.prog 36 1 = true := by kernel_rfl
@[simp] theorem Tryz.elm36 : Aw.elemA Tryz.prog 36 = some (23, 2, 32) := by kernel_rfl
@[simp] theorem Tryz.isl36 : Aw.isSlice Tryz.prog 36 = true := by kernel_rfl
@[simp] theorem Tryz.apd36 : Aw.appendable Tryz.prog 36 = true := by kernel_rfl
@[simp] theorem Tryz.agg38 : Aw.aggSize Tryz.prog 38 = some 22 := by kernel_rfl
@[simp] theorem Tryz.siz38 : Aw.sizeA Tryz.prog 38 = some 22 := by kernel_rfl
@[simp] theorem Tryz.zer38 : Aw.zeroA Tryz.prog 38 = some [.str [], .str [], .bool false, .sl .own 1 [], .sl .own 1 [], .sl .own 1 [], .str [], .str [], .sl .own 4 [], .bool false, .sl .own 4 [], .sl .own 1 [], .sl .own 8 [], .sl .own 5 [], .sl .own 2 [], .int .i64 0, .int .i64 0, .int .i64 0, .int .i64 0, .sl .own 2 [], .sl .own 1 [], .bool false] := by kernel_rfl
@[simp] theorem Tryz.zsz38 : Aw.zeroSz Tryz.prog 38 22 = true := by kernel_rfl
@[simp] theorem Tryz.fld38_0 : Aw.fieldA Tryz.prog 38 0 = some 0 := by kernel_rfl
@[simp] theorem Tryz.fld38_1 : Aw.fieldA Tryz.prog 38 1 = some 2 := by kernel_rfl
@[simp] theorem Tryz.fld38_2 : Aw.fieldA Tryz.prog 38 2 = some 7 := by kernel_rfl
@[simp] theorem Tryz.fld38_3 : Aw.fieldA Tryz.prog 38 3 = some 8 := by kernel_rfl
@[simp] theorem Tryz.fld38_4 : Aw.fieldA Tryz.prog 38 4 = some 9 := by kernel_rfl
@[simp] theorem Tryz.fld38_5 : Aw.fieldA Tryz.prog 38 5 = some 10 := by kernel_rfl
@[simp] theorem Tryz.fld38_6 : Aw.fieldA Tryz.prog 38 6 = some 12 := by kernel_rfl
@[simp] theorem Tryz.fld38_7 : Aw.fieldA Tryz.prog 38 7 = some 13 := by kernel_rfl
@[simp] theorem Tryz.fld38_8 : Aw.fieldA Tryz.prog 38 8 = some 14 := by kernel_rfl
@[simp] theorem Tryz.fld38_9 : Aw.fieldA Tryz.prog 38 9 = some 15 := by kernel_rfl
@[simp] theorem Tryz.fld38_10 : Aw.fieldA Tryz.prog 38 10 = some 16 := by kernel_rfl
@[simp] theorem Tryz.fld38_11 : Aw.fieldA Tryz.prog 38 11 = some 17 := by kernel_rfl
@[simp] theorem Tryz.fld38_12 : Aw.fieldA Tryz.prog 38 12 = some 18 := by kernel_rfl
@[simp] theorem Tryz.fld38_13 : Aw.fieldA Tryz.prog 38 13 = some 19 := by kernel_rfl
@[simp] theorem Tryz.fld38_14 : Aw.fieldA Tryz.prog 38 14 = some 20 := by kernel_rfl
@[simp] theorem Tryz.fld38_15 : Aw.fieldA Tryz.prog 38 15 = some 21 := by kernel_rfl
@[simp] theorem Tryz.plc38 : Aw.placesA Tryz.prog 38 = some [(0, 2), (2, 5), (7, 1), (8, 1), (9, 1), (10, 2), (12, 1), (13, 1), (14, 1), (15, 1), (16, 1), (17, 1), (18, 1), (19, 1), (20, 1), (21, 1)] := by kernel_rfl
@[simp] theorem Tryz.agg40 : Aw.aggSize Tryz.prog 40 = some 2 := by kernel_rfl
@[simp] theorem Tryz.siz40 : Aw.sizeA Tryz.prog 40 = some 2 := by kernel_rfl
@[simp] theorem Tryz.zer40 : Aw.zeroA Tryz.prog 40 = some [.str [], .str []] := by kernel_rfl
@[simp] theorem Tryz.zsz40 : Aw.zeroSz Tryz.prog 40 2 = true := by kernel_rfl
@[simp] theorem Tryz.fld40_0 : Aw.fieldA Tryz.prog 40 0 = some 0 := by kernel_rfl
@[simp] theorem Tryz.fld40_1 : Aw.fieldA Tryz.prog 40 1 = some 1 := by kernel_rfl
@[simp] theorem Tryz.plc40 : Aw.placesA Tryz.prog 40 = some [(0, 1), (1, 1)] := by kernel_rfl
@[simp] theorem Tryz.agg41 : Aw.aggSize Tryz.prog 41 = some 5 := by kernel_rfl
@[simp] theorem Tryz.siz41 : Aw.sizeA Tryz.prog 41 = some 5 := by kernel_rfl
@[simp] theorem Tryz.zer41 : Aw.zeroA Tryz.prog 41 = some [.bool false, .sl .own 1 [], .sl .own 1 [], .sl .own 1 [], .str []] := by kernel_rfl
@[simp] theorem Tryz.zsz41 : Aw.zeroSz Tryz.prog 41 5 = true := by kernel_rfl
@[simp] theorem Tryz.fld41_0 : Aw.fieldA Tryz.prog 41 0 = some 0 := by kernel_rfl
@[simp] theorem Tryz.fld41_1 : Aw.fieldA Tryz.prog 41 1 = some 1 := by kernel_rfl
@[simp] theorem Tryz.fld41_2 : Aw.fieldA Tryz.prog 41 2 = some 2 := by kernel_rfl
@[simp] theorem Tryz.fld41_3 : Aw.fieldA Tryz.prog 41 3 = some 3 := by kernel_rfl
@[simp] theorem Tryz.fld41_4 : Aw.fieldA Tryz.prog 41 4 = some 4 := by kernel_rfl
@[simp] theorem Tryz.plc41 : Aw.placesA Tryz.prog 41 = some [(0, 1), (1, 1), (2, 1), (3, 1), (4, 1)] := by kernel_rfl
@[simp] theorem Tryz.agg42 : Aw.aggSize Tryz.prog 42 = some 1 := by kernel_rfl
@[simp] theorem Tryz.siz42 : Aw.sizeA Tryz.prog 42 = some 1 := by kernel_rfl
@[simp] theorem Tryz.zer42 : Aw.zeroA Tryz.prog 42 = some [.str []] := by kernel_rfl
@[simp] theorem Tryz.zsz42 : Aw.zeroSz Tryz.prog 42 1 = true := by kernel_rfl
@[simp] theorem Tryz.fld42_0 : Aw.fieldA Tryz.prog 42 0 = some 0 := by kernel_rfl
@[simp] theorem Tryz.plc42 : Aw.placesA Tryz.prog 42 = some [(0, 1)] := by kernel_rfl
@[simp] theorem Tryz.agg43 : Aw.aggSize Tryz.prog 43 = none := by kernel_rfl
@[simp] theorem Tryz.one43 : Aw.oneSize Tryz.prog 43 = true := by kernel_rfl
@[simp] theorem Tryz.siz43 : Aw.sizeA Tryz.prog 43 = some 1 := by kernel_rfl
@[simp] theorem Tryz.zer43 : Aw.zeroA Tryz.prog 43 = some [.sl .own 4 []] := by kernel_rfl
@[simp] theorem Tryz.zsz43 : Aw.zeroSz Tryz.prog 43 1 = true := by kernel_rfl
@[simp] theorem Tryz.elm43 : Aw.elemA Tryz.prog 43 = some (70, 4, 64) := by kernel_rfl
@[simp] theorem Tryz.isl43 : Aw.isSlice Tryz.prog 43 = true := by kernel_rfl
@[simp] theorem Tryz.apd43 : Aw.appendable Tryz.prog 43 = true := by kernel_rfl
@[simp] theorem Tryz.agg44 : Aw.aggSize Tryz.prog 44 = none := by kernel_rfl
@[simp] theorem Tryz.one44 : Aw.oneSize Tryz.prog 44 = true := by kernel_rfl
@[simp] theorem Tryz.siz44 : Aw.sizeA Tryz.prog 44 = some 1 := by kernel_rfl
@[simp] theorem Tryz.zer44 : Aw.zeroA Tryz.prog 44 = some [.sl .own 4 []] := by kernel_rfl
@[simp] theorem Tryz.zsz44 : Aw.zeroSz Tryz.prog 44 1 = true := by kernel_rfl
@[simp] theorem Tryz.elm44 : Aw.elemA Tryz.prog 44 = some (76, 4, 64) := by kernel_rfl
@[simp] theorem Tryz.isl44 : Aw.isSlice Tryz.prog 44 = true := by kernel_rfl
@[simp] theorem Tryz.apd44 : Aw.appendable Tryz.prog 44 = true := by kernel_rfl
@[simp] theorem Tryz.agg46 : Aw.aggSize Tryz.prog 46 = some 2 := by kernel_rfl
@[simp] theorem Tryz.siz46 : Aw.sizeA Tryz.prog 46 = some 2 := by kernel_rfl
@[simp] theorem Tryz.zer46 : Aw.zeroA Tryz.prog 46 = some [.sl .own 4 [], .sl .own 1 []] := by kernel_rfl
@[simp] theorem Tryz.zsz46 : Aw.zeroSz Tryz.prog 46 2 = true := by kernel_rfl
@[simp] theorem Tryz.fld46_0 : Aw.fieldA Tryz.prog 46 0 = some 0 := by kernel_rfl
@[simp] theorem Tryz.fld46_1 : Aw.fieldA Tryz.prog 46 1 = some 1 := by kernel_rfl
@[simp] theorem Tryz.plc46 : Aw.placesA Tryz.prog 46 = some [(0, 1), (1, 1)] := by kernel_rfl
@[simp] theorem Tryz.agg47 : Aw.aggSize Tryz.prog 47 = none := by kernel_rfl
@[simp] theorem Tryz.one47 : Aw.oneSize Tryz.prog 47 = true := by kernel_rfl
@[simp] theorem Tryz.siz47 : Aw.sizeA Tryz.prog 47 = some 1 := by kernel_rfl
@[simp] theorem Tryz.zer47 : Aw.zeroA Tryz.prog 47 = some [.sl .own 8 []] := by kernel_rfl
@[simp] theorem Tryz.zsz47 : Aw.zeroSz Tryz.prog 47 1 = true := by kernel_rfl
@[simp] theorem Tryz.elm47 : Aw.elemA Tryz.prog 47 = some (130, 8, 96) := by kernel_rfl
@[simp] theorem Tryz.isl47 : Aw.isSlice Tryz.prog 47 = true := by kernel_rfl
@[simp] theorem Tryz.apd47 : Aw.appendable Tryz.prog 47 = true := by kernel_rfl
@[simp] theorem Tryz.agg48 : Aw.aggSize Tryz.prog 48 = none := by kernel_rfl
@[simp] theorem Tryz.one48 : Aw.oneSize Tryz.prog 48 = true := by kernel_rfl
@[simp] theorem Tryz.siz48 : Aw.sizeA Tryz.prog 48 = some 1 := by kernel_rfl
@[simp] theorem Tryz.zer48 : Aw.zeroA Tryz.prog 48 = some [.sl .own 5 []] := by kernel_rfl
@[simp] theorem Tryz.zsz48 : Aw.zeroSz Tryz.prog 48 1 = true := by kernel_rfl
@[simp] theorem Tryz.elm48 : Aw.elemA Tryz.prog 48 = some (133, 5, 64) := by kernel_rfl
@[simp] theorem Tryz.isl48 : Aw.isSlice Tryz.prog 48 = true := by kernel_rfl
@[simp] theorem Tryz.apd48 : Aw.appendable Tryz.prog 48 = true := by kernel_rfl
@[simp] theorem Tryz.agg49 : Aw.aggSize Tryz.prog 49 = none := by kernel_rfl
@[simp] theorem Tryz.one49 : Aw.oneSize Tryz.prog 49 = true := by kernel_rfl
@[simp] theorem Tryz.siz49 : Aw.sizeA Tryz.prog 49 = some 1 := by kernel_rfl
@[simp] theorem Tryz.zer49 : Aw.zeroA Tryz.prog 49 = some [.sl .own 2 []] := by kernel_rfl
@[simp] theorem Tryz.zsz49 : Aw.zeroSz Tryz.prog 49 1 = true := by kernel_rfl
@[simp] theorem Tryz.elm49 : Aw.elemA Tryz.prog 49 = some (40, 2, 32) := by kernel_rfl
@[simp] theorem Tryz.isl49 : Aw.isSlice Tryz.prog 49 = true := by kernel_rfl
@[simp] theorem Tryz.apd49 : Aw.appendable Tryz.prog 49 = true := by kernel_rfl
@[simp] theorem Tryz.agg51 : Aw.aggSize Tryz.prog 51 = some 22 := by kernel_rfl
@[simp] theorem Tryz.siz51 : Aw.sizeA Tryz.prog 51 = some 22 := by kernel_rfl
@[simp] theorem Tryz.zer51 : Aw.zeroA Tryz.prog 51 = some [.str [], .str [], .bool false, .sl .own 1 [], .sl .own 1 [], .sl .own 1 [], .str [], .str [], .sl .own 4 [], .bool false, .sl .own 4 [], .sl .own 1 [], .sl .own 8 [], .sl .own 5 [], .sl .own 2 [], .int .i64 0, .int .i64 0, .int .i64 0, .int .i64 0, .sl .own 2 [], .sl .own 1 [], .bool false] := by kernel_rfl
@[simp] theorem Tryz.zsz51 : Aw.zeroSz Tryz.prog 51 22 = true := by kernel_rfl
@[simp] theorem Tryz.fld51_0 : Aw.fieldA Tryz.prog 51 0 = some 0 := by kernel_rfl
@[simp] theorem Tryz.fld51_1 : Aw.fieldA Tryz.prog 51 1 = some 2 := by kernel_rfl
@[simp] theorem Tryz.fld51_2 : Aw.fieldA Tryz.prog 51 2 = some 7 := by kernel_rfl
@[simp] theorem Tryz.fld51_3 : Aw.fieldA Tryz.prog 51 3 = some 8 := by kernel_rfl
@[simp] theorem Tryz.fld51_4 : Aw.fieldA Tryz.prog 51 4 = some 9 := by kernel_rfl
@[simp] theorem Tryz.fld51_5 : Aw.fieldA Tryz.prog 51 5 = some 10 := by kernel_rfl
@[simp] theorem Tryz.fld51_6 : Aw.fieldA Tryz.prog 51 6 = some 12 := by kernel_rfl
@[simp] theorem Tryz.fld51_7 : Aw.fieldA Tryz.prog 51 7 = some 13 := by kernel_rfl
@[simp] theorem Tryz.fld51_8 : Aw.fieldA Tryz.prog 51 8 = some 14 := by kernel_rfl
@[simp] theorem Tryz.fld51_9 : Aw.fieldA Tryz.prog 51 9 = some 15 := by kernel_rfl
@[simp] theorem Tryz.fld51_10 : Aw.fieldA Tryz.prog 51 10 = some 16 := by kernel_rfl
@[simp] theorem Tryz.fld51_11 : Aw.fieldA Tryz.prog 51 11 = some 17 := by kernel_rfl
@[simp] theorem Tryz.fld51_12 : Aw.fieldA Tryz.prog 51 12 = some 18 := by kernel_rfl
@[simp] theorem Tryz.fld51_13 : Aw.fieldA Tryz.prog 51 13 = some 19 := by kernel_rfl
@[simp] theorem Tryz.fld51_14 : Aw.fieldA Tryz.prog 51 14 = some 20 := by kernel_rfl
@[simp] theorem Tryz.fld51_15 : Aw.fieldA Tryz.prog 51 15 = some 21 := by kernel_rfl
@[simp] theorem Tryz.plc51 : Aw.placesA Tryz.prog 51 = some [(0, 2), (2, 5), (7, 1), (8, 1), (9, 1), (10, 2), (12, 1), (13, 1), (14, 1), (15, 1), (16, 1), (17, 1), (18, 1), (19, 1), (20, 1), (21, 1)] := by kernel_rfl
@[simp] theorem Tryz.agg68 : Aw.aggSize Tryz.prog 68 = none := by kernel_rfl
@[simp] theorem Tryz.one68 : Aw.oneSize Tryz.prog 68 = true := by kernel_rfl
@[simp] theorem Tryz.siz68 : Aw.sizeA Tryz.prog 68 = some 1 := by kernel_rfl
@[simp] theorem Tryz.zer68 : Aw.zeroA Tryz.prog 68 = some [.sl .own 2 []] := by kernel_rfl
@[simp] theorem Tryz.zsz68 : Aw.zeroSz Tryz.prog 68 1 = true := by kernel_rfl
@[simp] theorem Tryz.elm68 : Aw.elemA Tryz.prog 68 = some (148, 2, 32) := by kernel_rfl
@[simp] theorem Tryz.isl68 : Aw.isSlice Tryz.prog 68 = true := by kernel_rfl
@[simp] theorem Tryz.apd68 : Aw.appendable Tryz.prog 68 = true := by kernel_rfl
@[simp] theorem Tryz.agg70 : Aw.aggSize Tryz.prog 70 = some 4 := by kernel_rfl
@[simp] theorem Tryz.siz70 : Aw.sizeA Tryz.prog 70 = some 4 := by kernel_rfl
@[simp] theorem Tryz.zer70 : Aw.zeroA Tryz.prog 70 = some [.int .i64 0, .str [], .sl .own 2 [], .str []] := by kernel_rfl
@[simp] theorem Tryz.zsz70 : Aw.zeroSz Tryz.prog 70 4 = true := by kernel_rfl
@[simp] theorem Tryz.fld70_0 : Aw.fieldA Tryz.prog 70 0 = some 0 := by kernel_rfl
@[simp] theorem Tryz.fld70_1 : Aw.fieldA Tryz.prog 70 1 = some 1 := by kernel_rfl
@[simp] theorem Tryz.fld70_2 : Aw.fieldA Tryz.prog 70 2 = some 2 := by kernel_rfl
@[simp] theorem Tryz.fld70_3 : Aw.fieldA Tryz.prog 70 3 = some 3 := by kernel_rfl
@[simp] theorem Tryz.plc70 : Aw.placesA Tryz.prog 70 = some [(0, 1), (1, 1), (2, 1), (3, 1)] := by kernel_rfl
@[simp] theorem Tryz.agg76 : Aw.aggSize Tryz.prog 76 = some 4 := by kernel_rfl
@[simp] theorem Tryz.siz76 : Aw.sizeA Tryz.prog 76 = some 4 := by kernel_rfl
@[simp] theorem Tryz.zer76 : Aw.zeroA Tryz.prog 76 = some [.str [], .str [], .int .i64 0, .sl .own 2 []] := by kernel_rfl
@[simp] theorem Tryz.zsz76 : Aw.zeroSz Tryz.prog 76 4 = true := by kernel_rfl
@[simp] theorem Tryz.fld76_0 : Aw.fieldA Tryz.prog 76 0 = some 0 := by kernel_rfl
@[simp] theorem Tryz.fld76_1 : Aw.fieldA Tryz.prog 76 1 = some 1 := by kernel_rfl
@[simp] theorem Tryz.fld76_2 : Aw.fieldA Tryz.prog 76 2 = some 2 := by kernel_rfl
@[simp] theorem Tryz.fld76_3 : Aw.fieldA Tryz.prog 76 3 = some 3 := by kernel_rfl
@[simp] theorem Tryz.plc76 : Aw.placesA Tryz.prog 76 = some [(0, 1), (1, 1), (2, 1), (3, 1)] := by kernel_rfl
@[simp] theorem Tryz.agg103 : Aw.aggSize Tryz.prog 103 = none := by kernel_rfl
@[simp] theorem Tryz.one103 : Aw.oneSize Tryz.prog 103 = true := by kernel_rfl
@[simp] theorem Tryz.siz103 : Aw.sizeA Tryz.prog 103 = some 1 := by kernel_rfl
@[simp] theorem Tryz.zer103 : Aw.zeroA Tryz.prog 103 = some [.sl .own 2 []] := by kernel_rfl
@[simp] theorem Tryz.zsz103 : Aw.zeroSz Tryz.prog 103 1 = true := by kernel_rfl
@[simp] theorem Tryz.elm103 : Aw.elemA Tryz.prog 103 = some (166, 2, 32) := by kernel_rfl
@[simp] theorem Tryz.isl103 : Aw.isSlice Tryz.prog 103 = true := by kernel_rfl
@[simp] theorem Tryz.apd103 : Aw.appendable Tryz.prog 103 = true := by kernel_rfl
@[simp] theorem Tryz.agg105 : Aw.aggSize Tryz.prog 105 = some 4 := by kernel_rfl
@[simp] theorem Tryz.siz105 : Aw.sizeA Tryz.prog 105 = some 4 := by kernel_rfl
@[simp] theorem Tryz.zer105 : Aw.zeroA Tryz.prog 105 = some [.int .i64 0, .str [], .sl .own 2 [], .str []] := by kernel_rfl
@[simp] theorem Tryz.zsz105 : Aw.zeroSz Tryz.prog 105 4 = true := by kernel_rfl
@[simp] theorem Tryz.fld105_0 : Aw.fieldA Tryz.prog 105 0 = some 0 := by kernel_rfl
@[simp] theorem Tryz.fld105_1 : Aw.fieldA Tryz.prog 105 1 = some 1 := by kernel_rfl
@[simp] theorem Tryz.fld105_2 : Aw.fieldA Tryz.prog 105 2 = some 2 := by kernel_rfl
@[simp] theorem Tryz.fld105_3 : Aw.fieldA Tryz.prog 105 3 = some 3 := by kernel_rfl
@[simp] theorem Tryz.plc105 : Aw.placesA Tryz.prog 105 = some [(0, 1), (1, 1), (2, 1), (3, 1)] := by kernel_rfl
@[simp] theorem Tryz.agg110 : Aw.aggSize Tryz.prog 110 = some 8 := by kernel_rfl
@[simp] theorem Tryz.siz110 : Aw.sizeA Tryz.prog 110 = some 8 := by kernel_rfl
@[simp] theorem Tryz.zer110 : Aw.zeroA Tryz.prog 110 = some [.int .i64 0, .str [], .str [], .str [], .int .i64 0, .bool false, .int .i64 0, .str []] := by kernel_rfl
@[simp] theorem Tryz.zsz110 : Aw.zeroSz Tryz.prog 110 8 = true := by kernel_rfl
@[simp] theorem Tryz.fld110_0 : Aw.fieldA Tryz.prog 110 0 = some 0 := by kernel_rfl
@[simp] theorem Tryz.fld110_1 : Aw.fieldA Tryz.prog 110 1 = some 1 := by kernel_rfl
@[simp] theorem Tryz.fld110_2 : Aw.fieldA Tryz.prog 110 2 = some 3 := by kernel_rfl
@[simp] theorem Tryz.fld110_3 : Aw.fieldA Tryz.prog 110 3 = some 4 := by kernel_rfl
@[simp] theorem Tryz.fld110_4 : Aw.fieldA Tryz.prog 110 4 = some 5 := by kernel_rfl
@[simp] theorem Tryz.fld110_5 : Aw.fieldA Tryz.prog 110 5 = some 6 := by kernel_rfl
@[simp] theorem Tryz.fld110_6 : Aw.fieldA Tryz.prog 110 6 = some 7 := by kernel_rfl
@[simp] theorem Tryz.plc110 : Aw.placesA Tryz.prog 110 = some [(0, 1), (1, 2), (3, 1), (4, 1), (5, 1), (6, 1), (7, 1)] := by kernel_rfl
@[simp] theorem Tryz.agg113 : Aw.aggSize Tryz.prog 113 = some 5 := by kernel_rfl
@[simp] theorem Tryz.siz113 : Aw.sizeA Tryz.prog 113 = some 5 := by kernel_rfl
@[simp] theorem Tryz.zer113 : Aw.zeroA Tryz.prog 113 = some [.str [], .str [], .bool false, .int .i64 0, .str []] := by kernel_rfl
@[simp] theorem Tryz.zsz113 : Aw.zeroSz Tryz.prog 113 5 = true := by kernel_rfl
@[simp] theorem Tryz.fld113_0 : Aw.fieldA Tryz.prog 113 0 = some 0 := by kernel_rfl
@[simp] theorem Tryz.fld113_1 : Aw.fieldA Tryz.prog 113 1 = some 2 := by kernel_rfl
@[simp] theorem Tryz.fld113_2 : Aw.fieldA Tryz.prog 113 2 = some 3 := by kernel_rfl
@[simp] theorem Tryz.fld113_3 : Aw.fieldA Tryz.prog 113 3 = some 4 := by kernel_rfl
@[simp] theorem Tryz.plc113 : Aw.placesA Tryz.prog 113 = some [(0, 2), (2, 1), (3, 1), (4, 1)] := by kernel_rfl
@[simp] theorem Tryz.agg130 : Aw.aggSize Tryz.prog 130 = some 8 := by kernel_rfl
@[simp] theorem Tryz.siz130 : Aw.sizeA Tryz.prog 130 = some 8 := by kernel_rfl
@[simp] theorem Tryz.zer130 : Aw.zeroA Tryz.prog 130 = some [.int .i64 0, .str [], .str [], .str [], .int .i64 0, .bool false, .int .i64 0, .str []] := by kernel_rfl
@[simp] theorem Tryz.zsz130 : Aw.zeroSz Tryz.prog 130 8 = true := by kernel_rfl
@[simp] theorem Tryz.fld130_0 : Aw.fieldA Tryz.prog 130 0 = some 0 := by kernel_rfl
@[simp] theorem Tryz.fld130_1 : Aw.fieldA Tryz.prog 130 1 = some 1 := by kernel_rfl
@[simp] theorem Tryz.fld130_2 : Aw.fieldA Tryz.prog 130 2 = some 3 := by kernel_rfl
@[simp] theorem Tryz.fld130_3 : Aw.fieldA Tryz.prog 130 3 = some 4 := by kernel_rfl
@[simp] theorem Tryz.fld130_4 : Aw.fieldA Tryz.prog 130 4 = some 5 := by kernel_rfl
@[simp] theorem Tryz.fld130_5 : Aw.fieldA Tryz.prog 130 5 = some 6 := by kernel_rfl
@[simp] theorem Tryz.fld130_6 : Aw.fieldA Tryz.prog 130 6 = some 7 := by kernel_rfl
@[simp] theorem Tryz.plc130 : Aw.placesA Tryz.prog 130 = some [(0, 1), (1, 2), (3, 1), (4, 1), (5, 1), (6, 1), (7, 1)] := by kernel_rfl
@[simp] theorem Tryz.agg133 : Aw.aggSize Tryz.prog 133 = some 5 := by kernel_rfl
@[simp] theorem Tryz.siz133 : Aw.sizeA Tryz.prog 133 = some 5 := by kernel_rfl
@[simp] theorem Tryz.zer133 : Aw.zeroA Tryz.prog 133 = some [.str [], .str [], .bool false, .int .i64 0, .str []] := by kernel_rfl
@[simp] theorem Tryz.zsz133 : Aw.zeroSz Tryz.prog 133 5 = true := by kernel_rfl
@[simp] theorem Tryz.fld133_0 : Aw.fieldA Tryz.prog 133 0 = some 0 := by kernel_rfl
@[simp] theorem Tryz.fld133_1 : Aw.fieldA Tryz.prog 133 1 = some 2 := by kernel_rfl
@[simp] theorem Tryz.fld133_2 : Aw.fieldA Tryz.prog 133 2 = some 3 := by kernel_rfl
@[simp] theorem Tryz.fld133_3 : Aw.fieldA Tryz.prog 133 3 = some 4 := by kernel_rfl
@[simp] theorem Tryz.plc133 : Aw.placesA Tryz.prog 133 = some [(0, 2), (2, 1), (3, 1), (4, 1)] := by kernel_rfl
@[simp] theorem Tryz.agg146 : Aw.aggSize Tryz.prog 146 = some 4 := by kernel_rfl
@[simp] theorem Tryz.siz146 : Aw.sizeA Tryz.prog 146 = some 4 := by kernel_rfl
@[simp] theorem Tryz.zer146 : Aw.zeroA Tryz.prog 146 = some [.str [], .str [], .int .i64 0, .sl .own 2 []] := by kernel_rfl
@[simp] theorem Tryz.zsz146 : Aw.zeroSz Tryz.prog 146 4 = true := by kernel_rfl
@[simp] theorem Tryz.fld146_0 : Aw.fieldA Tryz.prog 146 0 = some 0 := by kernel_rfl
@[simp] theorem Tryz.fld146_1 : Aw.fieldA Tryz.prog 146 1 = some 1 := by kernel_rfl
@[simp] theorem Tryz.fld146_2 : Aw.fieldA Tryz.prog 146 2 = some 2 := by kernel_rfl
@[simp] theorem Tryz.fld146_3 : Aw.fieldA Tryz.prog 146 3 = some 3 := by kernel_rfl
@[simp] theorem Tryz.plc146 : Aw.placesA Tryz.prog 146 = some [(0, 1), (1, 1), (2, 1), (3, 1)] := by kernel_rfl
@[simp] theorem Tryz.agg148 : Aw.aggSize Tryz.prog 148 = some 2 := by kernel_rfl
@[simp] theorem Tryz.siz148 : Aw.sizeA Tryz.prog 148 = some 2 := by kernel_rfl
@[simp] theorem Tryz.zer148 : Aw.zeroA Tryz.prog 148 = some [.str [], .str []] := by kernel_rfl
@[simp] theorem Tryz.zsz148 : Aw.zeroSz Tryz.prog 148 2 = true := by kernel_rfl
@[simp] theorem Tryz.fld148_0 : Aw.fieldA Tryz.prog 148 0 = some 0 := by kernel_rfl
@[simp] theorem Tryz.fld148_1 : Aw.fieldA Tryz.prog 148 1 = some 1 := by kernel_rfl
@[simp] theorem Tryz.plc148 : Aw.placesA Tryz.prog 148 = some [(0, 1), (1, 1)] := by kernel_rfl
@[simp] theorem Tryz.agg154 : Aw.aggSize Tryz.prog 154 = some 5 := by kernel_rfl
@[simp] theorem Tryz.siz154 : Aw.sizeA Tryz.prog 154 = some 5 := by kernel_rfl
@[simp] theorem Tryz.zer154 : Aw.zeroA Tryz.prog 154 = some [.int .i64 0, .str [], .str [], .str [], .str []] := by kernel_rfl
@[simp] theorem Tryz.zsz154 : Aw.zeroSz Tryz.prog 154 5 = true := by kernel_rfl
@[simp] theorem Tryz.fld154_0 : Aw.fieldA Tryz.prog 154 0 = some 0 := by kernel_rfl
@[simp] theorem Tryz.fld154_1 : Aw.fieldA Tryz.prog 154 1 = some 1 := by kernel_rfl
@[simp] theorem Tryz.fld154_2 : Aw.fieldA Tryz.prog 154 2 = some 3 := by kernel_rfl
@[simp] theorem Tryz.fld154_3 : Aw.fieldA Tryz.prog 154 3 = some 4 := by kernel_rfl
@[simp] theorem Tryz.plc154 : Aw.placesA Tryz.prog 154 = some [(0, 1), (1, 2), (3, 1), (4, 1)] := by kernel_rfl
@[simp] theorem Tryz.agg164 : Aw.aggSize Tryz.prog 164 = none := by kernel_rfl
@[simp] theorem Tryz.one164 : Aw.oneSize Tryz.prog 164 = true := by kernel_rfl
@[simp] theorem Tryz.siz164 : Aw.sizeA Tryz.prog 164 = some 1 := by kernel_rfl
@[simp] theorem Tryz.zer164 : Aw.zeroA Tryz.prog 164 = some [.sl .own 1 []] := by kernel_rfl
@[simp] theorem Tryz.zsz164 : Aw.zeroSz Tryz.prog 164 1 = true := by kernel_rfl
@[simp] theorem Tryz.elm164 : Aw.elemA Tryz.prog 164 = some (5, 1, 1) := by kernel_rfl
@[simp] theorem Tryz.isl164 : Aw.isSlice Tryz.prog 164 = true := by kernel_rfl
@[simp] theorem Tryz.apd164 : Aw.appendable Tryz.prog 164 = true := by kernel_rfl
@[simp] theorem Tryz.agg166 : Aw.aggSize Tryz.prog 166 = some 2 := by kernel_rfl
@[simp] theorem Tryz.siz166 : Aw.sizeA Tryz.prog 166 = some 2 := by kernel_rfl
@[simp] theorem Tryz.zer166 : Aw.zeroA Tryz.prog 166 = some [.str [], .str []] := by kernel_rfl
@[simp] theorem Tryz.zsz166 : Aw.zeroSz Tryz.prog 166 2 = true := by kernel_rfl
@[simp] theorem Tryz.fld166_0 : Aw.fieldA Tryz.prog 166 0 = some 0 := by kernel_rfl
@[simp] theorem Tryz.fld166_1 : Aw.fieldA Tryz.prog 166 1 = some 1 := by kernel_rfl
@[simp] theorem Tryz.plc166 : Aw.placesA Tryz.prog 166 = some [(0, 1), (1, 1)] := by kernel_rfl
@[simp] theorem Tryz.agg181 : Aw.aggSize Tryz.prog 181 = none := by kernel_rfl
@[simp] theorem Tryz.one181 : Aw.oneSize Tryz.prog 181 = true := by kernel_rfl
@[simp] theorem Tryz.siz181 : Aw.sizeA Tryz.prog 181 = some 1 := by kernel_rfl
@[simp] theorem Tryz.zer181 : Aw.zeroA Tryz.prog 181 = some [.int .u64 0] := by kernel_rfl
@[simp] theorem Tryz.zsz181 : Aw.zeroSz Tryz.prog 181 1 = true := by kernel_rfl
@[simp] theorem Tryz.int181 : Aw.intType Tryz.prog 181 = some .u64 := by kernel_rfl
@[simp] theorem Tryz.som181 : (Tryz.prog.underlying 181).isSome = true := by kernel_rfl
@[simp] theorem Tryz.agg183 : Aw.aggSize Tryz.prog 183 = none := by kernel_rfl
@[simp] theorem Tryz.one183 : Aw.oneSize Tryz.prog 183 = true := by kernel_rfl
@[simp] theorem Tryz.siz183 : Aw.sizeA Tryz.prog 183 = some 1 := by kernel_rfl
@[simp] theorem Tryz.zer183 : Aw.zeroA Tryz.prog 183 = some [.int .u32 0] := by kernel_rfl
@[simp] theorem Tryz.zsz183 : Aw.zeroSz Tryz.prog 183 1 = true := by kernel_rfl
@[simp] theorem Tryz.int183 : Aw.intType Tryz.prog 183 = some .u32 := by kernel_rfl
@[simp] theorem Tryz.som183 : (Tryz.prog.underlying 183).isSome = true := by kernel_rfl
@[simp] theorem Tryz.cal3 : Aw.callable Tryz.prog 3 = true := by kernel_rfl
@[simp] theorem Tryz.cal4 : Aw.callable Tryz.prog 4 = true := by kernel_rfl
@[simp] theorem Tryz.cal5 : Aw.callable Tryz.prog 5 = true := by kernel_rfl
@[simp] theorem Tryz.cal6 : Aw.callable Tryz.prog 6 = true := by kernel_rfl
@[simp] theorem Tryz.cal7 : Aw.callable Tryz.prog 7 = true := by kernel_rfl
@[simp] theorem Tryz.cal8 : Aw.callable Tryz.prog 8 = true := by kernel_rfl
@[simp] theorem Tryz.cal9 : Aw.callable Tryz.prog 9 = true := by kernel_rfl
@[simp] theorem Tryz.cal10 : Aw.callable Tryz.prog 10 = true := by kernel_rfl
@[simp] theorem Tryz.cal11 : Aw.callable Tryz.prog 11 = true := by kernel_rfl
@[simp] theorem Tryz.cal12 : Aw.callable Tryz.prog 12 = true := by kernel_rfl
@[simp] theorem Tryz.cal13 : Aw.callable Tryz.prog 13 = true := by kernel_rfl
@[simp] theorem Tryz.cal14 : Aw.callable Tryz.prog 14 = true := by kernel_rfl
@[simp] theorem Tryz.cal15 : Aw.callable Tryz.prog 15 = true := by kernel_rfl
@[simp] theorem Tryz.cal16 : Aw.callable Tryz.prog 16 = true := by kernel_rfl
@[simp] theorem Tryz.cal17 : Aw.callable Tryz.prog 17 = true := by kernel_rfl
@[simp] theorem Tryz.cal18 : Aw.callable Tryz.prog 18 = true := by kernel_rfl
@[simp] theorem Tryz.cal19 : Aw.callable Tryz.prog 19 = true := by kernel_rfl
@[simp] theorem Tryz.cal20 : Aw.callable Tryz.prog 20 = true := by kernel_rfl
@[simp] theorem Tryz.cal21 : Aw.callable Tryz.prog 21 = true := by kernel_rfl
@[simp] theorem Tryz.cal22 : Aw.callable Tryz.prog 22 = true := by kernel_rfl
@[simp] theorem Tryz.cal23 : Aw.callable Tryz.prog 23 = true := by kernel_rfl
@[simp] theorem Tryz.cal24 : Aw.callable Tryz.prog 24 = true := by kernel_rfl
@[simp] theorem Tryz.cal25 : Aw.callable Tryz.prog 25 = true := by kernel_rfl
@[simp] theorem Tryz.cal26 : Aw.callable Tryz.prog 26 = true := by kernel_rfl
@[simp] theorem Tryz.cal27 : Aw.callable Tryz.prog 27 = true := by kernel_rfl
@[simp] theorem Tryz.cal28 : Aw.callable Tryz.prog 28 = true := by kernel_rfl
@[simp] theorem Tryz.cal29 : Aw.callable Tryz.prog 29 = true := by kernel_rfl
@[simp] theorem Tryz.cal30 : Aw.callable Tryz.prog 30 = true := by kernel_rfl
@[simp] theorem Tryz.cal31 : Aw.callable Tryz.prog 31 = true := by kernel_rfl
@[simp] theorem Tryz.cal32 : Aw.callable Tryz.prog 32 = true := by kernel_rfl
@[simp] theorem Tryz.cal33 : Aw.callable Tryz.prog 33 = true := by kernel_rfl
@[simp] theorem Tryz.cal34 : Aw.callable Tryz.prog 34 = true := by kernel_rfl
@[simp] theorem Tryz.cal35 : Aw.callable Tryz.prog 35 = true := by kernel_rfl
@[simp] theorem Tryz.cal36 : Aw.callable Tryz.prog 36 = true := by kernel_rfl
@[simp] theorem Tryz.cal37 : Aw.callable Tryz.prog 37 = true := by kernel_rfl
@[simp] theorem Tryz.cal38 : Aw.callable Tryz.prog 38 = true := by kernel_rfl
@[simp] theorem Tryz.cal39 : Aw.callable Tryz.prog 39 = true := by kernel_rfl
@[simp] theorem Tryz.cal40 : Aw.callable Tryz.prog 40 = true := by kernel_rfl
@[simp] theorem Tryz.cal41 : Aw.callable Tryz.prog 41 = true := by kernel_rfl
@[simp] theorem Tryz.cal42 : Aw.callable Tryz.prog 42 = true := by kernel_rfl
@[simp] theorem Tryz.cal43 : Aw.callable Tryz.prog 43 = true := by kernel_rfl
@[simp] theorem Tryz.cal44 : Aw.callable Tryz.prog 44 = true := by kernel_rfl
@[simp] theorem Tryz.cal45 : Aw.callable Tryz.prog 45 = true := by kernel_rfl
@[simp] theorem Tryz.cal46 : Aw.callable Tryz.prog 46 = true := by kernel_rfl
@[simp] theorem Tryz.cal47 : Aw.callable Tryz.prog 47 = true := by kernel_rfl
@[simp] theorem Tryz.cal48 : Aw.callable Tryz.prog 48 = true := by kernel_rfl
@[simp] theorem Tryz.cal49 : Aw.callable Tryz.prog 49 = true := by kernel_rfl
@[simp] theorem Tryz.cal50 : Aw.callable Tryz.prog 50 = true := by kernel_rfl
@[simp] theorem Tryz.cal51 : Aw.callable Tryz.prog 51 = true := by kernel_rfl
@[simp] theorem Tryz.cal52 : Aw.callable Tryz.prog 52 = true := by kernel_rfl
@[simp] theorem Tryz.cal53 : Aw.callable Tryz.prog 53 = true := by kernel_rfl
@[simp] theorem Tryz.cal54 : Aw.callable Tryz.prog 54 = true := by kernel_rfl
@[simp] theorem Tryz.cal55 : Aw.callable Tryz.prog 55 = true := by kernel_rfl
@[simp] theorem Tryz.cal56 : Aw.callable Tryz.prog 56 = true := by kernel_rfl
@[simp] theorem Tryz.cal57 : Aw.callable Tryz.prog 57 = true := by kernel_rfl
@[simp] theorem Tryz.cal58 : Aw.callable Tryz.prog 58 = true := by kernel_rfl
@[simp] theorem Tryz.cal59 : Aw.callable Tryz.prog 59 = true := by kernel_rfl
@[simp] theorem Tryz.cal60 : Aw.callable Tryz.prog 60 = true := by kernel_rfl
@[simp] theorem Tryz.cal61 : Aw.callable Tryz.prog 61 = true := by kernel_rfl
@[simp] theorem Tryz.cal62 : Aw.callable Tryz.prog 62 = true := by kernel_rfl
@[simp] theorem Tryz.cal63 : Aw.callable Tryz.prog 63 = true := by kernel_rfl
@[simp] theorem Tryz.cal64 : Aw.callable Tryz.prog 64 = true := by kernel_rfl
@[simp] theorem Tryz.cal65 : Aw.callable Tryz.prog 65 = true := by kernel_rfl
@[simp] theorem Tryz.cal66 : Aw.callable Tryz.prog 66 = true := by kernel_rfl
@[simp] theorem Tryz.cal67 : Aw.callable Tryz.prog 67 = true := by kernel_rfl
@[simp] theorem Tryz.cal68 : Aw.callable Tryz.prog 68 = true := by kernel_rfl
@[simp] theorem Tryz.cal69 : Aw.callable Tryz.prog 69 = true := by kernel_rfl
@[simp] theorem Tryz.cal70 : Aw.callable Tryz.prog 70 = true := by kernel_rfl
@[simp] theorem Tryz.cal71 : Aw.callable Tryz.prog 71 = true := by kernel_rfl
@[simp] theorem Tryz.cal72 : Aw.callable Tryz.prog 72 = true := by kernel_rfl
@[simp] theorem Tryz.cal73 : Aw.callable Tryz.prog 73 = true := by kernel_rfl
@[simp] theorem Tryz.cal74 : Aw.callable Tryz.prog 74 = true := by kernel_rfl
@[simp] theorem Tryz.cal75 : Aw.callable Tryz.prog 75 = true := by kernel_rfl
@[simp] theorem Tryz.cal76 : Aw.callable Tryz.prog 76 = true := by kernel_rfl
@[simp] theorem Tryz.cal77 : Aw.callable Tryz.prog 77 = true := by kernel_rfl
@[simp] theorem Tryz.cal78 : Aw.callable Tryz.prog 78 = true := by kernel_rfl
@[simp] theorem Tryz.cal79 : Aw.callable Tryz.prog 79 = true := by kernel_rfl
@[simp] theorem Tryz.cal80 : Aw.callable Tryz.prog 80 = true := by kernel_rfl
@[simp] theorem Tryz.cal81 : Aw.callable Tryz.prog 81 = true := by kernel_rfl
@[simp] theorem Tryz.cal82 : Aw.callable Tryz.prog 82 = true := by kernel_rfl
@[simp] theorem Tryz.cal83 : Aw.callable Tryz.prog 83 = true := by kernel_rfl
@[simp] theorem Tryz.cal84 : Aw.callable Tryz.prog 84 = true := by kernel_rfl
@[simp] theorem Tryz.cal85 : Aw.callable Tryz.prog 85 = true := by kernel_rfl
@[simp] theorem Tryz.cal86 : Aw.callable Tryz.prog 86 = true := by kernel_rfl
@[simp] theorem Tryz.cal87 : Aw.callable Tryz.prog 87 = true := by kernel_rfl
@[simp] theorem Tryz.cal88 : Aw.callable Tryz.prog 88 = true := by kernel_rfl
@[simp] theorem Tryz.cal89 : Aw.callable Tryz.prog 89 = true := by kernel_rfl
@[simp] theorem Tryz.cal90 : Aw.callable Tryz.prog 90 = true := by kernel_rfl
@[simp] theorem Tryz.cal91 : Aw.callable Tryz.prog 91 = true := by kernel_rfl
@[simp] theorem Tryz.cal92 : Aw.callable Tryz.prog 92 = true := by kernel_rfl
@[simp] theorem Tryz.cal93 : Aw.callable Tryz.prog 93 = true := by kernel_rfl
@[simp] theorem Tryz.cal94 : Aw.callable Tryz.prog 94 = true := by kernel_rfl
@[simp] theorem Tryz.cal95 : Aw.callable Tryz.prog 95 = true := by kernel_rfl
@[simp] theorem Tryz.cal96 : Aw.callable Tryz.prog 96 = true := by kernel_rfl
@[simp] theorem Tryz.cal97 : Aw.callable Tryz.prog 97 = true := by kernel_rfl
@[simp] theorem Tryz.cal98 : Aw.callable Tryz.prog 98 = true := by kernel_rfl
@[simp] theorem Tryz.cal99 : Aw.callable Tryz.prog 99 = true := by kernel_rfl
@[simp] theorem Tryz.cal100 : Aw.callable Tryz.prog 100 = true := by kernel_rfl
@[simp] theorem Tryz.cal101 : Aw.callable Tryz.prog 101 = true := by kernel_rfl
@[simp] theorem Tryz.cal102 : Aw.callable Tryz.prog 102 = true := by kernel_rfl
@[simp] theorem Tryz.cal103 : Aw.callable Tryz.prog 103 = true := by kernel_rfl
@[simp] theorem Tryz.cal104 : Aw.callable Tryz.prog 104 = true := by kernel_rfl
@[simp] theorem Tryz.cal105 : Aw.callable Tryz.prog 105 = true := by kernel_rfl
@[simp] theorem Tryz.cal106 : Aw.callable Tryz.prog 106 = true := by kernel_rfl
@[simp] theorem Tryz.cal107 : Aw.callable Tryz.prog 107 = true := by kernel_rfl
@[simp] theorem Tryz.cal108 : Aw.callable Tryz.prog 108 = true := by kernel_rfl
@[simp] theorem Tryz.cal109 : Aw.callable Tryz.prog 109 = true := by kernel_rfl
@[simp] theorem Tryz.cal110 : Aw.callable Tryz.prog 110 = true := by kernel_rfl
@[simp] theorem Tryz.cal111 : Aw.callable Tryz.prog 111 = true := by kernel_rfl
@[simp] theorem Tryz.cal112 : Aw.callable Tryz.prog 112 = true := by kernel_rfl
@[simp] theorem Tryz.cal113 : Aw.callable Tryz.prog 113 = true := by kernel_rfl
@[simp] theorem Tryz.cal114 : Aw.callable Tryz.prog 114 = true := by kernel_rfl
@[simp] theorem Tryz.cal115 : Aw.callable Tryz.prog 115 = true := by kernel_rfl
@[simp] theorem Tryz.cal116 : Aw.callable Tryz.prog 116 = true := by kernel_rfl
@[simp] theorem Tryz.cal117 : Aw.callable Tryz.prog 117 = true := by kernel_rfl
@[simp] theorem Tryz.cal118 : Aw.callable Tryz.prog 118 = true := by kernel_rfl
@[simp] theorem Tryz.cal119 : Aw.callable Tryz.prog 119 = true := by kernel_rfl
@[simp] theorem Tryz.cal120 : Aw.callable Tryz.prog 120 = true := by kernel_rfl
@[simp] theorem Tryz.cal121 : Aw.callable Tryz.prog 121 = true := by kernel_rfl
@[simp] theorem Tryz.cal122 : Aw.callable Tryz.prog 122 = true := by kernel_rfl
@[simp] theorem Tryz.cal123 : Aw.callable Tryz.prog 123 = true := by kernel_rfl
@[simp] theorem Tryz.cal124 : Aw.callable Tryz.prog 124 = true := by kernel_rfl
@[simp] theorem Tryz.cal125 : Aw.callable Tryz.prog 125 = true := by kernel_rfl
@[simp] theorem Tryz.cal126 : Aw.callable Tryz.prog 126 = true := by kernel_rfl
@[simp] theorem Tryz.cal127 : Aw.callable Tryz.prog 127 = true := by kernel_rfl
@[simp] theorem Tryz.cal128 : Aw.callable Tryz.prog 128 = true := by kernel_rfl
@[simp] theorem Tryz.cal129 : Aw.callable Tryz.prog 129 = true := by kernel_rfl
@[simp] theorem Tryz.cal130 : Aw.callable Tryz.prog 130 = true := by kernel_rfl
@[simp] theorem Tryz.cal131 : Aw.callable Tryz.prog 131 = true := by kernel_rfl
@[simp] theorem Tryz.cal132 : Aw.callable Tryz.prog 132 = true := by kernel_rfl
@[simp] theorem Tryz.cal133 : Aw.callable Tryz.prog 133 = true := by kernel_rfl
@[simp] theorem Tryz.cal134 : Aw.callable Tryz.prog 134 = true := by kernel_rfl
@[simp] theorem Tryz.cal135 : Aw.callable Tryz.prog 135 = true := by kernel_rfl
@[simp] theorem Tryz.cal136 : Aw.callable Tryz.prog 136 = true := by kernel_rfl
@[simp] theorem Tryz.cal137 : Aw.callable Tryz.prog 137 = true := by kernel_rfl
@[simp] theorem Tryz.cal138 : Aw.callable Tryz.prog 138 = true := by kernel_rfl
@[simp] theorem Tryz.cal139 : Aw.callable Tryz.prog 139 = true := by kernel_rfl
@[simp] theorem Tryz.cal140 : Aw.callable Tryz.prog 140 = true := by kernel_rfl
@[simp] theorem Tryz.cal141 : Aw.callable Tryz.prog 141 = true := by kernel_rfl
@[simp] theorem Tryz.cal142 : Aw.callable Tryz.prog 142 = true := by kernel_rfl
@[simp] theorem Tryz.cal145 : Aw.callable Tryz.prog 145 = true := by kernel_rfl
@[simp] theorem Tryz.cal146 : Aw.callable Tryz.prog 146 = true := by kernel_rfl
@[simp] theorem Tryz.cal147 : Aw.callable Tryz.prog 147 = true := by kernel_rfl
@[simp] theorem Tryz.cal149 : Aw.callable Tryz.prog 149 = true := by kernel_rfl
@[simp] theorem Tryz.cal153 : Aw.callable Tryz.prog 153 = false := by kernel_rfl
@[simp] theorem Tryz.cal155 : Aw.callable Tryz.prog 155 = false := by kernel_rfl
end Go.Proofs.YtonajehhfkkglabGreat
