/-
  Proved here: closed facts of the translated program: types, their sizes, results.
  No condition beyond what each statement spells out.
-/
import Derived.Test.YtphofanfadgalaaGreatProg
import Derived.Test.YtphofanfadgalaaGreatF3
import Derived.KernelRfl
set_option linter.all false
/-
  Closed facts on the translation: sizes, fields and zero values of its types; that its functions have bodies. Written by a program of ours.
-/
namespace Go.Proofs.YtphofanfadgalaaGreat
@[simp] theorem Tryz.agg2 : Aw.aggSize Tryz.prog 2 = none := by kernel_rfl
@[simp] theorem Tryz.one2 : Aw.oneSize Tryz.prog 2 = true := by kernel_rfl
@[simp] theorem Tryz.siz2 : Aw.sizeA Tryz.prog 2 = some 1 := by kernel_rfl
@[simp] theorem Tryz.zer2 : Aw.zeroA Tryz.prog 2 = some [.int .i64 0] := by kernel_rfl
@[simp] theorem Tryz.zsz2 : Aw.zeroSz Tryz.prog 2 1 = true := by kernel_rfl
@[simp] theorem Tryz.int2 : Aw.intType Tryz.prog 2 = some .i64 := by kernel_rfl
@[simp] theorem Tryz.som2 : (Tryz.prog.underlying 2).isSome = true := by kernel_rfl
@[simp] theorem Tryz.agg3 : Aw.aggSize Tryz.prog 3 = none := by kernel_rfl
@[simp] theorem Tryz.one3 : Aw.oneSize Tryz.prog 3 = true := by kernel_rfl
@[simp] theorem Tryz.siz3 : Aw.sizeA Tryz.prog 3 = some 1 := by kernel_rfl
@[simp] theorem Tryz.zer3 : Aw.zeroA Tryz.prog 3 = some [.int .i64 0] := by kernel_rfl
@[simp] theorem Tryz.zsz3 : Aw.zeroSz Tryz.prog 3 1 = true := by kernel_rfl
@[simp] theorem Tryz.int3 : Aw.intType Tryz.prog 3 = some .i64 := by kernel_rfl
@[simp] theorem Tryz.som3 : (Tryz.prog.underlying 3).isSome = true := by kernel_rfl
@[simp] theorem Tryz.agg4 : Aw.aggSize Tryz.prog 4 = none := by kernel_rfl
@[simp] theorem Tryz.one4 : Aw.oneSize Tryz.prog 4 = true := by kernel_rfl
@[simp] theorem Tryz.siz4 : Aw.sizeA Tryz.prog 4 = some 1 := by kernel_rfl
@[simp] theorem Tryz.zer4 : Aw.zeroA Tryz.prog 4 = some [.bool false] := by kernel_rfl
@[simp] theorem Tryz.zsz4 : Aw.zeroSz Tryz.prog 4 1 = true := by kernel_rfl
@[simp] theorem Tryz.bol4 : Aw.boolType Tryz.prog 4 = true := by kernel_rfl
@[simp] theorem Tryz.agg5 : Aw.aggSize Tryz.prog 5 = none := by kernel_rfl
@[simp] theorem Tryz.one5 : Aw.oneSize Tryz.prog 5 = true := by kernel_rfl
@[simp] theorem Tryz.siz5 : Aw.sizeA Tryz.prog 5 = some 1 := by kernel_rfl
@[simp] theorem Tryz.zer5 : Aw.zeroA Tryz.prog 5 = some [.int .u8 0] := by kernel_rfl
@[simp] theorem Tryz.zsz5 : Aw.zeroSz Tryz.prog 5 1 = true := by kernel_rfl
@[simp] theorem Tryz.int5 : Aw.intType Tryz.prog 5 = some .u8 := by kernel_rfl
@[simp] theorem Tryz.som5 : (Tryz.prog.underlying 5).isSome = true := by kernel_rfl
@[simp] theorem Tryz.agg9 : Aw.aggSize Tryz.prog 9 = none := by kernel_rfl
@[simp] theorem Tryz.one9 : Aw.oneSize Tryz.prog 9 = true := by kernel_rfl
@[simp] theorem Tryz.siz9 : Aw.sizeA Tryz.prog 9 = some 1 := by kernel_rfl
@[simp] theorem Tryz.zer9 : Aw.zeroA Tryz.prog 9 = some [.str []] := by kernel_rfl
@[simp] theorem Tryz.zsz9 : Aw.zeroSz Tryz.prog 9 1 = true := by kernel_rfl
@[simp] theorem Tryz.iss9 : Aw.isString Tryz.prog 9 = true := by kernel_rfl
@[simp] theorem Tryz.apd9 : Aw.appendable Tryz.prog 9 = true := by kernel_rfl
@[simp] theorem Tryz.agg12 : Aw.aggSize Tryz.prog 12 = none := by kernel_rfl
@[simp] theorem Tryz.one12 : Aw.oneSize Tryz.prog 12 = true := by kernel_rfl
@[simp] theorem Tryz.siz12 : Aw.sizeA Tryz.prog 12 = some 1 := by kernel_rfl
@[simp] theorem Tryz.zer12 : Aw.zeroA Tryz.prog 12 = some [.int .u64 0] := by kernel_rfl
@[simp] theorem Tryz.zsz12 : Aw.zeroSz Tryz.prog 12 1 = true := by kernel_rfl
@[simp] theorem Tryz.int12 : Aw.intType Tryz.prog 12 = some .u64 := by kernel_rfl
@[simp] theorem Tryz.som12 : (Tryz.prog.underlying 12).isSome = true := by kernel_rfl
@[simp] theorem Tryz.agg21 : Aw.aggSize Tryz.prog 21 = none := by kernel_rfl
@[simp] theorem Tryz.one21 : Aw.oneSize Tryz.prog 21 = true := by kernel_rfl
@[simp] theorem Tryz.siz21 : Aw.sizeA Tryz.prog 21 = some 1 := by kernel_rfl
@[simp] theorem Tryz.zer21 : Aw.zeroA Tryz.prog 21 = some [.int .i32 0] := by kernel_rfl
@[simp] theorem Tryz.zsz21 : Aw.zeroSz Tryz.prog 21 1 = true := by kernel_rfl
@[simp] theorem Tryz.int21 : Aw.intType Tryz.prog 21 = some .i32 := by kernel_rfl
@[simp] theorem Tryz.som21 : (Tryz.prog.underlying 21).isSome = true := by kernel_rfl
@[simp] theorem Tryz.agg23 : Aw.aggSize Tryz.prog 23 = some 2 := by kernel_rfl
@[simp] theorem Tryz.siz23 : Aw.sizeA Tryz.prog 23 = some 2 := by kernel_rfl
@[simp] theorem Tryz.zer23 : Aw.zeroA Tryz.prog 23 = some [.str [], .str []] := by kernel_rfl
@[simp] theorem Tryz.zsz23 : Aw.zeroSz Tryz.prog 23 2 = true := by kernel_rfl
@[simp] theorem Tryz.fld23_0 : Aw.fieldA Tryz.prog 23 0 = some 0 := by kernel_rfl
@[simp] theorem Tryz.fld23_1 : Aw.fieldA Tryz.prog 23 1 = some 1 := by kernel_rfl
@[simp] theorem Tryz.plc23 : Aw.placesA Tryz.prog 23 = some [(0, 1), (1, 1)] := by kernel_rfl
@[simp] theorem Tryz.agg24 : Aw.aggSize Tryz.prog 24 = none := by kernel_rfl
@[simp] theorem Tryz.one24 : Aw.oneSize Tryz.prog 24 = true := by kernel_rfl
@[simp] theorem Tryz.siz24 : Aw.sizeA Tryz.prog 24 = some 1 := by kernel_rfl
@[simp] theorem Tryz.zer24 : Aw.zeroA Tryz.prog 24 = some [.sl .own 1 []] := by kernel_rfl
@[simp] theorem Tryz.zsz24 : Aw.zeroSz Tryz.prog 24 1 = true := by kernel_rfl
@[simp] theorem Tryz.elm24 : Aw.elemA Tryz.prog 24 = some (9, 1, 16) := by kernel_rfl
@[simp] theorem Tryz.isl24 : Aw.isSlice Tryz.prog 24 = true := by kernel_rfl
@[simp] theorem Tryz.apd24 : Aw.appendable Tryz.prog 24 = true := by kernel_rfl
@[simp] theorem Tryz.agg26 : Aw.aggSize Tryz.prog 26 = some 5 := by kernel_rfl
@[simp] theorem Tryz.siz26 : Aw.sizeA Tryz.prog 26 = some 5 := by kernel_rfl
@[simp] theorem Tryz.zer26 : Aw.zeroA Tryz.prog 26 = some [.bool false, .sl .own 1 [], .sl .own 1 [], .sl .own 1 [], .str []] := by kernel_rfl
@[simp] theorem Tryz.zsz26 : Aw.zeroSz Tryz.prog 26 5 = true := by kernel_rfl
@[simp] theorem Tryz.fld26_0 : Aw.fieldA Tryz.prog 26 0 = some 0 := by kernel_rfl
@[simp] theorem Tryz.fld26_1 : Aw.fieldA Tryz.prog 26 1 = some 1 := by kernel_rfl
@[simp] theorem Tryz.fld26_2 : Aw.fieldA Tryz.prog 26 2 = some 2 := by kernel_rfl
@[simp] theorem Tryz.fld26_3 : Aw.fieldA Tryz.prog 26 3 = some 3 := by kernel_rfl
@[simp] theorem Tryz.fld26_4 : Aw.fieldA Tryz.prog 26 4 = some 4 := by kernel_rfl
@[simp] theorem Tryz.plc26 : Aw.placesA Tryz.prog 26 = some [(0, 1), (1, 1), (2, 1), (3, 1), (4, 1)] := by kernel_rfl
@[simp] theorem Tryz.agg28 : Aw.aggSize Tryz.prog 28 = some 1 := by kernel_rfl
@[simp] theorem Tryz.siz28 : Aw.sizeA Tryz.prog 28 = some 1 := by kernel_rfl
@[simp] theorem Tryz.zer28 : Aw.zeroA Tryz.prog 28 = some [.str []] := by kernel_rfl
@[simp] theorem Tryz.zsz28 : Aw.zeroSz Tryz.prog 28 1 = true := by kernel_rfl
@[simp] theorem Tryz.fld28_0 : Aw.fieldA Tryz.prog 28 0 = some 0 := by kernel_rfl
@[simp] theorem Tryz.plc28 : Aw.placesA Tryz.prog 28 = some [(0, 1)] := by kernel_rfl
@[simp] theorem Tryz.agg29 : Aw.aggSize Tryz.prog 29 = none := by kernel_rfl
@[simp] theorem Tryz.one29 : Aw.oneSize Tryz.prog 29 = true := by kernel_rfl
@[simp] theorem Tryz.siz29 : Aw.sizeA Tryz.prog 29 = some 1 := by kernel_rfl
@[simp] theorem Tryz.zer29 : Aw.zeroA Tryz.prog 29 = some [.sl .own 4 []] := by kernel_rfl
@[simp] theorem Tryz.zsz29 : Aw.zeroSz Tryz.prog 29 1 = true := by kernel_rfl
@[simp] theorem Tryz.elm29 : Aw.elemA Tryz.prog 29 = some (106, 4, 64) := by kernel_rfl
@[simp] theorem Tryz.isl29 : Aw.isSlice Tryz.prog 29 = true := by kernel_rfl
@[simp] theorem Tryz.apd29 : Aw.appendable Tryz.prog 29 = true := by kernel_rfl
@[simp] theorem Tryz.agg30 : Aw.aggSize Tryz.prog 30 = none := by kernel_rfl
@[simp] theorem Tryz.one30 : Aw.oneSize Tryz.prog 30 = true := by kernel_rfl
@[simp] theorem Tryz.siz30 : Aw.sizeA Tryz.prog 30 = some 1 := by kernel_rfl
@[simp] theorem Tryz.zer30 : Aw.zeroA Tryz.prog 30 = some [.sl .own 4 []] := by kernel_rfl
@[simp] theorem Tryz.zsz30 : Aw.zeroSz Tryz.prog 30 1 = true := by kernel_rfl
@[simp] theorem Tryz.elm30 : Aw.elemA Tryz.prog 30 = some (146, 4, 64) := by kernel_rfl
@[simp] theorem Tryz.isl30 : Aw.isSlice Tryz.prog 30 = true := by kernel_rfl
@[simp] theorem Tryz.apd30 : Aw.appendable Tryz.prog 30 = true := by kernel_rfl
@[simp] theorem Tryz.agg31 : Aw.aggSize Tryz.prog 31 = none := by kernel_rfl
@[simp] theorem Tryz.one31 : Aw.oneSize Tryz.prog 31 = true := by kernel_rfl
@[simp] theorem Tryz.siz31 : Aw.sizeA Tryz.prog 31 = some 1 := by kernel_rfl
@[simp] theorem Tryz.zer31 : Aw.zeroA Tryz.prog 31 = some [.sl .own 1 []] := by kernel_rfl
@[simp] theorem Tryz.zsz31 : Aw.zeroSz Tryz.prog 31 1 = true := by kernel_rfl
@[simp] theorem Tryz.elm31 : Aw.elemA Tryz.prog 31 = some (3, 1, 8) := by kernel_rfl
@[simp] theorem Tryz.isl31 : Aw.isSlice Tryz.prog 31 = true := by kernel_rfl
@[simp] theorem Tryz.apd31 : Aw.appendable Tryz.prog 31 = true := by kernel_rfl
@[simp] theorem Tryz.agg33 : Aw.aggSize Tryz.prog 33 = some 2 := by kernel_rfl
@[simp] theorem Tryz.siz33 : Aw.sizeA Tryz.prog 33 = some 2 := by kernel_rfl
@[simp] theorem Tryz.zer33 : Aw.zeroA Tryz.prog 33 = some [.sl .own 4 [], .sl .own 1 []] := by kernel_rfl
@[simp] theorem Tryz.zsz33 : Aw.zeroSz Tryz.prog 33 2 = true := by kernel_rfl
@[simp] theorem Tryz.fld33_0 : Aw.fieldA Tryz.prog 33 0 = some 0 := by kernel_rfl
@[simp] theorem Tryz.fld33_1 : Aw.fieldA Tryz.prog 33 1 = some 1 := by kernel_rfl
@[simp] theorem Tryz.plc33 : Aw.placesA Tryz.prog 33 = some [(0, 1), (1, 1)] := by kernel_rfl
@[simp] theorem Tryz.agg34 : Aw.aggSize Tryz.prog 34 = none := by kernel_rfl
@[simp] theorem Tryz.one34 : Aw.oneSize Tryz.prog 34 = true := by kernel_rfl
@[simp] theorem Tryz.siz34 : Aw.sizeA Tryz.prog 34 = some 1 := by kernel_rfl
@[simp] theorem Tryz.zer34 : Aw.zeroA Tryz.prog 34 = some [.sl .own 8 []] := by kernel_rfl
@[simp] theorem Tryz.zsz34 : Aw.zeroSz Tryz.prog 34 1 = true := by kernel_rfl
@[simp] theorem Tryz.elm34 : Aw.elemA Tryz.prog 34 = some (111, 8, 96) := by kernel_rfl
@[simp] theorem Tryz.isl34 : Aw.isSlice Tryz.prog 34 = true := by kernel_rfl
@[simp] theorem Tryz.apd34 : Aw.appendable Tryz.prog 34 = true := by kernel_rfl
@[simp] theorem Tryz.agg35 : Aw.aggSize Tryz.prog 35 = none := by kernel_rfl
@[simp] theorem Tryz.one35 : Aw.oneSize Tryz.prog 35 = true := by kernel_rfl
@[simp] theorem Tryz.siz35 : Aw.sizeA Tryz.prog 35 = some 1 := by kernel_rfl
@[simp] theorem Tryz.zer35 : Aw.zeroA Tryz.prog 35 = some [.sl .own 5 []] := by kernel_rfl
@[simp] theorem Tryz.zsz35 : Aw.zeroSz Tryz.prog 35 1 = true := by kernel_rfl
@[simp] theorem Tryz.elm35 : Aw.elemA Tryz.prog 35 = some (114, 5, 64) := by kernel_rfl
@[simp] theorem Tryz.isl35 : Aw.isSlice Tryz.prog 35 = true := by kernel_rfl
@[simp] theorem Tryz.apd35 : Aw.appendable Tryz.prog 35 = true := by kernel_rfl
@[simp] theorem Tryz.agg36 : Aw.aggSize Tryz.prog 36 = none := by kernel_rfl
@[simp] theorem Tryz.one36 : Aw.oneSize Tryz.prog 36 = true := by kernel_rfl
@[simp] theorem Tryz.siz36 : Aw.sizeA Tryz.prog 36 = some 1 := by kernel_rfl
@[simp] theorem Tryz.zer36 : Aw.zeroA Tryz.prog 36 = some [.sl .own 2 []] := by kernel_rfl
@[simp] theorem Tryz.zsz36 : Aw.zeroSz Tryz.prog 36 1 = true := by kernel_rfl
@[simp] theorem Tryz.elm36 : Aw.elemA Tryz.prog 36 = some (23, 2, 32) := by kernel_rfl
@[simp] theorem Tryz.isl36 : Aw.isSlice Tryz.prog 36 = true := by kernel_rfl
@[simp] theorem Tryz.apd36 : Aw.appendable Tryz.prog 36 = true := by kernel_rfl
@[simp] theorem Tryz.agg38 : Aw.aggSize Tryz.prog 38 = some 22 := by kernel_rfl
@[simp] theorem Tryz.siz38 : Aw.sizeA Tryz.prog 38 = some 22 := by kernel_rfl
@[simp] theorem Tryz.zer38 : Aw.zeroA Tryz.prog 38 = some [.str [], .str [], .bool false, .sl .own 1 [], .sl .own 1 [], .sl .own 1 [], .str [], .str [], .sl .own 4 [], .bool false, .sl .own 4 [], .sl .own 1 [], .sl .own 8 [], .sl .own 5 [], .sl .own 2 [], .int .i64 0, .int .i64 0, .int .i64 0, .int .i64 0, .sl .own 2 [], .sl .own 1 [], .bool false] := by kernel_rfl
@[simp] theorem Tryz.zsz38 : Aw.zeroSz Tryz.prog 38 22 = true := by kernel_rfl
@[simp] theorem Tryz.fld38_0 : Aw.fieldA Tryz.prog 38 0 = some 0 := by kernel_rfl
@[simp] theorem Tryz.fld38_1 : Aw.fieldA Tryz.prog 38 1 = some 2 := by kernel_rfl
@[simp] theorem Tryz.fld38_2 : Aw.fieldA Tryz.prog 38 2 = some 7 := by kernel_rfl
@[simp] theorem Tryz.fld38_3 : Aw.fieldA Tryz.prog 38 3 = some 8 := by kernel_rfl
@[simp] theorem Tryz.fld38_4 : Aw.fieldA Tryz.prog 38 4 = some 9 := by kernel_rfl
@[simp] theorem Tryz.fld38_5 : Aw.fieldA Tryz.prog 38 5 = some 10 := by kernel_rfl
@[simp] theorem Tryz.fld38_6 : Aw.fieldA Tryz.prog 38 6 = some 12 := by kernel_rfl
@[simp] theorem Tryz.fld38_7 : Aw.fieldA Tryz.prog 38 7 = some 13 := by kernel_rfl
@[simp] theorem Tryz.fld38_8 : Aw.fieldA Tryz.prog 38 8 = some 14 := by kernel_rfl
@[simp] theorem Tryz.fld38_9 : Aw.fieldA Tryz.prog 38 9 = some 15 := by kernel_rfl
@[simp] theorem Tryz.fld38_10 : Aw.fieldA Tryz.prog 38 10 = some 16 := by kernel_rfl
@[simp] theorem Tryz.fld38_11 : Aw.fieldA Tryz.prog 38 11 = some 17 := by kernel_rfl
@[simp] theorem Tryz.fld38_12 : Aw.fieldA Tryz.prog 38 12 = some 18 := by kernel_rfl
@[simp] theorem Tryz.fld38_13 : Aw.fieldA Tryz.prog 38 13 = some 19 := by kernel_rfl
@[simp] theorem Tryz.fld38_14 : Aw.fieldA Tryz.prog 38 14 = some 20 := by kernel_rfl
@[simp] theorem Tryz.fld38_15 : Aw.fieldA Tryz.prog 38 15 = some 21 := by kernel_rfl
@[simp] theorem Tryz.plc38 : Aw.placesA Tryz.prog 38 = some [(0, 2), (2, 5), (7, 1), (8, 1), (9, 1), (10, 2), (12, 1), (13, 1), (14, 1), (15, 1), (16, 1), (17, 1), (18, 1), (19, 1), (20, 1), (21, 1)] := by kernel_rfl
@[simp] theorem Tryz.agg41 : Aw.aggSize Tryz.prog 41 = some 2 := by kernel_rfl
@[simp] theorem Tryz.siz41 : Aw.sizeA Tryz.prog 41 = some 2 := by kernel_rfl
@[simp] theorem Tryz.zer41 : Aw.zeroA Tryz.prog 41 = some [.str [], .str []] := by kernel_rfl
@[simp] theorem Tryz.zsz41 : Aw.zeroSz Tryz.prog 41 2 = true := by kernel_rfl
@[simp] theorem Tryz.fld41_0 : Aw.fieldA Tryz.prog 41 0 = some 0 := by kernel_rfl
@[simp] theorem Tryz.fld41_1 : Aw.fieldA Tryz.prog 41 1 = some 1 := by kernel_rfl
@[simp] theorem Tryz.plc41 : Aw.placesA Tryz.prog 41 = some [(0, 1), (1, 1)] := by kernel_rfl
@[simp] theorem Tryz.agg42 : Aw.aggSize Tryz.prog 42 = some 5 := by kernel_rfl
@[simp] theorem Tryz.siz42 : Aw.sizeA Tryz.prog 42 = some 5 := by kernel_rfl
@[simp] theorem Tryz.zer42 : Aw.zeroA Tryz.prog 42 = some [.bool false, .sl .own 1 [], .sl .own 1 [], .sl .own 1 [], .str []] := by kernel_rfl
@[simp] theorem Tryz.zsz42 : Aw.zeroSz Tryz.prog 42 5 = true := by kernel_rfl
@[simp] theorem Tryz.fld42_0 : Aw.fieldA Tryz.prog 42 0 = some 0 := by kernel_rfl
@[simp] theorem Tryz.fld42_1 : Aw.fieldA Tryz.prog 42 1 = some 1 := by kernel_rfl
@[simp] theorem Tryz.fld42_2 : Aw.fieldA Tryz.prog 42 2 = some 2 := by kernel_rfl
@[simp] theorem Tryz.fld42_3 : Aw.fieldA Tryz.prog 42 3 = some 3 := by kernel_rfl
@[simp] theorem Tryz.fld42_4 : Aw.fieldA Tryz.prog 42 4 = some 4 := by kernel_rfl
@[simp] theorem Tryz.plc42 : Aw.placesA Tryz.prog 42 = some [(0, 1), (1, 1), (2, 1), (3, 1), (4, 1)] := by kernel_rfl
@[simp] theorem Tryz.agg43 : Aw.aggSize Tryz.prog 43 = some 1 := by kernel_rfl
@[simp] theorem Tryz.siz43 : Aw.sizeA Tryz.prog 43 = some 1 := by kernel_rfl
@[simp] theorem Tryz.zer43 : Aw.zeroA Tryz.prog 43 = some [.str []] := by kernel_rfl
@[simp] theorem Tryz.zsz43 : Aw.zeroSz Tryz.prog 43 1 = true := by kernel_rfl
@[simp] theorem Tryz.fld43_0 : Aw.fieldA Tryz.prog 43 0 = some 0 := by kernel_rfl
@[simp] theorem Tryz.plc43 : Aw.placesA Tryz.prog 43 = some [(0, 1)] := by kernel_rfl
@[simp] theorem Tryz.agg44 : Aw.aggSize Tryz.prog 44 = none := by kernel_rfl
@[simp] theorem Tryz.one44 : Aw.oneSize Tryz.prog 44 = true := by kernel_rfl
@[simp] theorem Tryz.siz44 : Aw.sizeA Tryz.prog 44 = some 1 := by kernel_rfl
@[simp] theorem Tryz.zer44 : Aw.zeroA Tryz.prog 44 = some [.sl .own 4 []] := by kernel_rfl
@[simp] theorem Tryz.zsz44 : Aw.zeroSz Tryz.prog 44 1 = true := by kernel_rfl
@[simp] theorem Tryz.elm44 : Aw.elemA Tryz.prog 44 = some (122, 4, 64) := by kernel_rfl
@[simp] theorem Tryz.isl44 : Aw.isSlice Tryz.prog 44 = true := by kernel_rfl
@[simp] theorem Tryz.apd44 : Aw.appendable Tryz.prog 44 = true := by kernel_rfl
@[simp] theorem Tryz.agg45 : Aw.aggSize Tryz.prog 45 = none := by kernel_rfl
@[simp] theorem Tryz.one45 : Aw.oneSize Tryz.prog 45 = true := by kernel_rfl
@[simp] theorem Tryz.siz45 : Aw.sizeA Tryz.prog 45 = some 1 := by kernel_rfl
@[simp] theorem Tryz.zer45 : Aw.zeroA Tryz.prog 45 = some [.sl .own 4 []] := by kernel_rfl
@[simp] theorem Tryz.zsz45 : Aw.zeroSz Tryz.prog 45 1 = true := by kernel_rfl
@[simp] theorem Tryz.elm45 : Aw.elemA Tryz.prog 45 = some (149, 4, 64) := by kernel_rfl
@[simp] theorem Tryz.isl45 : Aw.isSlice Tryz.prog 45 = true := by kernel_rfl
@[simp] theorem Tryz.apd45 : Aw.appendable Tryz.prog 45 = true := by kernel_rfl
@[simp] theorem Tryz.agg47 : Aw.aggSize Tryz.prog 47 = some 2 := by kernel_rfl
@[simp] theorem Tryz.siz47 : Aw.sizeA Tryz.prog 47 = some 2 := by kernel_rfl
@[simp] theorem Tryz.zer47 : Aw.zeroA Tryz.prog 47 = some [.sl .own 4 [], .sl .own 1 []] := by kernel_rfl
@[simp] theorem Tryz.zsz47 : Aw.zeroSz Tryz.prog 47 2 = true := by kernel_rfl
@[simp] theorem Tryz.fld47_0 : Aw.fieldA Tryz.prog 47 0 = some 0 := by kernel_rfl
@[simp] theorem Tryz.fld47_1 : Aw.fieldA Tryz.prog 47 1 = some 1 := by kernel_rfl
@[simp] theorem Tryz.plc47 : Aw.placesA Tryz.prog 47 = some [(0, 1), (1, 1)] := by kernel_rfl
@[simp] theorem Tryz.agg48 : Aw.aggSize Tryz.prog 48 = none := by kernel_rfl
@[simp] theorem Tryz.one48 : Aw.oneSize Tryz.prog 48 = true := by kernel_rfl
@[simp] theorem Tryz.siz48 : Aw.sizeA Tryz.prog 48 = some 1 := by kernel_rfl
@[simp] theorem Tryz.zer48 : Aw.zeroA Tryz.prog 48 = some [.sl .own 8 []] := by kernel_rfl
@[simp] theorem Tryz.zsz48 : Aw.zeroSz Tryz.prog 48 1 = true := by kernel_rfl
@[simp] theorem Tryz.elm48 : Aw.elemA Tryz.prog 48 = some (127, 8, 96) := by kernel_rfl
@[simp] theorem Tryz.isl48 : Aw.isSlice Tryz.prog 48 = true := by kernel_rfl
@[simp] theorem Tryz.apd48 : Aw.appendable Tryz.prog 48 = true := by kernel_rfl
@[simp] theorem Tryz.agg49 : Aw.aggSize Tryz.prog 49 = none := by kernel_rfl
@[simp] theorem Tryz.one49 : Aw.oneSize Tryz.prog 49 = true := by kernel_rfl
@[simp] theorem Tryz.siz49 : Aw.sizeA Tryz.prog 49 = some 1 := by kernel_rfl
@[simp] theorem Tryz.zer49 : Aw.zeroA Tryz.prog 49 = some [.sl .own 5 []] := by kernel_rfl
@[simp] theorem Tryz.zsz49 : Aw.zeroSz Tryz.prog 49 1 = true := by kernel_rfl
@[simp] theorem Tryz.elm49 : Aw.elemA Tryz.prog 49 = some (72, 5, 64) := by kernel_rfl
@[simp] theorem Tryz.isl49 : Aw.isSlice Tryz.prog 49 = true := by kernel_rfl
@[simp] theorem Tryz.apd49 : Aw.appendable Tryz.prog 49 = true := by kernel_rfl
@[simp] theorem Tryz.agg50 : Aw.aggSize Tryz.prog 50 = none := by kernel_rfl
@[simp] theorem Tryz.one50 : Aw.oneSize Tryz.prog 50 = true := by kernel_rfl
@[simp] theorem Tryz.siz50 : Aw.sizeA Tryz.prog 50 = some 1 := by kernel_rfl
@[simp] theorem Tryz.zer50 : Aw.zeroA Tryz.prog 50 = some [.sl .own 2 []] := by kernel_rfl
@[simp] theorem Tryz.zsz50 : Aw.zeroSz Tryz.prog 50 1 = true := by kernel_rfl
@[simp] theorem Tryz.elm50 : Aw.elemA Tryz.prog 50 = some (41, 2, 32) := by kernel_rfl
@[simp] theorem Tryz.isl50 : Aw.isSlice Tryz.prog 50 = true := by kernel_rfl
@[simp] theorem Tryz.apd50 : Aw.appendable Tryz.prog 50 = true := by kernel_rfl
@[simp] theorem Tryz.agg52 : Aw.aggSize Tryz.prog 52 = some 22 := by kernel_rfl
@[simp] theorem Tryz.siz52 : Aw.sizeA Tryz.prog 52 = some 22 := by kernel_rfl
@[simp] theorem Tryz.zer52 : Aw.zeroA Tryz.prog 52 = some [.str [], .str [], .bool false, .sl .own 1 [], .sl .own 1 [], .sl .own 1 [], .str [], .str [], .sl .own 4 [], .bool false, .sl .own 4 [], .sl .own 1 [], .sl .own 8 [], .sl .own 5 [], .sl .own 2 [], .int .i64 0, .int .i64 0, .int .i64 0, .int .i64 0, .sl .own 2 [], .sl .own 1 [], .bool false] := by kernel_rfl
@[simp] theorem Tryz.zsz52 : Aw.zeroSz Tryz.prog 52 22 = true := by kernel_rfl
@[simp] theorem Tryz.fld52_0 : Aw.fieldA Tryz.prog 52 0 = some 0 := by kernel_rfl
@[simp] theorem Tryz.fld52_1 : Aw.fieldA Tryz.prog 52 1 = some 2 := by kernel_rfl
@[simp] theorem Tryz.fld52_2 : Aw.fieldA Tryz.prog 52 2 = some 7 := by kernel_rfl
@[simp] theorem Tryz.fld52_3 : Aw.fieldA Tryz.prog 52 3 = some 8 := by kernel_rfl
@[simp] theorem Tryz.fld52_4 : Aw.fieldA Tryz.prog 52 4 = some 9 := by kernel_rfl
@[simp] theorem Tryz.fld52_5 : Aw.fieldA Tryz.prog 52 5 = some 10 := by kernel_rfl
@[simp] theorem Tryz.fld52_6 : Aw.fieldA Tryz.prog 52 6 = some 12 := by kernel_rfl
@[simp] theorem Tryz.fld52_7 : Aw.fieldA Tryz.prog 52 7 = some 13 := by kernel_rfl
@[simp] theorem Tryz.fld52_8 : Aw.fieldA Tryz.prog 52 8 = some 14 := by kernel_rfl
@[simp] theorem Tryz.fld52_9 : Aw.fieldA Tryz.prog 52 9 = some 15 := by kernel_rfl
@[simp] theorem Tryz.fld52_10 : Aw.fieldA Tryz.prog 52 10 = some 16 := by kernel_rfl
@[simp] theorem Tryz.fld52_11 : Aw.fieldA Tryz.prog 52 11 = some 17 := by kernel_rfl
@[simp] theorem Tryz.fld52_12 : Aw.fieldA Tryz.prog 52 12 = some 18 := by kernel_rfl
@[simp] theorem Tryz.fld52_13 : Aw.fieldA Tryz.prog 52 13 = some 19 := by kernel_rfl
@[simp] theorem Tryz.fld52_14 : Aw.fieldA Tryz.prog 52 14 = some 20 := by kernel_rfl
@[simp] theorem Tryz.fld52_15 : Aw.fieldA Tryz.prog 52 15 = some 21 := by kernel_rfl
@[simp] theorem Tryz.plc52 : Aw.placesA Tryz.prog 52 = some [(0, 2), (2, 5), (7, 1), (8, 1), (9, 1), (10, 2), (12, 1), (13, 1), (14, 1), (15, 1), (16, 1), (17, 1), (18, 1), (19, 1), (20, 1), (21, 1)] := by kernel_rfl
@[simp] theorem Tryz.agg72 : Aw.aggSize Tryz.prog 72 = some 5 := by kernel_rfl
@[simp] theorem Tryz.siz72 : Aw.sizeA Tryz.prog 72 = some 5 := by kernel_rfl
@[simp] theorem Tryz.zer72 : Aw.zeroA Tryz.prog 72 = some [.str [], .str [], .bool false, .int .i64 0, .str []] := by kernel_rfl
@[simp] theorem Tryz.zsz72 : Aw.zeroSz Tryz.prog 72 5 = true := by kernel_rfl
@[simp] theorem Tryz.fld72_0 : Aw.fieldA Tryz.prog 72 0 = some 0 := by kernel_rfl
@[simp] theorem Tryz.fld72_1 : Aw.fieldA Tryz.prog 72 1 = some 2 := by kernel_rfl
@[simp] theorem Tryz.fld72_2 : Aw.fieldA Tryz.prog 72 2 = some 3 := by kernel_rfl
@[simp] theorem Tryz.fld72_3 : Aw.fieldA Tryz.prog 72 3 = some 4 := by kernel_rfl
@[simp] theorem Tryz.plc72 : Aw.placesA Tryz.prog 72 = some [(0, 2), (2, 1), (3, 1), (4, 1)] := by kernel_rfl
@[simp] theorem Tryz.agg75 : Aw.aggSize Tryz.prog 75 = some 5 := by kernel_rfl
@[simp] theorem Tryz.siz75 : Aw.sizeA Tryz.prog 75 = some 5 := by kernel_rfl
@[simp] theorem Tryz.zer75 : Aw.zeroA Tryz.prog 75 = some [.int .i64 0, .str [], .str [], .str [], .str []] := by kernel_rfl
@[simp] theorem Tryz.zsz75 : Aw.zeroSz Tryz.prog 75 5 = true := by kernel_rfl
@[simp] theorem Tryz.fld75_0 : Aw.fieldA Tryz.prog 75 0 = some 0 := by kernel_rfl
@[simp] theorem Tryz.fld75_1 : Aw.fieldA Tryz.prog 75 1 = some 1 := by kernel_rfl
@[simp] theorem Tryz.fld75_2 : Aw.fieldA Tryz.prog 75 2 = some 3 := by kernel_rfl
@[simp] theorem Tryz.fld75_3 : Aw.fieldA Tryz.prog 75 3 = some 4 := by kernel_rfl
@[simp] theorem Tryz.plc75 : Aw.placesA Tryz.prog 75 = some [(0, 1), (1, 2), (3, 1), (4, 1)] := by kernel_rfl
@[simp] theorem Tryz.agg104 : Aw.aggSize Tryz.prog 104 = none := by kernel_rfl
@[simp] theorem Tryz.one104 : Aw.oneSize Tryz.prog 104 = true := by kernel_rfl
@[simp] theorem Tryz.siz104 : Aw.sizeA Tryz.prog 104 = some 1 := by kernel_rfl
@[simp] theorem Tryz.zer104 : Aw.zeroA Tryz.prog 104 = some [.sl .own 2 []] := by kernel_rfl
@[simp] theorem Tryz.zsz104 : Aw.zeroSz Tryz.prog 104 1 = true := by kernel_rfl
@[simp] theorem Tryz.elm104 : Aw.elemA Tryz.prog 104 = some (162, 2, 32) := by kernel_rfl
@[simp] theorem Tryz.isl104 : Aw.isSlice Tryz.prog 104 = true := by kernel_rfl
@[simp] theorem Tryz.apd104 : Aw.appendable Tryz.prog 104 = true := by kernel_rfl
@[simp] theorem Tryz.agg106 : Aw.aggSize Tryz.prog 106 = some 4 := by kernel_rfl
@[simp] theorem Tryz.siz106 : Aw.sizeA Tryz.prog 106 = some 4 := by kernel_rfl
@[simp] theorem Tryz.zer106 : Aw.zeroA Tryz.prog 106 = some [.int .i64 0, .str [], .sl .own 2 [], .str []] := by kernel_rfl
@[simp] theorem Tryz.zsz106 : Aw.zeroSz Tryz.prog 106 4 = true := by kernel_rfl
@[simp] theorem Tryz.fld106_0 : Aw.fieldA Tryz.prog 106 0 = some 0 := by kernel_rfl
@[simp] theorem Tryz.fld106_1 : Aw.fieldA Tryz.prog 106 1 = some 1 := by kernel_rfl
@[simp] theorem Tryz.fld106_2 : Aw.fieldA Tryz.prog 106 2 = some 2 := by kernel_rfl
@[simp] theorem Tryz.fld106_3 : Aw.fieldA Tryz.prog 106 3 = some 3 := by kernel_rfl
@[simp] theorem Tryz.plc106 : Aw.placesA Tryz.prog 106 = some [(0, 1), (1, 1), (2, 1), (3, 1)] := by kernel_rfl
@[simp] theorem Tryz.agg111 : Aw.aggSize Tryz.prog 111 = some 8 := by kernel_rfl
@[simp] theorem Tryz.siz111 : Aw.sizeA Tryz.prog 111 = some 8 := by kernel_rfl
@[simp] theorem Tryz.zer111 : Aw.zeroA Tryz.prog 111 = some [.int .i64 0, .str [], .str [], .str [], .int .i64 0, .bool false, .int .i64 0, .str []] := by kernel_rfl
@[simp] theorem Tryz.zsz111 : Aw.zeroSz Tryz.prog 111 8 = true := by kernel_rfl
@[simp] theorem Tryz.fld111_0 : Aw.fieldA Tryz.prog 111 0 = some 0 := by kernel_rfl
@[simp] theorem Tryz.fld111_1 : Aw.fieldA Tryz.prog 111 1 = some 1 := by kernel_rfl
@[simp] theorem Tryz.fld111_2 : Aw.fieldA Tryz.prog 111 2 = some 3 := by kernel_rfl
@[simp] theorem Tryz.fld111_3 : Aw.fieldA Tryz.prog 111 3 = some 4 := by kernel_rfl
@[simp] theorem Tryz.fld111_4 : Aw.fieldA Tryz.prog 111 4 = some 5 := by kernel_rfl
@[simp] theorem Tryz.fld111_5 : Aw.fieldA Tryz.prog 111 5 = some 6 := by kernel_rfl
@[simp] theorem Tryz.fld111_6 : Aw.fieldA Tryz.prog 111 6 = some 7 := by kernel_rfl
@[simp] theorem Tryz.plc111 : Aw.placesA Tryz.prog 111 = some [(0, 1), (1, 2), (3, 1), (4, 1), (5, 1), (6, 1), (7, 1)] := by kernel_rfl
@[simp] theorem Tryz.agg114 : Aw.aggSize Tryz.prog 114 = some 5 := by kernel_rfl
@[simp] theorem Tryz.siz114 : Aw.sizeA Tryz.prog 114 = some 5 := by kernel_rfl
@[simp] theorem Tryz.zer114 : Aw.zeroA Tryz.prog 114 = some [.str [], .str [], .bool false, .int .i64 0, .str []] := by kernel_rfl
@[simp] theorem Tryz.zsz114 : Aw.zeroSz Tryz.prog 114 5 = true := by kernel_rfl
@[simp] theorem Tryz.fld114_0 : Aw.fieldA Tryz.prog 114 0 = some 0 := by kernel_rfl
@[simp] theorem Tryz.fld114_1 : Aw.fieldA Tryz.prog 114 1 = some 2 := by kernel_rfl
@[simp] theorem Tryz.fld114_2 : Aw.fieldA Tryz.prog 114 2 = some 3 := by kernel_rfl
@[simp] theorem Tryz.fld114_3 : Aw.fieldA Tryz.prog 114 3 = some 4 := by kernel_rfl
@[simp] theorem Tryz.plc114 : Aw.placesA Tryz.prog 114 = some [(0, 2), (2, 1), (3, 1), (4, 1)] := by kernel_rfl
@[simp] theorem Tryz.agg120 : Aw.aggSize Tryz.prog 120 = none := by kernel_rfl
@[simp] theorem Tryz.one120 : Aw.oneSize Tryz.prog 120 = true := by kernel_rfl
@[simp] theorem Tryz.siz120 : Aw.sizeA Tryz.prog 120 = some 1 := by kernel_rfl
@[simp] theorem Tryz.zer120 : Aw.zeroA Tryz.prog 120 = some [.sl .own 2 []] := by kernel_rfl
@[simp] theorem Tryz.zsz120 : Aw.zeroSz Tryz.prog 120 1 = true := by kernel_rfl
@[simp] theorem Tryz.elm120 : Aw.elemA Tryz.prog 120 = some (160, 2, 32) := by kernel_rfl
@[simp] theorem Tryz.isl120 : Aw.isSlice Tryz.prog 120 = true := by kernel_rfl
@[simp] theorem Tryz.apd120 : Aw.appendable Tryz.prog 120 = true := by kernel_rfl
@[simp] theorem Tryz.agg122 : Aw.aggSize Tryz.prog 122 = some 4 := by kernel_rfl
@[simp] theorem Tryz.siz122 : Aw.sizeA Tryz.prog 122 = some 4 := by kernel_rfl
@[simp] theorem Tryz.zer122 : Aw.zeroA Tryz.prog 122 = some [.int .i64 0, .str [], .sl .own 2 [], .str []] := by kernel_rfl
@[simp] theorem Tryz.zsz122 : Aw.zeroSz Tryz.prog 122 4 = true := by kernel_rfl
@[simp] theorem Tryz.fld122_0 : Aw.fieldA Tryz.prog 122 0 = some 0 := by kernel_rfl
@[simp] theorem Tryz.fld122_1 : Aw.fieldA Tryz.prog 122 1 = some 1 := by kernel_rfl
@[simp] theorem Tryz.fld122_2 : Aw.fieldA Tryz.prog 122 2 = some 2 := by kernel_rfl
@[simp] theorem Tryz.fld122_3 : Aw.fieldA Tryz.prog 122 3 = some 3 := by kernel_rfl
@[simp] theorem Tryz.plc122 : Aw.placesA Tryz.prog 122 = some [(0, 1), (1, 1), (2, 1), (3, 1)] := by kernel_rfl
@[simp] theorem Tryz.agg127 : Aw.aggSize Tryz.prog 127 = some 8 := by kernel_rfl
@[simp] theorem Tryz.siz127 : Aw.sizeA Tryz.prog 127 = some 8 := by kernel_rfl
@[simp] theorem Tryz.zer127 : Aw.zeroA Tryz.prog 127 = some [.int .i64 0, .str [], .str [], .str [], .int .i64 0, .bool false, .int .i64 0, .str []] := by kernel_rfl
@[simp] theorem Tryz.zsz127 : Aw.zeroSz Tryz.prog 127 8 = true := by kernel_rfl
@[simp] theorem Tryz.fld127_0 : Aw.fieldA Tryz.prog 127 0 = some 0 := by kernel_rfl
@[simp] theorem Tryz.fld127_1 : Aw.fieldA Tryz.prog 127 1 = some 1 := by kernel_rfl
@[simp] theorem Tryz.fld127_2 : Aw.fieldA Tryz.prog 127 2 = some 3 := by kernel_rfl
@[simp] theorem Tryz.fld127_3 : Aw.fieldA Tryz.prog 127 3 = some 4 := by kernel_rfl
@[simp] theorem Tryz.fld127_4 : Aw.fieldA Tryz.prog 127 4 = some 5 := by kernel_rfl
@[simp] theorem Tryz.fld127_5 : Aw.fieldA Tryz.prog 127 5 = some 6 := by kernel_rfl
@[simp] theorem Tryz.fld127_6 : Aw.fieldA Tryz.prog 127 6 = some 7 := by kernel_rfl
@[simp] theorem Tryz.plc127 : Aw.placesA Tryz.prog 127 = some [(0, 1), (1, 2), (3, 1), (4, 1), (5, 1), (6, 1), (7, 1)] := by kernel_rfl
@[simp] theorem Tryz.agg146 : Aw.aggSize Tryz.prog 146 = some 4 := by kernel_rfl
@[simp] theorem Tryz.siz146 : Aw.sizeA Tryz.prog 146 = some 4 := by kernel_rfl
@[simp] theorem Tryz.zer146 : Aw.zeroA Tryz.prog 146 = some [.str [], .str [], .int .i64 0, .sl .own 2 []] := by kernel_rfl
@[simp] theorem Tryz.zsz146 : Aw.zeroSz Tryz.prog 146 4 = true := by kernel_rfl
@[simp] theorem Tryz.fld146_0 : Aw.fieldA Tryz.prog 146 0 = some 0 := by kernel_rfl
@[simp] theorem Tryz.fld146_1 : Aw.fieldA Tryz.prog 146 1 = some 1 := by kernel_rfl
@[simp] theorem Tryz.fld146_2 : Aw.fieldA Tryz.prog 146 2 = some 2 := by kernel_rfl
@[simp] theorem Tryz.fld146_3 : Aw.fieldA Tryz.prog 146 3 = some 3 := by kernel_rfl
@[simp] theorem Tryz.plc146 : Aw.placesA Tryz.prog 146 = some [(0, 1), (1, 1), (2, 1), (3, 1)] := by kernel_rfl
@[simp] theorem Tryz.agg149 : Aw.aggSize Tryz.prog 149 = some 4 := by kernel_rfl
@[simp] theorem Tryz.siz149 : Aw.sizeA Tryz.prog 149 = some 4 := by kernel_rfl
@[simp] theorem Tryz.zer149 : Aw.zeroA Tryz.prog 149 = some [.str [], .str [], .int .i64 0, .sl .own 2 []] := by kernel_rfl
@[simp] theorem Tryz.zsz149 : Aw.zeroSz Tryz.prog 149 4 = true := by kernel_rfl
@[simp] theorem Tryz.fld149_0 : Aw.fieldA Tryz.prog 149 0 = some 0 := by kernel_rfl
@[simp] theorem Tryz.fld149_1 : Aw.fieldA Tryz.prog 149 1 = some 1 := by kernel_rfl
@[simp] theorem Tryz.fld149_2 : Aw.fieldA Tryz.prog 149 2 = some 2 := by kernel_rfl
@[simp] theorem Tryz.fld149_3 : Aw.fieldA Tryz.prog 149 3 = some 3 := by kernel_rfl
@[simp] theorem Tryz.plc149 : Aw.placesA Tryz.prog 149 = some [(0, 1), (1, 1), (2, 1), (3, 1)] := by kernel_rfl
@[simp] theorem Tryz.agg158 : Aw.aggSize Tryz.prog 158 = none := by kernel_rfl
@[simp] theorem Tryz.one158 : Aw.oneSize Tryz.prog 158 = true := by kernel_rfl
@[simp] theorem Tryz.siz158 : Aw.sizeA Tryz.prog 158 = some 1 := by kernel_rfl
@[simp] theorem Tryz.zer158 : Aw.zeroA Tryz.prog 158 = some [.sl .own 1 []] := by kernel_rfl
@[simp] theorem Tryz.zsz158 : Aw.zeroSz Tryz.prog 158 1 = true := by kernel_rfl
@[simp] theorem Tryz.elm158 : Aw.elemA Tryz.prog 158 = some (5, 1, 1) := by kernel_rfl
@[simp] theorem Tryz.isl158 : Aw.isSlice Tryz.prog 158 = true := by kernel_rfl
@[simp] theorem Tryz.apd158 : Aw.appendable Tryz.prog 158 = true := by kernel_rfl
@[simp] theorem Tryz.agg160 : Aw.aggSize Tryz.prog 160 = some 2 := by kernel_rfl
@[simp] theorem Tryz.siz160 : Aw.sizeA Tryz.prog 160 = some 2 := by kernel_rfl
@[simp] theorem Tryz.zer160 : Aw.zeroA Tryz.prog 160 = some [.str [], .str []] := by kernel_rfl
@[simp] theorem Tryz.zsz160 : Aw.zeroSz Tryz.prog 160 2 = true := by kernel_rfl
@[simp] theorem Tryz.fld160_0 : Aw.fieldA Tryz.prog 160 0 = some 0 := by kernel_rfl
@[simp] theorem Tryz.fld160_1 : Aw.fieldA Tryz.prog 160 1 = some 1 := by kernel_rfl
@[simp] theorem Tryz.plc160 : Aw.placesA Tryz.prog 160 = some [(0, 1), (1, 1)] := by kernel_rfl
@[simp] theorem Tryz.agg162 : Aw.aggSize Tryz.prog 162 = some 2 := by kernel_rfl
@[simp] theorem Tryz.siz162 : Aw.sizeA Tryz.prog 162 = some 2 := by kernel_rfl
@[simp] theorem Tryz.zer162 : Aw.zeroA Tryz.prog 162 = some [.str [], .str []] := by kernel_rfl
@[simp] theorem Tryz.zsz162 : Aw.zeroSz Tryz.prog 162 2 = true := by kernel_rfl
@[simp] theorem Tryz.fld162_0 : Aw.fieldA Tryz.prog 162 0 = some 0 := by kernel_rfl
@[simp] theorem Tryz.fld162_1 : Aw.fieldA Tryz.prog 162 1 = some 1 := by kernel_rfl
@[simp] theorem Tryz.plc162 : Aw.placesA Tryz.prog 162 = some [(0, 1), (1, 1)] := by kernel_rfl
@[simp] theorem Tryz.agg169 : Aw.aggSize Tryz.prog 169 = none := by kernel_rfl
@[simp] theorem Tryz.one169 : Aw.oneSize Tryz.prog 169 = true := by kernel_rfl
@[simp] theorem Tryz.siz169 : Aw.sizeA Tryz.prog 169 = some 1 := by kernel_rfl
@[simp] theorem Tryz.zer169 : Aw.zeroA Tryz.prog 169 = some [.int .u64 0] := by kernel_rfl
@[simp] theorem Tryz.zsz169 : Aw.zeroSz Tryz.prog 169 1 = true := by kernel_rfl
@[simp] theorem Tryz.int169 : Aw.intType Tryz.prog 169 = some .u64 := by kernel_rfl
@[simp] theorem Tryz.som169 : (Tryz.prog.underlying 169).isSome = true := by kernel_rfl
@[simp] theorem Tryz.agg170 : Aw.aggSize Tryz.prog 170 = none := by kernel_rfl
@[simp] theorem Tryz.one170 : Aw.oneSize Tryz.prog 170 = true := by kernel_rfl
@[simp] theorem Tryz.siz170 : Aw.sizeA Tryz.prog 170 = some 1 := by kernel_rfl
@[simp] theorem Tryz.zer170 : Aw.zeroA Tryz.prog 170 = some [.int .u32 0] := by kernel_rfl
@[simp] theorem Tryz.zsz170 : Aw.zeroSz Tryz.prog 170 1 = true := by kernel_rfl
@[simp] theorem Tryz.int170 : Aw.intType Tryz.prog 170 = some .u32 := by kernel_rfl
@[simp] theorem Tryz.som170 : (Tryz.prog.underlying 170).isSome = true := by kernel_rfl
@[simp] theorem Tryz.cal3 : Aw.callable Tryz.prog 3 = true := by kernel_rfl
@[simp] theorem Tryz.cal4 : Aw.callable Tryz.prog 4 = true := by kernel_rfl
@[simp] theorem Tryz.cal5 : Aw.callable Tryz.prog 5 = true := by kernel_rfl
@[simp] theorem Tryz.cal6 : Aw.callable Tryz.prog 6 = true := by kernel_rfl
@[simp] theorem Tryz.cal7 : Aw.callable Tryz.prog 7 = true := by kernel_rfl
@[simp] theorem Tryz.cal8 : Aw.callable Tryz.prog 8 = true := by kernel_rfl
@[simp] theorem Tryz.cal9 : Aw.callable Tryz.prog 9 = true := by kernel_rfl
@[simp] theorem Tryz.cal10 : Aw.callable Tryz.prog 10 = true := by kernel_rfl
@[simp] theorem Tryz.cal11 : Aw.callable Tryz.prog 11 = true := by kernel_rfl
@[simp] theorem Tryz.cal12 : Aw.callable Tryz.prog 12 = true := by kernel_rfl
@[simp] theorem Tryz.cal13 : Aw.callable Tryz.prog 13 = true := by kernel_rfl
@[simp] theorem Tryz.cal14 : Aw.callable Tryz.prog 14 = true := by kernel_rfl
@[simp] theorem Tryz.cal15 : Aw.callable Tryz.prog 15 = true := by kernel_rfl
@[simp] theorem Tryz.cal16 : Aw.callable Tryz.prog 16 = true := by kernel_rfl
@[simp] theorem Tryz.cal17 : Aw.callable Tryz.prog 17 = true := by kernel_rfl
@[simp] theorem Tryz.cal18 : Aw.callable Tryz.prog 18 = true := by kernel_rfl
@[simp] theorem Tryz.cal19 : Aw.callable Tryz.prog 19 = true := by kernel_rfl
@[simp] theorem Tryz.cal20 : Aw.callable Tryz.prog 20 = true := by kernel_rfl
@[simp] theorem Tryz.cal21 : Aw.callable Tryz.prog 21 = true := by kernel_rfl
@[simp] theorem Tryz.cal22 : Aw.callable Tryz.prog 22 = true := by kernel_rfl
@[simp] theorem Tryz.cal23 : Aw.callable Tryz.prog 23 = true := by kernel_rfl
@[simp] theorem Tryz.cal24 : Aw.callable Tryz.prog 24 = true := by kernel_rfl
@[simp] theorem Tryz.cal25 : Aw.callable Tryz.prog 25 = true := by kernel_rfl
@[simp] theorem Tryz.cal26 : Aw.callable Tryz.prog 26 = true := by kernel_rfl
@[simp] theorem Tryz.cal27 : Aw.callable Tryz.prog 27 = true := by kernel_rfl
@[simp] theorem Tryz.cal28 : Aw.callable Tryz.prog 28 = true := by kernel_rfl
@[simp] theorem Tryz.cal29 : Aw.callable Tryz.prog 29 = true := by kernel_rfl
@[simp] theorem Tryz.cal30 : Aw.callable Tryz.prog 30 = true := by kernel_rfl
@[simp] theorem Tryz.cal31 : Aw.callable Tryz.prog 31 = true := by kernel_rfl
@[simp] theorem Tryz.cal32 : Aw.callable Tryz.prog 32 = true := by kernel_rfl
@[simp] theorem Tryz.cal33 : Aw.callable Tryz.prog 33 = true := by kernel_rfl
@[simp] theorem Tryz.cal34 : Aw.callable Tryz.prog 34 = true := by kernel_rfl
@[simp] theorem Tryz.cal35 : Aw.callable Tryz.prog 35 = true := by kernel_rfl
@[simp] theorem Tryz.cal36 : Aw.callable Tryz.prog 36 = true := by kernel_rfl
@[simp] theorem Tryz.cal37 : Aw.callable Tryz.prog 37 = true := by kernel_rfl
@[simp] theorem Tryz.cal38 : Aw.callable Tryz.prog 38 = true := by kernel_rfl
@[simp] theorem Tryz.cal39 : Aw.callable Tryz.prog 39 = true := by kernel_rfl
@[simp] theorem Tryz.cal40 : Aw.callable Tryz.prog 40 = true := by kernel_rfl
@[simp] theorem Tryz.cal41 : Aw.callable Tryz.prog 41 = true := by kernel_rfl
@[simp] theorem Tryz.cal42 : Aw.callable Tryz.prog 42 = true := by kernel_rfl
@[simp] theorem Tryz.cal43 : Aw.callable Tryz.prog 43 = true := by kernel_rfl
@[simp] theorem Tryz.cal44 : Aw.callable Tryz.prog 44 = true := by kernel_rfl
@[simp] theorem Tryz.cal45 : Aw.callable Tryz.prog 45 = true := by kernel_rfl
@[simp] theorem Tryz.cal46 : Aw.callable Tryz.prog 46 = true := by kernel_rfl
@[simp] theorem Tryz.cal47 : Aw.callable Tryz.prog 47 = true := by kernel_rfl
@[simp] theorem Tryz.cal48 : Aw.callable Tryz.prog 48 = true := by kernel_rfl
@[simp] theorem Tryz.cal49 : Aw.callable Tryz.prog 49 = true := by kernel_rfl
@[simp] theorem Tryz.cal50 : Aw.callable Tryz.prog 50 = true := by kernel_rfl
@[simp] theorem Tryz.cal51 : Aw.callable Tryz.prog 51 = true := by kernel_rfl
@[simp] theorem Tryz.cal52 : Aw.callable Tryz.prog 52 = true := by kernel_rfl
@[simp] theorem Tryz.cal53 : Aw.callable Tryz.prog 53 = true := by kernel_rfl
@[simp] theorem Tryz.cal54 : Aw.callable Tryz.prog 54 = true := by kernel_rfl
@[simp] theorem Tryz.cal55 : Aw.callable Tryz.prog 55 = true := by kernel_rfl
@[simp] theorem Tryz.cal56 : Aw.callable Tryz.prog 56 = true := by kernel_rfl
@[simp] theorem Tryz.cal57 : Aw.callable Tryz.prog 57 = true := by kernel_rfl
@[simp] theorem Tryz.cal58 : Aw.callable Tryz.prog 58 = true := by kernel_rfl
@[simp] theorem Tryz.cal59 : Aw.callable Tryz.prog 59 = true := by kernel_rfl
@[simp] theorem Tryz.cal60 : Aw.callable Tryz.prog 60 = true := by kernel_rfl
@[simp] theorem Tryz.cal61 : Aw.callable Tryz.prog 61 = true := by kernel_rfl
@[simp] theorem Tryz.cal62 : Aw.callable Tryz.prog 62 = true := by kernel_rfl
@[simp] theorem Tryz.cal63 : Aw.callable Tryz.prog 63 = true := by kernel_rfl
@[simp] theorem Tryz.cal64 : Aw.callable Tryz.prog 64 = true := by kernel_rfl
@[simp] theorem Tryz.cal65 : Aw.callable Tryz.prog 65 = true := by kernel_rfl
@[simp] theorem Tryz.cal66 : Aw.callable Tryz.prog 66 = true := by kernel_rfl
@[simp] theorem Tryz.cal67 : Aw.callable Tryz.prog 67 = true := by kernel_rfl
@[simp] theorem Tryz.cal68 : Aw.callable Tryz.prog 68 = true := by kernel_rfl
@[simp] theorem Tryz.cal69 : Aw.callable Tryz.prog 69 = true := by kernel_rfl
@[simp] theorem Tryz.cal70 : Aw.callable Tryz.prog 70 = true := by kernel_rfl
@[simp] theorem Tryz.cal71 : Aw.callable Tryz.prog 71 = true := by kernel_rfl
@[simp] theorem Tryz.cal72 : Aw.callable Tryz.prog 72 = true := by kernel_rfl
@[simp] theorem Tryz.cal73 : Aw.callable Tryz.prog 73 = true := by kernel_rfl
@[simp] theorem Tryz.cal74 : Aw.callable Tryz.prog 74 = true := by kernel_rfl
@[simp] theorem Tryz.cal75 : Aw.callable Tryz.prog 75 = true := by kernel_rfl
@[simp] theorem Tryz.cal76 : Aw.callable Tryz.prog 76 = true := by kernel_rfl
@[simp] theorem Tryz.cal77 : Aw.callable Tryz.prog 77 = true := by kernel_rfl
@[simp] theorem Tryz.cal78 : Aw.callable Tryz.prog 78 = true := by kernel_rfl
@[simp] theorem Tryz.cal79 : Aw.callable Tryz.prog 79 = true := by kernel_rfl
@[simp] theorem Tryz.cal80 : Aw.callable Tryz.prog 80 = true := by kernel_rfl
@[simp] theorem Tryz.cal81 : Aw.callable Tryz.prog 81 = true := by kernel_rfl
@[simp] theorem Tryz.cal82 : Aw.callable Tryz.prog 82 = true := by kernel_rfl
@[simp] theorem Tryz.cal83 : Aw.callable Tryz.prog 83 = true := by kernel_rfl
@[simp] theorem Tryz.cal85 : Aw.callable Tryz.prog 85 = true := by kernel_rfl
@[simp] theorem Tryz.cal86 : Aw.callable Tryz.prog 86 = true := by kernel_rfl
@[simp] theorem Tryz.cal87 : Aw.callable Tryz.prog 87 = true := by kernel_rfl
@[simp] theorem Tryz.cal88 : Aw.callable Tryz.prog 88 = true := by kernel_rfl
@[simp] theorem Tryz.cal89 : Aw.callable Tryz.prog 89 = true := by kernel_rfl
@[simp] theorem Tryz.cal90 : Aw.callable Tryz.prog 90 = true := by kernel_rfl
@[simp] theorem Tryz.cal91 : Aw.callable Tryz.prog 91 = true := by kernel_rfl
@[simp] theorem Tryz.cal92 : Aw.callable Tryz.prog 92 = true := by kernel_rfl
@[simp] theorem Tryz.cal93 : Aw.callable Tryz.prog 93 = true := by kernel_rfl
@[simp] theorem Tryz.cal94 : Aw.callable Tryz.prog 94 = true := by kernel_rfl
@[simp] theorem Tryz.cal95 : Aw.callable Tryz.prog 95 = true := by kernel_rfl
@[simp] theorem Tryz.cal96 : Aw.callable Tryz.prog 96 = true := by kernel_rfl
@[simp] theorem Tryz.cal97 : Aw.callable Tryz.prog 97 = true := by kernel_rfl
@[simp] theorem Tryz.cal98 : Aw.callable Tryz.prog 98 = true := by kernel_rfl
@[simp] theorem Tryz.cal99 : Aw.callable Tryz.prog 99 = true := by kernel_rfl
@[simp] theorem Tryz.cal100 : Aw.callable Tryz.prog 100 = true := by kernel_rfl
@[simp] theorem Tryz.cal101 : Aw.callable Tryz.prog 101 = true := by kernel_rfl
@[simp] theorem Tryz.cal102 : Aw.callable Tryz.prog 102 = true := by kernel_rfl
@[simp] theorem Tryz.cal103 : Aw.callable Tryz.prog 103 = true := by kernel_rfl
@[simp] theorem Tryz.cal104 : Aw.callable Tryz.prog 104 = true := by kernel_rfl
@[simp] theorem Tryz.cal105 : Aw.callable Tryz.prog 105 = true := by kernel_rfl
@[simp] theorem Tryz.cal106 : Aw.callable Tryz.prog 106 = true := by kernel_rfl
@[simp] theorem Tryz.cal107 : Aw.callable Tryz.prog 107 = true := by kernel_rfl
@[simp] theorem Tryz.cal108 : Aw.callable Tryz.prog 108 = true := by kernel_rfl
@[simp] theorem Tryz.cal109 : Aw.callable Tryz.prog 109 = true := by kernel_rfl
@[simp] theorem Tryz.cal110 : Aw.callable Tryz.prog 110 = true := by kernel_rfl
@[simp] theorem Tryz.cal111 : Aw.callable Tryz.prog 111 = true := by kernel_rfl
@[simp] theorem Tryz.cal112 : Aw.callable Tryz.prog 112 = true := by kernel_rfl
@[simp] theorem Tryz.cal113 : Aw.callable Tryz.prog 113 = true := by kernel_rfl
@[simp] theorem Tryz.cal114 : Aw.callable Tryz.prog 114 = true := by kernel_rfl
@[simp] theorem Tryz.cal115 : Aw.callable Tryz.prog 115 = true := by kernel_rfl
@[simp] theorem Tryz.cal116 : Aw.callable Tryz.prog 116 = true := by kernel_rfl
@[simp] theorem Tryz.cal117 : Aw.callable Tryz.prog 117 = true := by kernel_rfl
@[simp] theorem Tryz.cal118 : Aw.callable Tryz.prog 118 = true := by kernel_rfl
@[simp] theorem Tryz.cal119 : Aw.callable Tryz.prog 119 = true := by kernel_rfl
@[simp] theorem Tryz.cal120 : Aw.callable Tryz.prog 120 = true := by kernel_rfl
@[simp] theorem Tryz.cal121 : Aw.callable Tryz.prog 121 = true := by kernel_rfl
@[simp] theorem Tryz.cal122 : Aw.callable Tryz.prog 122 = true := by kernel_rfl
@[simp] theorem Tryz.cal123 : Aw.callable Tryz.prog 123 = true := by kernel_rfl
@[simp] theorem Tryz.cal124 : Aw.callable Tryz.prog 124 = false := by kernel_rfl
@[simp] theorem Tryz.cal125 : Aw.callable Tryz.prog 125 = true := by kernel_rfl
@[simp] theorem Tryz.cal126 : Aw.callable Tryz.prog 126 = true := by kernel_rfl
@[simp] theorem Tryz.cal127 : Aw.callable Tryz.prog 127 = true := by kernel_rfl
@[simp] theorem Tryz.cal128 : Aw.callable Tryz.prog 128 = true := by kernel_rfl
@[simp] theorem Tryz.cal129 : Aw.callable Tryz.prog 129 = true := by kernel_rfl
@[simp] theorem Tryz.cal130 : Aw.callable Tryz.prog 130 = false := by kernel_rfl
@[simp] theorem Tryz.cal131 : Aw.callable Tryz.prog 131 = true := by kernel_rfl
@[simp] theorem Tryz.cal132 : Aw.callable Tryz.prog 132 = true := by kernel_rfl
@[simp] theorem Tryz.cal133 : Aw.callable Tryz.prog 133 = false := by kernel_rfl
@[simp] theorem Tryz.cal134 : Aw.callable Tryz.prog 134 = true := by kernel_rfl
end Go.Proofs.YtphofanfadgalaaGreat
