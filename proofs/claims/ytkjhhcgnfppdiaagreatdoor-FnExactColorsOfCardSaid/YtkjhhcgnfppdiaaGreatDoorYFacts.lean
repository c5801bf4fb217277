/-
  Proved here: closed facts of the translated program: types, their sizes, results.
  No condition beyond what each statement spells out.
-/
import Derived.Test.YtkjhhcgnfppdiaaGreatDoorProg
import Derived.Test.YtkjhhcgnfppdiaaGreatDoorF3
import Derived.KernelRfl
set_option linter.all false
/-
  Closed facts on the translation: sizes, fields and zero values of its types; that its functions have bodies. Written by a program of ours.
-/
namespace Go.Proofs.YtkjhhcgnfppdiaaGreatDoor
@[simp] theorem Tryz.agg2 : Aw.aggSize Tryz.prog 2 = none := by kernel_rfl
@[simp] theorem Tryz.one2 : Aw.oneSize Tryz.prog 2 = true := by kernel_rfl
@[simp] theorem Tryz.siz2 : Aw.sizeA Tryz.prog 2 = some 1 := by kernel_rfl
@[simp] theorem Tryz.zer2 : Aw.zeroA Tryz.prog 2 = some [.int .i64 0] := by kernel_rfl
@[simp] theorem Tryz.zsz2 : Aw.zeroSz Tryz.prog 2 1 = true := by kernel_rfl
@[simp] theorem Tryz.int2 : Aw.intType Tryz.prog 2 = some .i64 := by kernel_rfl
@[simp] theorem Tryz.som2 : (Tryz.prog.underlying 2).isSome = true := by kernel_rfl
@[simp] theorem Tryz.agg3 : Aw.aggSize Tryz.prog 3 = none := by kernel_rfl
@[simp] theorem Tryz.one3 : Aw.oneSize Tryz.prog 3 = true := by kernel_rfl
@[simp] theorem Tryz.siz3 : Aw.sizeA Tryz.prog 3 = some 1 := by kernel_rfl
@[simp] theorem Tryz.zer3 : Aw.zeroA Tryz.prog 3 = some [.int .i64 0] := by kernel_rfl
@[simp] theorem Tryz.zsz3 : Aw.zeroSz Tryz.prog 3 1 = true := by kernel_rfl
@[simp] theorem Tryz.int3 : Aw.intType Tryz.prog 3 = some .i64 := by kernel_rfl
@[simp] theorem Tryz.som3 : (Tryz.prog.underlying 3).isSome = true := by kernel_rfl
@[simp] theorem Tryz.agg4 : Aw.aggSize Tryz.prog 4 = none := by kernel_rfl
@[simp] theorem Tryz.one4 : Aw.oneSize Tryz.prog 4 = true := by kernel_rfl
@[simp] theorem Tryz.siz4 : Aw.sizeA Tryz.prog 4 = some 1 := by kernel_rfl
@[simp] theorem Tryz.zer4 : Aw.zeroA Tryz.prog 4 = some [.bool false] := by kernel_rfl
@[simp] theorem Tryz.zsz4 : Aw.zeroSz Tryz.prog 4 1 = true := by kernel_rfl
@[simp] theorem Tryz.bol4 : Aw.boolType Tryz.prog 4 = true := by kernel_rfl
@[simp] theorem Tryz.agg5 : Aw.aggSize Tryz.prog 5 = none := by kernel_rfl
@[simp] theorem Tryz.one5 : Aw.oneSize Tryz.prog 5 = true := by kernel_rfl
@[simp] theorem Tryz.siz5 : Aw.sizeA Tryz.prog 5 = some 1 := by kernel_rfl
@[simp] theorem Tryz.zer5 : Aw.zeroA Tryz.prog 5 = some [.int .u8 0] := by kernel_rfl
@[simp] theorem Tryz.zsz5 : Aw.zeroSz Tryz.prog 5 1 = true := by kernel_rfl
@[simp] theorem Tryz.int5 : Aw.intType Tryz.prog 5 = some .u8 := by kernel_rfl
@[simp] theorem Tryz.som5 : (Tryz.prog.underlying 5).isSome = true := by kernel_rfl
@[simp] theorem Tryz.agg9 : Aw.aggSize Tryz.prog 9 = none := by kernel_rfl
@[simp] theorem Tryz.one9 : Aw.oneSize Tryz.prog 9 = true := by kernel_rfl
@[simp] theorem Tryz.siz9 : Aw.sizeA Tryz.prog 9 = some 1 := by kernel_rfl
@[simp] theorem Tryz.zer9 : Aw.zeroA Tryz.prog 9 = some [.str []] := by kernel_rfl
@[simp] theorem Tryz.zsz9 : Aw.zeroSz Tryz.prog 9 1 = true := by kernel_rfl
@[simp] theorem Tryz.iss9 : Aw.isString Tryz.prog 9 = true := by kernel_rfl
@[simp] theorem Tryz.apd9 : Aw.appendable Tryz.prog 9 = true := by kernel_rfl
@[simp] theorem Tryz.agg12 : Aw.aggSize Tryz.prog 12 = none := by kernel_rfl
@[simp] theorem Tryz.one12 : Aw.oneSize Tryz.prog 12 = true := by kernel_rfl
@[simp] theorem Tryz.siz12 : Aw.sizeA Tryz.prog 12 = some 1 := by kernel_rfl
@[simp] theorem Tryz.zer12 : Aw.zeroA Tryz.prog 12 = some [.int .u64 0] := by kernel_rfl
@[simp] theorem Tryz.zsz12 : Aw.zeroSz Tryz.prog 12 1 = true := by kernel_rfl
@[simp] theorem Tryz.int12 : Aw.intType Tryz.prog 12 = some .u64 := by kernel_rfl
@[simp] theorem Tryz.som12 : (Tryz.prog.underlying 12).isSome = true := by kernel_rfl
@[simp] theorem Tryz.agg21 : Aw.aggSize Tryz.prog 21 = none := by kernel_rfl
@[simp] theorem Tryz.one21 : Aw.oneSize Tryz.prog 21 = true := by kernel_rfl
@[simp] theorem Tryz.siz21 : Aw.sizeA Tryz.prog 21 = some 1 := by kernel_rfl
@[simp] theorem Tryz.zer21 : Aw.zeroA Tryz.prog 21 = some [.int .i32 0] := by kernel_rfl
@[simp] theorem Tryz.zsz21 : Aw.zeroSz Tryz.prog 21 1 = true := by kernel_rfl
@[simp] theorem Tryz.int21 : Aw.intType Tryz.prog 21 = some .i32 := by kernel_rfl
@[simp] theorem Tryz.som21 : (Tryz.prog.underlying 21).isSome = true := by kernel_rfl
@[simp] theorem Tryz.agg23 : Aw.aggSize Tryz.prog 23 = some 2 := by kernel_rfl
@[simp] theorem Tryz.siz23 : Aw.sizeA Tryz.prog 23 = some 2 := by kernel_rfl
@[simp] theorem Tryz.zer23 : Aw.zeroA Tryz.prog 23 = some [.str [], .str []] := by kernel_rfl
@[simp] theorem Tryz.zsz23 : Aw.zeroSz Tryz.prog 23 2 = true := by kernel_rfl
@[simp] theorem Tryz.fld23_0 : Aw.fieldA Tryz.prog 23 0 = some 0 := by kernel_rfl
@[simp] theorem Tryz.fld23_1 : Aw.fieldA Tryz.prog 23 1 = some 1 := by kernel_rfl
@[simp] theorem Tryz.plc23 : Aw.placesA Tryz.prog 23 = some [(0, 1), (1, 1)] := by kernel_rfl
@[simp] theorem Tryz.agg25 : Aw.aggSize Tryz.prog 25 = some 6 := by kernel_rfl
@[simp] theorem Tryz.siz25 : Aw.sizeA Tryz.prog 25 = some 6 := by kernel_rfl
@[simp] theorem Tryz.zer25 : Aw.zeroA Tryz.prog 25 = some [.int .i64 0, .int .i64 0, .str [], .int .i64 0, .bool false, .str []] := by kernel_rfl
@[simp] theorem Tryz.zsz25 : Aw.zeroSz Tryz.prog 25 6 = true := by kernel_rfl
@[simp] theorem Tryz.fld25_0 : Aw.fieldA Tryz.prog 25 0 = some 0 := by kernel_rfl
@[simp] theorem Tryz.fld25_1 : Aw.fieldA Tryz.prog 25 1 = some 1 := by kernel_rfl
@[simp] theorem Tryz.fld25_2 : Aw.fieldA Tryz.prog 25 2 = some 2 := by kernel_rfl
@[simp] theorem Tryz.fld25_3 : Aw.fieldA Tryz.prog 25 3 = some 3 := by kernel_rfl
@[simp] theorem Tryz.fld25_4 : Aw.fieldA Tryz.prog 25 4 = some 4 := by kernel_rfl
@[simp] theorem Tryz.fld25_5 : Aw.fieldA Tryz.prog 25 5 = some 5 := by kernel_rfl
@[simp] theorem Tryz.plc25 : Aw.placesA Tryz.prog 25 = some [(0, 1), (1, 1), (2, 1), (3, 1), (4, 1), (5, 1)] := by kernel_rfl
@[simp] theorem Tryz.agg28 : Aw.aggSize Tryz.prog 28 = some 2 := by kernel_rfl
@[simp] theorem Tryz.siz28 : Aw.sizeA Tryz.prog 28 = some 2 := by kernel_rfl
@[simp] theorem Tryz.zer28 : Aw.zeroA Tryz.prog 28 = some [.str [], .str []] := by kernel_rfl
@[simp] theorem Tryz.zsz28 : Aw.zeroSz Tryz.prog 28 2 = true := by kernel_rfl
@[simp] theorem Tryz.fld28_0 : Aw.fieldA Tryz.prog 28 0 = some 0 := by kernel_rfl
@[simp] theorem Tryz.fld28_1 : Aw.fieldA Tryz.prog 28 1 = some 1 := by kernel_rfl
@[simp] theorem Tryz.plc28 : Aw.placesA Tryz.prog 28 = some [(0, 1), (1, 1)] := by kernel_rfl
@[simp] theorem Tryz.agg29 : Aw.aggSize Tryz.prog 29 = none := by kernel_rfl
@[simp] theorem Tryz.one29 : Aw.oneSize Tryz.prog 29 = true := by kernel_rfl
@[simp] theorem Tryz.siz29 : Aw.sizeA Tryz.prog 29 = some 1 := by kernel_rfl
@[simp] theorem Tryz.zer29 : Aw.zeroA Tryz.prog 29 = some [.sl .own 1 []] := by kernel_rfl
@[simp] theorem Tryz.zsz29 : Aw.zeroSz Tryz.prog 29 1 = true := by kernel_rfl
@[simp] theorem Tryz.elm29 : Aw.elemA Tryz.prog 29 = some (9, 1, 16) := by kernel_rfl
@[simp] theorem Tryz.isl29 : Aw.isSlice Tryz.prog 29 = true := by kernel_rfl
@[simp] theorem Tryz.apd29 : Aw.appendable Tryz.prog 29 = true := by kernel_rfl
@[simp] theorem Tryz.agg31 : Aw.aggSize Tryz.prog 31 = some 5 := by kernel_rfl
@[simp] theorem Tryz.siz31 : Aw.sizeA Tryz.prog 31 = some 5 := by kernel_rfl
@[simp] theorem Tryz.zer31 : Aw.zeroA Tryz.prog 31 = some [.bool false, .sl .own 1 [], .sl .own 1 [], .sl .own 1 [], .str []] := by kernel_rfl
@[simp] theorem Tryz.zsz31 : Aw.zeroSz Tryz.prog 31 5 = true := by kernel_rfl
@[simp] theorem Tryz.fld31_0 : Aw.fieldA Tryz.prog 31 0 = some 0 := by kernel_rfl
@[simp] theorem Tryz.fld31_1 : Aw.fieldA Tryz.prog 31 1 = some 1 := by kernel_rfl
@[simp] theorem Tryz.fld31_2 : Aw.fieldA Tryz.prog 31 2 = some 2 := by kernel_rfl
@[simp] theorem Tryz.fld31_3 : Aw.fieldA Tryz.prog 31 3 = some 3 := by kernel_rfl
@[simp] theorem Tryz.fld31_4 : Aw.fieldA Tryz.prog 31 4 = some 4 := by kernel_rfl
@[simp] theorem Tryz.plc31 : Aw.placesA Tryz.prog 31 = some [(0, 1), (1, 1), (2, 1), (3, 1), (4, 1)] := by kernel_rfl
@[simp] theorem Tryz.agg33 : Aw.aggSize Tryz.prog 33 = some 1 := by kernel_rfl
@[simp] theorem Tryz.siz33 : Aw.sizeA Tryz.prog 33 = some 1 := by kernel_rfl
@[simp] theorem Tryz.zer33 : Aw.zeroA Tryz.prog 33 = some [.str []] := by kernel_rfl
@[simp] theorem Tryz.zsz33 : Aw.zeroSz Tryz.prog 33 1 = true := by kernel_rfl
@[simp] theorem Tryz.fld33_0 : Aw.fieldA Tryz.prog 33 0 = some 0 := by kernel_rfl
@[simp] theorem Tryz.plc33 : Aw.placesA Tryz.prog 33 = some [(0, 1)] := by kernel_rfl
@[simp] theorem Tryz.agg34 : Aw.aggSize Tryz.prog 34 = none := by kernel_rfl
@[simp] theorem Tryz.one34 : Aw.oneSize Tryz.prog 34 = true := by kernel_rfl
@[simp] theorem Tryz.siz34 : Aw.sizeA Tryz.prog 34 = some 1 := by kernel_rfl
@[simp] theorem Tryz.zer34 : Aw.zeroA Tryz.prog 34 = some [.sl .own 4 []] := by kernel_rfl
@[simp] theorem Tryz.zsz34 : Aw.zeroSz Tryz.prog 34 1 = true := by kernel_rfl
@[simp] theorem Tryz.elm34 : Aw.elemA Tryz.prog 34 = some (146, 4, 64) := by kernel_rfl
@[simp] theorem Tryz.isl34 : Aw.isSlice Tryz.prog 34 = true := by kernel_rfl
@[simp] theorem Tryz.apd34 : Aw.appendable Tryz.prog 34 = true := by kernel_rfl
@[simp] theorem Tryz.agg35 : Aw.aggSize Tryz.prog 35 = none := by kernel_rfl
@[simp] theorem Tryz.one35 : Aw.oneSize Tryz.prog 35 = true := by kernel_rfl
@[simp] theorem Tryz.siz35 : Aw.sizeA Tryz.prog 35 = some 1 := by kernel_rfl
@[simp] theorem Tryz.zer35 : Aw.zeroA Tryz.prog 35 = some [.sl .own 4 []] := by kernel_rfl
@[simp] theorem Tryz.zsz35 : Aw.zeroSz Tryz.prog 35 1 = true := by kernel_rfl
@[simp] theorem Tryz.elm35 : Aw.elemA Tryz.prog 35 = some (139, 4, 64) := by kernel_rfl
@[simp] theorem Tryz.isl35 : Aw.isSlice Tryz.prog 35 = true := by kernel_rfl
@[simp] theorem Tryz.apd35 : Aw.appendable Tryz.prog 35 = true := by kernel_rfl
@[simp] theorem Tryz.agg36 : Aw.aggSize Tryz.prog 36 = none := by kernel_rfl
@[simp] theorem Tryz.one36 : Aw.oneSize Tryz.prog 36 = true := by kernel_rfl
@[simp] theorem Tryz.siz36 : Aw.sizeA Tryz.prog 36 = some 1 := by kernel_rfl
@[simp] theorem Tryz.zer36 : Aw.zeroA Tryz.prog 36 = some [.sl .own 1 []] := by kernel_rfl
@[simp] theorem Tryz.zsz36 : Aw.zeroSz Tryz.prog 36 1 = true := by kernel_rfl
@[simp] theorem Tryz.elm36 : Aw.elemA Tryz.prog 36 = some (3, 1, 8) := by kernel_rfl
@[simp] theorem Tryz.isl36 : Aw.isSlice Tryz.prog 36 = true := by kernel_rfl
@[simp] theorem Tryz.apd36 : Aw.appendable Tryz.prog 36 = true := by kernel_rfl
@[simp] theorem Tryz.agg38 : Aw.aggSize Tryz.prog 38 = some 2 := by kernel_rfl
@[simp] theorem Tryz.siz38 : Aw.sizeA Tryz.prog 38 = some 2 := by kernel_rfl
@[simp] theorem Tryz.zer38 : Aw.zeroA Tryz.prog 38 = some [.sl .own 4 [], .sl .own 1 []] := by kernel_rfl
@[simp] theorem Tryz.zsz38 : Aw.zeroSz Tryz.prog 38 2 = true := by kernel_rfl
@[simp] theorem Tryz.fld38_0 : Aw.fieldA Tryz.prog 38 0 = some 0 := by kernel_rfl
@[simp] theorem Tryz.fld38_1 : Aw.fieldA Tryz.prog 38 1 = some 1 := by kernel_rfl
@[simp] theorem Tryz.plc38 : Aw.placesA Tryz.prog 38 = some [(0, 1), (1, 1)] := by kernel_rfl
@[simp] theorem Tryz.agg39 : Aw.aggSize Tryz.prog 39 = none := by kernel_rfl
@[simp] theorem Tryz.one39 : Aw.oneSize Tryz.prog 39 = true := by kernel_rfl
@[simp] theorem Tryz.siz39 : Aw.sizeA Tryz.prog 39 = some 1 := by kernel_rfl
@[simp] theorem Tryz.zer39 : Aw.zeroA Tryz.prog 39 = some [.sl .own 8 []] := by kernel_rfl
@[simp] theorem Tryz.zsz39 : Aw.zeroSz Tryz.prog 39 1 = true := by kernel_rfl
@[simp] theorem Tryz.elm39 : Aw.elemA Tryz.prog 39 = some (119, 8, 96) := by kernel_rfl
@[simp] theorem Tryz.isl39 : Aw.isSlice Tryz.prog 39 = true := by kernel_rfl
@[simp] theorem Tryz.apd39 : Aw.appendable Tryz.prog 39 = true := by kernel_rfl
@[simp] theorem Tryz.agg40 : Aw.aggSize Tryz.prog 40 = none := by kernel_rfl
@[simp] theorem Tryz.one40 : Aw.oneSize Tryz.prog 40 = true := by kernel_rfl
@[simp] theorem Tryz.siz40 : Aw.sizeA Tryz.prog 40 = some 1 := by kernel_rfl
@[simp] theorem Tryz.zer40 : Aw.zeroA Tryz.prog 40 = some [.sl .own 5 []] := by kernel_rfl
@[simp] theorem Tryz.zsz40 : Aw.zeroSz Tryz.prog 40 1 = true := by kernel_rfl
@[simp] theorem Tryz.elm40 : Aw.elemA Tryz.prog 40 = some (151, 5, 64) := by kernel_rfl
@[simp] theorem Tryz.isl40 : Aw.isSlice Tryz.prog 40 = true := by kernel_rfl
@[simp] theorem Tryz.apd40 : Aw.appendable Tryz.prog 40 = true := by kernel_rfl
@[simp] theorem Tryz.agg41 : Aw.aggSize Tryz.prog 41 = none := by kernel_rfl
@[simp] theorem Tryz.one41 : Aw.oneSize Tryz.prog 41 = true := by kernel_rfl
@[simp] theorem Tryz.siz41 : Aw.sizeA Tryz.prog 41 = some 1 := by kernel_rfl
@[simp] theorem Tryz.zer41 : Aw.zeroA Tryz.prog 41 = some [.sl .own 2 []] := by kernel_rfl
@[simp] theorem Tryz.zsz41 : Aw.zeroSz Tryz.prog 41 1 = true := by kernel_rfl
@[simp] theorem Tryz.elm41 : Aw.elemA Tryz.prog 41 = some (28, 2, 32) := by kernel_rfl
@[simp] theorem Tryz.isl41 : Aw.isSlice Tryz.prog 41 = true := by kernel_rfl
@[simp] theorem Tryz.apd41 : Aw.appendable Tryz.prog 41 = true := by kernel_rfl
@[simp] theorem Tryz.agg43 : Aw.aggSize Tryz.prog 43 = some 22 := by kernel_rfl
@[simp] theorem Tryz.siz43 : Aw.sizeA Tryz.prog 43 = some 22 := by kernel_rfl
@[simp] theorem Tryz.zer43 : Aw.zeroA Tryz.prog 43 = some [.str [], .str [], .bool false, .sl .own 1 [], .sl .own 1 [], .sl .own 1 [], .str [], .str [], .sl .own 4 [], .bool false, .sl .own 4 [], .sl .own 1 [], .sl .own 8 [], .sl .own 5 [], .sl .own 2 [], .int .i64 0, .int .i64 0, .int .i64 0, .int .i64 0, .sl .own 2 [], .sl .own 1 [], .bool false] := by kernel_rfl
@[simp] theorem Tryz.zsz43 : Aw.zeroSz Tryz.prog 43 22 = true := by kernel_rfl
@[simp] theorem Tryz.fld43_0 : Aw.fieldA Tryz.prog 43 0 = some 0 := by kernel_rfl
@[simp] theorem Tryz.fld43_1 : Aw.fieldA Tryz.prog 43 1 = some 2 := by kernel_rfl
@[simp] theorem Tryz.fld43_2 : Aw.fieldA Tryz.prog 43 2 = some 7 := by kernel_rfl
@[simp] theorem Tryz.fld43_3 : Aw.fieldA Tryz.prog 43 3 = some 8 := by kernel_rfl
@[simp] theorem Tryz.fld43_4 : Aw.fieldA Tryz.prog 43 4 = some 9 := by kernel_rfl
@[simp] theorem Tryz.fld43_5 : Aw.fieldA Tryz.prog 43 5 = some 10 := by kernel_rfl
@[simp] theorem Tryz.fld43_6 : Aw.fieldA Tryz.prog 43 6 = some 12 := by kernel_rfl
@[simp] theorem Tryz.fld43_7 : Aw.fieldA Tryz.prog 43 7 = some 13 := by kernel_rfl
@[simp] theorem Tryz.fld43_8 : Aw.fieldA Tryz.prog 43 8 = some 14 := by kernel_rfl
@[simp] theorem Tryz.fld43_9 : Aw.fieldA Tryz.prog 43 9 = some 15 := by kernel_rfl
@[simp] theorem Tryz.fld43_10 : Aw.fieldA Tryz.prog 43 10 = some 16 := by kernel_rfl
@[simp] theorem Tryz.fld43_11 : Aw.fieldA Tryz.prog 43 11 = some 17 := by kernel_rfl
@[simp] theorem Tryz.fld43_12 : Aw.fieldA Tryz.prog 43 12 = some 18 := by kernel_rfl
@[simp] theorem Tryz.fld43_13 : Aw.fieldA Tryz.prog 43 13 = some 19 := by kernel_rfl
@[simp] theorem Tryz.fld43_14 : Aw.fieldA Tryz.prog 43 14 = some 20 := by kernel_rfl
@[simp] theorem Tryz.fld43_15 : Aw.fieldA Tryz.prog 43 15 = some 21 := by kernel_rfl
@[simp] theorem Tryz.plc43 : Aw.placesA Tryz.prog 43 = some [(0, 2), (2, 5), (7, 1), (8, 1), (9, 1), (10, 2), (12, 1), (13, 1), (14, 1), (15, 1), (16, 1), (17, 1), (18, 1), (19, 1), (20, 1), (21, 1)] := by kernel_rfl
@[simp] theorem Tryz.agg47 : Aw.aggSize Tryz.prog 47 = some 6 := by kernel_rfl
@[simp] theorem Tryz.siz47 : Aw.sizeA Tryz.prog 47 = some 6 := by kernel_rfl
@[simp] theorem Tryz.zer47 : Aw.zeroA Tryz.prog 47 = some [.int .i64 0, .int .i64 0, .str [], .int .i64 0, .bool false, .str []] := by kernel_rfl
@[simp] theorem Tryz.zsz47 : Aw.zeroSz Tryz.prog 47 6 = true := by kernel_rfl
@[simp] theorem Tryz.fld47_0 : Aw.fieldA Tryz.prog 47 0 = some 0 := by kernel_rfl
@[simp] theorem Tryz.fld47_1 : Aw.fieldA Tryz.prog 47 1 = some 1 := by kernel_rfl
@[simp] theorem Tryz.fld47_2 : Aw.fieldA Tryz.prog 47 2 = some 2 := by kernel_rfl
@[simp] theorem Tryz.fld47_3 : Aw.fieldA Tryz.prog 47 3 = some 3 := by kernel_rfl
@[simp] theorem Tryz.fld47_4 : Aw.fieldA Tryz.prog 47 4 = some 4 := by kernel_rfl
@[simp] theorem Tryz.fld47_5 : Aw.fieldA Tryz.prog 47 5 = some 5 := by kernel_rfl
@[simp] theorem Tryz.plc47 : Aw.placesA Tryz.prog 47 = some [(0, 1), (1, 1), (2, 1), (3, 1), (4, 1), (5, 1)] := by kernel_rfl
@[simp] theorem Tryz.agg52 : Aw.aggSize Tryz.prog 52 = some 5 := by kernel_rfl
@[simp] theorem Tryz.siz52 : Aw.sizeA Tryz.prog 52 = some 5 := by kernel_rfl
@[simp] theorem Tryz.zer52 : Aw.zeroA Tryz.prog 52 = some [.bool false, .sl .own 1 [], .sl .own 1 [], .sl .own 1 [], .str []] := by kernel_rfl
@[simp] theorem Tryz.zsz52 : Aw.zeroSz Tryz.prog 52 5 = true := by kernel_rfl
@[simp] theorem Tryz.fld52_0 : Aw.fieldA Tryz.prog 52 0 = some 0 := by kernel_rfl
@[simp] theorem Tryz.fld52_1 : Aw.fieldA Tryz.prog 52 1 = some 1 := by kernel_rfl
@[simp] theorem Tryz.fld52_2 : Aw.fieldA Tryz.prog 52 2 = some 2 := by kernel_rfl
@[simp] theorem Tryz.fld52_3 : Aw.fieldA Tryz.prog 52 3 = some 3 := by kernel_rfl
@[simp] theorem Tryz.fld52_4 : Aw.fieldA Tryz.prog 52 4 = some 4 := by kernel_rfl
@[simp] theorem Tryz.plc52 : Aw.placesA Tryz.prog 52 = some [(0, 1), (1, 1), (2, 1), (3, 1), (4, 1)] := by kernel_rfl
@[simp] theorem Tryz.agg53 : Aw.aggSize Tryz.prog 53 = some 1 := by kernel_rfl
@[simp] theorem Tryz.siz53 : Aw.sizeA Tryz.prog 53 = some 1 := by kernel_rfl
@[simp] theorem Tryz.zer53 : Aw.zeroA Tryz.prog 53 = some [.str []] := by kernel_rfl
@[simp] theorem Tryz.zsz53 : Aw.zeroSz Tryz.prog 53 1 = true := by kernel_rfl
@[simp] theorem Tryz.fld53_0 : Aw.fieldA Tryz.prog 53 0 = some 0 := by kernel_rfl
@[simp] theorem Tryz.plc53 : Aw.placesA Tryz.prog 53 = some [(0, 1)] := by kernel_rfl
@[simp] theorem Tryz.agg54 : Aw.aggSize Tryz.prog 54 = none := by kernel_rfl
@[simp] theorem Tryz.one54 : Aw.oneSize Tryz.prog 54 = true := by kernel_rfl
@[simp] theorem Tryz.siz54 : Aw.sizeA Tryz.prog 54 = some 1 := by kernel_rfl
@[simp] theorem Tryz.zer54 : Aw.zeroA Tryz.prog 54 = some [.sl .own 4 []] := by kernel_rfl
@[simp] theorem Tryz.zsz54 : Aw.zeroSz Tryz.prog 54 1 = true := by kernel_rfl
@[simp] theorem Tryz.elm54 : Aw.elemA Tryz.prog 54 = some (158, 4, 64) := by kernel_rfl
@[simp] theorem Tryz.isl54 : Aw.isSlice Tryz.prog 54 = true := by kernel_rfl
@[simp] theorem Tryz.apd54 : Aw.appendable Tryz.prog 54 = true := by kernel_rfl
@[simp] theorem Tryz.agg55 : Aw.aggSize Tryz.prog 55 = none := by kernel_rfl
@[simp] theorem Tryz.one55 : Aw.oneSize Tryz.prog 55 = true := by kernel_rfl
@[simp] theorem Tryz.siz55 : Aw.sizeA Tryz.prog 55 = some 1 := by kernel_rfl
@[simp] theorem Tryz.zer55 : Aw.zeroA Tryz.prog 55 = some [.sl .own 4 []] := by kernel_rfl
@[simp] theorem Tryz.zsz55 : Aw.zeroSz Tryz.prog 55 1 = true := by kernel_rfl
@[simp] theorem Tryz.elm55 : Aw.elemA Tryz.prog 55 = some (200, 4, 64) := by kernel_rfl
@[simp] theorem Tryz.isl55 : Aw.isSlice Tryz.prog 55 = true := by kernel_rfl
@[simp] theorem Tryz.apd55 : Aw.appendable Tryz.prog 55 = true := by kernel_rfl
@[simp] theorem Tryz.agg57 : Aw.aggSize Tryz.prog 57 = some 2 := by kernel_rfl
@[simp] theorem Tryz.siz57 : Aw.sizeA Tryz.prog 57 = some 2 := by kernel_rfl
@[simp] theorem Tryz.zer57 : Aw.zeroA Tryz.prog 57 = some [.sl .own 4 [], .sl .own 1 []] := by kernel_rfl
@[simp] theorem Tryz.zsz57 : Aw.zeroSz Tryz.prog 57 2 = true := by kernel_rfl
@[simp] theorem Tryz.fld57_0 : Aw.fieldA Tryz.prog 57 0 = some 0 := by kernel_rfl
@[simp] theorem Tryz.fld57_1 : Aw.fieldA Tryz.prog 57 1 = some 1 := by kernel_rfl
@[simp] theorem Tryz.plc57 : Aw.placesA Tryz.prog 57 = some [(0, 1), (1, 1)] := by kernel_rfl
@[simp] theorem Tryz.agg58 : Aw.aggSize Tryz.prog 58 = none := by kernel_rfl
@[simp] theorem Tryz.one58 : Aw.oneSize Tryz.prog 58 = true := by kernel_rfl
@[simp] theorem Tryz.siz58 : Aw.sizeA Tryz.prog 58 = some 1 := by kernel_rfl
@[simp] theorem Tryz.zer58 : Aw.zeroA Tryz.prog 58 = some [.sl .own 8 []] := by kernel_rfl
@[simp] theorem Tryz.zsz58 : Aw.zeroSz Tryz.prog 58 1 = true := by kernel_rfl
@[simp] theorem Tryz.elm58 : Aw.elemA Tryz.prog 58 = some (162, 8, 96) := by kernel_rfl
@[simp] theorem Tryz.isl58 : Aw.isSlice Tryz.prog 58 = true := by kernel_rfl
@[simp] theorem Tryz.apd58 : Aw.appendable Tryz.prog 58 = true := by kernel_rfl
@[simp] theorem Tryz.agg59 : Aw.aggSize Tryz.prog 59 = none := by kernel_rfl
@[simp] theorem Tryz.one59 : Aw.oneSize Tryz.prog 59 = true := by kernel_rfl
@[simp] theorem Tryz.siz59 : Aw.sizeA Tryz.prog 59 = some 1 := by kernel_rfl
@[simp] theorem Tryz.zer59 : Aw.zeroA Tryz.prog 59 = some [.sl .own 5 []] := by kernel_rfl
@[simp] theorem Tryz.zsz59 : Aw.zeroSz Tryz.prog 59 1 = true := by kernel_rfl
@[simp] theorem Tryz.elm59 : Aw.elemA Tryz.prog 59 = some (165, 5, 64) := by kernel_rfl
@[simp] theorem Tryz.isl59 : Aw.isSlice Tryz.prog 59 = true := by kernel_rfl
@[simp] theorem Tryz.apd59 : Aw.appendable Tryz.prog 59 = true := by kernel_rfl
@[simp] theorem Tryz.agg60 : Aw.aggSize Tryz.prog 60 = none := by kernel_rfl
@[simp] theorem Tryz.one60 : Aw.oneSize Tryz.prog 60 = true := by kernel_rfl
@[simp] theorem Tryz.siz60 : Aw.sizeA Tryz.prog 60 = some 1 := by kernel_rfl
@[simp] theorem Tryz.zer60 : Aw.zeroA Tryz.prog 60 = some [.sl .own 2 []] := by kernel_rfl
@[simp] theorem Tryz.zsz60 : Aw.zeroSz Tryz.prog 60 1 = true := by kernel_rfl
@[simp] theorem Tryz.elm60 : Aw.elemA Tryz.prog 60 = some (23, 2, 32) := by kernel_rfl
@[simp] theorem Tryz.isl60 : Aw.isSlice Tryz.prog 60 = true := by kernel_rfl
@[simp] theorem Tryz.apd60 : Aw.appendable Tryz.prog 60 = true := by kernel_rfl
@[simp] theorem Tryz.agg62 : Aw.aggSize Tryz.prog 62 = some 22 := by kernel_rfl
@[simp] theorem Tryz.siz62 : Aw.sizeA Tryz.prog 62 = some 22 := by kernel_rfl
@[simp] theorem Tryz.zer62 : Aw.zeroA Tryz.prog 62 = some [.str [], .str [], .bool false, .sl .own 1 [], .sl .own 1 [], .sl .own 1 [], .str [], .str [], .sl .own 4 [], .bool false, .sl .own 4 [], .sl .own 1 [], .sl .own 8 [], .sl .own 5 [], .sl .own 2 [], .int .i64 0, .int .i64 0, .int .i64 0, .int .i64 0, .sl .own 2 [], .sl .own 1 [], .bool false] := by kernel_rfl
@[simp] theorem Tryz.zsz62 : Aw.zeroSz Tryz.prog 62 22 = true := by kernel_rfl
@[simp] theorem Tryz.fld62_0 : Aw.fieldA Tryz.prog 62 0 = some 0 := by kernel_rfl
@[simp] theorem Tryz.fld62_1 : Aw.fieldA Tryz.prog 62 1 = some 2 := by kernel_rfl
@[simp] theorem Tryz.fld62_2 : Aw.fieldA Tryz.prog 62 2 = some 7 := by kernel_rfl
@[simp] theorem Tryz.fld62_3 : Aw.fieldA Tryz.prog 62 3 = some 8 := by kernel_rfl
@[simp] theorem Tryz.fld62_4 : Aw.fieldA Tryz.prog 62 4 = some 9 := by kernel_rfl
@[simp] theorem Tryz.fld62_5 : Aw.fieldA Tryz.prog 62 5 = some 10 := by kernel_rfl
@[simp] theorem Tryz.fld62_6 : Aw.fieldA Tryz.prog 62 6 = some 12 := by kernel_rfl
@[simp] theorem Tryz.fld62_7 : Aw.fieldA Tryz.prog 62 7 = some 13 := by kernel_rfl
@[simp] theorem Tryz.fld62_8 : Aw.fieldA Tryz.prog 62 8 = some 14 := by kernel_rfl
@[simp] theorem Tryz.fld62_9 : Aw.fieldA Tryz.prog 62 9 = some 15 := by kernel_rfl
@[simp] theorem Tryz.fld62_10 : Aw.fieldA Tryz.prog 62 10 = some 16 := by kernel_rfl
@[simp] theorem Tryz.fld62_11 : Aw.fieldA Tryz.prog 62 11 = some 17 := by kernel_rfl
@[simp] theorem Tryz.fld62_12 : Aw.fieldA Tryz.prog 62 12 = some 18 := by kernel_rfl
@[simp] theorem Tryz.fld62_13 : Aw.fieldA Tryz.prog 62 13 = some 19 := by kernel_rfl
@[simp] theorem Tryz.fld62_14 : Aw.fieldA Tryz.prog 62 14 = some 20 := by kernel_rfl
@[simp] theorem Tryz.fld62_15 : Aw.fieldA Tryz.prog 62 15 = some 21 := by kernel_rfl
@[simp] theorem Tryz.plc62 : Aw.placesA Tryz.prog 62 = some [(0, 2), (2, 5), (7, 1), (8, 1), (9, 1), (10, 2), (12, 1), (13, 1), (14, 1), (15, 1), (16, 1), (17, 1), (18, 1), (19, 1), (20, 1), (21, 1)] := by kernel_rfl
@[simp] theorem Tryz.agg67 : Aw.aggSize Tryz.prog 67 = none := by kernel_rfl
@[simp] theorem Tryz.one67 : Aw.oneSize Tryz.prog 67 = true := by kernel_rfl
@[simp] theorem Tryz.siz67 : Aw.sizeA Tryz.prog 67 = some 1 := by kernel_rfl
@[simp] theorem Tryz.zer67 : Aw.zeroA Tryz.prog 67 = some [.sl .own 1 []] := by kernel_rfl
@[simp] theorem Tryz.zsz67 : Aw.zeroSz Tryz.prog 67 1 = true := by kernel_rfl
@[simp] theorem Tryz.elm67 : Aw.elemA Tryz.prog 67 = some (122, 1, 24) := by kernel_rfl
@[simp] theorem Tryz.isl67 : Aw.isSlice Tryz.prog 67 = true := by kernel_rfl
@[simp] theorem Tryz.apd67 : Aw.appendable Tryz.prog 67 = true := by kernel_rfl
@[simp] theorem Tryz.agg119 : Aw.aggSize Tryz.prog 119 = some 8 := by kernel_rfl
@[simp] theorem Tryz.siz119 : Aw.sizeA Tryz.prog 119 = some 8 := by kernel_rfl
@[simp] theorem Tryz.zer119 : Aw.zeroA Tryz.prog 119 = some [.int .i64 0, .str [], .str [], .str [], .int .i64 0, .bool false, .int .i64 0, .str []] := by kernel_rfl
@[simp] theorem Tryz.zsz119 : Aw.zeroSz Tryz.prog 119 8 = true := by kernel_rfl
@[simp] theorem Tryz.fld119_0 : Aw.fieldA Tryz.prog 119 0 = some 0 := by kernel_rfl
@[simp] theorem Tryz.fld119_1 : Aw.fieldA Tryz.prog 119 1 = some 1 := by kernel_rfl
@[simp] theorem Tryz.fld119_2 : Aw.fieldA Tryz.prog 119 2 = some 3 := by kernel_rfl
@[simp] theorem Tryz.fld119_3 : Aw.fieldA Tryz.prog 119 3 = some 4 := by kernel_rfl
@[simp] theorem Tryz.fld119_4 : Aw.fieldA Tryz.prog 119 4 = some 5 := by kernel_rfl
@[simp] theorem Tryz.fld119_5 : Aw.fieldA Tryz.prog 119 5 = some 6 := by kernel_rfl
@[simp] theorem Tryz.fld119_6 : Aw.fieldA Tryz.prog 119 6 = some 7 := by kernel_rfl
@[simp] theorem Tryz.plc119 : Aw.placesA Tryz.prog 119 = some [(0, 1), (1, 2), (3, 1), (4, 1), (5, 1), (6, 1), (7, 1)] := by kernel_rfl
@[simp] theorem Tryz.agg120 : Aw.aggSize Tryz.prog 120 = none := by kernel_rfl
@[simp] theorem Tryz.one120 : Aw.oneSize Tryz.prog 120 = true := by kernel_rfl
@[simp] theorem Tryz.siz120 : Aw.sizeA Tryz.prog 120 = some 1 := by kernel_rfl
@[simp] theorem Tryz.zer120 : Aw.zeroA Tryz.prog 120 = some [.sl .own 2 []] := by kernel_rfl
@[simp] theorem Tryz.zsz120 : Aw.zeroSz Tryz.prog 120 1 = true := by kernel_rfl
@[simp] theorem Tryz.elm120 : Aw.elemA Tryz.prog 120 = some (179, 2, 24) := by kernel_rfl
@[simp] theorem Tryz.isl120 : Aw.isSlice Tryz.prog 120 = true := by kernel_rfl
@[simp] theorem Tryz.apd120 : Aw.appendable Tryz.prog 120 = true := by kernel_rfl
@[simp] theorem Tryz.agg122 : Aw.aggSize Tryz.prog 122 = some 1 := by kernel_rfl
@[simp] theorem Tryz.siz122 : Aw.sizeA Tryz.prog 122 = some 1 := by kernel_rfl
@[simp] theorem Tryz.zer122 : Aw.zeroA Tryz.prog 122 = some [.sl .own 2 []] := by kernel_rfl
@[simp] theorem Tryz.zsz122 : Aw.zeroSz Tryz.prog 122 1 = true := by kernel_rfl
@[simp] theorem Tryz.fld122_0 : Aw.fieldA Tryz.prog 122 0 = some 0 := by kernel_rfl
@[simp] theorem Tryz.plc122 : Aw.placesA Tryz.prog 122 = some [(0, 1)] := by kernel_rfl
@[simp] theorem Tryz.agg128 : Aw.aggSize Tryz.prog 128 = some 5 := by kernel_rfl
@[simp] theorem Tryz.siz128 : Aw.sizeA Tryz.prog 128 = some 5 := by kernel_rfl
@[simp] theorem Tryz.zer128 : Aw.zeroA Tryz.prog 128 = some [.int .i64 0, .str [], .str [], .str [], .str []] := by kernel_rfl
@[simp] theorem Tryz.zsz128 : Aw.zeroSz Tryz.prog 128 5 = true := by kernel_rfl
@[simp] theorem Tryz.fld128_0 : Aw.fieldA Tryz.prog 128 0 = some 0 := by kernel_rfl
@[simp] theorem Tryz.fld128_1 : Aw.fieldA Tryz.prog 128 1 = some 1 := by kernel_rfl
@[simp] theorem Tryz.fld128_2 : Aw.fieldA Tryz.prog 128 2 = some 3 := by kernel_rfl
@[simp] theorem Tryz.fld128_3 : Aw.fieldA Tryz.prog 128 3 = some 4 := by kernel_rfl
@[simp] theorem Tryz.plc128 : Aw.placesA Tryz.prog 128 = some [(0, 1), (1, 2), (3, 1), (4, 1)] := by kernel_rfl
@[simp] theorem Tryz.agg137 : Aw.aggSize Tryz.prog 137 = none := by kernel_rfl
@[simp] theorem Tryz.one137 : Aw.oneSize Tryz.prog 137 = true := by kernel_rfl
@[simp] theorem Tryz.siz137 : Aw.sizeA Tryz.prog 137 = some 1 := by kernel_rfl
@[simp] theorem Tryz.zer137 : Aw.zeroA Tryz.prog 137 = some [.sl .own 2 []] := by kernel_rfl
@[simp] theorem Tryz.zsz137 : Aw.zeroSz Tryz.prog 137 1 = true := by kernel_rfl
@[simp] theorem Tryz.elm137 : Aw.elemA Tryz.prog 137 = some (196, 2, 32) := by kernel_rfl
@[simp] theorem Tryz.isl137 : Aw.isSlice Tryz.prog 137 = true := by kernel_rfl
@[simp] theorem Tryz.apd137 : Aw.appendable Tryz.prog 137 = true := by kernel_rfl
@[simp] theorem Tryz.agg139 : Aw.aggSize Tryz.prog 139 = some 4 := by kernel_rfl
@[simp] theorem Tryz.siz139 : Aw.sizeA Tryz.prog 139 = some 4 := by kernel_rfl
@[simp] theorem Tryz.zer139 : Aw.zeroA Tryz.prog 139 = some [.str [], .str [], .int .i64 0, .sl .own 2 []] := by kernel_rfl
@[simp] theorem Tryz.zsz139 : Aw.zeroSz Tryz.prog 139 4 = true := by kernel_rfl
@[simp] theorem Tryz.fld139_0 : Aw.fieldA Tryz.prog 139 0 = some 0 := by kernel_rfl
@[simp] theorem Tryz.fld139_1 : Aw.fieldA Tryz.prog 139 1 = some 1 := by kernel_rfl
@[simp] theorem Tryz.fld139_2 : Aw.fieldA Tryz.prog 139 2 = some 2 := by kernel_rfl
@[simp] theorem Tryz.fld139_3 : Aw.fieldA Tryz.prog 139 3 = some 3 := by kernel_rfl
@[simp] theorem Tryz.plc139 : Aw.placesA Tryz.prog 139 = some [(0, 1), (1, 1), (2, 1), (3, 1)] := by kernel_rfl
@[simp] theorem Tryz.agg141 : Aw.aggSize Tryz.prog 141 = some 3 := by kernel_rfl
@[simp] theorem Tryz.siz141 : Aw.sizeA Tryz.prog 141 = some 3 := by kernel_rfl
@[simp] theorem Tryz.zer141 : Aw.zeroA Tryz.prog 141 = some [.sl .own 1 [], .sl .own 1 [], .sl .own 1 []] := by kernel_rfl
@[simp] theorem Tryz.zsz141 : Aw.zeroSz Tryz.prog 141 3 = true := by kernel_rfl
@[simp] theorem Tryz.arr141 : Aw.arrA Tryz.prog 141 = some (3, 1) := by kernel_rfl
@[simp] theorem Tryz.agg146 : Aw.aggSize Tryz.prog 146 = some 4 := by kernel_rfl
@[simp] theorem Tryz.siz146 : Aw.sizeA Tryz.prog 146 = some 4 := by kernel_rfl
@[simp] theorem Tryz.zer146 : Aw.zeroA Tryz.prog 146 = some [.int .i64 0, .str [], .sl .own 2 [], .str []] := by kernel_rfl
@[simp] theorem Tryz.zsz146 : Aw.zeroSz Tryz.prog 146 4 = true := by kernel_rfl
@[simp] theorem Tryz.fld146_0 : Aw.fieldA Tryz.prog 146 0 = some 0 := by kernel_rfl
@[simp] theorem Tryz.fld146_1 : Aw.fieldA Tryz.prog 146 1 = some 1 := by kernel_rfl
@[simp] theorem Tryz.fld146_2 : Aw.fieldA Tryz.prog 146 2 = some 2 := by kernel_rfl
@[simp] theorem Tryz.fld146_3 : Aw.fieldA Tryz.prog 146 3 = some 3 := by kernel_rfl
@[simp] theorem Tryz.plc146 : Aw.placesA Tryz.prog 146 = some [(0, 1), (1, 1), (2, 1), (3, 1)] := by kernel_rfl
@[simp] theorem Tryz.agg151 : Aw.aggSize Tryz.prog 151 = some 5 := by kernel_rfl
@[simp] theorem Tryz.siz151 : Aw.sizeA Tryz.prog 151 = some 5 := by kernel_rfl
@[simp] theorem Tryz.zer151 : Aw.zeroA Tryz.prog 151 = some [.str [], .str [], .bool false, .int .i64 0, .str []] := by kernel_rfl
@[simp] theorem Tryz.zsz151 : Aw.zeroSz Tryz.prog 151 5 = true := by kernel_rfl
@[simp] theorem Tryz.fld151_0 : Aw.fieldA Tryz.prog 151 0 = some 0 := by kernel_rfl
@[simp] theorem Tryz.fld151_1 : Aw.fieldA Tryz.prog 151 1 = some 2 := by kernel_rfl
@[simp] theorem Tryz.fld151_2 : Aw.fieldA Tryz.prog 151 2 = some 3 := by kernel_rfl
@[simp] theorem Tryz.fld151_3 : Aw.fieldA Tryz.prog 151 3 = some 4 := by kernel_rfl
@[simp] theorem Tryz.plc151 : Aw.placesA Tryz.prog 151 = some [(0, 2), (2, 1), (3, 1), (4, 1)] := by kernel_rfl
@[simp] theorem Tryz.agg156 : Aw.aggSize Tryz.prog 156 = none := by kernel_rfl
@[simp] theorem Tryz.one156 : Aw.oneSize Tryz.prog 156 = true := by kernel_rfl
@[simp] theorem Tryz.siz156 : Aw.sizeA Tryz.prog 156 = some 1 := by kernel_rfl
@[simp] theorem Tryz.zer156 : Aw.zeroA Tryz.prog 156 = some [.sl .own 2 []] := by kernel_rfl
@[simp] theorem Tryz.zsz156 : Aw.zeroSz Tryz.prog 156 1 = true := by kernel_rfl
@[simp] theorem Tryz.elm156 : Aw.elemA Tryz.prog 156 = some (225, 2, 32) := by kernel_rfl
@[simp] theorem Tryz.isl156 : Aw.isSlice Tryz.prog 156 = true := by kernel_rfl
@[simp] theorem Tryz.apd156 : Aw.appendable Tryz.prog 156 = true := by kernel_rfl
@[simp] theorem Tryz.agg158 : Aw.aggSize Tryz.prog 158 = some 4 := by kernel_rfl
@[simp] theorem Tryz.siz158 : Aw.sizeA Tryz.prog 158 = some 4 := by kernel_rfl
@[simp] theorem Tryz.zer158 : Aw.zeroA Tryz.prog 158 = some [.int .i64 0, .str [], .sl .own 2 [], .str []] := by kernel_rfl
@[simp] theorem Tryz.zsz158 : Aw.zeroSz Tryz.prog 158 4 = true := by kernel_rfl
@[simp] theorem Tryz.fld158_0 : Aw.fieldA Tryz.prog 158 0 = some 0 := by kernel_rfl
@[simp] theorem Tryz.fld158_1 : Aw.fieldA Tryz.prog 158 1 = some 1 := by kernel_rfl
@[simp] theorem Tryz.fld158_2 : Aw.fieldA Tryz.prog 158 2 = some 2 := by kernel_rfl
@[simp] theorem Tryz.fld158_3 : Aw.fieldA Tryz.prog 158 3 = some 3 := by kernel_rfl
@[simp] theorem Tryz.plc158 : Aw.placesA Tryz.prog 158 = some [(0, 1), (1, 1), (2, 1), (3, 1)] := by kernel_rfl
@[simp] theorem Tryz.agg162 : Aw.aggSize Tryz.prog 162 = some 8 := by kernel_rfl
@[simp] theorem Tryz.siz162 : Aw.sizeA Tryz.prog 162 = some 8 := by kernel_rfl
@[simp] theorem Tryz.zer162 : Aw.zeroA Tryz.prog 162 = some [.int .i64 0, .str [], .str [], .str [], .int .i64 0, .bool false, .int .i64 0, .str []] := by kernel_rfl
@[simp] theorem Tryz.zsz162 : Aw.zeroSz Tryz.prog 162 8 = true := by kernel_rfl
@[simp] theorem Tryz.fld162_0 : Aw.fieldA Tryz.prog 162 0 = some 0 := by kernel_rfl
@[simp] theorem Tryz.fld162_1 : Aw.fieldA Tryz.prog 162 1 = some 1 := by kernel_rfl
@[simp] theorem Tryz.fld162_2 : Aw.fieldA Tryz.prog 162 2 = some 3 := by kernel_rfl
@[simp] theorem Tryz.fld162_3 : Aw.fieldA Tryz.prog 162 3 = some 4 := by kernel_rfl
@[simp] theorem Tryz.fld162_4 : Aw.fieldA Tryz.prog 162 4 = some 5 := by kernel_rfl
@[simp] theorem Tryz.fld162_5 : Aw.fieldA Tryz.prog 162 5 = some 6 := by kernel_rfl
@[simp] theorem Tryz.fld162_6 : Aw.fieldA Tryz.prog 162 6 = some 7 := by kernel_rfl
@[simp] theorem Tryz.plc162 : Aw.placesA Tryz.prog 162 = some [(0, 1), (1, 2), (3, 1), (4, 1), (5, 1), (6, 1), (7, 1)] := by kernel_rfl
@[simp] theorem Tryz.agg165 : Aw.aggSize Tryz.prog 165 = some 5 := by kernel_rfl
@[simp] theorem Tryz.siz165 : Aw.sizeA Tryz.prog 165 = some 5 := by kernel_rfl
@[simp] theorem Tryz.zer165 : Aw.zeroA Tryz.prog 165 = some [.str [], .str [], .bool false, .int .i64 0, .str []] := by kernel_rfl
@[simp] theorem Tryz.zsz165 : Aw.zeroSz Tryz.prog 165 5 = true := by kernel_rfl
@[simp] theorem Tryz.fld165_0 : Aw.fieldA Tryz.prog 165 0 = some 0 := by kernel_rfl
@[simp] theorem Tryz.fld165_1 : Aw.fieldA Tryz.prog 165 1 = some 2 := by kernel_rfl
@[simp] theorem Tryz.fld165_2 : Aw.fieldA Tryz.prog 165 2 = some 3 := by kernel_rfl
@[simp] theorem Tryz.fld165_3 : Aw.fieldA Tryz.prog 165 3 = some 4 := by kernel_rfl
@[simp] theorem Tryz.plc165 : Aw.placesA Tryz.prog 165 = some [(0, 2), (2, 1), (3, 1), (4, 1)] := by kernel_rfl
@[simp] theorem Tryz.agg179 : Aw.aggSize Tryz.prog 179 = some 2 := by kernel_rfl
@[simp] theorem Tryz.siz179 : Aw.sizeA Tryz.prog 179 = some 2 := by kernel_rfl
@[simp] theorem Tryz.zer179 : Aw.zeroA Tryz.prog 179 = some [.str [], .int .i64 0] := by kernel_rfl
@[simp] theorem Tryz.zsz179 : Aw.zeroSz Tryz.prog 179 2 = true := by kernel_rfl
@[simp] theorem Tryz.fld179_0 : Aw.fieldA Tryz.prog 179 0 = some 0 := by kernel_rfl
@[simp] theorem Tryz.fld179_1 : Aw.fieldA Tryz.prog 179 1 = some 1 := by kernel_rfl
@[simp] theorem Tryz.plc179 : Aw.placesA Tryz.prog 179 = some [(0, 1), (1, 1)] := by kernel_rfl
@[simp] theorem Tryz.agg194 : Aw.aggSize Tryz.prog 194 = none := by kernel_rfl
@[simp] theorem Tryz.one194 : Aw.oneSize Tryz.prog 194 = true := by kernel_rfl
@[simp] theorem Tryz.siz194 : Aw.sizeA Tryz.prog 194 = some 1 := by kernel_rfl
@[simp] theorem Tryz.zer194 : Aw.zeroA Tryz.prog 194 = some [.sl .own 1 []] := by kernel_rfl
@[simp] theorem Tryz.zsz194 : Aw.zeroSz Tryz.prog 194 1 = true := by kernel_rfl
@[simp] theorem Tryz.elm194 : Aw.elemA Tryz.prog 194 = some (5, 1, 1) := by kernel_rfl
@[simp] theorem Tryz.isl194 : Aw.isSlice Tryz.prog 194 = true := by kernel_rfl
@[simp] theorem Tryz.apd194 : Aw.appendable Tryz.prog 194 = true := by kernel_rfl
@[simp] theorem Tryz.agg196 : Aw.aggSize Tryz.prog 196 = some 2 := by kernel_rfl
@[simp] theorem Tryz.siz196 : Aw.sizeA Tryz.prog 196 = some 2 := by kernel_rfl
@[simp] theorem Tryz.zer196 : Aw.zeroA Tryz.prog 196 = some [.str [], .str []] := by kernel_rfl
@[simp] theorem Tryz.zsz196 : Aw.zeroSz Tryz.prog 196 2 = true := by kernel_rfl
@[simp] theorem Tryz.fld196_0 : Aw.fieldA Tryz.prog 196 0 = some 0 := by kernel_rfl
@[simp] theorem Tryz.fld196_1 : Aw.fieldA Tryz.prog 196 1 = some 1 := by kernel_rfl
@[simp] theorem Tryz.plc196 : Aw.placesA Tryz.prog 196 = some [(0, 1), (1, 1)] := by kernel_rfl
@[simp] theorem Tryz.agg200 : Aw.aggSize Tryz.prog 200 = some 4 := by kernel_rfl
@[simp] theorem Tryz.siz200 : Aw.sizeA Tryz.prog 200 = some 4 := by kernel_rfl
@[simp] theorem Tryz.zer200 : Aw.zeroA Tryz.prog 200 = some [.str [], .str [], .int .i64 0, .sl .own 2 []] := by kernel_rfl
@[simp] theorem Tryz.zsz200 : Aw.zeroSz Tryz.prog 200 4 = true := by kernel_rfl
@[simp] theorem Tryz.fld200_0 : Aw.fieldA Tryz.prog 200 0 = some 0 := by kernel_rfl
@[simp] theorem Tryz.fld200_1 : Aw.fieldA Tryz.prog 200 1 = some 1 := by kernel_rfl
@[simp] theorem Tryz.fld200_2 : Aw.fieldA Tryz.prog 200 2 = some 2 := by kernel_rfl
@[simp] theorem Tryz.fld200_3 : Aw.fieldA Tryz.prog 200 3 = some 3 := by kernel_rfl
@[simp] theorem Tryz.plc200 : Aw.placesA Tryz.prog 200 = some [(0, 1), (1, 1), (2, 1), (3, 1)] := by kernel_rfl
@[simp] theorem Tryz.agg220 : Aw.aggSize Tryz.prog 220 = some 2 := by kernel_rfl
@[simp] theorem Tryz.siz220 : Aw.sizeA Tryz.prog 220 = some 2 := by kernel_rfl
@[simp] theorem Tryz.zer220 : Aw.zeroA Tryz.prog 220 = some [.undef, .sl .own 1 []] := by kernel_rfl
@[simp] theorem Tryz.zsz220 : Aw.zeroSz Tryz.prog 220 2 = true := by kernel_rfl
@[simp] theorem Tryz.fld220_0 : Aw.fieldA Tryz.prog 220 0 = some 0 := by kernel_rfl
@[simp] theorem Tryz.fld220_1 : Aw.fieldA Tryz.prog 220 1 = some 1 := by kernel_rfl
@[simp] theorem Tryz.agg225 : Aw.aggSize Tryz.prog 225 = some 2 := by kernel_rfl
@[simp] theorem Tryz.siz225 : Aw.sizeA Tryz.prog 225 = some 2 := by kernel_rfl
@[simp] theorem Tryz.zer225 : Aw.zeroA Tryz.prog 225 = some [.str [], .str []] := by kernel_rfl
@[simp] theorem Tryz.zsz225 : Aw.zeroSz Tryz.prog 225 2 = true := by kernel_rfl
@[simp] theorem Tryz.fld225_0 : Aw.fieldA Tryz.prog 225 0 = some 0 := by kernel_rfl
@[simp] theorem Tryz.fld225_1 : Aw.fieldA Tryz.prog 225 1 = some 1 := by kernel_rfl
@[simp] theorem Tryz.plc225 : Aw.placesA Tryz.prog 225 = some [(0, 1), (1, 1)] := by kernel_rfl
@[simp] theorem Tryz.agg237 : Aw.aggSize Tryz.prog 237 = none := by kernel_rfl
@[simp] theorem Tryz.one237 : Aw.oneSize Tryz.prog 237 = true := by kernel_rfl
@[simp] theorem Tryz.siz237 : Aw.sizeA Tryz.prog 237 = some 1 := by kernel_rfl
@[simp] theorem Tryz.zer237 : Aw.zeroA Tryz.prog 237 = some [.int .u64 0] := by kernel_rfl
@[simp] theorem Tryz.zsz237 : Aw.zeroSz Tryz.prog 237 1 = true := by kernel_rfl
@[simp] theorem Tryz.int237 : Aw.intType Tryz.prog 237 = some .u64 := by kernel_rfl
@[simp] theorem Tryz.som237 : (Tryz.prog.underlying 237).isSome = true := by kernel_rfl
@[simp] theorem Tryz.agg250 : Aw.aggSize Tryz.prog 250 = none := by kernel_rfl
@[simp] theorem Tryz.one250 : Aw.oneSize Tryz.prog 250 = true := by kernel_rfl
@[simp] theorem Tryz.siz250 : Aw.sizeA Tryz.prog 250 = some 1 := by kernel_rfl
@[simp] theorem Tryz.zer250 : Aw.zeroA Tryz.prog 250 = some [.int .u32 0] := by kernel_rfl
@[simp] theorem Tryz.zsz250 : Aw.zeroSz Tryz.prog 250 1 = true := by kernel_rfl
@[simp] theorem Tryz.int250 : Aw.intType Tryz.prog 250 = some .u32 := by kernel_rfl
@[simp] theorem Tryz.som250 : (Tryz.prog.underlying 250).isSome = true := by kernel_rfl
@[simp] theorem Tryz.agg253 : Aw.aggSize Tryz.prog 253 = none := by kernel_rfl
@[simp] theorem Tryz.one253 : Aw.oneSize Tryz.prog 253 = true := by kernel_rfl
@[simp] theorem Tryz.siz253 : Aw.sizeA Tryz.prog 253 = some 1 := by kernel_rfl
@[simp] theorem Tryz.zer253 : Aw.zeroA Tryz.prog 253 = some [.int .u64 0] := by kernel_rfl
@[simp] theorem Tryz.zsz253 : Aw.zeroSz Tryz.prog 253 1 = true := by kernel_rfl
@[simp] theorem Tryz.int253 : Aw.intType Tryz.prog 253 = some .u64 := by kernel_rfl
@[simp] theorem Tryz.som253 : (Tryz.prog.underlying 253).isSome = true := by kernel_rfl
@[simp] theorem Tryz.agg258 : Aw.aggSize Tryz.prog 258 = some 3 := by kernel_rfl
@[simp] theorem Tryz.siz258 : Aw.sizeA Tryz.prog 258 = some 3 := by kernel_rfl
@[simp] theorem Tryz.zer258 : Aw.zeroA Tryz.prog 258 = some [.str [], .str [], .undef] := by kernel_rfl
@[simp] theorem Tryz.zsz258 : Aw.zeroSz Tryz.prog 258 3 = true := by kernel_rfl
@[simp] theorem Tryz.fld258_0 : Aw.fieldA Tryz.prog 258 0 = some 0 := by kernel_rfl
@[simp] theorem Tryz.fld258_1 : Aw.fieldA Tryz.prog 258 1 = some 1 := by kernel_rfl
@[simp] theorem Tryz.fld258_2 : Aw.fieldA Tryz.prog 258 2 = some 2 := by kernel_rfl
@[simp] theorem Tryz.agg263 : Aw.aggSize Tryz.prog 263 = some 2 := by kernel_rfl
@[simp] theorem Tryz.siz263 : Aw.sizeA Tryz.prog 263 = some 2 := by kernel_rfl
@[simp] theorem Tryz.zer263 : Aw.zeroA Tryz.prog 263 = some [.int .u8 0, .int .u8 0] := by kernel_rfl
@[simp] theorem Tryz.zsz263 : Aw.zeroSz Tryz.prog 263 2 = true := by kernel_rfl
@[simp] theorem Tryz.fld263_0 : Aw.fieldA Tryz.prog 263 0 = some 0 := by kernel_rfl
@[simp] theorem Tryz.fld263_1 : Aw.fieldA Tryz.prog 263 1 = some 1 := by kernel_rfl
@[simp] theorem Tryz.plc263 : Aw.placesA Tryz.prog 263 = some [(0, 1), (1, 1)] := by kernel_rfl
@[simp] theorem Tryz.agg268 : Aw.aggSize Tryz.prog 268 = some 1 := by kernel_rfl
@[simp] theorem Tryz.siz268 : Aw.sizeA Tryz.prog 268 = some 1 := by kernel_rfl
@[simp] theorem Tryz.zer268 : Aw.zeroA Tryz.prog 268 = some [.str []] := by kernel_rfl
@[simp] theorem Tryz.zsz268 : Aw.zeroSz Tryz.prog 268 1 = true := by kernel_rfl
@[simp] theorem Tryz.fld268_0 : Aw.fieldA Tryz.prog 268 0 = some 0 := by kernel_rfl
@[simp] theorem Tryz.plc268 : Aw.placesA Tryz.prog 268 = some [(0, 1)] := by kernel_rfl
@[simp] theorem Tryz.cal3 : Aw.callable Tryz.prog 3 = true := by kernel_rfl
@[simp] theorem Tryz.cal4 : Aw.callable Tryz.prog 4 = true := by kernel_rfl
@[simp] theorem Tryz.cal5 : Aw.callable Tryz.prog 5 = true := by kernel_rfl
@[simp] theorem Tryz.cal6 : Aw.callable Tryz.prog 6 = true := by kernel_rfl
@[simp] theorem Tryz.cal7 : Aw.callable Tryz.prog 7 = true := by kernel_rfl
@[simp] theorem Tryz.cal8 : Aw.callable Tryz.prog 8 = true := by kernel_rfl
@[simp] theorem Tryz.cal9 : Aw.callable Tryz.prog 9 = true := by kernel_rfl
@[simp] theorem Tryz.cal10 : Aw.callable Tryz.prog 10 = true := by kernel_rfl
@[simp] theorem Tryz.cal11 : Aw.callable Tryz.prog 11 = true := by kernel_rfl
@[simp] theorem Tryz.cal12 : Aw.callable Tryz.prog 12 = true := by kernel_rfl
@[simp] theorem Tryz.cal13 : Aw.callable Tryz.prog 13 = true := by kernel_rfl
@[simp] theorem Tryz.cal14 : Aw.callable Tryz.prog 14 = true := by kernel_rfl
@[simp] theorem Tryz.cal15 : Aw.callable Tryz.prog 15 = true := by kernel_rfl
@[simp] theorem Tryz.cal16 : Aw.callable Tryz.prog 16 = true := by kernel_rfl
@[simp] theorem Tryz.cal17 : Aw.callable Tryz.prog 17 = true := by kernel_rfl
@[simp] theorem Tryz.cal18 : Aw.callable Tryz.prog 18 = true := by kernel_rfl
@[simp] theorem Tryz.cal19 : Aw.callable Tryz.prog 19 = true := by kernel_rfl
@[simp] theorem Tryz.cal20 : Aw.callable Tryz.prog 20 = true := by kernel_rfl
@[simp] theorem Tryz.cal21 : Aw.callable Tryz.prog 21 = true := by kernel_rfl
@[simp] theorem Tryz.cal22 : Aw.callable Tryz.prog 22 = true := by kernel_rfl
@[simp] theorem Tryz.cal23 : Aw.callable Tryz.prog 23 = true := by kernel_rfl
@[simp] theorem Tryz.cal24 : Aw.callable Tryz.prog 24 = true := by kernel_rfl
@[simp] theorem Tryz.cal25 : Aw.callable Tryz.prog 25 = true := by kernel_rfl
@[simp] theorem Tryz.cal26 : Aw.callable Tryz.prog 26 = true := by kernel_rfl
@[simp] theorem Tryz.cal27 : Aw.callable Tryz.prog 27 = true := by kernel_rfl
@[simp] theorem Tryz.cal28 : Aw.callable Tryz.prog 28 = true := by kernel_rfl
@[simp] theorem Tryz.cal29 : Aw.callable Tryz.prog 29 = true := by kernel_rfl
@[simp] theorem Tryz.cal30 : Aw.callable Tryz.prog 30 = true := by kernel_rfl
@[simp] theorem Tryz.cal31 : Aw.callable Tryz.prog 31 = true := by kernel_rfl
@[simp] theorem Tryz.cal32 : Aw.callable Tryz.prog 32 = true := by kernel_rfl
@[simp] theorem Tryz.cal33 : Aw.callable Tryz.prog 33 = true := by kernel_rfl
@[simp] theorem Tryz.cal34 : Aw.callable Tryz.prog 34 = true := by kernel_rfl
@[simp] theorem Tryz.cal35 : Aw.callable Tryz.prog 35 = true := by kernel_rfl
@[simp] theorem Tryz.cal36 : Aw.callable Tryz.prog 36 = true := by kernel_rfl
@[simp] theorem Tryz.cal37 : Aw.callable Tryz.prog 37 = true := by kernel_rfl
@[simp] theorem Tryz.cal38 : Aw.callable Tryz.prog 38 = true := by kernel_rfl
@[simp] theorem Tryz.cal39 : Aw.callable Tryz.prog 39 = true := by kernel_rfl
@[simp] theorem Tryz.cal40 : Aw.callable Tryz.prog 40 = true := by kernel_rfl
@[simp] theorem Tryz.cal41 : Aw.callable Tryz.prog 41 = true := by kernel_rfl
@[simp] theorem Tryz.cal42 : Aw.callable Tryz.prog 42 = true := by kernel_rfl
@[simp] theorem Tryz.cal43 : Aw.callable Tryz.prog 43 = true := by kernel_rfl
@[simp] theorem Tryz.cal44 : Aw.callable Tryz.prog 44 = true := by kernel_rfl
@[simp] theorem Tryz.cal45 : Aw.callable Tryz.prog 45 = true := by kernel_rfl
@[simp] theorem Tryz.cal46 : Aw.callable Tryz.prog 46 = true := by kernel_rfl
@[simp] theorem Tryz.cal47 : Aw.callable Tryz.prog 47 = true := by kernel_rfl
@[simp] theorem Tryz.cal48 : Aw.callable Tryz.prog 48 = true := by kernel_rfl
@[simp] theorem Tryz.cal49 : Aw.callable Tryz.prog 49 = true := by kernel_rfl
@[simp] theorem Tryz.cal50 : Aw.callable Tryz.prog 50 = true := by kernel_rfl
@[simp] theorem Tryz.cal51 : Aw.callable Tryz.prog 51 = true := by kernel_rfl
@[simp] theorem Tryz.cal52 : Aw.callable Tryz.prog 52 = true := by kernel_rfl
@[simp] theorem Tryz.cal53 : Aw.callable Tryz.prog 53 = true := by kernel_rfl
@[simp] theorem Tryz.cal54 : Aw.callable Tryz.prog 54 = true := by kernel_rfl
@[simp] theorem Tryz.cal55 : Aw.callable Tryz.prog 55 = true := by kernel_rfl
@[simp] theorem Tryz.cal56 : Aw.callable Tryz.prog 56 = true := by kernel_rfl
@[simp] theorem Tryz.cal57 : Aw.callable Tryz.prog 57 = true := by kernel_rfl
@[simp] theorem Tryz.cal58 : Aw.callable Tryz.prog 58 = true := by kernel_rfl
@[simp] theorem Tryz.cal59 : Aw.callable Tryz.prog 59 = true := by kernel_rfl
@[simp] theorem Tryz.cal60 : Aw.callable Tryz.prog 60 = true := by kernel_rfl
@[simp] theorem Tryz.cal61 : Aw.callable Tryz.prog 61 = true := by kernel_rfl
@[simp] theorem Tryz.cal62 : Aw.callable Tryz.prog 62 = true := by kernel_rfl
@[simp] theorem Tryz.cal63 : Aw.callable Tryz.prog 63 = true := by kernel_rfl
@[simp] theorem Tryz.cal64 : Aw.callable Tryz.prog 64 = true := by kernel_rfl
@[simp] theorem Tryz.cal65 : Aw.callable Tryz.prog 65 = true := by kernel_rfl
@[simp] theorem Tryz.cal66 : Aw.callable Tryz.prog 66 = true := by kernel_rfl
@[simp] theorem Tryz.cal67 : Aw.callable Tryz.prog 67 = true := by kernel_rfl
@[simp] theorem Tryz.cal68 : Aw.callable Tryz.prog 68 = true := by kernel_rfl
@[simp] theorem Tryz.cal69 : Aw.callable Tryz.prog 69 = true := by kernel_rfl
@[simp] theorem Tryz.cal70 : Aw.callable Tryz.prog 70 = true := by kernel_rfl
@[simp] theorem Tryz.cal71 : Aw.callable Tryz.prog 71 = true := by kernel_rfl
@[simp] theorem Tryz.cal72 : Aw.callable Tryz.prog 72 = true := by kernel_rfl
@[simp] theorem Tryz.cal73 : Aw.callable Tryz.prog 73 = true := by kernel_rfl
@[simp] theorem Tryz.cal74 : Aw.callable Tryz.prog 74 = true := by kernel_rfl
@[simp] theorem Tryz.cal75 : Aw.callable Tryz.prog 75 = true := by kernel_rfl
@[simp] theorem Tryz.cal76 : Aw.callable Tryz.prog 76 = true := by kernel_rfl
@[simp] theorem Tryz.cal77 : Aw.callable Tryz.prog 77 = true := by kernel_rfl
@[simp] theorem Tryz.cal78 : Aw.callable Tryz.prog 78 = true := by kernel_rfl
@[simp] theorem Tryz.cal79 : Aw.callable Tryz.prog 79 = true := by kernel_rfl
@[simp] theorem Tryz.cal80 : Aw.callable Tryz.prog 80 = true := by kernel_rfl
@[simp] theorem Tryz.cal81 : Aw.callable Tryz.prog 81 = true := by kernel_rfl
@[simp] theorem Tryz.cal82 : Aw.callable Tryz.prog 82 = true := by kernel_rfl
@[simp] theorem Tryz.cal83 : Aw.callable Tryz.prog 83 = true := by kernel_rfl
@[simp] theorem Tryz.cal84 : Aw.callable Tryz.prog 84 = true := by kernel_rfl
@[simp] theorem Tryz.cal85 : Aw.callable Tryz.prog 85 = true := by kernel_rfl
@[simp] theorem Tryz.cal86 : Aw.callable Tryz.prog 86 = true := by kernel_rfl
@[simp] theorem Tryz.cal87 : Aw.callable Tryz.prog 87 = true := by kernel_rfl
@[simp] theorem Tryz.cal88 : Aw.callable Tryz.prog 88 = true := by kernel_rfl
@[simp] theorem Tryz.cal89 : Aw.callable Tryz.prog 89 = true := by kernel_rfl
@[simp] theorem Tryz.cal90 : Aw.callable Tryz.prog 90 = true := by kernel_rfl
@[simp] theorem Tryz.cal91 : Aw.callable Tryz.prog 91 = true := by kernel_rfl
@[simp] theorem Tryz.cal92 : Aw.callable Tryz.prog 92 = true := by kernel_rfl
@[simp] theorem Tryz.cal93 : Aw.callable Tryz.prog 93 = true := by kernel_rfl
@[simp] theorem Tryz.cal94 : Aw.callable Tryz.prog 94 = true := by kernel_rfl
@[simp] theorem Tryz.cal95 : Aw.callable Tryz.prog 95 = true := by kernel_rfl
@[simp] theorem Tryz.cal96 : Aw.callable Tryz.prog 96 = true := by kernel_rfl
@[simp] theorem Tryz.cal97 : Aw.callable Tryz.prog 97 = true := by kernel_rfl
@[simp] theorem Tryz.cal98 : Aw.callable Tryz.prog 98 = true := by kernel_rfl
@[simp] theorem Tryz.cal99 : Aw.callable Tryz.prog 99 = true := by kernel_rfl
@[simp] theorem Tryz.cal100 : Aw.callable Tryz.prog 100 = true := by kernel_rfl
@[simp] theorem Tryz.cal101 : Aw.callable Tryz.prog 101 = true := by kernel_rfl
@[simp] theorem Tryz.cal102 : Aw.callable Tryz.prog 102 = true := by kernel_rfl
@[simp] theorem Tryz.cal103 : Aw.callable Tryz.prog 103 = true := by kernel_rfl
@[simp] theorem Tryz.cal104 : Aw.callable Tryz.prog 104 = true := by kernel_rfl
@[simp] theorem Tryz.cal105 : Aw.callable Tryz.prog 105 = true := by kernel_rfl
@[simp] theorem Tryz.cal106 : Aw.callable Tryz.prog 106 = true := by kernel_rfl
@[simp] theorem Tryz.cal107 : Aw.callable Tryz.prog 107 = true := by kernel_rfl
@[simp] theorem Tryz.cal108 : Aw.callable Tryz.prog 108 = true := by kernel_rfl
@[simp] theorem Tryz.cal109 : Aw.callable Tryz.prog 109 = true := by kernel_rfl
@[simp] theorem Tryz.cal110 : Aw.callable Tryz.prog 110 = true := by kernel_rfl
@[simp] theorem Tryz.cal111 : Aw.callable Tryz.prog 111 = true := by kernel_rfl
@[simp] theorem Tryz.cal112 : Aw.callable Tryz.prog 112 = true := by kernel_rfl
@[simp] theorem Tryz.cal113 : Aw.callable Tryz.prog 113 = true := by kernel_rfl
@[simp] theorem Tryz.cal114 : Aw.callable Tryz.prog 114 = true := by kernel_rfl
@[simp] theorem Tryz.cal115 : Aw.callable Tryz.prog 115 = true := by kernel_rfl
@[simp] theorem Tryz.cal116 : Aw.callable Tryz.prog 116 = true := by kernel_rfl
@[simp] theorem Tryz.cal117 : Aw.callable Tryz.prog 117 = true := by kernel_rfl
@[simp] theorem Tryz.cal118 : Aw.callable Tryz.prog 118 = true := by kernel_rfl
@[simp] theorem Tryz.cal119 : Aw.callable Tryz.prog 119 = true := by kernel_rfl
@[simp] theorem Tryz.cal120 : Aw.callable Tryz.prog 120 = true := by kernel_rfl
@[simp] theorem Tryz.cal121 : Aw.callable Tryz.prog 121 = true := by kernel_rfl
@[simp] theorem Tryz.cal122 : Aw.callable Tryz.prog 122 = true := by kernel_rfl
@[simp] theorem Tryz.cal123 : Aw.callable Tryz.prog 123 = true := by kernel_rfl
@[simp] theorem Tryz.cal124 : Aw.callable Tryz.prog 124 = true := by kernel_rfl
@[simp] theorem Tryz.cal125 : Aw.callable Tryz.prog 125 = true := by kernel_rfl
@[simp] theorem Tryz.cal126 : Aw.callable Tryz.prog 126 = true := by kernel_rfl
@[simp] theorem Tryz.cal127 : Aw.callable Tryz.prog 127 = true := by kernel_rfl
@[simp] theorem Tryz.cal128 : Aw.callable Tryz.prog 128 = true := by kernel_rfl
@[simp] theorem Tryz.cal129 : Aw.callable Tryz.prog 129 = true := by kernel_rfl
@[simp] theorem Tryz.cal130 : Aw.callable Tryz.prog 130 = true := by kernel_rfl
@[simp] theorem Tryz.cal131 : Aw.callable Tryz.prog 131 = true := by kernel_rfl
@[simp] theorem Tryz.cal132 : Aw.callable Tryz.prog 132 = true := by kernel_rfl
@[simp] theorem Tryz.cal133 : Aw.callable Tryz.prog 133 = true := by kernel_rfl
@[simp] theorem Tryz.cal134 : Aw.callable Tryz.prog 134 = true := by kernel_rfl
@[simp] theorem Tryz.cal135 : Aw.callable Tryz.prog 135 = true := by kernel_rfl
@[simp] theorem Tryz.cal136 : Aw.callable Tryz.prog 136 = true := by kernel_rfl
@[simp] theorem Tryz.cal137 : Aw.callable Tryz.prog 137 = true := by kernel_rfl
@[simp] theorem Tryz.cal138 : Aw.callable Tryz.prog 138 = true := by kernel_rfl
@[simp] theorem Tryz.cal139 : Aw.callable Tryz.prog 139 = true := by kernel_rfl
@[simp] theorem Tryz.cal140 : Aw.callable Tryz.prog 140 = true := by kernel_rfl
@[simp] theorem Tryz.cal141 : Aw.callable Tryz.prog 141 = true := by kernel_rfl
@[simp] theorem Tryz.cal142 : Aw.callable Tryz.prog 142 = true := by kernel_rfl
@[simp] theorem Tryz.cal143 : Aw.callable Tryz.prog 143 = true := by kernel_rfl
@[simp] theorem Tryz.cal144 : Aw.callable Tryz.prog 144 = true := by kernel_rfl
@[simp] theorem Tryz.cal145 : Aw.callable Tryz.prog 145 = true := by kernel_rfl
@[simp] theorem Tryz.cal146 : Aw.callable Tryz.prog 146 = true := by kernel_rfl
@[simp] theorem Tryz.cal147 : Aw.callable Tryz.prog 147 = true := by kernel_rfl
@[simp] theorem Tryz.cal148 : Aw.callable Tryz.prog 148 = true := by kernel_rfl
@[simp] theorem Tryz.cal149 : Aw.callable Tryz.prog 149 = true := by kernel_rfl
@[simp] theorem Tryz.cal150 : Aw.callable Tryz.prog 150 = true := by kernel_rfl
@[simp] theorem Tryz.cal151 : Aw.callable Tryz.prog 151 = true := by kernel_rfl
@[simp] theorem Tryz.cal152 : Aw.callable Tryz.prog 152 = true := by kernel_rfl
@[simp] theorem Tryz.cal153 : Aw.callable Tryz.prog 153 = true := by kernel_rfl
@[simp] theorem Tryz.cal154 : Aw.callable Tryz.prog 154 = true := by kernel_rfl
@[simp] theorem Tryz.cal155 : Aw.callable Tryz.prog 155 = true := by kernel_rfl
@[simp] theorem Tryz.cal156 : Aw.callable Tryz.prog 156 = true := by kernel_rfl
@[simp] theorem Tryz.cal157 : Aw.callable Tryz.prog 157 = true := by kernel_rfl
@[simp] theorem Tryz.cal158 : Aw.callable Tryz.prog 158 = true := by kernel_rfl
@[simp] theorem Tryz.cal159 : Aw.callable Tryz.prog 159 = true := by kernel_rfl
@[simp] theorem Tryz.cal160 : Aw.callable Tryz.prog 160 = true := by kernel_rfl
@[simp] theorem Tryz.cal161 : Aw.callable Tryz.prog 161 = true := by kernel_rfl
@[simp] theorem Tryz.cal162 : Aw.callable Tryz.prog 162 = true := by kernel_rfl
@[simp] theorem Tryz.cal163 : Aw.callable Tryz.prog 163 = true := by kernel_rfl
@[simp] theorem Tryz.cal164 : Aw.callable Tryz.prog 164 = true := by kernel_rfl
@[simp] theorem Tryz.cal165 : Aw.callable Tryz.prog 165 = true := by kernel_rfl
@[simp] theorem Tryz.cal166 : Aw.callable Tryz.prog 166 = true := by kernel_rfl
@[simp] theorem Tryz.cal167 : Aw.callable Tryz.prog 167 = true := by kernel_rfl
@[simp] theorem Tryz.cal168 : Aw.callable Tryz.prog 168 = true := by kernel_rfl
@[simp] theorem Tryz.cal169 : Aw.callable Tryz.prog 169 = true := by kernel_rfl
@[simp] theorem Tryz.cal170 : Aw.callable Tryz.prog 170 = true := by kernel_rfl
@[simp] theorem Tryz.cal171 : Aw.callable Tryz.prog 171 = true := by kernel_rfl
@[simp] theorem Tryz.cal172 : Aw.callable Tryz.prog 172 = true := by kernel_rfl
@[simp] theorem Tryz.cal173 : Aw.callable Tryz.prog 173 = true := by kernel_rfl
@[simp] theorem Tryz.cal174 : Aw.callable Tryz.prog 174 = true := by kernel_rfl
@[simp] theorem Tryz.cal175 : Aw.callable Tryz.prog 175 = true := by kernel_rfl
@[simp] theorem Tryz.cal176 : Aw.callable Tryz.prog 176 = true := by kernel_rfl
@[simp] theorem Tryz.cal177 : Aw.callable Tryz.prog 177 = true := by kernel_rfl
@[simp] theorem Tryz.cal178 : Aw.callable Tryz.prog 178 = true := by kernel_rfl
@[simp] theorem Tryz.cal179 : Aw.callable Tryz.prog 179 = true := by kernel_rfl
@[simp] theorem Tryz.cal180 : Aw.callable Tryz.prog 180 = true := by kernel_rfl
@[simp] theorem Tryz.cal181 : Aw.callable Tryz.prog 181 = true := by kernel_rfl
@[simp] theorem Tryz.cal182 : Aw.callable Tryz.prog 182 = true := by kernel_rfl
@[simp] theorem Tryz.cal183 : Aw.callable Tryz.prog 183 = true := by kernel_rfl
@[simp] theorem Tryz.cal184 : Aw.callable Tryz.prog 184 = true := by kernel_rfl
@[simp] theorem Tryz.cal185 : Aw.callable Tryz.prog 185 = true := by kernel_rfl
@[simp] theorem Tryz.cal186 : Aw.callable Tryz.prog 186 = true := by kernel_rfl
@[simp] theorem Tryz.cal187 : Aw.callable Tryz.prog 187 = true := by kernel_rfl
@[simp] theorem Tryz.cal188 : Aw.callable Tryz.prog 188 = true := by kernel_rfl
@[simp] theorem Tryz.cal189 : Aw.callable Tryz.prog 189 = true := by kernel_rfl
@[simp] theorem Tryz.cal190 : Aw.callable Tryz.prog 190 = true := by kernel_rfl
@[simp] theorem Tryz.cal191 : Aw.callable Tryz.prog 191 = true := by kernel_rfl
@[simp] theorem Tryz.cal192 : Aw.callable Tryz.prog 192 = true := by kernel_rfl
@[simp] theorem Tryz.cal193 : Aw.callable Tryz.prog 193 = true := by kernel_rfl
@[simp] theorem Tryz.cal194 : Aw.callable Tryz.prog 194 = true := by kernel_rfl
@[simp] theorem Tryz.cal195 : Aw.callable Tryz.prog 195 = false := by kernel_rfl
@[simp] theorem Tryz.cal196 : Aw.callable Tryz.prog 196 = true := by kernel_rfl
@[simp] theorem Tryz.cal197 : Aw.callable Tryz.prog 197 = true := by kernel_rfl
@[simp] theorem Tryz.cal198 : Aw.callable Tryz.prog 198 = true := by kernel_rfl
@[simp] theorem Tryz.cal199 : Aw.callable Tryz.prog 199 = true := by kernel_rfl
@[simp] theorem Tryz.cal200 : Aw.callable Tryz.prog 200 = true := by kernel_rfl
@[simp] theorem Tryz.cal201 : Aw.callable Tryz.prog 201 = true := by kernel_rfl
@[simp] theorem Tryz.cal202 : Aw.callable Tryz.prog 202 = true := by kernel_rfl
@[simp] theorem Tryz.cal203 : Aw.callable Tryz.prog 203 = true := by kernel_rfl
@[simp] theorem Tryz.cal204 : Aw.callable Tryz.prog 204 = true := by kernel_rfl
@[simp] theorem Tryz.cal205 : Aw.callable Tryz.prog 205 = true := by kernel_rfl
@[simp] theorem Tryz.cal206 : Aw.callable Tryz.prog 206 = true := by kernel_rfl
@[simp] theorem Tryz.cal207 : Aw.callable Tryz.prog 207 = true := by kernel_rfl
@[simp] theorem Tryz.cal208 : Aw.callable Tryz.prog 208 = true := by kernel_rfl
@[simp] theorem Tryz.cal209 : Aw.callable Tryz.prog 209 = true := by kernel_rfl
@[simp] theorem Tryz.cal210 : Aw.callable Tryz.prog 210 = true := by kernel_rfl
@[simp] theorem Tryz.cal211 : Aw.callable Tryz.prog 211 = false := by kernel_rfl
@[simp] theorem Tryz.cal212 : Aw.callable Tryz.prog 212 = true := by kernel_rfl
@[simp] theorem Tryz.cal213 : Aw.callable Tryz.prog 213 = true := by kernel_rfl
@[simp] theorem Tryz.cal214 : Aw.callable Tryz.prog 214 = true := by kernel_rfl
@[simp] theorem Tryz.cal215 : Aw.callable Tryz.prog 215 = true := by kernel_rfl
@[simp] theorem Tryz.cal216 : Aw.callable Tryz.prog 216 = false := by kernel_rfl
@[simp] theorem Tryz.cal217 : Aw.callable Tryz.prog 217 = true := by kernel_rfl
@[simp] theorem Tryz.cal218 : Aw.callable Tryz.prog 218 = true := by kernel_rfl
@[simp] theorem Tryz.cal219 : Aw.callable Tryz.prog 219 = true := by kernel_rfl
@[simp] theorem Tryz.cal220 : Aw.callable Tryz.prog 220 = true := by kernel_rfl
@[simp] theorem Tryz.cal221 : Aw.callable Tryz.prog 221 = true := by kernel_rfl
@[simp] theorem Tryz.cal222 : Aw.callable Tryz.prog 222 = true := by kernel_rfl
@[simp] theorem Tryz.cal223 : Aw.callable Tryz.prog 223 = true := by kernel_rfl
@[simp] theorem Tryz.cal224 : Aw.callable Tryz.prog 224 = true := by kernel_rfl
@[simp] theorem Tryz.cal225 : Aw.callable Tryz.prog 225 = true := by kernel_rfl
@[simp] theorem Tryz.cal226 : Aw.callable Tryz.prog 226 = true := by kernel_rfl
@[simp] theorem Tryz.cal227 : Aw.callable Tryz.prog 227 = true := by kernel_rfl
@[simp] theorem Tryz.cal228 : Aw.callable Tryz.prog 228 = true := by kernel_rfl
@[simp] theorem Tryz.cal229 : Aw.callable Tryz.prog 229 = true := by kernel_rfl
@[simp] theorem Tryz.cal230 : Aw.callable Tryz.prog 230 = false := by kernel_rfl
@[simp] theorem Tryz.cal231 : Aw.callable Tryz.prog 231 = false := by kernel_rfl
@[simp] theorem Tryz.cal232 : Aw.callable Tryz.prog 232 = true := by kernel_rfl
@[simp] theorem Tryz.cal233 : Aw.callable Tryz.prog 233 = true := by kernel_rfl
@[simp] theorem Tryz.cal234 : Aw.callable Tryz.prog 234 = true := by kernel_rfl
@[simp] theorem Tryz.cal235 : Aw.callable Tryz.prog 235 = true := by kernel_rfl
@[simp] theorem Tryz.cal236 : Aw.callable Tryz.prog 236 = true := by kernel_rfl
@[simp] theorem Tryz.cal237 : Aw.callable Tryz.prog 237 = true := by kernel_rfl
@[simp] theorem Tryz.cal238 : Aw.callable Tryz.prog 238 = true := by kernel_rfl
@[simp] theorem Tryz.cal239 : Aw.callable Tryz.prog 239 = true := by kernel_rfl
@[simp] theorem Tryz.cal240 : Aw.callable Tryz.prog 240 = true := by kernel_rfl
@[simp] theorem Tryz.cal241 : Aw.callable Tryz.prog 241 = true := by kernel_rfl
@[simp] theorem Tryz.cal242 : Aw.callable Tryz.prog 242 = true := by kernel_rfl
@[simp] theorem Tryz.cal243 : Aw.callable Tryz.prog 243 = true := by kernel_rfl
@[simp] theorem Tryz.cal244 : Aw.callable Tryz.prog 244 = true := by kernel_rfl
@[simp] theorem Tryz.cal245 : Aw.callable Tryz.prog 245 = true := by kernel_rfl
@[simp] theorem Tryz.cal246 : Aw.callable Tryz.prog 246 = true := by kernel_rfl
@[simp] theorem Tryz.cal247 : Aw.callable Tryz.prog 247 = true := by kernel_rfl
@[simp] theorem Tryz.cal248 : Aw.callable Tryz.prog 248 = true := by kernel_rfl
@[simp] theorem Tryz.cal249 : Aw.callable Tryz.prog 249 = true := by kernel_rfl
end Go.Proofs.YtkjhhcgnfppdiaaGreatDoor
