/-
  Proved here: closed facts of the translated program: types, their sizes, results.
  No condition beyond what each statement spells out.
-/
import Derived.Test.YtkjhhcgnfppdiaaDoorProg
import Derived.Test.YtkjhhcgnfppdiaaDoorF3
import Derived.KernelRfl
set_option linter.all false
/-
  Closed facts on the translation: sizes, fields and zero values of its types; that its functions have bodies. Written by a program of ours.
-/
namespace Go.Proofs.YtkjhhcgnfppdiaaDoor
@[simp] theorem Tryd.agg2 : Aw.aggSize Tryd.prog 2 = none := by kernel_rfl
@[simp] theorem Tryd.one2 : Aw.oneSize Tryd.prog 2 = true := by kernel_rfl
@[simp] theorem Tryd.siz2 : Aw.sizeA Tryd.prog 2 = some 1 := by kernel_rfl
@[simp] theorem Tryd.zer2 : Aw.zeroA Tryd.prog 2 = some [.int .i64 0] := by kernel_rfl
@[simp] theorem Tryd.zsz2 : Aw.zeroSz Tryd.prog 2 1 = true := by kernel_rfl
@[simp] theorem Tryd.int2 : Aw.intType Tryd.prog 2 = some .i64 := by kernel_rfl
@[simp] theorem Tryd.som2 : (Tryd.prog.underlying 2).isSome = true := by kernel_rfl
@[simp] theorem Tryd.agg3 : Aw.aggSize Tryd.prog 3 = none := by kernel_rfl
@[simp] theorem Tryd.one3 : Aw.oneSize Tryd.prog 3 = true := by kernel_rfl
@[simp] theorem Tryd.siz3 : Aw.sizeA Tryd.prog 3 = some 1 := by kernel_rfl
@[simp] theorem Tryd.zer3 : Aw.zeroA Tryd.prog 3 = some [.int .i64 0] := by kernel_rfl
@[simp] theorem Tryd.zsz3 : Aw.zeroSz Tryd.prog 3 1 = true := by kernel_rfl
@[simp] theorem Tryd.int3 : Aw.intType Tryd.prog 3 = some .i64 := by kernel_rfl
@[simp] theorem Tryd.som3 : (Tryd.prog.underlying 3).isSome = true := by kernel_rfl
@[simp] theorem Tryd.agg4 : Aw.aggSize Tryd.prog 4 = none := by kernel_rfl
@[simp] theorem Tryd.one4 : Aw.oneSize Tryd.prog 4 = true := by kernel_rfl
@[simp] theorem Tryd.siz4 : Aw.sizeA Tryd.prog 4 = some 1 := by kernel_rfl
@[simp] theorem Tryd.zer4 : Aw.zeroA Tryd.prog 4 = some [.bool false] := by kernel_rfl
@[simp] theorem Tryd.zsz4 : Aw.zeroSz Tryd.prog 4 1 = true := by kernel_rfl
@[simp] theorem Tryd.bol4 : Aw.boolType Tryd.prog 4 = true := by kernel_rfl
@[simp] theorem Tryd.agg5 : Aw.aggSize Tryd.prog 5 = none := by kernel_rfl
@[simp] theorem Tryd.one5 : Aw.oneSize Tryd.prog 5 = true := by kernel_rfl
@[simp] theorem Tryd.siz5 : Aw.sizeA Tryd.prog 5 = some 1 := by kernel_rfl
@[simp] theorem Tryd.zer5 : Aw.zeroA Tryd.prog 5 = some [.int .u8 0] := by kernel_rfl
@[simp] theorem Tryd.zsz5 : Aw.zeroSz Tryd.prog 5 1 = true := by kernel_rfl
@[simp] theorem Tryd.int5 : Aw.intType Tryd.prog 5 = some .u8 := by kernel_rfl
@[simp] theorem Tryd.som5 : (Tryd.prog.underlying 5).isSome = true := by kernel_rfl
@[simp] theorem Tryd.agg9 : Aw.aggSize Tryd.prog 9 = none := by kernel_rfl
@[simp] theorem Tryd.one9 : Aw.oneSize Tryd.prog 9 = true := by kernel_rfl
@[simp] theorem Tryd.siz9 : Aw.sizeA Tryd.prog 9 = some 1 := by kernel_rfl
@[simp] theorem Tryd.zer9 : Aw.zeroA Tryd.prog 9 = some [.str []] := by kernel_rfl
@[simp] theorem Tryd.zsz9 : Aw.zeroSz Tryd.prog 9 1 = true := by kernel_rfl
@[simp] theorem Tryd.iss9 : Aw.isString Tryd.prog 9 = true := by kernel_rfl
@[simp] theorem Tryd.apd9 : Aw.appendable Tryd.prog 9 = true := by kernel_rfl
@[simp] theorem Tryd.agg12 : Aw.aggSize Tryd.prog 12 = none := by kernel_rfl
@[simp] theorem Tryd.one12 : Aw.oneSize Tryd.prog 12 = true := by kernel_rfl
@[simp] theorem Tryd.siz12 : Aw.sizeA Tryd.prog 12 = some 1 := by kernel_rfl
@[simp] theorem Tryd.zer12 : Aw.zeroA Tryd.prog 12 = some [.int .u64 0] := by kernel_rfl
@[simp] theorem Tryd.zsz12 : Aw.zeroSz Tryd.prog 12 1 = true := by kernel_rfl
@[simp] theorem Tryd.int12 : Aw.intType Tryd.prog 12 = some .u64 := by kernel_rfl
@[simp] theorem Tryd.som12 : (Tryd.prog.underlying 12).isSome = true := by kernel_rfl
@[simp] theorem Tryd.agg21 : Aw.aggSize Tryd.prog 21 = none := by kernel_rfl
@[simp] theorem Tryd.one21 : Aw.oneSize Tryd.prog 21 = true := by kernel_rfl
@[simp] theorem Tryd.siz21 : Aw.sizeA Tryd.prog 21 = some 1 := by kernel_rfl
@[simp] theorem Tryd.zer21 : Aw.zeroA Tryd.prog 21 = some [.int .i32 0] := by kernel_rfl
@[simp] theorem Tryd.zsz21 : Aw.zeroSz Tryd.prog 21 1 = true := by kernel_rfl
@[simp] theorem Tryd.int21 : Aw.intType Tryd.prog 21 = some .i32 := by kernel_rfl
@[simp] theorem Tryd.som21 : (Tryd.prog.underlying 21).isSome = true := by kernel_rfl
@[simp] theorem Tryd.agg22 : Aw.aggSize Tryd.prog 22 = none := by kernel_rfl
@[simp] theorem Tryd.one22 : Aw.oneSize Tryd.prog 22 = true := by kernel_rfl
@[simp] theorem Tryd.siz22 : Aw.sizeA Tryd.prog 22 = some 1 := by kernel_rfl
@[simp] theorem Tryd.zer22 : Aw.zeroA Tryd.prog 22 = some [.sl .own 2 []] := by kernel_rfl
@[simp] theorem Tryd.zsz22 : Aw.zeroSz Tryd.prog 22 1 = true := by kernel_rfl
@[simp] theorem Tryd.elm22 : Aw.elemA Tryd.prog 22 = some (37, 2, 32) := by kernel_rfl
@[simp] theorem Tryd.isl22 : Aw.isSlice Tryd.prog 22 = true := by kernel_rfl
@[simp] theorem Tryd.apd22 : Aw.appendable Tryd.prog 22 = true := by kernel_rfl
@[simp] theorem Tryd.agg23 : Aw.aggSize Tryd.prog 23 = none := by kernel_rfl
@[simp] theorem Tryd.one23 : Aw.oneSize Tryd.prog 23 = true := by kernel_rfl
@[simp] theorem Tryd.siz23 : Aw.sizeA Tryd.prog 23 = some 1 := by kernel_rfl
@[simp] theorem Tryd.zer23 : Aw.zeroA Tryd.prog 23 = some [.sl .own 2 []] := by kernel_rfl
@[simp] theorem Tryd.zsz23 : Aw.zeroSz Tryd.prog 23 1 = true := by kernel_rfl
@[simp] theorem Tryd.elm23 : Aw.elemA Tryd.prog 23 = some (51, 2, 24) := by kernel_rfl
@[simp] theorem Tryd.isl23 : Aw.isSlice Tryd.prog 23 = true := by kernel_rfl
@[simp] theorem Tryd.apd23 : Aw.appendable Tryd.prog 23 = true := by kernel_rfl
@[simp] theorem Tryd.agg31 : Aw.aggSize Tryd.prog 31 = none := by kernel_rfl
@[simp] theorem Tryd.one31 : Aw.oneSize Tryd.prog 31 = true := by kernel_rfl
@[simp] theorem Tryd.siz31 : Aw.sizeA Tryd.prog 31 = some 1 := by kernel_rfl
@[simp] theorem Tryd.zer31 : Aw.zeroA Tryd.prog 31 = some [.sl .own 5 []] := by kernel_rfl
@[simp] theorem Tryd.zsz31 : Aw.zeroSz Tryd.prog 31 1 = true := by kernel_rfl
@[simp] theorem Tryd.elm31 : Aw.elemA Tryd.prog 31 = some (58, 5, 72) := by kernel_rfl
@[simp] theorem Tryd.isl31 : Aw.isSlice Tryd.prog 31 = true := by kernel_rfl
@[simp] theorem Tryd.apd31 : Aw.appendable Tryd.prog 31 = true := by kernel_rfl
@[simp] theorem Tryd.agg37 : Aw.aggSize Tryd.prog 37 = some 2 := by kernel_rfl
@[simp] theorem Tryd.siz37 : Aw.sizeA Tryd.prog 37 = some 2 := by kernel_rfl
@[simp] theorem Tryd.zer37 : Aw.zeroA Tryd.prog 37 = some [.str [], .str []] := by kernel_rfl
@[simp] theorem Tryd.zsz37 : Aw.zeroSz Tryd.prog 37 2 = true := by kernel_rfl
@[simp] theorem Tryd.fld37_0 : Aw.fieldA Tryd.prog 37 0 = some 0 := by kernel_rfl
@[simp] theorem Tryd.fld37_1 : Aw.fieldA Tryd.prog 37 1 = some 1 := by kernel_rfl
@[simp] theorem Tryd.plc37 : Aw.placesA Tryd.prog 37 = some [(0, 1), (1, 1)] := by kernel_rfl
@[simp] theorem Tryd.agg43 : Aw.aggSize Tryd.prog 43 = none := by kernel_rfl
@[simp] theorem Tryd.one43 : Aw.oneSize Tryd.prog 43 = true := by kernel_rfl
@[simp] theorem Tryd.siz43 : Aw.sizeA Tryd.prog 43 = some 1 := by kernel_rfl
@[simp] theorem Tryd.zer43 : Aw.zeroA Tryd.prog 43 = some [.sl .own 1 []] := by kernel_rfl
@[simp] theorem Tryd.zsz43 : Aw.zeroSz Tryd.prog 43 1 = true := by kernel_rfl
@[simp] theorem Tryd.elm43 : Aw.elemA Tryd.prog 43 = some (9, 1, 16) := by kernel_rfl
@[simp] theorem Tryd.isl43 : Aw.isSlice Tryd.prog 43 = true := by kernel_rfl
@[simp] theorem Tryd.apd43 : Aw.appendable Tryd.prog 43 = true := by kernel_rfl
@[simp] theorem Tryd.agg51 : Aw.aggSize Tryd.prog 51 = some 2 := by kernel_rfl
@[simp] theorem Tryd.siz51 : Aw.sizeA Tryd.prog 51 = some 2 := by kernel_rfl
@[simp] theorem Tryd.zer51 : Aw.zeroA Tryd.prog 51 = some [.int .i64 0, .str []] := by kernel_rfl
@[simp] theorem Tryd.zsz51 : Aw.zeroSz Tryd.prog 51 2 = true := by kernel_rfl
@[simp] theorem Tryd.fld51_0 : Aw.fieldA Tryd.prog 51 0 = some 0 := by kernel_rfl
@[simp] theorem Tryd.fld51_1 : Aw.fieldA Tryd.prog 51 1 = some 1 := by kernel_rfl
@[simp] theorem Tryd.plc51 : Aw.placesA Tryd.prog 51 = some [(0, 1), (1, 1)] := by kernel_rfl
@[simp] theorem Tryd.agg54 : Aw.aggSize Tryd.prog 54 = none := by kernel_rfl
@[simp] theorem Tryd.one54 : Aw.oneSize Tryd.prog 54 = true := by kernel_rfl
@[simp] theorem Tryd.siz54 : Aw.sizeA Tryd.prog 54 = some 1 := by kernel_rfl
@[simp] theorem Tryd.zer54 : Aw.zeroA Tryd.prog 54 = some [.sl .own 4 []] := by kernel_rfl
@[simp] theorem Tryd.zsz54 : Aw.zeroSz Tryd.prog 54 1 = true := by kernel_rfl
@[simp] theorem Tryd.elm54 : Aw.elemA Tryd.prog 54 = some (80, 4, 64) := by kernel_rfl
@[simp] theorem Tryd.isl54 : Aw.isSlice Tryd.prog 54 = true := by kernel_rfl
@[simp] theorem Tryd.apd54 : Aw.appendable Tryd.prog 54 = true := by kernel_rfl
@[simp] theorem Tryd.agg58 : Aw.aggSize Tryd.prog 58 = some 5 := by kernel_rfl
@[simp] theorem Tryd.siz58 : Aw.sizeA Tryd.prog 58 = some 5 := by kernel_rfl
@[simp] theorem Tryd.zer58 : Aw.zeroA Tryd.prog 58 = some [.int .i64 0, .str [], .str [], .str [], .str []] := by kernel_rfl
@[simp] theorem Tryd.zsz58 : Aw.zeroSz Tryd.prog 58 5 = true := by kernel_rfl
@[simp] theorem Tryd.fld58_0 : Aw.fieldA Tryd.prog 58 0 = some 0 := by kernel_rfl
@[simp] theorem Tryd.fld58_1 : Aw.fieldA Tryd.prog 58 1 = some 1 := by kernel_rfl
@[simp] theorem Tryd.fld58_2 : Aw.fieldA Tryd.prog 58 2 = some 3 := by kernel_rfl
@[simp] theorem Tryd.fld58_3 : Aw.fieldA Tryd.prog 58 3 = some 4 := by kernel_rfl
@[simp] theorem Tryd.plc58 : Aw.placesA Tryd.prog 58 = some [(0, 1), (1, 2), (3, 1), (4, 1)] := by kernel_rfl
@[simp] theorem Tryd.agg67 : Aw.aggSize Tryd.prog 67 = none := by kernel_rfl
@[simp] theorem Tryd.one67 : Aw.oneSize Tryd.prog 67 = true := by kernel_rfl
@[simp] theorem Tryd.siz67 : Aw.sizeA Tryd.prog 67 = some 1 := by kernel_rfl
@[simp] theorem Tryd.zer67 : Aw.zeroA Tryd.prog 67 = some [.sl .own 1 []] := by kernel_rfl
@[simp] theorem Tryd.zsz67 : Aw.zeroSz Tryd.prog 67 1 = true := by kernel_rfl
@[simp] theorem Tryd.elm67 : Aw.elemA Tryd.prog 67 = some (5, 1, 1) := by kernel_rfl
@[simp] theorem Tryd.isl67 : Aw.isSlice Tryd.prog 67 = true := by kernel_rfl
@[simp] theorem Tryd.apd67 : Aw.appendable Tryd.prog 67 = true := by kernel_rfl
@[simp] theorem Tryd.agg69 : Aw.aggSize Tryd.prog 69 = some 2 := by kernel_rfl
@[simp] theorem Tryd.siz69 : Aw.sizeA Tryd.prog 69 = some 2 := by kernel_rfl
@[simp] theorem Tryd.zer69 : Aw.zeroA Tryd.prog 69 = some [.undef, .sl .own 1 []] := by kernel_rfl
@[simp] theorem Tryd.zsz69 : Aw.zeroSz Tryd.prog 69 2 = true := by kernel_rfl
@[simp] theorem Tryd.fld69_0 : Aw.fieldA Tryd.prog 69 0 = some 0 := by kernel_rfl
@[simp] theorem Tryd.fld69_1 : Aw.fieldA Tryd.prog 69 1 = some 1 := by kernel_rfl
@[simp] theorem Tryd.agg78 : Aw.aggSize Tryd.prog 78 = none := by kernel_rfl
@[simp] theorem Tryd.one78 : Aw.oneSize Tryd.prog 78 = true := by kernel_rfl
@[simp] theorem Tryd.siz78 : Aw.sizeA Tryd.prog 78 = some 1 := by kernel_rfl
@[simp] theorem Tryd.zer78 : Aw.zeroA Tryd.prog 78 = some [.sl .own 2 []] := by kernel_rfl
@[simp] theorem Tryd.zsz78 : Aw.zeroSz Tryd.prog 78 1 = true := by kernel_rfl
@[simp] theorem Tryd.elm78 : Aw.elemA Tryd.prog 78 = some (102, 2, 32) := by kernel_rfl
@[simp] theorem Tryd.isl78 : Aw.isSlice Tryd.prog 78 = true := by kernel_rfl
@[simp] theorem Tryd.apd78 : Aw.appendable Tryd.prog 78 = true := by kernel_rfl
@[simp] theorem Tryd.agg80 : Aw.aggSize Tryd.prog 80 = some 4 := by kernel_rfl
@[simp] theorem Tryd.siz80 : Aw.sizeA Tryd.prog 80 = some 4 := by kernel_rfl
@[simp] theorem Tryd.zer80 : Aw.zeroA Tryd.prog 80 = some [.int .i64 0, .str [], .sl .own 2 [], .str []] := by kernel_rfl
@[simp] theorem Tryd.zsz80 : Aw.zeroSz Tryd.prog 80 4 = true := by kernel_rfl
@[simp] theorem Tryd.fld80_0 : Aw.fieldA Tryd.prog 80 0 = some 0 := by kernel_rfl
@[simp] theorem Tryd.fld80_1 : Aw.fieldA Tryd.prog 80 1 = some 1 := by kernel_rfl
@[simp] theorem Tryd.fld80_2 : Aw.fieldA Tryd.prog 80 2 = some 2 := by kernel_rfl
@[simp] theorem Tryd.fld80_3 : Aw.fieldA Tryd.prog 80 3 = some 3 := by kernel_rfl
@[simp] theorem Tryd.plc80 : Aw.placesA Tryd.prog 80 = some [(0, 1), (1, 1), (2, 1), (3, 1)] := by kernel_rfl
@[simp] theorem Tryd.agg82 : Aw.aggSize Tryd.prog 82 = some 1 := by kernel_rfl
@[simp] theorem Tryd.siz82 : Aw.sizeA Tryd.prog 82 = some 1 := by kernel_rfl
@[simp] theorem Tryd.zer82 : Aw.zeroA Tryd.prog 82 = some [.str []] := by kernel_rfl
@[simp] theorem Tryd.zsz82 : Aw.zeroSz Tryd.prog 82 1 = true := by kernel_rfl
@[simp] theorem Tryd.fld82_0 : Aw.fieldA Tryd.prog 82 0 = some 0 := by kernel_rfl
@[simp] theorem Tryd.plc82 : Aw.placesA Tryd.prog 82 = some [(0, 1)] := by kernel_rfl
@[simp] theorem Tryd.agg102 : Aw.aggSize Tryd.prog 102 = some 2 := by kernel_rfl
@[simp] theorem Tryd.siz102 : Aw.sizeA Tryd.prog 102 = some 2 := by kernel_rfl
@[simp] theorem Tryd.zer102 : Aw.zeroA Tryd.prog 102 = some [.str [], .str []] := by kernel_rfl
@[simp] theorem Tryd.zsz102 : Aw.zeroSz Tryd.prog 102 2 = true := by kernel_rfl
@[simp] theorem Tryd.fld102_0 : Aw.fieldA Tryd.prog 102 0 = some 0 := by kernel_rfl
@[simp] theorem Tryd.fld102_1 : Aw.fieldA Tryd.prog 102 1 = some 1 := by kernel_rfl
@[simp] theorem Tryd.plc102 : Aw.placesA Tryd.prog 102 = some [(0, 1), (1, 1)] := by kernel_rfl
@[simp] theorem Tryd.agg106 : Aw.aggSize Tryd.prog 106 = none := by kernel_rfl
@[simp] theorem Tryd.one106 : Aw.oneSize Tryd.prog 106 = true := by kernel_rfl
@[simp] theorem Tryd.siz106 : Aw.sizeA Tryd.prog 106 = some 1 := by kernel_rfl
@[simp] theorem Tryd.zer106 : Aw.zeroA Tryd.prog 106 = some [.int .u64 0] := by kernel_rfl
@[simp] theorem Tryd.zsz106 : Aw.zeroSz Tryd.prog 106 1 = true := by kernel_rfl
@[simp] theorem Tryd.int106 : Aw.intType Tryd.prog 106 = some .u64 := by kernel_rfl
@[simp] theorem Tryd.som106 : (Tryd.prog.underlying 106).isSome = true := by kernel_rfl
@[simp] theorem Tryd.agg109 : Aw.aggSize Tryd.prog 109 = some 2 := by kernel_rfl
@[simp] theorem Tryd.siz109 : Aw.sizeA Tryd.prog 109 = some 2 := by kernel_rfl
@[simp] theorem Tryd.zer109 : Aw.zeroA Tryd.prog 109 = some [.int .u8 0, .int .u8 0] := by kernel_rfl
@[simp] theorem Tryd.zsz109 : Aw.zeroSz Tryd.prog 109 2 = true := by kernel_rfl
@[simp] theorem Tryd.fld109_0 : Aw.fieldA Tryd.prog 109 0 = some 0 := by kernel_rfl
@[simp] theorem Tryd.fld109_1 : Aw.fieldA Tryd.prog 109 1 = some 1 := by kernel_rfl
@[simp] theorem Tryd.plc109 : Aw.placesA Tryd.prog 109 = some [(0, 1), (1, 1)] := by kernel_rfl
@[simp] theorem Tryd.agg111 : Aw.aggSize Tryd.prog 111 = none := by kernel_rfl
@[simp] theorem Tryd.one111 : Aw.oneSize Tryd.prog 111 = true := by kernel_rfl
@[simp] theorem Tryd.siz111 : Aw.sizeA Tryd.prog 111 = some 1 := by kernel_rfl
@[simp] theorem Tryd.zer111 : Aw.zeroA Tryd.prog 111 = some [.int .u32 0] := by kernel_rfl
@[simp] theorem Tryd.zsz111 : Aw.zeroSz Tryd.prog 111 1 = true := by kernel_rfl
@[simp] theorem Tryd.int111 : Aw.intType Tryd.prog 111 = some .u32 := by kernel_rfl
@[simp] theorem Tryd.som111 : (Tryd.prog.underlying 111).isSome = true := by kernel_rfl
@[simp] theorem Tryd.cal3 : Aw.callable Tryd.prog 3 = true := by kernel_rfl
@[simp] theorem Tryd.cal4 : Aw.callable Tryd.prog 4 = true := by kernel_rfl
@[simp] theorem Tryd.cal5 : Aw.callable Tryd.prog 5 = true := by kernel_rfl
@[simp] theorem Tryd.cal6 : Aw.callable Tryd.prog 6 = true := by kernel_rfl
@[simp] theorem Tryd.cal7 : Aw.callable Tryd.prog 7 = true := by kernel_rfl
@[simp] theorem Tryd.cal8 : Aw.callable Tryd.prog 8 = true := by kernel_rfl
@[simp] theorem Tryd.cal9 : Aw.callable Tryd.prog 9 = true := by kernel_rfl
@[simp] theorem Tryd.cal10 : Aw.callable Tryd.prog 10 = true := by kernel_rfl
@[simp] theorem Tryd.cal11 : Aw.callable Tryd.prog 11 = true := by kernel_rfl
@[simp] theorem Tryd.cal12 : Aw.callable Tryd.prog 12 = true := by kernel_rfl
@[simp] theorem Tryd.cal13 : Aw.callable Tryd.prog 13 = true := by kernel_rfl
@[simp] theorem Tryd.cal14 : Aw.callable Tryd.prog 14 = true := by kernel_rfl
@[simp] theorem Tryd.cal15 : Aw.callable Tryd.prog 15 = true := by kernel_rfl
@[simp] theorem Tryd.cal16 : Aw.callable Tryd.prog 16 = true := by kernel_rfl
@[simp] theorem Tryd.cal17 : Aw.callable Tryd.prog 17 = true := by kernel_rfl
@[simp] theorem Tryd.cal18 : Aw.callable Tryd.prog 18 = true := by kernel_rfl
@[simp] theorem Tryd.cal19 : Aw.callable Tryd.prog 19 = true := by kernel_rfl
@[simp] theorem Tryd.cal20 : Aw.callable Tryd.prog 20 = true := by kernel_rfl
@[simp] theorem Tryd.cal21 : Aw.callable Tryd.prog 21 = true := by kernel_rfl
@[simp] theorem Tryd.cal22 : Aw.callable Tryd.prog 22 = true := by kernel_rfl
@[simp] theorem Tryd.cal23 : Aw.callable Tryd.prog 23 = true := by kernel_rfl
@[simp] theorem Tryd.cal24 : Aw.callable Tryd.prog 24 = true := by kernel_rfl
@[simp] theorem Tryd.cal25 : Aw.callable Tryd.prog 25 = true := by kernel_rfl
@[simp] theorem Tryd.cal26 : Aw.callable Tryd.prog 26 = true := by kernel_rfl
@[simp] theorem Tryd.cal27 : Aw.callable Tryd.prog 27 = true := by kernel_rfl
@[simp] theorem Tryd.cal28 : Aw.callable Tryd.prog 28 = true := by kernel_rfl
@[simp] theorem Tryd.cal29 : Aw.callable Tryd.prog 29 = true := by kernel_rfl
@[simp] theorem Tryd.cal30 : Aw.callable Tryd.prog 30 = true := by kernel_rfl
@[simp] theorem Tryd.cal31 : Aw.callable Tryd.prog 31 = true := by kernel_rfl
@[simp] theorem Tryd.cal32 : Aw.callable Tryd.prog 32 = true := by kernel_rfl
@[simp] theorem Tryd.cal33 : Aw.callable Tryd.prog 33 = true := by kernel_rfl
@[simp] theorem Tryd.cal34 : Aw.callable Tryd.prog 34 = true := by kernel_rfl
@[simp] theorem Tryd.cal35 : Aw.callable Tryd.prog 35 = true := by kernel_rfl
@[simp] theorem Tryd.cal36 : Aw.callable Tryd.prog 36 = true := by kernel_rfl
@[simp] theorem Tryd.cal37 : Aw.callable Tryd.prog 37 = true := by kernel_rfl
@[simp] theorem Tryd.cal38 : Aw.callable Tryd.prog 38 = true := by kernel_rfl
@[simp] theorem Tryd.cal39 : Aw.callable Tryd.prog 39 = true := by kernel_rfl
@[simp] theorem Tryd.cal40 : Aw.callable Tryd.prog 40 = true := by kernel_rfl
@[simp] theorem Tryd.cal41 : Aw.callable Tryd.prog 41 = true := by kernel_rfl
@[simp] theorem Tryd.cal42 : Aw.callable Tryd.prog 42 = true := by kernel_rfl
@[simp] theorem Tryd.cal43 : Aw.callable Tryd.prog 43 = true := by kernel_rfl
@[simp] theorem Tryd.cal44 : Aw.callable Tryd.prog 44 = true := by kernel_rfl
@[simp] theorem Tryd.cal45 : Aw.callable Tryd.prog 45 = true := by kernel_rfl
@[simp] theorem Tryd.cal46 : Aw.callable Tryd.prog 46 = true := by kernel_rfl
@[simp] theorem Tryd.cal47 : Aw.callable Tryd.prog 47 = true := by kernel_rfl
@[simp] theorem Tryd.cal48 : Aw.callable Tryd.prog 48 = true := by kernel_rfl
@[simp] theorem Tryd.cal49 : Aw.callable Tryd.prog 49 = true := by kernel_rfl
@[simp] theorem Tryd.cal50 : Aw.callable Tryd.prog 50 = true := by kernel_rfl
@[simp] theorem Tryd.cal51 : Aw.callable Tryd.prog 51 = true := by kernel_rfl
@[simp] theorem Tryd.cal52 : Aw.callable Tryd.prog 52 = true := by kernel_rfl
@[simp] theorem Tryd.cal53 : Aw.callable Tryd.prog 53 = true := by kernel_rfl
@[simp] theorem Tryd.cal54 : Aw.callable Tryd.prog 54 = true := by kernel_rfl
@[simp] theorem Tryd.cal55 : Aw.callable Tryd.prog 55 = true := by kernel_rfl
@[simp] theorem Tryd.cal56 : Aw.callable Tryd.prog 56 = true := by kernel_rfl
@[simp] theorem Tryd.cal57 : Aw.callable Tryd.prog 57 = true := by kernel_rfl
@[simp] theorem Tryd.cal58 : Aw.callable Tryd.prog 58 = true := by kernel_rfl
@[simp] theorem Tryd.cal59 : Aw.callable Tryd.prog 59 = true := by kernel_rfl
@[simp] theorem Tryd.cal60 : Aw.callable Tryd.prog 60 = true := by kernel_rfl
@[simp] theorem Tryd.cal61 : Aw.callable Tryd.prog 61 = true := by kernel_rfl
@[simp] theorem Tryd.cal62 : Aw.callable Tryd.prog 62 = true := by kernel_rfl
@[simp] theorem Tryd.cal63 : Aw.callable Tryd.prog 63 = true := by kernel_rfl
@[simp] theorem Tryd.cal64 : Aw.callable Tryd.prog 64 = true := by kernel_rfl
@[simp] theorem Tryd.cal65 : Aw.callable Tryd.prog 65 = true := by kernel_rfl
@[simp] theorem Tryd.cal66 : Aw.callable Tryd.prog 66 = true := by kernel_rfl
@[simp] theorem Tryd.cal67 : Aw.callable Tryd.prog 67 = true := by kernel_rfl
@[simp] theorem Tryd.cal68 : Aw.callable Tryd.prog 68 = true := by kernel_rfl
@[simp] theorem Tryd.cal69 : Aw.callable Tryd.prog 69 = true := by kernel_rfl
@[simp] theorem Tryd.cal70 : Aw.callable Tryd.prog 70 = true := by kernel_rfl
@[simp] theorem Tryd.cal71 : Aw.callable Tryd.prog 71 = false := by kernel_rfl
@[simp] theorem Tryd.cal72 : Aw.callable Tryd.prog 72 = true := by kernel_rfl
@[simp] theorem Tryd.cal73 : Aw.callable Tryd.prog 73 = true := by kernel_rfl
@[simp] theorem Tryd.cal74 : Aw.callable Tryd.prog 74 = false := by kernel_rfl
@[simp] theorem Tryd.cal75 : Aw.callable Tryd.prog 75 = false := by kernel_rfl
@[simp] theorem Tryd.cal76 : Aw.callable Tryd.prog 76 = true := by kernel_rfl
@[simp] theorem Tryd.cal77 : Aw.callable Tryd.prog 77 = true := by kernel_rfl
@[simp] theorem Tryd.cal78 : Aw.callable Tryd.prog 78 = true := by kernel_rfl
@[simp] theorem Tryd.cal79 : Aw.callable Tryd.prog 79 = true := by kernel_rfl
@[simp] theorem Tryd.cal80 : Aw.callable Tryd.prog 80 = true := by kernel_rfl
@[simp] theorem Tryd.cal81 : Aw.callable Tryd.prog 81 = true := by kernel_rfl
@[simp] theorem Tryd.cal82 : Aw.callable Tryd.prog 82 = false := by kernel_rfl
@[simp] theorem Tryd.cal83 : Aw.callable Tryd.prog 83 = true := by kernel_rfl
@[simp] theorem Tryd.cal84 : Aw.callable Tryd.prog 84 = true := by kernel_rfl
@[simp] theorem Tryd.cal85 : Aw.callable Tryd.prog 85 = false := by kernel_rfl
@[simp] theorem Tryd.cal86 : Aw.callable Tryd.prog 86 = true := by kernel_rfl
end Go.Proofs.YtkjhhcgnfppdiaaDoor
