/-
  Proved here: closed facts of the translated program: types, their sizes, results.
  No condition beyond what each statement spells out.
-/
import Derived.Test.YtedhenfipalhaaaDoorProg
import Derived.Test.YtedhenfipalhaaaDoorF3
import Derived.KernelRfl
set_option linter.all false
/-
  Closed facts on the translation: sizes, fields and zero values of its types; that its functions have bodies. Written by a program of ours.
-/
namespace Go.Proofs.YtedhenfipalhaaaDoor
@[simp] theorem Tryd.agg2 : Aw.aggSize Tryd.prog 2 = none := by kernel_rfl
@[simp] theorem Tryd.one2 : Aw.oneSize Tryd.prog 2 = true := by kernel_rfl
@[simp] theorem Tryd.siz2 : Aw.sizeA Tryd.prog 2 = some 1 := by kernel_rfl
@[simp] theorem Tryd.zer2 : Aw.zeroA Tryd.prog 2 = some [.int .i64 0] := by kernel_rfl
@[simp] theorem Tryd.zsz2 : Aw.zeroSz Tryd.prog 2 1 = true := by kernel_rfl
@[simp] theorem Tryd.int2 : Aw.intType Tryd.prog 2 = some .i64 := by kernel_rfl
@[simp] theorem Tryd.som2 : (Tryd.prog.underlying 2).isSome = true := by kernel_rfl
@[simp] theorem Tryd.agg3 : Aw.aggSize Tryd.prog 3 = none := by kernel_rfl
@[simp] theorem Tryd.one3 : Aw.oneSize Tryd.prog 3 = true := by kernel_rfl
@[simp] theorem Tryd.siz3 : Aw.sizeA Tryd.prog 3 = some 1 := by kernel_rfl
@[simp] theorem Tryd.zer3 : Aw.zeroA Tryd.prog 3 = some [.int .i64 0] := by kernel_rfl
@[simp] theorem Tryd.zsz3 : Aw.zeroSz Tryd.prog 3 1 = true := by kernel_rfl
@[simp] theorem Tryd.int3 : Aw.intType Tryd.prog 3 = some .i64 := by kernel_rfl
@[simp] theorem Tryd.som3 : (Tryd.prog.underlying 3).isSome = true := by kernel_rfl
@[simp] theorem Tryd.agg4 : Aw.aggSize Tryd.prog 4 = none := by kernel_rfl
@[simp] theorem Tryd.one4 : Aw.oneSize Tryd.prog 4 = true := by kernel_rfl
@[simp] theorem Tryd.siz4 : Aw.sizeA Tryd.prog 4 = some 1 := by kernel_rfl
@[simp] theorem Tryd.zer4 : Aw.zeroA Tryd.prog 4 = some [.bool false] := by kernel_rfl
@[simp] theorem Tryd.zsz4 : Aw.zeroSz Tryd.prog 4 1 = true := by kernel_rfl
@[simp] theorem Tryd.bol4 : Aw.boolType Tryd.prog 4 = true := by kernel_rfl
@[simp] theorem Tryd.agg5 : Aw.aggSize Tryd.prog 5 = none := by kernel_rfl
@[simp] theorem Tryd.one5 : Aw.oneSize Tryd.prog 5 = true := by kernel_rfl
@[simp] theorem Tryd.siz5 : Aw.sizeA Tryd.prog 5 = some 1 := by kernel_rfl
@[simp] theorem Tryd.zer5 : Aw.zeroA Tryd.prog 5 = some [.int .u8 0] := by kernel_rfl
@[simp] theorem Tryd.zsz5 : Aw.zeroSz Tryd.prog 5 1 = true := by kernel_rfl
@[simp] theorem Tryd.int5 : Aw.intType Tryd.prog 5 = some .u8 := by kernel_rfl
@[simp] theorem Tryd.som5 : (Tryd.prog.underlying 5).isSome = true := by kernel_rfl
@[simp] theorem Tryd.agg9 : Aw.aggSize Tryd.prog 9 = none := by kernel_rfl
@[simp] theorem Tryd.one9 : Aw.oneSize Tryd.prog 9 = true := by kernel_rfl
@[simp] theorem Tryd.siz9 : Aw.sizeA Tryd.prog 9 = some 1 := by kernel_rfl
@[simp] theorem Tryd.zer9 : Aw.zeroA Tryd.prog 9 = some [.str []] := by kernel_rfl
@[simp] theorem Tryd.zsz9 : Aw.zeroSz Tryd.prog 9 1 = true := by kernel_rfl
@[simp] theorem Tryd.iss9 : Aw.isString Tryd.prog 9 = true := by kernel_rfl
@[simp] theorem Tryd.apd9 : Aw.appendable Tryd.prog 9 = true := by kernel_rfl
@[simp] theorem Tryd.agg12 : Aw.aggSize Tryd.prog 12 = none := by kernel_rfl
@[simp] theorem Tryd.one12 : Aw.oneSize Tryd.prog 12 = true := by kernel_rfl
@[simp] theorem Tryd.siz12 : Aw.sizeA Tryd.prog 12 = some 1 := by kernel_rfl
@[simp] theorem Tryd.zer12 : Aw.zeroA Tryd.prog 12 = some [.int .u64 0] := by kernel_rfl
@[simp] theorem Tryd.zsz12 : Aw.zeroSz Tryd.prog 12 1 = true := by kernel_rfl
@[simp] theorem Tryd.int12 : Aw.intType Tryd.prog 12 = some .u64 := by kernel_rfl
@[simp] theorem Tryd.som12 : (Tryd.prog.underlying 12).isSome = true := by kernel_rfl
@[simp] theorem Tryd.agg21 : Aw.aggSize Tryd.prog 21 = none := by kernel_rfl
@[simp] theorem Tryd.one21 : Aw.oneSize Tryd.prog 21 = true := by kernel_rfl
@[simp] theorem Tryd.siz21 : Aw.sizeA Tryd.prog 21 = some 1 := by kernel_rfl
@[simp] theorem Tryd.zer21 : Aw.zeroA Tryd.prog 21 = some [.int .i32 0] := by kernel_rfl
@[simp] theorem Tryd.zsz21 : Aw.zeroSz Tryd.prog 21 1 = true := by kernel_rfl
@[simp] theorem Tryd.int21 : Aw.intType Tryd.prog 21 = some .i32 := by kernel_rfl
@[simp] theorem Tryd.som21 : (Tryd.prog.underlying 21).isSome = true := by kernel_rfl
@[simp] theorem Tryd.agg22 : Aw.aggSize Tryd.prog 22 = none := by kernel_rfl
@[simp] theorem Tryd.one22 : Aw.oneSize Tryd.prog 22 = true := by kernel_rfl
@[simp] theorem Tryd.siz22 : Aw.sizeA Tryd.prog 22 = some 1 := by kernel_rfl
@[simp] theorem Tryd.zer22 : Aw.zeroA Tryd.prog 22 = some [.sl .own 0 []] := by kernel_rfl
@[simp] theorem Tryd.zsz22 : Aw.zeroSz Tryd.prog 22 1 = true := by kernel_rfl
@[simp] theorem Tryd.elm22 : Aw.elemA Tryd.prog 22 = some (108, 4, 64) := by kernel_rfl
@[simp] theorem Tryd.isl22 : Aw.isSlice Tryd.prog 22 = true := by kernel_rfl
@[simp] theorem Tryd.apd22 : Aw.appendable Tryd.prog 22 = true := by kernel_rfl
@[simp] theorem Tryd.agg23 : Aw.aggSize Tryd.prog 23 = none := by kernel_rfl
@[simp] theorem Tryd.one23 : Aw.oneSize Tryd.prog 23 = true := by kernel_rfl
@[simp] theorem Tryd.siz23 : Aw.sizeA Tryd.prog 23 = some 1 := by kernel_rfl
@[simp] theorem Tryd.zer23 : Aw.zeroA Tryd.prog 23 = some [.sl .own 0 []] := by kernel_rfl
@[simp] theorem Tryd.zsz23 : Aw.zeroSz Tryd.prog 23 1 = true := by kernel_rfl
@[simp] theorem Tryd.elm23 : Aw.elemA Tryd.prog 23 = some (3, 1, 8) := by kernel_rfl
@[simp] theorem Tryd.isl23 : Aw.isSlice Tryd.prog 23 = true := by kernel_rfl
@[simp] theorem Tryd.apd23 : Aw.appendable Tryd.prog 23 = true := by kernel_rfl
@[simp] theorem Tryd.agg25 : Aw.aggSize Tryd.prog 25 = some 2 := by kernel_rfl
@[simp] theorem Tryd.siz25 : Aw.sizeA Tryd.prog 25 = some 2 := by kernel_rfl
@[simp] theorem Tryd.zer25 : Aw.zeroA Tryd.prog 25 = some [.sl .own 0 [], .sl .own 0 []] := by kernel_rfl
@[simp] theorem Tryd.zsz25 : Aw.zeroSz Tryd.prog 25 2 = true := by kernel_rfl
@[simp] theorem Tryd.fld25_0 : Aw.fieldA Tryd.prog 25 0 = some 0 := by kernel_rfl
@[simp] theorem Tryd.fld25_1 : Aw.fieldA Tryd.prog 25 1 = some 1 := by kernel_rfl
@[simp] theorem Tryd.plc25 : Aw.placesA Tryd.prog 25 = some [(0, 1), (1, 1)] := by kernel_rfl
@[simp] theorem Tryd.agg28 : Aw.aggSize Tryd.prog 28 = none := by kernel_rfl
@[simp] theorem Tryd.one28 : Aw.oneSize Tryd.prog 28 = true := by kernel_rfl
@[simp] theorem Tryd.siz28 : Aw.sizeA Tryd.prog 28 = some 1 := by kernel_rfl
@[simp] theorem Tryd.zer28 : Aw.zeroA Tryd.prog 28 = some [.sl .own 0 []] := by kernel_rfl
@[simp] theorem Tryd.zsz28 : Aw.zeroSz Tryd.prog 28 1 = true := by kernel_rfl
@[simp] theorem Tryd.elm28 : Aw.elemA Tryd.prog 28 = some (68, 4, 64) := by kernel_rfl
@[simp] theorem Tryd.isl28 : Aw.isSlice Tryd.prog 28 = true := by kernel_rfl
@[simp] theorem Tryd.apd28 : Aw.appendable Tryd.prog 28 = true := by kernel_rfl
@[simp] theorem Tryd.agg30 : Aw.aggSize Tryd.prog 30 = some 2 := by kernel_rfl
@[simp] theorem Tryd.siz30 : Aw.sizeA Tryd.prog 30 = some 2 := by kernel_rfl
@[simp] theorem Tryd.zer30 : Aw.zeroA Tryd.prog 30 = some [.sl .own 0 [], .sl .own 0 []] := by kernel_rfl
@[simp] theorem Tryd.zsz30 : Aw.zeroSz Tryd.prog 30 2 = true := by kernel_rfl
@[simp] theorem Tryd.fld30_0 : Aw.fieldA Tryd.prog 30 0 = some 0 := by kernel_rfl
@[simp] theorem Tryd.fld30_1 : Aw.fieldA Tryd.prog 30 1 = some 1 := by kernel_rfl
@[simp] theorem Tryd.plc30 : Aw.placesA Tryd.prog 30 = some [(0, 1), (1, 1)] := by kernel_rfl
@[simp] theorem Tryd.agg34 : Aw.aggSize Tryd.prog 34 = none := by kernel_rfl
@[simp] theorem Tryd.one34 : Aw.oneSize Tryd.prog 34 = true := by kernel_rfl
@[simp] theorem Tryd.siz34 : Aw.sizeA Tryd.prog 34 = some 1 := by kernel_rfl
@[simp] theorem Tryd.zer34 : Aw.zeroA Tryd.prog 34 = some [.sl .own 0 []] := by kernel_rfl
@[simp] theorem Tryd.zsz34 : Aw.zeroSz Tryd.prog 34 1 = true := by kernel_rfl
@[simp] theorem Tryd.elm34 : Aw.elemA Tryd.prog 34 = some (76, 2, 32) := by kernel_rfl
@[simp] theorem Tryd.isl34 : Aw.isSlice Tryd.prog 34 = true := by kernel_rfl
@[simp] theorem Tryd.apd34 : Aw.appendable Tryd.prog 34 = true := by kernel_rfl
@[simp] theorem Tryd.agg35 : Aw.aggSize Tryd.prog 35 = none := by kernel_rfl
@[simp] theorem Tryd.one35 : Aw.oneSize Tryd.prog 35 = true := by kernel_rfl
@[simp] theorem Tryd.siz35 : Aw.sizeA Tryd.prog 35 = some 1 := by kernel_rfl
@[simp] theorem Tryd.zer35 : Aw.zeroA Tryd.prog 35 = some [.sl .own 0 []] := by kernel_rfl
@[simp] theorem Tryd.zsz35 : Aw.zeroSz Tryd.prog 35 1 = true := by kernel_rfl
@[simp] theorem Tryd.elm35 : Aw.elemA Tryd.prog 35 = some (88, 2, 24) := by kernel_rfl
@[simp] theorem Tryd.isl35 : Aw.isSlice Tryd.prog 35 = true := by kernel_rfl
@[simp] theorem Tryd.apd35 : Aw.appendable Tryd.prog 35 = true := by kernel_rfl
@[simp] theorem Tryd.agg43 : Aw.aggSize Tryd.prog 43 = none := by kernel_rfl
@[simp] theorem Tryd.one43 : Aw.oneSize Tryd.prog 43 = true := by kernel_rfl
@[simp] theorem Tryd.siz43 : Aw.sizeA Tryd.prog 43 = some 1 := by kernel_rfl
@[simp] theorem Tryd.zer43 : Aw.zeroA Tryd.prog 43 = some [.sl .own 0 []] := by kernel_rfl
@[simp] theorem Tryd.zsz43 : Aw.zeroSz Tryd.prog 43 1 = true := by kernel_rfl
@[simp] theorem Tryd.elm43 : Aw.elemA Tryd.prog 43 = some (94, 5, 72) := by kernel_rfl
@[simp] theorem Tryd.isl43 : Aw.isSlice Tryd.prog 43 = true := by kernel_rfl
@[simp] theorem Tryd.apd43 : Aw.appendable Tryd.prog 43 = true := by kernel_rfl
@[simp] theorem Tryd.agg47 : Aw.aggSize Tryd.prog 47 = none := by kernel_rfl
@[simp] theorem Tryd.one47 : Aw.oneSize Tryd.prog 47 = true := by kernel_rfl
@[simp] theorem Tryd.siz47 : Aw.sizeA Tryd.prog 47 = some 1 := by kernel_rfl
@[simp] theorem Tryd.zer47 : Aw.zeroA Tryd.prog 47 = some [.sl .own 0 []] := by kernel_rfl
@[simp] theorem Tryd.zsz47 : Aw.zeroSz Tryd.prog 47 1 = true := by kernel_rfl
@[simp] theorem Tryd.elm47 : Aw.elemA Tryd.prog 47 = some (9, 1, 16) := by kernel_rfl
@[simp] theorem Tryd.isl47 : Aw.isSlice Tryd.prog 47 = true := by kernel_rfl
@[simp] theorem Tryd.apd47 : Aw.appendable Tryd.prog 47 = true := by kernel_rfl
@[simp] theorem Tryd.agg48 : Aw.aggSize Tryd.prog 48 = none := by kernel_rfl
@[simp] theorem Tryd.one48 : Aw.oneSize Tryd.prog 48 = true := by kernel_rfl
@[simp] theorem Tryd.siz48 : Aw.sizeA Tryd.prog 48 = some 1 := by kernel_rfl
@[simp] theorem Tryd.zer48 : Aw.zeroA Tryd.prog 48 = some [.sl .own 0 []] := by kernel_rfl
@[simp] theorem Tryd.zsz48 : Aw.zeroSz Tryd.prog 48 1 = true := by kernel_rfl
@[simp] theorem Tryd.elm48 : Aw.elemA Tryd.prog 48 = some (153, 2, 24) := by kernel_rfl
@[simp] theorem Tryd.isl48 : Aw.isSlice Tryd.prog 48 = true := by kernel_rfl
@[simp] theorem Tryd.apd48 : Aw.appendable Tryd.prog 48 = true := by kernel_rfl
@[simp] theorem Tryd.agg50 : Aw.aggSize Tryd.prog 50 = some 1 := by kernel_rfl
@[simp] theorem Tryd.siz50 : Aw.sizeA Tryd.prog 50 = some 1 := by kernel_rfl
@[simp] theorem Tryd.zer50 : Aw.zeroA Tryd.prog 50 = some [.sl .own 0 []] := by kernel_rfl
@[simp] theorem Tryd.zsz50 : Aw.zeroSz Tryd.prog 50 1 = true := by kernel_rfl
@[simp] theorem Tryd.fld50_0 : Aw.fieldA Tryd.prog 50 0 = some 0 := by kernel_rfl
@[simp] theorem Tryd.plc50 : Aw.placesA Tryd.prog 50 = some [(0, 1)] := by kernel_rfl
@[simp] theorem Tryd.agg52 : Aw.aggSize Tryd.prog 52 = some 6 := by kernel_rfl
@[simp] theorem Tryd.siz52 : Aw.sizeA Tryd.prog 52 = some 6 := by kernel_rfl
@[simp] theorem Tryd.zer52 : Aw.zeroA Tryd.prog 52 = some [.sl .own 0 [], .sl .own 0 [], .sl .own 0 [], .sl .own 0 [], .sl .own 0 [], .bool false] := by kernel_rfl
@[simp] theorem Tryd.zsz52 : Aw.zeroSz Tryd.prog 52 6 = true := by kernel_rfl
@[simp] theorem Tryd.fld52_0 : Aw.fieldA Tryd.prog 52 0 = some 0 := by kernel_rfl
@[simp] theorem Tryd.fld52_1 : Aw.fieldA Tryd.prog 52 1 = some 2 := by kernel_rfl
@[simp] theorem Tryd.fld52_2 : Aw.fieldA Tryd.prog 52 2 = some 3 := by kernel_rfl
@[simp] theorem Tryd.fld52_3 : Aw.fieldA Tryd.prog 52 3 = some 4 := by kernel_rfl
@[simp] theorem Tryd.fld52_4 : Aw.fieldA Tryd.prog 52 4 = some 5 := by kernel_rfl
@[simp] theorem Tryd.plc52 : Aw.placesA Tryd.prog 52 = some [(0, 2), (2, 1), (3, 1), (4, 1), (5, 1)] := by kernel_rfl
@[simp] theorem Tryd.agg55 : Aw.aggSize Tryd.prog 55 = none := by kernel_rfl
@[simp] theorem Tryd.one55 : Aw.oneSize Tryd.prog 55 = true := by kernel_rfl
@[simp] theorem Tryd.siz55 : Aw.sizeA Tryd.prog 55 = some 1 := by kernel_rfl
@[simp] theorem Tryd.zer55 : Aw.zeroA Tryd.prog 55 = some [.sl .own 0 []] := by kernel_rfl
@[simp] theorem Tryd.zsz55 : Aw.zeroSz Tryd.prog 55 1 = true := by kernel_rfl
@[simp] theorem Tryd.elm55 : Aw.elemA Tryd.prog 55 = some (138, 2, 24) := by kernel_rfl
@[simp] theorem Tryd.isl55 : Aw.isSlice Tryd.prog 55 = true := by kernel_rfl
@[simp] theorem Tryd.apd55 : Aw.appendable Tryd.prog 55 = true := by kernel_rfl
@[simp] theorem Tryd.agg57 : Aw.aggSize Tryd.prog 57 = some 1 := by kernel_rfl
@[simp] theorem Tryd.siz57 : Aw.sizeA Tryd.prog 57 = some 1 := by kernel_rfl
@[simp] theorem Tryd.zer57 : Aw.zeroA Tryd.prog 57 = some [.sl .own 0 []] := by kernel_rfl
@[simp] theorem Tryd.zsz57 : Aw.zeroSz Tryd.prog 57 1 = true := by kernel_rfl
@[simp] theorem Tryd.fld57_0 : Aw.fieldA Tryd.prog 57 0 = some 0 := by kernel_rfl
@[simp] theorem Tryd.plc57 : Aw.placesA Tryd.prog 57 = some [(0, 1)] := by kernel_rfl
@[simp] theorem Tryd.agg59 : Aw.aggSize Tryd.prog 59 = some 6 := by kernel_rfl
@[simp] theorem Tryd.siz59 : Aw.sizeA Tryd.prog 59 = some 6 := by kernel_rfl
@[simp] theorem Tryd.zer59 : Aw.zeroA Tryd.prog 59 = some [.sl .own 0 [], .sl .own 0 [], .sl .own 0 [], .sl .own 0 [], .sl .own 0 [], .bool false] := by kernel_rfl
@[simp] theorem Tryd.zsz59 : Aw.zeroSz Tryd.prog 59 6 = true := by kernel_rfl
@[simp] theorem Tryd.fld59_0 : Aw.fieldA Tryd.prog 59 0 = some 0 := by kernel_rfl
@[simp] theorem Tryd.fld59_1 : Aw.fieldA Tryd.prog 59 1 = some 2 := by kernel_rfl
@[simp] theorem Tryd.fld59_2 : Aw.fieldA Tryd.prog 59 2 = some 3 := by kernel_rfl
@[simp] theorem Tryd.fld59_3 : Aw.fieldA Tryd.prog 59 3 = some 4 := by kernel_rfl
@[simp] theorem Tryd.fld59_4 : Aw.fieldA Tryd.prog 59 4 = some 5 := by kernel_rfl
@[simp] theorem Tryd.plc59 : Aw.placesA Tryd.prog 59 = some [(0, 2), (2, 1), (3, 1), (4, 1), (5, 1)] := by kernel_rfl
@[simp] theorem Tryd.agg66 : Aw.aggSize Tryd.prog 66 = none := by kernel_rfl
@[simp] theorem Tryd.one66 : Aw.oneSize Tryd.prog 66 = true := by kernel_rfl
@[simp] theorem Tryd.siz66 : Aw.sizeA Tryd.prog 66 = some 1 := by kernel_rfl
@[simp] theorem Tryd.zer66 : Aw.zeroA Tryd.prog 66 = some [.sl .own 0 []] := by kernel_rfl
@[simp] theorem Tryd.zsz66 : Aw.zeroSz Tryd.prog 66 1 = true := by kernel_rfl
@[simp] theorem Tryd.elm66 : Aw.elemA Tryd.prog 66 = some (160, 2, 32) := by kernel_rfl
@[simp] theorem Tryd.isl66 : Aw.isSlice Tryd.prog 66 = true := by kernel_rfl
@[simp] theorem Tryd.apd66 : Aw.appendable Tryd.prog 66 = true := by kernel_rfl
@[simp] theorem Tryd.agg68 : Aw.aggSize Tryd.prog 68 = some 4 := by kernel_rfl
@[simp] theorem Tryd.siz68 : Aw.sizeA Tryd.prog 68 = some 4 := by kernel_rfl
@[simp] theorem Tryd.zer68 : Aw.zeroA Tryd.prog 68 = some [.str [], .str [], .int .i64 0, .sl .own 0 []] := by kernel_rfl
@[simp] theorem Tryd.zsz68 : Aw.zeroSz Tryd.prog 68 4 = true := by kernel_rfl
@[simp] theorem Tryd.fld68_0 : Aw.fieldA Tryd.prog 68 0 = some 0 := by kernel_rfl
@[simp] theorem Tryd.fld68_1 : Aw.fieldA Tryd.prog 68 1 = some 1 := by kernel_rfl
@[simp] theorem Tryd.fld68_2 : Aw.fieldA Tryd.prog 68 2 = some 2 := by kernel_rfl
@[simp] theorem Tryd.fld68_3 : Aw.fieldA Tryd.prog 68 3 = some 3 := by kernel_rfl
@[simp] theorem Tryd.plc68 : Aw.placesA Tryd.prog 68 = some [(0, 1), (1, 1), (2, 1), (3, 1)] := by kernel_rfl
@[simp] theorem Tryd.agg76 : Aw.aggSize Tryd.prog 76 = some 2 := by kernel_rfl
@[simp] theorem Tryd.siz76 : Aw.sizeA Tryd.prog 76 = some 2 := by kernel_rfl
@[simp] theorem Tryd.zer76 : Aw.zeroA Tryd.prog 76 = some [.str [], .str []] := by kernel_rfl
@[simp] theorem Tryd.zsz76 : Aw.zeroSz Tryd.prog 76 2 = true := by kernel_rfl
@[simp] theorem Tryd.fld76_0 : Aw.fieldA Tryd.prog 76 0 = some 0 := by kernel_rfl
@[simp] theorem Tryd.fld76_1 : Aw.fieldA Tryd.prog 76 1 = some 1 := by kernel_rfl
@[simp] theorem Tryd.plc76 : Aw.placesA Tryd.prog 76 = some [(0, 1), (1, 1)] := by kernel_rfl
@[simp] theorem Tryd.agg88 : Aw.aggSize Tryd.prog 88 = some 2 := by kernel_rfl
@[simp] theorem Tryd.siz88 : Aw.sizeA Tryd.prog 88 = some 2 := by kernel_rfl
@[simp] theorem Tryd.zer88 : Aw.zeroA Tryd.prog 88 = some [.int .i64 0, .str []] := by kernel_rfl
@[simp] theorem Tryd.zsz88 : Aw.zeroSz Tryd.prog 88 2 = true := by kernel_rfl
@[simp] theorem Tryd.fld88_0 : Aw.fieldA Tryd.prog 88 0 = some 0 := by kernel_rfl
@[simp] theorem Tryd.fld88_1 : Aw.fieldA Tryd.prog 88 1 = some 1 := by kernel_rfl
@[simp] theorem Tryd.plc88 : Aw.placesA Tryd.prog 88 = some [(0, 1), (1, 1)] := by kernel_rfl
@[simp] theorem Tryd.agg90 : Aw.aggSize Tryd.prog 90 = none := by kernel_rfl
@[simp] theorem Tryd.one90 : Aw.oneSize Tryd.prog 90 = true := by kernel_rfl
@[simp] theorem Tryd.siz90 : Aw.sizeA Tryd.prog 90 = some 1 := by kernel_rfl
@[simp] theorem Tryd.zer90 : Aw.zeroA Tryd.prog 90 = some [.sl .own 0 []] := by kernel_rfl
@[simp] theorem Tryd.zsz90 : Aw.zeroSz Tryd.prog 90 1 = true := by kernel_rfl
@[simp] theorem Tryd.elm90 : Aw.elemA Tryd.prog 90 = some (130, 4, 64) := by kernel_rfl
@[simp] theorem Tryd.isl90 : Aw.isSlice Tryd.prog 90 = true := by kernel_rfl
@[simp] theorem Tryd.apd90 : Aw.appendable Tryd.prog 90 = true := by kernel_rfl
@[simp] theorem Tryd.agg94 : Aw.aggSize Tryd.prog 94 = some 5 := by kernel_rfl
@[simp] theorem Tryd.siz94 : Aw.sizeA Tryd.prog 94 = some 5 := by kernel_rfl
@[simp] theorem Tryd.zer94 : Aw.zeroA Tryd.prog 94 = some [.int .i64 0, .str [], .str [], .str [], .str []] := by kernel_rfl
@[simp] theorem Tryd.zsz94 : Aw.zeroSz Tryd.prog 94 5 = true := by kernel_rfl
@[simp] theorem Tryd.fld94_0 : Aw.fieldA Tryd.prog 94 0 = some 0 := by kernel_rfl
@[simp] theorem Tryd.fld94_1 : Aw.fieldA Tryd.prog 94 1 = some 1 := by kernel_rfl
@[simp] theorem Tryd.fld94_2 : Aw.fieldA Tryd.prog 94 2 = some 3 := by kernel_rfl
@[simp] theorem Tryd.fld94_3 : Aw.fieldA Tryd.prog 94 3 = some 4 := by kernel_rfl
@[simp] theorem Tryd.plc94 : Aw.placesA Tryd.prog 94 = some [(0, 1), (1, 2), (3, 1), (4, 1)] := by kernel_rfl
@[simp] theorem Tryd.agg100 : Aw.aggSize Tryd.prog 100 = none := by kernel_rfl
@[simp] theorem Tryd.one100 : Aw.oneSize Tryd.prog 100 = true := by kernel_rfl
@[simp] theorem Tryd.siz100 : Aw.sizeA Tryd.prog 100 = some 1 := by kernel_rfl
@[simp] theorem Tryd.zer100 : Aw.zeroA Tryd.prog 100 = some [.sl .own 0 []] := by kernel_rfl
@[simp] theorem Tryd.zsz100 : Aw.zeroSz Tryd.prog 100 1 = true := by kernel_rfl
@[simp] theorem Tryd.elm100 : Aw.elemA Tryd.prog 100 = some (5, 1, 1) := by kernel_rfl
@[simp] theorem Tryd.isl100 : Aw.isSlice Tryd.prog 100 = true := by kernel_rfl
@[simp] theorem Tryd.apd100 : Aw.appendable Tryd.prog 100 = true := by kernel_rfl
@[simp] theorem Tryd.agg106 : Aw.aggSize Tryd.prog 106 = none := by kernel_rfl
@[simp] theorem Tryd.one106 : Aw.oneSize Tryd.prog 106 = true := by kernel_rfl
@[simp] theorem Tryd.siz106 : Aw.sizeA Tryd.prog 106 = some 1 := by kernel_rfl
@[simp] theorem Tryd.zer106 : Aw.zeroA Tryd.prog 106 = some [.sl .own 0 []] := by kernel_rfl
@[simp] theorem Tryd.zsz106 : Aw.zeroSz Tryd.prog 106 1 = true := by kernel_rfl
@[simp] theorem Tryd.elm106 : Aw.elemA Tryd.prog 106 = some (159, 2, 32) := by kernel_rfl
@[simp] theorem Tryd.isl106 : Aw.isSlice Tryd.prog 106 = true := by kernel_rfl
@[simp] theorem Tryd.apd106 : Aw.appendable Tryd.prog 106 = true := by kernel_rfl
@[simp] theorem Tryd.agg108 : Aw.aggSize Tryd.prog 108 = some 4 := by kernel_rfl
@[simp] theorem Tryd.siz108 : Aw.sizeA Tryd.prog 108 = some 4 := by kernel_rfl
@[simp] theorem Tryd.zer108 : Aw.zeroA Tryd.prog 108 = some [.str [], .str [], .int .i64 0, .sl .own 0 []] := by kernel_rfl
@[simp] theorem Tryd.zsz108 : Aw.zeroSz Tryd.prog 108 4 = true := by kernel_rfl
@[simp] theorem Tryd.fld108_0 : Aw.fieldA Tryd.prog 108 0 = some 0 := by kernel_rfl
@[simp] theorem Tryd.fld108_1 : Aw.fieldA Tryd.prog 108 1 = some 1 := by kernel_rfl
@[simp] theorem Tryd.fld108_2 : Aw.fieldA Tryd.prog 108 2 = some 2 := by kernel_rfl
@[simp] theorem Tryd.fld108_3 : Aw.fieldA Tryd.prog 108 3 = some 3 := by kernel_rfl
@[simp] theorem Tryd.plc108 : Aw.placesA Tryd.prog 108 = some [(0, 1), (1, 1), (2, 1), (3, 1)] := by kernel_rfl
@[simp] theorem Tryd.agg112 : Aw.aggSize Tryd.prog 112 = some 2 := by kernel_rfl
@[simp] theorem Tryd.siz112 : Aw.sizeA Tryd.prog 112 = some 2 := by kernel_rfl
@[simp] theorem Tryd.zer112 : Aw.zeroA Tryd.prog 112 = some [.undef, .sl .own 0 []] := by kernel_rfl
@[simp] theorem Tryd.zsz112 : Aw.zeroSz Tryd.prog 112 2 = true := by kernel_rfl
@[simp] theorem Tryd.fld112_0 : Aw.fieldA Tryd.prog 112 0 = some 0 := by kernel_rfl
@[simp] theorem Tryd.fld112_1 : Aw.fieldA Tryd.prog 112 1 = some 1 := by kernel_rfl
@[simp] theorem Tryd.agg130 : Aw.aggSize Tryd.prog 130 = some 4 := by kernel_rfl
@[simp] theorem Tryd.siz130 : Aw.sizeA Tryd.prog 130 = some 4 := by kernel_rfl
@[simp] theorem Tryd.zer130 : Aw.zeroA Tryd.prog 130 = some [.int .i64 0, .str [], .sl .own 0 [], .str []] := by kernel_rfl
@[simp] theorem Tryd.zsz130 : Aw.zeroSz Tryd.prog 130 4 = true := by kernel_rfl
@[simp] theorem Tryd.fld130_0 : Aw.fieldA Tryd.prog 130 0 = some 0 := by kernel_rfl
@[simp] theorem Tryd.fld130_1 : Aw.fieldA Tryd.prog 130 1 = some 1 := by kernel_rfl
@[simp] theorem Tryd.fld130_2 : Aw.fieldA Tryd.prog 130 2 = some 2 := by kernel_rfl
@[simp] theorem Tryd.fld130_3 : Aw.fieldA Tryd.prog 130 3 = some 3 := by kernel_rfl
@[simp] theorem Tryd.plc130 : Aw.placesA Tryd.prog 130 = some [(0, 1), (1, 1), (2, 1), (3, 1)] := by kernel_rfl
@[simp] theorem Tryd.agg132 : Aw.aggSize Tryd.prog 132 = some 1 := by kernel_rfl
@[simp] theorem Tryd.siz132 : Aw.sizeA Tryd.prog 132 = some 1 := by kernel_rfl
@[simp] theorem Tryd.zer132 : Aw.zeroA Tryd.prog 132 = some [.str []] := by kernel_rfl
@[simp] theorem Tryd.zsz132 : Aw.zeroSz Tryd.prog 132 1 = true := by kernel_rfl
@[simp] theorem Tryd.fld132_0 : Aw.fieldA Tryd.prog 132 0 = some 0 := by kernel_rfl
@[simp] theorem Tryd.plc132 : Aw.placesA Tryd.prog 132 = some [(0, 1)] := by kernel_rfl
@[simp] theorem Tryd.agg138 : Aw.aggSize Tryd.prog 138 = some 2 := by kernel_rfl
@[simp] theorem Tryd.siz138 : Aw.sizeA Tryd.prog 138 = some 2 := by kernel_rfl
@[simp] theorem Tryd.zer138 : Aw.zeroA Tryd.prog 138 = some [.str [], .int .i64 0] := by kernel_rfl
@[simp] theorem Tryd.zsz138 : Aw.zeroSz Tryd.prog 138 2 = true := by kernel_rfl
@[simp] theorem Tryd.fld138_0 : Aw.fieldA Tryd.prog 138 0 = some 0 := by kernel_rfl
@[simp] theorem Tryd.fld138_1 : Aw.fieldA Tryd.prog 138 1 = some 1 := by kernel_rfl
@[simp] theorem Tryd.plc138 : Aw.placesA Tryd.prog 138 = some [(0, 1), (1, 1)] := by kernel_rfl
@[simp] theorem Tryd.agg153 : Aw.aggSize Tryd.prog 153 = some 2 := by kernel_rfl
@[simp] theorem Tryd.siz153 : Aw.sizeA Tryd.prog 153 = some 2 := by kernel_rfl
@[simp] theorem Tryd.zer153 : Aw.zeroA Tryd.prog 153 = some [.str [], .int .i64 0] := by kernel_rfl
@[simp] theorem Tryd.zsz153 : Aw.zeroSz Tryd.prog 153 2 = true := by kernel_rfl
@[simp] theorem Tryd.fld153_0 : Aw.fieldA Tryd.prog 153 0 = some 0 := by kernel_rfl
@[simp] theorem Tryd.fld153_1 : Aw.fieldA Tryd.prog 153 1 = some 1 := by kernel_rfl
@[simp] theorem Tryd.plc153 : Aw.placesA Tryd.prog 153 = some [(0, 1), (1, 1)] := by kernel_rfl
@[simp] theorem Tryd.agg159 : Aw.aggSize Tryd.prog 159 = some 2 := by kernel_rfl
@[simp] theorem Tryd.siz159 : Aw.sizeA Tryd.prog 159 = some 2 := by kernel_rfl
@[simp] theorem Tryd.zer159 : Aw.zeroA Tryd.prog 159 = some [.str [], .str []] := by kernel_rfl
@[simp] theorem Tryd.zsz159 : Aw.zeroSz Tryd.prog 159 2 = true := by kernel_rfl
@[simp] theorem Tryd.fld159_0 : Aw.fieldA Tryd.prog 159 0 = some 0 := by kernel_rfl
@[simp] theorem Tryd.fld159_1 : Aw.fieldA Tryd.prog 159 1 = some 1 := by kernel_rfl
@[simp] theorem Tryd.plc159 : Aw.placesA Tryd.prog 159 = some [(0, 1), (1, 1)] := by kernel_rfl
@[simp] theorem Tryd.agg160 : Aw.aggSize Tryd.prog 160 = some 2 := by kernel_rfl
@[simp] theorem Tryd.siz160 : Aw.sizeA Tryd.prog 160 = some 2 := by kernel_rfl
@[simp] theorem Tryd.zer160 : Aw.zeroA Tryd.prog 160 = some [.str [], .str []] := by kernel_rfl
@[simp] theorem Tryd.zsz160 : Aw.zeroSz Tryd.prog 160 2 = true := by kernel_rfl
@[simp] theorem Tryd.fld160_0 : Aw.fieldA Tryd.prog 160 0 = some 0 := by kernel_rfl
@[simp] theorem Tryd.fld160_1 : Aw.fieldA Tryd.prog 160 1 = some 1 := by kernel_rfl
@[simp] theorem Tryd.plc160 : Aw.placesA Tryd.prog 160 = some [(0, 1), (1, 1)] := by kernel_rfl
@[simp] theorem Tryd.agg173 : Aw.aggSize Tryd.prog 173 = none := by kernel_rfl
@[simp] theorem Tryd.one173 : Aw.oneSize Tryd.prog 173 = true := by kernel_rfl
@[simp] theorem Tryd.siz173 : Aw.sizeA Tryd.prog 173 = some 1 := by kernel_rfl
@[simp] theorem Tryd.zer173 : Aw.zeroA Tryd.prog 173 = some [.int .u64 0] := by kernel_rfl
@[simp] theorem Tryd.zsz173 : Aw.zeroSz Tryd.prog 173 1 = true := by kernel_rfl
@[simp] theorem Tryd.int173 : Aw.intType Tryd.prog 173 = some .u64 := by kernel_rfl
@[simp] theorem Tryd.som173 : (Tryd.prog.underlying 173).isSome = true := by kernel_rfl
@[simp] theorem Tryd.agg179 : Aw.aggSize Tryd.prog 179 = none := by kernel_rfl
@[simp] theorem Tryd.one179 : Aw.oneSize Tryd.prog 179 = true := by kernel_rfl
@[simp] theorem Tryd.siz179 : Aw.sizeA Tryd.prog 179 = some 1 := by kernel_rfl
@[simp] theorem Tryd.zer179 : Aw.zeroA Tryd.prog 179 = some [.int .u64 0] := by kernel_rfl
@[simp] theorem Tryd.zsz179 : Aw.zeroSz Tryd.prog 179 1 = true := by kernel_rfl
@[simp] theorem Tryd.int179 : Aw.intType Tryd.prog 179 = some .u64 := by kernel_rfl
@[simp] theorem Tryd.som179 : (Tryd.prog.underlying 179).isSome = true := by kernel_rfl
@[simp] theorem Tryd.agg182 : Aw.aggSize Tryd.prog 182 = none := by kernel_rfl
@[simp] theorem Tryd.one182 : Aw.oneSize Tryd.prog 182 = true := by kernel_rfl
@[simp] theorem Tryd.siz182 : Aw.sizeA Tryd.prog 182 = some 1 := by kernel_rfl
@[simp] theorem Tryd.zer182 : Aw.zeroA Tryd.prog 182 = some [.int .u32 0] := by kernel_rfl
@[simp] theorem Tryd.zsz182 : Aw.zeroSz Tryd.prog 182 1 = true := by kernel_rfl
@[simp] theorem Tryd.int182 : Aw.intType Tryd.prog 182 = some .u32 := by kernel_rfl
@[simp] theorem Tryd.som182 : (Tryd.prog.underlying 182).isSome = true := by kernel_rfl
@[simp] theorem Tryd.agg188 : Aw.aggSize Tryd.prog 188 = some 2 := by kernel_rfl
@[simp] theorem Tryd.siz188 : Aw.sizeA Tryd.prog 188 = some 2 := by kernel_rfl
@[simp] theorem Tryd.zer188 : Aw.zeroA Tryd.prog 188 = some [.int .u8 0, .int .u8 0] := by kernel_rfl
@[simp] theorem Tryd.zsz188 : Aw.zeroSz Tryd.prog 188 2 = true := by kernel_rfl
@[simp] theorem Tryd.fld188_0 : Aw.fieldA Tryd.prog 188 0 = some 0 := by kernel_rfl
@[simp] theorem Tryd.fld188_1 : Aw.fieldA Tryd.prog 188 1 = some 1 := by kernel_rfl
@[simp] theorem Tryd.plc188 : Aw.placesA Tryd.prog 188 = some [(0, 1), (1, 1)] := by kernel_rfl
@[simp] theorem Tryd.cal3 : Aw.callable Tryd.prog 3 = true := by kernel_rfl
@[simp] theorem Tryd.cal4 : Aw.callable Tryd.prog 4 = true := by kernel_rfl
@[simp] theorem Tryd.cal5 : Aw.callable Tryd.prog 5 = true := by kernel_rfl
@[simp] theorem Tryd.cal6 : Aw.callable Tryd.prog 6 = true := by kernel_rfl
@[simp] theorem Tryd.cal7 : Aw.callable Tryd.prog 7 = true := by kernel_rfl
@[simp] theorem Tryd.cal8 : Aw.callable Tryd.prog 8 = true := by kernel_rfl
@[simp] theorem Tryd.cal9 : Aw.callable Tryd.prog 9 = true := by kernel_rfl
@[simp] theorem Tryd.cal10 : Aw.callable Tryd.prog 10 = true := by kernel_rfl
@[simp] theorem Tryd.cal11 : Aw.callable Tryd.prog 11 = true := by kernel_rfl
@[simp] theorem Tryd.cal12 : Aw.callable Tryd.prog 12 = true := by kernel_rfl
@[simp] theorem Tryd.cal13 : Aw.callable Tryd.prog 13 = true := by kernel_rfl
@[simp] theorem Tryd.cal14 : Aw.callable Tryd.prog 14 = true := by kernel_rfl
@[simp] theorem Tryd.cal15 : Aw.callable Tryd.prog 15 = true := by kernel_rfl
@[simp] theorem Tryd.cal16 : Aw.callable Tryd.prog 16 = true := by kernel_rfl
@[simp] theorem Tryd.cal17 : Aw.callable Tryd.prog 17 = true := by kernel_rfl
@[simp] theorem Tryd.cal18 : Aw.callable Tryd.prog 18 = true := by kernel_rfl
@[simp] theorem Tryd.cal19 : Aw.callable Tryd.prog 19 = true := by kernel_rfl
@[simp] theorem Tryd.cal20 : Aw.callable Tryd.prog 20 = true := by kernel_rfl
@[simp] theorem Tryd.cal21 : Aw.callable Tryd.prog 21 = true := by kernel_rfl
@[simp] theorem Tryd.cal22 : Aw.callable Tryd.prog 22 = true := by kernel_rfl
@[simp] theorem Tryd.cal23 : Aw.callable Tryd.prog 23 = true := by kernel_rfl
@[simp] theorem Tryd.cal24 : Aw.callable Tryd.prog 24 = true := by kernel_rfl
@[simp] theorem Tryd.cal25 : Aw.callable Tryd.prog 25 = true := by kernel_rfl
@[simp] theorem Tryd.cal26 : Aw.callable Tryd.prog 26 = true := by kernel_rfl
@[simp] theorem Tryd.cal27 : Aw.callable Tryd.prog 27 = true := by kernel_rfl
@[simp] theorem Tryd.cal28 : Aw.callable Tryd.prog 28 = true := by kernel_rfl
@[simp] theorem Tryd.cal29 : Aw.callable Tryd.prog 29 = true := by kernel_rfl
@[simp] theorem Tryd.cal30 : Aw.callable Tryd.prog 30 = true := by kernel_rfl
@[simp] theorem Tryd.cal31 : Aw.callable Tryd.prog 31 = true := by kernel_rfl
@[simp] theorem Tryd.cal32 : Aw.callable Tryd.prog 32 = true := by kernel_rfl
@[simp] theorem Tryd.cal33 : Aw.callable Tryd.prog 33 = true := by kernel_rfl
@[simp] theorem Tryd.cal34 : Aw.callable Tryd.prog 34 = true := by kernel_rfl
@[simp] theorem Tryd.cal35 : Aw.callable Tryd.prog 35 = true := by kernel_rfl
@[simp] theorem Tryd.cal36 : Aw.callable Tryd.prog 36 = true := by kernel_rfl
@[simp] theorem Tryd.cal37 : Aw.callable Tryd.prog 37 = true := by kernel_rfl
@[simp] theorem Tryd.cal38 : Aw.callable Tryd.prog 38 = true := by kernel_rfl
@[simp] theorem Tryd.cal39 : Aw.callable Tryd.prog 39 = true := by kernel_rfl
@[simp] theorem Tryd.cal40 : Aw.callable Tryd.prog 40 = true := by kernel_rfl
@[simp] theorem Tryd.cal41 : Aw.callable Tryd.prog 41 = true := by kernel_rfl
@[simp] theorem Tryd.cal42 : Aw.callable Tryd.prog 42 = true := by kernel_rfl
@[simp] theorem Tryd.cal43 : Aw.callable Tryd.prog 43 = true := by kernel_rfl
@[simp] theorem Tryd.cal44 : Aw.callable Tryd.prog 44 = true := by kernel_rfl
@[simp] theorem Tryd.cal45 : Aw.callable Tryd.prog 45 = true := by kernel_rfl
@[simp] theorem Tryd.cal46 : Aw.callable Tryd.prog 46 = true := by kernel_rfl
@[simp] theorem Tryd.cal47 : Aw.callable Tryd.prog 47 = true := by kernel_rfl
@[simp] theorem Tryd.cal48 : Aw.callable Tryd.prog 48 = true := by kernel_rfl
@[simp] theorem Tryd.cal49 : Aw.callable Tryd.prog 49 = true := by kernel_rfl
@[simp] theorem Tryd.cal50 : Aw.callable Tryd.prog 50 = true := by kernel_rfl
@[simp] theorem Tryd.cal51 : Aw.callable Tryd.prog 51 = true := by kernel_rfl
@[simp] theorem Tryd.cal52 : Aw.callable Tryd.prog 52 = true := by kernel_rfl
@[simp] theorem Tryd.cal53 : Aw.callable Tryd.prog 53 = true := by kernel_rfl
@[simp] theorem Tryd.cal54 : Aw.callable Tryd.prog 54 = true := by kernel_rfl
@[simp] theorem Tryd.cal55 : Aw.callable Tryd.prog 55 = true := by kernel_rfl
@[simp] theorem Tryd.cal56 : Aw.callable Tryd.prog 56 = true := by kernel_rfl
@[simp] theorem Tryd.cal57 : Aw.callable Tryd.prog 57 = true := by kernel_rfl
@[simp] theorem Tryd.cal58 : Aw.callable Tryd.prog 58 = true := by kernel_rfl
@[simp] theorem Tryd.cal59 : Aw.callable Tryd.prog 59 = true := by kernel_rfl
@[simp] theorem Tryd.cal60 : Aw.callable Tryd.prog 60 = true := by kernel_rfl
@[simp] theorem Tryd.cal61 : Aw.callable Tryd.prog 61 = true := by kernel_rfl
@[simp] theorem Tryd.cal62 : Aw.callable Tryd.prog 62 = true := by kernel_rfl
@[simp] theorem Tryd.cal63 : Aw.callable Tryd.prog 63 = true := by kernel_rfl
@[simp] theorem Tryd.cal64 : Aw.callable Tryd.prog 64 = true := by kernel_rfl
@[simp] theorem Tryd.cal65 : Aw.callable Tryd.prog 65 = true := by kernel_rfl
@[simp] theorem Tryd.cal66 : Aw.callable Tryd.prog 66 = true := by kernel_rfl
@[simp] theorem Tryd.cal67 : Aw.callable Tryd.prog 67 = true := by kernel_rfl
@[simp] theorem Tryd.cal68 : Aw.callable Tryd.prog 68 = true := by kernel_rfl
@[simp] theorem Tryd.cal69 : Aw.callable Tryd.prog 69 = true := by kernel_rfl
@[simp] theorem Tryd.cal70 : Aw.callable Tryd.prog 70 = true := by kernel_rfl
@[simp] theorem Tryd.cal71 : Aw.callable Tryd.prog 71 = true := by kernel_rfl
@[simp] theorem Tryd.cal72 : Aw.callable Tryd.prog 72 = true := by kernel_rfl
@[simp] theorem Tryd.cal73 : Aw.callable Tryd.prog 73 = true := by kernel_rfl
@[simp] theorem Tryd.cal74 : Aw.callable Tryd.prog 74 = true := by kernel_rfl
@[simp] theorem Tryd.cal75 : Aw.callable Tryd.prog 75 = true := by kernel_rfl
@[simp] theorem Tryd.cal76 : Aw.callable Tryd.prog 76 = true := by kernel_rfl
@[simp] theorem Tryd.cal77 : Aw.callable Tryd.prog 77 = true := by kernel_rfl
@[simp] theorem Tryd.cal78 : Aw.callable Tryd.prog 78 = true := by kernel_rfl
@[simp] theorem Tryd.cal79 : Aw.callable Tryd.prog 79 = true := by kernel_rfl
@[simp] theorem Tryd.cal80 : Aw.callable Tryd.prog 80 = true := by kernel_rfl
@[simp] theorem Tryd.cal81 : Aw.callable Tryd.prog 81 = true := by kernel_rfl
@[simp] theorem Tryd.cal82 : Aw.callable Tryd.prog 82 = true := by kernel_rfl
@[simp] theorem Tryd.cal83 : Aw.callable Tryd.prog 83 = true := by kernel_rfl
@[simp] theorem Tryd.cal84 : Aw.callable Tryd.prog 84 = true := by kernel_rfl
@[simp] theorem Tryd.cal85 : Aw.callable Tryd.prog 85 = true := by kernel_rfl
@[simp] theorem Tryd.cal86 : Aw.callable Tryd.prog 86 = true := by kernel_rfl
@[simp] theorem Tryd.cal87 : Aw.callable Tryd.prog 87 = true := by kernel_rfl
@[simp] theorem Tryd.cal88 : Aw.callable Tryd.prog 88 = true := by kernel_rfl
@[simp] theorem Tryd.cal89 : Aw.callable Tryd.prog 89 = true := by kernel_rfl
@[simp] theorem Tryd.cal90 : Aw.callable Tryd.prog 90 = true := by kernel_rfl
@[simp] theorem Tryd.cal91 : Aw.callable Tryd.prog 91 = true := by kernel_rfl
@[simp] theorem Tryd.cal92 : Aw.callable Tryd.prog 92 = true := by kernel_rfl
@[simp] theorem Tryd.cal93 : Aw.callable Tryd.prog 93 = true := by kernel_rfl
@[simp] theorem Tryd.cal94 : Aw.callable Tryd.prog 94 = true := by kernel_rfl
@[simp] theorem Tryd.cal95 : Aw.callable Tryd.prog 95 = true := by kernel_rfl
@[simp] theorem Tryd.cal96 : Aw.callable Tryd.prog 96 = true := by kernel_rfl
@[simp] theorem Tryd.cal97 : Aw.callable Tryd.prog 97 = true := by kernel_rfl
@[simp] theorem Tryd.cal98 : Aw.callable Tryd.prog 98 = true := by kernel_rfl
@[simp] theorem Tryd.cal99 : Aw.callable Tryd.prog 99 = true := by kernel_rfl
@[simp] theorem Tryd.cal100 : Aw.callable Tryd.prog 100 = true := by kernel_rfl
@[simp] theorem Tryd.cal101 : Aw.callable Tryd.prog 101 = true := by kernel_rfl
@[simp] theorem Tryd.cal102 : Aw.callable Tryd.prog 102 = true := by kernel_rfl
@[simp] theorem Tryd.cal103 : Aw.callable Tryd.prog 103 = true := by kernel_rfl
@[simp] theorem Tryd.cal104 : Aw.callable Tryd.prog 104 = true := by kernel_rfl
@[simp] theorem Tryd.cal105 : Aw.callable Tryd.prog 105 = true := by kernel_rfl
@[simp] theorem Tryd.cal106 : Aw.callable Tryd.prog 106 = true := by kernel_rfl
@[simp] theorem Tryd.cal107 : Aw.callable Tryd.prog 107 = true := by kernel_rfl
@[simp] theorem Tryd.cal108 : Aw.callable Tryd.prog 108 = true := by kernel_rfl
@[simp] theorem Tryd.cal109 : Aw.callable Tryd.prog 109 = true := by kernel_rfl
@[simp] theorem Tryd.cal110 : Aw.callable Tryd.prog 110 = true := by kernel_rfl
@[simp] theorem Tryd.cal111 : Aw.callable Tryd.prog 111 = true := by kernel_rfl
@[simp] theorem Tryd.cal112 : Aw.callable Tryd.prog 112 = true := by kernel_rfl
@[simp] theorem Tryd.cal113 : Aw.callable Tryd.prog 113 = true := by kernel_rfl
@[simp] theorem Tryd.cal114 : Aw.callable Tryd.prog 114 = true := by kernel_rfl
@[simp] theorem Tryd.cal115 : Aw.callable Tryd.prog 115 = true := by kernel_rfl
@[simp] theorem Tryd.cal116 : Aw.callable Tryd.prog 116 = true := by kernel_rfl
@[simp] theorem Tryd.cal117 : Aw.callable Tryd.prog 117 = true := by kernel_rfl
@[simp] theorem Tryd.cal118 : Aw.callable Tryd.prog 118 = true := by kernel_rfl
@[simp] theorem Tryd.cal119 : Aw.callable Tryd.prog 119 = true := by kernel_rfl
@[simp] theorem Tryd.cal120 : Aw.callable Tryd.prog 120 = true := by kernel_rfl
@[simp] theorem Tryd.cal121 : Aw.callable Tryd.prog 121 = false := by kernel_rfl
@[simp] theorem Tryd.cal122 : Aw.callable Tryd.prog 122 = false := by kernel_rfl
@[simp] theorem Tryd.cal123 : Aw.callable Tryd.prog 123 = true := by kernel_rfl
@[simp] theorem Tryd.cal124 : Aw.callable Tryd.prog 124 = true := by kernel_rfl
@[simp] theorem Tryd.cal125 : Aw.callable Tryd.prog 125 = true := by kernel_rfl
@[simp] theorem Tryd.cal126 : Aw.callable Tryd.prog 126 = false := by kernel_rfl
@[simp] theorem Tryd.cal127 : Aw.callable Tryd.prog 127 = true := by kernel_rfl
@[simp] theorem Tryd.cal128 : Aw.callable Tryd.prog 128 = true := by kernel_rfl
@[simp] theorem Tryd.cal129 : Aw.callable Tryd.prog 129 = true := by kernel_rfl
@[simp] theorem Tryd.cal130 : Aw.callable Tryd.prog 130 = true := by kernel_rfl
@[simp] theorem Tryd.cal131 : Aw.callable Tryd.prog 131 = true := by kernel_rfl
@[simp] theorem Tryd.cal132 : Aw.callable Tryd.prog 132 = true := by kernel_rfl
@[simp] theorem Tryd.cal133 : Aw.callable Tryd.prog 133 = true := by kernel_rfl
@[simp] theorem Tryd.cal134 : Aw.callable Tryd.prog 134 = true := by kernel_rfl
@[simp] theorem Tryd.cal135 : Aw.callable Tryd.prog 135 = true := by kernel_rfl
@[simp] theorem Tryd.cal136 : Aw.callable Tryd.prog 136 = true := by kernel_rfl
@[simp] theorem Tryd.cal137 : Aw.callable Tryd.prog 137 = true := by kernel_rfl
@[simp] theorem Tryd.cal138 : Aw.callable Tryd.prog 138 = false := by kernel_rfl
@[simp] theorem Tryd.cal139 : Aw.callable Tryd.prog 139 = true := by kernel_rfl
@[simp] theorem Tryd.cal140 : Aw.callable Tryd.prog 140 = true := by kernel_rfl
@[simp] theorem Tryd.cal141 : Aw.callable Tryd.prog 141 = false := by kernel_rfl
@[simp] theorem Tryd.cal142 : Aw.callable Tryd.prog 142 = true := by kernel_rfl
@[simp] theorem Tryd.cal143 : Aw.callable Tryd.prog 143 = true := by kernel_rfl
@[simp] theorem Tryd.cal144 : Aw.callable Tryd.prog 144 = true := by kernel_rfl
@[simp] theorem Tryd.cal145 : Aw.callable Tryd.prog 145 = true := by kernel_rfl
@[simp] theorem Tryd.cal146 : Aw.callable Tryd.prog 146 = true := by kernel_rfl
@[simp] theorem Tryd.cal147 : Aw.callable Tryd.prog 147 = true := by kernel_rfl
@[simp] theorem Tryd.cal148 : Aw.callable Tryd.prog 148 = true := by kernel_rfl
@[simp] theorem Tryd.cal149 : Aw.callable Tryd.prog 149 = true := by kernel_rfl
end Go.Proofs.YtedhenfipalhaaaDoor
