/-
  Proved here: closed facts of the translated program: types, their sizes, results.
  No condition beyond what each statement spells out.
-/
import Derived.Test.YtedhenfipalhaaaProg
import Derived.Test.YtedhenfipalhaaaF3
import Derived.KernelRfl
set_option linter.all false
/-
  Closed facts on the translation: sizes, fields and zero values of its types; that its functions have bodies. Written by a program of ours.
-/
namespace Go.Proofs.Ytedhenfipalhaaa
@[simp] theorem Try.agg2 : Aw.aggSize Try.prog 2 = none := by kernel_rfl
@[simp] theorem Try.one2 : Aw.oneSize Try.prog 2 = true := by kernel_rfl
@[simp] theorem Try.siz2 : Aw.sizeA Try.prog 2 = some 1 := by kernel_rfl
@[simp] theorem Try.zer2 : Aw.zeroA Try.prog 2 = some [.int .i64 0] := by kernel_rfl
@[simp] theorem Try.zsz2 : Aw.zeroSz Try.prog 2 1 = true := by kernel_rfl
@[simp] theorem Try.int2 : Aw.intType Try.prog 2 = some .i64 := by kernel_rfl
@[simp] theorem Try.som2 : (Try.prog.underlying 2).isSome = true := by kernel_rfl
@[simp] theorem Try.agg3 : Aw.aggSize Try.prog 3 = none := by kernel_rfl
@[simp] theorem Try.one3 : Aw.oneSize Try.prog 3 = true := by kernel_rfl
@[simp] theorem Try.siz3 : Aw.sizeA Try.prog 3 = some 1 := by kernel_rfl
@[simp] theorem Try.zer3 : Aw.zeroA Try.prog 3 = some [.int .i64 0] := by kernel_rfl
@[simp] theorem Try.zsz3 : Aw.zeroSz Try.prog 3 1 = true := by kernel_rfl
@[simp] theorem Try.int3 : Aw.intType Try.prog 3 = some .i64 := by kernel_rfl
@[simp] theorem Try.som3 : (Try.prog.underlying 3).isSome = true := by kernel_rfl
@[simp] theorem Try.agg4 : Aw.aggSize Try.prog 4 = none := by kernel_rfl
@[simp] theorem Try.one4 : Aw.oneSize Try.prog 4 = true := by kernel_rfl
@[simp] theorem Try.siz4 : Aw.sizeA Try.prog 4 = some 1 := by kernel_rfl
@[simp] theorem Try.zer4 : Aw.zeroA Try.prog 4 = some [.bool false] := by kernel_rfl
@[simp] theorem Try.zsz4 : Aw.zeroSz Try.prog 4 1 = true := by kernel_rfl
@[simp] theorem Try.bol4 : Aw.boolType Try.prog 4 = true := by kernel_rfl
@[simp] theorem Try.agg5 : Aw.aggSize Try.prog 5 = none := by kernel_rfl
@[simp] theorem Try.one5 : Aw.oneSize Try.prog 5 = true := by kernel_rfl
@[simp] theorem Try.siz5 : Aw.sizeA Try.prog 5 = some 1 := by kernel_rfl
@[simp] theorem Try.zer5 : Aw.zeroA Try.prog 5 = some [.int .u8 0] := by kernel_rfl
@[simp] theorem Try.zsz5 : Aw.zeroSz Try.prog 5 1 = true := by kernel_rfl
@[simp] theorem Try.int5 : Aw.intType Try.prog 5 = some .u8 := by kernel_rfl
@[simp] theorem Try.som5 : (Try.prog.underlying 5).isSome = true := by kernel_rfl
@[simp] theorem Try.agg9 : Aw.aggSize Try.prog 9 = none := by kernel_rfl
@[simp] theorem Try.one9 : Aw.oneSize Try.prog 9 = true := by kernel_rfl
@[simp] theorem Try.siz9 : Aw.sizeA Try.prog 9 = some 1 := by kernel_rfl
@[simp] theorem Try.zer9 : Aw.zeroA Try.prog 9 = some [.str []] := by kernel_rfl
@[simp] theorem Try.zsz9 : Aw.zeroSz Try.prog 9 1 = true := by kernel_rfl
@[simp] theorem Try.iss9 : Aw.isString Try.prog 9 = true := by kernel_rfl
@[simp] theorem Try.apd9 : Aw.appendable Try.prog 9 = true := by kernel_rfl
@[simp] theorem Try.agg12 : Aw.aggSize Try.prog 12 = none := by kernel_rfl
@[simp] theorem Try.one12 : Aw.oneSize Try.prog 12 = true := by kernel_rfl
@[simp] theorem Try.siz12 : Aw.sizeA Try.prog 12 = some 1 := by kernel_rfl
@[simp] theorem Try.zer12 : Aw.zeroA Try.prog 12 = some [.int .u64 0] := by kernel_rfl
@[simp] theorem Try.zsz12 : Aw.zeroSz Try.prog 12 1 = true := by kernel_rfl
@[simp] theorem Try.int12 : Aw.intType Try.prog 12 = some .u64 := by kernel_rfl
@[simp] theorem Try.som12 : (Try.prog.underlying 12).isSome = true := by kernel_rfl
@[simp] theorem Try.agg21 : Aw.aggSize Try.prog 21 = none := by kernel_rfl
@[simp] theorem Try.one21 : Aw.oneSize Try.prog 21 = true := by kernel_rfl
@[simp] theorem Try.siz21 : Aw.sizeA Try.prog 21 = some 1 := by kernel_rfl
@[simp] theorem Try.zer21 : Aw.zeroA Try.prog 21 = some [.int .i32 0] := by kernel_rfl
@[simp] theorem Try.zsz21 : Aw.zeroSz Try.prog 21 1 = true := by kernel_rfl
@[simp] theorem Try.int21 : Aw.intType Try.prog 21 = some .i32 := by kernel_rfl
@[simp] theorem Try.som21 : (Try.prog.underlying 21).isSome = true := by kernel_rfl
@[simp] theorem Try.agg22 : Aw.aggSize Try.prog 22 = none := by kernel_rfl
@[simp] theorem Try.one22 : Aw.oneSize Try.prog 22 = true := by kernel_rfl
@[simp] theorem Try.siz22 : Aw.sizeA Try.prog 22 = some 1 := by kernel_rfl
@[simp] theorem Try.zer22 : Aw.zeroA Try.prog 22 = some [.sl .own 4 []] := by kernel_rfl
@[simp] theorem Try.zsz22 : Aw.zeroSz Try.prog 22 1 = true := by kernel_rfl
@[simp] theorem Try.elm22 : Aw.elemA Try.prog 22 = some (171, 4, 64) := by kernel_rfl
@[simp] theorem Try.isl22 : Aw.isSlice Try.prog 22 = true := by kernel_rfl
@[simp] theorem Try.apd22 : Aw.appendable Try.prog 22 = true := by kernel_rfl
@[simp] theorem Try.agg23 : Aw.aggSize Try.prog 23 = none := by kernel_rfl
@[simp] theorem Try.one23 : Aw.oneSize Try.prog 23 = true := by kernel_rfl
@[simp] theorem Try.siz23 : Aw.sizeA Try.prog 23 = some 1 := by kernel_rfl
@[simp] theorem Try.zer23 : Aw.zeroA Try.prog 23 = some [.sl .own 1 []] := by kernel_rfl
@[simp] theorem Try.zsz23 : Aw.zeroSz Try.prog 23 1 = true := by kernel_rfl
@[simp] theorem Try.elm23 : Aw.elemA Try.prog 23 = some (3, 1, 8) := by kernel_rfl
@[simp] theorem Try.isl23 : Aw.isSlice Try.prog 23 = true := by kernel_rfl
@[simp] theorem Try.apd23 : Aw.appendable Try.prog 23 = true := by kernel_rfl
@[simp] theorem Try.agg25 : Aw.aggSize Try.prog 25 = some 2 := by kernel_rfl
@[simp] theorem Try.siz25 : Aw.sizeA Try.prog 25 = some 2 := by kernel_rfl
@[simp] theorem Try.zer25 : Aw.zeroA Try.prog 25 = some [.sl .own 4 [], .sl .own 1 []] := by kernel_rfl
@[simp] theorem Try.zsz25 : Aw.zeroSz Try.prog 25 2 = true := by kernel_rfl
@[simp] theorem Try.fld25_0 : Aw.fieldA Try.prog 25 0 = some 0 := by kernel_rfl
@[simp] theorem Try.fld25_1 : Aw.fieldA Try.prog 25 1 = some 1 := by kernel_rfl
@[simp] theorem Try.plc25 : Aw.placesA Try.prog 25 = some [(0, 1), (1, 1)] := by kernel_rfl
@[simp] theorem Try.agg26 : Aw.aggSize Try.prog 26 = none := by kernel_rfl
@[simp] theorem Try.one26 : Aw.oneSize Try.prog 26 = true := by kernel_rfl
@[simp] theorem Try.siz26 : Aw.sizeA Try.prog 26 = some 1 := by kernel_rfl
@[simp] theorem Try.zer26 : Aw.zeroA Try.prog 26 = some [.sl .own 1 []] := by kernel_rfl
@[simp] theorem Try.zsz26 : Aw.zeroSz Try.prog 26 1 = true := by kernel_rfl
@[simp] theorem Try.elm26 : Aw.elemA Try.prog 26 = some (9, 1, 16) := by kernel_rfl
@[simp] theorem Try.isl26 : Aw.isSlice Try.prog 26 = true := by kernel_rfl
@[simp] theorem Try.apd26 : Aw.appendable Try.prog 26 = true := by kernel_rfl
@[simp] theorem Try.agg27 : Aw.aggSize Try.prog 27 = none := by kernel_rfl
@[simp] theorem Try.one27 : Aw.oneSize Try.prog 27 = true := by kernel_rfl
@[simp] theorem Try.siz27 : Aw.sizeA Try.prog 27 = some 1 := by kernel_rfl
@[simp] theorem Try.zer27 : Aw.zeroA Try.prog 27 = some [.sl .own 2 []] := by kernel_rfl
@[simp] theorem Try.zsz27 : Aw.zeroSz Try.prog 27 1 = true := by kernel_rfl
@[simp] theorem Try.elm27 : Aw.elemA Try.prog 27 = some (173, 2, 24) := by kernel_rfl
@[simp] theorem Try.isl27 : Aw.isSlice Try.prog 27 = true := by kernel_rfl
@[simp] theorem Try.apd27 : Aw.appendable Try.prog 27 = true := by kernel_rfl
@[simp] theorem Try.agg29 : Aw.aggSize Try.prog 29 = some 1 := by kernel_rfl
@[simp] theorem Try.siz29 : Aw.sizeA Try.prog 29 = some 1 := by kernel_rfl
@[simp] theorem Try.zer29 : Aw.zeroA Try.prog 29 = some [.sl .own 2 []] := by kernel_rfl
@[simp] theorem Try.zsz29 : Aw.zeroSz Try.prog 29 1 = true := by kernel_rfl
@[simp] theorem Try.fld29_0 : Aw.fieldA Try.prog 29 0 = some 0 := by kernel_rfl
@[simp] theorem Try.plc29 : Aw.placesA Try.prog 29 = some [(0, 1)] := by kernel_rfl
@[simp] theorem Try.agg31 : Aw.aggSize Try.prog 31 = some 6 := by kernel_rfl
@[simp] theorem Try.siz31 : Aw.sizeA Try.prog 31 = some 6 := by kernel_rfl
@[simp] theorem Try.zer31 : Aw.zeroA Try.prog 31 = some [.sl .own 4 [], .sl .own 1 [], .sl .own 1 [], .sl .own 1 [], .sl .own 2 [], .bool false] := by kernel_rfl
@[simp] theorem Try.zsz31 : Aw.zeroSz Try.prog 31 6 = true := by kernel_rfl
@[simp] theorem Try.fld31_0 : Aw.fieldA Try.prog 31 0 = some 0 := by kernel_rfl
@[simp] theorem Try.fld31_1 : Aw.fieldA Try.prog 31 1 = some 2 := by kernel_rfl
@[simp] theorem Try.fld31_2 : Aw.fieldA Try.prog 31 2 = some 3 := by kernel_rfl
@[simp] theorem Try.fld31_3 : Aw.fieldA Try.prog 31 3 = some 4 := by kernel_rfl
@[simp] theorem Try.fld31_4 : Aw.fieldA Try.prog 31 4 = some 5 := by kernel_rfl
@[simp] theorem Try.plc31 : Aw.placesA Try.prog 31 = some [(0, 2), (2, 1), (3, 1), (4, 1), (5, 1)] := by kernel_rfl
@[simp] theorem Try.agg34 : Aw.aggSize Try.prog 34 = none := by kernel_rfl
@[simp] theorem Try.one34 : Aw.oneSize Try.prog 34 = true := by kernel_rfl
@[simp] theorem Try.siz34 : Aw.sizeA Try.prog 34 = some 1 := by kernel_rfl
@[simp] theorem Try.zer34 : Aw.zeroA Try.prog 34 = some [.sl .own 4 []] := by kernel_rfl
@[simp] theorem Try.zsz34 : Aw.zeroSz Try.prog 34 1 = true := by kernel_rfl
@[simp] theorem Try.elm34 : Aw.elemA Try.prog 34 = some (134, 4, 64) := by kernel_rfl
@[simp] theorem Try.isl34 : Aw.isSlice Try.prog 34 = true := by kernel_rfl
@[simp] theorem Try.apd34 : Aw.appendable Try.prog 34 = true := by kernel_rfl
@[simp] theorem Try.agg36 : Aw.aggSize Try.prog 36 = some 2 := by kernel_rfl
@[simp] theorem Try.siz36 : Aw.sizeA Try.prog 36 = some 2 := by kernel_rfl
@[simp] theorem Try.zer36 : Aw.zeroA Try.prog 36 = some [.sl .own 4 [], .sl .own 1 []] := by kernel_rfl
@[simp] theorem Try.zsz36 : Aw.zeroSz Try.prog 36 2 = true := by kernel_rfl
@[simp] theorem Try.fld36_0 : Aw.fieldA Try.prog 36 0 = some 0 := by kernel_rfl
@[simp] theorem Try.fld36_1 : Aw.fieldA Try.prog 36 1 = some 1 := by kernel_rfl
@[simp] theorem Try.plc36 : Aw.placesA Try.prog 36 = some [(0, 1), (1, 1)] := by kernel_rfl
@[simp] theorem Try.agg37 : Aw.aggSize Try.prog 37 = none := by kernel_rfl
@[simp] theorem Try.one37 : Aw.oneSize Try.prog 37 = true := by kernel_rfl
@[simp] theorem Try.siz37 : Aw.sizeA Try.prog 37 = some 1 := by kernel_rfl
@[simp] theorem Try.zer37 : Aw.zeroA Try.prog 37 = some [.sl .own 2 []] := by kernel_rfl
@[simp] theorem Try.zsz37 : Aw.zeroSz Try.prog 37 1 = true := by kernel_rfl
@[simp] theorem Try.elm37 : Aw.elemA Try.prog 37 = some (136, 2, 24) := by kernel_rfl
@[simp] theorem Try.isl37 : Aw.isSlice Try.prog 37 = true := by kernel_rfl
@[simp] theorem Try.apd37 : Aw.appendable Try.prog 37 = true := by kernel_rfl
@[simp] theorem Try.agg39 : Aw.aggSize Try.prog 39 = some 1 := by kernel_rfl
@[simp] theorem Try.siz39 : Aw.sizeA Try.prog 39 = some 1 := by kernel_rfl
@[simp] theorem Try.zer39 : Aw.zeroA Try.prog 39 = some [.sl .own 2 []] := by kernel_rfl
@[simp] theorem Try.zsz39 : Aw.zeroSz Try.prog 39 1 = true := by kernel_rfl
@[simp] theorem Try.fld39_0 : Aw.fieldA Try.prog 39 0 = some 0 := by kernel_rfl
@[simp] theorem Try.plc39 : Aw.placesA Try.prog 39 = some [(0, 1)] := by kernel_rfl
@[simp] theorem Try.agg41 : Aw.aggSize Try.prog 41 = some 6 := by kernel_rfl
@[simp] theorem Try.siz41 : Aw.sizeA Try.prog 41 = some 6 := by kernel_rfl
@[simp] theorem Try.zer41 : Aw.zeroA Try.prog 41 = some [.sl .own 4 [], .sl .own 1 [], .sl .own 1 [], .sl .own 1 [], .sl .own 2 [], .bool false] := by kernel_rfl
@[simp] theorem Try.zsz41 : Aw.zeroSz Try.prog 41 6 = true := by kernel_rfl
@[simp] theorem Try.fld41_0 : Aw.fieldA Try.prog 41 0 = some 0 := by kernel_rfl
@[simp] theorem Try.fld41_1 : Aw.fieldA Try.prog 41 1 = some 2 := by kernel_rfl
@[simp] theorem Try.fld41_2 : Aw.fieldA Try.prog 41 2 = some 3 := by kernel_rfl
@[simp] theorem Try.fld41_3 : Aw.fieldA Try.prog 41 3 = some 4 := by kernel_rfl
@[simp] theorem Try.fld41_4 : Aw.fieldA Try.prog 41 4 = some 5 := by kernel_rfl
@[simp] theorem Try.plc41 : Aw.placesA Try.prog 41 = some [(0, 2), (2, 1), (3, 1), (4, 1), (5, 1)] := by kernel_rfl
@[simp] theorem Try.agg45 : Aw.aggSize Try.prog 45 = some 2 := by kernel_rfl
@[simp] theorem Try.siz45 : Aw.sizeA Try.prog 45 = some 2 := by kernel_rfl
@[simp] theorem Try.zer45 : Aw.zeroA Try.prog 45 = some [.str [], .str []] := by kernel_rfl
@[simp] theorem Try.zsz45 : Aw.zeroSz Try.prog 45 2 = true := by kernel_rfl
@[simp] theorem Try.fld45_0 : Aw.fieldA Try.prog 45 0 = some 0 := by kernel_rfl
@[simp] theorem Try.fld45_1 : Aw.fieldA Try.prog 45 1 = some 1 := by kernel_rfl
@[simp] theorem Try.plc45 : Aw.placesA Try.prog 45 = some [(0, 1), (1, 1)] := by kernel_rfl
@[simp] theorem Try.agg47 : Aw.aggSize Try.prog 47 = some 5 := by kernel_rfl
@[simp] theorem Try.siz47 : Aw.sizeA Try.prog 47 = some 5 := by kernel_rfl
@[simp] theorem Try.zer47 : Aw.zeroA Try.prog 47 = some [.bool false, .sl .own 1 [], .sl .own 1 [], .sl .own 1 [], .str []] := by kernel_rfl
@[simp] theorem Try.zsz47 : Aw.zeroSz Try.prog 47 5 = true := by kernel_rfl
@[simp] theorem Try.fld47_0 : Aw.fieldA Try.prog 47 0 = some 0 := by kernel_rfl
@[simp] theorem Try.fld47_1 : Aw.fieldA Try.prog 47 1 = some 1 := by kernel_rfl
@[simp] theorem Try.fld47_2 : Aw.fieldA Try.prog 47 2 = some 2 := by kernel_rfl
@[simp] theorem Try.fld47_3 : Aw.fieldA Try.prog 47 3 = some 3 := by kernel_rfl
@[simp] theorem Try.fld47_4 : Aw.fieldA Try.prog 47 4 = some 4 := by kernel_rfl
@[simp] theorem Try.plc47 : Aw.placesA Try.prog 47 = some [(0, 1), (1, 1), (2, 1), (3, 1), (4, 1)] := by kernel_rfl
@[simp] theorem Try.agg49 : Aw.aggSize Try.prog 49 = some 1 := by kernel_rfl
@[simp] theorem Try.siz49 : Aw.sizeA Try.prog 49 = some 1 := by kernel_rfl
@[simp] theorem Try.zer49 : Aw.zeroA Try.prog 49 = some [.str []] := by kernel_rfl
@[simp] theorem Try.zsz49 : Aw.zeroSz Try.prog 49 1 = true := by kernel_rfl
@[simp] theorem Try.fld49_0 : Aw.fieldA Try.prog 49 0 = some 0 := by kernel_rfl
@[simp] theorem Try.plc49 : Aw.placesA Try.prog 49 = some [(0, 1)] := by kernel_rfl
@[simp] theorem Try.agg50 : Aw.aggSize Try.prog 50 = none := by kernel_rfl
@[simp] theorem Try.one50 : Aw.oneSize Try.prog 50 = true := by kernel_rfl
@[simp] theorem Try.siz50 : Aw.sizeA Try.prog 50 = some 1 := by kernel_rfl
@[simp] theorem Try.zer50 : Aw.zeroA Try.prog 50 = some [.sl .own 4 []] := by kernel_rfl
@[simp] theorem Try.zsz50 : Aw.zeroSz Try.prog 50 1 = true := by kernel_rfl
@[simp] theorem Try.elm50 : Aw.elemA Try.prog 50 = some (146, 4, 64) := by kernel_rfl
@[simp] theorem Try.isl50 : Aw.isSlice Try.prog 50 = true := by kernel_rfl
@[simp] theorem Try.apd50 : Aw.appendable Try.prog 50 = true := by kernel_rfl
@[simp] theorem Try.agg51 : Aw.aggSize Try.prog 51 = none := by kernel_rfl
@[simp] theorem Try.one51 : Aw.oneSize Try.prog 51 = true := by kernel_rfl
@[simp] theorem Try.siz51 : Aw.sizeA Try.prog 51 = some 1 := by kernel_rfl
@[simp] theorem Try.zer51 : Aw.zeroA Try.prog 51 = some [.sl .own 8 []] := by kernel_rfl
@[simp] theorem Try.zsz51 : Aw.zeroSz Try.prog 51 1 = true := by kernel_rfl
@[simp] theorem Try.elm51 : Aw.elemA Try.prog 51 = some (149, 8, 96) := by kernel_rfl
@[simp] theorem Try.isl51 : Aw.isSlice Try.prog 51 = true := by kernel_rfl
@[simp] theorem Try.apd51 : Aw.appendable Try.prog 51 = true := by kernel_rfl
@[simp] theorem Try.agg52 : Aw.aggSize Try.prog 52 = none := by kernel_rfl
@[simp] theorem Try.one52 : Aw.oneSize Try.prog 52 = true := by kernel_rfl
@[simp] theorem Try.siz52 : Aw.sizeA Try.prog 52 = some 1 := by kernel_rfl
@[simp] theorem Try.zer52 : Aw.zeroA Try.prog 52 = some [.sl .own 5 []] := by kernel_rfl
@[simp] theorem Try.zsz52 : Aw.zeroSz Try.prog 52 1 = true := by kernel_rfl
@[simp] theorem Try.elm52 : Aw.elemA Try.prog 52 = some (152, 5, 64) := by kernel_rfl
@[simp] theorem Try.isl52 : Aw.isSlice Try.prog 52 = true := by kernel_rfl
@[simp] theorem Try.apd52 : Aw.appendable Try.prog 52 = true := by kernel_rfl
@[simp] theorem Try.agg53 : Aw.aggSize Try.prog 53 = none := by kernel_rfl
@[simp] theorem Try.one53 : Aw.oneSize Try.prog 53 = true := by kernel_rfl
@[simp] theorem Try.siz53 : Aw.sizeA Try.prog 53 = some 1 := by kernel_rfl
@[simp] theorem Try.zer53 : Aw.zeroA Try.prog 53 = some [.sl .own 2 []] := by kernel_rfl
@[simp] theorem Try.zsz53 : Aw.zeroSz Try.prog 53 1 = true := by kernel_rfl
@[simp] theorem Try.elm53 : Aw.elemA Try.prog 53 = some (45, 2, 32) := by kernel_rfl
@[simp] theorem Try.isl53 : Aw.isSlice Try.prog 53 = true := by kernel_rfl
@[simp] theorem Try.apd53 : Aw.appendable Try.prog 53 = true := by kernel_rfl
@[simp] theorem Try.agg55 : Aw.aggSize Try.prog 55 = some 22 := by kernel_rfl
@[simp] theorem Try.siz55 : Aw.sizeA Try.prog 55 = some 22 := by kernel_rfl
@[simp] theorem Try.zer55 : Aw.zeroA Try.prog 55 = some [.str [], .str [], .bool false, .sl .own 1 [], .sl .own 1 [], .sl .own 1 [], .str [], .str [], .sl .own 4 [], .bool false, .sl .own 4 [], .sl .own 1 [], .sl .own 8 [], .sl .own 5 [], .sl .own 2 [], .int .i64 0, .int .i64 0, .int .i64 0, .int .i64 0, .sl .own 2 [], .sl .own 1 [], .bool false] := by kernel_rfl
@[simp] theorem Try.zsz55 : Aw.zeroSz Try.prog 55 22 = true := by kernel_rfl
@[simp] theorem Try.fld55_0 : Aw.fieldA Try.prog 55 0 = some 0 := by kernel_rfl
@[simp] theorem Try.fld55_1 : Aw.fieldA Try.prog 55 1 = some 2 := by kernel_rfl
@[simp] theorem Try.fld55_2 : Aw.fieldA Try.prog 55 2 = some 7 := by kernel_rfl
@[simp] theorem Try.fld55_3 : Aw.fieldA Try.prog 55 3 = some 8 := by kernel_rfl
@[simp] theorem Try.fld55_4 : Aw.fieldA Try.prog 55 4 = some 9 := by kernel_rfl
@[simp] theorem Try.fld55_5 : Aw.fieldA Try.prog 55 5 = some 10 := by kernel_rfl
@[simp] theorem Try.fld55_6 : Aw.fieldA Try.prog 55 6 = some 12 := by kernel_rfl
@[simp] theorem Try.fld55_7 : Aw.fieldA Try.prog 55 7 = some 13 := by kernel_rfl
@[simp] theorem Try.fld55_8 : Aw.fieldA Try.prog 55 8 = some 14 := by kernel_rfl
@[simp] theorem Try.fld55_9 : Aw.fieldA Try.prog 55 9 = some 15 := by kernel_rfl
@[simp] theorem Try.fld55_10 : Aw.fieldA Try.prog 55 10 = some 16 := by kernel_rfl
@[simp] theorem Try.fld55_11 : Aw.fieldA Try.prog 55 11 = some 17 := by kernel_rfl
@[simp] theorem Try.fld55_12 : Aw.fieldA Try.prog 55 12 = some 18 := by kernel_rfl
@[simp] theorem Try.fld55_13 : Aw.fieldA Try.prog 55 13 = some 19 := by kernel_rfl
@[simp] theorem Try.fld55_14 : Aw.fieldA Try.prog 55 14 = some 20 := by kernel_rfl
@[simp] theorem Try.fld55_15 : Aw.fieldA Try.prog 55 15 = some 21 := by kernel_rfl
@[simp] theorem Try.plc55 : Aw.placesA Try.prog 55 = some [(0, 2), (2, 5), (7, 1), (8, 1), (9, 1), (10, 2), (12, 1), (13, 1), (14, 1), (15, 1), (16, 1), (17, 1), (18, 1), (19, 1), (20, 1), (21, 1)] := by kernel_rfl
@[simp] theorem Try.agg58 : Aw.aggSize Try.prog 58 = some 2 := by kernel_rfl
@[simp] theorem Try.siz58 : Aw.sizeA Try.prog 58 = some 2 := by kernel_rfl
@[simp] theorem Try.zer58 : Aw.zeroA Try.prog 58 = some [.str [], .str []] := by kernel_rfl
@[simp] theorem Try.zsz58 : Aw.zeroSz Try.prog 58 2 = true := by kernel_rfl
@[simp] theorem Try.fld58_0 : Aw.fieldA Try.prog 58 0 = some 0 := by kernel_rfl
@[simp] theorem Try.fld58_1 : Aw.fieldA Try.prog 58 1 = some 1 := by kernel_rfl
@[simp] theorem Try.plc58 : Aw.placesA Try.prog 58 = some [(0, 1), (1, 1)] := by kernel_rfl
@[simp] theorem Try.agg59 : Aw.aggSize Try.prog 59 = some 5 := by kernel_rfl
@[simp] theorem Try.siz59 : Aw.sizeA Try.prog 59 = some 5 := by kernel_rfl
@[simp] theorem Try.zer59 : Aw.zeroA Try.prog 59 = some [.bool false, .sl .own 1 [], .sl .own 1 [], .sl .own 1 [], .str []] := by kernel_rfl
@[simp] theorem Try.zsz59 : Aw.zeroSz Try.prog 59 5 = true := by kernel_rfl
@[simp] theorem Try.fld59_0 : Aw.fieldA Try.prog 59 0 = some 0 := by kernel_rfl
@[simp] theorem Try.fld59_1 : Aw.fieldA Try.prog 59 1 = some 1 := by kernel_rfl
@[simp] theorem Try.fld59_2 : Aw.fieldA Try.prog 59 2 = some 2 := by kernel_rfl
@[simp] theorem Try.fld59_3 : Aw.fieldA Try.prog 59 3 = some 3 := by kernel_rfl
@[simp] theorem Try.fld59_4 : Aw.fieldA Try.prog 59 4 = some 4 := by kernel_rfl
@[simp] theorem Try.plc59 : Aw.placesA Try.prog 59 = some [(0, 1), (1, 1), (2, 1), (3, 1), (4, 1)] := by kernel_rfl
@[simp] theorem Try.agg60 : Aw.aggSize Try.prog 60 = some 1 := by kernel_rfl
@[simp] theorem Try.siz60 : Aw.sizeA Try.prog 60 = some 1 := by kernel_rfl
@[simp] theorem Try.zer60 : Aw.zeroA Try.prog 60 = some [.str []] := by kernel_rfl
@[simp] theorem Try.zsz60 : Aw.zeroSz Try.prog 60 1 = true := by kernel_rfl
@[simp] theorem Try.fld60_0 : Aw.fieldA Try.prog 60 0 = some 0 := by kernel_rfl
@[simp] theorem Try.plc60 : Aw.placesA Try.prog 60 = some [(0, 1)] := by kernel_rfl
@[simp] theorem Try.agg61 : Aw.aggSize Try.prog 61 = none := by kernel_rfl
@[simp] theorem Try.one61 : Aw.oneSize Try.prog 61 = true := by kernel_rfl
@[simp] theorem Try.siz61 : Aw.sizeA Try.prog 61 = some 1 := by kernel_rfl
@[simp] theorem Try.zer61 : Aw.zeroA Try.prog 61 = some [.sl .own 4 []] := by kernel_rfl
@[simp] theorem Try.zsz61 : Aw.zeroSz Try.prog 61 1 = true := by kernel_rfl
@[simp] theorem Try.elm61 : Aw.elemA Try.prog 61 = some (155, 4, 64) := by kernel_rfl
@[simp] theorem Try.isl61 : Aw.isSlice Try.prog 61 = true := by kernel_rfl
@[simp] theorem Try.apd61 : Aw.appendable Try.prog 61 = true := by kernel_rfl
@[simp] theorem Try.agg62 : Aw.aggSize Try.prog 62 = none := by kernel_rfl
@[simp] theorem Try.one62 : Aw.oneSize Try.prog 62 = true := by kernel_rfl
@[simp] theorem Try.siz62 : Aw.sizeA Try.prog 62 = some 1 := by kernel_rfl
@[simp] theorem Try.zer62 : Aw.zeroA Try.prog 62 = some [.sl .own 8 []] := by kernel_rfl
@[simp] theorem Try.zsz62 : Aw.zeroSz Try.prog 62 1 = true := by kernel_rfl
@[simp] theorem Try.elm62 : Aw.elemA Try.prog 62 = some (95, 8, 96) := by kernel_rfl
@[simp] theorem Try.isl62 : Aw.isSlice Try.prog 62 = true := by kernel_rfl
@[simp] theorem Try.apd62 : Aw.appendable Try.prog 62 = true := by kernel_rfl
@[simp] theorem Try.agg63 : Aw.aggSize Try.prog 63 = none := by kernel_rfl
@[simp] theorem Try.one63 : Aw.oneSize Try.prog 63 = true := by kernel_rfl
@[simp] theorem Try.siz63 : Aw.sizeA Try.prog 63 = some 1 := by kernel_rfl
@[simp] theorem Try.zer63 : Aw.zeroA Try.prog 63 = some [.sl .own 5 []] := by kernel_rfl
@[simp] theorem Try.zsz63 : Aw.zeroSz Try.prog 63 1 = true := by kernel_rfl
@[simp] theorem Try.elm63 : Aw.elemA Try.prog 63 = some (99, 5, 64) := by kernel_rfl
@[simp] theorem Try.isl63 : Aw.isSlice Try.prog 63 = true := by kernel_rfl
@[simp] theorem Try.apd63 : Aw.appendable Try.prog 63 = true := by kernel_rfl
@[simp] theorem Try.agg64 : Aw.aggSize Try.prog 64 = none := by kernel_rfl
@[simp] theorem Try.one64 : Aw.oneSize Try.prog 64 = true := by kernel_rfl
@[simp] theorem Try.siz64 : Aw.sizeA Try.prog 64 = some 1 := by kernel_rfl
@[simp] theorem Try.zer64 : Aw.zeroA Try.prog 64 = some [.sl .own 2 []] := by kernel_rfl
@[simp] theorem Try.zsz64 : Aw.zeroSz Try.prog 64 1 = true := by kernel_rfl
@[simp] theorem Try.elm64 : Aw.elemA Try.prog 64 = some (58, 2, 32) := by kernel_rfl
@[simp] theorem Try.isl64 : Aw.isSlice Try.prog 64 = true := by kernel_rfl
@[simp] theorem Try.apd64 : Aw.appendable Try.prog 64 = true := by kernel_rfl
@[simp] theorem Try.agg66 : Aw.aggSize Try.prog 66 = some 22 := by kernel_rfl
@[simp] theorem Try.siz66 : Aw.sizeA Try.prog 66 = some 22 := by kernel_rfl
@[simp] theorem Try.zer66 : Aw.zeroA Try.prog 66 = some [.str [], .str [], .bool false, .sl .own 1 [], .sl .own 1 [], .sl .own 1 [], .str [], .str [], .sl .own 4 [], .bool false, .sl .own 4 [], .sl .own 1 [], .sl .own 8 [], .sl .own 5 [], .sl .own 2 [], .int .i64 0, .int .i64 0, .int .i64 0, .int .i64 0, .sl .own 2 [], .sl .own 1 [], .bool false] := by kernel_rfl
@[simp] theorem Try.zsz66 : Aw.zeroSz Try.prog 66 22 = true := by kernel_rfl
@[simp] theorem Try.fld66_0 : Aw.fieldA Try.prog 66 0 = some 0 := by kernel_rfl
@[simp] theorem Try.fld66_1 : Aw.fieldA Try.prog 66 1 = some 2 := by kernel_rfl
@[simp] theorem Try.fld66_2 : Aw.fieldA Try.prog 66 2 = some 7 := by kernel_rfl
@[simp] theorem Try.fld66_3 : Aw.fieldA Try.prog 66 3 = some 8 := by kernel_rfl
@[simp] theorem Try.fld66_4 : Aw.fieldA Try.prog 66 4 = some 9 := by kernel_rfl
@[simp] theorem Try.fld66_5 : Aw.fieldA Try.prog 66 5 = some 10 := by kernel_rfl
@[simp] theorem Try.fld66_6 : Aw.fieldA Try.prog 66 6 = some 12 := by kernel_rfl
@[simp] theorem Try.fld66_7 : Aw.fieldA Try.prog 66 7 = some 13 := by kernel_rfl
@[simp] theorem Try.fld66_8 : Aw.fieldA Try.prog 66 8 = some 14 := by kernel_rfl
@[simp] theorem Try.fld66_9 : Aw.fieldA Try.prog 66 9 = some 15 := by kernel_rfl
@[simp] theorem Try.fld66_10 : Aw.fieldA Try.prog 66 10 = some 16 := by kernel_rfl
@[simp] theorem Try.fld66_11 : Aw.fieldA Try.prog 66 11 = some 17 := by kernel_rfl
@[simp] theorem Try.fld66_12 : Aw.fieldA Try.prog 66 12 = some 18 := by kernel_rfl
@[simp] theorem Try.fld66_13 : Aw.fieldA Try.prog 66 13 = some 19 := by kernel_rfl
@[simp] theorem Try.fld66_14 : Aw.fieldA Try.prog 66 14 = some 20 := by kernel_rfl
@[simp] theorem Try.fld66_15 : Aw.fieldA Try.prog 66 15 = some 21 := by kernel_rfl
@[simp] theorem Try.plc66 : Aw.placesA Try.prog 66 = some [(0, 2), (2, 5), (7, 1), (8, 1), (9, 1), (10, 2), (12, 1), (13, 1), (14, 1), (15, 1), (16, 1), (17, 1), (18, 1), (19, 1), (20, 1), (21, 1)] := by kernel_rfl
@[simp] theorem Try.agg73 : Aw.aggSize Try.prog 73 = none := by kernel_rfl
@[simp] theorem Try.one73 : Aw.oneSize Try.prog 73 = true := by kernel_rfl
@[simp] theorem Try.siz73 : Aw.sizeA Try.prog 73 = some 1 := by kernel_rfl
@[simp] theorem Try.zer73 : Aw.zeroA Try.prog 73 = some [.sl .own 5 []] := by kernel_rfl
@[simp] theorem Try.zsz73 : Aw.zeroSz Try.prog 73 1 = true := by kernel_rfl
@[simp] theorem Try.elm73 : Aw.elemA Try.prog 73 = some (123, 5, 72) := by kernel_rfl
@[simp] theorem Try.isl73 : Aw.isSlice Try.prog 73 = true := by kernel_rfl
@[simp] theorem Try.apd73 : Aw.appendable Try.prog 73 = true := by kernel_rfl
@[simp] theorem Try.agg82 : Aw.aggSize Try.prog 82 = none := by kernel_rfl
@[simp] theorem Try.one82 : Aw.oneSize Try.prog 82 = true := by kernel_rfl
@[simp] theorem Try.siz82 : Aw.sizeA Try.prog 82 = some 1 := by kernel_rfl
@[simp] theorem Try.zer82 : Aw.zeroA Try.prog 82 = some [.sl .own 1 []] := by kernel_rfl
@[simp] theorem Try.zsz82 : Aw.zeroSz Try.prog 82 1 = true := by kernel_rfl
@[simp] theorem Try.elm82 : Aw.elemA Try.prog 82 = some (39, 1, 24) := by kernel_rfl
@[simp] theorem Try.isl82 : Aw.isSlice Try.prog 82 = true := by kernel_rfl
@[simp] theorem Try.apd82 : Aw.appendable Try.prog 82 = true := by kernel_rfl
@[simp] theorem Try.agg95 : Aw.aggSize Try.prog 95 = some 8 := by kernel_rfl
@[simp] theorem Try.siz95 : Aw.sizeA Try.prog 95 = some 8 := by kernel_rfl
@[simp] theorem Try.zer95 : Aw.zeroA Try.prog 95 = some [.int .i64 0, .str [], .str [], .str [], .int .i64 0, .bool false, .int .i64 0, .str []] := by kernel_rfl
@[simp] theorem Try.zsz95 : Aw.zeroSz Try.prog 95 8 = true := by kernel_rfl
@[simp] theorem Try.fld95_0 : Aw.fieldA Try.prog 95 0 = some 0 := by kernel_rfl
@[simp] theorem Try.fld95_1 : Aw.fieldA Try.prog 95 1 = some 1 := by kernel_rfl
@[simp] theorem Try.fld95_2 : Aw.fieldA Try.prog 95 2 = some 3 := by kernel_rfl
@[simp] theorem Try.fld95_3 : Aw.fieldA Try.prog 95 3 = some 4 := by kernel_rfl
@[simp] theorem Try.fld95_4 : Aw.fieldA Try.prog 95 4 = some 5 := by kernel_rfl
@[simp] theorem Try.fld95_5 : Aw.fieldA Try.prog 95 5 = some 6 := by kernel_rfl
@[simp] theorem Try.fld95_6 : Aw.fieldA Try.prog 95 6 = some 7 := by kernel_rfl
@[simp] theorem Try.plc95 : Aw.placesA Try.prog 95 = some [(0, 1), (1, 2), (3, 1), (4, 1), (5, 1), (6, 1), (7, 1)] := by kernel_rfl
@[simp] theorem Try.agg99 : Aw.aggSize Try.prog 99 = some 5 := by kernel_rfl
@[simp] theorem Try.siz99 : Aw.sizeA Try.prog 99 = some 5 := by kernel_rfl
@[simp] theorem Try.zer99 : Aw.zeroA Try.prog 99 = some [.str [], .str [], .bool false, .int .i64 0, .str []] := by kernel_rfl
@[simp] theorem Try.zsz99 : Aw.zeroSz Try.prog 99 5 = true := by kernel_rfl
@[simp] theorem Try.fld99_0 : Aw.fieldA Try.prog 99 0 = some 0 := by kernel_rfl
@[simp] theorem Try.fld99_1 : Aw.fieldA Try.prog 99 1 = some 2 := by kernel_rfl
@[simp] theorem Try.fld99_2 : Aw.fieldA Try.prog 99 2 = some 3 := by kernel_rfl
@[simp] theorem Try.fld99_3 : Aw.fieldA Try.prog 99 3 = some 4 := by kernel_rfl
@[simp] theorem Try.plc99 : Aw.placesA Try.prog 99 = some [(0, 2), (2, 1), (3, 1), (4, 1)] := by kernel_rfl
@[simp] theorem Try.agg123 : Aw.aggSize Try.prog 123 = some 5 := by kernel_rfl
@[simp] theorem Try.siz123 : Aw.sizeA Try.prog 123 = some 5 := by kernel_rfl
@[simp] theorem Try.zer123 : Aw.zeroA Try.prog 123 = some [.int .i64 0, .str [], .str [], .str [], .str []] := by kernel_rfl
@[simp] theorem Try.zsz123 : Aw.zeroSz Try.prog 123 5 = true := by kernel_rfl
@[simp] theorem Try.fld123_0 : Aw.fieldA Try.prog 123 0 = some 0 := by kernel_rfl
@[simp] theorem Try.fld123_1 : Aw.fieldA Try.prog 123 1 = some 1 := by kernel_rfl
@[simp] theorem Try.fld123_2 : Aw.fieldA Try.prog 123 2 = some 3 := by kernel_rfl
@[simp] theorem Try.fld123_3 : Aw.fieldA Try.prog 123 3 = some 4 := by kernel_rfl
@[simp] theorem Try.plc123 : Aw.placesA Try.prog 123 = some [(0, 1), (1, 2), (3, 1), (4, 1)] := by kernel_rfl
@[simp] theorem Try.agg132 : Aw.aggSize Try.prog 132 = none := by kernel_rfl
@[simp] theorem Try.one132 : Aw.oneSize Try.prog 132 = true := by kernel_rfl
@[simp] theorem Try.siz132 : Aw.sizeA Try.prog 132 = some 1 := by kernel_rfl
@[simp] theorem Try.zer132 : Aw.zeroA Try.prog 132 = some [.sl .own 2 []] := by kernel_rfl
@[simp] theorem Try.zsz132 : Aw.zeroSz Try.prog 132 1 = true := by kernel_rfl
@[simp] theorem Try.elm132 : Aw.elemA Try.prog 132 = some (175, 2, 32) := by kernel_rfl
@[simp] theorem Try.isl132 : Aw.isSlice Try.prog 132 = true := by kernel_rfl
@[simp] theorem Try.apd132 : Aw.appendable Try.prog 132 = true := by kernel_rfl
@[simp] theorem Try.agg134 : Aw.aggSize Try.prog 134 = some 4 := by kernel_rfl
@[simp] theorem Try.siz134 : Aw.sizeA Try.prog 134 = some 4 := by kernel_rfl
@[simp] theorem Try.zer134 : Aw.zeroA Try.prog 134 = some [.str [], .str [], .int .i64 0, .sl .own 2 []] := by kernel_rfl
@[simp] theorem Try.zsz134 : Aw.zeroSz Try.prog 134 4 = true := by kernel_rfl
@[simp] theorem Try.fld134_0 : Aw.fieldA Try.prog 134 0 = some 0 := by kernel_rfl
@[simp] theorem Try.fld134_1 : Aw.fieldA Try.prog 134 1 = some 1 := by kernel_rfl
@[simp] theorem Try.fld134_2 : Aw.fieldA Try.prog 134 2 = some 2 := by kernel_rfl
@[simp] theorem Try.fld134_3 : Aw.fieldA Try.prog 134 3 = some 3 := by kernel_rfl
@[simp] theorem Try.plc134 : Aw.placesA Try.prog 134 = some [(0, 1), (1, 1), (2, 1), (3, 1)] := by kernel_rfl
@[simp] theorem Try.agg136 : Aw.aggSize Try.prog 136 = some 2 := by kernel_rfl
@[simp] theorem Try.siz136 : Aw.sizeA Try.prog 136 = some 2 := by kernel_rfl
@[simp] theorem Try.zer136 : Aw.zeroA Try.prog 136 = some [.str [], .int .i64 0] := by kernel_rfl
@[simp] theorem Try.zsz136 : Aw.zeroSz Try.prog 136 2 = true := by kernel_rfl
@[simp] theorem Try.fld136_0 : Aw.fieldA Try.prog 136 0 = some 0 := by kernel_rfl
@[simp] theorem Try.fld136_1 : Aw.fieldA Try.prog 136 1 = some 1 := by kernel_rfl
@[simp] theorem Try.plc136 : Aw.placesA Try.prog 136 = some [(0, 1), (1, 1)] := by kernel_rfl
@[simp] theorem Try.agg144 : Aw.aggSize Try.prog 144 = none := by kernel_rfl
@[simp] theorem Try.one144 : Aw.oneSize Try.prog 144 = true := by kernel_rfl
@[simp] theorem Try.siz144 : Aw.sizeA Try.prog 144 = some 1 := by kernel_rfl
@[simp] theorem Try.zer144 : Aw.zeroA Try.prog 144 = some [.sl .own 2 []] := by kernel_rfl
@[simp] theorem Try.zsz144 : Aw.zeroSz Try.prog 144 1 = true := by kernel_rfl
@[simp] theorem Try.elm144 : Aw.elemA Try.prog 144 = some (186, 2, 32) := by kernel_rfl
@[simp] theorem Try.isl144 : Aw.isSlice Try.prog 144 = true := by kernel_rfl
@[simp] theorem Try.apd144 : Aw.appendable Try.prog 144 = true := by kernel_rfl
@[simp] theorem Try.agg146 : Aw.aggSize Try.prog 146 = some 4 := by kernel_rfl
@[simp] theorem Try.siz146 : Aw.sizeA Try.prog 146 = some 4 := by kernel_rfl
@[simp] theorem Try.zer146 : Aw.zeroA Try.prog 146 = some [.int .i64 0, .str [], .sl .own 2 [], .str []] := by kernel_rfl
@[simp] theorem Try.zsz146 : Aw.zeroSz Try.prog 146 4 = true := by kernel_rfl
@[simp] theorem Try.fld146_0 : Aw.fieldA Try.prog 146 0 = some 0 := by kernel_rfl
@[simp] theorem Try.fld146_1 : Aw.fieldA Try.prog 146 1 = some 1 := by kernel_rfl
@[simp] theorem Try.fld146_2 : Aw.fieldA Try.prog 146 2 = some 2 := by kernel_rfl
@[simp] theorem Try.fld146_3 : Aw.fieldA Try.prog 146 3 = some 3 := by kernel_rfl
@[simp] theorem Try.plc146 : Aw.placesA Try.prog 146 = some [(0, 1), (1, 1), (2, 1), (3, 1)] := by kernel_rfl
@[simp] theorem Try.agg149 : Aw.aggSize Try.prog 149 = some 8 := by kernel_rfl
@[simp] theorem Try.siz149 : Aw.sizeA Try.prog 149 = some 8 := by kernel_rfl
@[simp] theorem Try.zer149 : Aw.zeroA Try.prog 149 = some [.int .i64 0, .str [], .str [], .str [], .int .i64 0, .bool false, .int .i64 0, .str []] := by kernel_rfl
@[simp] theorem Try.zsz149 : Aw.zeroSz Try.prog 149 8 = true := by kernel_rfl
@[simp] theorem Try.fld149_0 : Aw.fieldA Try.prog 149 0 = some 0 := by kernel_rfl
@[simp] theorem Try.fld149_1 : Aw.fieldA Try.prog 149 1 = some 1 := by kernel_rfl
@[simp] theorem Try.fld149_2 : Aw.fieldA Try.prog 149 2 = some 3 := by kernel_rfl
@[simp] theorem Try.fld149_3 : Aw.fieldA Try.prog 149 3 = some 4 := by kernel_rfl
@[simp] theorem Try.fld149_4 : Aw.fieldA Try.prog 149 4 = some 5 := by kernel_rfl
@[simp] theorem Try.fld149_5 : Aw.fieldA Try.prog 149 5 = some 6 := by kernel_rfl
@[simp] theorem Try.fld149_6 : Aw.fieldA Try.prog 149 6 = some 7 := by kernel_rfl
@[simp] theorem Try.plc149 : Aw.placesA Try.prog 149 = some [(0, 1), (1, 2), (3, 1), (4, 1), (5, 1), (6, 1), (7, 1)] := by kernel_rfl
@[simp] theorem Try.agg152 : Aw.aggSize Try.prog 152 = some 5 := by kernel_rfl
@[simp] theorem Try.siz152 : Aw.sizeA Try.prog 152 = some 5 := by kernel_rfl
@[simp] theorem Try.zer152 : Aw.zeroA Try.prog 152 = some [.str [], .str [], .bool false, .int .i64 0, .str []] := by kernel_rfl
@[simp] theorem Try.zsz152 : Aw.zeroSz Try.prog 152 5 = true := by kernel_rfl
@[simp] theorem Try.fld152_0 : Aw.fieldA Try.prog 152 0 = some 0 := by kernel_rfl
@[simp] theorem Try.fld152_1 : Aw.fieldA Try.prog 152 1 = some 2 := by kernel_rfl
@[simp] theorem Try.fld152_2 : Aw.fieldA Try.prog 152 2 = some 3 := by kernel_rfl
@[simp] theorem Try.fld152_3 : Aw.fieldA Try.prog 152 3 = some 4 := by kernel_rfl
@[simp] theorem Try.plc152 : Aw.placesA Try.prog 152 = some [(0, 2), (2, 1), (3, 1), (4, 1)] := by kernel_rfl
@[simp] theorem Try.agg155 : Aw.aggSize Try.prog 155 = some 4 := by kernel_rfl
@[simp] theorem Try.siz155 : Aw.sizeA Try.prog 155 = some 4 := by kernel_rfl
@[simp] theorem Try.zer155 : Aw.zeroA Try.prog 155 = some [.int .i64 0, .str [], .sl .own 2 [], .str []] := by kernel_rfl
@[simp] theorem Try.zsz155 : Aw.zeroSz Try.prog 155 4 = true := by kernel_rfl
@[simp] theorem Try.fld155_0 : Aw.fieldA Try.prog 155 0 = some 0 := by kernel_rfl
@[simp] theorem Try.fld155_1 : Aw.fieldA Try.prog 155 1 = some 1 := by kernel_rfl
@[simp] theorem Try.fld155_2 : Aw.fieldA Try.prog 155 2 = some 2 := by kernel_rfl
@[simp] theorem Try.fld155_3 : Aw.fieldA Try.prog 155 3 = some 3 := by kernel_rfl
@[simp] theorem Try.plc155 : Aw.placesA Try.prog 155 = some [(0, 1), (1, 1), (2, 1), (3, 1)] := by kernel_rfl
@[simp] theorem Try.agg164 : Aw.aggSize Try.prog 164 = none := by kernel_rfl
@[simp] theorem Try.one164 : Aw.oneSize Try.prog 164 = true := by kernel_rfl
@[simp] theorem Try.siz164 : Aw.sizeA Try.prog 164 = some 1 := by kernel_rfl
@[simp] theorem Try.zer164 : Aw.zeroA Try.prog 164 = some [.sl .own 1 []] := by kernel_rfl
@[simp] theorem Try.zsz164 : Aw.zeroSz Try.prog 164 1 = true := by kernel_rfl
@[simp] theorem Try.elm164 : Aw.elemA Try.prog 164 = some (5, 1, 1) := by kernel_rfl
@[simp] theorem Try.isl164 : Aw.isSlice Try.prog 164 = true := by kernel_rfl
@[simp] theorem Try.apd164 : Aw.appendable Try.prog 164 = true := by kernel_rfl
@[simp] theorem Try.agg171 : Aw.aggSize Try.prog 171 = some 4 := by kernel_rfl
@[simp] theorem Try.siz171 : Aw.sizeA Try.prog 171 = some 4 := by kernel_rfl
@[simp] theorem Try.zer171 : Aw.zeroA Try.prog 171 = some [.str [], .str [], .int .i64 0, .sl .own 2 []] := by kernel_rfl
@[simp] theorem Try.zsz171 : Aw.zeroSz Try.prog 171 4 = true := by kernel_rfl
@[simp] theorem Try.fld171_0 : Aw.fieldA Try.prog 171 0 = some 0 := by kernel_rfl
@[simp] theorem Try.fld171_1 : Aw.fieldA Try.prog 171 1 = some 1 := by kernel_rfl
@[simp] theorem Try.fld171_2 : Aw.fieldA Try.prog 171 2 = some 2 := by kernel_rfl
@[simp] theorem Try.fld171_3 : Aw.fieldA Try.prog 171 3 = some 3 := by kernel_rfl
@[simp] theorem Try.plc171 : Aw.placesA Try.prog 171 = some [(0, 1), (1, 1), (2, 1), (3, 1)] := by kernel_rfl
@[simp] theorem Try.agg173 : Aw.aggSize Try.prog 173 = some 2 := by kernel_rfl
@[simp] theorem Try.siz173 : Aw.sizeA Try.prog 173 = some 2 := by kernel_rfl
@[simp] theorem Try.zer173 : Aw.zeroA Try.prog 173 = some [.str [], .int .i64 0] := by kernel_rfl
@[simp] theorem Try.zsz173 : Aw.zeroSz Try.prog 173 2 = true := by kernel_rfl
@[simp] theorem Try.fld173_0 : Aw.fieldA Try.prog 173 0 = some 0 := by kernel_rfl
@[simp] theorem Try.fld173_1 : Aw.fieldA Try.prog 173 1 = some 1 := by kernel_rfl
@[simp] theorem Try.plc173 : Aw.placesA Try.prog 173 = some [(0, 1), (1, 1)] := by kernel_rfl
@[simp] theorem Try.agg175 : Aw.aggSize Try.prog 175 = some 2 := by kernel_rfl
@[simp] theorem Try.siz175 : Aw.sizeA Try.prog 175 = some 2 := by kernel_rfl
@[simp] theorem Try.zer175 : Aw.zeroA Try.prog 175 = some [.str [], .str []] := by kernel_rfl
@[simp] theorem Try.zsz175 : Aw.zeroSz Try.prog 175 2 = true := by kernel_rfl
@[simp] theorem Try.fld175_0 : Aw.fieldA Try.prog 175 0 = some 0 := by kernel_rfl
@[simp] theorem Try.fld175_1 : Aw.fieldA Try.prog 175 1 = some 1 := by kernel_rfl
@[simp] theorem Try.plc175 : Aw.placesA Try.prog 175 = some [(0, 1), (1, 1)] := by kernel_rfl
@[simp] theorem Try.agg186 : Aw.aggSize Try.prog 186 = some 2 := by kernel_rfl
@[simp] theorem Try.siz186 : Aw.sizeA Try.prog 186 = some 2 := by kernel_rfl
@[simp] theorem Try.zer186 : Aw.zeroA Try.prog 186 = some [.str [], .str []] := by kernel_rfl
@[simp] theorem Try.zsz186 : Aw.zeroSz Try.prog 186 2 = true := by kernel_rfl
@[simp] theorem Try.fld186_0 : Aw.fieldA Try.prog 186 0 = some 0 := by kernel_rfl
@[simp] theorem Try.fld186_1 : Aw.fieldA Try.prog 186 1 = some 1 := by kernel_rfl
@[simp] theorem Try.plc186 : Aw.placesA Try.prog 186 = some [(0, 1), (1, 1)] := by kernel_rfl
@[simp] theorem Try.agg197 : Aw.aggSize Try.prog 197 = none := by kernel_rfl
@[simp] theorem Try.one197 : Aw.oneSize Try.prog 197 = true := by kernel_rfl
@[simp] theorem Try.siz197 : Aw.sizeA Try.prog 197 = some 1 := by kernel_rfl
@[simp] theorem Try.zer197 : Aw.zeroA Try.prog 197 = some [.int .u32 0] := by kernel_rfl
@[simp] theorem Try.zsz197 : Aw.zeroSz Try.prog 197 1 = true := by kernel_rfl
@[simp] theorem Try.int197 : Aw.intType Try.prog 197 = some .u32 := by kernel_rfl
@[simp] theorem Try.som197 : (Try.prog.underlying 197).isSome = true := by kernel_rfl
@[simp] theorem Try.cal3 : Aw.callable Try.prog 3 = true := by kernel_rfl
@[simp] theorem Try.cal4 : Aw.callable Try.prog 4 = true := by kernel_rfl
@[simp] theorem Try.cal5 : Aw.callable Try.prog 5 = true := by kernel_rfl
@[simp] theorem Try.cal6 : Aw.callable Try.prog 6 = true := by kernel_rfl
@[simp] theorem Try.cal7 : Aw.callable Try.prog 7 = true := by kernel_rfl
@[simp] theorem Try.cal8 : Aw.callable Try.prog 8 = true := by kernel_rfl
@[simp] theorem Try.cal9 : Aw.callable Try.prog 9 = true := by kernel_rfl
@[simp] theorem Try.cal10 : Aw.callable Try.prog 10 = true := by kernel_rfl
@[simp] theorem Try.cal11 : Aw.callable Try.prog 11 = true := by kernel_rfl
@[simp] theorem Try.cal12 : Aw.callable Try.prog 12 = true := by kernel_rfl
@[simp] theorem Try.cal13 : Aw.callable Try.prog 13 = true := by kernel_rfl
@[simp] theorem Try.cal14 : Aw.callable Try.prog 14 = true := by kernel_rfl
@[simp] theorem Try.cal15 : Aw.callable Try.prog 15 = true := by kernel_rfl
@[simp] theorem Try.cal16 : Aw.callable Try.prog 16 = true := by kernel_rfl
@[simp] theorem Try.cal17 : Aw.callable Try.prog 17 = true := by kernel_rfl
@[simp] theorem Try.cal18 : Aw.callable Try.prog 18 = true := by kernel_rfl
@[simp] theorem Try.cal19 : Aw.callable Try.prog 19 = true := by kernel_rfl
@[simp] theorem Try.cal20 : Aw.callable Try.prog 20 = true := by kernel_rfl
@[simp] theorem Try.cal21 : Aw.callable Try.prog 21 = true := by kernel_rfl
@[simp] theorem Try.cal22 : Aw.callable Try.prog 22 = true := by kernel_rfl
@[simp] theorem Try.cal23 : Aw.callable Try.prog 23 = true := by kernel_rfl
@[simp] theorem Try.cal24 : Aw.callable Try.prog 24 = true := by kernel_rfl
@[simp] theorem Try.cal25 : Aw.callable Try.prog 25 = true := by kernel_rfl
@[simp] theorem Try.cal26 : Aw.callable Try.prog 26 = true := by kernel_rfl
@[simp] theorem Try.cal27 : Aw.callable Try.prog 27 = true := by kernel_rfl
@[simp] theorem Try.cal28 : Aw.callable Try.prog 28 = true := by kernel_rfl
@[simp] theorem Try.cal29 : Aw.callable Try.prog 29 = true := by kernel_rfl
@[simp] theorem Try.cal30 : Aw.callable Try.prog 30 = true := by kernel_rfl
@[simp] theorem Try.cal31 : Aw.callable Try.prog 31 = true := by kernel_rfl
@[simp] theorem Try.cal32 : Aw.callable Try.prog 32 = true := by kernel_rfl
@[simp] theorem Try.cal33 : Aw.callable Try.prog 33 = true := by kernel_rfl
@[simp] theorem Try.cal34 : Aw.callable Try.prog 34 = true := by kernel_rfl
@[simp] theorem Try.cal35 : Aw.callable Try.prog 35 = true := by kernel_rfl
@[simp] theorem Try.cal36 : Aw.callable Try.prog 36 = true := by kernel_rfl
@[simp] theorem Try.cal37 : Aw.callable Try.prog 37 = true := by kernel_rfl
@[simp] theorem Try.cal38 : Aw.callable Try.prog 38 = true := by kernel_rfl
@[simp] theorem Try.cal39 : Aw.callable Try.prog 39 = true := by kernel_rfl
@[simp] theorem Try.cal40 : Aw.callable Try.prog 40 = true := by kernel_rfl
@[simp] theorem Try.cal41 : Aw.callable Try.prog 41 = true := by kernel_rfl
@[simp] theorem Try.cal42 : Aw.callable Try.prog 42 = true := by kernel_rfl
@[simp] theorem Try.cal43 : Aw.callable Try.prog 43 = true := by kernel_rfl
@[simp] theorem Try.cal44 : Aw.callable Try.prog 44 = true := by kernel_rfl
@[simp] theorem Try.cal45 : Aw.callable Try.prog 45 = true := by kernel_rfl
@[simp] theorem Try.cal46 : Aw.callable Try.prog 46 = true := by kernel_rfl
@[simp] theorem Try.cal47 : Aw.callable Try.prog 47 = true := by kernel_rfl
@[simp] theorem Try.cal48 : Aw.callable Try.prog 48 = true := by kernel_rfl
@[simp] theorem Try.cal49 : Aw.callable Try.prog 49 = true := by kernel_rfl
@[simp] theorem Try.cal50 : Aw.callable Try.prog 50 = true := by kernel_rfl
@[simp] theorem Try.cal51 : Aw.callable Try.prog 51 = true := by kernel_rfl
@[simp] theorem Try.cal52 : Aw.callable Try.prog 52 = true := by kernel_rfl
@[simp] theorem Try.cal53 : Aw.callable Try.prog 53 = true := by kernel_rfl
@[simp] theorem Try.cal54 : Aw.callable Try.prog 54 = true := by kernel_rfl
@[simp] theorem Try.cal55 : Aw.callable Try.prog 55 = true := by kernel_rfl
@[simp] theorem Try.cal56 : Aw.callable Try.prog 56 = true := by kernel_rfl
@[simp] theorem Try.cal57 : Aw.callable Try.prog 57 = true := by kernel_rfl
@[simp] theorem Try.cal58 : Aw.callable Try.prog 58 = true := by kernel_rfl
@[simp] theorem Try.cal59 : Aw.callable Try.prog 59 = true := by kernel_rfl
@[simp] theorem Try.cal60 : Aw.callable Try.prog 60 = true := by kernel_rfl
@[simp] theorem Try.cal61 : Aw.callable Try.prog 61 = true := by kernel_rfl
@[simp] theorem Try.cal62 : Aw.callable Try.prog 62 = true := by kernel_rfl
@[simp] theorem Try.cal63 : Aw.callable Try.prog 63 = true := by kernel_rfl
@[simp] theorem Try.cal64 : Aw.callable Try.prog 64 = true := by kernel_rfl
@[simp] theorem Try.cal65 : Aw.callable Try.prog 65 = true := by kernel_rfl
@[simp] theorem Try.cal66 : Aw.callable Try.prog 66 = true := by kernel_rfl
@[simp] theorem Try.cal67 : Aw.callable Try.prog 67 = true := by kernel_rfl
@[simp] theorem Try.cal68 : Aw.callable Try.prog 68 = true := by kernel_rfl
@[simp] theorem Try.cal69 : Aw.callable Try.prog 69 = true := by kernel_rfl
@[simp] theorem Try.cal70 : Aw.callable Try.prog 70 = true := by kernel_rfl
@[simp] theorem Try.cal71 : Aw.callable Try.prog 71 = true := by kernel_rfl
@[simp] theorem Try.cal72 : Aw.callable Try.prog 72 = true := by kernel_rfl
@[simp] theorem Try.cal73 : Aw.callable Try.prog 73 = true := by kernel_rfl
@[simp] theorem Try.cal74 : Aw.callable Try.prog 74 = true := by kernel_rfl
@[simp] theorem Try.cal75 : Aw.callable Try.prog 75 = true := by kernel_rfl
@[simp] theorem Try.cal76 : Aw.callable Try.prog 76 = true := by kernel_rfl
@[simp] theorem Try.cal77 : Aw.callable Try.prog 77 = true := by kernel_rfl
@[simp] theorem Try.cal78 : Aw.callable Try.prog 78 = true := by kernel_rfl
@[simp] theorem Try.cal79 : Aw.callable Try.prog 79 = true := by kernel_rfl
@[simp] theorem Try.cal80 : Aw.callable Try.prog 80 = true := by kernel_rfl
@[simp] theorem Try.cal81 : Aw.callable Try.prog 81 = true := by kernel_rfl
@[simp] theorem Try.cal82 : Aw.callable Try.prog 82 = true := by kernel_rfl
@[simp] theorem Try.cal83 : Aw.callable Try.prog 83 = true := by kernel_rfl
@[simp] theorem Try.cal84 : Aw.callable Try.prog 84 = true := by kernel_rfl
@[simp] theorem Try.cal85 : Aw.callable Try.prog 85 = true := by kernel_rfl
@[simp] theorem Try.cal86 : Aw.callable Try.prog 86 = true := by kernel_rfl
@[simp] theorem Try.cal87 : Aw.callable Try.prog 87 = true := by kernel_rfl
@[simp] theorem Try.cal88 : Aw.callable Try.prog 88 = true := by kernel_rfl
@[simp] theorem Try.cal89 : Aw.callable Try.prog 89 = true := by kernel_rfl
@[simp] theorem Try.cal90 : Aw.callable Try.prog 90 = true := by kernel_rfl
@[simp] theorem Try.cal91 : Aw.callable Try.prog 91 = true := by kernel_rfl
@[simp] theorem Try.cal92 : Aw.callable Try.prog 92 = true := by kernel_rfl
@[simp] theorem Try.cal93 : Aw.callable Try.prog 93 = true := by kernel_rfl
@[simp] theorem Try.cal94 : Aw.callable Try.prog 94 = true := by kernel_rfl
@[simp] theorem Try.cal95 : Aw.callable Try.prog 95 = true := by kernel_rfl
@[simp] theorem Try.cal96 : Aw.callable Try.prog 96 = true := by kernel_rfl
@[simp] theorem Try.cal97 : Aw.callable Try.prog 97 = true := by kernel_rfl
@[simp] theorem Try.cal98 : Aw.callable Try.prog 98 = true := by kernel_rfl
@[simp] theorem Try.cal99 : Aw.callable Try.prog 99 = true := by kernel_rfl
@[simp] theorem Try.cal100 : Aw.callable Try.prog 100 = true := by kernel_rfl
@[simp] theorem Try.cal101 : Aw.callable Try.prog 101 = true := by kernel_rfl
@[simp] theorem Try.cal102 : Aw.callable Try.prog 102 = true := by kernel_rfl
@[simp] theorem Try.cal103 : Aw.callable Try.prog 103 = true := by kernel_rfl
@[simp] theorem Try.cal104 : Aw.callable Try.prog 104 = true := by kernel_rfl
@[simp] theorem Try.cal105 : Aw.callable Try.prog 105 = true := by kernel_rfl
@[simp] theorem Try.cal106 : Aw.callable Try.prog 106 = true := by kernel_rfl
@[simp] theorem Try.cal107 : Aw.callable Try.prog 107 = true := by kernel_rfl
@[simp] theorem Try.cal108 : Aw.callable Try.prog 108 = true := by kernel_rfl
@[simp] theorem Try.cal109 : Aw.callable Try.prog 109 = true := by kernel_rfl
@[simp] theorem Try.cal110 : Aw.callable Try.prog 110 = true := by kernel_rfl
@[simp] theorem Try.cal111 : Aw.callable Try.prog 111 = true := by kernel_rfl
@[simp] theorem Try.cal112 : Aw.callable Try.prog 112 = true := by kernel_rfl
@[simp] theorem Try.cal113 : Aw.callable Try.prog 113 = true := by kernel_rfl
@[simp] theorem Try.cal114 : Aw.callable Try.prog 114 = true := by kernel_rfl
@[simp] theorem Try.cal115 : Aw.callable Try.prog 115 = true := by kernel_rfl
@[simp] theorem Try.cal116 : Aw.callable Try.prog 116 = true := by kernel_rfl
@[simp] theorem Try.cal117 : Aw.callable Try.prog 117 = true := by kernel_rfl
@[simp] theorem Try.cal118 : Aw.callable Try.prog 118 = true := by kernel_rfl
@[simp] theorem Try.cal119 : Aw.callable Try.prog 119 = true := by kernel_rfl
@[simp] theorem Try.cal120 : Aw.callable Try.prog 120 = true := by kernel_rfl
@[simp] theorem Try.cal121 : Aw.callable Try.prog 121 = true := by kernel_rfl
@[simp] theorem Try.cal122 : Aw.callable Try.prog 122 = true := by kernel_rfl
@[simp] theorem Try.cal123 : Aw.callable Try.prog 123 = true := by kernel_rfl
@[simp] theorem Try.cal124 : Aw.callable Try.prog 124 = true := by kernel_rfl
@[simp] theorem Try.cal125 : Aw.callable Try.prog 125 = true := by kernel_rfl
@[simp] theorem Try.cal126 : Aw.callable Try.prog 126 = true := by kernel_rfl
@[simp] theorem Try.cal127 : Aw.callable Try.prog 127 = true := by kernel_rfl
@[simp] theorem Try.cal128 : Aw.callable Try.prog 128 = true := by kernel_rfl
@[simp] theorem Try.cal129 : Aw.callable Try.prog 129 = true := by kernel_rfl
@[simp] theorem Try.cal130 : Aw.callable Try.prog 130 = true := by kernel_rfl
@[simp] theorem Try.cal131 : Aw.callable Try.prog 131 = true := by kernel_rfl
@[simp] theorem Try.cal132 : Aw.callable Try.prog 132 = true := by kernel_rfl
@[simp] theorem Try.cal133 : Aw.callable Try.prog 133 = true := by kernel_rfl
@[simp] theorem Try.cal134 : Aw.callable Try.prog 134 = true := by kernel_rfl
@[simp] theorem Try.cal135 : Aw.callable Try.prog 135 = true := by kernel_rfl
@[simp] theorem Try.cal136 : Aw.callable Try.prog 136 = true := by kernel_rfl
@[simp] theorem Try.cal137 : Aw.callable Try.prog 137 = true := by kernel_rfl
@[simp] theorem Try.cal138 : Aw.callable Try.prog 138 = true := by kernel_rfl
@[simp] theorem Try.cal139 : Aw.callable Try.prog 139 = true := by kernel_rfl
@[simp] theorem Try.cal140 : Aw.callable Try.prog 140 = true := by kernel_rfl
@[simp] theorem Try.cal141 : Aw.callable Try.prog 141 = true := by kernel_rfl
@[simp] theorem Try.cal142 : Aw.callable Try.prog 142 = true := by kernel_rfl
@[simp] theorem Try.cal143 : Aw.callable Try.prog 143 = true := by kernel_rfl
@[simp] theorem Try.cal144 : Aw.callable Try.prog 144 = true := by kernel_rfl
@[simp] theorem Try.cal145 : Aw.callable Try.prog 145 = true := by kernel_rfl
@[simp] theorem Try.cal146 : Aw.callable Try.prog 146 = true := by kernel_rfl
@[simp] theorem Try.cal147 : Aw.callable Try.prog 147 = true := by kernel_rfl
@[simp] theorem Try.cal148 : Aw.callable Try.prog 148 = true := by kernel_rfl
@[simp] theorem Try.cal149 : Aw.callable Try.prog 149 = true := by kernel_rfl
@[simp] theorem Try.cal150 : Aw.callable Try.prog 150 = true := by kernel_rfl
@[simp] theorem Try.cal151 : Aw.callable Try.prog 151 = true := by kernel_rfl
@[simp] theorem Try.cal152 : Aw.callable Try.prog 152 = true := by kernel_rfl
@[simp] theorem Try.cal153 : Aw.callable Try.prog 153 = true := by kernel_rfl
@[simp] theorem Try.cal154 : Aw.callable Try.prog 154 = true := by kernel_rfl
@[simp] theorem Try.cal155 : Aw.callable Try.prog 155 = true := by kernel_rfl
@[simp] theorem Try.cal156 : Aw.callable Try.prog 156 = true := by kernel_rfl
end Go.Proofs.Ytedhenfipalhaaa
