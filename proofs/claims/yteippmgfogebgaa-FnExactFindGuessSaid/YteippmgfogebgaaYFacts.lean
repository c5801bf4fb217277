/-
  Proved here: closed facts of the translated program: types, their sizes, results.
  No condition beyond what each statement spells out.
-/
/-
  Closed facts on the translation: sizes, fields and zero values of its types; that its functions have bodies. Written by a program of ours.
-/
import Derived.Test.YteippmgfogebgaaProg
import Derived.Test.YteippmgfogebgaaAwFun
import Derived.KernelRfl
namespace Go.Proofs.Yteippmgfogebgaa
@[simp] theorem Try.agg2 : Aw.aggSize Try.prog 2 = none := by kernel_rfl
@[simp] theorem Try.one2 : Aw.oneSize Try.prog 2 = true := by kernel_rfl
@[simp] theorem Try.siz2 : Aw.sizeA Try.prog 2 = some 1 := by kernel_rfl
@[simp] theorem Try.zer2 : Aw.zeroA Try.prog 2 = some [.int .i64 0] := by kernel_rfl
@[simp] theorem Try.zsz2 : Aw.zeroSz Try.prog 2 1 = true := by kernel_rfl
@[simp] theorem Try.int2 : Aw.intType Try.prog 2 = some .i64 := by kernel_rfl
@[simp] theorem Try.som2 : (Try.prog.underlying 2).isSome = true := by kernel_rfl
@[simp] theorem Try.agg3 : Aw.aggSize Try.prog 3 = none := by kernel_rfl
@[simp] theorem Try.one3 : Aw.oneSize Try.prog 3 = true := by kernel_rfl
@[simp] theorem Try.siz3 : Aw.sizeA Try.prog 3 = some 1 := by kernel_rfl
@[simp] theorem Try.zer3 : Aw.zeroA Try.prog 3 = some [.int .i64 0] := by kernel_rfl
@[simp] theorem Try.zsz3 : Aw.zeroSz Try.prog 3 1 = true := by kernel_rfl
@[simp] theorem Try.int3 : Aw.intType Try.prog 3 = some .i64 := by kernel_rfl
@[simp] theorem Try.som3 : (Try.prog.underlying 3).isSome = true := by kernel_rfl
@[simp] theorem Try.agg4 : Aw.aggSize Try.prog 4 = none := by kernel_rfl
@[simp] theorem Try.one4 : Aw.oneSize Try.prog 4 = true := by kernel_rfl
@[simp] theorem Try.siz4 : Aw.sizeA Try.prog 4 = some 1 := by kernel_rfl
@[simp] theorem Try.zer4 : Aw.zeroA Try.prog 4 = some [.bool false] := by kernel_rfl
@[simp] theorem Try.zsz4 : Aw.zeroSz Try.prog 4 1 = true := by kernel_rfl
@[simp] theorem Try.bol4 : Aw.boolType Try.prog 4 = true := by kernel_rfl
@[simp] theorem Try.agg5 : Aw.aggSize Try.prog 5 = none := by kernel_rfl
@[simp] theorem Try.one5 : Aw.oneSize Try.prog 5 = true := by kernel_rfl
@[simp] theorem Try.siz5 : Aw.sizeA Try.prog 5 = some 1 := by kernel_rfl
@[simp] theorem Try.zer5 : Aw.zeroA Try.prog 5 = some [.int .u8 0] := by kernel_rfl
@[simp] theorem Try.zsz5 : Aw.zeroSz Try.prog 5 1 = true := by kernel_rfl
@[simp] theorem Try.int5 : Aw.intType Try.prog 5 = some .u8 := by kernel_rfl
@[simp] theorem Try.som5 : (Try.prog.underlying 5).isSome = true := by kernel_rfl
@[simp] theorem Try.agg9 : Aw.aggSize Try.prog 9 = none := by kernel_rfl
@[simp] theorem Try.one9 : Aw.oneSize Try.prog 9 = true := by kernel_rfl
@[simp] theorem Try.siz9 : Aw.sizeA Try.prog 9 = some 1 := by kernel_rfl
@[simp] theorem Try.zer9 : Aw.zeroA Try.prog 9 = some [.str []] := by kernel_rfl
@[simp] theorem Try.zsz9 : Aw.zeroSz Try.prog 9 1 = true := by kernel_rfl
@[simp] theorem Try.iss9 : Aw.isString Try.prog 9 = true := by kernel_rfl
@[simp] theorem Try.apd9 : Aw.appendable Try.prog 9 = true := by kernel_rfl
@[simp] theorem Try.agg12 : Aw.aggSize Try.prog 12 = none := by kernel_rfl
@[simp] theorem Try.one12 : Aw.oneSize Try.prog 12 = true := by kernel_rfl
@[simp] theorem Try.siz12 : Aw.sizeA Try.prog 12 = some 1 := by kernel_rfl
@[simp] theorem Try.zer12 : Aw.zeroA Try.prog 12 = some [.int .u64 0] := by kernel_rfl
@[simp] theorem Try.zsz12 : Aw.zeroSz Try.prog 12 1 = true := by kernel_rfl
@[simp] theorem Try.int12 : Aw.intType Try.prog 12 = some .u64 := by kernel_rfl
@[simp] theorem Try.som12 : (Try.prog.underlying 12).isSome = true := by kernel_rfl
@[simp] theorem Try.agg21 : Aw.aggSize Try.prog 21 = none := by kernel_rfl
@[simp] theorem Try.one21 : Aw.oneSize Try.prog 21 = true := by kernel_rfl
@[simp] theorem Try.siz21 : Aw.sizeA Try.prog 21 = some 1 := by kernel_rfl
@[simp] theorem Try.zer21 : Aw.zeroA Try.prog 21 = some [.int .i32 0] := by kernel_rfl
@[simp] theorem Try.zsz21 : Aw.zeroSz Try.prog 21 1 = true := by kernel_rfl
@[simp] theorem Try.int21 : Aw.intType Try.prog 21 = some .i32 := by kernel_rfl
@[simp] theorem Try.som21 : (Try.prog.underlying 21).isSome = true := by kernel_rfl
@[simp] theorem Try.agg22 : Aw.aggSize Try.prog 22 = none := by kernel_rfl
@[simp] theorem Try.one22 : Aw.oneSize Try.prog 22 = true := by kernel_rfl
@[simp] theorem Try.siz22 : Aw.sizeA Try.prog 22 = some 1 := by kernel_rfl
@[simp] theorem Try.zer22 : Aw.zeroA Try.prog 22 = some [.sl .own 0 []] := by kernel_rfl
@[simp] theorem Try.zsz22 : Aw.zeroSz Try.prog 22 1 = true := by kernel_rfl
@[simp] theorem Try.elm22 : Aw.elemA Try.prog 22 = some (51, 9, 104) := by kernel_rfl
@[simp] theorem Try.isl22 : Aw.isSlice Try.prog 22 = true := by kernel_rfl
@[simp] theorem Try.apd22 : Aw.appendable Try.prog 22 = true := by kernel_rfl
@[simp] theorem Try.agg25 : Aw.aggSize Try.prog 25 = none := by kernel_rfl
@[simp] theorem Try.one25 : Aw.oneSize Try.prog 25 = true := by kernel_rfl
@[simp] theorem Try.siz25 : Aw.sizeA Try.prog 25 = some 1 := by kernel_rfl
@[simp] theorem Try.zer25 : Aw.zeroA Try.prog 25 = some [.sl .own 0 []] := by kernel_rfl
@[simp] theorem Try.zsz25 : Aw.zeroSz Try.prog 25 1 = true := by kernel_rfl
@[simp] theorem Try.elm25 : Aw.elemA Try.prog 25 = some (53, 9, 104) := by kernel_rfl
@[simp] theorem Try.isl25 : Aw.isSlice Try.prog 25 = true := by kernel_rfl
@[simp] theorem Try.apd25 : Aw.appendable Try.prog 25 = true := by kernel_rfl
@[simp] theorem Try.agg30 : Aw.aggSize Try.prog 30 = some 2 := by kernel_rfl
@[simp] theorem Try.siz30 : Aw.sizeA Try.prog 30 = some 2 := by kernel_rfl
@[simp] theorem Try.zer30 : Aw.zeroA Try.prog 30 = some [.str [], .str []] := by kernel_rfl
@[simp] theorem Try.zsz30 : Aw.zeroSz Try.prog 30 2 = true := by kernel_rfl
@[simp] theorem Try.fld30_0 : Aw.fieldA Try.prog 30 0 = some 0 := by kernel_rfl
@[simp] theorem Try.fld30_1 : Aw.fieldA Try.prog 30 1 = some 1 := by kernel_rfl
@[simp] theorem Try.plc30 : Aw.placesA Try.prog 30 = some [(0, 1), (1, 1)] := by kernel_rfl
@[simp] theorem Try.agg33 : Aw.aggSize Try.prog 33 = some 2 := by kernel_rfl
@[simp] theorem Try.siz33 : Aw.sizeA Try.prog 33 = some 2 := by kernel_rfl
@[simp] theorem Try.zer33 : Aw.zeroA Try.prog 33 = some [.str [], .str []] := by kernel_rfl
@[simp] theorem Try.zsz33 : Aw.zeroSz Try.prog 33 2 = true := by kernel_rfl
@[simp] theorem Try.fld33_0 : Aw.fieldA Try.prog 33 0 = some 0 := by kernel_rfl
@[simp] theorem Try.fld33_1 : Aw.fieldA Try.prog 33 1 = some 1 := by kernel_rfl
@[simp] theorem Try.plc33 : Aw.placesA Try.prog 33 = some [(0, 1), (1, 1)] := by kernel_rfl
@[simp] theorem Try.agg38 : Aw.aggSize Try.prog 38 = some 6 := by kernel_rfl
@[simp] theorem Try.siz38 : Aw.sizeA Try.prog 38 = some 6 := by kernel_rfl
@[simp] theorem Try.zer38 : Aw.zeroA Try.prog 38 = some [.int .i64 0, .int .i64 0, .str [], .int .i64 0, .bool false, .str []] := by kernel_rfl
@[simp] theorem Try.zsz38 : Aw.zeroSz Try.prog 38 6 = true := by kernel_rfl
@[simp] theorem Try.fld38_0 : Aw.fieldA Try.prog 38 0 = some 0 := by kernel_rfl
@[simp] theorem Try.fld38_1 : Aw.fieldA Try.prog 38 1 = some 1 := by kernel_rfl
@[simp] theorem Try.fld38_2 : Aw.fieldA Try.prog 38 2 = some 2 := by kernel_rfl
@[simp] theorem Try.fld38_3 : Aw.fieldA Try.prog 38 3 = some 3 := by kernel_rfl
@[simp] theorem Try.fld38_4 : Aw.fieldA Try.prog 38 4 = some 4 := by kernel_rfl
@[simp] theorem Try.fld38_5 : Aw.fieldA Try.prog 38 5 = some 5 := by kernel_rfl
@[simp] theorem Try.plc38 : Aw.placesA Try.prog 38 = some [(0, 1), (1, 1), (2, 1), (3, 1), (4, 1), (5, 1)] := by kernel_rfl
@[simp] theorem Try.agg43 : Aw.aggSize Try.prog 43 = some 6 := by kernel_rfl
@[simp] theorem Try.siz43 : Aw.sizeA Try.prog 43 = some 6 := by kernel_rfl
@[simp] theorem Try.zer43 : Aw.zeroA Try.prog 43 = some [.int .i64 0, .int .i64 0, .str [], .int .i64 0, .bool false, .str []] := by kernel_rfl
@[simp] theorem Try.zsz43 : Aw.zeroSz Try.prog 43 6 = true := by kernel_rfl
@[simp] theorem Try.fld43_0 : Aw.fieldA Try.prog 43 0 = some 0 := by kernel_rfl
@[simp] theorem Try.fld43_1 : Aw.fieldA Try.prog 43 1 = some 1 := by kernel_rfl
@[simp] theorem Try.fld43_2 : Aw.fieldA Try.prog 43 2 = some 2 := by kernel_rfl
@[simp] theorem Try.fld43_3 : Aw.fieldA Try.prog 43 3 = some 3 := by kernel_rfl
@[simp] theorem Try.fld43_4 : Aw.fieldA Try.prog 43 4 = some 4 := by kernel_rfl
@[simp] theorem Try.fld43_5 : Aw.fieldA Try.prog 43 5 = some 5 := by kernel_rfl
@[simp] theorem Try.plc43 : Aw.placesA Try.prog 43 = some [(0, 1), (1, 1), (2, 1), (3, 1), (4, 1), (5, 1)] := by kernel_rfl
@[simp] theorem Try.agg51 : Aw.aggSize Try.prog 51 = some 9 := by kernel_rfl
@[simp] theorem Try.siz51 : Aw.sizeA Try.prog 51 = some 9 := by kernel_rfl
@[simp] theorem Try.zer51 : Aw.zeroA Try.prog 51 = some [.str [], .str [], .int .i64 0, .int .i64 0, .str [], .int .i64 0, .bool false, .str [], .bool false] := by kernel_rfl
@[simp] theorem Try.zsz51 : Aw.zeroSz Try.prog 51 9 = true := by kernel_rfl
@[simp] theorem Try.fld51_0 : Aw.fieldA Try.prog 51 0 = some 0 := by kernel_rfl
@[simp] theorem Try.fld51_1 : Aw.fieldA Try.prog 51 1 = some 2 := by kernel_rfl
@[simp] theorem Try.fld51_2 : Aw.fieldA Try.prog 51 2 = some 8 := by kernel_rfl
@[simp] theorem Try.plc51 : Aw.placesA Try.prog 51 = some [(0, 2), (2, 6), (8, 1)] := by kernel_rfl
@[simp] theorem Try.agg53 : Aw.aggSize Try.prog 53 = some 9 := by kernel_rfl
@[simp] theorem Try.siz53 : Aw.sizeA Try.prog 53 = some 9 := by kernel_rfl
@[simp] theorem Try.zer53 : Aw.zeroA Try.prog 53 = some [.str [], .str [], .int .i64 0, .int .i64 0, .str [], .int .i64 0, .bool false, .str [], .bool false] := by kernel_rfl
@[simp] theorem Try.zsz53 : Aw.zeroSz Try.prog 53 9 = true := by kernel_rfl
@[simp] theorem Try.fld53_0 : Aw.fieldA Try.prog 53 0 = some 0 := by kernel_rfl
@[simp] theorem Try.fld53_1 : Aw.fieldA Try.prog 53 1 = some 2 := by kernel_rfl
@[simp] theorem Try.fld53_2 : Aw.fieldA Try.prog 53 2 = some 8 := by kernel_rfl
@[simp] theorem Try.plc53 : Aw.placesA Try.prog 53 = some [(0, 2), (2, 6), (8, 1)] := by kernel_rfl
@[simp] theorem Try.agg63 : Aw.aggSize Try.prog 63 = none := by kernel_rfl
@[simp] theorem Try.one63 : Aw.oneSize Try.prog 63 = true := by kernel_rfl
@[simp] theorem Try.siz63 : Aw.sizeA Try.prog 63 = some 1 := by kernel_rfl
@[simp] theorem Try.zer63 : Aw.zeroA Try.prog 63 = some [.sl .own 0 []] := by kernel_rfl
@[simp] theorem Try.zsz63 : Aw.zeroSz Try.prog 63 1 = true := by kernel_rfl
@[simp] theorem Try.elm63 : Aw.elemA Try.prog 63 = some (5, 1, 1) := by kernel_rfl
@[simp] theorem Try.isl63 : Aw.isSlice Try.prog 63 = true := by kernel_rfl
@[simp] theorem Try.apd63 : Aw.appendable Try.prog 63 = true := by kernel_rfl
@[simp] theorem Try.agg71 : Aw.aggSize Try.prog 71 = none := by kernel_rfl
@[simp] theorem Try.one71 : Aw.oneSize Try.prog 71 = true := by kernel_rfl
@[simp] theorem Try.siz71 : Aw.sizeA Try.prog 71 = some 1 := by kernel_rfl
@[simp] theorem Try.zer71 : Aw.zeroA Try.prog 71 = some [.int .u32 0] := by kernel_rfl
@[simp] theorem Try.zsz71 : Aw.zeroSz Try.prog 71 1 = true := by kernel_rfl
@[simp] theorem Try.int71 : Aw.intType Try.prog 71 = some .u32 := by kernel_rfl
@[simp] theorem Try.som71 : (Try.prog.underlying 71).isSome = true := by kernel_rfl
@[simp] theorem Try.cal3 : Aw.callable Try.prog 3 = true := by kernel_rfl
@[simp] theorem Try.cal4 : Aw.callable Try.prog 4 = true := by kernel_rfl
@[simp] theorem Try.cal5 : Aw.callable Try.prog 5 = true := by kernel_rfl
@[simp] theorem Try.cal6 : Aw.callable Try.prog 6 = true := by kernel_rfl
@[simp] theorem Try.cal7 : Aw.callable Try.prog 7 = true := by kernel_rfl
@[simp] theorem Try.cal8 : Aw.callable Try.prog 8 = true := by kernel_rfl
@[simp] theorem Try.cal9 : Aw.callable Try.prog 9 = true := by kernel_rfl
@[simp] theorem Try.cal10 : Aw.callable Try.prog 10 = true := by kernel_rfl
@[simp] theorem Try.cal11 : Aw.callable Try.prog 11 = true := by kernel_rfl
@[simp] theorem Try.cal12 : Aw.callable Try.prog 12 = true := by kernel_rfl
@[simp] theorem Try.cal13 : Aw.callable Try.prog 13 = true := by kernel_rfl
@[simp] theorem Try.cal14 : Aw.callable Try.prog 14 = true := by kernel_rfl
@[simp] theorem Try.cal15 : Aw.callable Try.prog 15 = true := by kernel_rfl
@[simp] theorem Try.cal16 : Aw.callable Try.prog 16 = true := by kernel_rfl
@[simp] theorem Try.cal17 : Aw.callable Try.prog 17 = true := by kernel_rfl
@[simp] theorem Try.cal18 : Aw.callable Try.prog 18 = true := by kernel_rfl
@[simp] theorem Try.cal19 : Aw.callable Try.prog 19 = true := by kernel_rfl
@[simp] theorem Try.cal20 : Aw.callable Try.prog 20 = true := by kernel_rfl
@[simp] theorem Try.cal21 : Aw.callable Try.prog 21 = true := by kernel_rfl
@[simp] theorem Try.cal22 : Aw.callable Try.prog 22 = true := by kernel_rfl
@[simp] theorem Try.cal23 : Aw.callable Try.prog 23 = true := by kernel_rfl
@[simp] theorem Try.cal24 : Aw.callable Try.prog 24 = true := by kernel_rfl
@[simp] theorem Try.cal25 : Aw.callable Try.prog 25 = true := by kernel_rfl
@[simp] theorem Try.cal26 : Aw.callable Try.prog 26 = true := by kernel_rfl
@[simp] theorem Try.cal27 : Aw.callable Try.prog 27 = true := by kernel_rfl
@[simp] theorem Try.cal28 : Aw.callable Try.prog 28 = true := by kernel_rfl
@[simp] theorem Try.cal29 : Aw.callable Try.prog 29 = true := by kernel_rfl
@[simp] theorem Try.cal30 : Aw.callable Try.prog 30 = true := by kernel_rfl
@[simp] theorem Try.cal31 : Aw.callable Try.prog 31 = true := by kernel_rfl
@[simp] theorem Try.cal32 : Aw.callable Try.prog 32 = true := by kernel_rfl
@[simp] theorem Try.cal33 : Aw.callable Try.prog 33 = true := by kernel_rfl
@[simp] theorem Try.cal34 : Aw.callable Try.prog 34 = true := by kernel_rfl
@[simp] theorem Try.cal35 : Aw.callable Try.prog 35 = true := by kernel_rfl
@[simp] theorem Try.cal36 : Aw.callable Try.prog 36 = true := by kernel_rfl
@[simp] theorem Try.cal37 : Aw.callable Try.prog 37 = true := by kernel_rfl
@[simp] theorem Try.cal38 : Aw.callable Try.prog 38 = true := by kernel_rfl
@[simp] theorem Try.cal39 : Aw.callable Try.prog 39 = true := by kernel_rfl
@[simp] theorem Try.cal40 : Aw.callable Try.prog 40 = true := by kernel_rfl
@[simp] theorem Try.cal41 : Aw.callable Try.prog 41 = true := by kernel_rfl
@[simp] theorem Try.cal42 : Aw.callable Try.prog 42 = true := by kernel_rfl
@[simp] theorem Try.cal43 : Aw.callable Try.prog 43 = true := by kernel_rfl
end Go.Proofs.Yteippmgfogebgaa
