/-
  Proved here: closed facts of the translated program: types, their sizes, results.
  No condition beyond what each statement spells out.
-/
import Derived.Test.YtgkcdgaljknohaaGreatDoorProg
import Derived.Test.YtgkcdgaljknohaaGreatDoorF3
import Derived.KernelRfl
set_option linter.all false
namespace Go.Proofs.YtgkcdgaljknohaaGreatDoor
@[simp] theorem Tryz.agg2:Aw.aggSize Tryz.prog 2=none:=by kernel_rfl
@[simp] theorem Tryz.one2:Aw.oneSize Tryz.prog 2=true:=by kernel_rfl
@[simp] theorem Tryz.siz2:Aw.sizeA Tryz.prog 2=some 1:=by kernel_rfl
@[simp] theorem Tryz.zer2:Aw.zeroA Tryz.prog 2=some [.int .i64 0]:=by kernel_rfl
@[simp] theorem Tryz.zsz2:Aw.zeroSz Tryz.prog 2 1=true:=by kernel_rfl
@[simp] theorem Tryz.int2:Aw.intType Tryz.prog 2=some .i64:=by kernel_rfl
@[simp] theorem Tryz.som2:(Tryz.prog.underlying 2).isSome=true:=by kernel_rfl
@[simp] theorem Tryz.agg3:Aw.aggSize Tryz.prog 3=none:=by kernel_rfl
@[simp] theorem Tryz.one3:Aw.oneSize Tryz.prog 3=true:=by kernel_rfl
@[simp] theorem Tryz.siz3:Aw.sizeA Tryz.prog 3=some 1:=by kernel_rfl
@[simp] theorem Tryz.zer3:Aw.zeroA Tryz.prog 3=some [.int .i64 0]:=by kernel_rfl
@[simp] theorem Tryz.zsz3:Aw.zeroSz Tryz.prog 3 1=true:=by kernel_rfl
@[simp] theorem Tryz.int3:Aw.intType Tryz.prog 3=some .i64:=by kernel_rfl
@[simp] theorem Tryz.som3:(Tryz.prog.underlying 3).isSome=true:=by kernel_rfl
@[simp] theorem Tryz.agg4:Aw.aggSize Tryz.prog 4=none:=by kernel_rfl
@[simp] theorem Tryz.one4:Aw.oneSize Tryz.prog 4=true:=by kernel_rfl
@[simp] theorem Tryz.siz4:Aw.sizeA Tryz.prog 4=some 1:=by kernel_rfl
@[simp] theorem Tryz.zer4:Aw.zeroA Tryz.prog 4=some [.bool false]:=by kernel_rfl
@[simp] theorem Tryz.zsz4:Aw.zeroSz Tryz.prog 4 1=true:=by kernel_rfl
@[simp] theorem Tryz.bol4:Aw.boolType Tryz.prog 4=true:=by kernel_rfl
@[simp] theorem Tryz.agg5:Aw.aggSize Tryz.prog 5=none:=by kernel_rfl
@[simp] theorem Tryz.one5:Aw.oneSize Tryz.prog 5=true:=by kernel_rfl
@[simp] theorem Tryz.siz5:Aw.sizeA Tryz.prog 5=some 1:=by kernel_rfl
@[simp] theorem Tryz.zer5:Aw.zeroA Tryz.prog 5=some [.int .u8 0]:=by kernel_rfl
@[simp] theorem Tryz.zsz5:Aw.zeroSz Tryz.prog 5 1=true:=by kernel_rfl
@[simp] theorem Tryz.int5:Aw.intType Tryz.prog 5=some .u8:=by kernel_rfl
@[simp] theorem Tryz.som5:(Tryz.prog.underlying 5).isSome=true:=by kernel_rfl
@[simp] theorem Tryz.agg9:Aw.aggSize Tryz.prog 9=none:=by kernel_rfl
@[simp] theorem Tryz.one9:Aw.oneSize Tryz.prog 9=true:=by kernel_rfl
@[simp] theorem Tryz.siz9:Aw.sizeA Tryz.prog 9=some 1:=by kernel_rfl
@[simp] theorem Tryz.zer9:Aw.zeroA Tryz.prog 9=some [.str []]:=by kernel_rfl
@[simp] theorem Tryz.zsz9:Aw.zeroSz Tryz.prog 9 1=true:=by kernel_rfl
@[simp] theorem Tryz.iss9:Aw.isString Tryz.prog 9=true:=by kernel_rfl
@[simp] theorem Tryz.apd9:Aw.appendable Tryz.prog 9=true:=by kernel_rfl
@[simp] theorem Tryz.agg12:Aw.aggSize Tryz.prog 12=none:=by kernel_rfl
@[simp] theorem Tryz.one12:Aw.oneSize Tryz.prog 12=true:=by kernel_rfl
@[simp] theorem Tryz.siz12:Aw.sizeA Tryz.prog 12=some 1:=by kernel_rfl
@[simp] theorem Tryz.zer12:Aw.zeroA Tryz.prog 12=some [.int .u64 0]:=by kernel_rfl
@[simp] theorem Tryz.zsz12:Aw.zeroSz Tryz.prog 12 1=true:=by kernel_rfl
@[simp] theorem Tryz.int12:Aw.intType Tryz.prog 12=some .u64:=by kernel_rfl
@[simp] theorem Tryz.som12:(Tryz.prog.underlying 12).isSome=true:=by kernel_rfl
@[simp] theorem Tryz.agg21:Aw.aggSize Tryz.prog 21=none:=by kernel_rfl
@[simp] theorem Tryz.one21:Aw.oneSize Tryz.prog 21=true:=by kernel_rfl
@[simp] theorem Tryz.siz21:Aw.sizeA Tryz.prog 21=some 1:=by kernel_rfl
@[simp] theorem Tryz.zer21:Aw.zeroA Tryz.prog 21=some [.int .i32 0]:=by kernel_rfl
@[simp] theorem Tryz.zsz21:Aw.zeroSz Tryz.prog 21 1=true:=by kernel_rfl
@[simp] theorem Tryz.int21:Aw.intType Tryz.prog 21=some .i32:=by kernel_rfl
@[simp] theorem Tryz.som21:(Tryz.prog.underlying 21).isSome=true:=by kernel_rfl
@[simp] theorem Tryz.agg23:Aw.aggSize Tryz.prog 23=some 2:=by kernel_rfl
@[simp] theorem Tryz.siz23:Aw.sizeA Tryz.prog 23=some 2:=by kernel_rfl
@[simp] theorem Tryz.zer23:Aw.zeroA Tryz.prog 23=some [.str [],.str []]:=by kernel_rfl
@[simp] theorem Tryz.zsz23:Aw.zeroSz Tryz.prog 23 2=true:=by kernel_rfl
@[simp] theorem Tryz.fld23_0:Aw.fieldA Tryz.prog 23 0=some 0:=by kernel_rfl
@[simp] theorem Tryz.fld23_1:Aw.fieldA Tryz.prog 23 1=some 1:=by kernel_rfl
@[simp] theorem Tryz.plc23:Aw.placesA Tryz.prog 23=some [(0,1),(1,1)]:=by kernel_rfl
@[simp] theorem Tryz.agg24:Aw.aggSize Tryz.prog 24=none:=by kernel_rfl
@[simp] theorem Tryz.one24:Aw.oneSize Tryz.prog 24=true:=by kernel_rfl
@[simp] theorem Tryz.siz24:Aw.sizeA Tryz.prog 24=some 1:=by kernel_rfl
@[simp] theorem Tryz.zer24:Aw.zeroA Tryz.prog 24=some [.sl .own 1 []]:=by kernel_rfl
@[simp] theorem Tryz.zsz24:Aw.zeroSz Tryz.prog 24 1=true:=by kernel_rfl
@[simp] theorem Tryz.elm24:Aw.elemA Tryz.prog 24=some (9,1,16):=by kernel_rfl
@[simp] theorem Tryz.isl24:Aw.isSlice Tryz.prog 24=true:=by kernel_rfl
@[simp] theorem Tryz.apd24:Aw.appendable Tryz.prog 24=true:=by kernel_rfl
@[simp] theorem Tryz.agg26:Aw.aggSize Tryz.prog 26=some 5:=by kernel_rfl
@[simp] theorem Tryz.siz26:Aw.sizeA Tryz.prog 26=some 5:=by kernel_rfl
@[simp] theorem Tryz.zer26:Aw.zeroA Tryz.prog 26=some [.bool false,.sl .own 1 [],.sl .own 1 [],.sl .own 1 [],.str []]:=by kernel_rfl
@[simp] theorem Tryz.zsz26:Aw.zeroSz Tryz.prog 26 5=true:=by kernel_rfl
@[simp] theorem Tryz.fld26_0:Aw.fieldA Tryz.prog 26 0=some 0:=by kernel_rfl
@[simp] theorem Tryz.fld26_1:Aw.fieldA Tryz.prog 26 1=some 1:=by kernel_rfl
@[simp] theorem Tryz.fld26_2:Aw.fieldA Tryz.prog 26 2=some 2:=by kernel_rfl
@[simp] theorem Tryz.fld26_3:Aw.fieldA Tryz.prog 26 3=some 3:=by kernel_rfl
@[simp] theorem Tryz.fld26_4:Aw.fieldA Tryz.prog 26 4=some 4:=by kernel_rfl
@[simp] theorem Tryz.plc26:Aw.placesA Tryz.prog 26=some [(0,1),(1,1),(2,1),(3,1),(4,1)]:=by kernel_rfl
@[simp] theorem Tryz.agg28:Aw.aggSize Tryz.prog 28=some 1:=by kernel_rfl
@[simp] theorem Tryz.siz28:Aw.sizeA Tryz.prog 28=some 1:=by kernel_rfl
@[simp] theorem Tryz.zer28:Aw.zeroA Tryz.prog 28=some [.str []]:=by kernel_rfl
@[simp] theorem Tryz.zsz28:Aw.zeroSz Tryz.prog 28 1=true:=by kernel_rfl
@[simp] theorem Tryz.fld28_0:Aw.fieldA Tryz.prog 28 0=some 0:=by kernel_rfl
@[simp] theorem Tryz.plc28:Aw.placesA Tryz.prog 28=some [(0,1)]:=by kernel_rfl
@[simp] theorem Tryz.agg29:Aw.aggSize Tryz.prog 29=none:=by kernel_rfl
@[simp] theorem Tryz.one29:Aw.oneSize Tryz.prog 29=true:=by kernel_rfl
@[simp] theorem Tryz.siz29:Aw.sizeA Tryz.prog 29=some 1:=by kernel_rfl
@[simp] theorem Tryz.zer29:Aw.zeroA Tryz.prog 29=some [.sl .own 4 []]:=by kernel_rfl
@[simp] theorem Tryz.zsz29:Aw.zeroSz Tryz.prog 29 1=true:=by kernel_rfl
@[simp] theorem Tryz.elm29:Aw.elemA Tryz.prog 29=some (125,4,64):=by kernel_rfl
@[simp] theorem Tryz.isl29:Aw.isSlice Tryz.prog 29=true:=by kernel_rfl
@[simp] theorem Tryz.apd29:Aw.appendable Tryz.prog 29=true:=by kernel_rfl
@[simp] theorem Tryz.agg30:Aw.aggSize Tryz.prog 30=none:=by kernel_rfl
@[simp] theorem Tryz.one30:Aw.oneSize Tryz.prog 30=true:=by kernel_rfl
@[simp] theorem Tryz.siz30:Aw.sizeA Tryz.prog 30=some 1:=by kernel_rfl
@[simp] theorem Tryz.zer30:Aw.zeroA Tryz.prog 30=some [.sl .own 4 []]:=by kernel_rfl
@[simp] theorem Tryz.zsz30:Aw.zeroSz Tryz.prog 30 1=true:=by kernel_rfl
@[simp] theorem Tryz.elm30:Aw.elemA Tryz.prog 30=some (194,4,64):=by kernel_rfl
@[simp] theorem Tryz.isl30:Aw.isSlice Tryz.prog 30=true:=by kernel_rfl
@[simp] theorem Tryz.apd30:Aw.appendable Tryz.prog 30=true:=by kernel_rfl
@[simp] theorem Tryz.agg31:Aw.aggSize Tryz.prog 31=none:=by kernel_rfl
@[simp] theorem Tryz.one31:Aw.oneSize Tryz.prog 31=true:=by kernel_rfl
@[simp] theorem Tryz.siz31:Aw.sizeA Tryz.prog 31=some 1:=by kernel_rfl
@[simp] theorem Tryz.zer31:Aw.zeroA Tryz.prog 31=some [.sl .own 1 []]:=by kernel_rfl
@[simp] theorem Tryz.zsz31:Aw.zeroSz Tryz.prog 31 1=true:=by kernel_rfl
@[simp] theorem Tryz.elm31:Aw.elemA Tryz.prog 31=some (3,1,8):=by kernel_rfl
@[simp] theorem Tryz.isl31:Aw.isSlice Tryz.prog 31=true:=by kernel_rfl
@[simp] theorem Tryz.apd31:Aw.appendable Tryz.prog 31=true:=by kernel_rfl
@[simp] theorem Tryz.agg33:Aw.aggSize Tryz.prog 33=some 2:=by kernel_rfl
@[simp] theorem Tryz.siz33:Aw.sizeA Tryz.prog 33=some 2:=by kernel_rfl
@[simp] theorem Tryz.zer33:Aw.zeroA Tryz.prog 33=some [.sl .own 4 [],.sl .own 1 []]:=by kernel_rfl
@[simp] theorem Tryz.zsz33:Aw.zeroSz Tryz.prog 33 2=true:=by kernel_rfl
@[simp] theorem Tryz.fld33_0:Aw.fieldA Tryz.prog 33 0=some 0:=by kernel_rfl
@[simp] theorem Tryz.fld33_1:Aw.fieldA Tryz.prog 33 1=some 1:=by kernel_rfl
@[simp] theorem Tryz.plc33:Aw.placesA Tryz.prog 33=some [(0,1),(1,1)]:=by kernel_rfl
@[simp] theorem Tryz.agg34:Aw.aggSize Tryz.prog 34=none:=by kernel_rfl
@[simp] theorem Tryz.one34:Aw.oneSize Tryz.prog 34=true:=by kernel_rfl
@[simp] theorem Tryz.siz34:Aw.sizeA Tryz.prog 34=some 1:=by kernel_rfl
@[simp] theorem Tryz.zer34:Aw.zeroA Tryz.prog 34=some [.sl .own 8 []]:=by kernel_rfl
@[simp] theorem Tryz.zsz34:Aw.zeroSz Tryz.prog 34 1=true:=by kernel_rfl
@[simp] theorem Tryz.elm34:Aw.elemA Tryz.prog 34=some (130,8,96):=by kernel_rfl
@[simp] theorem Tryz.isl34:Aw.isSlice Tryz.prog 34=true:=by kernel_rfl
@[simp] theorem Tryz.apd34:Aw.appendable Tryz.prog 34=true:=by kernel_rfl
@[simp] theorem Tryz.agg35:Aw.aggSize Tryz.prog 35=none:=by kernel_rfl
@[simp] theorem Tryz.one35:Aw.oneSize Tryz.prog 35=true:=by kernel_rfl
@[simp] theorem Tryz.siz35:Aw.sizeA Tryz.prog 35=some 1:=by kernel_rfl
@[simp] theorem Tryz.zer35:Aw.zeroA Tryz.prog 35=some [.sl .own 5 []]:=by kernel_rfl
@[simp] theorem Tryz.zsz35:Aw.zeroSz Tryz.prog 35 1=true:=by kernel_rfl
@[simp] theorem Tryz.elm35:Aw.elemA Tryz.prog 35=some (133,5,64):=by kernel_rfl
@[simp] theorem Tryz.isl35:Aw.isSlice Tryz.prog 35=true:=by kernel_rfl
@[simp] theorem Tryz.apd35:Aw.appendable Tryz.prog 35=true:=by kernel_rfl
@[simp] theorem Tryz.agg36:Aw.aggSize Tryz.prog 36=none:=by kernel_rfl
@[simp] theorem Tryz.one36:Aw.oneSize Tryz.prog 36=true:=by kernel_rfl
@[simp] theorem Tryz.siz36:Aw.sizeA Tryz.prog 36=some 1:=by kernel_rfl
@[simp] theorem Tryz.zer36:Aw.zeroA Tryz.prog 36=some [.sl .own 2 []]:=by kernel_rfl
@[simp] theorem Tryz.zsz36:Aw.zeroSz Tryz.prog 36 1=true:=by kernel_rfl
@[simp] theorem Tryz.elm36:Aw.elemA Tryz.prog 36=some (23,2,32):=by kernel_rfl
@[simp] theorem Tryz.isl36:Aw.isSlice Tryz.prog 36=true:=by kernel_rfl
@[simp] theorem Tryz.apd36:Aw.appendable Tryz.prog 36=true:=by kernel_rfl
@[simp] theorem Tryz.agg38:Aw.aggSize Tryz.prog 38=some 22:=by kernel_rfl
@[simp] theorem Tryz.siz38:Aw.sizeA Tryz.prog 38=some 22:=by kernel_rfl
@[simp] theorem Tryz.zer38:Aw.zeroA Tryz.prog 38=some [.str [],.str [],.bool false,.sl .own 1 [],.sl .own 1 [],.sl .own 1 [],.str [],.str [],.sl .own 4 [],.bool false,.sl .own 4 [],.sl .own 1 [],.sl .own 8 [],.sl .own 5 [],.sl .own 2 [],.int .i64 0,.int .i64 0,.int .i64 0,.int .i64 0,.sl .own 2 [],.sl .own 1 [],.bool false]:=by kernel_rfl
@[simp] theorem Tryz.zsz38:Aw.zeroSz Tryz.prog 38 22=true:=by kernel_rfl
@[simp] theorem Tryz.fld38_0:Aw.fieldA Tryz.prog 38 0=some 0:=by kernel_rfl
@[simp] theorem Tryz.fld38_1:Aw.fieldA Tryz.prog 38 1=some 2:=by kernel_rfl
@[simp] theorem Tryz.fld38_2:Aw.fieldA Tryz.prog 38 2=some 7:=by kernel_rfl
@[simp] theorem Tryz.fld38_3:Aw.fieldA Tryz.prog 38 3=some 8:=by kernel_rfl
@[simp] theorem Tryz.fld38_4:Aw.fieldA Tryz.prog 38 4=some 9:=by kernel_rfl
@[simp] theorem Tryz.fld38_5:Aw.fieldA Tryz.prog 38 5=some 10:=by kernel_rfl
@[simp] theorem Tryz.fld38_6:Aw.fieldA Tryz.prog 38 6=some 12:=by kernel_rfl
@[simp] theorem Tryz.fld38_7:Aw.fieldA Tryz.prog 38 7=some 13:=by kernel_rfl
@[simp] theorem Tryz.fld38_8:Aw.fieldA Tryz.prog 38 8=some 14:=by kernel_rfl
@[simp] theorem Tryz.fld38_9:Aw.fieldA Tryz.prog 38 9=some 15:=by kernel_rfl
@[simp] theorem Tryz.fld38_10:Aw.fieldA Tryz.prog 38 10=some 16:=by kernel_rfl
@[simp] theorem Tryz.fld38_11:Aw.fieldA Tryz.prog 38 11=some 17:=by kernel_rfl
@[simp] theorem Tryz.fld38_12:Aw.fieldA Tryz.prog 38 12=some 18:=by kernel_rfl
@[simp] theorem Tryz.fld38_13:Aw.fieldA Tryz.prog 38 13=some 19:=by kernel_rfl
@[simp] theorem Tryz.fld38_14:Aw.fieldA Tryz.prog 38 14=some 20:=by kernel_rfl
@[simp] theorem Tryz.fld38_15:Aw.fieldA Tryz.prog 38 15=some 21:=by kernel_rfl
@[simp] theorem Tryz.plc38:Aw.placesA Tryz.prog 38=some [(0,2),(2,5),(7,1),(8,1),(9,1),(10,2),(12,1),(13,1),(14,1),(15,1),(16,1),(17,1),(18,1),(19,1),(20,1),(21,1)]:=by kernel_rfl
@[simp] theorem Tryz.agg40:Aw.aggSize Tryz.prog 40=some 2:=by kernel_rfl
@[simp] theorem Tryz.siz40:Aw.sizeA Tryz.prog 40=some 2:=by kernel_rfl
@[simp] theorem Tryz.zer40:Aw.zeroA Tryz.prog 40=some [.str [],.str []]:=by kernel_rfl
@[simp] theorem Tryz.zsz40:Aw.zeroSz Tryz.prog 40 2=true:=by kernel_rfl
@[simp] theorem Tryz.fld40_0:Aw.fieldA Tryz.prog 40 0=some 0:=by kernel_rfl
@[simp] theorem Tryz.fld40_1:Aw.fieldA Tryz.prog 40 1=some 1:=by kernel_rfl
@[simp] theorem Tryz.plc40:Aw.placesA Tryz.prog 40=some [(0,1),(1,1)]:=by kernel_rfl
@[simp] theorem Tryz.agg41:Aw.aggSize Tryz.prog 41=some 5:=by kernel_rfl
@[simp] theorem Tryz.siz41:Aw.sizeA Tryz.prog 41=some 5:=by kernel_rfl
@[simp] theorem Tryz.zer41:Aw.zeroA Tryz.prog 41=some [.bool false,.sl .own 1 [],.sl .own 1 [],.sl .own 1 [],.str []]:=by kernel_rfl
@[simp] theorem Tryz.zsz41:Aw.zeroSz Tryz.prog 41 5=true:=by kernel_rfl
@[simp] theorem Tryz.fld41_0:Aw.fieldA Tryz.prog 41 0=some 0:=by kernel_rfl
@[simp] theorem Tryz.fld41_1:Aw.fieldA Tryz.prog 41 1=some 1:=by kernel_rfl
@[simp] theorem Tryz.fld41_2:Aw.fieldA Tryz.prog 41 2=some 2:=by kernel_rfl
@[simp] theorem Tryz.fld41_3:Aw.fieldA Tryz.prog 41 3=some 3:=by kernel_rfl
@[simp] theorem Tryz.fld41_4:Aw.fieldA Tryz.prog 41 4=some 4:=by kernel_rfl
@[simp] theorem Tryz.plc41:Aw.placesA Tryz.prog 41=some [(0,1),(1,1),(2,1),(3,1),(4,1)]:=by kernel_rfl
@[simp] theorem Tryz.agg42:Aw.aggSize Tryz.prog 42=some 1:=by kernel_rfl
@[simp] theorem Tryz.siz42:Aw.sizeA Tryz.prog 42=some 1:=by kernel_rfl
@[simp] theorem Tryz.zer42:Aw.zeroA Tryz.prog 42=some [.str []]:=by kernel_rfl
@[simp] theorem Tryz.zsz42:Aw.zeroSz Tryz.prog 42 1=true:=by kernel_rfl
@[simp] theorem Tryz.fld42_0:Aw.fieldA Tryz.prog 42 0=some 0:=by kernel_rfl
@[simp] theorem Tryz.plc42:Aw.placesA Tryz.prog 42=some [(0,1)]:=by kernel_rfl
@[simp] theorem Tryz.agg43:Aw.aggSize Tryz.prog 43=none:=by kernel_rfl
@[simp] theorem Tryz.one43:Aw.oneSize Tryz.prog 43=true:=by kernel_rfl
@[simp] theorem Tryz.siz43:Aw.sizeA Tryz.prog 43=some 1:=by kernel_rfl
@[simp] theorem Tryz.zer43:Aw.zeroA Tryz.prog 43=some [.sl .own 4 []]:=by kernel_rfl
@[simp] theorem Tryz.zsz43:Aw.zeroSz Tryz.prog 43 1=true:=by kernel_rfl
@[simp] theorem Tryz.elm43:Aw.elemA Tryz.prog 43=some (153,4,64):=by kernel_rfl
@[simp] theorem Tryz.isl43:Aw.isSlice Tryz.prog 43=true:=by kernel_rfl
@[simp] theorem Tryz.apd43:Aw.appendable Tryz.prog 43=true:=by kernel_rfl
@[simp] theorem Tryz.agg44:Aw.aggSize Tryz.prog 44=none:=by kernel_rfl
@[simp] theorem Tryz.one44:Aw.oneSize Tryz.prog 44=true:=by kernel_rfl
@[simp] theorem Tryz.siz44:Aw.sizeA Tryz.prog 44=some 1:=by kernel_rfl
@[simp] theorem Tryz.zer44:Aw.zeroA Tryz.prog 44=some [.sl .own 4 []]:=by kernel_rfl
@[simp] theorem Tryz.zsz44:Aw.zeroSz Tryz.prog 44 1=true:=by kernel_rfl
@[simp] theorem Tryz.elm44:Aw.elemA Tryz.prog 44=some (171,4,64):=by kernel_rfl
@[simp] theorem Tryz.isl44:Aw.isSlice Tryz.prog 44=true:=by kernel_rfl
@[simp] theorem Tryz.apd44:Aw.appendable Tryz.prog 44=true:=by kernel_rfl
@[simp] theorem Tryz.agg46:Aw.aggSize Tryz.prog 46=some 2:=by kernel_rfl
@[simp] theorem Tryz.siz46:Aw.sizeA Tryz.prog 46=some 2:=by kernel_rfl
@[simp] theorem Tryz.zer46:Aw.zeroA Tryz.prog 46=some [.sl .own 4 [],.sl .own 1 []]:=by kernel_rfl
@[simp] theorem Tryz.zsz46:Aw.zeroSz Tryz.prog 46 2=true:=by kernel_rfl
@[simp] theorem Tryz.fld46_0:Aw.fieldA Tryz.prog 46 0=some 0:=by kernel_rfl
@[simp] theorem Tryz.fld46_1:Aw.fieldA Tryz.prog 46 1=some 1:=by kernel_rfl
@[simp] theorem Tryz.plc46:Aw.placesA Tryz.prog 46=some [(0,1),(1,1)]:=by kernel_rfl
@[simp] theorem Tryz.agg47:Aw.aggSize Tryz.prog 47=none:=by kernel_rfl
@[simp] theorem Tryz.one47:Aw.oneSize Tryz.prog 47=true:=by kernel_rfl
@[simp] theorem Tryz.siz47:Aw.sizeA Tryz.prog 47=some 1:=by kernel_rfl
@[simp] theorem Tryz.zer47:Aw.zeroA Tryz.prog 47=some [.sl .own 8 []]:=by kernel_rfl
@[simp] theorem Tryz.zsz47:Aw.zeroSz Tryz.prog 47 1=true:=by kernel_rfl
@[simp] theorem Tryz.elm47:Aw.elemA Tryz.prog 47=some (116,8,96):=by kernel_rfl
@[simp] theorem Tryz.isl47:Aw.isSlice Tryz.prog 47=true:=by kernel_rfl
@[simp] theorem Tryz.apd47:Aw.appendable Tryz.prog 47=true:=by kernel_rfl
@[simp] theorem Tryz.agg48:Aw.aggSize Tryz.prog 48=none:=by kernel_rfl
@[simp] theorem Tryz.one48:Aw.oneSize Tryz.prog 48=true:=by kernel_rfl
@[simp] theorem Tryz.siz48:Aw.sizeA Tryz.prog 48=some 1:=by kernel_rfl
@[simp] theorem Tryz.zer48:Aw.zeroA Tryz.prog 48=some [.sl .own 5 []]:=by kernel_rfl
@[simp] theorem Tryz.zsz48:Aw.zeroSz Tryz.prog 48 1=true:=by kernel_rfl
@[simp] theorem Tryz.elm48:Aw.elemA Tryz.prog 48=some (159,5,64):=by kernel_rfl
@[simp] theorem Tryz.isl48:Aw.isSlice Tryz.prog 48=true:=by kernel_rfl
@[simp] theorem Tryz.apd48:Aw.appendable Tryz.prog 48=true:=by kernel_rfl
@[simp] theorem Tryz.agg49:Aw.aggSize Tryz.prog 49=none:=by kernel_rfl
@[simp] theorem Tryz.one49:Aw.oneSize Tryz.prog 49=true:=by kernel_rfl
@[simp] theorem Tryz.siz49:Aw.sizeA Tryz.prog 49=some 1:=by kernel_rfl
@[simp] theorem Tryz.zer49:Aw.zeroA Tryz.prog 49=some [.sl .own 2 []]:=by kernel_rfl
@[simp] theorem Tryz.zsz49:Aw.zeroSz Tryz.prog 49 1=true:=by kernel_rfl
@[simp] theorem Tryz.elm49:Aw.elemA Tryz.prog 49=some (40,2,32):=by kernel_rfl
@[simp] theorem Tryz.isl49:Aw.isSlice Tryz.prog 49=true:=by kernel_rfl
@[simp] theorem Tryz.apd49:Aw.appendable Tryz.prog 49=true:=by kernel_rfl
@[simp] theorem Tryz.agg51:Aw.aggSize Tryz.prog 51=some 22:=by kernel_rfl
@[simp] theorem Tryz.siz51:Aw.sizeA Tryz.prog 51=some 22:=by kernel_rfl
@[simp] theorem Tryz.zer51:Aw.zeroA Tryz.prog 51=some [.str [],.str [],.bool false,.sl .own 1 [],.sl .own 1 [],.sl .own 1 [],.str [],.str [],.sl .own 4 [],.bool false,.sl .own 4 [],.sl .own 1 [],.sl .own 8 [],.sl .own 5 [],.sl .own 2 [],.int .i64 0,.int .i64 0,.int .i64 0,.int .i64 0,.sl .own 2 [],.sl .own 1 [],.bool false]:=by kernel_rfl
@[simp] theorem Tryz.zsz51:Aw.zeroSz Tryz.prog 51 22=true:=by kernel_rfl
@[simp] theorem Tryz.fld51_0:Aw.fieldA Tryz.prog 51 0=some 0:=by kernel_rfl
@[simp] theorem Tryz.fld51_1:Aw.fieldA Tryz.prog 51 1=some 2:=by kernel_rfl
@[simp] theorem Tryz.fld51_2:Aw.fieldA Tryz.prog 51 2=some 7:=by kernel_rfl
@[simp] theorem Tryz.fld51_3:Aw.fieldA Tryz.prog 51 3=some 8:=by kernel_rfl
@[simp] theorem Tryz.fld51_4:Aw.fieldA Tryz.prog 51 4=some 9:=by kernel_rfl
@[simp] theorem Tryz.fld51_5:Aw.fieldA Tryz.prog 51 5=some 10:=by kernel_rfl
@[simp] theorem Tryz.fld51_6:Aw.fieldA Tryz.prog 51 6=some 12:=by kernel_rfl
@[simp] theorem Tryz.fld51_7:Aw.fieldA Tryz.prog 51 7=some 13:=by kernel_rfl
@[simp] theorem Tryz.fld51_8:Aw.fieldA Tryz.prog 51 8=some 14:=by kernel_rfl
@[simp] theorem Tryz.fld51_9:Aw.fieldA Tryz.prog 51 9=some 15:=by kernel_rfl
@[simp] theorem Tryz.fld51_10:Aw.fieldA Tryz.prog 51 10=some 16:=by kernel_rfl
@[simp] theorem Tryz.fld51_11:Aw.fieldA Tryz.prog 51 11=some 17:=by kernel_rfl
@[simp] theorem Tryz.fld51_12:Aw.fieldA Tryz.prog 51 12=some 18:=by kernel_rfl
@[simp] theorem Tryz.fld51_13:Aw.fieldA Tryz.prog 51 13=some 19:=by kernel_rfl
@[simp] theorem Tryz.fld51_14:Aw.fieldA Tryz.prog 51 14=some 20:=by kernel_rfl
@[simp] theorem Tryz.fld51_15:Aw.fieldA Tryz.prog 51 15=some 21:=by kernel_rfl
@[simp] theorem Tryz.plc51:Aw.placesA Tryz.prog 51=some [(0,2),(2,5),(7,1),(8,1),(9,1),(10,2),(12,1),(13,1),(14,1),(15,1),(16,1),(17,1),(18,1),(19,1),(20,1),(21,1)]:=by kernel_rfl
@[simp] theorem Tryz.agg62:Aw.aggSize Tryz.prog 62=some 6:=by kernel_rfl
@[simp] theorem Tryz.siz62:Aw.sizeA Tryz.prog 62=some 6:=by kernel_rfl
@[simp] theorem Tryz.zer62:Aw.zeroA Tryz.prog 62=some [.int .i64 0,.int .i64 0,.str [],.int .i64 0,.bool false,.str []]:=by kernel_rfl
@[simp] theorem Tryz.zsz62:Aw.zeroSz Tryz.prog 62 6=true:=by kernel_rfl
@[simp] theorem Tryz.fld62_0:Aw.fieldA Tryz.prog 62 0=some 0:=by kernel_rfl
@[simp] theorem Tryz.fld62_1:Aw.fieldA Tryz.prog 62 1=some 1:=by kernel_rfl
@[simp] theorem Tryz.fld62_2:Aw.fieldA Tryz.prog 62 2=some 2:=by kernel_rfl
@[simp] theorem Tryz.fld62_3:Aw.fieldA Tryz.prog 62 3=some 3:=by kernel_rfl
@[simp] theorem Tryz.fld62_4:Aw.fieldA Tryz.prog 62 4=some 4:=by kernel_rfl
@[simp] theorem Tryz.fld62_5:Aw.fieldA Tryz.prog 62 5=some 5:=by kernel_rfl
@[simp] theorem Tryz.plc62:Aw.placesA Tryz.prog 62=some [(0,1),(1,1),(2,1),(3,1),(4,1),(5,1)]:=by kernel_rfl
@[simp] theorem Tryz.agg67:Aw.aggSize Tryz.prog 67=some 6:=by kernel_rfl
@[simp] theorem Tryz.siz67:Aw.sizeA Tryz.prog 67=some 6:=by kernel_rfl
@[simp] theorem Tryz.zer67:Aw.zeroA Tryz.prog 67=some [.int .i64 0,.int .i64 0,.str [],.int .i64 0,.bool false,.str []]:=by kernel_rfl
@[simp] theorem Tryz.zsz67:Aw.zeroSz Tryz.prog 67 6=true:=by kernel_rfl
@[simp] theorem Tryz.fld67_0:Aw.fieldA Tryz.prog 67 0=some 0:=by kernel_rfl
@[simp] theorem Tryz.fld67_1:Aw.fieldA Tryz.prog 67 1=some 1:=by kernel_rfl
@[simp] theorem Tryz.fld67_2:Aw.fieldA Tryz.prog 67 2=some 2:=by kernel_rfl
@[simp] theorem Tryz.fld67_3:Aw.fieldA Tryz.prog 67 3=some 3:=by kernel_rfl
@[simp] theorem Tryz.fld67_4:Aw.fieldA Tryz.prog 67 4=some 4:=by kernel_rfl
@[simp] theorem Tryz.fld67_5:Aw.fieldA Tryz.prog 67 5=some 5:=by kernel_rfl
@[simp] theorem Tryz.plc67:Aw.placesA Tryz.prog 67=some [(0,1),(1,1),(2,1),(3,1),(4,1),(5,1)]:=by kernel_rfl
@[simp] theorem Tryz.agg78:Aw.aggSize Tryz.prog 78=none:=by kernel_rfl
@[simp] theorem Tryz.one78:Aw.oneSize Tryz.prog 78=true:=by kernel_rfl
@[simp] theorem Tryz.siz78:Aw.sizeA Tryz.prog 78=some 1:=by kernel_rfl
@[simp] theorem Tryz.zer78:Aw.zeroA Tryz.prog 78=some [.sl .own 2 []]:=by kernel_rfl
@[simp] theorem Tryz.zsz78:Aw.zeroSz Tryz.prog 78 1=true:=by kernel_rfl
@[simp] theorem Tryz.elm78:Aw.elemA Tryz.prog 78=some (139,2,24):=by kernel_rfl
@[simp] theorem Tryz.isl78:Aw.isSlice Tryz.prog 78=true:=by kernel_rfl
@[simp] theorem Tryz.apd78:Aw.appendable Tryz.prog 78=true:=by kernel_rfl
@[simp] theorem Tryz.agg83:Aw.aggSize Tryz.prog 83=none:=by kernel_rfl
@[simp] theorem Tryz.one83:Aw.oneSize Tryz.prog 83=true:=by kernel_rfl
@[simp] theorem Tryz.siz83:Aw.sizeA Tryz.prog 83=some 1:=by kernel_rfl
@[simp] theorem Tryz.zer83:Aw.zeroA Tryz.prog 83=some [.sl .own 1 []]:=by kernel_rfl
@[simp] theorem Tryz.zsz83:Aw.zeroSz Tryz.prog 83 1=true:=by kernel_rfl
@[simp] theorem Tryz.elm83:Aw.elemA Tryz.prog 83=some (146,1,24):=by kernel_rfl
@[simp] theorem Tryz.isl83:Aw.isSlice Tryz.prog 83=true:=by kernel_rfl
@[simp] theorem Tryz.apd83:Aw.appendable Tryz.prog 83=true:=by kernel_rfl
@[simp] theorem Tryz.agg116:Aw.aggSize Tryz.prog 116=some 8:=by kernel_rfl
@[simp] theorem Tryz.siz116:Aw.sizeA Tryz.prog 116=some 8:=by kernel_rfl
@[simp] theorem Tryz.zer116:Aw.zeroA Tryz.prog 116=some [.int .i64 0,.str [],.str [],.str [],.int .i64 0,.bool false,.int .i64 0,.str []]:=by kernel_rfl
@[simp] theorem Tryz.zsz116:Aw.zeroSz Tryz.prog 116 8=true:=by kernel_rfl
@[simp] theorem Tryz.fld116_0:Aw.fieldA Tryz.prog 116 0=some 0:=by kernel_rfl
@[simp] theorem Tryz.fld116_1:Aw.fieldA Tryz.prog 116 1=some 1:=by kernel_rfl
@[simp] theorem Tryz.fld116_2:Aw.fieldA Tryz.prog 116 2=some 3:=by kernel_rfl
@[simp] theorem Tryz.fld116_3:Aw.fieldA Tryz.prog 116 3=some 4:=by kernel_rfl
@[simp] theorem Tryz.fld116_4:Aw.fieldA Tryz.prog 116 4=some 5:=by kernel_rfl
@[simp] theorem Tryz.fld116_5:Aw.fieldA Tryz.prog 116 5=some 6:=by kernel_rfl
@[simp] theorem Tryz.fld116_6:Aw.fieldA Tryz.prog 116 6=some 7:=by kernel_rfl
@[simp] theorem Tryz.plc116:Aw.placesA Tryz.prog 116=some [(0,1),(1,2),(3,1),(4,1),(5,1),(6,1),(7,1)]:=by kernel_rfl
@[simp] theorem Tryz.agg123:Aw.aggSize Tryz.prog 123=none:=by kernel_rfl
@[simp] theorem Tryz.one123:Aw.oneSize Tryz.prog 123=true:=by kernel_rfl
@[simp] theorem Tryz.siz123:Aw.sizeA Tryz.prog 123=some 1:=by kernel_rfl
@[simp] theorem Tryz.zer123:Aw.zeroA Tryz.prog 123=some [.sl .own 2 []]:=by kernel_rfl
@[simp] theorem Tryz.zsz123:Aw.zeroSz Tryz.prog 123 1=true:=by kernel_rfl
@[simp] theorem Tryz.elm123:Aw.elemA Tryz.prog 123=some (243,2,32):=by kernel_rfl
@[simp] theorem Tryz.isl123:Aw.isSlice Tryz.prog 123=true:=by kernel_rfl
@[simp] theorem Tryz.apd123:Aw.appendable Tryz.prog 123=true:=by kernel_rfl
@[simp] theorem Tryz.agg125:Aw.aggSize Tryz.prog 125=some 4:=by kernel_rfl
@[simp] theorem Tryz.siz125:Aw.sizeA Tryz.prog 125=some 4:=by kernel_rfl
@[simp] theorem Tryz.zer125:Aw.zeroA Tryz.prog 125=some [.int .i64 0,.str [],.sl .own 2 [],.str []]:=by kernel_rfl
@[simp] theorem Tryz.zsz125:Aw.zeroSz Tryz.prog 125 4=true:=by kernel_rfl
@[simp] theorem Tryz.fld125_0:Aw.fieldA Tryz.prog 125 0=some 0:=by kernel_rfl
@[simp] theorem Tryz.fld125_1:Aw.fieldA Tryz.prog 125 1=some 1:=by kernel_rfl
@[simp] theorem Tryz.fld125_2:Aw.fieldA Tryz.prog 125 2=some 2:=by kernel_rfl
@[simp] theorem Tryz.fld125_3:Aw.fieldA Tryz.prog 125 3=some 3:=by kernel_rfl
@[simp] theorem Tryz.plc125:Aw.placesA Tryz.prog 125=some [(0,1),(1,1),(2,1),(3,1)]:=by kernel_rfl
@[simp] theorem Tryz.agg130:Aw.aggSize Tryz.prog 130=some 8:=by kernel_rfl
@[simp] theorem Tryz.siz130:Aw.sizeA Tryz.prog 130=some 8:=by kernel_rfl
@[simp] theorem Tryz.zer130:Aw.zeroA Tryz.prog 130=some [.int .i64 0,.str [],.str [],.str [],.int .i64 0,.bool false,.int .i64 0,.str []]:=by kernel_rfl
@[simp] theorem Tryz.zsz130:Aw.zeroSz Tryz.prog 130 8=true:=by kernel_rfl
@[simp] theorem Tryz.fld130_0:Aw.fieldA Tryz.prog 130 0=some 0:=by kernel_rfl
@[simp] theorem Tryz.fld130_1:Aw.fieldA Tryz.prog 130 1=some 1:=by kernel_rfl
@[simp] theorem Tryz.fld130_2:Aw.fieldA Tryz.prog 130 2=some 3:=by kernel_rfl
@[simp] theorem Tryz.fld130_3:Aw.fieldA Tryz.prog 130 3=some 4:=by kernel_rfl
@[simp] theorem Tryz.fld130_4:Aw.fieldA Tryz.prog 130 4=some 5:=by kernel_rfl
@[simp] theorem Tryz.fld130_5:Aw.fieldA Tryz.prog 130 5=some 6:=by kernel_rfl
@[simp] theorem Tryz.fld130_6:Aw.fieldA Tryz.prog 130 6=some 7:=by kernel_rfl
@[simp] theorem Tryz.plc130:Aw.placesA Tryz.prog 130=some [(0,1),(1,2),(3,1),(4,1),(5,1),(6,1),(7,1)]:=by kernel_rfl
@[simp] theorem Tryz.agg133:Aw.aggSize Tryz.prog 133=some 5:=by kernel_rfl
@[simp] theorem Tryz.siz133:Aw.sizeA Tryz.prog 133=some 5:=by kernel_rfl
@[simp] theorem Tryz.zer133:Aw.zeroA Tryz.prog 133=some [.str [],.str [],.bool false,.int .i64 0,.str []]:=by kernel_rfl
@[simp] theorem Tryz.zsz133:Aw.zeroSz Tryz.prog 133 5=true:=by kernel_rfl
@[simp] theorem Tryz.fld133_0:Aw.fieldA Tryz.prog 133 0=some 0:=by kernel_rfl
@[simp] theorem Tryz.fld133_1:Aw.fieldA Tryz.prog 133 1=some 2:=by kernel_rfl
@[simp] theorem Tryz.fld133_2:Aw.fieldA Tryz.prog 133 2=some 3:=by kernel_rfl
@[simp] theorem Tryz.fld133_3:Aw.fieldA Tryz.prog 133 3=some 4:=by kernel_rfl
@[simp] theorem Tryz.plc133:Aw.placesA Tryz.prog 133=some [(0,2),(2,1),(3,1),(4,1)]:=by kernel_rfl
@[simp] theorem Tryz.agg139:Aw.aggSize Tryz.prog 139=some 2:=by kernel_rfl
@[simp] theorem Tryz.siz139:Aw.sizeA Tryz.prog 139=some 2:=by kernel_rfl
@[simp] theorem Tryz.zer139:Aw.zeroA Tryz.prog 139=some [.int .i64 0,.str []]:=by kernel_rfl
@[simp] theorem Tryz.zsz139:Aw.zeroSz Tryz.prog 139 2=true:=by kernel_rfl
@[simp] theorem Tryz.fld139_0:Aw.fieldA Tryz.prog 139 0=some 0:=by kernel_rfl
@[simp] theorem Tryz.fld139_1:Aw.fieldA Tryz.prog 139 1=some 1:=by kernel_rfl
@[simp] theorem Tryz.plc139:Aw.placesA Tryz.prog 139=some [(0,1),(1,1)]:=by kernel_rfl
@[simp] theorem Tryz.agg144:Aw.aggSize Tryz.prog 144=none:=by kernel_rfl
@[simp] theorem Tryz.one144:Aw.oneSize Tryz.prog 144=true:=by kernel_rfl
@[simp] theorem Tryz.siz144:Aw.sizeA Tryz.prog 144=some 1:=by kernel_rfl
@[simp] theorem Tryz.zer144:Aw.zeroA Tryz.prog 144=some [.sl .own 2 []]:=by kernel_rfl
@[simp] theorem Tryz.zsz144:Aw.zeroSz Tryz.prog 144 1=true:=by kernel_rfl
@[simp] theorem Tryz.elm144:Aw.elemA Tryz.prog 144=some (204,2,24):=by kernel_rfl
@[simp] theorem Tryz.isl144:Aw.isSlice Tryz.prog 144=true:=by kernel_rfl
@[simp] theorem Tryz.apd144:Aw.appendable Tryz.prog 144=true:=by kernel_rfl
@[simp] theorem Tryz.agg146:Aw.aggSize Tryz.prog 146=some 1:=by kernel_rfl
@[simp] theorem Tryz.siz146:Aw.sizeA Tryz.prog 146=some 1:=by kernel_rfl
@[simp] theorem Tryz.zer146:Aw.zeroA Tryz.prog 146=some [.sl .own 2 []]:=by kernel_rfl
@[simp] theorem Tryz.zsz146:Aw.zeroSz Tryz.prog 146 1=true:=by kernel_rfl
@[simp] theorem Tryz.fld146_0:Aw.fieldA Tryz.prog 146 0=some 0:=by kernel_rfl
@[simp] theorem Tryz.plc146:Aw.placesA Tryz.prog 146=some [(0,1)]:=by kernel_rfl
@[simp] theorem Tryz.agg151:Aw.aggSize Tryz.prog 151=none:=by kernel_rfl
@[simp] theorem Tryz.one151:Aw.oneSize Tryz.prog 151=true:=by kernel_rfl
@[simp] theorem Tryz.siz151:Aw.sizeA Tryz.prog 151=some 1:=by kernel_rfl
@[simp] theorem Tryz.zer151:Aw.zeroA Tryz.prog 151=some [.sl .own 2 []]:=by kernel_rfl
@[simp] theorem Tryz.zsz151:Aw.zeroSz Tryz.prog 151 1=true:=by kernel_rfl
@[simp] theorem Tryz.elm151:Aw.elemA Tryz.prog 151=some (218,2,32):=by kernel_rfl
@[simp] theorem Tryz.isl151:Aw.isSlice Tryz.prog 151=true:=by kernel_rfl
@[simp] theorem Tryz.apd151:Aw.appendable Tryz.prog 151=true:=by kernel_rfl
@[simp] theorem Tryz.agg153:Aw.aggSize Tryz.prog 153=some 4:=by kernel_rfl
@[simp] theorem Tryz.siz153:Aw.sizeA Tryz.prog 153=some 4:=by kernel_rfl
@[simp] theorem Tryz.zer153:Aw.zeroA Tryz.prog 153=some [.int .i64 0,.str [],.sl .own 2 [],.str []]:=by kernel_rfl
@[simp] theorem Tryz.zsz153:Aw.zeroSz Tryz.prog 153 4=true:=by kernel_rfl
@[simp] theorem Tryz.fld153_0:Aw.fieldA Tryz.prog 153 0=some 0:=by kernel_rfl
@[simp] theorem Tryz.fld153_1:Aw.fieldA Tryz.prog 153 1=some 1:=by kernel_rfl
@[simp] theorem Tryz.fld153_2:Aw.fieldA Tryz.prog 153 2=some 2:=by kernel_rfl
@[simp] theorem Tryz.fld153_3:Aw.fieldA Tryz.prog 153 3=some 3:=by kernel_rfl
@[simp] theorem Tryz.plc153:Aw.placesA Tryz.prog 153=some [(0,1),(1,1),(2,1),(3,1)]:=by kernel_rfl
@[simp] theorem Tryz.agg159:Aw.aggSize Tryz.prog 159=some 5:=by kernel_rfl
@[simp] theorem Tryz.siz159:Aw.sizeA Tryz.prog 159=some 5:=by kernel_rfl
@[simp] theorem Tryz.zer159:Aw.zeroA Tryz.prog 159=some [.str [],.str [],.bool false,.int .i64 0,.str []]:=by kernel_rfl
@[simp] theorem Tryz.zsz159:Aw.zeroSz Tryz.prog 159 5=true:=by kernel_rfl
@[simp] theorem Tryz.fld159_0:Aw.fieldA Tryz.prog 159 0=some 0:=by kernel_rfl
@[simp] theorem Tryz.fld159_1:Aw.fieldA Tryz.prog 159 1=some 2:=by kernel_rfl
@[simp] theorem Tryz.fld159_2:Aw.fieldA Tryz.prog 159 2=some 3:=by kernel_rfl
@[simp] theorem Tryz.fld159_3:Aw.fieldA Tryz.prog 159 3=some 4:=by kernel_rfl
@[simp] theorem Tryz.plc159:Aw.placesA Tryz.prog 159=some [(0,2),(2,1),(3,1),(4,1)]:=by kernel_rfl
@[simp] theorem Tryz.agg171:Aw.aggSize Tryz.prog 171=some 4:=by kernel_rfl
@[simp] theorem Tryz.siz171:Aw.sizeA Tryz.prog 171=some 4:=by kernel_rfl
@[simp] theorem Tryz.zer171:Aw.zeroA Tryz.prog 171=some [.str [],.str [],.int .i64 0,.sl .own 2 []]:=by kernel_rfl
@[simp] theorem Tryz.zsz171:Aw.zeroSz Tryz.prog 171 4=true:=by kernel_rfl
@[simp] theorem Tryz.fld171_0:Aw.fieldA Tryz.prog 171 0=some 0:=by kernel_rfl
@[simp] theorem Tryz.fld171_1:Aw.fieldA Tryz.prog 171 1=some 1:=by kernel_rfl
@[simp] theorem Tryz.fld171_2:Aw.fieldA Tryz.prog 171 2=some 2:=by kernel_rfl
@[simp] theorem Tryz.fld171_3:Aw.fieldA Tryz.prog 171 3=some 3:=by kernel_rfl
@[simp] theorem Tryz.plc171:Aw.placesA Tryz.prog 171=some [(0,1),(1,1),(2,1),(3,1)]:=by kernel_rfl
@[simp] theorem Tryz.agg183:Aw.aggSize Tryz.prog 183=some 5:=by kernel_rfl
@[simp] theorem Tryz.siz183:Aw.sizeA Tryz.prog 183=some 5:=by kernel_rfl
@[simp] theorem Tryz.zer183:Aw.zeroA Tryz.prog 183=some [.int .i64 0,.str [],.str [],.str [],.str []]:=by kernel_rfl
@[simp] theorem Tryz.zsz183:Aw.zeroSz Tryz.prog 183 5=true:=by kernel_rfl
@[simp] theorem Tryz.fld183_0:Aw.fieldA Tryz.prog 183 0=some 0:=by kernel_rfl
@[simp] theorem Tryz.fld183_1:Aw.fieldA Tryz.prog 183 1=some 1:=by kernel_rfl
@[simp] theorem Tryz.fld183_2:Aw.fieldA Tryz.prog 183 2=some 3:=by kernel_rfl
@[simp] theorem Tryz.fld183_3:Aw.fieldA Tryz.prog 183 3=some 4:=by kernel_rfl
@[simp] theorem Tryz.plc183:Aw.placesA Tryz.prog 183=some [(0,1),(1,2),(3,1),(4,1)]:=by kernel_rfl
@[simp] theorem Tryz.agg194:Aw.aggSize Tryz.prog 194=some 4:=by kernel_rfl
@[simp] theorem Tryz.siz194:Aw.sizeA Tryz.prog 194=some 4:=by kernel_rfl
@[simp] theorem Tryz.zer194:Aw.zeroA Tryz.prog 194=some [.str [],.str [],.int .i64 0,.sl .own 2 []]:=by kernel_rfl
@[simp] theorem Tryz.zsz194:Aw.zeroSz Tryz.prog 194 4=true:=by kernel_rfl
@[simp] theorem Tryz.fld194_0:Aw.fieldA Tryz.prog 194 0=some 0:=by kernel_rfl
@[simp] theorem Tryz.fld194_1:Aw.fieldA Tryz.prog 194 1=some 1:=by kernel_rfl
@[simp] theorem Tryz.fld194_2:Aw.fieldA Tryz.prog 194 2=some 2:=by kernel_rfl
@[simp] theorem Tryz.fld194_3:Aw.fieldA Tryz.prog 194 3=some 3:=by kernel_rfl
@[simp] theorem Tryz.plc194:Aw.placesA Tryz.prog 194=some [(0,1),(1,1),(2,1),(3,1)]:=by kernel_rfl
@[simp] theorem Tryz.agg204:Aw.aggSize Tryz.prog 204=some 2:=by kernel_rfl
@[simp] theorem Tryz.siz204:Aw.sizeA Tryz.prog 204=some 2:=by kernel_rfl
@[simp] theorem Tryz.zer204:Aw.zeroA Tryz.prog 204=some [.str [],.int .i64 0]:=by kernel_rfl
@[simp] theorem Tryz.zsz204:Aw.zeroSz Tryz.prog 204 2=true:=by kernel_rfl
@[simp] theorem Tryz.fld204_0:Aw.fieldA Tryz.prog 204 0=some 0:=by kernel_rfl
@[simp] theorem Tryz.fld204_1:Aw.fieldA Tryz.prog 204 1=some 1:=by kernel_rfl
@[simp] theorem Tryz.plc204:Aw.placesA Tryz.prog 204=some [(0,1),(1,1)]:=by kernel_rfl
@[simp] theorem Tryz.agg216:Aw.aggSize Tryz.prog 216=none:=by kernel_rfl
@[simp] theorem Tryz.one216:Aw.oneSize Tryz.prog 216=true:=by kernel_rfl
@[simp] theorem Tryz.siz216:Aw.sizeA Tryz.prog 216=some 1:=by kernel_rfl
@[simp] theorem Tryz.zer216:Aw.zeroA Tryz.prog 216=some [.sl .own 1 []]:=by kernel_rfl
@[simp] theorem Tryz.zsz216:Aw.zeroSz Tryz.prog 216 1=true:=by kernel_rfl
@[simp] theorem Tryz.elm216:Aw.elemA Tryz.prog 216=some (5,1,1):=by kernel_rfl
@[simp] theorem Tryz.isl216:Aw.isSlice Tryz.prog 216=true:=by kernel_rfl
@[simp] theorem Tryz.apd216:Aw.appendable Tryz.prog 216=true:=by kernel_rfl
@[simp] theorem Tryz.agg218:Aw.aggSize Tryz.prog 218=some 2:=by kernel_rfl
@[simp] theorem Tryz.siz218:Aw.sizeA Tryz.prog 218=some 2:=by kernel_rfl
@[simp] theorem Tryz.zer218:Aw.zeroA Tryz.prog 218=some [.str [],.str []]:=by kernel_rfl
@[simp] theorem Tryz.zsz218:Aw.zeroSz Tryz.prog 218 2=true:=by kernel_rfl
@[simp] theorem Tryz.fld218_0:Aw.fieldA Tryz.prog 218 0=some 0:=by kernel_rfl
@[simp] theorem Tryz.fld218_1:Aw.fieldA Tryz.prog 218 1=some 1:=by kernel_rfl
@[simp] theorem Tryz.plc218:Aw.placesA Tryz.prog 218=some [(0,1),(1,1)]:=by kernel_rfl
@[simp] theorem Tryz.agg243:Aw.aggSize Tryz.prog 243=some 2:=by kernel_rfl
@[simp] theorem Tryz.siz243:Aw.sizeA Tryz.prog 243=some 2:=by kernel_rfl
@[simp] theorem Tryz.zer243:Aw.zeroA Tryz.prog 243=some [.str [],.str []]:=by kernel_rfl
@[simp] theorem Tryz.zsz243:Aw.zeroSz Tryz.prog 243 2=true:=by kernel_rfl
@[simp] theorem Tryz.fld243_0:Aw.fieldA Tryz.prog 243 0=some 0:=by kernel_rfl
@[simp] theorem Tryz.fld243_1:Aw.fieldA Tryz.prog 243 1=some 1:=by kernel_rfl
@[simp] theorem Tryz.plc243:Aw.placesA Tryz.prog 243=some [(0,1),(1,1)]:=by kernel_rfl
@[simp] theorem Tryz.agg254:Aw.aggSize Tryz.prog 254=some 2:=by kernel_rfl
@[simp] theorem Tryz.siz254:Aw.sizeA Tryz.prog 254=some 2:=by kernel_rfl
@[simp] theorem Tryz.zer254:Aw.zeroA Tryz.prog 254=some [.undef,.sl .own 1 []]:=by kernel_rfl
@[simp] theorem Tryz.zsz254:Aw.zeroSz Tryz.prog 254 2=true:=by kernel_rfl
@[simp] theorem Tryz.fld254_0:Aw.fieldA Tryz.prog 254 0=some 0:=by kernel_rfl
@[simp] theorem Tryz.fld254_1:Aw.fieldA Tryz.prog 254 1=some 1:=by kernel_rfl
@[simp] theorem Tryz.agg276:Aw.aggSize Tryz.prog 276=some 3:=by kernel_rfl
@[simp] theorem Tryz.siz276:Aw.sizeA Tryz.prog 276=some 3:=by kernel_rfl
@[simp] theorem Tryz.zer276:Aw.zeroA Tryz.prog 276=some [.sl .own 1 [],.sl .own 1 [],.sl .own 1 []]:=by kernel_rfl
@[simp] theorem Tryz.zsz276:Aw.zeroSz Tryz.prog 276 3=true:=by kernel_rfl
@[simp] theorem Tryz.plc276:Aw.placesA Tryz.prog 276=some []:=by kernel_rfl
@[simp] theorem Tryz.arr276:Aw.arrA Tryz.prog 276=some (3,1):=by kernel_rfl
@[simp] theorem Tryz.agg278:Aw.aggSize Tryz.prog 278=none:=by kernel_rfl
@[simp] theorem Tryz.one278:Aw.oneSize Tryz.prog 278=true:=by kernel_rfl
@[simp] theorem Tryz.siz278:Aw.sizeA Tryz.prog 278=some 1:=by kernel_rfl
@[simp] theorem Tryz.zer278:Aw.zeroA Tryz.prog 278=some [.int .u64 0]:=by kernel_rfl
@[simp] theorem Tryz.zsz278:Aw.zeroSz Tryz.prog 278 1=true:=by kernel_rfl
@[simp] theorem Tryz.int278:Aw.intType Tryz.prog 278=some .u64:=by kernel_rfl
@[simp] theorem Tryz.som278:(Tryz.prog.underlying 278).isSome=true:=by kernel_rfl
@[simp] theorem Tryz.agg282:Aw.aggSize Tryz.prog 282=none:=by kernel_rfl
@[simp] theorem Tryz.one282:Aw.oneSize Tryz.prog 282=true:=by kernel_rfl
@[simp] theorem Tryz.siz282:Aw.sizeA Tryz.prog 282=some 1:=by kernel_rfl
@[simp] theorem Tryz.zer282:Aw.zeroA Tryz.prog 282=some [.int .u32 0]:=by kernel_rfl
@[simp] theorem Tryz.zsz282:Aw.zeroSz Tryz.prog 282 1=true:=by kernel_rfl
@[simp] theorem Tryz.int282:Aw.intType Tryz.prog 282=some .u32:=by kernel_rfl
@[simp] theorem Tryz.som282:(Tryz.prog.underlying 282).isSome=true:=by kernel_rfl
@[simp] theorem Tryz.agg284:Aw.aggSize Tryz.prog 284=some 1:=by kernel_rfl
@[simp] theorem Tryz.siz284:Aw.sizeA Tryz.prog 284=some 1:=by kernel_rfl
@[simp] theorem Tryz.zer284:Aw.zeroA Tryz.prog 284=some [.int .u32 0]:=by kernel_rfl
@[simp] theorem Tryz.zsz284:Aw.zeroSz Tryz.prog 284 1=true:=by kernel_rfl
@[simp] theorem Tryz.fld284_1:Aw.fieldA Tryz.prog 284 1=some 0:=by kernel_rfl
@[simp] theorem Tryz.plc284:Aw.placesA Tryz.prog 284=some [(0,0),(0,1)]:=by kernel_rfl
@[simp] theorem Tryz.agg288:Aw.aggSize Tryz.prog 288=some 2:=by kernel_rfl
@[simp] theorem Tryz.siz288:Aw.sizeA Tryz.prog 288=some 2:=by kernel_rfl
@[simp] theorem Tryz.zer288:Aw.zeroA Tryz.prog 288=some [.int .i32 0,.int .u32 0]:=by kernel_rfl
@[simp] theorem Tryz.zsz288:Aw.zeroSz Tryz.prog 288 2=true:=by kernel_rfl
@[simp] theorem Tryz.fld288_1:Aw.fieldA Tryz.prog 288 1=some 0:=by kernel_rfl
@[simp] theorem Tryz.plc288:Aw.placesA Tryz.prog 288=some [(0,0),(0,2)]:=by kernel_rfl
@[simp] theorem Tryz.agg290:Aw.aggSize Tryz.prog 290=some 3:=by kernel_rfl
@[simp] theorem Tryz.siz290:Aw.sizeA Tryz.prog 290=some 3:=by kernel_rfl
@[simp] theorem Tryz.zer290:Aw.zeroA Tryz.prog 290=some [.int .u32 0,.int .i32 0,.int .u32 0]:=by kernel_rfl
@[simp] theorem Tryz.zsz290:Aw.zeroSz Tryz.prog 290 3=true:=by kernel_rfl
@[simp] theorem Tryz.fld290_1:Aw.fieldA Tryz.prog 290 1=some 0:=by kernel_rfl
@[simp] theorem Tryz.fld290_2:Aw.fieldA Tryz.prog 290 2=some 1:=by kernel_rfl
@[simp] theorem Tryz.plc290:Aw.placesA Tryz.prog 290=some [(0,0),(0,1),(1,2)]:=by kernel_rfl
@[simp] theorem Tryz.agg294:Aw.aggSize Tryz.prog 294=some 5:=by kernel_rfl
@[simp] theorem Tryz.siz294:Aw.sizeA Tryz.prog 294=some 5:=by kernel_rfl
@[simp] theorem Tryz.zer294:Aw.zeroA Tryz.prog 294=some [.int .u32 0,.int .i32 0,.int .u32 0,.undef,.sl .own 1 []]:=by kernel_rfl
@[simp] theorem Tryz.zsz294:Aw.zeroSz Tryz.prog 294 5=true:=by kernel_rfl
@[simp] theorem Tryz.fld294_0:Aw.fieldA Tryz.prog 294 0=some 0:=by kernel_rfl
@[simp] theorem Tryz.fld294_1:Aw.fieldA Tryz.prog 294 1=some 3:=by kernel_rfl
@[simp] theorem Tryz.fld294_2:Aw.fieldA Tryz.prog 294 2=some 4:=by kernel_rfl
@[simp] theorem Tryz.agg306:Aw.aggSize Tryz.prog 306=some 2:=by kernel_rfl
@[simp] theorem Tryz.siz306:Aw.sizeA Tryz.prog 306=some 2:=by kernel_rfl
@[simp] theorem Tryz.zer306:Aw.zeroA Tryz.prog 306=some [.int .u8 0,.int .u8 0]:=by kernel_rfl
@[simp] theorem Tryz.zsz306:Aw.zeroSz Tryz.prog 306 2=true:=by kernel_rfl
@[simp] theorem Tryz.fld306_0:Aw.fieldA Tryz.prog 306 0=some 0:=by kernel_rfl
@[simp] theorem Tryz.fld306_1:Aw.fieldA Tryz.prog 306 1=some 1:=by kernel_rfl
@[simp] theorem Tryz.plc306:Aw.placesA Tryz.prog 306=some [(0,1),(1,1)]:=by kernel_rfl
@[simp] theorem Tryz.agg333:Aw.aggSize Tryz.prog 333=some 257:=by kernel_rfl
@[simp] theorem Tryz.siz333:Aw.sizeA Tryz.prog 333=some 257:=by kernel_rfl
@[simp] theorem Tryz.zer333:Aw.zeroA Tryz.prog 333=some [.sl .own 1 [],.sl .own 1 [],.sl .own 1 [],.sl .own 1 [],.sl .own 1 [],.sl .own 1 [],.sl .own 1 [],.sl .own 1 [],.sl .own 1 [],.sl .own 1 [],.sl .own 1 [],.sl .own 1 [],.sl .own 1 [],.sl .own 1 [],.sl .own 1 [],.sl .own 1 [],.sl .own 1 [],.sl .own 1 [],.sl .own 1 [],.sl .own 1 [],.sl .own 1 [],.sl .own 1 [],.sl .own 1 [],.sl .own 1 [],.sl .own 1 [],.sl .own 1 [],.sl .own 1 [],.sl .own 1 [],.sl .own 1 [],.sl .own 1 [],.sl .own 1 [],.sl .own 1 [],.sl .own 1 [],.sl .own 1 [],.sl .own 1 [],.sl .own 1 [],.sl .own 1 [],.sl .own 1 [],.sl .own 1 [],.sl .own 1 [],.sl .own 1 [],.sl .own 1 [],.sl .own 1 [],.sl .own 1 [],.sl .own 1 [],.sl .own 1 [],.sl .own 1 [],.sl .own 1 [],.sl .own 1 [],.sl .own 1 [],.sl .own 1 [],.sl .own 1 [],.sl .own 1 [],.sl .own 1 [],.sl .own 1 [],.sl .own 1 [],.sl .own 1 [],.sl .own 1 [],.sl .own 1 [],.sl .own 1 [],.sl .own 1 [],.sl .own 1 [],.sl .own 1 [],.sl .own 1 [],.sl .own 1 [],.sl .own 1 [],.sl .own 1 [],.sl .own 1 [],.sl .own 1 [],.sl .own 1 [],.sl .own 1 [],.sl .own 1 [],.sl .own 1 [],.sl .own 1 [],.sl .own 1 [],.sl .own 1 [],.sl .own 1 [],.sl .own 1 [],.sl .own 1 [],.sl .own 1 [],.sl .own 1 [],.sl .own 1 [],.sl .own 1 [],.sl .own 1 [],.sl .own 1 [],.sl .own 1 [],.sl .own 1 [],.sl .own 1 [],.sl .own 1 [],.sl .own 1 [],.sl .own 1 [],.sl .own 1 [],.sl .own 1 [],.sl .own 1 [],.sl .own 1 [],.sl .own 1 [],.sl .own 1 [],.sl .own 1 [],.sl .own 1 [],.sl .own 1 [],.sl .own 1 [],.sl .own 1 [],.sl .own 1 [],.sl .own 1 [],.sl .own 1 [],.sl .own 1 [],.sl .own 1 [],.sl .own 1 [],.sl .own 1 [],.sl .own 1 [],.sl .own 1 [],.sl .own 1 [],.sl .own 1 [],.sl .own 1 [],.sl .own 1 [],.sl .own 1 [],.sl .own 1 [],.sl .own 1 [],.sl .own 1 [],.sl .own 1 [],.sl .own 1 [],.sl .own 1 [],.sl .own 1 [],.sl .own 1 [],.sl .own 1 [],.sl .own 1 [],.sl .own 1 [],.sl .own 1 [],.sl .own 1 [],.sl .own 1 [],.sl .own 1 [],.sl .own 1 [],.sl .own 1 [],.sl .own 1 [],.sl .own 1 [],.sl .own 1 [],.sl .own 1 [],.sl .own 1 [],.sl .own 1 [],.sl .own 1 [],.sl .own 1 [],.sl .own 1 [],.sl .own 1 [],.sl .own 1 [],.sl .own 1 [],.sl .own 1 [],.sl .own 1 [],.sl .own 1 [],.sl .own 1 [],.sl .own 1 [],.sl .own 1 [],.sl .own 1 [],.sl .own 1 [],.sl .own 1 [],.sl .own 1 [],.sl .own 1 [],.sl .own 1 [],.sl .own 1 [],.sl .own 1 [],.sl .own 1 [],.sl .own 1 [],.sl .own 1 [],.sl .own 1 [],.sl .own 1 [],.sl .own 1 [],.sl .own 1 [],.sl .own 1 [],.sl .own 1 [],.sl .own 1 [],.sl .own 1 [],.sl .own 1 [],.sl .own 1 [],.sl .own 1 [],.sl .own 1 [],.sl .own 1 [],.sl .own 1 [],.sl .own 1 [],.sl .own 1 [],.sl .own 1 [],.sl .own 1 [],.sl .own 1 [],.sl .own 1 [],.sl .own 1 [],.sl .own 1 [],.sl .own 1 [],.sl .own 1 [],.sl .own 1 [],.sl .own 1 [],.sl .own 1 [],.sl .own 1 [],.sl .own 1 [],.sl .own 1 [],.sl .own 1 [],.sl .own 1 [],.sl .own 1 [],.sl .own 1 [],.sl .own 1 [],.sl .own 1 [],.sl .own 1 [],.sl .own 1 [],.sl .own 1 [],.sl .own 1 [],.sl .own 1 [],.sl .own 1 [],.sl .own 1 [],.sl .own 1 [],.sl .own 1 [],.sl .own 1 [],.sl .own 1 [],.sl .own 1 [],.sl .own 1 [],.sl .own 1 [],.sl .own 1 [],.sl .own 1 [],.sl .own 1 [],.sl .own 1 [],.sl .own 1 [],.sl .own 1 [],.sl .own 1 [],.sl .own 1 [],.sl .own 1 [],.sl .own 1 [],.sl .own 1 [],.sl .own 1 [],.sl .own 1 [],.sl .own 1 [],.sl .own 1 [],.sl .own 1 [],.sl .own 1 [],.sl .own 1 [],.sl .own 1 [],.sl .own 1 [],.sl .own 1 [],.sl .own 1 [],.sl .own 1 [],.sl .own 1 [],.sl .own 1 [],.sl .own 1 [],.sl .own 1 [],.sl .own 1 [],.sl .own 1 [],.sl .own 1 [],.sl .own 1 [],.sl .own 1 [],.sl .own 1 [],.sl .own 1 [],.sl .own 1 [],.sl .own 1 [],.sl .own 1 [],.sl .own 1 [],.sl .own 1 [],.sl .own 1 [],.sl .own 1 [],.sl .own 1 [],.sl .own 1 [],.sl .own 1 [],.sl .own 1 []]:=by kernel_rfl
@[simp] theorem Tryz.zsz333:Aw.zeroSz Tryz.prog 333 257=true:=by kernel_rfl
@[simp] theorem Tryz.fld333_0:Aw.fieldA Tryz.prog 333 0=some 0:=by kernel_rfl
@[simp] theorem Tryz.fld333_1:Aw.fieldA Tryz.prog 333 1=some 256:=by kernel_rfl
@[simp] theorem Tryz.plc333:Aw.placesA Tryz.prog 333=some [(0,256),(256,1)]:=by kernel_rfl
@[simp] theorem Tryz.agg336:Aw.aggSize Tryz.prog 336=none:=by kernel_rfl
@[simp] theorem Tryz.one336:Aw.oneSize Tryz.prog 336=true:=by kernel_rfl
@[simp] theorem Tryz.siz336:Aw.sizeA Tryz.prog 336=some 1:=by kernel_rfl
@[simp] theorem Tryz.zer336:Aw.zeroA Tryz.prog 336=some [.int .u64 0]:=by kernel_rfl
@[simp] theorem Tryz.zsz336:Aw.zeroSz Tryz.prog 336 1=true:=by kernel_rfl
@[simp] theorem Tryz.int336:Aw.intType Tryz.prog 336=some .u64:=by kernel_rfl
@[simp] theorem Tryz.som336:(Tryz.prog.underlying 336).isSome=true:=by kernel_rfl
@[simp] theorem Tryz.agg344:Aw.aggSize Tryz.prog 344=some 3:=by kernel_rfl
@[simp] theorem Tryz.siz344:Aw.sizeA Tryz.prog 344=some 3:=by kernel_rfl
@[simp] theorem Tryz.zer344:Aw.zeroA Tryz.prog 344=some [.str [],.str [],.undef]:=by kernel_rfl
@[simp] theorem Tryz.zsz344:Aw.zeroSz Tryz.prog 344 3=true:=by kernel_rfl
@[simp] theorem Tryz.fld344_0:Aw.fieldA Tryz.prog 344 0=some 0:=by kernel_rfl
@[simp] theorem Tryz.fld344_1:Aw.fieldA Tryz.prog 344 1=some 1:=by kernel_rfl
@[simp] theorem Tryz.fld344_2:Aw.fieldA Tryz.prog 344 2=some 2:=by kernel_rfl
@[simp] theorem Tryz.agg353:Aw.aggSize Tryz.prog 353=some 2:=by kernel_rfl
@[simp] theorem Tryz.siz353:Aw.sizeA Tryz.prog 353=some 2:=by kernel_rfl
@[simp] theorem Tryz.zer353:Aw.zeroA Tryz.prog 353=some [.undef,.str []]:=by kernel_rfl
@[simp] theorem Tryz.zsz353:Aw.zeroSz Tryz.prog 353 2=true:=by kernel_rfl
@[simp] theorem Tryz.fld353_0:Aw.fieldA Tryz.prog 353 0=some 0:=by kernel_rfl
@[simp] theorem Tryz.fld353_1:Aw.fieldA Tryz.prog 353 1=some 1:=by kernel_rfl
@[simp] theorem Tryz.agg355:Aw.aggSize Tryz.prog 355=none:=by kernel_rfl
@[simp] theorem Tryz.one355:Aw.oneSize Tryz.prog 355=true:=by kernel_rfl
@[simp] theorem Tryz.siz355:Aw.sizeA Tryz.prog 355=some 1:=by kernel_rfl
@[simp] theorem Tryz.zer355:Aw.zeroA Tryz.prog 355=some [.sl .own 1 []]:=by kernel_rfl
@[simp] theorem Tryz.zsz355:Aw.zeroSz Tryz.prog 355 1=true:=by kernel_rfl
@[simp] theorem Tryz.elm355:Aw.elemA Tryz.prog 355=some (354,1,8):=by kernel_rfl
@[simp] theorem Tryz.isl355:Aw.isSlice Tryz.prog 355=true:=by kernel_rfl
@[simp] theorem Tryz.apd355:Aw.appendable Tryz.prog 355=true:=by kernel_rfl
@[simp] theorem Tryz.agg357:Aw.aggSize Tryz.prog 357=some 5:=by kernel_rfl
@[simp] theorem Tryz.siz357:Aw.sizeA Tryz.prog 357=some 5:=by kernel_rfl
@[simp] theorem Tryz.zer357:Aw.zeroA Tryz.prog 357=some [.str [],.int .i64 0,.str [],.undef,.sl .own 1 []]:=by kernel_rfl
@[simp] theorem Tryz.zsz357:Aw.zeroSz Tryz.prog 357 5=true:=by kernel_rfl
@[simp] theorem Tryz.fld357_0:Aw.fieldA Tryz.prog 357 0=some 0:=by kernel_rfl
@[simp] theorem Tryz.fld357_1:Aw.fieldA Tryz.prog 357 1=some 1:=by kernel_rfl
@[simp] theorem Tryz.fld357_2:Aw.fieldA Tryz.prog 357 2=some 2:=by kernel_rfl
@[simp] theorem Tryz.fld357_3:Aw.fieldA Tryz.prog 357 3=some 3:=by kernel_rfl
@[simp] theorem Tryz.fld357_4:Aw.fieldA Tryz.prog 357 4=some 4:=by kernel_rfl
@[simp] theorem Tryz.agg359:Aw.aggSize Tryz.prog 359=some 262:=by kernel_rfl
@[simp] theorem Tryz.siz359:Aw.sizeA Tryz.prog 359=some 262:=by kernel_rfl
@[simp] theorem Tryz.zer359:Aw.zeroA Tryz.prog 359=some [.str [],.int .i64 0,.str [],.undef,.sl .own 1 [],.int .i64 0,.int .u8 0,.int .u8 0,.int .u8 0,.int .u8 0,.int .u8 0,.int .u8 0,.int .u8 0,.int .u8 0,.int .u8 0,.int .u8 0,.int .u8 0,.int .u8 0,.int .u8 0,.int .u8 0,.int .u8 0,.int .u8 0,.int .u8 0,.int .u8 0,.int .u8 0,.int .u8 0,.int .u8 0,.int .u8 0,.int .u8 0,.int .u8 0,.int .u8 0,.int .u8 0,.int .u8 0,.int .u8 0,.int .u8 0,.int .u8 0,.int .u8 0,.int .u8 0,.int .u8 0,.int .u8 0,.int .u8 0,.int .u8 0,.int .u8 0,.int .u8 0,.int .u8 0,.int .u8 0,.int .u8 0,.int .u8 0,.int .u8 0,.int .u8 0,.int .u8 0,.int .u8 0,.int .u8 0,.int .u8 0,.int .u8 0,.int .u8 0,.int .u8 0,.int .u8 0,.int .u8 0,.int .u8 0,.int .u8 0,.int .u8 0,.int .u8 0,.int .u8 0,.int .u8 0,.int .u8 0,.int .u8 0,.int .u8 0,.int .u8 0,.int .u8 0,.int .u8 0,.int .u8 0,.int .u8 0,.int .u8 0,.int .u8 0,.int .u8 0,.int .u8 0,.int .u8 0,.int .u8 0,.int .u8 0,.int .u8 0,.int .u8 0,.int .u8 0,.int .u8 0,.int .u8 0,.int .u8 0,.int .u8 0,.int .u8 0,.int .u8 0,.int .u8 0,.int .u8 0,.int .u8 0,.int .u8 0,.int .u8 0,.int .u8 0,.int .u8 0,.int .u8 0,.int .u8 0,.int .u8 0,.int .u8 0,.int .u8 0,.int .u8 0,.int .u8 0,.int .u8 0,.int .u8 0,.int .u8 0,.int .u8 0,.int .u8 0,.int .u8 0,.int .u8 0,.int .u8 0,.int .u8 0,.int .u8 0,.int .u8 0,.int .u8 0,.int .u8 0,.int .u8 0,.int .u8 0,.int .u8 0,.int .u8 0,.int .u8 0,.int .u8 0,.int .u8 0,.int .u8 0,.int .u8 0,.int .u8 0,.int .u8 0,.int .u8 0,.int .u8 0,.int .u8 0,.int .u8 0,.int .u8 0,.int .u8 0,.int .u8 0,.int .u8 0,.int .u8 0,.int .u8 0,.int .u8 0,.int .u8 0,.int .u8 0,.int .u8 0,.int .u8 0,.int .u8 0,.int .u8 0,.int .u8 0,.int .u8 0,.int .u8 0,.int .u8 0,.int .u8 0,.int .u8 0,.int .u8 0,.int .u8 0,.int .u8 0,.int .u8 0,.int .u8 0,.int .u8 0,.int .u8 0,.int .u8 0,.int .u8 0,.int .u8 0,.int .u8 0,.int .u8 0,.int .u8 0,.int .u8 0,.int .u8 0,.int .u8 0,.int .u8 0,.int .u8 0,.int .u8 0,.int .u8 0,.int .u8 0,.int .u8 0,.int .u8 0,.int .u8 0,.int .u8 0,.int .u8 0,.int .u8 0,.int .u8 0,.int .u8 0,.int .u8 0,.int .u8 0,.int .u8 0,.int .u8 0,.int .u8 0,.int .u8 0,.int .u8 0,.int .u8 0,.int .u8 0,.int .u8 0,.int .u8 0,.int .u8 0,.int .u8 0,.int .u8 0,.int .u8 0,.int .u8 0,.int .u8 0,.int .u8 0,.int .u8 0,.int .u8 0,.int .u8 0,.int .u8 0,.int .u8 0,.int .u8 0,.int .u8 0,.int .u8 0,.int .u8 0,.int .u8 0,.int .u8 0,.int .u8 0,.int .u8 0,.int .u8 0,.int .u8 0,.int .u8 0,.int .u8 0,.int .u8 0,.int .u8 0,.int .u8 0,.int .u8 0,.int .u8 0,.int .u8 0,.int .u8 0,.int .u8 0,.int .u8 0,.int .u8 0,.int .u8 0,.int .u8 0,.int .u8 0,.int .u8 0,.int .u8 0,.int .u8 0,.int .u8 0,.int .u8 0,.int .u8 0,.int .u8 0,.int .u8 0,.int .u8 0,.int .u8 0,.int .u8 0,.int .u8 0,.int .u8 0,.int .u8 0,.int .u8 0,.int .u8 0,.int .u8 0,.int .u8 0,.int .u8 0,.int .u8 0,.int .u8 0,.int .u8 0,.int .u8 0,.int .u8 0,.int .u8 0,.int .u8 0,.int .u8 0,.int .u8 0,.int .u8 0,.int .u8 0,.int .u8 0,.int .u8 0,.int .u8 0,.int .u8 0,.int .u8 0]:=by kernel_rfl
@[simp] theorem Tryz.zsz359:Aw.zeroSz Tryz.prog 359 262=true:=by kernel_rfl
@[simp] theorem Tryz.fld359_0:Aw.fieldA Tryz.prog 359 0=some 0:=by kernel_rfl
@[simp] theorem Tryz.fld359_1:Aw.fieldA Tryz.prog 359 1=some 5:=by kernel_rfl
@[simp] theorem Tryz.fld359_2:Aw.fieldA Tryz.prog 359 2=some 6:=by kernel_rfl
@[simp] theorem Tryz.plc359:Aw.placesA Tryz.prog 359=some [(0,5),(5,1),(6,256)]:=by kernel_rfl
@[simp] theorem Tryz.agg369:Aw.aggSize Tryz.prog 369=some 1:=by kernel_rfl
@[simp] theorem Tryz.siz369:Aw.sizeA Tryz.prog 369=some 1:=by kernel_rfl
@[simp] theorem Tryz.zer369:Aw.zeroA Tryz.prog 369=some [.str []]:=by kernel_rfl
@[simp] theorem Tryz.zsz369:Aw.zeroSz Tryz.prog 369 1=true:=by kernel_rfl
@[simp] theorem Tryz.fld369_0:Aw.fieldA Tryz.prog 369 0=some 0:=by kernel_rfl
@[simp] theorem Tryz.plc369:Aw.placesA Tryz.prog 369=some [(0,1)]:=by kernel_rfl
@[simp] theorem Tryz.agg379:Aw.aggSize Tryz.prog 379=some 258:=by kernel_rfl
@[simp] theorem Tryz.siz379:Aw.sizeA Tryz.prog 379=some 258:=by kernel_rfl
@[simp] theorem Tryz.zer379:Aw.zeroA Tryz.prog 379=some [.str [],.int .i64 0,.int .i64 0,.int .i64 0,.int .i64 0,.int .i64 0,.int .i64 0,.int .i64 0,.int .i64 0,.int .i64 0,.int .i64 0,.int .i64 0,.int .i64 0,.int .i64 0,.int .i64 0,.int .i64 0,.int .i64 0,.int .i64 0,.int .i64 0,.int .i64 0,.int .i64 0,.int .i64 0,.int .i64 0,.int .i64 0,.int .i64 0,.int .i64 0,.int .i64 0,.int .i64 0,.int .i64 0,.int .i64 0,.int .i64 0,.int .i64 0,.int .i64 0,.int .i64 0,.int .i64 0,.int .i64 0,.int .i64 0,.int .i64 0,.int .i64 0,.int .i64 0,.int .i64 0,.int .i64 0,.int .i64 0,.int .i64 0,.int .i64 0,.int .i64 0,.int .i64 0,.int .i64 0,.int .i64 0,.int .i64 0,.int .i64 0,.int .i64 0,.int .i64 0,.int .i64 0,.int .i64 0,.int .i64 0,.int .i64 0,.int .i64 0,.int .i64 0,.int .i64 0,.int .i64 0,.int .i64 0,.int .i64 0,.int .i64 0,.int .i64 0,.int .i64 0,.int .i64 0,.int .i64 0,.int .i64 0,.int .i64 0,.int .i64 0,.int .i64 0,.int .i64 0,.int .i64 0,.int .i64 0,.int .i64 0,.int .i64 0,.int .i64 0,.int .i64 0,.int .i64 0,.int .i64 0,.int .i64 0,.int .i64 0,.int .i64 0,.int .i64 0,.int .i64 0,.int .i64 0,.int .i64 0,.int .i64 0,.int .i64 0,.int .i64 0,.int .i64 0,.int .i64 0,.int .i64 0,.int .i64 0,.int .i64 0,.int .i64 0,.int .i64 0,.int .i64 0,.int .i64 0,.int .i64 0,.int .i64 0,.int .i64 0,.int .i64 0,.int .i64 0,.int .i64 0,.int .i64 0,.int .i64 0,.int .i64 0,.int .i64 0,.int .i64 0,.int .i64 0,.int .i64 0,.int .i64 0,.int .i64 0,.int .i64 0,.int .i64 0,.int .i64 0,.int .i64 0,.int .i64 0,.int .i64 0,.int .i64 0,.int .i64 0,.int .i64 0,.int .i64 0,.int .i64 0,.int .i64 0,.int .i64 0,.int .i64 0,.int .i64 0,.int .i64 0,.int .i64 0,.int .i64 0,.int .i64 0,.int .i64 0,.int .i64 0,.int .i64 0,.int .i64 0,.int .i64 0,.int .i64 0,.int .i64 0,.int .i64 0,.int .i64 0,.int .i64 0,.int .i64 0,.int .i64 0,.int .i64 0,.int .i64 0,.int .i64 0,.int .i64 0,.int .i64 0,.int .i64 0,.int .i64 0,.int .i64 0,.int .i64 0,.int .i64 0,.int .i64 0,.int .i64 0,.int .i64 0,.int .i64 0,.int .i64 0,.int .i64 0,.int .i64 0,.int .i64 0,.int .i64 0,.int .i64 0,.int .i64 0,.int .i64 0,.int .i64 0,.int .i64 0,.int .i64 0,.int .i64 0,.int .i64 0,.int .i64 0,.int .i64 0,.int .i64 0,.int .i64 0,.int .i64 0,.int .i64 0,.int .i64 0,.int .i64 0,.int .i64 0,.int .i64 0,.int .i64 0,.int .i64 0,.int .i64 0,.int .i64 0,.int .i64 0,.int .i64 0,.int .i64 0,.int .i64 0,.int .i64 0,.int .i64 0,.int .i64 0,.int .i64 0,.int .i64 0,.int .i64 0,.int .i64 0,.int .i64 0,.int .i64 0,.int .i64 0,.int .i64 0,.int .i64 0,.int .i64 0,.int .i64 0,.int .i64 0,.int .i64 0,.int .i64 0,.int .i64 0,.int .i64 0,.int .i64 0,.int .i64 0,.int .i64 0,.int .i64 0,.int .i64 0,.int .i64 0,.int .i64 0,.int .i64 0,.int .i64 0,.int .i64 0,.int .i64 0,.int .i64 0,.int .i64 0,.int .i64 0,.int .i64 0,.int .i64 0,.int .i64 0,.int .i64 0,.int .i64 0,.int .i64 0,.int .i64 0,.int .i64 0,.int .i64 0,.int .i64 0,.int .i64 0,.int .i64 0,.int .i64 0,.int .i64 0,.int .i64 0,.int .i64 0,.int .i64 0,.int .i64 0,.int .i64 0,.int .i64 0,.int .i64 0,.int .i64 0,.int .i64 0,.int .i64 0,.int .i64 0,.int .i64 0,.int .i64 0,.int .i64 0,.int .i64 0,.int .i64 0,.int .i64 0,.int .i64 0,.int .i64 0,.sl .own 1 []]:=by kernel_rfl
@[simp] theorem Tryz.zsz379:Aw.zeroSz Tryz.prog 379 258=true:=by kernel_rfl
@[simp] theorem Tryz.fld379_0:Aw.fieldA Tryz.prog 379 0=some 0:=by kernel_rfl
@[simp] theorem Tryz.fld379_1:Aw.fieldA Tryz.prog 379 1=some 1:=by kernel_rfl
@[simp] theorem Tryz.fld379_2:Aw.fieldA Tryz.prog 379 2=some 257:=by kernel_rfl
@[simp] theorem Tryz.plc379:Aw.placesA Tryz.prog 379=some [(0,1),(1,256),(257,1)]:=by kernel_rfl
@[simp] theorem Tryz.agg400:Aw.aggSize Tryz.prog 400=none:=by kernel_rfl
@[simp] theorem Tryz.one400:Aw.oneSize Tryz.prog 400=true:=by kernel_rfl
@[simp] theorem Tryz.siz400:Aw.sizeA Tryz.prog 400=some 1:=by kernel_rfl
@[simp] theorem Tryz.zer400:Aw.zeroA Tryz.prog 400=some [.sl .own 1 []]:=by kernel_rfl
@[simp] theorem Tryz.zsz400:Aw.zeroSz Tryz.prog 400 1=true:=by kernel_rfl
@[simp] theorem Tryz.elm400:Aw.elemA Tryz.prog 400=some (5,1,1):=by kernel_rfl
@[simp] theorem Tryz.isl400:Aw.isSlice Tryz.prog 400=true:=by kernel_rfl
@[simp] theorem Tryz.apd400:Aw.appendable Tryz.prog 400=true:=by kernel_rfl
@[simp] theorem Tryz.agg411:Aw.aggSize Tryz.prog 411=some 1:=by kernel_rfl
@[simp] theorem Tryz.siz411:Aw.sizeA Tryz.prog 411=some 1:=by kernel_rfl
@[simp] theorem Tryz.zer411:Aw.zeroA Tryz.prog 411=some [.undef]:=by kernel_rfl
@[simp] theorem Tryz.zsz411:Aw.zeroSz Tryz.prog 411 1=true:=by kernel_rfl
@[simp] theorem Tryz.fld411_0:Aw.fieldA Tryz.prog 411 0=some 0:=by kernel_rfl
@[simp] theorem Tryz.cal3:Aw.callable Tryz.prog 3=true:=by kernel_rfl
@[simp] theorem Tryz.cal6:Aw.callable Tryz.prog 6=true:=by kernel_rfl
@[simp] theorem Tryz.cal8:Aw.callable Tryz.prog 8=true:=by kernel_rfl
@[simp] theorem Tryz.cal9:Aw.callable Tryz.prog 9=true:=by kernel_rfl
@[simp] theorem Tryz.cal10:Aw.callable Tryz.prog 10=true:=by kernel_rfl
@[simp] theorem Tryz.cal11:Aw.callable Tryz.prog 11=true:=by kernel_rfl
@[simp] theorem Tryz.cal12:Aw.callable Tryz.prog 12=true:=by kernel_rfl
@[simp] theorem Tryz.cal13:Aw.callable Tryz.prog 13=true:=by kernel_rfl
@[simp] theorem Tryz.cal14:Aw.callable Tryz.prog 14=true:=by kernel_rfl
@[simp] theorem Tryz.cal21:Aw.callable Tryz.prog 21=true:=by kernel_rfl
@[simp] theorem Tryz.cal22:Aw.callable Tryz.prog 22=true:=by kernel_rfl
@[simp] theorem Tryz.cal24:Aw.callable Tryz.prog 24=true:=by kernel_rfl
@[simp] theorem Tryz.cal25:Aw.callable Tryz.prog 25=true:=by kernel_rfl
@[simp] theorem Tryz.cal27:Aw.callable Tryz.prog 27=true:=by kernel_rfl
@[simp] theorem Tryz.cal28:Aw.callable Tryz.prog 28=true:=by kernel_rfl
@[simp] theorem Tryz.cal29:Aw.callable Tryz.prog 29=true:=by kernel_rfl
@[simp] theorem Tryz.cal30:Aw.callable Tryz.prog 30=true:=by kernel_rfl
@[simp] theorem Tryz.cal31:Aw.callable Tryz.prog 31=true:=by kernel_rfl
@[simp] theorem Tryz.cal32:Aw.callable Tryz.prog 32=true:=by kernel_rfl
@[simp] theorem Tryz.cal33:Aw.callable Tryz.prog 33=true:=by kernel_rfl
@[simp] theorem Tryz.cal34:Aw.callable Tryz.prog 34=true:=by kernel_rfl
@[simp] theorem Tryz.cal35:Aw.callable Tryz.prog 35=true:=by kernel_rfl
@[simp] theorem Tryz.cal36:Aw.callable Tryz.prog 36=true:=by kernel_rfl
@[simp] theorem Tryz.cal37:Aw.callable Tryz.prog 37=true:=by kernel_rfl
@[simp] theorem Tryz.cal38:Aw.callable Tryz.prog 38=true:=by kernel_rfl
@[simp] theorem Tryz.cal39:Aw.callable Tryz.prog 39=true:=by kernel_rfl
@[simp] theorem Tryz.cal40:Aw.callable Tryz.prog 40=true:=by kernel_rfl
@[simp] theorem Tryz.cal41:Aw.callable Tryz.prog 41=true:=by kernel_rfl
@[simp] theorem Tryz.cal42:Aw.callable Tryz.prog 42=true:=by kernel_rfl
@[simp] theorem Tryz.cal43:Aw.callable Tryz.prog 43=true:=by kernel_rfl
@[simp] theorem Tryz.cal44:Aw.callable Tryz.prog 44=true:=by kernel_rfl
@[simp] theorem Tryz.cal45:Aw.callable Tryz.prog 45=true:=by kernel_rfl
@[simp] theorem Tryz.cal46:Aw.callable Tryz.prog 46=true:=by kernel_rfl
@[simp] theorem Tryz.cal47:Aw.callable Tryz.prog 47=true:=by kernel_rfl
@[simp] theorem Tryz.cal48:Aw.callable Tryz.prog 48=true:=by kernel_rfl
@[simp] theorem Tryz.cal49:Aw.callable Tryz.prog 49=true:=by kernel_rfl
@[simp] theorem Tryz.cal50:Aw.callable Tryz.prog 50=true:=by kernel_rfl
@[simp] theorem Tryz.cal51:Aw.callable Tryz.prog 51=true:=by kernel_rfl
@[simp] theorem Tryz.cal52:Aw.callable Tryz.prog 52=true:=by kernel_rfl
@[simp] theorem Tryz.cal53:Aw.callable Tryz.prog 53=true:=by kernel_rfl
@[simp] theorem Tryz.cal54:Aw.callable Tryz.prog 54=true:=by kernel_rfl
@[simp] theorem Tryz.cal55:Aw.callable Tryz.prog 55=true:=by kernel_rfl
@[simp] theorem Tryz.cal56:Aw.callable Tryz.prog 56=true:=by kernel_rfl
@[simp] theorem Tryz.cal57:Aw.callable Tryz.prog 57=true:=by kernel_rfl
@[simp] theorem Tryz.cal58:Aw.callable Tryz.prog 58=true:=by kernel_rfl
@[simp] theorem Tryz.cal59:Aw.callable Tryz.prog 59=true:=by kernel_rfl
@[simp] theorem Tryz.cal60:Aw.callable Tryz.prog 60=true:=by kernel_rfl
@[simp] theorem Tryz.cal61:Aw.callable Tryz.prog 61=true:=by kernel_rfl
@[simp] theorem Tryz.cal62:Aw.callable Tryz.prog 62=true:=by kernel_rfl
@[simp] theorem Tryz.cal63:Aw.callable Tryz.prog 63=true:=by kernel_rfl
@[simp] theorem Tryz.cal64:Aw.callable Tryz.prog 64=true:=by kernel_rfl
@[simp] theorem Tryz.cal65:Aw.callable Tryz.prog 65=true:=by kernel_rfl
@[simp] theorem Tryz.cal66:Aw.callable Tryz.prog 66=true:=by kernel_rfl
@[simp] theorem Tryz.cal67:Aw.callable Tryz.prog 67=true:=by kernel_rfl
@[simp] theorem Tryz.cal68:Aw.callable Tryz.prog 68=true:=by kernel_rfl
@[simp] theorem Tryz.cal69:Aw.callable Tryz.prog 69=true:=by kernel_rfl
@[simp] theorem Tryz.cal70:Aw.callable Tryz.prog 70=true:=by kernel_rfl
@[simp] theorem Tryz.cal71:Aw.callable Tryz.prog 71=true:=by kernel_rfl
@[simp] theorem Tryz.cal72:Aw.callable Tryz.prog 72=true:=by kernel_rfl
@[simp] theorem Tryz.cal73:Aw.callable Tryz.prog 73=true:=by kernel_rfl
@[simp] theorem Tryz.cal74:Aw.callable Tryz.prog 74=true:=by kernel_rfl
@[simp] theorem Tryz.cal77:Aw.callable Tryz.prog 77=true:=by kernel_rfl
@[simp] theorem Tryz.cal99:Aw.callable Tryz.prog 99=true:=by kernel_rfl
@[simp] theorem Tryz.cal100:Aw.callable Tryz.prog 100=true:=by kernel_rfl
@[simp] theorem Tryz.cal101:Aw.callable Tryz.prog 101=true:=by kernel_rfl
@[simp] theorem Tryz.cal102:Aw.callable Tryz.prog 102=true:=by kernel_rfl
@[simp] theorem Tryz.cal103:Aw.callable Tryz.prog 103=true:=by kernel_rfl
@[simp] theorem Tryz.cal104:Aw.callable Tryz.prog 104=true:=by kernel_rfl
@[simp] theorem Tryz.cal105:Aw.callable Tryz.prog 105=true:=by kernel_rfl
@[simp] theorem Tryz.cal106:Aw.callable Tryz.prog 106=true:=by kernel_rfl
@[simp] theorem Tryz.cal107:Aw.callable Tryz.prog 107=true:=by kernel_rfl
@[simp] theorem Tryz.cal108:Aw.callable Tryz.prog 108=true:=by kernel_rfl
@[simp] theorem Tryz.cal109:Aw.callable Tryz.prog 109=true:=by kernel_rfl
@[simp] theorem Tryz.cal110:Aw.callable Tryz.prog 110=true:=by kernel_rfl
@[simp] theorem Tryz.cal111:Aw.callable Tryz.prog 111=true:=by kernel_rfl
@[simp] theorem Tryz.cal112:Aw.callable Tryz.prog 112=true:=by kernel_rfl
@[simp] theorem Tryz.cal113:Aw.callable Tryz.prog 113=true:=by kernel_rfl
@[simp] theorem Tryz.cal114:Aw.callable Tryz.prog 114=true:=by kernel_rfl
@[simp] theorem Tryz.cal115:Aw.callable Tryz.prog 115=true:=by kernel_rfl
@[simp] theorem Tryz.cal116:Aw.callable Tryz.prog 116=true:=by kernel_rfl
@[simp] theorem Tryz.cal117:Aw.callable Tryz.prog 117=true:=by kernel_rfl
@[simp] theorem Tryz.cal118:Aw.callable Tryz.prog 118=true:=by kernel_rfl
@[simp] theorem Tryz.cal119:Aw.callable Tryz.prog 119=true:=by kernel_rfl
@[simp] theorem Tryz.cal120:Aw.callable Tryz.prog 120=true:=by kernel_rfl
@[simp] theorem Tryz.cal121:Aw.callable Tryz.prog 121=true:=by kernel_rfl
@[simp] theorem Tryz.cal122:Aw.callable Tryz.prog 122=true:=by kernel_rfl
@[simp] theorem Tryz.cal123:Aw.callable Tryz.prog 123=true:=by kernel_rfl
@[simp] theorem Tryz.cal124:Aw.callable Tryz.prog 124=true:=by kernel_rfl
@[simp] theorem Tryz.cal125:Aw.callable Tryz.prog 125=true:=by kernel_rfl
@[simp] theorem Tryz.cal126:Aw.callable Tryz.prog 126=true:=by kernel_rfl
@[simp] theorem Tryz.cal127:Aw.callable Tryz.prog 127=true:=by kernel_rfl
@[simp] theorem Tryz.cal128:Aw.callable Tryz.prog 128=true:=by kernel_rfl
@[simp] theorem Tryz.cal129:Aw.callable Tryz.prog 129=true:=by kernel_rfl
@[simp] theorem Tryz.cal130:Aw.callable Tryz.prog 130=true:=by kernel_rfl
@[simp] theorem Tryz.cal131:Aw.callable Tryz.prog 131=true:=by kernel_rfl
@[simp] theorem Tryz.cal132:Aw.callable Tryz.prog 132=true:=by kernel_rfl
@[simp] theorem Tryz.cal133:Aw.callable Tryz.prog 133=true:=by kernel_rfl
@[simp] theorem Tryz.cal134:Aw.callable Tryz.prog 134=true:=by kernel_rfl
@[simp] theorem Tryz.cal135:Aw.callable Tryz.prog 135=true:=by kernel_rfl
@[simp] theorem Tryz.cal136:Aw.callable Tryz.prog 136=true:=by kernel_rfl
@[simp] theorem Tryz.cal137:Aw.callable Tryz.prog 137=true:=by kernel_rfl
@[simp] theorem Tryz.cal167:Aw.callable Tryz.prog 167=true:=by kernel_rfl
@[simp] theorem Tryz.cal168:Aw.callable Tryz.prog 168=true:=by kernel_rfl
@[simp] theorem Tryz.cal169:Aw.callable Tryz.prog 169=true:=by kernel_rfl
@[simp] theorem Tryz.cal170:Aw.callable Tryz.prog 170=true:=by kernel_rfl
@[simp] theorem Tryz.cal171:Aw.callable Tryz.prog 171=true:=by kernel_rfl
@[simp] theorem Tryz.cal172:Aw.callable Tryz.prog 172=true:=by kernel_rfl
@[simp] theorem Tryz.cal173:Aw.callable Tryz.prog 173=true:=by kernel_rfl
@[simp] theorem Tryz.cal174:Aw.callable Tryz.prog 174=true:=by kernel_rfl
@[simp] theorem Tryz.cal175:Aw.callable Tryz.prog 175=true:=by kernel_rfl
@[simp] theorem Tryz.cal176:Aw.callable Tryz.prog 176=true:=by kernel_rfl
@[simp] theorem Tryz.cal177:Aw.callable Tryz.prog 177=true:=by kernel_rfl
@[simp] theorem Tryz.cal178:Aw.callable Tryz.prog 178=true:=by kernel_rfl
@[simp] theorem Tryz.cal179:Aw.callable Tryz.prog 179=true:=by kernel_rfl
@[simp] theorem Tryz.cal180:Aw.callable Tryz.prog 180=true:=by kernel_rfl
@[simp] theorem Tryz.cal181:Aw.callable Tryz.prog 181=true:=by kernel_rfl
@[simp] theorem Tryz.cal183:Aw.callable Tryz.prog 183=true:=by kernel_rfl
@[simp] theorem Tryz.cal184:Aw.callable Tryz.prog 184=true:=by kernel_rfl
@[simp] theorem Tryz.cal185:Aw.callable Tryz.prog 185=true:=by kernel_rfl
@[simp] theorem Tryz.cal186:Aw.callable Tryz.prog 186=true:=by kernel_rfl
@[simp] theorem Tryz.cal187:Aw.callable Tryz.prog 187=true:=by kernel_rfl
@[simp] theorem Tryz.cal188:Aw.callable Tryz.prog 188=true:=by kernel_rfl
@[simp] theorem Tryz.cal189:Aw.callable Tryz.prog 189=true:=by kernel_rfl
@[simp] theorem Tryz.cal190:Aw.callable Tryz.prog 190=true:=by kernel_rfl
@[simp] theorem Tryz.cal191:Aw.callable Tryz.prog 191=true:=by kernel_rfl
@[simp] theorem Tryz.cal194:Aw.callable Tryz.prog 194=true:=by kernel_rfl
@[simp] theorem Tryz.cal199:Aw.callable Tryz.prog 199=true:=by kernel_rfl
@[simp] theorem Tryz.cal204:Aw.callable Tryz.prog 204=true:=by kernel_rfl
@[simp] theorem Tryz.cal205:Aw.callable Tryz.prog 205=true:=by kernel_rfl
@[simp] theorem Tryz.cal206:Aw.callable Tryz.prog 206=true:=by kernel_rfl
@[simp] theorem Tryz.cal210:Aw.callable Tryz.prog 210=true:=by kernel_rfl
@[simp] theorem Tryz.cal212:Aw.callable Tryz.prog 212=true:=by kernel_rfl
@[simp] theorem Tryz.cal213:Aw.callable Tryz.prog 213=true:=by kernel_rfl
@[simp] theorem Tryz.cal214:Aw.callable Tryz.prog 214=true:=by kernel_rfl
@[simp] theorem Tryz.cal215:Aw.callable Tryz.prog 215=true:=by kernel_rfl
@[simp] theorem Tryz.cal221:Aw.callable Tryz.prog 221=true:=by kernel_rfl
@[simp] theorem Tryz.cal228:Aw.callable Tryz.prog 228=true:=by kernel_rfl
@[simp] theorem Tryz.cal229:Aw.callable Tryz.prog 229=true:=by kernel_rfl
@[simp] theorem Tryz.cal230:Aw.callable Tryz.prog 230=true:=by kernel_rfl
@[simp] theorem Tryz.cal234:Aw.callable Tryz.prog 234=true:=by kernel_rfl
@[simp] theorem Tryz.cal235:Aw.callable Tryz.prog 235=true:=by kernel_rfl
@[simp] theorem Tryz.cal236:Aw.callable Tryz.prog 236=true:=by kernel_rfl
@[simp] theorem Tryz.cal237:Aw.callable Tryz.prog 237=true:=by kernel_rfl
@[simp] theorem Tryz.cal238:Aw.callable Tryz.prog 238=true:=by kernel_rfl
@[simp] theorem Tryz.cal239:Aw.callable Tryz.prog 239=true:=by kernel_rfl
@[simp] theorem Tryz.cal240:Aw.callable Tryz.prog 240=true:=by kernel_rfl
@[simp] theorem Tryz.cal241:Aw.callable Tryz.prog 241=true:=by kernel_rfl
@[simp] theorem Tryz.cal242:Aw.callable Tryz.prog 242=true:=by kernel_rfl
@[simp] theorem Tryz.cal243:Aw.callable Tryz.prog 243=true:=by kernel_rfl
@[simp] theorem Tryz.cal245:Aw.callable Tryz.prog 245=true:=by kernel_rfl
@[simp] theorem Tryz.cal246:Aw.callable Tryz.prog 246=true:=by kernel_rfl
@[simp] theorem Tryz.cal249:Aw.callable Tryz.prog 249=true:=by kernel_rfl
@[simp] theorem Tryz.cal253:Aw.callable Tryz.prog 253=true:=by kernel_rfl
@[simp] theorem Tryz.cal254:Aw.callable Tryz.prog 254=true:=by kernel_rfl
@[simp] theorem Tryz.cal257:Aw.callable Tryz.prog 257=true:=by kernel_rfl
@[simp] theorem Tryz.cal258:Aw.callable Tryz.prog 258=true:=by kernel_rfl
@[simp] theorem Tryz.cal267:Aw.callable Tryz.prog 267=true:=by kernel_rfl
@[simp] theorem Tryz.cal268:Aw.callable Tryz.prog 268=true:=by kernel_rfl
@[simp] theorem Tryz.cal269:Aw.callable Tryz.prog 269=true:=by kernel_rfl
@[simp] theorem Tryz.cal270:Aw.callable Tryz.prog 270=true:=by kernel_rfl
@[simp] theorem Tryz.cal272:Aw.callable Tryz.prog 272=true:=by kernel_rfl
@[simp] theorem Tryz.cal273:Aw.callable Tryz.prog 273=true:=by kernel_rfl
@[simp] theorem Tryz.cal274:Aw.callable Tryz.prog 274=true:=by kernel_rfl
@[simp] theorem Tryz.cal277:Aw.callable Tryz.prog 277=true:=by kernel_rfl
@[simp] theorem Tryz.cal281:Aw.callable Tryz.prog 281=true:=by kernel_rfl
@[simp] theorem Tryz.cal293:Aw.callable Tryz.prog 293=true:=by kernel_rfl
@[simp] theorem Tryz.cal297:Aw.callable Tryz.prog 297=false:=by kernel_rfl
@[simp] theorem Tryz.cal303:Aw.callable Tryz.prog 303=true:=by kernel_rfl
@[simp] theorem Tryz.cal311:Aw.callable Tryz.prog 311=true:=by kernel_rfl
@[simp] theorem Tryz.cal312:Aw.callable Tryz.prog 312=true:=by kernel_rfl
@[simp] theorem Tryz.cal322:Aw.callable Tryz.prog 322=true:=by kernel_rfl
@[simp] theorem Tryz.cal323:Aw.callable Tryz.prog 323=true:=by kernel_rfl
@[simp] theorem Tryz.cal324:Aw.callable Tryz.prog 324=true:=by kernel_rfl
@[simp] theorem Tryz.cal394:Aw.callable Tryz.prog 394=true:=by kernel_rfl
end Go.Proofs.YtgkcdgaljknohaaGreatDoor
