import Derived.Test.YtoelfoplajpgnaaProg
import Derived.Test.YtoelfoplajpgnaaApi
import Derived.Test.YtoelfoplajpgnaaEvSet
set_option linter.unusedVariables false
set_option linter.unusedSimpArgs false
set_option linter.unusedSectionVars false

namespace Go.Proofs.Mm
open Go Go.Ev

attribute [go_sem] byteAVs_map intAV boolAV strAV byteAV Mdl.av Nd.av Prp.av Rf.av Itm.av

@[go_sem] theorem tq22 : seqDesc Try.prog 22 = true := by kernel_rfl
@[go_sem] theorem tu22 : Try.prog.underlying 22 = some (.slice 36) := by kernel_rfl
@[go_sem] theorem ts22 : sliceOf Try.prog 22 = some 36 := by kernel_rfl
@[go_sem] theorem tc36 : Try.prog.cellsOf 36 = 3 := by kernel_rfl
@[go_sem] theorem te36 : elemOk Try.prog 36 = true := by kernel_rfl
@[go_sem] theorem ty36 : Try.prog.bytesOf 36 = 24 := by kernel_rfl
@[go_sem] theorem tu3 : Try.prog.underlying 3 = some (.int .i64) := by kernel_rfl
@[go_sem] theorem tu4 : Try.prog.underlying 4 = some .bool := by kernel_rfl
@[go_sem] theorem tf29_1 : fieldOf Try.prog 29 1 = some (1, 27) := by kernel_rfl
@[go_sem] theorem tc27 : Try.prog.cellsOf 27 = 1 := by kernel_rfl
@[go_sem] theorem ta27 : agg? Try.prog 27 = some false := by kernel_rfl
@[go_sem] theorem tq27 : seqDesc Try.prog 27 = true := by kernel_rfl
@[go_sem] theorem tu27 : Try.prog.underlying 27 = some (.slice 47) := by kernel_rfl
@[go_sem] theorem ts27 : sliceOf Try.prog 27 = some 47 := by kernel_rfl
@[go_sem] theorem tc47 : Try.prog.cellsOf 47 = 7 := by kernel_rfl
@[go_sem] theorem te47 : elemOk Try.prog 47 = true := by kernel_rfl
@[go_sem] theorem ty47 : Try.prog.bytesOf 47 = 120 := by kernel_rfl
@[go_sem] theorem tq30 : seqDesc Try.prog 30 = true := by kernel_rfl
@[go_sem] theorem tu30 : Try.prog.underlying 30 = some (.slice 41) := by kernel_rfl
@[go_sem] theorem ts30 : sliceOf Try.prog 30 = some 41 := by kernel_rfl
@[go_sem] theorem tc41 : Try.prog.cellsOf 41 = 2 := by kernel_rfl
@[go_sem] theorem te41 : elemOk Try.prog 41 = true := by kernel_rfl
@[go_sem] theorem ty41 : Try.prog.bytesOf 41 = 24 := by kernel_rfl
@[go_sem] theorem tc29 : Try.prog.cellsOf 29 = 2 := by kernel_rfl
@[go_sem] theorem ta29 : agg? Try.prog 29 = some true := by kernel_rfl
@[go_sem] theorem ta36 : agg? Try.prog 36 = some true := by kernel_rfl
@[go_sem] theorem tz36 : zeroOf Try.prog 36 = some (.agg [.fl (.int .i64 0), .fl (.int .i64 0), .fl (.int .i64 0)]) := by kernel_rfl
@[go_sem] theorem tf36_0 : fieldOf Try.prog 36 0 = some (0, 3) := by kernel_rfl
@[go_sem] theorem tc3 : Try.prog.cellsOf 3 = 1 := by kernel_rfl
@[go_sem] theorem ta3 : agg? Try.prog 3 = some false := by kernel_rfl
@[go_sem] theorem tf36_1 : fieldOf Try.prog 36 1 = some (1, 3) := by kernel_rfl
@[go_sem] theorem tf36_2 : fieldOf Try.prog 36 2 = some (2, 3) := by kernel_rfl
@[go_sem] theorem tz3 : zeroOf Try.prog 3 = some (.fl (.int .i64 0)) := by kernel_rfl
@[go_sem] theorem tf41_1 : fieldOf Try.prog 41 1 = some (1, 3) := by kernel_rfl
@[go_sem] theorem tf41_0 : fieldOf Try.prog 41 0 = some (0, 9) := by kernel_rfl
@[go_sem] theorem tc9 : Try.prog.cellsOf 9 = 1 := by kernel_rfl
@[go_sem] theorem ta9 : agg? Try.prog 9 = some false := by kernel_rfl
@[go_sem] theorem ta41 : agg? Try.prog 41 = some true := by kernel_rfl
@[go_sem] theorem tz47 : zeroOf Try.prog 47 = some (.agg [.fl (.int .i64 0), .fl (bs []), .fl (.int .i64 0), .fl (bs []), .sl [], .sl [], .sl []]) := by kernel_rfl
@[go_sem] theorem tf47_4 : fieldOf Try.prog 47 4 = some (4, 43) := by kernel_rfl
@[go_sem] theorem tc43 : Try.prog.cellsOf 43 = 1 := by kernel_rfl
@[go_sem] theorem ta43 : agg? Try.prog 43 = some false := by kernel_rfl
@[go_sem] theorem tq43 : seqDesc Try.prog 43 = true := by kernel_rfl
@[go_sem] theorem tu43 : Try.prog.underlying 43 = some (.slice 51) := by kernel_rfl
@[go_sem] theorem ts43 : sliceOf Try.prog 43 = some 51 := by kernel_rfl
@[go_sem] theorem tc51 : Try.prog.cellsOf 51 = 2 := by kernel_rfl
@[go_sem] theorem te51 : elemOk Try.prog 51 = true := by kernel_rfl
@[go_sem] theorem ty51 : Try.prog.bytesOf 51 = 32 := by kernel_rfl
@[go_sem] theorem tf51_0 : fieldOf Try.prog 51 0 = some (0, 9) := by kernel_rfl
@[go_sem] theorem tu9 : Try.prog.underlying 9 = some .string := by kernel_rfl
@[go_sem] theorem tf51_1 : fieldOf Try.prog 51 1 = some (1, 9) := by kernel_rfl
@[go_sem] theorem tz41 : zeroOf Try.prog 41 = some (.agg [.fl (bs []), .fl (.int .i64 0)]) := by kernel_rfl
@[go_sem] theorem ta51 : agg? Try.prog 51 = some true := by kernel_rfl
@[go_sem] theorem tz51 : zeroOf Try.prog 51 = some (.agg [.fl (bs []), .fl (bs [])]) := by kernel_rfl
@[go_sem] theorem tw41 : kindsOf Try.prog 41 = some [2, 0] := by kernel_rfl
@[go_sem] theorem tp41 : placesOf Try.prog 41 = some [(0, 1), (1, 1)] := by kernel_rfl
@[go_sem] theorem tq9 : seqDesc Try.prog 9 = true := by kernel_rfl
@[go_sem] theorem tp47 : placesOf Try.prog 47 = some [(0, 1), (1, 1), (2, 1), (3, 1), (4, 1), (5, 1), (6, 1)] := by kernel_rfl
@[go_sem] theorem ta47 : agg? Try.prog 47 = some true := by kernel_rfl
@[go_sem] theorem tu55 : Try.prog.underlying 55 = some (.int .i64) := by kernel_rfl
@[go_sem] theorem tc22 : Try.prog.cellsOf 22 = 1 := by kernel_rfl
@[go_sem] theorem ta22 : agg? Try.prog 22 = some false := by kernel_rfl
@[go_sem] theorem tf29_0 : fieldOf Try.prog 29 0 = some (0, 3) := by kernel_rfl
@[go_sem] theorem tf47_0 : fieldOf Try.prog 47 0 = some (0, 3) := by kernel_rfl
@[go_sem] theorem tf47_6 : fieldOf Try.prog 47 6 = some (6, 45) := by kernel_rfl
@[go_sem] theorem tc45 : Try.prog.cellsOf 45 = 1 := by kernel_rfl
@[go_sem] theorem ta45 : agg? Try.prog 45 = some false := by kernel_rfl
@[go_sem] theorem tf47_5 : fieldOf Try.prog 47 5 = some (5, 44) := by kernel_rfl
@[go_sem] theorem tc44 : Try.prog.cellsOf 44 = 1 := by kernel_rfl
@[go_sem] theorem ta44 : agg? Try.prog 44 = some false := by kernel_rfl
@[go_sem] theorem tq44 : seqDesc Try.prog 44 = true := by kernel_rfl
@[go_sem] theorem tu44 : Try.prog.underlying 44 = some (.slice 3) := by kernel_rfl
@[go_sem] theorem ts44 : sliceOf Try.prog 44 = some 3 := by kernel_rfl
@[go_sem] theorem te3 : elemOk Try.prog 3 = true := by kernel_rfl
@[go_sem] theorem ty3 : Try.prog.bytesOf 3 = 8 := by kernel_rfl
@[go_sem] theorem tf47_1 : fieldOf Try.prog 47 1 = some (1, 9) := by kernel_rfl
@[go_sem] theorem tq45 : seqDesc Try.prog 45 = true := by kernel_rfl
@[go_sem] theorem tu45 : Try.prog.underlying 45 = some (.slice 65) := by kernel_rfl
@[go_sem] theorem ts45 : sliceOf Try.prog 45 = some 65 := by kernel_rfl
@[go_sem] theorem tc65 : Try.prog.cellsOf 65 = 2 := by kernel_rfl
@[go_sem] theorem te65 : elemOk Try.prog 65 = true := by kernel_rfl
@[go_sem] theorem ty65 : Try.prog.bytesOf 65 = 24 := by kernel_rfl
@[go_sem] theorem tf65_0 : fieldOf Try.prog 65 0 = some (0, 9) := by kernel_rfl
@[go_sem] theorem tf65_1 : fieldOf Try.prog 65 1 = some (1, 3) := by kernel_rfl
@[go_sem] theorem ts67 : sliceOf Try.prog 67 = some 4 := by kernel_rfl
@[go_sem] theorem tc4 : Try.prog.cellsOf 4 = 1 := by kernel_rfl
@[go_sem] theorem tz4 : zeroOf Try.prog 4 = some (.fl (.bool false)) := by kernel_rfl
@[go_sem] theorem ty4 : Try.prog.bytesOf 4 = 1 := by kernel_rfl
@[go_sem] theorem tf47_2 : fieldOf Try.prog 47 2 = some (2, 3) := by kernel_rfl
@[go_sem] theorem ta4 : agg? Try.prog 4 = some false := by kernel_rfl
@[go_sem] theorem tf47_3 : fieldOf Try.prog 47 3 = some (3, 9) := by kernel_rfl
@[go_sem] theorem ta65 : agg? Try.prog 65 = some true := by kernel_rfl
@[go_sem] theorem tz65 : zeroOf Try.prog 65 = some (.agg [.fl (bs []), .fl (.int .i64 0)]) := by kernel_rfl
@[go_sem] theorem tb3_69 : bytesT Try.prog 3 69 = false := by kernel_rfl
@[go_sem] theorem ti3_69 : convK Try.prog 3 69 = some .u64 := by kernel_rfl
@[go_sem] theorem tu69 : Try.prog.underlying 69 = some (.int .u64) := by kernel_rfl
@[go_sem] theorem tb69_3 : bytesT Try.prog 69 3 = false := by kernel_rfl
@[go_sem] theorem ti69_3 : convK Try.prog 69 3 = some .i64 := by kernel_rfl
@[go_sem] theorem tu5 : Try.prog.underlying 5 = some (.int .u8) := by kernel_rfl
@[go_sem] theorem tb9_73 : bytesT Try.prog 9 73 = true := by kernel_rfl
@[go_sem] theorem tq73 : seqDesc Try.prog 73 = true := by kernel_rfl
@[go_sem] theorem tu73 : Try.prog.underlying 73 = some (.slice 5) := by kernel_rfl
@[go_sem] theorem ts73 : sliceOf Try.prog 73 = some 5 := by kernel_rfl
@[go_sem] theorem tc5 : Try.prog.cellsOf 5 = 1 := by kernel_rfl
@[go_sem] theorem te5 : elemOk Try.prog 5 = true := by kernel_rfl
@[go_sem] theorem ty5 : Try.prog.bytesOf 5 = 1 := by kernel_rfl
@[go_sem] theorem ta5 : agg? Try.prog 5 = some false := by kernel_rfl

end Go.Proofs.Mm
