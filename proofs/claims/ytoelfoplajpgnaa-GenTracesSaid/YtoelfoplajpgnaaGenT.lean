import Derived.Test.YtoelfoplajpgnaaEvRun
import Derived.Test.YtoelfoplajpgnaaProg
set_option linter.unusedVariables false
set_option linter.unusedSimpArgs false
namespace Go.Proofs
open Go Go.Ev

theorem tq22 : seqDesc Try.prog 22 = true := by kernel_rfl
theorem tu22 : Try.prog.underlying 22 = some (.slice 36) := by kernel_rfl
theorem ts22 : sliceOf Try.prog 22 = some 36 := by kernel_rfl
theorem tc36 : Try.prog.cellsOf 36 = 3 := by kernel_rfl
theorem te36 : elemOk Try.prog 36 = true := by kernel_rfl
theorem ty36 : Try.prog.bytesOf 36 = 24 := by kernel_rfl
theorem tu3 : Try.prog.underlying 3 = some (.int .i64) := by kernel_rfl
theorem tu4 : Try.prog.underlying 4 = some .bool := by kernel_rfl
theorem tf29_1 : fieldOf Try.prog 29 1 = some (1, 27) := by kernel_rfl
theorem tc27 : Try.prog.cellsOf 27 = 1 := by kernel_rfl
theorem ta27 : agg? Try.prog 27 = some false := by kernel_rfl
theorem tq27 : seqDesc Try.prog 27 = true := by kernel_rfl
theorem tu27 : Try.prog.underlying 27 = some (.slice 47) := by kernel_rfl
theorem ts27 : sliceOf Try.prog 27 = some 47 := by kernel_rfl
theorem tc47 : Try.prog.cellsOf 47 = 7 := by kernel_rfl
theorem te47 : elemOk Try.prog 47 = true := by kernel_rfl
theorem ty47 : Try.prog.bytesOf 47 = 120 := by kernel_rfl
theorem tq30 : seqDesc Try.prog 30 = true := by kernel_rfl
theorem tu30 : Try.prog.underlying 30 = some (.slice 41) := by kernel_rfl
theorem ts30 : sliceOf Try.prog 30 = some 41 := by kernel_rfl
theorem tc41 : Try.prog.cellsOf 41 = 2 := by kernel_rfl
theorem te41 : elemOk Try.prog 41 = true := by kernel_rfl
theorem ty41 : Try.prog.bytesOf 41 = 24 := by kernel_rfl
theorem tc29 : Try.prog.cellsOf 29 = 2 := by kernel_rfl
theorem ta29 : agg? Try.prog 29 = some true := by kernel_rfl
theorem ta36 : agg? Try.prog 36 = some true := by kernel_rfl
theorem tz36 : zeroOf Try.prog 36 = some (.agg [.fl (.int .i64 0), .fl (.int .i64 0), .fl (.int .i64 0)]) := by kernel_rfl
theorem tf36_0 : fieldOf Try.prog 36 0 = some (0, 3) := by kernel_rfl
theorem tc3 : Try.prog.cellsOf 3 = 1 := by kernel_rfl
theorem ta3 : agg? Try.prog 3 = some false := by kernel_rfl
theorem tf36_1 : fieldOf Try.prog 36 1 = some (1, 3) := by kernel_rfl
theorem tf36_2 : fieldOf Try.prog 36 2 = some (2, 3) := by kernel_rfl
theorem tz3 : zeroOf Try.prog 3 = some (.fl (.int .i64 0)) := by kernel_rfl
theorem tf41_1 : fieldOf Try.prog 41 1 = some (1, 3) := by kernel_rfl
theorem tf41_0 : fieldOf Try.prog 41 0 = some (0, 9) := by kernel_rfl
theorem tc9 : Try.prog.cellsOf 9 = 1 := by kernel_rfl
theorem ta9 : agg? Try.prog 9 = some false := by kernel_rfl
theorem ta41 : agg? Try.prog 41 = some true := by kernel_rfl
theorem tz47 : zeroOf Try.prog 47 = some (.agg [.fl (.int .i64 0), .fl (bs []), .fl (.int .i64 0), .fl (bs []), .sl [], .sl [], .sl []]) := by kernel_rfl
theorem tf47_4 : fieldOf Try.prog 47 4 = some (4, 43) := by kernel_rfl
theorem tc43 : Try.prog.cellsOf 43 = 1 := by kernel_rfl
theorem ta43 : agg? Try.prog 43 = some false := by kernel_rfl
theorem tq43 : seqDesc Try.prog 43 = true := by kernel_rfl
theorem tu43 : Try.prog.underlying 43 = some (.slice 51) := by kernel_rfl
theorem ts43 : sliceOf Try.prog 43 = some 51 := by kernel_rfl
theorem tc51 : Try.prog.cellsOf 51 = 2 := by kernel_rfl
theorem te51 : elemOk Try.prog 51 = true := by kernel_rfl
theorem ty51 : Try.prog.bytesOf 51 = 32 := by kernel_rfl
theorem tf51_0 : fieldOf Try.prog 51 0 = some (0, 9) := by kernel_rfl
theorem tu9 : Try.prog.underlying 9 = some .string := by kernel_rfl
theorem tf51_1 : fieldOf Try.prog 51 1 = some (1, 9) := by kernel_rfl
theorem tz41 : zeroOf Try.prog 41 = some (.agg [.fl (bs []), .fl (.int .i64 0)]) := by kernel_rfl
theorem ta51 : agg? Try.prog 51 = some true := by kernel_rfl
theorem tz51 : zeroOf Try.prog 51 = some (.agg [.fl (bs []), .fl (bs [])]) := by kernel_rfl
theorem tp41 : placesOf Try.prog 41 = some [(0, 1), (1, 1)] := by kernel_rfl
theorem tq9 : seqDesc Try.prog 9 = true := by kernel_rfl
theorem tp47 : placesOf Try.prog 47 = some [(0, 1), (1, 1), (2, 1), (3, 1), (4, 1), (5, 1), (6, 1)] := by kernel_rfl
theorem ta47 : agg? Try.prog 47 = some true := by kernel_rfl
theorem tu55 : Try.prog.underlying 55 = some (.int .i64) := by kernel_rfl
theorem tc22 : Try.prog.cellsOf 22 = 1 := by kernel_rfl
theorem ta22 : agg? Try.prog 22 = some false := by kernel_rfl
theorem tf29_0 : fieldOf Try.prog 29 0 = some (0, 3) := by kernel_rfl
theorem tf47_0 : fieldOf Try.prog 47 0 = some (0, 3) := by kernel_rfl
theorem tf47_6 : fieldOf Try.prog 47 6 = some (6, 45) := by kernel_rfl
theorem tc45 : Try.prog.cellsOf 45 = 1 := by kernel_rfl
theorem ta45 : agg? Try.prog 45 = some false := by kernel_rfl
theorem tf47_5 : fieldOf Try.prog 47 5 = some (5, 44) := by kernel_rfl
theorem tc44 : Try.prog.cellsOf 44 = 1 := by kernel_rfl
theorem ta44 : agg? Try.prog 44 = some false := by kernel_rfl
theorem tq44 : seqDesc Try.prog 44 = true := by kernel_rfl
theorem tu44 : Try.prog.underlying 44 = some (.slice 3) := by kernel_rfl
theorem ts44 : sliceOf Try.prog 44 = some 3 := by kernel_rfl
theorem te3 : elemOk Try.prog 3 = true := by kernel_rfl
theorem ty3 : Try.prog.bytesOf 3 = 8 := by kernel_rfl
theorem tf47_1 : fieldOf Try.prog 47 1 = some (1, 9) := by kernel_rfl
theorem tq45 : seqDesc Try.prog 45 = true := by kernel_rfl
theorem tu45 : Try.prog.underlying 45 = some (.slice 65) := by kernel_rfl
theorem ts45 : sliceOf Try.prog 45 = some 65 := by kernel_rfl
theorem tc65 : Try.prog.cellsOf 65 = 2 := by kernel_rfl
theorem te65 : elemOk Try.prog 65 = true := by kernel_rfl
theorem ty65 : Try.prog.bytesOf 65 = 24 := by kernel_rfl
theorem tf65_0 : fieldOf Try.prog 65 0 = some (0, 9) := by kernel_rfl
theorem tf65_1 : fieldOf Try.prog 65 1 = some (1, 3) := by kernel_rfl
theorem ts67 : sliceOf Try.prog 67 = some 4 := by kernel_rfl
theorem tc4 : Try.prog.cellsOf 4 = 1 := by kernel_rfl
theorem tz4 : zeroOf Try.prog 4 = some (.fl (.bool false)) := by kernel_rfl
theorem ty4 : Try.prog.bytesOf 4 = 1 := by kernel_rfl
theorem tf47_2 : fieldOf Try.prog 47 2 = some (2, 3) := by kernel_rfl
theorem ta4 : agg? Try.prog 4 = some false := by kernel_rfl
theorem tf47_3 : fieldOf Try.prog 47 3 = some (3, 9) := by kernel_rfl
theorem ta65 : agg? Try.prog 65 = some true := by kernel_rfl
theorem tz65 : zeroOf Try.prog 65 = some (.agg [.fl (bs []), .fl (.int .i64 0)]) := by kernel_rfl
theorem tu69 : Try.prog.underlying 69 = some (.int .u64) := by kernel_rfl
theorem tu5 : Try.prog.underlying 5 = some (.int .u8) := by kernel_rfl
theorem tq73 : seqDesc Try.prog 73 = true := by kernel_rfl
theorem tu73 : Try.prog.underlying 73 = some (.slice 5) := by kernel_rfl
theorem ts73 : sliceOf Try.prog 73 = some 5 := by kernel_rfl
theorem tc5 : Try.prog.cellsOf 5 = 1 := by kernel_rfl
theorem te5 : elemOk Try.prog 5 = true := by kernel_rfl
theorem ty5 : Try.prog.bytesOf 5 = 1 := by kernel_rfl
theorem ta5 : agg? Try.prog 5 = some false := by kernel_rfl

structure Span where
  node : Int
  b : Int
  e : Int

def Span.av (x : Span) : AV := .agg [.fl (.int .i64 x.node), .fl (.int .i64 x.b), .fl (.int .i64 x.e)]
@[simp] theorem Span.av_cells (x : Span) : x.av.cells = [.fl (.int .i64 x.node), .fl (.int .i64 x.b), .fl (.int .i64 x.e)] := rfl
@[simp] theorem Span.av_wf (x : Span) : x.av.wf := by simp [AV.wf, AV.isAgg]

def whereF (l : List Span) (n : Int) : Int × Int × Bool := match l.find? (·.node == n) with
  | some x => (x.b, x.e, true)
  | none => (0, 0, false)

theorem Where_does (E : Env) (l : List Span) (n : Int) (hl : l.length ≤ 4611686018427387904) : Does Try.prog E 5 [.sl (l.map Span.av), .fl (.int .i64 n)] (.ret [.v (.fl (.int .i64 (whereF l n).1)), .v (.fl (.int .i64 (whereF l n).2.1)), .v (.fl (.bool (whereF l n).2.2))]) := by
  refine does_run Try.func5 Try.ntmps5 rfl rfl (by simp) fun w0 I0 s hr hb => ?_
  have h0 := hr 0
  have h1 := hr 1
  simp only [List.map_cons, List.map_nil, List.getElem?_cons_zero, List.getElem?_cons_succ, Option.getD_some] at h0 h1
  refine awp_seq fun K hK => ?_
  refine awp_region rfl (by kernel_rfl) ?_
  first | refine rops_k ?_ | refine ropsD_k ?_ | skip
  repeat ((first | refine rops_step fun K hK => ?_ | refine ropsD_step fun K hK => ?_); simp only [rops1, ropsD1, rOp, rOpD, rValue, rLoad, rFieldAddr, rIndexAddr, rStore, rBin, onVal, rSlice, rSliceSl, rBuiltin, rLoadAV, gtmp, bnd, boxCells, regCells, regAV, regAVs, regAVsOf, partsOf, alive, oneReg, lenOfReg, srcOf, intBin, strBin, St.newCells, St.newArr, writeAt, setElem, avReg, AV.wf, cells_agg, cells_fl, cells_sl, cells_ref, cells_fn, cells_ifc, isAgg_agg, isAgg_fl, isAgg_sl, isAgg_ref, isAgg_fn, isAgg_ifc, List.mem_cons, forall_eq_or_imp, List.not_mem_nil, List.nil_append, List.cons_append, List.append_nil, forall_eq, AExit.then_normal, upd_apply, reduceIte, Nat.reduceEqDiff, St.ev, constReg, constCell, St.put_some, St.put_none, Option.some.injEq, Option.bind_some, Option.map_some, Prod.mk.injEq, exists_eq_left', exists_eq_left, exists_eq', exists_eq, exists_and_left, and_assoc, true_and, and_true, true_or, or_true, and_self, ne_eq, not_false_eq_true, not_true_eq_false, false_and, and_false, or_false, false_or, reduceCtorEq, TypeDesc.slice.injEq, List.map_cons, List.map_nil, List.length_map, List.length_cons, List.length_nil, List.drop_zero, List.drop_succ_cons, List.take_zero, List.take_succ_cons, List.take_nil, List.drop_nil, List.headD_cons, List.getElem?_toArray, List.getElem?_cons_zero, List.getElem?_cons_succ, List.size_toArray, List.set_cons_zero, List.set_cons_succ, Nat.zero_lt_succ, Nat.reduceAdd, Nat.reduceMul, Nat.reduceLT, Nat.reduceLeDiff, Nat.zero_mul, Nat.zero_add, Nat.add_zero, Int.toNat_natCast, Int.natCast_nonneg, Reg.val.injEq, AV.fl.injEq, Value.bool.injEq, decide_true, decide_false, Bool.true_eq_false, Bool.false_eq_true, implies_true, forall_const, false_implies, true_implies, h0, h1]; refine hK _ ?_; clear hK K)
  first | refine rops_nil ?_ | refine ropsD_nil ?_
  try simp only [AExit.then_normal, AExit.inBlock_normal]
  refine hK _ ?_; clear hK K
  refine awp_seq fun K hK => ?_
  refine awp_seq fun K hK => ?_
  refine awp_region rfl (by kernel_rfl) ?_
  first | refine rops_k ?_ | refine ropsD_k ?_ | skip
  repeat ((first | refine rops_step fun K hK => ?_ | refine ropsD_step fun K hK => ?_); simp only [rops1, ropsD1, rOp, rOpD, rValue, rLoad, rFieldAddr, rIndexAddr, rStore, rBin, onVal, rSlice, rSliceSl, rBuiltin, rLoadAV, gtmp, bnd, boxCells, regCells, regAV, regAVs, regAVsOf, partsOf, alive, oneReg, lenOfReg, srcOf, intBin, strBin, St.newCells, St.newArr, writeAt, setElem, avReg, AV.wf, cells_agg, cells_fl, cells_sl, cells_ref, cells_fn, cells_ifc, isAgg_agg, isAgg_fl, isAgg_sl, isAgg_ref, isAgg_fn, isAgg_ifc, List.mem_cons, forall_eq_or_imp, List.not_mem_nil, List.nil_append, List.cons_append, List.append_nil, forall_eq, AExit.then_normal, upd_apply, reduceIte, Nat.reduceEqDiff, St.ev, constReg, constCell, St.put_some, St.put_none, Option.some.injEq, Option.bind_some, Option.map_some, Prod.mk.injEq, exists_eq_left', exists_eq_left, exists_eq', exists_eq, exists_and_left, and_assoc, true_and, and_true, true_or, or_true, and_self, ne_eq, not_false_eq_true, not_true_eq_false, false_and, and_false, or_false, false_or, reduceCtorEq, TypeDesc.slice.injEq, List.map_cons, List.map_nil, List.length_map, List.length_cons, List.length_nil, List.drop_zero, List.drop_succ_cons, List.take_zero, List.take_succ_cons, List.take_nil, List.drop_nil, List.headD_cons, List.getElem?_toArray, List.getElem?_cons_zero, List.getElem?_cons_succ, List.size_toArray, List.set_cons_zero, List.set_cons_succ, Nat.zero_lt_succ, Nat.reduceAdd, Nat.reduceMul, Nat.reduceLT, Nat.reduceLeDiff, Nat.zero_mul, Nat.zero_add, Nat.add_zero, Int.toNat_natCast, Int.natCast_nonneg, Reg.val.injEq, AV.fl.injEq, Value.bool.injEq, decide_true, decide_false, Bool.true_eq_false, Bool.false_eq_true, implies_true, forall_const, false_implies, true_implies, h0, h1, tq22, tu22]; refine hK _ ?_; clear hK K)
  first | refine rops_nil ?_ | refine ropsD_nil ?_
  try simp only [AExit.then_normal, AExit.inBlock_normal]
  refine hK _ ?_; clear hK K
  refine awp_block ?_ -- 0
  refine awp_loop (fun m s => s.r 9 = .val (.sl (l.map Span.av)) ∧ s.r 10 = .val (.fl (.int .i64 l.length)) ∧ s.r 1 = .val (.fl (.int .i64 n)) ∧ ∃ i : Nat, i + m = l.length ∧ s.r 11 = .val (.fl (.int .i64 i)) ∧ ∀ x ∈ l.take i, x.node ≠ n) l.length ?_ ?_
  · simp only [rops1, ropsD1, rOp, rOpD, rValue, rLoad, rFieldAddr, rIndexAddr, rStore, rBin, onVal, rSlice, rSliceSl, rBuiltin, rLoadAV, gtmp, bnd, boxCells, regCells, regAV, regAVs, regAVsOf, partsOf, alive, oneReg, lenOfReg, srcOf, intBin, strBin, St.newCells, St.newArr, writeAt, setElem, avReg, AV.wf, cells_agg, cells_fl, cells_sl, cells_ref, cells_fn, cells_ifc, isAgg_agg, isAgg_fl, isAgg_sl, isAgg_ref, isAgg_fn, isAgg_ifc, List.mem_cons, forall_eq_or_imp, List.not_mem_nil, List.nil_append, List.cons_append, List.append_nil, forall_eq, AExit.then_normal, upd_apply, reduceIte, Nat.reduceEqDiff, St.ev, constReg, constCell, St.put_some, St.put_none, Option.some.injEq, Option.bind_some, Option.map_some, Prod.mk.injEq, exists_eq_left', exists_eq_left, exists_eq', exists_eq, exists_and_left, and_assoc, true_and, and_true, true_or, or_true, and_self, ne_eq, not_false_eq_true, not_true_eq_false, false_and, and_false, or_false, false_or, reduceCtorEq, TypeDesc.slice.injEq, List.map_cons, List.map_nil, List.length_map, List.length_cons, List.length_nil, List.drop_zero, List.drop_succ_cons, List.take_zero, List.take_succ_cons, List.take_nil, List.drop_nil, List.headD_cons, List.getElem?_toArray, List.getElem?_cons_zero, List.getElem?_cons_succ, List.size_toArray, List.set_cons_zero, List.set_cons_succ, Nat.zero_lt_succ, Nat.reduceAdd, Nat.reduceMul, Nat.reduceLT, Nat.reduceLeDiff, Nat.zero_mul, Nat.zero_add, Nat.add_zero, Int.toNat_natCast, Int.natCast_nonneg, Reg.val.injEq, AV.fl.injEq, Value.bool.injEq, decide_true, decide_false, Bool.true_eq_false, Bool.false_eq_true, implies_true, forall_const, false_implies, true_implies, h0, h1]
    exact ⟨0, by simp, rfl, by simp⟩
  · clear h0 h1 hr hb s
    rintro m s ⟨h9, h10, h1, i, him, h11, hlt⟩
    refine awp_seq fun K hK => ?_
    refine awp_region rfl (by kernel_rfl) ?_
    -- t12 = t11 lss t10 (3)
    first | refine rops_k ?_ | refine ropsD_k ?_ | skip
    repeat ((first | refine rops_step fun K hK => ?_ | refine ropsD_step fun K hK => ?_); simp only [rops1, ropsD1, rOp, rOpD, rValue, rLoad, rFieldAddr, rIndexAddr, rStore, rBin, onVal, rSlice, rSliceSl, rBuiltin, rLoadAV, gtmp, bnd, boxCells, regCells, regAV, regAVs, regAVsOf, partsOf, alive, oneReg, lenOfReg, srcOf, intBin, strBin, St.newCells, St.newArr, writeAt, setElem, avReg, AV.wf, cells_agg, cells_fl, cells_sl, cells_ref, cells_fn, cells_ifc, isAgg_agg, isAgg_fl, isAgg_sl, isAgg_ref, isAgg_fn, isAgg_ifc, List.mem_cons, forall_eq_or_imp, List.not_mem_nil, List.nil_append, List.cons_append, List.append_nil, forall_eq, AExit.then_normal, upd_apply, reduceIte, Nat.reduceEqDiff, St.ev, constReg, constCell, St.put_some, St.put_none, Option.some.injEq, Option.bind_some, Option.map_some, Prod.mk.injEq, exists_eq_left', exists_eq_left, exists_eq', exists_eq, exists_and_left, and_assoc, true_and, and_true, true_or, or_true, and_self, ne_eq, not_false_eq_true, not_true_eq_false, false_and, and_false, or_false, false_or, reduceCtorEq, TypeDesc.slice.injEq, List.map_cons, List.map_nil, List.length_map, List.length_cons, List.length_nil, List.drop_zero, List.drop_succ_cons, List.take_zero, List.take_succ_cons, List.take_nil, List.drop_nil, List.headD_cons, List.getElem?_toArray, List.getElem?_cons_zero, List.getElem?_cons_succ, List.size_toArray, List.set_cons_zero, List.set_cons_succ, Nat.zero_lt_succ, Nat.reduceAdd, Nat.reduceMul, Nat.reduceLT, Nat.reduceLeDiff, Nat.zero_mul, Nat.zero_add, Nat.add_zero, Int.toNat_natCast, Int.natCast_nonneg, Reg.val.injEq, AV.fl.injEq, Value.bool.injEq, decide_true, decide_false, Bool.true_eq_false, Bool.false_eq_true, implies_true, forall_const, false_implies, true_implies, h9, h10, h11]; refine hK _ ?_; clear hK K)
    first | refine rops_nil ?_ | refine ropsD_nil ?_
    try simp only [AExit.then_normal, AExit.inBlock_normal]
    refine hK _ ?_; clear hK K
    refine awp_seq fun K hK => ?_
    refine awp_if (by kernel_rfl) (by simp only [upd_apply, reduceIte, Nat.reduceEqDiff, St.ev, constReg, constCell, St.put_some, St.put_none, h9] <;> rfl) (fun hc => ?_) (fun hc => ?_)
    · refine awp_skip ?_
      have hi : i < l.length := by simpa using hc
      simp only [AExit.then_normal]
      refine hK _ ?_; clear hK K
      refine awp_seq fun K hK => ?_
      refine awp_block ?_ -- 1
      refine awp_seq fun K hK => ?_
      refine awp_region rfl (by kernel_rfl) ?_
      -- t13 = &t9[t11] (22)
      -- t14 = load 36 t13
      -- t8 = alloc 36
      -- _ = store 36 t8 := t14
      have hg := map_get (f := Span.av) hi
      first | refine rops_k ?_ | refine ropsD_k ?_ | skip
      repeat ((first | refine rops_step fun K hK => ?_ | refine ropsD_step fun K hK => ?_); simp only [rops1, ropsD1, rOp, rOpD, rValue, rLoad, rFieldAddr, rIndexAddr, rStore, rBin, onVal, rSlice, rSliceSl, rBuiltin, rLoadAV, gtmp, bnd, boxCells, regCells, regAV, regAVs, regAVsOf, partsOf, alive, oneReg, lenOfReg, srcOf, intBin, strBin, St.newCells, St.newArr, writeAt, setElem, avReg, AV.wf, cells_agg, cells_fl, cells_sl, cells_ref, cells_fn, cells_ifc, isAgg_agg, isAgg_fl, isAgg_sl, isAgg_ref, isAgg_fn, isAgg_ifc, List.mem_cons, forall_eq_or_imp, List.not_mem_nil, List.nil_append, List.cons_append, List.append_nil, forall_eq, AExit.then_normal, upd_apply, reduceIte, Nat.reduceEqDiff, St.ev, constReg, constCell, St.put_some, St.put_none, Option.some.injEq, Option.bind_some, Option.map_some, Prod.mk.injEq, exists_eq_left', exists_eq_left, exists_eq', exists_eq, exists_and_left, and_assoc, true_and, and_true, true_or, or_true, and_self, ne_eq, not_false_eq_true, not_true_eq_false, false_and, and_false, or_false, false_or, reduceCtorEq, TypeDesc.slice.injEq, List.map_cons, List.map_nil, List.length_map, List.length_cons, List.length_nil, List.drop_zero, List.drop_succ_cons, List.take_zero, List.take_succ_cons, List.take_nil, List.drop_nil, List.headD_cons, List.getElem?_toArray, List.getElem?_cons_zero, List.getElem?_cons_succ, List.size_toArray, List.set_cons_zero, List.set_cons_succ, Nat.zero_lt_succ, Nat.reduceAdd, Nat.reduceMul, Nat.reduceLT, Nat.reduceLeDiff, Nat.zero_mul, Nat.zero_add, Nat.add_zero, Int.toNat_natCast, Int.natCast_nonneg, Reg.val.injEq, AV.fl.injEq, Value.bool.injEq, decide_true, decide_false, Bool.true_eq_false, Bool.false_eq_true, implies_true, forall_const, false_implies, true_implies, h9, h10, h11, ts22, tc36, ta36, tz36, hg, Span.av_cells]; refine hK _ ?_; clear hK K)
      first | refine rops_nil ?_ | refine ropsD_nil ?_
      try simp only [AExit.then_normal, AExit.inBlock_normal]
      refine hK _ ?_; clear hK K
      refine awp_seq fun K hK => ?_
      refine awp_region rfl (by kernel_rfl) ?_
      -- t15 = &t8.0 (36)
      -- t16 = load 3 t15
      -- t17 = t1
      -- t18 = t16 eql t17 (3)
      first | refine rops_k ?_ | refine ropsD_k ?_ | skip
      repeat ((first | refine rops_step fun K hK => ?_ | refine ropsD_step fun K hK => ?_); simp only [rops1, ropsD1, rOp, rOpD, rValue, rLoad, rFieldAddr, rIndexAddr, rStore, rBin, onVal, rSlice, rSliceSl, rBuiltin, rLoadAV, gtmp, bnd, boxCells, regCells, regAV, regAVs, regAVsOf, partsOf, alive, oneReg, lenOfReg, srcOf, intBin, strBin, St.newCells, St.newArr, writeAt, setElem, avReg, AV.wf, cells_agg, cells_fl, cells_sl, cells_ref, cells_fn, cells_ifc, isAgg_agg, isAgg_fl, isAgg_sl, isAgg_ref, isAgg_fn, isAgg_ifc, List.mem_cons, forall_eq_or_imp, List.not_mem_nil, List.nil_append, List.cons_append, List.append_nil, forall_eq, AExit.then_normal, upd_apply, reduceIte, Nat.reduceEqDiff, St.ev, constReg, constCell, St.put_some, St.put_none, Option.some.injEq, Option.bind_some, Option.map_some, Prod.mk.injEq, exists_eq_left', exists_eq_left, exists_eq', exists_eq, exists_and_left, and_assoc, true_and, and_true, true_or, or_true, and_self, ne_eq, not_false_eq_true, not_true_eq_false, false_and, and_false, or_false, false_or, reduceCtorEq, TypeDesc.slice.injEq, List.map_cons, List.map_nil, List.length_map, List.length_cons, List.length_nil, List.drop_zero, List.drop_succ_cons, List.take_zero, List.take_succ_cons, List.take_nil, List.drop_nil, List.headD_cons, List.getElem?_toArray, List.getElem?_cons_zero, List.getElem?_cons_succ, List.size_toArray, List.set_cons_zero, List.set_cons_succ, Nat.zero_lt_succ, Nat.reduceAdd, Nat.reduceMul, Nat.reduceLT, Nat.reduceLeDiff, Nat.zero_mul, Nat.zero_add, Nat.add_zero, Int.toNat_natCast, Int.natCast_nonneg, Reg.val.injEq, AV.fl.injEq, Value.bool.injEq, decide_true, decide_false, Bool.true_eq_false, Bool.false_eq_true, implies_true, forall_const, false_implies, true_implies, h1, tf36_0, tc3, ta3]; refine hK _ ?_; clear hK K)
      first | refine rops_nil ?_ | refine ropsD_nil ?_
      try simp only [AExit.then_normal, AExit.inBlock_normal]
      refine hK _ ?_; clear hK K
      refine awp_if (by kernel_rfl) (by simp only [upd_apply, reduceIte, Nat.reduceEqDiff, St.ev, constReg, constCell, St.put_some, St.put_none, h1] <;> rfl) (fun hc => ?_) (fun hc => ?_)
      · refine awp_seq fun K hK => ?_
        refine awp_draw (by kernel_rfl) rfl (by kernel_rfl) (by kernel_rfl) ?_
        -- t19 = &t8.1 (36)
        -- t20 = load 3 t19
        -- t21 = &t8.2 (36)
        -- t22 = load 3 t21
        -- t4 = := t20
        -- t5 = := t22
        -- t6 = := true
        first | refine rops_k ?_ | refine ropsD_k ?_ | skip
        repeat ((first | refine rops_step fun K hK => ?_ | refine ropsD_step fun K hK => ?_); simp only [rops1, ropsD1, rOp, rOpD, rValue, rLoad, rFieldAddr, rIndexAddr, rStore, rBin, onVal, rSlice, rSliceSl, rBuiltin, rLoadAV, gtmp, bnd, boxCells, regCells, regAV, regAVs, regAVsOf, partsOf, alive, oneReg, lenOfReg, srcOf, intBin, strBin, St.newCells, St.newArr, writeAt, setElem, avReg, AV.wf, cells_agg, cells_fl, cells_sl, cells_ref, cells_fn, cells_ifc, isAgg_agg, isAgg_fl, isAgg_sl, isAgg_ref, isAgg_fn, isAgg_ifc, List.mem_cons, forall_eq_or_imp, List.not_mem_nil, List.nil_append, List.cons_append, List.append_nil, forall_eq, AExit.then_normal, upd_apply, reduceIte, Nat.reduceEqDiff, St.ev, constReg, constCell, St.put_some, St.put_none, Option.some.injEq, Option.bind_some, Option.map_some, Prod.mk.injEq, exists_eq_left', exists_eq_left, exists_eq', exists_eq, exists_and_left, and_assoc, true_and, and_true, true_or, or_true, and_self, ne_eq, not_false_eq_true, not_true_eq_false, false_and, and_false, or_false, false_or, reduceCtorEq, TypeDesc.slice.injEq, List.map_cons, List.map_nil, List.length_map, List.length_cons, List.length_nil, List.drop_zero, List.drop_succ_cons, List.take_zero, List.take_succ_cons, List.take_nil, List.drop_nil, List.headD_cons, List.getElem?_toArray, List.getElem?_cons_zero, List.getElem?_cons_succ, List.size_toArray, List.set_cons_zero, List.set_cons_succ, Nat.zero_lt_succ, Nat.reduceAdd, Nat.reduceMul, Nat.reduceLT, Nat.reduceLeDiff, Nat.zero_mul, Nat.zero_add, Nat.add_zero, Int.toNat_natCast, Int.natCast_nonneg, Reg.val.injEq, AV.fl.injEq, Value.bool.injEq, decide_true, decide_false, Bool.true_eq_false, Bool.false_eq_true, implies_true, forall_const, false_implies, true_implies, tf36_1, tf36_2, tc3, ta3]; refine hK _ ?_; clear hK K)
        first | refine rops_nil ?_ | refine ropsD_nil ?_
        try simp only [AExit.then_normal, AExit.inBlock_normal]
        refine hK _ ?_; clear hK K
        have hw : whereF l n = (l[i].b, l[i].e, true) := by
          have hf : l.find? (·.node == n) = some l[i] := by
            rw [List.find?_eq_some_iff_append]
            refine ⟨by simpa using hc, l.take i, l.drop (i + 1), ?_, fun x hx => by simpa using hlt x hx⟩
            rw [List.getElem_cons_drop, List.take_append_drop]
          simp only [whereF, hf]
        refine awp_ret ?_
        try simp only [AExit.inBlock_ret, AExit.then_ret]
        refine fin_ret (vs := [.tmp 4, .tmp 5, .tmp 6]) Try.ntmps5 rfl (by simp [isOwn]) none ?_
        simp only [resultsAre, regRV, upd_apply, reduceIte, Nat.reduceEqDiff, St.ev, constReg, constCell, St.put_some, St.put_none, Nat.reduceLT, true_and, and_true, and_self, hw]
      · refine awp_skip ?_
        try simp only [AExit.inBlock_normal, AExit.then_normal]
        refine hK _ ?_; clear hK K
        refine awp_region rfl (by kernel_rfl) ?_
        -- t23 = t11 add 1 (3)
        -- t11 = t23
        first | refine rops_k ?_ | refine ropsD_k ?_ | skip
        repeat ((first | refine rops_step fun K hK => ?_ | refine ropsD_step fun K hK => ?_); simp only [rops1, ropsD1, rOp, rOpD, rValue, rLoad, rFieldAddr, rIndexAddr, rStore, rBin, onVal, rSlice, rSliceSl, rBuiltin, rLoadAV, gtmp, bnd, boxCells, regCells, regAV, regAVs, regAVsOf, partsOf, alive, oneReg, lenOfReg, srcOf, intBin, strBin, St.newCells, St.newArr, writeAt, setElem, avReg, AV.wf, cells_agg, cells_fl, cells_sl, cells_ref, cells_fn, cells_ifc, isAgg_agg, isAgg_fl, isAgg_sl, isAgg_ref, isAgg_fn, isAgg_ifc, List.mem_cons, forall_eq_or_imp, List.not_mem_nil, List.nil_append, List.cons_append, List.append_nil, forall_eq, AExit.then_normal, upd_apply, reduceIte, Nat.reduceEqDiff, St.ev, constReg, constCell, St.put_some, St.put_none, Option.some.injEq, Option.bind_some, Option.map_some, Prod.mk.injEq, exists_eq_left', exists_eq_left, exists_eq', exists_eq, exists_and_left, and_assoc, true_and, and_true, true_or, or_true, and_self, ne_eq, not_false_eq_true, not_true_eq_false, false_and, and_false, or_false, false_or, reduceCtorEq, TypeDesc.slice.injEq, List.map_cons, List.map_nil, List.length_map, List.length_cons, List.length_nil, List.drop_zero, List.drop_succ_cons, List.take_zero, List.take_succ_cons, List.take_nil, List.drop_nil, List.headD_cons, List.getElem?_toArray, List.getElem?_cons_zero, List.getElem?_cons_succ, List.size_toArray, List.set_cons_zero, List.set_cons_succ, Nat.zero_lt_succ, Nat.reduceAdd, Nat.reduceMul, Nat.reduceLT, Nat.reduceLeDiff, Nat.zero_mul, Nat.zero_add, Nat.add_zero, Int.toNat_natCast, Int.natCast_nonneg, Reg.val.injEq, AV.fl.injEq, Value.bool.injEq, decide_true, decide_false, Bool.true_eq_false, Bool.false_eq_true, implies_true, forall_const, false_implies, true_implies, h1, h9, h10, h11]; refine hK _ ?_; clear hK K)
        first | refine rops_nil ?_ | refine ropsD_nil ?_
        try simp only [AExit.then_normal, AExit.inBlock_normal]
        simp only [rops1, ropsD1, rOp, rOpD, rValue, rLoad, rFieldAddr, rIndexAddr, rStore, rBin, onVal, rSlice, rSliceSl, rBuiltin, rLoadAV, gtmp, bnd, boxCells, regCells, regAV, regAVs, regAVsOf, partsOf, alive, oneReg, lenOfReg, srcOf, intBin, strBin, St.newCells, St.newArr, writeAt, setElem, avReg, AV.wf, cells_agg, cells_fl, cells_sl, cells_ref, cells_fn, cells_ifc, isAgg_agg, isAgg_fl, isAgg_sl, isAgg_ref, isAgg_fn, isAgg_ifc, List.mem_cons, forall_eq_or_imp, List.not_mem_nil, List.nil_append, List.cons_append, List.append_nil, forall_eq, AExit.then_normal, upd_apply, reduceIte, Nat.reduceEqDiff, St.ev, constReg, constCell, St.put_some, St.put_none, Option.some.injEq, Option.bind_some, Option.map_some, Prod.mk.injEq, exists_eq_left', exists_eq_left, exists_eq', exists_eq, exists_and_left, and_assoc, true_and, and_true, true_or, or_true, and_self, ne_eq, not_false_eq_true, not_true_eq_false, false_and, and_false, or_false, false_or, reduceCtorEq, TypeDesc.slice.injEq, List.map_cons, List.map_nil, List.length_map, List.length_cons, List.length_nil, List.drop_zero, List.drop_succ_cons, List.take_zero, List.take_succ_cons, List.take_nil, List.drop_nil, List.headD_cons, List.getElem?_toArray, List.getElem?_cons_zero, List.getElem?_cons_succ, List.size_toArray, List.set_cons_zero, List.set_cons_succ, Nat.zero_lt_succ, Nat.reduceAdd, Nat.reduceMul, Nat.reduceLT, Nat.reduceLeDiff, Nat.zero_mul, Nat.zero_add, Nat.add_zero, Int.toNat_natCast, Int.natCast_nonneg, Reg.val.injEq, AV.fl.injEq, Value.bool.injEq, decide_true, decide_false, Bool.true_eq_false, Bool.false_eq_true, implies_true, forall_const, false_implies, true_implies, h1, h9, h10, h11]
        have hw : IntKind.i64.wrap ((i : Int) + 1) = ((i + 1 : Nat) : Int) := by rw [wrap64_of (by omega) (by omega)]; rfl
        refine ⟨m - 1, by omega, i + 1, by omega, by rw [hw], fun x hx => ?_⟩
        rw [List.take_add_one] at hx
        simp only [List.mem_append, hi, List.getElem?_eq_getElem, Option.toList_some, List.mem_singleton] at hx
        rcases hx with hx | rfl
        · exact hlt x hx
        · simpa using hc
    · refine awp_exit ?_
      simp only [AExit.then_exit, AExit.inBlock_exit, reduceIte, AExit.then_normal]
      have hi : i = l.length := by simp at hc; omega
      clear hK K
      refine hK _ ?_; clear hK K
      refine awp_seq fun K hK => ?_
      refine awp_region rfl (by kernel_rfl) ?_
      first | refine rops_k ?_ | refine ropsD_k ?_ | skip
      repeat ((first | refine rops_step fun K hK => ?_ | refine ropsD_step fun K hK => ?_); simp only [rops1, ropsD1, rOp, rOpD, rValue, rLoad, rFieldAddr, rIndexAddr, rStore, rBin, onVal, rSlice, rSliceSl, rBuiltin, rLoadAV, gtmp, bnd, boxCells, regCells, regAV, regAVs, regAVsOf, partsOf, alive, oneReg, lenOfReg, srcOf, intBin, strBin, St.newCells, St.newArr, writeAt, setElem, avReg, AV.wf, cells_agg, cells_fl, cells_sl, cells_ref, cells_fn, cells_ifc, isAgg_agg, isAgg_fl, isAgg_sl, isAgg_ref, isAgg_fn, isAgg_ifc, List.mem_cons, forall_eq_or_imp, List.not_mem_nil, List.nil_append, List.cons_append, List.append_nil, forall_eq, AExit.then_normal, upd_apply, reduceIte, Nat.reduceEqDiff, St.ev, constReg, constCell, St.put_some, St.put_none, Option.some.injEq, Option.bind_some, Option.map_some, Prod.mk.injEq, exists_eq_left', exists_eq_left, exists_eq', exists_eq, exists_and_left, and_assoc, true_and, and_true, true_or, or_true, and_self, ne_eq, not_false_eq_true, not_true_eq_false, false_and, and_false, or_false, false_or, reduceCtorEq, TypeDesc.slice.injEq, List.map_cons, List.map_nil, List.length_map, List.length_cons, List.length_nil, List.drop_zero, List.drop_succ_cons, List.take_zero, List.take_succ_cons, List.take_nil, List.drop_nil, List.headD_cons, List.getElem?_toArray, List.getElem?_cons_zero, List.getElem?_cons_succ, List.size_toArray, List.set_cons_zero, List.set_cons_succ, Nat.zero_lt_succ, Nat.reduceAdd, Nat.reduceMul, Nat.reduceLT, Nat.reduceLeDiff, Nat.zero_mul, Nat.zero_add, Nat.add_zero, Int.toNat_natCast, Int.natCast_nonneg, Reg.val.injEq, AV.fl.injEq, Value.bool.injEq, decide_true, decide_false, Bool.true_eq_false, Bool.false_eq_true, implies_true, forall_const, false_implies, true_implies]; refine hK _ ?_; clear hK K)
      first | refine rops_nil ?_ | refine ropsD_nil ?_
      try simp only [AExit.then_normal, AExit.inBlock_normal]
      refine hK _ ?_; clear hK K
      have hw : whereF l n = (0, 0, false) := by
        have hf : l.find? (·.node == n) = none := by
          rw [List.find?_eq_none]
          intro x hx
          simpa using hlt x (by rw [hi, List.take_length]; exact hx)
        simp only [whereF, hf]
      refine awp_ret ?_
      try simp only [AExit.inBlock_ret, AExit.then_ret]
      refine fin_ret (vs := [.tmp 4, .tmp 5, .tmp 6]) Try.ntmps5 rfl (by simp [isOwn]) none ?_
      simp only [resultsAre, regRV, upd_apply, reduceIte, Nat.reduceEqDiff, St.ev, constReg, constCell, St.put_some, St.put_none, Nat.reduceLT, true_and, and_true, and_self, hw]
theorem take_snoc {α : Type} {l : List α} {i : Nat} (hi : i < l.length) : l.take (i + 1) = l.take i ++ [l[i]] := by
  rw [List.take_add_one]; simp [hi]

/-- is it the first one of that node? -/
def firstAt (l : List Span) (n : Int) (i : Nat) : Prop := ∃ x, l[i]? = some x ∧ x.node = n ∧ ∀ y ∈ l.take i, y.node ≠ n

theorem whereF_first {l : List Span} {n : Int} {i : Nat} (hi : i < l.length) (h : l[i].node = n) (h2 : ∀ y ∈ l.take i, y.node ≠ n) : whereF l n = (l[i].b, l[i].e, true) := by
  have hf : l.find? (·.node == n) = some l[i] := by
    rw [List.find?_eq_some_iff_append]
    refine ⟨by simpa using h, l.take i, l.drop (i + 1), ?_, fun x hx => by simpa using h2 x hx⟩
    rw [List.getElem_cons_drop, List.take_append_drop]
  simp only [whereF, hf]

theorem whereF_none {l : List Span} {n : Int} (h : ∀ i, i < l.length → ¬ firstAt l n i) : whereF l n = (0, 0, false) := by
  cases hf : l.find? (·.node == n) with
  | none => simp only [whereF, hf]
  | some x =>
    rw [List.find?_eq_some_iff_append] at hf
    obtain ⟨h1, us, vs, rfl, h2⟩ := hf
    refine absurd ⟨x, by simp, by simpa using h1, fun y hy => ?_⟩ (h us.length (by simp))
    have hy' : y ∈ us := by simpa using hy
    simpa using h2 y hy'

theorem RefWhere_does (E : Env) (l : List Span) (n : Int) (hl : l.length ≤ 4611686018427387904) : Does Try.prog E 6 [.sl (l.map Span.av), .fl (.int .i64 n)] (.ret [.v (.fl (.int .i64 (whereF l n).1)), .v (.fl (.int .i64 (whereF l n).2.1)), .v (.fl (.bool (whereF l n).2.2))]) := by
  refine does_run Try.func6 Try.ntmps6 rfl rfl (by simp) fun w0 I0 s hr hb => ?_
  have h0 := hr 0
  have h1 := hr 1
  simp only [List.map_cons, List.map_nil, List.getElem?_cons_zero, List.getElem?_cons_succ, Option.getD_some] at h0 h1
  refine awp_seq fun K hK => ?_
  refine awp_region rfl (by kernel_rfl) ?_
  first | refine rops_k ?_ | refine ropsD_k ?_ | skip
  repeat ((first | refine rops_step fun K hK => ?_ | refine ropsD_step fun K hK => ?_); simp only [rops1, ropsD1, rOp, rOpD, rValue, rLoad, rFieldAddr, rIndexAddr, rStore, rBin, onVal, rSlice, rSliceSl, rBuiltin, rLoadAV, gtmp, bnd, boxCells, regCells, regAV, regAVs, regAVsOf, partsOf, alive, oneReg, lenOfReg, srcOf, intBin, strBin, St.newCells, St.newArr, writeAt, setElem, avReg, AV.wf, cells_agg, cells_fl, cells_sl, cells_ref, cells_fn, cells_ifc, isAgg_agg, isAgg_fl, isAgg_sl, isAgg_ref, isAgg_fn, isAgg_ifc, List.mem_cons, forall_eq_or_imp, List.not_mem_nil, List.nil_append, List.cons_append, List.append_nil, forall_eq, AExit.then_normal, upd_apply, reduceIte, Nat.reduceEqDiff, St.ev, constReg, constCell, St.put_some, St.put_none, Option.some.injEq, Option.bind_some, Option.map_some, Prod.mk.injEq, exists_eq_left', exists_eq_left, exists_eq', exists_eq, exists_and_left, and_assoc, true_and, and_true, true_or, or_true, and_self, ne_eq, not_false_eq_true, not_true_eq_false, false_and, and_false, or_false, false_or, reduceCtorEq, TypeDesc.slice.injEq, List.map_cons, List.map_nil, List.length_map, List.length_cons, List.length_nil, List.drop_zero, List.drop_succ_cons, List.take_zero, List.take_succ_cons, List.take_nil, List.drop_nil, List.headD_cons, List.getElem?_toArray, List.getElem?_cons_zero, List.getElem?_cons_succ, List.size_toArray, List.set_cons_zero, List.set_cons_succ, Nat.zero_lt_succ, Nat.reduceAdd, Nat.reduceMul, Nat.reduceLT, Nat.reduceLeDiff, Nat.zero_mul, Nat.zero_add, Nat.add_zero, Int.toNat_natCast, Int.natCast_nonneg, Reg.val.injEq, AV.fl.injEq, Value.bool.injEq, decide_true, decide_false, Bool.true_eq_false, Bool.false_eq_true, implies_true, forall_const, false_implies, true_implies, h0, h1]; refine hK _ ?_; clear hK K)
  first | refine rops_nil ?_ | refine ropsD_nil ?_
  try simp only [AExit.then_normal, AExit.inBlock_normal]
  refine hK _ ?_; clear hK K
  refine awp_seq fun K hK => ?_
  refine awp_seq fun K hK => ?_
  refine awp_region rfl (by kernel_rfl) ?_
  first | refine rops_k ?_ | refine ropsD_k ?_ | skip
  repeat ((first | refine rops_step fun K hK => ?_ | refine ropsD_step fun K hK => ?_); simp only [rops1, ropsD1, rOp, rOpD, rValue, rLoad, rFieldAddr, rIndexAddr, rStore, rBin, onVal, rSlice, rSliceSl, rBuiltin, rLoadAV, gtmp, bnd, boxCells, regCells, regAV, regAVs, regAVsOf, partsOf, alive, oneReg, lenOfReg, srcOf, intBin, strBin, St.newCells, St.newArr, writeAt, setElem, avReg, AV.wf, cells_agg, cells_fl, cells_sl, cells_ref, cells_fn, cells_ifc, isAgg_agg, isAgg_fl, isAgg_sl, isAgg_ref, isAgg_fn, isAgg_ifc, List.mem_cons, forall_eq_or_imp, List.not_mem_nil, List.nil_append, List.cons_append, List.append_nil, forall_eq, AExit.then_normal, upd_apply, reduceIte, Nat.reduceEqDiff, St.ev, constReg, constCell, St.put_some, St.put_none, Option.some.injEq, Option.bind_some, Option.map_some, Prod.mk.injEq, exists_eq_left', exists_eq_left, exists_eq', exists_eq, exists_and_left, and_assoc, true_and, and_true, true_or, or_true, and_self, ne_eq, not_false_eq_true, not_true_eq_false, false_and, and_false, or_false, false_or, reduceCtorEq, TypeDesc.slice.injEq, List.map_cons, List.map_nil, List.length_map, List.length_cons, List.length_nil, List.drop_zero, List.drop_succ_cons, List.take_zero, List.take_succ_cons, List.take_nil, List.drop_nil, List.headD_cons, List.getElem?_toArray, List.getElem?_cons_zero, List.getElem?_cons_succ, List.size_toArray, List.set_cons_zero, List.set_cons_succ, Nat.zero_lt_succ, Nat.reduceAdd, Nat.reduceMul, Nat.reduceLT, Nat.reduceLeDiff, Nat.zero_mul, Nat.zero_add, Nat.add_zero, Int.toNat_natCast, Int.natCast_nonneg, Reg.val.injEq, AV.fl.injEq, Value.bool.injEq, decide_true, decide_false, Bool.true_eq_false, Bool.false_eq_true, implies_true, forall_const, false_implies, true_implies, h0, h1, tq22, tu22]; refine hK _ ?_; clear hK K)
  first | refine rops_nil ?_ | refine ropsD_nil ?_
  try simp only [AExit.then_normal, AExit.inBlock_normal]
  refine hK _ ?_; clear hK K
  refine awp_block ?_ -- 0
  refine awp_loop (fun m s => s.r 0 = .val (.sl (l.map Span.av)) ∧ s.r 1 = .val (.fl (.int .i64 n)) ∧ m ≤ l.length ∧ s.r 7 = .val (.fl (.int .i64 ((m : Int) - 1))) ∧ ∀ q, m ≤ q → q < l.length → ¬ firstAt l n q) l.length ?_ ?_
  · simp only [rops1, ropsD1, rOp, rOpD, rValue, rLoad, rFieldAddr, rIndexAddr, rStore, rBin, onVal, rSlice, rSliceSl, rBuiltin, rLoadAV, gtmp, bnd, boxCells, regCells, regAV, regAVs, regAVsOf, partsOf, alive, oneReg, lenOfReg, srcOf, intBin, strBin, St.newCells, St.newArr, writeAt, setElem, avReg, AV.wf, cells_agg, cells_fl, cells_sl, cells_ref, cells_fn, cells_ifc, isAgg_agg, isAgg_fl, isAgg_sl, isAgg_ref, isAgg_fn, isAgg_ifc, List.mem_cons, forall_eq_or_imp, List.not_mem_nil, List.nil_append, List.cons_append, List.append_nil, forall_eq, AExit.then_normal, upd_apply, reduceIte, Nat.reduceEqDiff, St.ev, constReg, constCell, St.put_some, St.put_none, Option.some.injEq, Option.bind_some, Option.map_some, Prod.mk.injEq, exists_eq_left', exists_eq_left, exists_eq', exists_eq, exists_and_left, and_assoc, true_and, and_true, true_or, or_true, and_self, ne_eq, not_false_eq_true, not_true_eq_false, false_and, and_false, or_false, false_or, reduceCtorEq, TypeDesc.slice.injEq, List.map_cons, List.map_nil, List.length_map, List.length_cons, List.length_nil, List.drop_zero, List.drop_succ_cons, List.take_zero, List.take_succ_cons, List.take_nil, List.drop_nil, List.headD_cons, List.getElem?_toArray, List.getElem?_cons_zero, List.getElem?_cons_succ, List.size_toArray, List.set_cons_zero, List.set_cons_succ, Nat.zero_lt_succ, Nat.reduceAdd, Nat.reduceMul, Nat.reduceLT, Nat.reduceLeDiff, Nat.zero_mul, Nat.zero_add, Nat.add_zero, Int.toNat_natCast, Int.natCast_nonneg, Reg.val.injEq, AV.fl.injEq, Value.bool.injEq, decide_true, decide_false, Bool.true_eq_false, Bool.false_eq_true, implies_true, forall_const, false_implies, true_implies, h0, h1]
    refine ⟨Nat.le_refl _, by rw [wrap64_of (by omega) (by omega)], fun q h1 h2 => by omega⟩
  · clear h0 h1 hr hb s
    rintro m s ⟨h0, h1, hm, h7, hq⟩
    refine awp_seq fun K hK => ?_
    refine awp_seq fun K hK => ?_
    refine awp_region rfl (by kernel_rfl) ?_
    first | refine rops_k ?_ | refine ropsD_k ?_ | skip
    repeat ((first | refine rops_step fun K hK => ?_ | refine ropsD_step fun K hK => ?_); simp only [rops1, ropsD1, rOp, rOpD, rValue, rLoad, rFieldAddr, rIndexAddr, rStore, rBin, onVal, rSlice, rSliceSl, rBuiltin, rLoadAV, gtmp, bnd, boxCells, regCells, regAV, regAVs, regAVsOf, partsOf, alive, oneReg, lenOfReg, srcOf, intBin, strBin, St.newCells, St.newArr, writeAt, setElem, avReg, AV.wf, cells_agg, cells_fl, cells_sl, cells_ref, cells_fn, cells_ifc, isAgg_agg, isAgg_fl, isAgg_sl, isAgg_ref, isAgg_fn, isAgg_ifc, List.mem_cons, forall_eq_or_imp, List.not_mem_nil, List.nil_append, List.cons_append, List.append_nil, forall_eq, AExit.then_normal, upd_apply, reduceIte, Nat.reduceEqDiff, St.ev, constReg, constCell, St.put_some, St.put_none, Option.some.injEq, Option.bind_some, Option.map_some, Prod.mk.injEq, exists_eq_left', exists_eq_left, exists_eq', exists_eq, exists_and_left, and_assoc, true_and, and_true, true_or, or_true, and_self, ne_eq, not_false_eq_true, not_true_eq_false, false_and, and_false, or_false, false_or, reduceCtorEq, TypeDesc.slice.injEq, List.map_cons, List.map_nil, List.length_map, List.length_cons, List.length_nil, List.drop_zero, List.drop_succ_cons, List.take_zero, List.take_succ_cons, List.take_nil, List.drop_nil, List.headD_cons, List.getElem?_toArray, List.getElem?_cons_zero, List.getElem?_cons_succ, List.size_toArray, List.set_cons_zero, List.set_cons_succ, Nat.zero_lt_succ, Nat.reduceAdd, Nat.reduceMul, Nat.reduceLT, Nat.reduceLeDiff, Nat.zero_mul, Nat.zero_add, Nat.add_zero, Int.toNat_natCast, Int.natCast_nonneg, Reg.val.injEq, AV.fl.injEq, Value.bool.injEq, decide_true, decide_false, Bool.true_eq_false, Bool.false_eq_true, implies_true, forall_const, false_implies, true_implies, h7]; refine hK _ ?_; clear hK K)
    first | refine rops_nil ?_ | refine ropsD_nil ?_
    try simp only [AExit.then_normal, AExit.inBlock_normal]
    refine hK _ ?_; clear hK K
    refine awp_if (by kernel_rfl) (by simp only [upd_apply, reduceIte, Nat.reduceEqDiff, St.ev, constReg, constCell, St.put_some, St.put_none, h7] <;> rfl) (fun hc => ?_) (fun hc => ?_)
    · refine awp_skip ?_
      have hm1 : 1 ≤ m := by have := of_decide_eq_true hc; omega
      clear hc
      obtain ⟨i, rfl⟩ : ∃ i, m = i + 1 := ⟨m - 1, by omega⟩
      have e : ((i + 1 : Nat) : Int) - 1 = (i : Int) := by omega
      rw [e] at h7
      have hi : i < l.length := by omega
      have hg := map_get (f := Span.av) hi
      simp only [AExit.then_normal]
      refine hK _ ?_; clear hK K
      refine awp_seq fun K hK => ?_
      refine awp_block ?_ -- 1
      refine awp_seq fun K hK => ?_
      refine awp_region rfl (by kernel_rfl) ?_
      first | refine rops_k ?_ | refine ropsD_k ?_ | skip
      repeat ((first | refine rops_step fun K hK => ?_ | refine ropsD_step fun K hK => ?_); simp only [rops1, ropsD1, rOp, rOpD, rValue, rLoad, rFieldAddr, rIndexAddr, rStore, rBin, onVal, rSlice, rSliceSl, rBuiltin, rLoadAV, gtmp, bnd, boxCells, regCells, regAV, regAVs, regAVsOf, partsOf, alive, oneReg, lenOfReg, srcOf, intBin, strBin, St.newCells, St.newArr, writeAt, setElem, avReg, AV.wf, cells_agg, cells_fl, cells_sl, cells_ref, cells_fn, cells_ifc, isAgg_agg, isAgg_fl, isAgg_sl, isAgg_ref, isAgg_fn, isAgg_ifc, List.mem_cons, forall_eq_or_imp, List.not_mem_nil, List.nil_append, List.cons_append, List.append_nil, forall_eq, AExit.then_normal, upd_apply, reduceIte, Nat.reduceEqDiff, St.ev, constReg, constCell, St.put_some, St.put_none, Option.some.injEq, Option.bind_some, Option.map_some, Prod.mk.injEq, exists_eq_left', exists_eq_left, exists_eq', exists_eq, exists_and_left, and_assoc, true_and, and_true, true_or, or_true, and_self, ne_eq, not_false_eq_true, not_true_eq_false, false_and, and_false, or_false, false_or, reduceCtorEq, TypeDesc.slice.injEq, List.map_cons, List.map_nil, List.length_map, List.length_cons, List.length_nil, List.drop_zero, List.drop_succ_cons, List.take_zero, List.take_succ_cons, List.take_nil, List.drop_nil, List.headD_cons, List.getElem?_toArray, List.getElem?_cons_zero, List.getElem?_cons_succ, List.size_toArray, List.set_cons_zero, List.set_cons_succ, Nat.zero_lt_succ, Nat.reduceAdd, Nat.reduceMul, Nat.reduceLT, Nat.reduceLeDiff, Nat.zero_mul, Nat.zero_add, Nat.add_zero, Int.toNat_natCast, Int.natCast_nonneg, Reg.val.injEq, AV.fl.injEq, Value.bool.injEq, decide_true, decide_false, Bool.true_eq_false, Bool.false_eq_true, implies_true, forall_const, false_implies, true_implies, h0, h1, h7, ts22, tc36, ta36, tz36, hg, Span.av_cells, tf36_0, tc3, ta3]; refine hK _ ?_; clear hK K)
      first | refine rops_nil ?_ | refine ropsD_nil ?_
      try simp only [AExit.then_normal, AExit.inBlock_normal]
      refine hK _ ?_; clear hK K
      refine awp_seq fun K hK => ?_
      refine awp_seq fun K hK => ?_
      refine awp_region rfl (by kernel_rfl) ?_
      first | refine rops_k ?_ | refine ropsD_k ?_ | skip
      repeat ((first | refine rops_step fun K hK => ?_ | refine ropsD_step fun K hK => ?_); simp only [rops1, ropsD1, rOp, rOpD, rValue, rLoad, rFieldAddr, rIndexAddr, rStore, rBin, onVal, rSlice, rSliceSl, rBuiltin, rLoadAV, gtmp, bnd, boxCells, regCells, regAV, regAVs, regAVsOf, partsOf, alive, oneReg, lenOfReg, srcOf, intBin, strBin, St.newCells, St.newArr, writeAt, setElem, avReg, AV.wf, cells_agg, cells_fl, cells_sl, cells_ref, cells_fn, cells_ifc, isAgg_agg, isAgg_fl, isAgg_sl, isAgg_ref, isAgg_fn, isAgg_ifc, List.mem_cons, forall_eq_or_imp, List.not_mem_nil, List.nil_append, List.cons_append, List.append_nil, forall_eq, AExit.then_normal, upd_apply, reduceIte, Nat.reduceEqDiff, St.ev, constReg, constCell, St.put_some, St.put_none, Option.some.injEq, Option.bind_some, Option.map_some, Prod.mk.injEq, exists_eq_left', exists_eq_left, exists_eq', exists_eq, exists_and_left, and_assoc, true_and, and_true, true_or, or_true, and_self, ne_eq, not_false_eq_true, not_true_eq_false, false_and, and_false, or_false, false_or, reduceCtorEq, TypeDesc.slice.injEq, List.map_cons, List.map_nil, List.length_map, List.length_cons, List.length_nil, List.drop_zero, List.drop_succ_cons, List.take_zero, List.take_succ_cons, List.take_nil, List.drop_nil, List.headD_cons, List.getElem?_toArray, List.getElem?_cons_zero, List.getElem?_cons_succ, List.size_toArray, List.set_cons_zero, List.set_cons_succ, Nat.zero_lt_succ, Nat.reduceAdd, Nat.reduceMul, Nat.reduceLT, Nat.reduceLeDiff, Nat.zero_mul, Nat.zero_add, Nat.add_zero, Int.toNat_natCast, Int.natCast_nonneg, Reg.val.injEq, AV.fl.injEq, Value.bool.injEq, decide_true, decide_false, Bool.true_eq_false, Bool.false_eq_true, implies_true, forall_const, false_implies, true_implies]; refine hK _ ?_; clear hK K)
      first | refine rops_nil ?_ | refine ropsD_nil ?_
      try simp only [AExit.then_normal, AExit.inBlock_normal]
      refine hK _ ?_; clear hK K
      refine awp_block ?_ -- 2
      refine awp_loop (fun m' s => s.r 0 = .val (.sl (l.map Span.av)) ∧ s.r 1 = .val (.fl (.int .i64 n)) ∧ s.r 7 = .val (.fl (.int .i64 i)) ∧ ∃ k : Nat, k + m' = i ∧ s.r 9 = .val (.fl (.int .i64 k)) ∧ s.r 8 = .val (.fl (.bool ((l[i].node == n) && (l.take k).all (·.node != n))))) i ?_ ?_
      · simp only [rops1, ropsD1, rOp, rOpD, rValue, rLoad, rFieldAddr, rIndexAddr, rStore, rBin, onVal, rSlice, rSliceSl, rBuiltin, rLoadAV, gtmp, bnd, boxCells, regCells, regAV, regAVs, regAVsOf, partsOf, alive, oneReg, lenOfReg, srcOf, intBin, strBin, St.newCells, St.newArr, writeAt, setElem, avReg, AV.wf, cells_agg, cells_fl, cells_sl, cells_ref, cells_fn, cells_ifc, isAgg_agg, isAgg_fl, isAgg_sl, isAgg_ref, isAgg_fn, isAgg_ifc, List.mem_cons, forall_eq_or_imp, List.not_mem_nil, List.nil_append, List.cons_append, List.append_nil, forall_eq, AExit.then_normal, upd_apply, reduceIte, Nat.reduceEqDiff, St.ev, constReg, constCell, St.put_some, St.put_none, Option.some.injEq, Option.bind_some, Option.map_some, Prod.mk.injEq, exists_eq_left', exists_eq_left, exists_eq', exists_eq, exists_and_left, and_assoc, true_and, and_true, true_or, or_true, and_self, ne_eq, not_false_eq_true, not_true_eq_false, false_and, and_false, or_false, false_or, reduceCtorEq, TypeDesc.slice.injEq, List.map_cons, List.map_nil, List.length_map, List.length_cons, List.length_nil, List.drop_zero, List.drop_succ_cons, List.take_zero, List.take_succ_cons, List.take_nil, List.drop_nil, List.headD_cons, List.getElem?_toArray, List.getElem?_cons_zero, List.getElem?_cons_succ, List.size_toArray, List.set_cons_zero, List.set_cons_succ, Nat.zero_lt_succ, Nat.reduceAdd, Nat.reduceMul, Nat.reduceLT, Nat.reduceLeDiff, Nat.zero_mul, Nat.zero_add, Nat.add_zero, Int.toNat_natCast, Int.natCast_nonneg, Reg.val.injEq, AV.fl.injEq, Value.bool.injEq, decide_true, decide_false, Bool.true_eq_false, Bool.false_eq_true, implies_true, forall_const, false_implies, true_implies, h0, h1, h7]
        exact ⟨0, by simp, rfl, by simp⟩
      · clear h0 h1 h7 s
        rintro m' s ⟨h0, h1, h7, k, hk, h9, h8⟩
        refine awp_seq fun K hK => ?_
        refine awp_seq fun K hK => ?_
        refine awp_region rfl (by kernel_rfl) ?_
        first | refine rops_k ?_ | refine ropsD_k ?_ | skip
        repeat ((first | refine rops_step fun K hK => ?_ | refine ropsD_step fun K hK => ?_); simp only [rops1, ropsD1, rOp, rOpD, rValue, rLoad, rFieldAddr, rIndexAddr, rStore, rBin, onVal, rSlice, rSliceSl, rBuiltin, rLoadAV, gtmp, bnd, boxCells, regCells, regAV, regAVs, regAVsOf, partsOf, alive, oneReg, lenOfReg, srcOf, intBin, strBin, St.newCells, St.newArr, writeAt, setElem, avReg, AV.wf, cells_agg, cells_fl, cells_sl, cells_ref, cells_fn, cells_ifc, isAgg_agg, isAgg_fl, isAgg_sl, isAgg_ref, isAgg_fn, isAgg_ifc, List.mem_cons, forall_eq_or_imp, List.not_mem_nil, List.nil_append, List.cons_append, List.append_nil, forall_eq, AExit.then_normal, upd_apply, reduceIte, Nat.reduceEqDiff, St.ev, constReg, constCell, St.put_some, St.put_none, Option.some.injEq, Option.bind_some, Option.map_some, Prod.mk.injEq, exists_eq_left', exists_eq_left, exists_eq', exists_eq, exists_and_left, and_assoc, true_and, and_true, true_or, or_true, and_self, ne_eq, not_false_eq_true, not_true_eq_false, false_and, and_false, or_false, false_or, reduceCtorEq, TypeDesc.slice.injEq, List.map_cons, List.map_nil, List.length_map, List.length_cons, List.length_nil, List.drop_zero, List.drop_succ_cons, List.take_zero, List.take_succ_cons, List.take_nil, List.drop_nil, List.headD_cons, List.getElem?_toArray, List.getElem?_cons_zero, List.getElem?_cons_succ, List.size_toArray, List.set_cons_zero, List.set_cons_succ, Nat.zero_lt_succ, Nat.reduceAdd, Nat.reduceMul, Nat.reduceLT, Nat.reduceLeDiff, Nat.zero_mul, Nat.zero_add, Nat.add_zero, Int.toNat_natCast, Int.natCast_nonneg, Reg.val.injEq, AV.fl.injEq, Value.bool.injEq, decide_true, decide_false, Bool.true_eq_false, Bool.false_eq_true, implies_true, forall_const, false_implies, true_implies, h9, h7]; refine hK _ ?_; clear hK K)
        first | refine rops_nil ?_ | refine ropsD_nil ?_
        try simp only [AExit.then_normal, AExit.inBlock_normal]
        refine hK _ ?_; clear hK K
        refine awp_if (by kernel_rfl) (by simp only [upd_apply, reduceIte, Nat.reduceEqDiff, St.ev, constReg, constCell, St.put_some, St.put_none, h9, h7] <;> rfl) (fun hc => ?_) (fun hc => ?_)
        · refine awp_skip ?_
          have hki : k < i := by have := of_decide_eq_true hc; omega
          simp only [AExit.then_normal]
          refine hK _ ?_; clear hK K
          refine awp_seq fun K hK => ?_
          refine awp_block ?_ -- 3
          have hkl : k < l.length := by omega
          have hg := map_get (f := Span.av) hkl
          have hw : IntKind.i64.wrap ((k : Int) + 1) = ((k + 1 : Nat) : Int) := by rw [wrap64_of (by omega) (by omega)]; rfl
          refine awp_region rfl (by kernel_rfl) ?_
          cases hb8 : ((l[i].node == n) && (l.take k).all (·.node != n))
          · rw [hb8] at h8
            first | refine rops_k ?_ | refine ropsD_k ?_ | skip
            repeat ((first | refine rops_step fun K hK => ?_ | refine ropsD_step fun K hK => ?_); simp only [rops1, ropsD1, rOp, rOpD, rValue, rLoad, rFieldAddr, rIndexAddr, rStore, rBin, onVal, rSlice, rSliceSl, rBuiltin, rLoadAV, gtmp, bnd, boxCells, regCells, regAV, regAVs, regAVsOf, partsOf, alive, oneReg, lenOfReg, srcOf, intBin, strBin, St.newCells, St.newArr, writeAt, setElem, avReg, AV.wf, cells_agg, cells_fl, cells_sl, cells_ref, cells_fn, cells_ifc, isAgg_agg, isAgg_fl, isAgg_sl, isAgg_ref, isAgg_fn, isAgg_ifc, List.mem_cons, forall_eq_or_imp, List.not_mem_nil, List.nil_append, List.cons_append, List.append_nil, forall_eq, AExit.then_normal, upd_apply, reduceIte, Nat.reduceEqDiff, St.ev, constReg, constCell, St.put_some, St.put_none, Option.some.injEq, Option.bind_some, Option.map_some, Prod.mk.injEq, exists_eq_left', exists_eq_left, exists_eq', exists_eq, exists_and_left, and_assoc, true_and, and_true, true_or, or_true, and_self, ne_eq, not_false_eq_true, not_true_eq_false, false_and, and_false, or_false, false_or, reduceCtorEq, TypeDesc.slice.injEq, List.map_cons, List.map_nil, List.length_map, List.length_cons, List.length_nil, List.drop_zero, List.drop_succ_cons, List.take_zero, List.take_succ_cons, List.take_nil, List.drop_nil, List.headD_cons, List.getElem?_toArray, List.getElem?_cons_zero, List.getElem?_cons_succ, List.size_toArray, List.set_cons_zero, List.set_cons_succ, Nat.zero_lt_succ, Nat.reduceAdd, Nat.reduceMul, Nat.reduceLT, Nat.reduceLeDiff, Nat.zero_mul, Nat.zero_add, Nat.add_zero, Int.toNat_natCast, Int.natCast_nonneg, Reg.val.injEq, AV.fl.injEq, Value.bool.injEq, decide_true, decide_false, Bool.true_eq_false, Bool.false_eq_true, implies_true, forall_const, false_implies, true_implies, h0, h1, h7, h8, h9]; refine hK _ ?_; clear hK K)
            first | refine rops_nil ?_ | refine ropsD_nil ?_
            try simp only [AExit.then_normal, AExit.inBlock_normal]
            try simp only [AExit.inBlock_normal, AExit.then_normal]
            refine hK _ ?_; clear hK K
            refine awp_region rfl (by kernel_rfl) ?_
            first | refine rops_k ?_ | refine ropsD_k ?_ | skip
            repeat ((first | refine rops_step fun K hK => ?_ | refine ropsD_step fun K hK => ?_); simp only [rops1, ropsD1, rOp, rOpD, rValue, rLoad, rFieldAddr, rIndexAddr, rStore, rBin, onVal, rSlice, rSliceSl, rBuiltin, rLoadAV, gtmp, bnd, boxCells, regCells, regAV, regAVs, regAVsOf, partsOf, alive, oneReg, lenOfReg, srcOf, intBin, strBin, St.newCells, St.newArr, writeAt, setElem, avReg, AV.wf, cells_agg, cells_fl, cells_sl, cells_ref, cells_fn, cells_ifc, isAgg_agg, isAgg_fl, isAgg_sl, isAgg_ref, isAgg_fn, isAgg_ifc, List.mem_cons, forall_eq_or_imp, List.not_mem_nil, List.nil_append, List.cons_append, List.append_nil, forall_eq, AExit.then_normal, upd_apply, reduceIte, Nat.reduceEqDiff, St.ev, constReg, constCell, St.put_some, St.put_none, Option.some.injEq, Option.bind_some, Option.map_some, Prod.mk.injEq, exists_eq_left', exists_eq_left, exists_eq', exists_eq, exists_and_left, and_assoc, true_and, and_true, true_or, or_true, and_self, ne_eq, not_false_eq_true, not_true_eq_false, false_and, and_false, or_false, false_or, reduceCtorEq, TypeDesc.slice.injEq, List.map_cons, List.map_nil, List.length_map, List.length_cons, List.length_nil, List.drop_zero, List.drop_succ_cons, List.take_zero, List.take_succ_cons, List.take_nil, List.drop_nil, List.headD_cons, List.getElem?_toArray, List.getElem?_cons_zero, List.getElem?_cons_succ, List.size_toArray, List.set_cons_zero, List.set_cons_succ, Nat.zero_lt_succ, Nat.reduceAdd, Nat.reduceMul, Nat.reduceLT, Nat.reduceLeDiff, Nat.zero_mul, Nat.zero_add, Nat.add_zero, Int.toNat_natCast, Int.natCast_nonneg, Reg.val.injEq, AV.fl.injEq, Value.bool.injEq, decide_true, decide_false, Bool.true_eq_false, Bool.false_eq_true, implies_true, forall_const, false_implies, true_implies, h0, h1, h7, h9, hw]; refine hK _ ?_; clear hK K)
            first | refine rops_nil ?_ | refine ropsD_nil ?_
            try simp only [AExit.then_normal, AExit.inBlock_normal]
            simp only [rops1, ropsD1, rOp, rOpD, rValue, rLoad, rFieldAddr, rIndexAddr, rStore, rBin, onVal, rSlice, rSliceSl, rBuiltin, rLoadAV, gtmp, bnd, boxCells, regCells, regAV, regAVs, regAVsOf, partsOf, alive, oneReg, lenOfReg, srcOf, intBin, strBin, St.newCells, St.newArr, writeAt, setElem, avReg, AV.wf, cells_agg, cells_fl, cells_sl, cells_ref, cells_fn, cells_ifc, isAgg_agg, isAgg_fl, isAgg_sl, isAgg_ref, isAgg_fn, isAgg_ifc, List.mem_cons, forall_eq_or_imp, List.not_mem_nil, List.nil_append, List.cons_append, List.append_nil, forall_eq, AExit.then_normal, upd_apply, reduceIte, Nat.reduceEqDiff, St.ev, constReg, constCell, St.put_some, St.put_none, Option.some.injEq, Option.bind_some, Option.map_some, Prod.mk.injEq, exists_eq_left', exists_eq_left, exists_eq', exists_eq, exists_and_left, and_assoc, true_and, and_true, true_or, or_true, and_self, ne_eq, not_false_eq_true, not_true_eq_false, false_and, and_false, or_false, false_or, reduceCtorEq, TypeDesc.slice.injEq, List.map_cons, List.map_nil, List.length_map, List.length_cons, List.length_nil, List.drop_zero, List.drop_succ_cons, List.take_zero, List.take_succ_cons, List.take_nil, List.drop_nil, List.headD_cons, List.getElem?_toArray, List.getElem?_cons_zero, List.getElem?_cons_succ, List.size_toArray, List.set_cons_zero, List.set_cons_succ, Nat.zero_lt_succ, Nat.reduceAdd, Nat.reduceMul, Nat.reduceLT, Nat.reduceLeDiff, Nat.zero_mul, Nat.zero_add, Nat.add_zero, Int.toNat_natCast, Int.natCast_nonneg, Reg.val.injEq, AV.fl.injEq, Value.bool.injEq, decide_true, decide_false, Bool.true_eq_false, Bool.false_eq_true, implies_true, forall_const, false_implies, true_implies, h0, h1, h7, h9, hw]
            refine ⟨m' - 1, by omega, k + 1, by omega, rfl, ?_⟩
            rw [take_snoc hkl]
            simp only [List.all_append, ← Bool.and_assoc, hb8, Bool.false_and]
          · rw [hb8] at h8
            first | refine rops_k ?_ | refine ropsD_k ?_ | skip
            repeat ((first | refine rops_step fun K hK => ?_ | refine ropsD_step fun K hK => ?_); simp only [rops1, ropsD1, rOp, rOpD, rValue, rLoad, rFieldAddr, rIndexAddr, rStore, rBin, onVal, rSlice, rSliceSl, rBuiltin, rLoadAV, gtmp, bnd, boxCells, regCells, regAV, regAVs, regAVsOf, partsOf, alive, oneReg, lenOfReg, srcOf, intBin, strBin, St.newCells, St.newArr, writeAt, setElem, avReg, AV.wf, cells_agg, cells_fl, cells_sl, cells_ref, cells_fn, cells_ifc, isAgg_agg, isAgg_fl, isAgg_sl, isAgg_ref, isAgg_fn, isAgg_ifc, List.mem_cons, forall_eq_or_imp, List.not_mem_nil, List.nil_append, List.cons_append, List.append_nil, forall_eq, AExit.then_normal, upd_apply, reduceIte, Nat.reduceEqDiff, St.ev, constReg, constCell, St.put_some, St.put_none, Option.some.injEq, Option.bind_some, Option.map_some, Prod.mk.injEq, exists_eq_left', exists_eq_left, exists_eq', exists_eq, exists_and_left, and_assoc, true_and, and_true, true_or, or_true, and_self, ne_eq, not_false_eq_true, not_true_eq_false, false_and, and_false, or_false, false_or, reduceCtorEq, TypeDesc.slice.injEq, List.map_cons, List.map_nil, List.length_map, List.length_cons, List.length_nil, List.drop_zero, List.drop_succ_cons, List.take_zero, List.take_succ_cons, List.take_nil, List.drop_nil, List.headD_cons, List.getElem?_toArray, List.getElem?_cons_zero, List.getElem?_cons_succ, List.size_toArray, List.set_cons_zero, List.set_cons_succ, Nat.zero_lt_succ, Nat.reduceAdd, Nat.reduceMul, Nat.reduceLT, Nat.reduceLeDiff, Nat.zero_mul, Nat.zero_add, Nat.add_zero, Int.toNat_natCast, Int.natCast_nonneg, Reg.val.injEq, AV.fl.injEq, Value.bool.injEq, decide_true, decide_false, Bool.true_eq_false, Bool.false_eq_true, implies_true, forall_const, false_implies, true_implies, h0, h1, h7, h8, h9, ts22, tc36, hg, Span.av_cells, tf36_0, tc3, ta3]; refine hK _ ?_; clear hK K)
            first | refine rops_nil ?_ | refine ropsD_nil ?_
            try simp only [AExit.then_normal, AExit.inBlock_normal]
            try simp only [AExit.inBlock_normal, AExit.then_normal]
            refine hK _ ?_; clear hK K
            refine awp_region rfl (by kernel_rfl) ?_
            first | refine rops_k ?_ | refine ropsD_k ?_ | skip
            repeat ((first | refine rops_step fun K hK => ?_ | refine ropsD_step fun K hK => ?_); simp only [rops1, ropsD1, rOp, rOpD, rValue, rLoad, rFieldAddr, rIndexAddr, rStore, rBin, onVal, rSlice, rSliceSl, rBuiltin, rLoadAV, gtmp, bnd, boxCells, regCells, regAV, regAVs, regAVsOf, partsOf, alive, oneReg, lenOfReg, srcOf, intBin, strBin, St.newCells, St.newArr, writeAt, setElem, avReg, AV.wf, cells_agg, cells_fl, cells_sl, cells_ref, cells_fn, cells_ifc, isAgg_agg, isAgg_fl, isAgg_sl, isAgg_ref, isAgg_fn, isAgg_ifc, List.mem_cons, forall_eq_or_imp, List.not_mem_nil, List.nil_append, List.cons_append, List.append_nil, forall_eq, AExit.then_normal, upd_apply, reduceIte, Nat.reduceEqDiff, St.ev, constReg, constCell, St.put_some, St.put_none, Option.some.injEq, Option.bind_some, Option.map_some, Prod.mk.injEq, exists_eq_left', exists_eq_left, exists_eq', exists_eq, exists_and_left, and_assoc, true_and, and_true, true_or, or_true, and_self, ne_eq, not_false_eq_true, not_true_eq_false, false_and, and_false, or_false, false_or, reduceCtorEq, TypeDesc.slice.injEq, List.map_cons, List.map_nil, List.length_map, List.length_cons, List.length_nil, List.drop_zero, List.drop_succ_cons, List.take_zero, List.take_succ_cons, List.take_nil, List.drop_nil, List.headD_cons, List.getElem?_toArray, List.getElem?_cons_zero, List.getElem?_cons_succ, List.size_toArray, List.set_cons_zero, List.set_cons_succ, Nat.zero_lt_succ, Nat.reduceAdd, Nat.reduceMul, Nat.reduceLT, Nat.reduceLeDiff, Nat.zero_mul, Nat.zero_add, Nat.add_zero, Int.toNat_natCast, Int.natCast_nonneg, Reg.val.injEq, AV.fl.injEq, Value.bool.injEq, decide_true, decide_false, Bool.true_eq_false, Bool.false_eq_true, implies_true, forall_const, false_implies, true_implies, h0, h1, h7, h9, hw]; refine hK _ ?_; clear hK K)
            first | refine rops_nil ?_ | refine ropsD_nil ?_
            try simp only [AExit.then_normal, AExit.inBlock_normal]
            simp only [rops1, ropsD1, rOp, rOpD, rValue, rLoad, rFieldAddr, rIndexAddr, rStore, rBin, onVal, rSlice, rSliceSl, rBuiltin, rLoadAV, gtmp, bnd, boxCells, regCells, regAV, regAVs, regAVsOf, partsOf, alive, oneReg, lenOfReg, srcOf, intBin, strBin, St.newCells, St.newArr, writeAt, setElem, avReg, AV.wf, cells_agg, cells_fl, cells_sl, cells_ref, cells_fn, cells_ifc, isAgg_agg, isAgg_fl, isAgg_sl, isAgg_ref, isAgg_fn, isAgg_ifc, List.mem_cons, forall_eq_or_imp, List.not_mem_nil, List.nil_append, List.cons_append, List.append_nil, forall_eq, AExit.then_normal, upd_apply, reduceIte, Nat.reduceEqDiff, St.ev, constReg, constCell, St.put_some, St.put_none, Option.some.injEq, Option.bind_some, Option.map_some, Prod.mk.injEq, exists_eq_left', exists_eq_left, exists_eq', exists_eq, exists_and_left, and_assoc, true_and, and_true, true_or, or_true, and_self, ne_eq, not_false_eq_true, not_true_eq_false, false_and, and_false, or_false, false_or, reduceCtorEq, TypeDesc.slice.injEq, List.map_cons, List.map_nil, List.length_map, List.length_cons, List.length_nil, List.drop_zero, List.drop_succ_cons, List.take_zero, List.take_succ_cons, List.take_nil, List.drop_nil, List.headD_cons, List.getElem?_toArray, List.getElem?_cons_zero, List.getElem?_cons_succ, List.size_toArray, List.set_cons_zero, List.set_cons_succ, Nat.zero_lt_succ, Nat.reduceAdd, Nat.reduceMul, Nat.reduceLT, Nat.reduceLeDiff, Nat.zero_mul, Nat.zero_add, Nat.add_zero, Int.toNat_natCast, Int.natCast_nonneg, Reg.val.injEq, AV.fl.injEq, Value.bool.injEq, decide_true, decide_false, Bool.true_eq_false, Bool.false_eq_true, implies_true, forall_const, false_implies, true_implies, h0, h1, h7, h9, hw]
            refine ⟨m' - 1, by omega, k + 1, by omega, rfl, ?_⟩
            rw [take_snoc hkl]
            simp only [List.all_append, ← Bool.and_assoc, hb8, Bool.true_and, List.all_cons, List.all_nil, Bool.and_true]
        · refine awp_exit ?_
          have hki : k = i := by have := of_decide_eq_false hc; omega
          subst hki
          simp only [AExit.then_exit, AExit.inBlock_exit, reduceIte, AExit.then_normal]
          clear hK K
          refine hK _ ?_; clear hK K
          refine awp_seq fun K hK => ?_
          refine awp_region rfl (by kernel_rfl) ?_
          first | refine rops_k ?_ | refine ropsD_k ?_ | skip
          repeat ((first | refine rops_step fun K hK => ?_ | refine ropsD_step fun K hK => ?_); simp only [rops1, ropsD1, rOp, rOpD, rValue, rLoad, rFieldAddr, rIndexAddr, rStore, rBin, onVal, rSlice, rSliceSl, rBuiltin, rLoadAV, gtmp, bnd, boxCells, regCells, regAV, regAVs, regAVsOf, partsOf, alive, oneReg, lenOfReg, srcOf, intBin, strBin, St.newCells, St.newArr, writeAt, setElem, avReg, AV.wf, cells_agg, cells_fl, cells_sl, cells_ref, cells_fn, cells_ifc, isAgg_agg, isAgg_fl, isAgg_sl, isAgg_ref, isAgg_fn, isAgg_ifc, List.mem_cons, forall_eq_or_imp, List.not_mem_nil, List.nil_append, List.cons_append, List.append_nil, forall_eq, AExit.then_normal, upd_apply, reduceIte, Nat.reduceEqDiff, St.ev, constReg, constCell, St.put_some, St.put_none, Option.some.injEq, Option.bind_some, Option.map_some, Prod.mk.injEq, exists_eq_left', exists_eq_left, exists_eq', exists_eq, exists_and_left, and_assoc, true_and, and_true, true_or, or_true, and_self, ne_eq, not_false_eq_true, not_true_eq_false, false_and, and_false, or_false, false_or, reduceCtorEq, TypeDesc.slice.injEq, List.map_cons, List.map_nil, List.length_map, List.length_cons, List.length_nil, List.drop_zero, List.drop_succ_cons, List.take_zero, List.take_succ_cons, List.take_nil, List.drop_nil, List.headD_cons, List.getElem?_toArray, List.getElem?_cons_zero, List.getElem?_cons_succ, List.size_toArray, List.set_cons_zero, List.set_cons_succ, Nat.zero_lt_succ, Nat.reduceAdd, Nat.reduceMul, Nat.reduceLT, Nat.reduceLeDiff, Nat.zero_mul, Nat.zero_add, Nat.add_zero, Int.toNat_natCast, Int.natCast_nonneg, Reg.val.injEq, AV.fl.injEq, Value.bool.injEq, decide_true, decide_false, Bool.true_eq_false, Bool.false_eq_true, implies_true, forall_const, false_implies, true_implies, h8]; refine hK _ ?_; clear hK K)
          first | refine rops_nil ?_ | refine ropsD_nil ?_
          try simp only [AExit.then_normal, AExit.inBlock_normal]
          refine hK _ ?_; clear hK K
          refine awp_if (by kernel_rfl) (by simp only [upd_apply, reduceIte, Nat.reduceEqDiff, St.ev, constReg, constCell, St.put_some, St.put_none] <;> rfl) (fun hc => ?_) (fun hc => ?_)
          · simp only [Bool.and_eq_true, List.all_eq_true, beq_iff_eq, bne_iff_ne, ne_eq] at hc
            refine awp_seq fun K hK => ?_
            refine awp_draw (by kernel_rfl) rfl (by kernel_rfl) (by kernel_rfl) ?_
            first | refine rops_k ?_ | refine ropsD_k ?_ | skip
            repeat ((first | refine rops_step fun K hK => ?_ | refine ropsD_step fun K hK => ?_); simp only [rops1, ropsD1, rOp, rOpD, rValue, rLoad, rFieldAddr, rIndexAddr, rStore, rBin, onVal, rSlice, rSliceSl, rBuiltin, rLoadAV, gtmp, bnd, boxCells, regCells, regAV, regAVs, regAVsOf, partsOf, alive, oneReg, lenOfReg, srcOf, intBin, strBin, St.newCells, St.newArr, writeAt, setElem, avReg, AV.wf, cells_agg, cells_fl, cells_sl, cells_ref, cells_fn, cells_ifc, isAgg_agg, isAgg_fl, isAgg_sl, isAgg_ref, isAgg_fn, isAgg_ifc, List.mem_cons, forall_eq_or_imp, List.not_mem_nil, List.nil_append, List.cons_append, List.append_nil, forall_eq, AExit.then_normal, upd_apply, reduceIte, Nat.reduceEqDiff, St.ev, constReg, constCell, St.put_some, St.put_none, Option.some.injEq, Option.bind_some, Option.map_some, Prod.mk.injEq, exists_eq_left', exists_eq_left, exists_eq', exists_eq, exists_and_left, and_assoc, true_and, and_true, true_or, or_true, and_self, ne_eq, not_false_eq_true, not_true_eq_false, false_and, and_false, or_false, false_or, reduceCtorEq, TypeDesc.slice.injEq, List.map_cons, List.map_nil, List.length_map, List.length_cons, List.length_nil, List.drop_zero, List.drop_succ_cons, List.take_zero, List.take_succ_cons, List.take_nil, List.drop_nil, List.headD_cons, List.getElem?_toArray, List.getElem?_cons_zero, List.getElem?_cons_succ, List.size_toArray, List.set_cons_zero, List.set_cons_succ, Nat.zero_lt_succ, Nat.reduceAdd, Nat.reduceMul, Nat.reduceLT, Nat.reduceLeDiff, Nat.zero_mul, Nat.zero_add, Nat.add_zero, Int.toNat_natCast, Int.natCast_nonneg, Reg.val.injEq, AV.fl.injEq, Value.bool.injEq, decide_true, decide_false, Bool.true_eq_false, Bool.false_eq_true, implies_true, forall_const, false_implies, true_implies, h0, h7, ts22, tc36, hg, Span.av_cells, tf36_1, tf36_2, tc3, ta3]; refine hK _ ?_; clear hK K)
            first | refine rops_nil ?_ | refine ropsD_nil ?_
            try simp only [AExit.then_normal, AExit.inBlock_normal]
            refine hK _ ?_; clear hK K
            refine awp_ret ?_
            try simp only [AExit.inBlock_ret, AExit.then_ret]
            refine fin_ret (vs := [.tmp 4, .tmp 5, .tmp 6]) Try.ntmps6 rfl (by simp [isOwn]) none ?_
            simp only [resultsAre, regRV, upd_apply, reduceIte, Nat.reduceEqDiff, St.ev, constReg, constCell, St.put_some, St.put_none, Nat.reduceLT, true_and, and_true, and_self, whereF_first hi hc.1 hc.2]
          · refine awp_skip ?_
            try simp only [AExit.inBlock_normal, AExit.then_normal]
            refine hK _ ?_; clear hK K
            refine awp_region rfl (by kernel_rfl) ?_
            have hw : IntKind.i64.wrap ((k : Int) - 1) = (k : Int) - 1 := by rw [wrap64_of (by omega) (by omega)]
            first | refine rops_k ?_ | refine ropsD_k ?_ | skip
            repeat ((first | refine rops_step fun K hK => ?_ | refine ropsD_step fun K hK => ?_); simp only [rops1, ropsD1, rOp, rOpD, rValue, rLoad, rFieldAddr, rIndexAddr, rStore, rBin, onVal, rSlice, rSliceSl, rBuiltin, rLoadAV, gtmp, bnd, boxCells, regCells, regAV, regAVs, regAVsOf, partsOf, alive, oneReg, lenOfReg, srcOf, intBin, strBin, St.newCells, St.newArr, writeAt, setElem, avReg, AV.wf, cells_agg, cells_fl, cells_sl, cells_ref, cells_fn, cells_ifc, isAgg_agg, isAgg_fl, isAgg_sl, isAgg_ref, isAgg_fn, isAgg_ifc, List.mem_cons, forall_eq_or_imp, List.not_mem_nil, List.nil_append, List.cons_append, List.append_nil, forall_eq, AExit.then_normal, upd_apply, reduceIte, Nat.reduceEqDiff, St.ev, constReg, constCell, St.put_some, St.put_none, Option.some.injEq, Option.bind_some, Option.map_some, Prod.mk.injEq, exists_eq_left', exists_eq_left, exists_eq', exists_eq, exists_and_left, and_assoc, true_and, and_true, true_or, or_true, and_self, ne_eq, not_false_eq_true, not_true_eq_false, false_and, and_false, or_false, false_or, reduceCtorEq, TypeDesc.slice.injEq, List.map_cons, List.map_nil, List.length_map, List.length_cons, List.length_nil, List.drop_zero, List.drop_succ_cons, List.take_zero, List.take_succ_cons, List.take_nil, List.drop_nil, List.headD_cons, List.getElem?_toArray, List.getElem?_cons_zero, List.getElem?_cons_succ, List.size_toArray, List.set_cons_zero, List.set_cons_succ, Nat.zero_lt_succ, Nat.reduceAdd, Nat.reduceMul, Nat.reduceLT, Nat.reduceLeDiff, Nat.zero_mul, Nat.zero_add, Nat.add_zero, Int.toNat_natCast, Int.natCast_nonneg, Reg.val.injEq, AV.fl.injEq, Value.bool.injEq, decide_true, decide_false, Bool.true_eq_false, Bool.false_eq_true, implies_true, forall_const, false_implies, true_implies, h0, h1, h7, hw]; refine hK _ ?_; clear hK K)
            first | refine rops_nil ?_ | refine ropsD_nil ?_
            try simp only [AExit.then_normal, AExit.inBlock_normal]
            simp only [rops1, ropsD1, rOp, rOpD, rValue, rLoad, rFieldAddr, rIndexAddr, rStore, rBin, onVal, rSlice, rSliceSl, rBuiltin, rLoadAV, gtmp, bnd, boxCells, regCells, regAV, regAVs, regAVsOf, partsOf, alive, oneReg, lenOfReg, srcOf, intBin, strBin, St.newCells, St.newArr, writeAt, setElem, avReg, AV.wf, cells_agg, cells_fl, cells_sl, cells_ref, cells_fn, cells_ifc, isAgg_agg, isAgg_fl, isAgg_sl, isAgg_ref, isAgg_fn, isAgg_ifc, List.mem_cons, forall_eq_or_imp, List.not_mem_nil, List.nil_append, List.cons_append, List.append_nil, forall_eq, AExit.then_normal, upd_apply, reduceIte, Nat.reduceEqDiff, St.ev, constReg, constCell, St.put_some, St.put_none, Option.some.injEq, Option.bind_some, Option.map_some, Prod.mk.injEq, exists_eq_left', exists_eq_left, exists_eq', exists_eq, exists_and_left, and_assoc, true_and, and_true, true_or, or_true, and_self, ne_eq, not_false_eq_true, not_true_eq_false, false_and, and_false, or_false, false_or, reduceCtorEq, TypeDesc.slice.injEq, List.map_cons, List.map_nil, List.length_map, List.length_cons, List.length_nil, List.drop_zero, List.drop_succ_cons, List.take_zero, List.take_succ_cons, List.take_nil, List.drop_nil, List.headD_cons, List.getElem?_toArray, List.getElem?_cons_zero, List.getElem?_cons_succ, List.size_toArray, List.set_cons_zero, List.set_cons_succ, Nat.zero_lt_succ, Nat.reduceAdd, Nat.reduceMul, Nat.reduceLT, Nat.reduceLeDiff, Nat.zero_mul, Nat.zero_add, Nat.add_zero, Int.toNat_natCast, Int.natCast_nonneg, Reg.val.injEq, AV.fl.injEq, Value.bool.injEq, decide_true, decide_false, Bool.true_eq_false, Bool.false_eq_true, implies_true, forall_const, false_implies, true_implies, h0, h1, h7, hw]
            refine ⟨k, by omega, by omega, rfl, fun q hq1 hq2 => ?_⟩
            by_cases hqk : q = k
            · subst hqk
              rintro ⟨x, hx, h3, h4⟩
              rw [List.getElem?_eq_getElem hi] at hx
              cases hx
              have : ((l[q].node == n) && (l.take q).all (·.node != n)) = true := by
                simp only [Bool.and_eq_true, List.all_eq_true, beq_iff_eq, bne_iff_ne, ne_eq]
                exact ⟨h3, h4⟩
              rw [this] at hc
              cases hc
            · exact hq q (by omega) hq2
    · refine awp_exit ?_
      have hm0 : m = 0 := by have := of_decide_eq_false hc; omega
      simp only [AExit.then_exit, AExit.inBlock_exit, reduceIte, AExit.then_normal]
      clear hK K
      refine hK _ ?_; clear hK K
      refine awp_seq fun K hK => ?_
      refine awp_region rfl (by kernel_rfl) ?_
      first | refine rops_k ?_ | refine ropsD_k ?_ | skip
      repeat ((first | refine rops_step fun K hK => ?_ | refine ropsD_step fun K hK => ?_); simp only [rops1, ropsD1, rOp, rOpD, rValue, rLoad, rFieldAddr, rIndexAddr, rStore, rBin, onVal, rSlice, rSliceSl, rBuiltin, rLoadAV, gtmp, bnd, boxCells, regCells, regAV, regAVs, regAVsOf, partsOf, alive, oneReg, lenOfReg, srcOf, intBin, strBin, St.newCells, St.newArr, writeAt, setElem, avReg, AV.wf, cells_agg, cells_fl, cells_sl, cells_ref, cells_fn, cells_ifc, isAgg_agg, isAgg_fl, isAgg_sl, isAgg_ref, isAgg_fn, isAgg_ifc, List.mem_cons, forall_eq_or_imp, List.not_mem_nil, List.nil_append, List.cons_append, List.append_nil, forall_eq, AExit.then_normal, upd_apply, reduceIte, Nat.reduceEqDiff, St.ev, constReg, constCell, St.put_some, St.put_none, Option.some.injEq, Option.bind_some, Option.map_some, Prod.mk.injEq, exists_eq_left', exists_eq_left, exists_eq', exists_eq, exists_and_left, and_assoc, true_and, and_true, true_or, or_true, and_self, ne_eq, not_false_eq_true, not_true_eq_false, false_and, and_false, or_false, false_or, reduceCtorEq, TypeDesc.slice.injEq, List.map_cons, List.map_nil, List.length_map, List.length_cons, List.length_nil, List.drop_zero, List.drop_succ_cons, List.take_zero, List.take_succ_cons, List.take_nil, List.drop_nil, List.headD_cons, List.getElem?_toArray, List.getElem?_cons_zero, List.getElem?_cons_succ, List.size_toArray, List.set_cons_zero, List.set_cons_succ, Nat.zero_lt_succ, Nat.reduceAdd, Nat.reduceMul, Nat.reduceLT, Nat.reduceLeDiff, Nat.zero_mul, Nat.zero_add, Nat.add_zero, Int.toNat_natCast, Int.natCast_nonneg, Reg.val.injEq, AV.fl.injEq, Value.bool.injEq, decide_true, decide_false, Bool.true_eq_false, Bool.false_eq_true, implies_true, forall_const, false_implies, true_implies]; refine hK _ ?_; clear hK K)
      first | refine rops_nil ?_ | refine ropsD_nil ?_
      try simp only [AExit.then_normal, AExit.inBlock_normal]
      refine hK _ ?_; clear hK K
      refine awp_ret ?_
      try simp only [AExit.inBlock_ret, AExit.then_ret]
      refine fin_ret (vs := [.tmp 4, .tmp 5, .tmp 6]) Try.ntmps6 rfl (by simp [isOwn]) none ?_
      simp only [resultsAre, regRV, upd_apply, reduceIte, Nat.reduceEqDiff, St.ev, constReg, constCell, St.put_some, St.put_none, Nat.reduceLT, true_and, and_true, and_self, whereF_none fun i hi => hq i (by omega) hi]

/-- whose a place is: the last stretch over it -/
def atF (l : List Span) (p : Int) : Int := l.foldl (fun a x => if x.b ≤ p ∧ p < x.e then x.node else a) 0

theorem RefAt_does (E : Env) (l : List Span) (p : Int) (hl : l.length ≤ 4611686018427387904) : Does Try.prog E 8 [.sl (l.map Span.av), .fl (.int .i64 p)] (.ret [.v (.fl (.int .i64 (atF l p)))]) := by
  refine does_run Try.func8 Try.ntmps8 rfl rfl (by simp) fun w0 I0 s hr hb => ?_
  have h0 := hr 0
  have h1 := hr 1
  simp only [List.map_cons, List.map_nil, List.getElem?_cons_zero, List.getElem?_cons_succ, Option.getD_some] at h0 h1
  refine awp_seq fun K hK => ?_
  refine awp_region rfl (by kernel_rfl) ?_
  first | refine rops_k ?_ | refine ropsD_k ?_ | skip
  repeat ((first | refine rops_step fun K hK => ?_ | refine ropsD_step fun K hK => ?_); simp only [rops1, ropsD1, rOp, rOpD, rValue, rLoad, rFieldAddr, rIndexAddr, rStore, rBin, onVal, rSlice, rSliceSl, rBuiltin, rLoadAV, gtmp, bnd, boxCells, regCells, regAV, regAVs, regAVsOf, partsOf, alive, oneReg, lenOfReg, srcOf, intBin, strBin, St.newCells, St.newArr, writeAt, setElem, avReg, AV.wf, cells_agg, cells_fl, cells_sl, cells_ref, cells_fn, cells_ifc, isAgg_agg, isAgg_fl, isAgg_sl, isAgg_ref, isAgg_fn, isAgg_ifc, List.mem_cons, forall_eq_or_imp, List.not_mem_nil, List.nil_append, List.cons_append, List.append_nil, forall_eq, AExit.then_normal, upd_apply, reduceIte, Nat.reduceEqDiff, St.ev, constReg, constCell, St.put_some, St.put_none, Option.some.injEq, Option.bind_some, Option.map_some, Prod.mk.injEq, exists_eq_left', exists_eq_left, exists_eq', exists_eq, exists_and_left, and_assoc, true_and, and_true, true_or, or_true, and_self, ne_eq, not_false_eq_true, not_true_eq_false, false_and, and_false, or_false, false_or, reduceCtorEq, TypeDesc.slice.injEq, List.map_cons, List.map_nil, List.length_map, List.length_cons, List.length_nil, List.drop_zero, List.drop_succ_cons, List.take_zero, List.take_succ_cons, List.take_nil, List.drop_nil, List.headD_cons, List.getElem?_toArray, List.getElem?_cons_zero, List.getElem?_cons_succ, List.size_toArray, List.set_cons_zero, List.set_cons_succ, Nat.zero_lt_succ, Nat.reduceAdd, Nat.reduceMul, Nat.reduceLT, Nat.reduceLeDiff, Nat.zero_mul, Nat.zero_add, Nat.add_zero, Int.toNat_natCast, Int.natCast_nonneg, Reg.val.injEq, AV.fl.injEq, Value.bool.injEq, decide_true, decide_false, Bool.true_eq_false, Bool.false_eq_true, implies_true, forall_const, false_implies, true_implies]; refine hK _ ?_; clear hK K)
  first | refine rops_nil ?_ | refine ropsD_nil ?_
  try simp only [AExit.then_normal, AExit.inBlock_normal]
  refine hK _ ?_; clear hK K
  refine awp_seq fun K hK => ?_
  refine awp_region rfl (by kernel_rfl) ?_
  first | refine rops_k ?_ | refine ropsD_k ?_ | skip
  repeat ((first | refine rops_step fun K hK => ?_ | refine ropsD_step fun K hK => ?_); simp only [rops1, ropsD1, rOp, rOpD, rValue, rLoad, rFieldAddr, rIndexAddr, rStore, rBin, onVal, rSlice, rSliceSl, rBuiltin, rLoadAV, gtmp, bnd, boxCells, regCells, regAV, regAVs, regAVsOf, partsOf, alive, oneReg, lenOfReg, srcOf, intBin, strBin, St.newCells, St.newArr, writeAt, setElem, avReg, AV.wf, cells_agg, cells_fl, cells_sl, cells_ref, cells_fn, cells_ifc, isAgg_agg, isAgg_fl, isAgg_sl, isAgg_ref, isAgg_fn, isAgg_ifc, List.mem_cons, forall_eq_or_imp, List.not_mem_nil, List.nil_append, List.cons_append, List.append_nil, forall_eq, AExit.then_normal, upd_apply, reduceIte, Nat.reduceEqDiff, St.ev, constReg, constCell, St.put_some, St.put_none, Option.some.injEq, Option.bind_some, Option.map_some, Prod.mk.injEq, exists_eq_left', exists_eq_left, exists_eq', exists_eq, exists_and_left, and_assoc, true_and, and_true, true_or, or_true, and_self, ne_eq, not_false_eq_true, not_true_eq_false, false_and, and_false, or_false, false_or, reduceCtorEq, TypeDesc.slice.injEq, List.map_cons, List.map_nil, List.length_map, List.length_cons, List.length_nil, List.drop_zero, List.drop_succ_cons, List.take_zero, List.take_succ_cons, List.take_nil, List.drop_nil, List.headD_cons, List.getElem?_toArray, List.getElem?_cons_zero, List.getElem?_cons_succ, List.size_toArray, List.set_cons_zero, List.set_cons_succ, Nat.zero_lt_succ, Nat.reduceAdd, Nat.reduceMul, Nat.reduceLT, Nat.reduceLeDiff, Nat.zero_mul, Nat.zero_add, Nat.add_zero, Int.toNat_natCast, Int.natCast_nonneg, Reg.val.injEq, AV.fl.injEq, Value.bool.injEq, decide_true, decide_false, Bool.true_eq_false, Bool.false_eq_true, implies_true, forall_const, false_implies, true_implies]; refine hK _ ?_; clear hK K)
  first | refine rops_nil ?_ | refine ropsD_nil ?_
  try simp only [AExit.then_normal, AExit.inBlock_normal]
  refine hK _ ?_; clear hK K
  refine awp_seq fun K hK => ?_
  refine awp_seq fun K hK => ?_
  refine awp_region rfl (by kernel_rfl) ?_
  first | refine rops_k ?_ | refine ropsD_k ?_ | skip
  repeat ((first | refine rops_step fun K hK => ?_ | refine ropsD_step fun K hK => ?_); simp only [rops1, ropsD1, rOp, rOpD, rValue, rLoad, rFieldAddr, rIndexAddr, rStore, rBin, onVal, rSlice, rSliceSl, rBuiltin, rLoadAV, gtmp, bnd, boxCells, regCells, regAV, regAVs, regAVsOf, partsOf, alive, oneReg, lenOfReg, srcOf, intBin, strBin, St.newCells, St.newArr, writeAt, setElem, avReg, AV.wf, cells_agg, cells_fl, cells_sl, cells_ref, cells_fn, cells_ifc, isAgg_agg, isAgg_fl, isAgg_sl, isAgg_ref, isAgg_fn, isAgg_ifc, List.mem_cons, forall_eq_or_imp, List.not_mem_nil, List.nil_append, List.cons_append, List.append_nil, forall_eq, AExit.then_normal, upd_apply, reduceIte, Nat.reduceEqDiff, St.ev, constReg, constCell, St.put_some, St.put_none, Option.some.injEq, Option.bind_some, Option.map_some, Prod.mk.injEq, exists_eq_left', exists_eq_left, exists_eq', exists_eq, exists_and_left, and_assoc, true_and, and_true, true_or, or_true, and_self, ne_eq, not_false_eq_true, not_true_eq_false, false_and, and_false, or_false, false_or, reduceCtorEq, TypeDesc.slice.injEq, List.map_cons, List.map_nil, List.length_map, List.length_cons, List.length_nil, List.drop_zero, List.drop_succ_cons, List.take_zero, List.take_succ_cons, List.take_nil, List.drop_nil, List.headD_cons, List.getElem?_toArray, List.getElem?_cons_zero, List.getElem?_cons_succ, List.size_toArray, List.set_cons_zero, List.set_cons_succ, Nat.zero_lt_succ, Nat.reduceAdd, Nat.reduceMul, Nat.reduceLT, Nat.reduceLeDiff, Nat.zero_mul, Nat.zero_add, Nat.add_zero, Int.toNat_natCast, Int.natCast_nonneg, Reg.val.injEq, AV.fl.injEq, Value.bool.injEq, decide_true, decide_false, Bool.true_eq_false, Bool.false_eq_true, implies_true, forall_const, false_implies, true_implies]; refine hK _ ?_; clear hK K)
  first | refine rops_nil ?_ | refine ropsD_nil ?_
  try simp only [AExit.then_normal, AExit.inBlock_normal]
  refine hK _ ?_; clear hK K
  refine awp_block ?_ -- 0
  refine awp_loop (fun m s => s.r 0 = .val (.sl (l.map Span.av)) ∧ s.r 1 = .val (.fl (.int .i64 p)) ∧ ∃ i : Nat, i + m = l.length ∧ s.r 6 = .val (.fl (.int .i64 i)) ∧ s.r 5 = .val (.fl (.int .i64 (atF (l.take i) p)))) l.length ?_ ?_
  · simp only [rops1, ropsD1, rOp, rOpD, rValue, rLoad, rFieldAddr, rIndexAddr, rStore, rBin, onVal, rSlice, rSliceSl, rBuiltin, rLoadAV, gtmp, bnd, boxCells, regCells, regAV, regAVs, regAVsOf, partsOf, alive, oneReg, lenOfReg, srcOf, intBin, strBin, St.newCells, St.newArr, writeAt, setElem, avReg, AV.wf, cells_agg, cells_fl, cells_sl, cells_ref, cells_fn, cells_ifc, isAgg_agg, isAgg_fl, isAgg_sl, isAgg_ref, isAgg_fn, isAgg_ifc, List.mem_cons, forall_eq_or_imp, List.not_mem_nil, List.nil_append, List.cons_append, List.append_nil, forall_eq, AExit.then_normal, upd_apply, reduceIte, Nat.reduceEqDiff, St.ev, constReg, constCell, St.put_some, St.put_none, Option.some.injEq, Option.bind_some, Option.map_some, Prod.mk.injEq, exists_eq_left', exists_eq_left, exists_eq', exists_eq, exists_and_left, and_assoc, true_and, and_true, true_or, or_true, and_self, ne_eq, not_false_eq_true, not_true_eq_false, false_and, and_false, or_false, false_or, reduceCtorEq, TypeDesc.slice.injEq, List.map_cons, List.map_nil, List.length_map, List.length_cons, List.length_nil, List.drop_zero, List.drop_succ_cons, List.take_zero, List.take_succ_cons, List.take_nil, List.drop_nil, List.headD_cons, List.getElem?_toArray, List.getElem?_cons_zero, List.getElem?_cons_succ, List.size_toArray, List.set_cons_zero, List.set_cons_succ, Nat.zero_lt_succ, Nat.reduceAdd, Nat.reduceMul, Nat.reduceLT, Nat.reduceLeDiff, Nat.zero_mul, Nat.zero_add, Nat.add_zero, Int.toNat_natCast, Int.natCast_nonneg, Reg.val.injEq, AV.fl.injEq, Value.bool.injEq, decide_true, decide_false, Bool.true_eq_false, Bool.false_eq_true, implies_true, forall_const, false_implies, true_implies, h0, h1]
    exact ⟨0, by simp, rfl, rfl⟩
  · clear h0 h1 hr hb s
    rintro m s ⟨h0, h1, i, him, h6, h5⟩
    refine awp_seq fun K hK => ?_
    refine awp_seq fun K hK => ?_
    refine awp_region rfl (by kernel_rfl) ?_
    first | refine rops_k ?_ | refine ropsD_k ?_ | skip
    repeat ((first | refine rops_step fun K hK => ?_ | refine ropsD_step fun K hK => ?_); simp only [rops1, ropsD1, rOp, rOpD, rValue, rLoad, rFieldAddr, rIndexAddr, rStore, rBin, onVal, rSlice, rSliceSl, rBuiltin, rLoadAV, gtmp, bnd, boxCells, regCells, regAV, regAVs, regAVsOf, partsOf, alive, oneReg, lenOfReg, srcOf, intBin, strBin, St.newCells, St.newArr, writeAt, setElem, avReg, AV.wf, cells_agg, cells_fl, cells_sl, cells_ref, cells_fn, cells_ifc, isAgg_agg, isAgg_fl, isAgg_sl, isAgg_ref, isAgg_fn, isAgg_ifc, List.mem_cons, forall_eq_or_imp, List.not_mem_nil, List.nil_append, List.cons_append, List.append_nil, forall_eq, AExit.then_normal, upd_apply, reduceIte, Nat.reduceEqDiff, St.ev, constReg, constCell, St.put_some, St.put_none, Option.some.injEq, Option.bind_some, Option.map_some, Prod.mk.injEq, exists_eq_left', exists_eq_left, exists_eq', exists_eq, exists_and_left, and_assoc, true_and, and_true, true_or, or_true, and_self, ne_eq, not_false_eq_true, not_true_eq_false, false_and, and_false, or_false, false_or, reduceCtorEq, TypeDesc.slice.injEq, List.map_cons, List.map_nil, List.length_map, List.length_cons, List.length_nil, List.drop_zero, List.drop_succ_cons, List.take_zero, List.take_succ_cons, List.take_nil, List.drop_nil, List.headD_cons, List.getElem?_toArray, List.getElem?_cons_zero, List.getElem?_cons_succ, List.size_toArray, List.set_cons_zero, List.set_cons_succ, Nat.zero_lt_succ, Nat.reduceAdd, Nat.reduceMul, Nat.reduceLT, Nat.reduceLeDiff, Nat.zero_mul, Nat.zero_add, Nat.add_zero, Int.toNat_natCast, Int.natCast_nonneg, Reg.val.injEq, AV.fl.injEq, Value.bool.injEq, decide_true, decide_false, Bool.true_eq_false, Bool.false_eq_true, implies_true, forall_const, false_implies, true_implies, h0, h1, h6, tq22, tu22]; refine hK _ ?_; clear hK K)
    first | refine rops_nil ?_ | refine ropsD_nil ?_
    try simp only [AExit.then_normal, AExit.inBlock_normal]
    refine hK _ ?_; clear hK K
    refine awp_if (by kernel_rfl) (by simp only [upd_apply, reduceIte, Nat.reduceEqDiff, St.ev, constReg, constCell, St.put_some, St.put_none] <;> rfl) (fun hc => ?_) (fun hc => ?_)
    · refine awp_skip ?_
      have hi : i < l.length := by have := of_decide_eq_true hc; omega
      clear hc
      have hg := map_get (f := Span.av) hi
      have hw : IntKind.i64.wrap ((i : Int) + 1) = ((i + 1 : Nat) : Int) := by rw [wrap64_of (by omega) (by omega)]; rfl
      have hat : atF (l.take (i + 1)) p = if l[i].b ≤ p ∧ p < l[i].e then l[i].node else atF (l.take i) p := by
        rw [take_snoc hi]; simp only [atF, List.foldl_append, List.foldl_cons, List.foldl_nil]
      simp only [AExit.then_normal]
      refine hK _ ?_; clear hK K
      refine awp_seq fun K hK => ?_
      refine awp_block ?_ -- 1
      refine awp_seq fun K hK => ?_
      refine awp_region rfl (by kernel_rfl) ?_
      by_cases hb1 : l[i].b ≤ p
      · by_cases hb2 : l[i].e > p
        · first | refine rops_k ?_ | refine ropsD_k ?_ | skip
          repeat ((first | refine rops_step fun K hK => ?_ | refine ropsD_step fun K hK => ?_); simp only [rops1, ropsD1, rOp, rOpD, rValue, rLoad, rFieldAddr, rIndexAddr, rStore, rBin, onVal, rSlice, rSliceSl, rBuiltin, rLoadAV, gtmp, bnd, boxCells, regCells, regAV, regAVs, regAVsOf, partsOf, alive, oneReg, lenOfReg, srcOf, intBin, strBin, St.newCells, St.newArr, writeAt, setElem, avReg, AV.wf, cells_agg, cells_fl, cells_sl, cells_ref, cells_fn, cells_ifc, isAgg_agg, isAgg_fl, isAgg_sl, isAgg_ref, isAgg_fn, isAgg_ifc, List.mem_cons, forall_eq_or_imp, List.not_mem_nil, List.nil_append, List.cons_append, List.append_nil, forall_eq, AExit.then_normal, upd_apply, reduceIte, Nat.reduceEqDiff, St.ev, constReg, constCell, St.put_some, St.put_none, Option.some.injEq, Option.bind_some, Option.map_some, Prod.mk.injEq, exists_eq_left', exists_eq_left, exists_eq', exists_eq, exists_and_left, and_assoc, true_and, and_true, true_or, or_true, and_self, ne_eq, not_false_eq_true, not_true_eq_false, false_and, and_false, or_false, false_or, reduceCtorEq, TypeDesc.slice.injEq, List.map_cons, List.map_nil, List.length_map, List.length_cons, List.length_nil, List.drop_zero, List.drop_succ_cons, List.take_zero, List.take_succ_cons, List.take_nil, List.drop_nil, List.headD_cons, List.getElem?_toArray, List.getElem?_cons_zero, List.getElem?_cons_succ, List.size_toArray, List.set_cons_zero, List.set_cons_succ, Nat.zero_lt_succ, Nat.reduceAdd, Nat.reduceMul, Nat.reduceLT, Nat.reduceLeDiff, Nat.zero_mul, Nat.zero_add, Nat.add_zero, Int.toNat_natCast, Int.natCast_nonneg, Reg.val.injEq, AV.fl.injEq, Value.bool.injEq, decide_true, decide_false, Bool.true_eq_false, Bool.false_eq_true, implies_true, forall_const, false_implies, true_implies, h0, h1, h6, ts22, tc36, hg, Span.av_cells, tf36_1, tf36_2, tc3, ta3, hb1, hb2]; refine hK _ ?_; clear hK K)
          first | refine rops_nil ?_ | refine ropsD_nil ?_
          try simp only [AExit.then_normal, AExit.inBlock_normal]
          refine hK _ ?_; clear hK K
          refine awp_if (by kernel_rfl) (by simp only [upd_apply, reduceIte, Nat.reduceEqDiff, St.ev, constReg, constCell, St.put_some, St.put_none] <;> rfl) (fun hc => ?_) (fun hc => ?_)
          · refine awp_region rfl (by kernel_rfl) ?_
            first | refine rops_k ?_ | refine ropsD_k ?_ | skip
            repeat ((first | refine rops_step fun K hK => ?_ | refine ropsD_step fun K hK => ?_); simp only [rops1, ropsD1, rOp, rOpD, rValue, rLoad, rFieldAddr, rIndexAddr, rStore, rBin, onVal, rSlice, rSliceSl, rBuiltin, rLoadAV, gtmp, bnd, boxCells, regCells, regAV, regAVs, regAVsOf, partsOf, alive, oneReg, lenOfReg, srcOf, intBin, strBin, St.newCells, St.newArr, writeAt, setElem, avReg, AV.wf, cells_agg, cells_fl, cells_sl, cells_ref, cells_fn, cells_ifc, isAgg_agg, isAgg_fl, isAgg_sl, isAgg_ref, isAgg_fn, isAgg_ifc, List.mem_cons, forall_eq_or_imp, List.not_mem_nil, List.nil_append, List.cons_append, List.append_nil, forall_eq, AExit.then_normal, upd_apply, reduceIte, Nat.reduceEqDiff, St.ev, constReg, constCell, St.put_some, St.put_none, Option.some.injEq, Option.bind_some, Option.map_some, Prod.mk.injEq, exists_eq_left', exists_eq_left, exists_eq', exists_eq, exists_and_left, and_assoc, true_and, and_true, true_or, or_true, and_self, ne_eq, not_false_eq_true, not_true_eq_false, false_and, and_false, or_false, false_or, reduceCtorEq, TypeDesc.slice.injEq, List.map_cons, List.map_nil, List.length_map, List.length_cons, List.length_nil, List.drop_zero, List.drop_succ_cons, List.take_zero, List.take_succ_cons, List.take_nil, List.drop_nil, List.headD_cons, List.getElem?_toArray, List.getElem?_cons_zero, List.getElem?_cons_succ, List.size_toArray, List.set_cons_zero, List.set_cons_succ, Nat.zero_lt_succ, Nat.reduceAdd, Nat.reduceMul, Nat.reduceLT, Nat.reduceLeDiff, Nat.zero_mul, Nat.zero_add, Nat.add_zero, Int.toNat_natCast, Int.natCast_nonneg, Reg.val.injEq, AV.fl.injEq, Value.bool.injEq, decide_true, decide_false, Bool.true_eq_false, Bool.false_eq_true, implies_true, forall_const, false_implies, true_implies, h0, h1, h6, ts22, tc36, hg, Span.av_cells, tf36_0, tc3, ta3, AExit.inBlock_normal]; refine hK _ ?_; clear hK K)
            first | refine rops_nil ?_ | refine ropsD_nil ?_
            try simp only [AExit.then_normal, AExit.inBlock_normal]
            refine hK _ ?_; clear hK K
            refine awp_region rfl (by kernel_rfl) ?_
            first | refine rops_k ?_ | refine ropsD_k ?_ | skip
            repeat ((first | refine rops_step fun K hK => ?_ | refine ropsD_step fun K hK => ?_); simp only [rops1, ropsD1, rOp, rOpD, rValue, rLoad, rFieldAddr, rIndexAddr, rStore, rBin, onVal, rSlice, rSliceSl, rBuiltin, rLoadAV, gtmp, bnd, boxCells, regCells, regAV, regAVs, regAVsOf, partsOf, alive, oneReg, lenOfReg, srcOf, intBin, strBin, St.newCells, St.newArr, writeAt, setElem, avReg, AV.wf, cells_agg, cells_fl, cells_sl, cells_ref, cells_fn, cells_ifc, isAgg_agg, isAgg_fl, isAgg_sl, isAgg_ref, isAgg_fn, isAgg_ifc, List.mem_cons, forall_eq_or_imp, List.not_mem_nil, List.nil_append, List.cons_append, List.append_nil, forall_eq, AExit.then_normal, upd_apply, reduceIte, Nat.reduceEqDiff, St.ev, constReg, constCell, St.put_some, St.put_none, Option.some.injEq, Option.bind_some, Option.map_some, Prod.mk.injEq, exists_eq_left', exists_eq_left, exists_eq', exists_eq, exists_and_left, and_assoc, true_and, and_true, true_or, or_true, and_self, ne_eq, not_false_eq_true, not_true_eq_false, false_and, and_false, or_false, false_or, reduceCtorEq, TypeDesc.slice.injEq, List.map_cons, List.map_nil, List.length_map, List.length_cons, List.length_nil, List.drop_zero, List.drop_succ_cons, List.take_zero, List.take_succ_cons, List.take_nil, List.drop_nil, List.headD_cons, List.getElem?_toArray, List.getElem?_cons_zero, List.getElem?_cons_succ, List.size_toArray, List.set_cons_zero, List.set_cons_succ, Nat.zero_lt_succ, Nat.reduceAdd, Nat.reduceMul, Nat.reduceLT, Nat.reduceLeDiff, Nat.zero_mul, Nat.zero_add, Nat.add_zero, Int.toNat_natCast, Int.natCast_nonneg, Reg.val.injEq, AV.fl.injEq, Value.bool.injEq, decide_true, decide_false, Bool.true_eq_false, Bool.false_eq_true, implies_true, forall_const, false_implies, true_implies, h0, h1, h6, hw]; refine hK _ ?_; clear hK K)
            first | refine rops_nil ?_ | refine ropsD_nil ?_
            try simp only [AExit.then_normal, AExit.inBlock_normal]
            simp only [rops1, ropsD1, rOp, rOpD, rValue, rLoad, rFieldAddr, rIndexAddr, rStore, rBin, onVal, rSlice, rSliceSl, rBuiltin, rLoadAV, gtmp, bnd, boxCells, regCells, regAV, regAVs, regAVsOf, partsOf, alive, oneReg, lenOfReg, srcOf, intBin, strBin, St.newCells, St.newArr, writeAt, setElem, avReg, AV.wf, cells_agg, cells_fl, cells_sl, cells_ref, cells_fn, cells_ifc, isAgg_agg, isAgg_fl, isAgg_sl, isAgg_ref, isAgg_fn, isAgg_ifc, List.mem_cons, forall_eq_or_imp, List.not_mem_nil, List.nil_append, List.cons_append, List.append_nil, forall_eq, AExit.then_normal, upd_apply, reduceIte, Nat.reduceEqDiff, St.ev, constReg, constCell, St.put_some, St.put_none, Option.some.injEq, Option.bind_some, Option.map_some, Prod.mk.injEq, exists_eq_left', exists_eq_left, exists_eq', exists_eq, exists_and_left, and_assoc, true_and, and_true, true_or, or_true, and_self, ne_eq, not_false_eq_true, not_true_eq_false, false_and, and_false, or_false, false_or, reduceCtorEq, TypeDesc.slice.injEq, List.map_cons, List.map_nil, List.length_map, List.length_cons, List.length_nil, List.drop_zero, List.drop_succ_cons, List.take_zero, List.take_succ_cons, List.take_nil, List.drop_nil, List.headD_cons, List.getElem?_toArray, List.getElem?_cons_zero, List.getElem?_cons_succ, List.size_toArray, List.set_cons_zero, List.set_cons_succ, Nat.zero_lt_succ, Nat.reduceAdd, Nat.reduceMul, Nat.reduceLT, Nat.reduceLeDiff, Nat.zero_mul, Nat.zero_add, Nat.add_zero, Int.toNat_natCast, Int.natCast_nonneg, Reg.val.injEq, AV.fl.injEq, Value.bool.injEq, decide_true, decide_false, Bool.true_eq_false, Bool.false_eq_true, implies_true, forall_const, false_implies, true_implies, h0, h1, h6, hw]
            exact ⟨m - 1, by omega, i + 1, by omega, rfl, by rw [hat, if_pos ⟨hb1, hb2⟩]⟩
          · cases hc
        · first | refine rops_k ?_ | refine ropsD_k ?_ | skip
          repeat ((first | refine rops_step fun K hK => ?_ | refine ropsD_step fun K hK => ?_); simp only [rops1, ropsD1, rOp, rOpD, rValue, rLoad, rFieldAddr, rIndexAddr, rStore, rBin, onVal, rSlice, rSliceSl, rBuiltin, rLoadAV, gtmp, bnd, boxCells, regCells, regAV, regAVs, regAVsOf, partsOf, alive, oneReg, lenOfReg, srcOf, intBin, strBin, St.newCells, St.newArr, writeAt, setElem, avReg, AV.wf, cells_agg, cells_fl, cells_sl, cells_ref, cells_fn, cells_ifc, isAgg_agg, isAgg_fl, isAgg_sl, isAgg_ref, isAgg_fn, isAgg_ifc, List.mem_cons, forall_eq_or_imp, List.not_mem_nil, List.nil_append, List.cons_append, List.append_nil, forall_eq, AExit.then_normal, upd_apply, reduceIte, Nat.reduceEqDiff, St.ev, constReg, constCell, St.put_some, St.put_none, Option.some.injEq, Option.bind_some, Option.map_some, Prod.mk.injEq, exists_eq_left', exists_eq_left, exists_eq', exists_eq, exists_and_left, and_assoc, true_and, and_true, true_or, or_true, and_self, ne_eq, not_false_eq_true, not_true_eq_false, false_and, and_false, or_false, false_or, reduceCtorEq, TypeDesc.slice.injEq, List.map_cons, List.map_nil, List.length_map, List.length_cons, List.length_nil, List.drop_zero, List.drop_succ_cons, List.take_zero, List.take_succ_cons, List.take_nil, List.drop_nil, List.headD_cons, List.getElem?_toArray, List.getElem?_cons_zero, List.getElem?_cons_succ, List.size_toArray, List.set_cons_zero, List.set_cons_succ, Nat.zero_lt_succ, Nat.reduceAdd, Nat.reduceMul, Nat.reduceLT, Nat.reduceLeDiff, Nat.zero_mul, Nat.zero_add, Nat.add_zero, Int.toNat_natCast, Int.natCast_nonneg, Reg.val.injEq, AV.fl.injEq, Value.bool.injEq, decide_true, decide_false, Bool.true_eq_false, Bool.false_eq_true, implies_true, forall_const, false_implies, true_implies, h0, h1, h6, ts22, tc36, hg, Span.av_cells, tf36_1, tf36_2, tc3, ta3, hb1, hb2]; refine hK _ ?_; clear hK K)
          first | refine rops_nil ?_ | refine ropsD_nil ?_
          try simp only [AExit.then_normal, AExit.inBlock_normal]
          refine hK _ ?_; clear hK K
          refine awp_if (by kernel_rfl) (by simp only [upd_apply, reduceIte, Nat.reduceEqDiff, St.ev, constReg, constCell, St.put_some, St.put_none] <;> rfl) (fun hc => ?_) (fun hc => ?_)
          · cases hc
          · refine awp_skip ?_
            try simp only [AExit.inBlock_normal, AExit.then_normal]
            refine hK _ ?_; clear hK K
            refine awp_region rfl (by kernel_rfl) ?_
            first | refine rops_k ?_ | refine ropsD_k ?_ | skip
            repeat ((first | refine rops_step fun K hK => ?_ | refine ropsD_step fun K hK => ?_); simp only [rops1, ropsD1, rOp, rOpD, rValue, rLoad, rFieldAddr, rIndexAddr, rStore, rBin, onVal, rSlice, rSliceSl, rBuiltin, rLoadAV, gtmp, bnd, boxCells, regCells, regAV, regAVs, regAVsOf, partsOf, alive, oneReg, lenOfReg, srcOf, intBin, strBin, St.newCells, St.newArr, writeAt, setElem, avReg, AV.wf, cells_agg, cells_fl, cells_sl, cells_ref, cells_fn, cells_ifc, isAgg_agg, isAgg_fl, isAgg_sl, isAgg_ref, isAgg_fn, isAgg_ifc, List.mem_cons, forall_eq_or_imp, List.not_mem_nil, List.nil_append, List.cons_append, List.append_nil, forall_eq, AExit.then_normal, upd_apply, reduceIte, Nat.reduceEqDiff, St.ev, constReg, constCell, St.put_some, St.put_none, Option.some.injEq, Option.bind_some, Option.map_some, Prod.mk.injEq, exists_eq_left', exists_eq_left, exists_eq', exists_eq, exists_and_left, and_assoc, true_and, and_true, true_or, or_true, and_self, ne_eq, not_false_eq_true, not_true_eq_false, false_and, and_false, or_false, false_or, reduceCtorEq, TypeDesc.slice.injEq, List.map_cons, List.map_nil, List.length_map, List.length_cons, List.length_nil, List.drop_zero, List.drop_succ_cons, List.take_zero, List.take_succ_cons, List.take_nil, List.drop_nil, List.headD_cons, List.getElem?_toArray, List.getElem?_cons_zero, List.getElem?_cons_succ, List.size_toArray, List.set_cons_zero, List.set_cons_succ, Nat.zero_lt_succ, Nat.reduceAdd, Nat.reduceMul, Nat.reduceLT, Nat.reduceLeDiff, Nat.zero_mul, Nat.zero_add, Nat.add_zero, Int.toNat_natCast, Int.natCast_nonneg, Reg.val.injEq, AV.fl.injEq, Value.bool.injEq, decide_true, decide_false, Bool.true_eq_false, Bool.false_eq_true, implies_true, forall_const, false_implies, true_implies, h0, h1, h6, hw]; refine hK _ ?_; clear hK K)
            first | refine rops_nil ?_ | refine ropsD_nil ?_
            try simp only [AExit.then_normal, AExit.inBlock_normal]
            simp only [rops1, ropsD1, rOp, rOpD, rValue, rLoad, rFieldAddr, rIndexAddr, rStore, rBin, onVal, rSlice, rSliceSl, rBuiltin, rLoadAV, gtmp, bnd, boxCells, regCells, regAV, regAVs, regAVsOf, partsOf, alive, oneReg, lenOfReg, srcOf, intBin, strBin, St.newCells, St.newArr, writeAt, setElem, avReg, AV.wf, cells_agg, cells_fl, cells_sl, cells_ref, cells_fn, cells_ifc, isAgg_agg, isAgg_fl, isAgg_sl, isAgg_ref, isAgg_fn, isAgg_ifc, List.mem_cons, forall_eq_or_imp, List.not_mem_nil, List.nil_append, List.cons_append, List.append_nil, forall_eq, AExit.then_normal, upd_apply, reduceIte, Nat.reduceEqDiff, St.ev, constReg, constCell, St.put_some, St.put_none, Option.some.injEq, Option.bind_some, Option.map_some, Prod.mk.injEq, exists_eq_left', exists_eq_left, exists_eq', exists_eq, exists_and_left, and_assoc, true_and, and_true, true_or, or_true, and_self, ne_eq, not_false_eq_true, not_true_eq_false, false_and, and_false, or_false, false_or, reduceCtorEq, TypeDesc.slice.injEq, List.map_cons, List.map_nil, List.length_map, List.length_cons, List.length_nil, List.drop_zero, List.drop_succ_cons, List.take_zero, List.take_succ_cons, List.take_nil, List.drop_nil, List.headD_cons, List.getElem?_toArray, List.getElem?_cons_zero, List.getElem?_cons_succ, List.size_toArray, List.set_cons_zero, List.set_cons_succ, Nat.zero_lt_succ, Nat.reduceAdd, Nat.reduceMul, Nat.reduceLT, Nat.reduceLeDiff, Nat.zero_mul, Nat.zero_add, Nat.add_zero, Int.toNat_natCast, Int.natCast_nonneg, Reg.val.injEq, AV.fl.injEq, Value.bool.injEq, decide_true, decide_false, Bool.true_eq_false, Bool.false_eq_true, implies_true, forall_const, false_implies, true_implies, h0, h1, h6, hw]
            exact ⟨m - 1, by omega, i + 1, by omega, rfl, by rw [hat, if_neg (fun h => hb2 h.2)]; exact h5⟩
      · first | refine rops_k ?_ | refine ropsD_k ?_ | skip
        repeat ((first | refine rops_step fun K hK => ?_ | refine ropsD_step fun K hK => ?_); simp only [rops1, ropsD1, rOp, rOpD, rValue, rLoad, rFieldAddr, rIndexAddr, rStore, rBin, onVal, rSlice, rSliceSl, rBuiltin, rLoadAV, gtmp, bnd, boxCells, regCells, regAV, regAVs, regAVsOf, partsOf, alive, oneReg, lenOfReg, srcOf, intBin, strBin, St.newCells, St.newArr, writeAt, setElem, avReg, AV.wf, cells_agg, cells_fl, cells_sl, cells_ref, cells_fn, cells_ifc, isAgg_agg, isAgg_fl, isAgg_sl, isAgg_ref, isAgg_fn, isAgg_ifc, List.mem_cons, forall_eq_or_imp, List.not_mem_nil, List.nil_append, List.cons_append, List.append_nil, forall_eq, AExit.then_normal, upd_apply, reduceIte, Nat.reduceEqDiff, St.ev, constReg, constCell, St.put_some, St.put_none, Option.some.injEq, Option.bind_some, Option.map_some, Prod.mk.injEq, exists_eq_left', exists_eq_left, exists_eq', exists_eq, exists_and_left, and_assoc, true_and, and_true, true_or, or_true, and_self, ne_eq, not_false_eq_true, not_true_eq_false, false_and, and_false, or_false, false_or, reduceCtorEq, TypeDesc.slice.injEq, List.map_cons, List.map_nil, List.length_map, List.length_cons, List.length_nil, List.drop_zero, List.drop_succ_cons, List.take_zero, List.take_succ_cons, List.take_nil, List.drop_nil, List.headD_cons, List.getElem?_toArray, List.getElem?_cons_zero, List.getElem?_cons_succ, List.size_toArray, List.set_cons_zero, List.set_cons_succ, Nat.zero_lt_succ, Nat.reduceAdd, Nat.reduceMul, Nat.reduceLT, Nat.reduceLeDiff, Nat.zero_mul, Nat.zero_add, Nat.add_zero, Int.toNat_natCast, Int.natCast_nonneg, Reg.val.injEq, AV.fl.injEq, Value.bool.injEq, decide_true, decide_false, Bool.true_eq_false, Bool.false_eq_true, implies_true, forall_const, false_implies, true_implies, h0, h1, h6, ts22, tc36, hg, Span.av_cells, tf36_1, tf36_2, tc3, ta3, hb1]; refine hK _ ?_; clear hK K)
        first | refine rops_nil ?_ | refine ropsD_nil ?_
        try simp only [AExit.then_normal, AExit.inBlock_normal]
        refine hK _ ?_; clear hK K
        refine awp_if (by kernel_rfl) (by simp only [upd_apply, reduceIte, Nat.reduceEqDiff, St.ev, constReg, constCell, St.put_some, St.put_none] <;> rfl) (fun hc => ?_) (fun hc => ?_)
        · cases hc
        · refine awp_skip ?_
          try simp only [AExit.inBlock_normal, AExit.then_normal]
          refine hK _ ?_; clear hK K
          refine awp_region rfl (by kernel_rfl) ?_
          first | refine rops_k ?_ | refine ropsD_k ?_ | skip
          repeat ((first | refine rops_step fun K hK => ?_ | refine ropsD_step fun K hK => ?_); simp only [rops1, ropsD1, rOp, rOpD, rValue, rLoad, rFieldAddr, rIndexAddr, rStore, rBin, onVal, rSlice, rSliceSl, rBuiltin, rLoadAV, gtmp, bnd, boxCells, regCells, regAV, regAVs, regAVsOf, partsOf, alive, oneReg, lenOfReg, srcOf, intBin, strBin, St.newCells, St.newArr, writeAt, setElem, avReg, AV.wf, cells_agg, cells_fl, cells_sl, cells_ref, cells_fn, cells_ifc, isAgg_agg, isAgg_fl, isAgg_sl, isAgg_ref, isAgg_fn, isAgg_ifc, List.mem_cons, forall_eq_or_imp, List.not_mem_nil, List.nil_append, List.cons_append, List.append_nil, forall_eq, AExit.then_normal, upd_apply, reduceIte, Nat.reduceEqDiff, St.ev, constReg, constCell, St.put_some, St.put_none, Option.some.injEq, Option.bind_some, Option.map_some, Prod.mk.injEq, exists_eq_left', exists_eq_left, exists_eq', exists_eq, exists_and_left, and_assoc, true_and, and_true, true_or, or_true, and_self, ne_eq, not_false_eq_true, not_true_eq_false, false_and, and_false, or_false, false_or, reduceCtorEq, TypeDesc.slice.injEq, List.map_cons, List.map_nil, List.length_map, List.length_cons, List.length_nil, List.drop_zero, List.drop_succ_cons, List.take_zero, List.take_succ_cons, List.take_nil, List.drop_nil, List.headD_cons, List.getElem?_toArray, List.getElem?_cons_zero, List.getElem?_cons_succ, List.size_toArray, List.set_cons_zero, List.set_cons_succ, Nat.zero_lt_succ, Nat.reduceAdd, Nat.reduceMul, Nat.reduceLT, Nat.reduceLeDiff, Nat.zero_mul, Nat.zero_add, Nat.add_zero, Int.toNat_natCast, Int.natCast_nonneg, Reg.val.injEq, AV.fl.injEq, Value.bool.injEq, decide_true, decide_false, Bool.true_eq_false, Bool.false_eq_true, implies_true, forall_const, false_implies, true_implies, h0, h1, h6, hw]; refine hK _ ?_; clear hK K)
          first | refine rops_nil ?_ | refine ropsD_nil ?_
          try simp only [AExit.then_normal, AExit.inBlock_normal]
          simp only [rops1, ropsD1, rOp, rOpD, rValue, rLoad, rFieldAddr, rIndexAddr, rStore, rBin, onVal, rSlice, rSliceSl, rBuiltin, rLoadAV, gtmp, bnd, boxCells, regCells, regAV, regAVs, regAVsOf, partsOf, alive, oneReg, lenOfReg, srcOf, intBin, strBin, St.newCells, St.newArr, writeAt, setElem, avReg, AV.wf, cells_agg, cells_fl, cells_sl, cells_ref, cells_fn, cells_ifc, isAgg_agg, isAgg_fl, isAgg_sl, isAgg_ref, isAgg_fn, isAgg_ifc, List.mem_cons, forall_eq_or_imp, List.not_mem_nil, List.nil_append, List.cons_append, List.append_nil, forall_eq, AExit.then_normal, upd_apply, reduceIte, Nat.reduceEqDiff, St.ev, constReg, constCell, St.put_some, St.put_none, Option.some.injEq, Option.bind_some, Option.map_some, Prod.mk.injEq, exists_eq_left', exists_eq_left, exists_eq', exists_eq, exists_and_left, and_assoc, true_and, and_true, true_or, or_true, and_self, ne_eq, not_false_eq_true, not_true_eq_false, false_and, and_false, or_false, false_or, reduceCtorEq, TypeDesc.slice.injEq, List.map_cons, List.map_nil, List.length_map, List.length_cons, List.length_nil, List.drop_zero, List.drop_succ_cons, List.take_zero, List.take_succ_cons, List.take_nil, List.drop_nil, List.headD_cons, List.getElem?_toArray, List.getElem?_cons_zero, List.getElem?_cons_succ, List.size_toArray, List.set_cons_zero, List.set_cons_succ, Nat.zero_lt_succ, Nat.reduceAdd, Nat.reduceMul, Nat.reduceLT, Nat.reduceLeDiff, Nat.zero_mul, Nat.zero_add, Nat.add_zero, Int.toNat_natCast, Int.natCast_nonneg, Reg.val.injEq, AV.fl.injEq, Value.bool.injEq, decide_true, decide_false, Bool.true_eq_false, Bool.false_eq_true, implies_true, forall_const, false_implies, true_implies, h0, h1, h6, hw]
          exact ⟨m - 1, by omega, i + 1, by omega, rfl, by rw [hat, if_neg (fun h => hb1 h.1)]; exact h5⟩
    · refine awp_exit ?_
      have hi : i = l.length := by have := of_decide_eq_false hc; omega
      subst hi
      rw [List.take_length] at h5
      simp only [AExit.then_exit, AExit.inBlock_exit, reduceIte, AExit.then_normal]
      clear hK K
      refine hK _ ?_; clear hK K
      refine awp_seq fun K hK => ?_
      refine awp_region rfl (by kernel_rfl) ?_
      first | refine rops_k ?_ | refine ropsD_k ?_ | skip
      repeat ((first | refine rops_step fun K hK => ?_ | refine ropsD_step fun K hK => ?_); simp only [rops1, ropsD1, rOp, rOpD, rValue, rLoad, rFieldAddr, rIndexAddr, rStore, rBin, onVal, rSlice, rSliceSl, rBuiltin, rLoadAV, gtmp, bnd, boxCells, regCells, regAV, regAVs, regAVsOf, partsOf, alive, oneReg, lenOfReg, srcOf, intBin, strBin, St.newCells, St.newArr, writeAt, setElem, avReg, AV.wf, cells_agg, cells_fl, cells_sl, cells_ref, cells_fn, cells_ifc, isAgg_agg, isAgg_fl, isAgg_sl, isAgg_ref, isAgg_fn, isAgg_ifc, List.mem_cons, forall_eq_or_imp, List.not_mem_nil, List.nil_append, List.cons_append, List.append_nil, forall_eq, AExit.then_normal, upd_apply, reduceIte, Nat.reduceEqDiff, St.ev, constReg, constCell, St.put_some, St.put_none, Option.some.injEq, Option.bind_some, Option.map_some, Prod.mk.injEq, exists_eq_left', exists_eq_left, exists_eq', exists_eq, exists_and_left, and_assoc, true_and, and_true, true_or, or_true, and_self, ne_eq, not_false_eq_true, not_true_eq_false, false_and, and_false, or_false, false_or, reduceCtorEq, TypeDesc.slice.injEq, List.map_cons, List.map_nil, List.length_map, List.length_cons, List.length_nil, List.drop_zero, List.drop_succ_cons, List.take_zero, List.take_succ_cons, List.take_nil, List.drop_nil, List.headD_cons, List.getElem?_toArray, List.getElem?_cons_zero, List.getElem?_cons_succ, List.size_toArray, List.set_cons_zero, List.set_cons_succ, Nat.zero_lt_succ, Nat.reduceAdd, Nat.reduceMul, Nat.reduceLT, Nat.reduceLeDiff, Nat.zero_mul, Nat.zero_add, Nat.add_zero, Int.toNat_natCast, Int.natCast_nonneg, Reg.val.injEq, AV.fl.injEq, Value.bool.injEq, decide_true, decide_false, Bool.true_eq_false, Bool.false_eq_true, implies_true, forall_const, false_implies, true_implies, h5]; refine hK _ ?_; clear hK K)
      first | refine rops_nil ?_ | refine ropsD_nil ?_
      try simp only [AExit.then_normal, AExit.inBlock_normal]
      refine hK _ ?_; clear hK K
      refine awp_ret ?_
      try simp only [AExit.inBlock_ret, AExit.then_ret]
      refine fin_ret (vs := [.tmp 4]) Try.ntmps8 rfl (by simp [isOwn]) none ?_
      simp only [resultsAre, regRV, upd_apply, reduceIte, Nat.reduceEqDiff, St.ev, constReg, constCell, St.put_some, St.put_none, Nat.reduceLT, true_and, and_true, and_self]

end Go.Proofs
