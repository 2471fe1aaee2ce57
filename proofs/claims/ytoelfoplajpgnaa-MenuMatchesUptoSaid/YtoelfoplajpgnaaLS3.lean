import Derived.Test.YtoelfoplajpgnaaEvLift
import Derived.Test.YtoelfoplajpgnaaMmF
import Derived.Test.YtoelfoplajpgnaaL19
import Derived.Test.YtoelfoplajpgnaaL20
import Derived.Test.YtoelfoplajpgnaaL22
import Derived.Test.YtoelfoplajpgnaaLS2
import Derived.Test.YtoelfoplajpgnaaLS1
set_option linter.unusedVariables false
set_option linter.unusedSimpArgs false
set_option linter.unusedSectionVars false

namespace Go.Proofs.Mm
open Go Go.Ev

-- topiary/topiaryref02.Find
def F15 (N : Nat) (a0 : Mdl) (a1 : Int) : Option (Nd × Bool) :=
  (F19 N a0).bind fun x22 =>
  bindG (!(!x22)) (F20 N a0 a1) fun x23 =>
  bif (!x22) || (decide (x23 < 0)) then
    some (Nd.mk 0 [] 0 [] [] [] [], false)
  else
    (F20 N a0 a1).bind fun x31 =>
    (getO a0.nodes x31).bind fun x32 =>
    some (x32, true)

set_option maxHeartbeats 4000000 in
theorem F15_does (E : Env) (N : Nat) (a0 : Mdl) (a1 : Int) (r : Nd × Bool) (h : F15 N a0 a1 = some r) : Does Try.prog E 15 [.agg [.fl (.int .i64 a0.next), .sl (List.map Nd.av a0.nodes)], .fl (.int .i64 a1)] (.ret [.v (.agg [.fl (.int .i64 r.1.id), .fl (bs r.1.concept), .fl (.int .i64 r.1.parent), .fl (bs r.1.role), .sl (List.map Prp.av r.1.props), .sl (List.map intAV r.1.kids), .sl (List.map Rf.av r.1.refs)]), .v (.fl (.bool r.2))]) := by
  refine does_run Try.func15 Try.ntmps15 rfl rfl (by simp) fun w0 I0 s hr hb => ?_
  have h0 := hr 0
  have h1 := hr 1
  simp only [List.map_cons, List.map_nil, List.getElem?_cons_zero, List.getElem?_cons_succ, Option.getD_some] at h0 h1
  unfold F15 at h
  refine awp_seq fun K19 hK19 => ?_
  refine awp_region rfl (by kernel_rfl) ?_
  first | refine rops_k ?_ | refine ropsD_k ?_
  repeat (refine rops_ng rfl fun K hK => ?_; simp only [go_sem, reduceIte, Nat.reduceEqDiff, reduceCtorEq, Nat.reduceAdd, Nat.reduceMul, Nat.reduceLT, Nat.reduceLeDiff, Int.reduceToNat, Int.reduceLE, h0]; refine hK _ ?_; clear hK K)
  first | refine rops_nil ?_ | refine ropsD_nil ?_
  try simp only [exs, reduceIte, Nat.reduceEqDiff]
  refine hK19 _ ?_
  refine awp_seq fun K20 hK20 => ?_
  refine awp_seq fun K21 hK21 => ?_
  obtain ⟨x22, q24, h⟩ := bind_some h
  obtain ⟨x23, q25, h⟩ := bindG_some h
  refine awp_region rfl (by kernel_rfl) ?_
  have R27 : ∀ s26 : St, (s26.r 1 = .val (.fl (.int .i64 a1))) → (s26.r 2 = .loc 2 (s26.g 2) 0 0 0) → (s26.r 4 = .loc 4 (s26.g 4) 0 0 0) → (s26.r 14 = .val (.fl (.bool ((!x22) || (decide (x23 < 0)))))) → (s26.b 2 = some (.cells [.val (.fl (.int .i64 a0.next)), .val (.sl (List.map Nd.av a0.nodes))])) → (s26.b 4 = some (.cells [.val (.fl (.int .i64 0)), .val (.fl (bs [])), .val (.fl (.int .i64 0)), .val (.fl (bs [])), .full [], .full [], .full []])) → K21 s26 := by
    intro s26 h1 h2 h4 h14 b2 b4
    refine hK21 _ ?_
    refine awp_if (by kernel_rfl) (by (simp only [upd_apply, reduceIte, Nat.reduceEqDiff, St.ev, constReg, constCell, St.put_some, St.put_none, h1, h2, h4, h14, b2, b4] <;> rfl)) (fun hc => ?_) (fun hc => ?_)
    · have c28 : ((!x22) || (decide (x23 < 0))) = true := by first | exact hc | simpa using hc
      clear hc
      rw [c28] at h
      simp only [cond_true, cond_false] at h
      refine awp_seq fun K29 hK29 => ?_
      refine awp_region rfl (by kernel_rfl) ?_
      first | refine rops_k ?_ | refine ropsD_k ?_
      repeat (refine rops_ng rfl fun K hK => ?_; simp only [go_sem, reduceIte, Nat.reduceEqDiff, reduceCtorEq, Nat.reduceAdd, Nat.reduceMul, Nat.reduceLT, Nat.reduceLeDiff, Int.reduceToNat, Int.reduceLE, h4, b2, b4]; refine hK _ ?_; clear hK K)
      first | refine rops_nil ?_ | refine ropsD_nil ?_
      try simp only [exs, reduceIte, Nat.reduceEqDiff]
      refine hK29 _ ?_
      have h := Option.some.inj h
      subst h
      refine awp_ret ?_
      try simp only [exs, reduceIte, Nat.reduceEqDiff]
      refine fin_ret (vs := [.cell 4 47, .tmp 5]) Try.ntmps15 rfl (by simp [List.filter_cons, isOwn]) none ?_
      (simp only [resultsAre, resCell, loadRegs, regRV, go_sem, reduceIte, Nat.reduceEqDiff, reduceCtorEq, Nat.reduceAdd, Nat.reduceMul, Nat.reduceLT, Nat.reduceLeDiff, Int.reduceToNat, Int.reduceLE, fs_all, take_length_map, h1, h2, h4, h14, b2, b4] <;> rfl)
    have c28 : ((!x22) || (decide (x23 < 0))) = false := by first | exact hc | simpa using hc
    clear hc
    rw [c28] at h
    simp only [cond_true, cond_false] at h
    refine awp_skip ?_
    try simp only [exs, reduceIte, Nat.reduceEqDiff]
    refine hK20 _ ?_
    refine awp_seq fun K30 hK30 => ?_
    obtain ⟨x31, q33, h⟩ := bind_some h
    obtain ⟨x32, q34, h⟩ := bind_some h
    obtain ⟨q34i, q34e, q34l⟩ := getO_some q34
    refine awp_draw (by kernel_rfl) rfl (by kernel_rfl) (by kernel_rfl) ?_
    first | refine rops_k ?_ | refine ropsD_k ?_
    repeat (refine ropsD_ng rfl fun K hK => ?_; simp only [go_sem, reduceIte, Nat.reduceEqDiff, reduceCtorEq, Nat.reduceAdd, Nat.reduceMul, Nat.reduceLT, Nat.reduceLeDiff, Int.reduceToNat, Int.reduceLE, h1, h2, h4, b2, b4, q34i, q34e, q34l]; refine hK _ ?_; clear hK K)
    refine ropsD_ng rfl fun K hK => ?_
    simp only [List.head?_cons, List.head?_nil, Option.map_some, Option.map_none, rops1, ropsD1, gtmp, gate, beq_self_eq_true, beq_t, beq_f, Bool.not_true, Bool.not_false, if_true, rOp, rOpD, calleeOf, regAVsOf, regAV, List.getElem?_toArray, List.getElem?_cons_zero, List.getElem?_cons_succ, Option.bind_some, upd_apply, reduceIte, Nat.reduceEqDiff, St.ev, constReg, constCell, St.put_some, St.put_none, h1, h2, h4, h14, b2, b4, q34i, q34e, q34l]
    refine ⟨_, _, rfl, _, rfl, _, (F20_does _ N a0 a1  _ q33), _, rfl, ?_⟩
    simp only [flRV, outK, St.take, St.takeRVs, St.takeRV, retReg, St.put_some, St.put_none, List.map_cons, List.map_nil]
    refine hK _ ?_; clear hK K
    repeat (refine ropsD_ng rfl fun K hK => ?_; simp only [go_sem, reduceIte, Nat.reduceEqDiff, reduceCtorEq, Nat.reduceAdd, Nat.reduceMul, Nat.reduceLT, Nat.reduceLeDiff, Int.reduceToNat, Int.reduceLE, h1, h2, h4, b2, b4, q34i, q34e, q34l]; refine hK _ ?_; clear hK K)
    first | refine rops_nil ?_ | refine ropsD_nil ?_
    try simp only [exs, reduceIte, Nat.reduceEqDiff]
    refine hK30 _ ?_
    have h := Option.some.inj h
    subst h
    refine awp_ret ?_
    try simp only [exs, reduceIte, Nat.reduceEqDiff]
    refine fin_ret (vs := [.cell 4 47, .tmp 5]) Try.ntmps15 rfl (by simp [List.filter_cons, isOwn]) none ?_
    (simp only [resultsAre, resCell, loadRegs, regRV, go_sem, reduceIte, Nat.reduceEqDiff, reduceCtorEq, Nat.reduceAdd, Nat.reduceMul, Nat.reduceLT, Nat.reduceLeDiff, Int.reduceToNat, Int.reduceLE, fs_all, take_length_map, h1, h2, h4, h14, b2, b4, q34i, q34e, q34l] <;> rfl)
  first | refine rops_k ?_ | refine ropsD_k ?_
  repeat (refine rops_ng rfl fun K hK => ?_; simp only [go_sem, reduceIte, Nat.reduceEqDiff, reduceCtorEq, Nat.reduceAdd, Nat.reduceMul, Nat.reduceLT, Nat.reduceLeDiff, Int.reduceToNat, Int.reduceLE, h1]; refine hK _ ?_; clear hK K)
  refine rops_ng rfl fun K hK => ?_
  simp only [List.head?_cons, List.head?_nil, Option.map_some, Option.map_none, rops1, ropsD1, gtmp, gate, beq_self_eq_true, beq_t, beq_f, Bool.not_true, Bool.not_false, if_true, rOp, rOpD, calleeOf, regAVsOf, regAV, List.getElem?_toArray, List.getElem?_cons_zero, List.getElem?_cons_succ, Option.bind_some, upd_apply, reduceIte, Nat.reduceEqDiff, St.ev, constReg, constCell, St.put_some, St.put_none, h0, h1]
  refine .inl ⟨_, _, rfl, _, rfl, _, (F19_does _ N a0  _ q24), ?_⟩
  simp only [flRV, outK, St.take, St.takeRVs, St.takeRV, retReg, St.put_some, St.put_none, List.map_cons, List.map_nil]
  refine hK _ ?_; clear hK K
  repeat (refine rops_ng rfl fun K hK => ?_; simp only [go_sem, reduceIte, Nat.reduceEqDiff, reduceCtorEq, Nat.reduceAdd, Nat.reduceMul, Nat.reduceLT, Nat.reduceLeDiff, Int.reduceToNat, Int.reduceLE, h1]; refine hK _ ?_; clear hK K)
  rcases c35 : (x22) with _ | _
  · repeat (first | (refine rops_ng rfl fun K hK => ?_; simp only [go_sem, reduceIte, Nat.reduceEqDiff, reduceCtorEq, Nat.reduceAdd, Nat.reduceMul, Nat.reduceLT, Nat.reduceLeDiff, Int.reduceToNat, Int.reduceLE, h1, c35]; refine hK _ ?_; clear hK K) | (refine rops_on rfl rfl ?_ fun K hK => ?_; (focus (simp only [go_sem, reduceIte, Nat.reduceEqDiff, reduceCtorEq, Nat.reduceAdd, Nat.reduceMul, Nat.reduceLT, Nat.reduceLeDiff, Int.reduceToNat, Int.reduceLE, h1, c35]; done)); simp only [go_sem, reduceIte, Nat.reduceEqDiff, reduceCtorEq, Nat.reduceAdd, Nat.reduceMul, Nat.reduceLT, Nat.reduceLeDiff, Int.reduceToNat, Int.reduceLE, h1, c35]; refine hK _ ?_; clear hK K) | (refine rops_off rfl rfl ?_ ?_; (focus (simp only [go_sem, reduceIte, Nat.reduceEqDiff, reduceCtorEq, Nat.reduceAdd, Nat.reduceMul, Nat.reduceLT, Nat.reduceLeDiff, Int.reduceToNat, Int.reduceLE, h1, c35]; done))))
    first | refine rops_nil ?_ | refine ropsD_nil ?_
    try simp only [exs, reduceIte, Nat.reduceEqDiff]
    refine R27 _ ?_ ?_ ?_ ?_ ?_ ?_
    · simp only [upd_apply, reduceIte, Nat.reduceEqDiff, h1]
    · (first | (simp only [upd_apply, reduceIte, Nat.reduceEqDiff]; done) | (simp only [go_sem, reduceIte, Nat.reduceEqDiff, reduceCtorEq, Nat.reduceAdd, Nat.reduceMul, Nat.reduceLT, Nat.reduceLeDiff, Int.reduceToNat, Int.reduceLE, fs_all, take_length_map, h0, h1, c35] <;> rfl) | rfl)
    · (first | (simp only [upd_apply, reduceIte, Nat.reduceEqDiff]; done) | (simp only [go_sem, reduceIte, Nat.reduceEqDiff, reduceCtorEq, Nat.reduceAdd, Nat.reduceMul, Nat.reduceLT, Nat.reduceLeDiff, Int.reduceToNat, Int.reduceLE, fs_all, take_length_map, h0, h1, c35] <;> rfl) | rfl)
    · (first | (simp only [upd_apply, reduceIte, Nat.reduceEqDiff]; done) | (simp only [go_sem, reduceIte, Nat.reduceEqDiff, reduceCtorEq, Nat.reduceAdd, Nat.reduceMul, Nat.reduceLT, Nat.reduceLeDiff, Int.reduceToNat, Int.reduceLE, fs_all, take_length_map, h0, h1, c35] <;> rfl) | rfl)
    · (first | (simp only [upd_apply, reduceIte, Nat.reduceEqDiff]; done) | (simp only [go_sem, reduceIte, Nat.reduceEqDiff, reduceCtorEq, Nat.reduceAdd, Nat.reduceMul, Nat.reduceLT, Nat.reduceLeDiff, Int.reduceToNat, Int.reduceLE, fs_all, take_length_map, h0, h1, c35] <;> rfl) | rfl)
    · (first | (simp only [upd_apply, reduceIte, Nat.reduceEqDiff]; done) | (simp only [go_sem, reduceIte, Nat.reduceEqDiff, reduceCtorEq, Nat.reduceAdd, Nat.reduceMul, Nat.reduceLT, Nat.reduceLeDiff, Int.reduceToNat, Int.reduceLE, fs_all, take_length_map, h0, h1, c35] <;> rfl) | rfl)
  have q36 := q25 (by simp only [c35, fs_bool, beq_t, beq_f, beq_self_eq_true])
  repeat (first | (refine rops_ng rfl fun K hK => ?_; simp only [go_sem, reduceIte, Nat.reduceEqDiff, reduceCtorEq, Nat.reduceAdd, Nat.reduceMul, Nat.reduceLT, Nat.reduceLeDiff, Int.reduceToNat, Int.reduceLE, h1, c35]; refine hK _ ?_; clear hK K) | (refine rops_on rfl rfl ?_ fun K hK => ?_; (focus (simp only [go_sem, reduceIte, Nat.reduceEqDiff, reduceCtorEq, Nat.reduceAdd, Nat.reduceMul, Nat.reduceLT, Nat.reduceLeDiff, Int.reduceToNat, Int.reduceLE, h1, c35]; done)); simp only [go_sem, reduceIte, Nat.reduceEqDiff, reduceCtorEq, Nat.reduceAdd, Nat.reduceMul, Nat.reduceLT, Nat.reduceLeDiff, Int.reduceToNat, Int.reduceLE, h1, c35]; refine hK _ ?_; clear hK K) | (refine rops_off rfl rfl ?_ ?_; (focus (simp only [go_sem, reduceIte, Nat.reduceEqDiff, reduceCtorEq, Nat.reduceAdd, Nat.reduceMul, Nat.reduceLT, Nat.reduceLeDiff, Int.reduceToNat, Int.reduceLE, h1, c35]; done))))
  refine rops_on rfl rfl (by simp only [gate, beq_self_eq_true, beq_t, beq_f, Bool.not_true, Bool.not_false, Bool.true_eq_false, Bool.false_eq_true, upd_apply, reduceIte, Nat.reduceEqDiff, St.put_some, St.put_none, h0, h1, c35]) fun K hK => ?_
  simp only [List.head?_cons, List.head?_nil, Option.map_some, Option.map_none, rops1, ropsD1, gtmp, gate, beq_self_eq_true, beq_t, beq_f, Bool.not_true, Bool.not_false, if_true, rOp, rOpD, calleeOf, regAVsOf, regAV, List.getElem?_toArray, List.getElem?_cons_zero, List.getElem?_cons_succ, Option.bind_some, upd_apply, reduceIte, Nat.reduceEqDiff, St.ev, constReg, constCell, St.put_some, St.put_none, h0, h1, c35]
  refine .inl ⟨_, _, rfl, _, rfl, _, (F20_does _ N a0 a1  _ q36), ?_⟩
  simp only [flRV, outK, St.take, St.takeRVs, St.takeRV, retReg, St.put_some, St.put_none, List.map_cons, List.map_nil]
  refine hK _ ?_; clear hK K
  repeat (first | (refine rops_ng rfl fun K hK => ?_; simp only [go_sem, reduceIte, Nat.reduceEqDiff, reduceCtorEq, Nat.reduceAdd, Nat.reduceMul, Nat.reduceLT, Nat.reduceLeDiff, Int.reduceToNat, Int.reduceLE, h1, c35]; refine hK _ ?_; clear hK K) | (refine rops_on rfl rfl ?_ fun K hK => ?_; (focus (simp only [go_sem, reduceIte, Nat.reduceEqDiff, reduceCtorEq, Nat.reduceAdd, Nat.reduceMul, Nat.reduceLT, Nat.reduceLeDiff, Int.reduceToNat, Int.reduceLE, h1, c35]; done)); simp only [go_sem, reduceIte, Nat.reduceEqDiff, reduceCtorEq, Nat.reduceAdd, Nat.reduceMul, Nat.reduceLT, Nat.reduceLeDiff, Int.reduceToNat, Int.reduceLE, h1, c35]; refine hK _ ?_; clear hK K) | (refine rops_off rfl rfl ?_ ?_; (focus (simp only [go_sem, reduceIte, Nat.reduceEqDiff, reduceCtorEq, Nat.reduceAdd, Nat.reduceMul, Nat.reduceLT, Nat.reduceLeDiff, Int.reduceToNat, Int.reduceLE, h1, c35]; done))))
  first | refine rops_nil ?_ | refine ropsD_nil ?_
  try simp only [exs, reduceIte, Nat.reduceEqDiff]
  refine R27 _ ?_ ?_ ?_ ?_ ?_ ?_
  · simp only [upd_apply, reduceIte, Nat.reduceEqDiff, h1]
  · (first | (simp only [upd_apply, reduceIte, Nat.reduceEqDiff]; done) | (simp only [go_sem, reduceIte, Nat.reduceEqDiff, reduceCtorEq, Nat.reduceAdd, Nat.reduceMul, Nat.reduceLT, Nat.reduceLeDiff, Int.reduceToNat, Int.reduceLE, fs_all, take_length_map, h0, h1, c35] <;> rfl) | rfl)
  · (first | (simp only [upd_apply, reduceIte, Nat.reduceEqDiff]; done) | (simp only [go_sem, reduceIte, Nat.reduceEqDiff, reduceCtorEq, Nat.reduceAdd, Nat.reduceMul, Nat.reduceLT, Nat.reduceLeDiff, Int.reduceToNat, Int.reduceLE, fs_all, take_length_map, h0, h1, c35] <;> rfl) | rfl)
  · (first | (simp only [upd_apply, reduceIte, Nat.reduceEqDiff]; done) | (simp only [go_sem, reduceIte, Nat.reduceEqDiff, reduceCtorEq, Nat.reduceAdd, Nat.reduceMul, Nat.reduceLT, Nat.reduceLeDiff, Int.reduceToNat, Int.reduceLE, fs_all, take_length_map, h0, h1, c35] <;> rfl) | rfl)
  · (first | (simp only [upd_apply, reduceIte, Nat.reduceEqDiff]; done) | (simp only [go_sem, reduceIte, Nat.reduceEqDiff, reduceCtorEq, Nat.reduceAdd, Nat.reduceMul, Nat.reduceLT, Nat.reduceLeDiff, Int.reduceToNat, Int.reduceLE, fs_all, take_length_map, h0, h1, c35] <;> rfl) | rfl)
  · (first | (simp only [upd_apply, reduceIte, Nat.reduceEqDiff]; done) | (simp only [go_sem, reduceIte, Nat.reduceEqDiff, reduceCtorEq, Nat.reduceAdd, Nat.reduceMul, Nat.reduceLT, Nat.reduceLeDiff, Int.reduceToNat, Int.reduceLE, fs_all, take_length_map, h0, h1, c35] <;> rfl) | rfl)

end Go.Proofs.Mm

namespace Go.Proofs.Mm
open Go Go.Ev

-- topiary/arena.Find
def F17 (N : Nat) (a0 : Mdl) (a1 : Int) : Option (Nd × Bool) :=
  (F22 N a0).bind fun x23 =>
  bif !(x23 == 0) then
    some (Nd.mk 0 [] 0 [] [] [] [], false)
  else
    (F23 N a0 a1).bind fun x29 =>
    bif decide (x29 ≥ 0) then
      (getO a0.nodes x29).bind fun x34 =>
      (F24 N x34).bind fun x35 =>
      some (x35, true)
    else
      some (Nd.mk 0 [] 0 [] [] [] [], false)

set_option maxHeartbeats 4000000 in
theorem F17_does (E : Env) (N : Nat) (a0 : Mdl) (a1 : Int) (r : Nd × Bool) (h : F17 N a0 a1 = some r) : Does Try.prog E 17 [.agg [.fl (.int .i64 a0.next), .sl (List.map Nd.av a0.nodes)], .fl (.int .i64 a1)] (.ret [.v (.agg [.fl (.int .i64 r.1.id), .fl (bs r.1.concept), .fl (.int .i64 r.1.parent), .fl (bs r.1.role), .sl (List.map Prp.av r.1.props), .sl (List.map intAV r.1.kids), .sl (List.map Rf.av r.1.refs)]), .v (.fl (.bool r.2))]) := by
  refine does_run Try.func17 Try.ntmps17 rfl rfl (by simp) fun w0 I0 s hr hb => ?_
  have h0 := hr 0
  have h1 := hr 1
  simp only [List.map_cons, List.map_nil, List.getElem?_cons_zero, List.getElem?_cons_succ, Option.getD_some] at h0 h1
  unfold F17 at h
  refine awp_seq fun K20 hK20 => ?_
  refine awp_region rfl (by kernel_rfl) ?_
  first | refine rops_k ?_ | refine ropsD_k ?_
  repeat (refine rops_ng rfl fun K hK => ?_; simp only [go_sem, reduceIte, Nat.reduceEqDiff, reduceCtorEq, Nat.reduceAdd, Nat.reduceMul, Nat.reduceLT, Nat.reduceLeDiff, Int.reduceToNat, Int.reduceLE, h0]; refine hK _ ?_; clear hK K)
  first | refine rops_nil ?_ | refine ropsD_nil ?_
  try simp only [exs, reduceIte, Nat.reduceEqDiff]
  refine hK20 _ ?_
  refine awp_seq fun K21 hK21 => ?_
  refine awp_seq fun K22 hK22 => ?_
  obtain ⟨x23, q24, h⟩ := bind_some h
  refine awp_region rfl (by kernel_rfl) ?_
  first | refine rops_k ?_ | refine ropsD_k ?_
  repeat (refine rops_ng rfl fun K hK => ?_; simp only [go_sem, reduceIte, Nat.reduceEqDiff, reduceCtorEq, Nat.reduceAdd, Nat.reduceMul, Nat.reduceLT, Nat.reduceLeDiff, Int.reduceToNat, Int.reduceLE]; refine hK _ ?_; clear hK K)
  refine rops_ng rfl fun K hK => ?_
  simp only [List.head?_cons, List.head?_nil, Option.map_some, Option.map_none, rops1, ropsD1, gtmp, gate, beq_self_eq_true, beq_t, beq_f, Bool.not_true, Bool.not_false, if_true, rOp, rOpD, calleeOf, regAVsOf, regAV, List.getElem?_toArray, List.getElem?_cons_zero, List.getElem?_cons_succ, Option.bind_some, upd_apply, reduceIte, Nat.reduceEqDiff, St.ev, constReg, constCell, St.put_some, St.put_none, h0, h1]
  refine .inl ⟨_, _, rfl, _, rfl, _, (F22_does _ N a0  _ q24), ?_⟩
  simp only [flRV, outK, St.take, St.takeRVs, St.takeRV, retReg, St.put_some, St.put_none, List.map_cons, List.map_nil]
  refine hK _ ?_; clear hK K
  repeat (refine rops_ng rfl fun K hK => ?_; simp only [go_sem, reduceIte, Nat.reduceEqDiff, reduceCtorEq, Nat.reduceAdd, Nat.reduceMul, Nat.reduceLT, Nat.reduceLeDiff, Int.reduceToNat, Int.reduceLE]; refine hK _ ?_; clear hK K)
  first | refine rops_nil ?_ | refine ropsD_nil ?_
  try simp only [exs, reduceIte, Nat.reduceEqDiff]
  refine hK22 _ ?_
  refine awp_if (by kernel_rfl) (by (simp only [upd_apply, reduceIte, Nat.reduceEqDiff, St.ev, constReg, constCell, St.put_some, St.put_none, h0, h1] <;> rfl)) (fun hc => ?_) (fun hc => ?_)
  · have c25 : (!(x23 == 0)) = true := by first | exact hc | simpa using hc
    clear hc
    rw [c25] at h
    simp only [cond_true, cond_false] at h
    refine awp_seq fun K26 hK26 => ?_
    refine awp_region rfl (by kernel_rfl) ?_
    first | refine rops_k ?_ | refine ropsD_k ?_
    repeat (refine rops_ng rfl fun K hK => ?_; simp only [go_sem, reduceIte, Nat.reduceEqDiff, reduceCtorEq, Nat.reduceAdd, Nat.reduceMul, Nat.reduceLT, Nat.reduceLeDiff, Int.reduceToNat, Int.reduceLE]; refine hK _ ?_; clear hK K)
    first | refine rops_nil ?_ | refine ropsD_nil ?_
    try simp only [exs, reduceIte, Nat.reduceEqDiff]
    refine hK26 _ ?_
    have h := Option.some.inj h
    subst h
    refine awp_ret ?_
    try simp only [exs, reduceIte, Nat.reduceEqDiff]
    refine fin_ret (vs := [.cell 4 47, .tmp 5]) Try.ntmps17 rfl (by simp [List.filter_cons, isOwn]) none ?_
    (simp only [resultsAre, resCell, loadRegs, regRV, go_sem, reduceIte, Nat.reduceEqDiff, reduceCtorEq, Nat.reduceAdd, Nat.reduceMul, Nat.reduceLT, Nat.reduceLeDiff, Int.reduceToNat, Int.reduceLE, fs_all, take_length_map, h0, h1] <;> rfl)
  have c25 : (!(x23 == 0)) = false := by first | exact hc | simpa using hc
  clear hc
  rw [c25] at h
  simp only [cond_true, cond_false] at h
  refine awp_skip ?_
  try simp only [exs, reduceIte, Nat.reduceEqDiff]
  refine hK21 _ ?_
  refine awp_seq fun K27 hK27 => ?_
  refine awp_seq fun K28 hK28 => ?_
  obtain ⟨x29, q30, h⟩ := bind_some h
  refine awp_region rfl (by kernel_rfl) ?_
  first | refine rops_k ?_ | refine ropsD_k ?_
  repeat (refine rops_ng rfl fun K hK => ?_; simp only [go_sem, reduceIte, Nat.reduceEqDiff, reduceCtorEq, Nat.reduceAdd, Nat.reduceMul, Nat.reduceLT, Nat.reduceLeDiff, Int.reduceToNat, Int.reduceLE, h1]; refine hK _ ?_; clear hK K)
  refine rops_ng rfl fun K hK => ?_
  simp only [List.head?_cons, List.head?_nil, Option.map_some, Option.map_none, rops1, ropsD1, gtmp, gate, beq_self_eq_true, beq_t, beq_f, Bool.not_true, Bool.not_false, if_true, rOp, rOpD, calleeOf, regAVsOf, regAV, List.getElem?_toArray, List.getElem?_cons_zero, List.getElem?_cons_succ, Option.bind_some, upd_apply, reduceIte, Nat.reduceEqDiff, St.ev, constReg, constCell, St.put_some, St.put_none, h0, h1]
  refine .inl ⟨_, _, rfl, _, rfl, _, (F23_does _ N a0 a1  _ q30), ?_⟩
  simp only [flRV, outK, St.take, St.takeRVs, St.takeRV, retReg, St.put_some, St.put_none, List.map_cons, List.map_nil]
  refine hK _ ?_; clear hK K
  repeat (refine rops_ng rfl fun K hK => ?_; simp only [go_sem, reduceIte, Nat.reduceEqDiff, reduceCtorEq, Nat.reduceAdd, Nat.reduceMul, Nat.reduceLT, Nat.reduceLeDiff, Int.reduceToNat, Int.reduceLE, h1]; refine hK _ ?_; clear hK K)
  first | refine rops_nil ?_ | refine ropsD_nil ?_
  try simp only [exs, reduceIte, Nat.reduceEqDiff]
  refine hK28 _ ?_
  refine awp_seq fun K31 hK31 => ?_
  refine awp_region rfl (by kernel_rfl) ?_
  first | refine rops_k ?_ | refine ropsD_k ?_
  repeat (refine rops_ng rfl fun K hK => ?_; simp only [go_sem, reduceIte, Nat.reduceEqDiff, reduceCtorEq, Nat.reduceAdd, Nat.reduceMul, Nat.reduceLT, Nat.reduceLeDiff, Int.reduceToNat, Int.reduceLE]; refine hK _ ?_; clear hK K)
  first | refine rops_nil ?_ | refine ropsD_nil ?_
  try simp only [exs, reduceIte, Nat.reduceEqDiff]
  refine hK31 _ ?_
  refine awp_if (by kernel_rfl) (by (simp only [upd_apply, reduceIte, Nat.reduceEqDiff, St.ev, constReg, constCell, St.put_some, St.put_none, h0, h1] <;> rfl)) (fun hc => ?_) (fun hc => ?_)
  · have c32 : (decide (x29 ≥ 0)) = true := by first | exact hc | simpa using hc
    clear hc
    rw [c32] at h
    simp only [cond_true, cond_false] at h
    refine awp_seq fun K33 hK33 => ?_
    obtain ⟨x34, q36, h⟩ := bind_some h
    obtain ⟨q36i, q36e, q36l⟩ := getO_some q36
    obtain ⟨x35, q37, h⟩ := bind_some h
    refine awp_region rfl (by kernel_rfl) ?_
    first | refine rops_k ?_ | refine ropsD_k ?_
    repeat (refine rops_ng rfl fun K hK => ?_; simp only [go_sem, reduceIte, Nat.reduceEqDiff, reduceCtorEq, Nat.reduceAdd, Nat.reduceMul, Nat.reduceLT, Nat.reduceLeDiff, Int.reduceToNat, Int.reduceLE, q36i, q36e, q36l]; refine hK _ ?_; clear hK K)
    refine rops_ng rfl fun K hK => ?_
    simp only [List.head?_cons, List.head?_nil, Option.map_some, Option.map_none, rops1, ropsD1, gtmp, gate, beq_self_eq_true, beq_t, beq_f, Bool.not_true, Bool.not_false, if_true, rOp, rOpD, calleeOf, regAVsOf, regAV, List.getElem?_toArray, List.getElem?_cons_zero, List.getElem?_cons_succ, Option.bind_some, upd_apply, reduceIte, Nat.reduceEqDiff, St.ev, constReg, constCell, St.put_some, St.put_none, h0, h1, q36i, q36e, q36l]
    refine .inl ⟨_, _, rfl, _, rfl, _, (F24_does _ N x34  _ q37), ?_⟩
    simp only [flRV, outK, St.take, St.takeRVs, St.takeRV, retReg, St.put_some, St.put_none, List.map_cons, List.map_nil]
    refine hK _ ?_; clear hK K
    repeat (refine rops_ng rfl fun K hK => ?_; simp only [go_sem, reduceIte, Nat.reduceEqDiff, reduceCtorEq, Nat.reduceAdd, Nat.reduceMul, Nat.reduceLT, Nat.reduceLeDiff, Int.reduceToNat, Int.reduceLE, q36i, q36e, q36l]; refine hK _ ?_; clear hK K)
    first | refine rops_nil ?_ | refine ropsD_nil ?_
    try simp only [exs, reduceIte, Nat.reduceEqDiff]
    refine hK33 _ ?_
    have h := Option.some.inj h
    subst h
    refine awp_ret ?_
    try simp only [exs, reduceIte, Nat.reduceEqDiff]
    refine fin_ret (vs := [.cell 4 47, .tmp 5]) Try.ntmps17 rfl (by simp [List.filter_cons, isOwn]) none ?_
    (simp only [resultsAre, resCell, loadRegs, regRV, go_sem, reduceIte, Nat.reduceEqDiff, reduceCtorEq, Nat.reduceAdd, Nat.reduceMul, Nat.reduceLT, Nat.reduceLeDiff, Int.reduceToNat, Int.reduceLE, fs_all, take_length_map, h0, h1, q36i, q36e, q36l] <;> rfl)
  have c32 : (decide (x29 ≥ 0)) = false := by first | exact hc | simpa using hc
  clear hc
  rw [c32] at h
  simp only [cond_true, cond_false] at h
  refine awp_skip ?_
  try simp only [exs, reduceIte, Nat.reduceEqDiff]
  refine hK27 _ ?_
  refine awp_seq fun K38 hK38 => ?_
  refine awp_region rfl (by kernel_rfl) ?_
  first | refine rops_k ?_ | refine ropsD_k ?_
  repeat (refine rops_ng rfl fun K hK => ?_; simp only [go_sem, reduceIte, Nat.reduceEqDiff, reduceCtorEq, Nat.reduceAdd, Nat.reduceMul, Nat.reduceLT, Nat.reduceLeDiff, Int.reduceToNat, Int.reduceLE]; refine hK _ ?_; clear hK K)
  first | refine rops_nil ?_ | refine ropsD_nil ?_
  try simp only [exs, reduceIte, Nat.reduceEqDiff]
  refine hK38 _ ?_
  have h := Option.some.inj h
  subst h
  refine awp_ret ?_
  try simp only [exs, reduceIte, Nat.reduceEqDiff]
  refine fin_ret (vs := [.cell 4 47, .tmp 5]) Try.ntmps17 rfl (by simp [List.filter_cons, isOwn]) none ?_
  (simp only [resultsAre, resCell, loadRegs, regRV, go_sem, reduceIte, Nat.reduceEqDiff, reduceCtorEq, Nat.reduceAdd, Nat.reduceMul, Nat.reduceLT, Nat.reduceLeDiff, Int.reduceToNat, Int.reduceLE, fs_all, take_length_map, h0, h1] <;> rfl)

end Go.Proofs.Mm
