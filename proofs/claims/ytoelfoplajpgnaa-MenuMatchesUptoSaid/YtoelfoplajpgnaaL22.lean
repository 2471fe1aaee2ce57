import Derived.Test.YtoelfoplajpgnaaEvLift
import Derived.Test.YtoelfoplajpgnaaMmF
import Derived.Test.YtoelfoplajpgnaaL27
import Derived.Test.YtoelfoplajpgnaaL28
set_option linter.unusedVariables false
set_option linter.unusedSimpArgs false
set_option linter.unusedSectionVars false

namespace Go.Proofs.Mm
open Go Go.Ev

-- topiary/arena.Check
def F22_J1 (N : Nat) (a0 : Mdl) : Option (Int) :=
  (F28 N a0).bind fun x229 =>
  some x229

def F22_L1 (a0 : Mdl) (N : Nat) : Nat → Int → Int → Option (Int)
  | 0, _, _ => none
  | n277 + 1, p254, p255 =>
    bif decide (p255 < (a0.nodes.length : Int)) then
      (getO a0.nodes p255).bind fun x284 =>
      bindG (!((decide (x284.id ≤ p254)) || (decide (x284.id ≥ a0.next)))) (F27 N a0 x284) fun x288 =>
      bif ((decide (x284.id ≤ p254)) || (decide (x284.id ≥ a0.next))) || (!x288) then
        some 29
      else
        (F22_L1 a0 N n277) x284.id (IntKind.i64.wrap (p255 + 1))
    else
      F22_J1 N a0

def F22 (N : Nat) (a0 : Mdl) : Option (Int) :=
  bif ((decide (a0.next < 1)) || (decide (a0.next > 1048577))) || (decide ((a0.nodes.length : Int) > 4096)) then
    some 29
  else
    F22_L1 a0 N N 0 0

set_option maxHeartbeats 4000000 in
theorem F22_does (E : Env) (N : Nat) (a0 : Mdl) (r : Int) (h : F22 N a0 = some r) : Does Try.prog E 22 [.agg [.fl (.int .i64 a0.next), .sl (List.map Nd.av a0.nodes)]] (.ret [.v (.fl (.int .i64 r))]) := by
  refine does_run Try.func22 Try.ntmps22 rfl rfl (by simp) fun w0 I0 s hr hb => ?_
  have h0 := hr 0
  simp only [List.map_cons, List.map_nil, List.getElem?_cons_zero, List.getElem?_cons_succ, Option.getD_some] at h0
  unfold F22 at h
  refine awp_seq fun K151 hK151 => ?_
  refine awp_region rfl (by kernel_rfl) ?_
  first | refine rops_k ?_ | refine ropsD_k ?_
  repeat (refine rops_ng rfl fun K hK => ?_; simp only [go_sem, reduceIte, Nat.reduceEqDiff, reduceCtorEq, Nat.reduceAdd, Nat.reduceMul, Nat.reduceLT, Nat.reduceLeDiff, Int.reduceToNat, Int.reduceLE, h0]; refine hK _ ?_; clear hK K)
  first | refine rops_nil ?_ | refine ropsD_nil ?_
  try simp only [exs, reduceIte, Nat.reduceEqDiff]
  refine hK151 _ ?_
  refine awp_seq fun K152 hK152 => ?_
  refine awp_seq fun K153 hK153 => ?_
  refine awp_region rfl (by kernel_rfl) ?_
  have R155 : ∀ s154 : St, (s154.r 1 = .loc 1 (s154.g 1) 0 0 0) → (s154.r 19 = .val (.fl (.bool (((decide (a0.next < 1)) || (decide (a0.next > 1048577))) || (decide ((a0.nodes.length : Int) > 4096)))))) → (s154.b 1 = some (.cells [.val (.fl (.int .i64 a0.next)), .val (.sl (List.map Nd.av a0.nodes))])) → K153 s154 := by
    intro s154 h1 h19 b1
    refine hK153 _ ?_
    refine awp_if (by kernel_rfl) (by (simp only [upd_apply, reduceIte, Nat.reduceEqDiff, St.ev, constReg, constCell, St.put_some, St.put_none, h1, h19, b1] <;> rfl)) (fun hc => ?_) (fun hc => ?_)
    · have c156 : (((decide (a0.next < 1)) || (decide (a0.next > 1048577))) || (decide ((a0.nodes.length : Int) > 4096))) = true := by first | exact hc | simpa using hc
      clear hc
      rw [c156] at h
      simp only [cond_true, cond_false] at h
      refine awp_seq fun K157 hK157 => ?_
      refine awp_region rfl (by kernel_rfl) ?_
      first | refine rops_k ?_ | refine ropsD_k ?_
      repeat (refine rops_ng rfl fun K hK => ?_; simp only [go_sem, reduceIte, Nat.reduceEqDiff, reduceCtorEq, Nat.reduceAdd, Nat.reduceMul, Nat.reduceLT, Nat.reduceLeDiff, Int.reduceToNat, Int.reduceLE, b1]; refine hK _ ?_; clear hK K)
      first | refine rops_nil ?_ | refine ropsD_nil ?_
      try simp only [exs, reduceIte, Nat.reduceEqDiff]
      refine hK157 _ ?_
      have h := Option.some.inj h
      subst h
      refine awp_ret ?_
      try simp only [exs, reduceIte, Nat.reduceEqDiff]
      refine fin_ret (vs := [.tmp 2]) Try.ntmps22 rfl (by simp [List.filter_cons, isOwn]) none ?_
      (simp only [resultsAre, resCell, loadRegs, regRV, go_sem, reduceIte, Nat.reduceEqDiff, reduceCtorEq, Nat.reduceAdd, Nat.reduceMul, Nat.reduceLT, Nat.reduceLeDiff, Int.reduceToNat, Int.reduceLE, fs_all, take_length_map, h1, h19, b1] <;> rfl)
    have c156 : (((decide (a0.next < 1)) || (decide (a0.next > 1048577))) || (decide ((a0.nodes.length : Int) > 4096))) = false := by first | exact hc | simpa using hc
    clear hc
    rw [c156] at h
    simp only [cond_true, cond_false] at h
    refine awp_skip ?_
    try simp only [exs, reduceIte, Nat.reduceEqDiff]
    refine hK152 _ ?_
    refine awp_seq fun K158 hK158 => ?_
    refine awp_region rfl (by kernel_rfl) ?_
    first | refine rops_k ?_ | refine ropsD_k ?_
    repeat (refine rops_ng rfl fun K hK => ?_; simp only [go_sem, reduceIte, Nat.reduceEqDiff, reduceCtorEq, Nat.reduceAdd, Nat.reduceMul, Nat.reduceLT, Nat.reduceLeDiff, Int.reduceToNat, Int.reduceLE, b1]; refine hK _ ?_; clear hK K)
    first | refine rops_nil ?_ | refine ropsD_nil ?_
    try simp only [exs, reduceIte, Nat.reduceEqDiff]
    refine hK158 _ ?_
    refine awp_seq fun K159 hK159 => ?_
    have J1 : ∀  (s227 : St), (s227.r 1 = .loc 1 (s227.g 1) 0 0 0) → (s227.b 1 = some (.cells [.val (.fl (.int .i64 a0.next)), .val (.sl (List.map Nd.av a0.nodes))])) → F22_J1 N a0 = some r → K159 s227 := by
      intro  s227 h1 b1 h
      unfold F22_J1 at h
      refine hK159 _ ?_
      refine awp_seq fun K228 hK228 => ?_
      obtain ⟨x229, q230, h⟩ := bind_some h
      refine awp_region rfl (by kernel_rfl) ?_
      first | refine rops_k ?_ | refine ropsD_k ?_
      repeat (refine rops_ng rfl fun K hK => ?_; simp only [go_sem, reduceIte, Nat.reduceEqDiff, reduceCtorEq, Nat.reduceAdd, Nat.reduceMul, Nat.reduceLT, Nat.reduceLeDiff, Int.reduceToNat, Int.reduceLE, h1, b1]; refine hK _ ?_; clear hK K)
      refine rops_ng rfl fun K hK => ?_
      simp only [List.head?_cons, List.head?_nil, Option.map_some, Option.map_none, rops1, ropsD1, gtmp, gate, beq_self_eq_true, beq_t, beq_f, Bool.not_true, Bool.not_false, if_true, rOp, rOpD, calleeOf, regAVsOf, regAV, List.getElem?_toArray, List.getElem?_cons_zero, List.getElem?_cons_succ, Option.bind_some, upd_apply, reduceIte, Nat.reduceEqDiff, St.ev, constReg, constCell, St.put_some, St.put_none, h1, b1]
      refine .inl ⟨_, _, rfl, _, rfl, _, (F28_does _ N a0  _ q230), ?_⟩
      simp only [flRV, outK, St.take, St.takeRVs, St.takeRV, retReg, St.put_some, St.put_none, List.map_cons, List.map_nil]
      refine hK _ ?_; clear hK K
      repeat (refine rops_ng rfl fun K hK => ?_; simp only [go_sem, reduceIte, Nat.reduceEqDiff, reduceCtorEq, Nat.reduceAdd, Nat.reduceMul, Nat.reduceLT, Nat.reduceLeDiff, Int.reduceToNat, Int.reduceLE, h1, b1]; refine hK _ ?_; clear hK K)
      first | refine rops_nil ?_ | refine ropsD_nil ?_
      try simp only [exs, reduceIte, Nat.reduceEqDiff]
      refine hK228 _ ?_
      have h := Option.some.inj h
      subst h
      refine awp_ret ?_
      try simp only [exs, reduceIte, Nat.reduceEqDiff]
      refine fin_ret (vs := [.tmp 2]) Try.ntmps22 rfl (by simp [List.filter_cons, isOwn]) none ?_
      (simp only [resultsAre, resCell, loadRegs, regRV, go_sem, reduceIte, Nat.reduceEqDiff, reduceCtorEq, Nat.reduceAdd, Nat.reduceMul, Nat.reduceLT, Nat.reduceLeDiff, Int.reduceToNat, Int.reduceLE, fs_all, take_length_map, h1, b1] <;> rfl)
    refine awp_seq fun K231 hK231 => ?_
    refine awp_region rfl (by kernel_rfl) ?_
    first | refine rops_k ?_ | refine ropsD_k ?_
    repeat (refine rops_ng rfl fun K hK => ?_; simp only [go_sem, reduceIte, Nat.reduceEqDiff, reduceCtorEq, Nat.reduceAdd, Nat.reduceMul, Nat.reduceLT, Nat.reduceLeDiff, Int.reduceToNat, Int.reduceLE, h1, b1]; refine hK _ ?_; clear hK K)
    first | refine rops_nil ?_ | refine ropsD_nil ?_
    try simp only [exs, reduceIte, Nat.reduceEqDiff]
    refine hK231 _ ?_
    refine awp_block ?_
    refine awp_loopK (fun m s276 => ∃ (p254 : Int) (p255 : Int), s276.r 1 = .loc 1 (s276.g 1) 0 0 0 ∧ s276.r 3 = .val (.fl (.int .i64 p254)) ∧ s276.r 21 = .val (.sl (List.map Nd.av a0.nodes)) ∧ s276.r 22 = .val (.fl (.int .i64 (a0.nodes.length : Int))) ∧ s276.r 23 = .val (.fl (.int .i64 p255)) ∧ s276.b 1 = some (.cells [.val (.fl (.int .i64 a0.next)), .val (.sl (List.map Nd.av a0.nodes))]) ∧  F22_L1 a0 N m p254 p255 = some r) N ?_ ?_
    · refine ⟨0, 0, ?_, ?_, ?_, ?_, ?_, ?_, h⟩
      · simp only [upd_apply, reduceIte, Nat.reduceEqDiff, h1]
      · (first | (simp only [upd_apply, reduceIte, Nat.reduceEqDiff]; done) | (simp only [go_sem, reduceIte, Nat.reduceEqDiff, reduceCtorEq, Nat.reduceAdd, Nat.reduceMul, Nat.reduceLT, Nat.reduceLeDiff, Int.reduceToNat, Int.reduceLE, fs_all, take_length_map, h1, h19, b1] <;> rfl) | rfl)
      · (first | (simp only [upd_apply, reduceIte, Nat.reduceEqDiff]; done) | (simp only [go_sem, reduceIte, Nat.reduceEqDiff, reduceCtorEq, Nat.reduceAdd, Nat.reduceMul, Nat.reduceLT, Nat.reduceLeDiff, Int.reduceToNat, Int.reduceLE, fs_all, take_length_map, h1, h19, b1] <;> rfl) | rfl)
      · (first | (simp only [upd_apply, reduceIte, Nat.reduceEqDiff]; done) | (simp only [go_sem, reduceIte, Nat.reduceEqDiff, reduceCtorEq, Nat.reduceAdd, Nat.reduceMul, Nat.reduceLT, Nat.reduceLeDiff, Int.reduceToNat, Int.reduceLE, fs_all, take_length_map, h1, h19, b1] <;> rfl) | rfl)
      · (first | (simp only [upd_apply, reduceIte, Nat.reduceEqDiff]; done) | (simp only [go_sem, reduceIte, Nat.reduceEqDiff, reduceCtorEq, Nat.reduceAdd, Nat.reduceMul, Nat.reduceLT, Nat.reduceLeDiff, Int.reduceToNat, Int.reduceLE, fs_all, take_length_map, h1, h19, b1] <;> rfl) | rfl)
      · simp only [upd_apply, reduceIte, Nat.reduceEqDiff, b1]
    clear h
    intro m278 s276 hI K232 hK232
    obtain ⟨p254, p255, h1, h3, h21, h22, h23, b1, h⟩ := hI
    rcases m278 with _ | n277
    · simp only [F22_L1, reduceCtorEq] at h
    rw [F22_L1] at h
    refine awp_seq fun K279 hK279 => ?_
    refine awp_region rfl (by kernel_rfl) ?_
    first | refine rops_k ?_ | refine ropsD_k ?_
    repeat (refine rops_ng rfl fun K hK => ?_; simp only [go_sem, reduceIte, Nat.reduceEqDiff, reduceCtorEq, Nat.reduceAdd, Nat.reduceMul, Nat.reduceLT, Nat.reduceLeDiff, Int.reduceToNat, Int.reduceLE, h22, h23, b1]; refine hK _ ?_; clear hK K)
    first | refine rops_nil ?_ | refine ropsD_nil ?_
    try simp only [exs, reduceIte, Nat.reduceEqDiff]
    refine hK279 _ ?_
    refine awp_seq fun K280 hK280 => ?_
    refine awp_if (by kernel_rfl) (by (simp only [upd_apply, reduceIte, Nat.reduceEqDiff, St.ev, constReg, constCell, St.put_some, St.put_none, h1, h3, h21, h22, h23, b1] <;> rfl)) (fun hc => ?_) (fun hc => ?_)
    · have c281 : (decide (p255 < (a0.nodes.length : Int))) = true := by first | exact hc | simpa using hc
      clear hc
      rw [c281] at h
      simp only [cond_true, cond_false] at h
      refine awp_skip ?_
      try simp only [exs, reduceIte, Nat.reduceEqDiff]
      refine hK280 _ ?_
      refine awp_seq fun K282 hK282 => ?_
      refine awp_block ?_
      refine awp_seq fun K283 hK283 => ?_
      obtain ⟨x284, q285, h⟩ := bind_some h
      obtain ⟨q285i, q285e, q285l⟩ := getO_some q285
      refine awp_region rfl (by kernel_rfl) ?_
      first | refine rops_k ?_ | refine ropsD_k ?_
      repeat (refine rops_ng rfl fun K hK => ?_; simp only [go_sem, reduceIte, Nat.reduceEqDiff, reduceCtorEq, Nat.reduceAdd, Nat.reduceMul, Nat.reduceLT, Nat.reduceLeDiff, Int.reduceToNat, Int.reduceLE, h21, h23, b1, q285i, q285e, q285l]; refine hK _ ?_; clear hK K)
      first | refine rops_nil ?_ | refine ropsD_nil ?_
      try simp only [exs, reduceIte, Nat.reduceEqDiff]
      refine hK283 _ ?_
      refine awp_seq fun K286 hK286 => ?_
      refine awp_seq fun K287 hK287 => ?_
      obtain ⟨x288, q289, h⟩ := bindG_some h
      refine awp_region rfl (by kernel_rfl) ?_
      have R291 : ∀ s290 : St, (s290.r 1 = .loc 1 (s290.g 1) 0 0 0) → (s290.r 5 = .loc 5 (s290.g 5) 0 0 0) → (s290.r 21 = .val (.sl (List.map Nd.av a0.nodes))) → (s290.r 22 = .val (.fl (.int .i64 (a0.nodes.length : Int)))) → (s290.r 23 = .val (.fl (.int .i64 p255))) → (s290.r 43 = .val (.fl (.bool (((decide (x284.id ≤ p254)) || (decide (x284.id ≥ a0.next))) || (!x288))))) → (s290.b 1 = some (.cells [.val (.fl (.int .i64 a0.next)), .val (.sl (List.map Nd.av a0.nodes))])) → (s290.b 5 = some (.cells [.val (.fl (.int .i64 x284.id)), .val (.fl (bs x284.concept)), .val (.fl (.int .i64 x284.parent)), .val (.fl (bs x284.role)), .val (.sl (List.map Prp.av x284.props)), .val (.sl (List.map intAV x284.kids)), .val (.sl (List.map Rf.av x284.refs))])) → K287 s290 := by
        intro s290 h1 h5 h21 h22 h23 h43 b1 b5
        refine hK287 _ ?_
        refine awp_if (by kernel_rfl) (by (simp only [upd_apply, reduceIte, Nat.reduceEqDiff, St.ev, constReg, constCell, St.put_some, St.put_none, h1, h5, h21, h22, h23, h43, b1, b5, q285i, q285e, q285l] <;> rfl)) (fun hc => ?_) (fun hc => ?_)
        · have c292 : (((decide (x284.id ≤ p254)) || (decide (x284.id ≥ a0.next))) || (!x288)) = true := by first | exact hc | simpa using hc
          clear hc
          rw [c292] at h
          simp only [cond_true, cond_false] at h
          refine awp_seq fun K293 hK293 => ?_
          refine awp_region rfl (by kernel_rfl) ?_
          first | refine rops_k ?_ | refine ropsD_k ?_
          repeat (refine rops_ng rfl fun K hK => ?_; simp only [go_sem, reduceIte, Nat.reduceEqDiff, reduceCtorEq, Nat.reduceAdd, Nat.reduceMul, Nat.reduceLT, Nat.reduceLeDiff, Int.reduceToNat, Int.reduceLE, b1, b5]; refine hK _ ?_; clear hK K)
          first | refine rops_nil ?_ | refine ropsD_nil ?_
          try simp only [exs, reduceIte, Nat.reduceEqDiff]
          refine hK293 _ ?_
          have h := Option.some.inj h
          subst h
          refine awp_ret ?_
          try simp only [exs, reduceIte, Nat.reduceEqDiff]
          refine fin_ret (vs := [.tmp 2]) Try.ntmps22 rfl (by simp [List.filter_cons, isOwn]) none ?_
          (simp only [resultsAre, resCell, loadRegs, regRV, go_sem, reduceIte, Nat.reduceEqDiff, reduceCtorEq, Nat.reduceAdd, Nat.reduceMul, Nat.reduceLT, Nat.reduceLeDiff, Int.reduceToNat, Int.reduceLE, fs_all, take_length_map, h1, h5, h21, h22, h23, h43, b1, b5, q285i, q285e, q285l] <;> rfl)
        have c292 : (((decide (x284.id ≤ p254)) || (decide (x284.id ≥ a0.next))) || (!x288)) = false := by first | exact hc | simpa using hc
        clear hc
        rw [c292] at h
        simp only [cond_true, cond_false] at h
        refine awp_skip ?_
        try simp only [exs, reduceIte, Nat.reduceEqDiff]
        refine hK286 _ ?_
        refine awp_region rfl (by kernel_rfl) ?_
        first | refine rops_k ?_ | refine ropsD_k ?_
        repeat (refine rops_ng rfl fun K hK => ?_; simp only [go_sem, reduceIte, Nat.reduceEqDiff, reduceCtorEq, Nat.reduceAdd, Nat.reduceMul, Nat.reduceLT, Nat.reduceLeDiff, Int.reduceToNat, Int.reduceLE, h5, b1, b5, q285i, q285e, q285l]; refine hK _ ?_; clear hK K)
        first | refine rops_nil ?_ | refine ropsD_nil ?_
        try simp only [exs, reduceIte, Nat.reduceEqDiff]
        refine hK282 _ ?_
        refine awp_region rfl (by kernel_rfl) ?_
        first | refine rops_k ?_ | refine ropsD_k ?_
        repeat (refine rops_ng rfl fun K hK => ?_; simp only [go_sem, reduceIte, Nat.reduceEqDiff, reduceCtorEq, Nat.reduceAdd, Nat.reduceMul, Nat.reduceLT, Nat.reduceLeDiff, Int.reduceToNat, Int.reduceLE, h23, b1, b5, q285i, q285e, q285l]; refine hK _ ?_; clear hK K)
        first | refine rops_nil ?_ | refine ropsD_nil ?_
        try simp only [exs, reduceIte, Nat.reduceEqDiff]
        refine hK232 _ ⟨n277, Nat.lt_succ_self _, x284.id, (IntKind.i64.wrap (p255 + 1)), ?_, ?_, ?_, ?_, ?_, ?_, h⟩
        · simp only [upd_apply, reduceIte, Nat.reduceEqDiff, h1]
        · (first | (simp only [upd_apply, reduceIte, Nat.reduceEqDiff]; done) | (simp only [go_sem, reduceIte, Nat.reduceEqDiff, reduceCtorEq, Nat.reduceAdd, Nat.reduceMul, Nat.reduceLT, Nat.reduceLeDiff, Int.reduceToNat, Int.reduceLE, fs_all, take_length_map, h1, h5, h21, h22, h23, h43, b1, b5, q285i, q285e, q285l] <;> rfl) | rfl)
        · simp only [upd_apply, reduceIte, Nat.reduceEqDiff, h21]
        · simp only [upd_apply, reduceIte, Nat.reduceEqDiff, h22]
        · (first | (simp only [upd_apply, reduceIte, Nat.reduceEqDiff, h23]; done) | (simp only [go_sem, reduceIte, Nat.reduceEqDiff, reduceCtorEq, Nat.reduceAdd, Nat.reduceMul, Nat.reduceLT, Nat.reduceLeDiff, Int.reduceToNat, Int.reduceLE, fs_all, take_length_map, h1, h5, h21, h22, h23, h43, b1, b5, q285i, q285e, q285l] <;> rfl) | rfl)
        · simp only [upd_apply, reduceIte, Nat.reduceEqDiff, b1]
      first | refine rops_k ?_ | refine ropsD_k ?_
      repeat (refine rops_ng rfl fun K hK => ?_; simp only [go_sem, reduceIte, Nat.reduceEqDiff, reduceCtorEq, Nat.reduceAdd, Nat.reduceMul, Nat.reduceLT, Nat.reduceLeDiff, Int.reduceToNat, Int.reduceLE, h1, h3, b1, q285i, q285e, q285l]; refine hK _ ?_; clear hK K)
      rcases c294 : (decide (x284.id ≤ p254)) with _ | _
      · repeat (first | (refine rops_ng rfl fun K hK => ?_; simp only [go_sem, reduceIte, Nat.reduceEqDiff, reduceCtorEq, Nat.reduceAdd, Nat.reduceMul, Nat.reduceLT, Nat.reduceLeDiff, Int.reduceToNat, Int.reduceLE, h1, h3, b1, q285i, q285e, q285l, c294]; refine hK _ ?_; clear hK K) | (refine rops_on rfl rfl ?_ fun K hK => ?_; (focus (simp only [go_sem, reduceIte, Nat.reduceEqDiff, reduceCtorEq, Nat.reduceAdd, Nat.reduceMul, Nat.reduceLT, Nat.reduceLeDiff, Int.reduceToNat, Int.reduceLE, h1, h3, b1, q285i, q285e, q285l, c294]; done)); simp only [go_sem, reduceIte, Nat.reduceEqDiff, reduceCtorEq, Nat.reduceAdd, Nat.reduceMul, Nat.reduceLT, Nat.reduceLeDiff, Int.reduceToNat, Int.reduceLE, h1, h3, b1, q285i, q285e, q285l, c294]; refine hK _ ?_; clear hK K) | (refine rops_off rfl rfl ?_ ?_; (focus (simp only [go_sem, reduceIte, Nat.reduceEqDiff, reduceCtorEq, Nat.reduceAdd, Nat.reduceMul, Nat.reduceLT, Nat.reduceLeDiff, Int.reduceToNat, Int.reduceLE, h1, h3, b1, q285i, q285e, q285l, c294]; done))))
        rcases c295 : (decide (x284.id ≥ a0.next)) with _ | _
        · have q296 := q289 (by simp only [c294, c295, fs_bool, beq_t, beq_f, beq_self_eq_true])
          repeat (first | (refine rops_ng rfl fun K hK => ?_; simp only [go_sem, reduceIte, Nat.reduceEqDiff, reduceCtorEq, Nat.reduceAdd, Nat.reduceMul, Nat.reduceLT, Nat.reduceLeDiff, Int.reduceToNat, Int.reduceLE, h1, h3, b1, q285i, q285e, q285l, c294, c295]; refine hK _ ?_; clear hK K) | (refine rops_on rfl rfl ?_ fun K hK => ?_; (focus (simp only [go_sem, reduceIte, Nat.reduceEqDiff, reduceCtorEq, Nat.reduceAdd, Nat.reduceMul, Nat.reduceLT, Nat.reduceLeDiff, Int.reduceToNat, Int.reduceLE, h1, h3, b1, q285i, q285e, q285l, c294, c295]; done)); simp only [go_sem, reduceIte, Nat.reduceEqDiff, reduceCtorEq, Nat.reduceAdd, Nat.reduceMul, Nat.reduceLT, Nat.reduceLeDiff, Int.reduceToNat, Int.reduceLE, h1, h3, b1, q285i, q285e, q285l, c294, c295]; refine hK _ ?_; clear hK K) | (refine rops_off rfl rfl ?_ ?_; (focus (simp only [go_sem, reduceIte, Nat.reduceEqDiff, reduceCtorEq, Nat.reduceAdd, Nat.reduceMul, Nat.reduceLT, Nat.reduceLeDiff, Int.reduceToNat, Int.reduceLE, h1, h3, b1, q285i, q285e, q285l, c294, c295]; done))))
          refine rops_on rfl rfl (by simp only [gate, beq_self_eq_true, beq_t, beq_f, Bool.not_true, Bool.not_false, Bool.true_eq_false, Bool.false_eq_true, upd_apply, reduceIte, Nat.reduceEqDiff, St.put_some, St.put_none, h1, h3, h21, h22, h23, b1, q285i, q285e, q285l, c294, c295]) fun K hK => ?_
          simp only [List.head?_cons, List.head?_nil, Option.map_some, Option.map_none, rops1, ropsD1, gtmp, gate, beq_self_eq_true, beq_t, beq_f, Bool.not_true, Bool.not_false, if_true, rOp, rOpD, calleeOf, regAVsOf, regAV, List.getElem?_toArray, List.getElem?_cons_zero, List.getElem?_cons_succ, Option.bind_some, upd_apply, reduceIte, Nat.reduceEqDiff, St.ev, constReg, constCell, St.put_some, St.put_none, h1, h3, h21, h22, h23, b1, q285i, q285e, q285l, c294, c295]
          refine .inl ⟨_, _, rfl, _, rfl, _, (F27_does _ N a0 x284  _ q296), ?_⟩
          simp only [flRV, outK, St.take, St.takeRVs, St.takeRV, retReg, St.put_some, St.put_none, List.map_cons, List.map_nil]
          refine hK _ ?_; clear hK K
          repeat (first | (refine rops_ng rfl fun K hK => ?_; simp only [go_sem, reduceIte, Nat.reduceEqDiff, reduceCtorEq, Nat.reduceAdd, Nat.reduceMul, Nat.reduceLT, Nat.reduceLeDiff, Int.reduceToNat, Int.reduceLE, h1, h3, b1, q285i, q285e, q285l, c294, c295]; refine hK _ ?_; clear hK K) | (refine rops_on rfl rfl ?_ fun K hK => ?_; (focus (simp only [go_sem, reduceIte, Nat.reduceEqDiff, reduceCtorEq, Nat.reduceAdd, Nat.reduceMul, Nat.reduceLT, Nat.reduceLeDiff, Int.reduceToNat, Int.reduceLE, h1, h3, b1, q285i, q285e, q285l, c294, c295]; done)); simp only [go_sem, reduceIte, Nat.reduceEqDiff, reduceCtorEq, Nat.reduceAdd, Nat.reduceMul, Nat.reduceLT, Nat.reduceLeDiff, Int.reduceToNat, Int.reduceLE, h1, h3, b1, q285i, q285e, q285l, c294, c295]; refine hK _ ?_; clear hK K) | (refine rops_off rfl rfl ?_ ?_; (focus (simp only [go_sem, reduceIte, Nat.reduceEqDiff, reduceCtorEq, Nat.reduceAdd, Nat.reduceMul, Nat.reduceLT, Nat.reduceLeDiff, Int.reduceToNat, Int.reduceLE, h1, h3, b1, q285i, q285e, q285l, c294, c295]; done))))
          first | refine rops_nil ?_ | refine ropsD_nil ?_
          try simp only [exs, reduceIte, Nat.reduceEqDiff]
          refine R291 _ ?_ ?_ ?_ ?_ ?_ ?_ ?_ ?_
          · simp only [upd_apply, reduceIte, Nat.reduceEqDiff, h1]
          · (first | (simp only [upd_apply, reduceIte, Nat.reduceEqDiff]; done) | (simp only [go_sem, reduceIte, Nat.reduceEqDiff, reduceCtorEq, Nat.reduceAdd, Nat.reduceMul, Nat.reduceLT, Nat.reduceLeDiff, Int.reduceToNat, Int.reduceLE, fs_all, take_length_map, h1, h3, h21, h22, h23, b1, q285i, q285e, q285l, c294, c295] <;> rfl) | rfl)
          · simp only [upd_apply, reduceIte, Nat.reduceEqDiff, h21]
          · simp only [upd_apply, reduceIte, Nat.reduceEqDiff, h22]
          · simp only [upd_apply, reduceIte, Nat.reduceEqDiff, h23]
          · (first | (simp only [upd_apply, reduceIte, Nat.reduceEqDiff]; done) | (simp only [go_sem, reduceIte, Nat.reduceEqDiff, reduceCtorEq, Nat.reduceAdd, Nat.reduceMul, Nat.reduceLT, Nat.reduceLeDiff, Int.reduceToNat, Int.reduceLE, fs_all, take_length_map, h1, h3, h21, h22, h23, b1, q285i, q285e, q285l, c294, c295] <;> rfl) | rfl)
          · simp only [upd_apply, reduceIte, Nat.reduceEqDiff, b1]
          · (first | (simp only [upd_apply, reduceIte, Nat.reduceEqDiff]; done) | (simp only [go_sem, reduceIte, Nat.reduceEqDiff, reduceCtorEq, Nat.reduceAdd, Nat.reduceMul, Nat.reduceLT, Nat.reduceLeDiff, Int.reduceToNat, Int.reduceLE, fs_all, take_length_map, h1, h3, h21, h22, h23, b1, q285i, q285e, q285l, c294, c295] <;> rfl) | rfl)
        repeat (first | (refine rops_ng rfl fun K hK => ?_; simp only [go_sem, reduceIte, Nat.reduceEqDiff, reduceCtorEq, Nat.reduceAdd, Nat.reduceMul, Nat.reduceLT, Nat.reduceLeDiff, Int.reduceToNat, Int.reduceLE, h1, h3, b1, q285i, q285e, q285l, c294, c295]; refine hK _ ?_; clear hK K) | (refine rops_on rfl rfl ?_ fun K hK => ?_; (focus (simp only [go_sem, reduceIte, Nat.reduceEqDiff, reduceCtorEq, Nat.reduceAdd, Nat.reduceMul, Nat.reduceLT, Nat.reduceLeDiff, Int.reduceToNat, Int.reduceLE, h1, h3, b1, q285i, q285e, q285l, c294, c295]; done)); simp only [go_sem, reduceIte, Nat.reduceEqDiff, reduceCtorEq, Nat.reduceAdd, Nat.reduceMul, Nat.reduceLT, Nat.reduceLeDiff, Int.reduceToNat, Int.reduceLE, h1, h3, b1, q285i, q285e, q285l, c294, c295]; refine hK _ ?_; clear hK K) | (refine rops_off rfl rfl ?_ ?_; (focus (simp only [go_sem, reduceIte, Nat.reduceEqDiff, reduceCtorEq, Nat.reduceAdd, Nat.reduceMul, Nat.reduceLT, Nat.reduceLeDiff, Int.reduceToNat, Int.reduceLE, h1, h3, b1, q285i, q285e, q285l, c294, c295]; done))))
        first | refine rops_nil ?_ | refine ropsD_nil ?_
        try simp only [exs, reduceIte, Nat.reduceEqDiff]
        refine R291 _ ?_ ?_ ?_ ?_ ?_ ?_ ?_ ?_
        · simp only [upd_apply, reduceIte, Nat.reduceEqDiff, h1]
        · (first | (simp only [upd_apply, reduceIte, Nat.reduceEqDiff]; done) | (simp only [go_sem, reduceIte, Nat.reduceEqDiff, reduceCtorEq, Nat.reduceAdd, Nat.reduceMul, Nat.reduceLT, Nat.reduceLeDiff, Int.reduceToNat, Int.reduceLE, fs_all, take_length_map, h1, h3, h21, h22, h23, b1, q285i, q285e, q285l, c294, c295] <;> rfl) | rfl)
        · simp only [upd_apply, reduceIte, Nat.reduceEqDiff, h21]
        · simp only [upd_apply, reduceIte, Nat.reduceEqDiff, h22]
        · simp only [upd_apply, reduceIte, Nat.reduceEqDiff, h23]
        · (first | (simp only [upd_apply, reduceIte, Nat.reduceEqDiff]; done) | (simp only [go_sem, reduceIte, Nat.reduceEqDiff, reduceCtorEq, Nat.reduceAdd, Nat.reduceMul, Nat.reduceLT, Nat.reduceLeDiff, Int.reduceToNat, Int.reduceLE, fs_all, take_length_map, h1, h3, h21, h22, h23, b1, q285i, q285e, q285l, c294, c295] <;> rfl) | rfl)
        · simp only [upd_apply, reduceIte, Nat.reduceEqDiff, b1]
        · (first | (simp only [upd_apply, reduceIte, Nat.reduceEqDiff]; done) | (simp only [go_sem, reduceIte, Nat.reduceEqDiff, reduceCtorEq, Nat.reduceAdd, Nat.reduceMul, Nat.reduceLT, Nat.reduceLeDiff, Int.reduceToNat, Int.reduceLE, fs_all, take_length_map, h1, h3, h21, h22, h23, b1, q285i, q285e, q285l, c294, c295] <;> rfl) | rfl)
      repeat (first | (refine rops_ng rfl fun K hK => ?_; simp only [go_sem, reduceIte, Nat.reduceEqDiff, reduceCtorEq, Nat.reduceAdd, Nat.reduceMul, Nat.reduceLT, Nat.reduceLeDiff, Int.reduceToNat, Int.reduceLE, h1, h3, b1, q285i, q285e, q285l, c294]; refine hK _ ?_; clear hK K) | (refine rops_on rfl rfl ?_ fun K hK => ?_; (focus (simp only [go_sem, reduceIte, Nat.reduceEqDiff, reduceCtorEq, Nat.reduceAdd, Nat.reduceMul, Nat.reduceLT, Nat.reduceLeDiff, Int.reduceToNat, Int.reduceLE, h1, h3, b1, q285i, q285e, q285l, c294]; done)); simp only [go_sem, reduceIte, Nat.reduceEqDiff, reduceCtorEq, Nat.reduceAdd, Nat.reduceMul, Nat.reduceLT, Nat.reduceLeDiff, Int.reduceToNat, Int.reduceLE, h1, h3, b1, q285i, q285e, q285l, c294]; refine hK _ ?_; clear hK K) | (refine rops_off rfl rfl ?_ ?_; (focus (simp only [go_sem, reduceIte, Nat.reduceEqDiff, reduceCtorEq, Nat.reduceAdd, Nat.reduceMul, Nat.reduceLT, Nat.reduceLeDiff, Int.reduceToNat, Int.reduceLE, h1, h3, b1, q285i, q285e, q285l, c294]; done))))
      first | refine rops_nil ?_ | refine ropsD_nil ?_
      try simp only [exs, reduceIte, Nat.reduceEqDiff]
      refine R291 _ ?_ ?_ ?_ ?_ ?_ ?_ ?_ ?_
      · simp only [upd_apply, reduceIte, Nat.reduceEqDiff, h1]
      · (first | (simp only [upd_apply, reduceIte, Nat.reduceEqDiff]; done) | (simp only [go_sem, reduceIte, Nat.reduceEqDiff, reduceCtorEq, Nat.reduceAdd, Nat.reduceMul, Nat.reduceLT, Nat.reduceLeDiff, Int.reduceToNat, Int.reduceLE, fs_all, take_length_map, h1, h3, h21, h22, h23, b1, q285i, q285e, q285l, c294] <;> rfl) | rfl)
      · simp only [upd_apply, reduceIte, Nat.reduceEqDiff, h21]
      · simp only [upd_apply, reduceIte, Nat.reduceEqDiff, h22]
      · simp only [upd_apply, reduceIte, Nat.reduceEqDiff, h23]
      · (first | (simp only [upd_apply, reduceIte, Nat.reduceEqDiff]; done) | (simp only [go_sem, reduceIte, Nat.reduceEqDiff, reduceCtorEq, Nat.reduceAdd, Nat.reduceMul, Nat.reduceLT, Nat.reduceLeDiff, Int.reduceToNat, Int.reduceLE, fs_all, take_length_map, h1, h3, h21, h22, h23, b1, q285i, q285e, q285l, c294] <;> rfl) | rfl)
      · simp only [upd_apply, reduceIte, Nat.reduceEqDiff, b1]
      · (first | (simp only [upd_apply, reduceIte, Nat.reduceEqDiff]; done) | (simp only [go_sem, reduceIte, Nat.reduceEqDiff, reduceCtorEq, Nat.reduceAdd, Nat.reduceMul, Nat.reduceLT, Nat.reduceLeDiff, Int.reduceToNat, Int.reduceLE, fs_all, take_length_map, h1, h3, h21, h22, h23, b1, q285i, q285e, q285l, c294] <;> rfl) | rfl)
    have c281 : (decide (p255 < (a0.nodes.length : Int))) = false := by first | exact hc | simpa using hc
    clear hc
    rw [c281] at h
    simp only [cond_true, cond_false] at h
    refine awp_exit ?_
    try simp only [exs, reduceIte, Nat.reduceEqDiff]
    refine J1  _ ?_ ?_ h
    · simp only [upd_apply, reduceIte, Nat.reduceEqDiff, h1]
    · simp only [upd_apply, reduceIte, Nat.reduceEqDiff, b1]
  first | refine rops_k ?_ | refine ropsD_k ?_
  repeat (refine rops_ng rfl fun K hK => ?_; simp only [go_sem, reduceIte, Nat.reduceEqDiff, reduceCtorEq, Nat.reduceAdd, Nat.reduceMul, Nat.reduceLT, Nat.reduceLeDiff, Int.reduceToNat, Int.reduceLE]; refine hK _ ?_; clear hK K)
  rcases c297 : (decide (a0.next < 1)) with _ | _
  · repeat (first | (refine rops_ng rfl fun K hK => ?_; simp only [go_sem, reduceIte, Nat.reduceEqDiff, reduceCtorEq, Nat.reduceAdd, Nat.reduceMul, Nat.reduceLT, Nat.reduceLeDiff, Int.reduceToNat, Int.reduceLE, c297]; refine hK _ ?_; clear hK K) | (refine rops_on rfl rfl ?_ fun K hK => ?_; (focus (simp only [go_sem, reduceIte, Nat.reduceEqDiff, reduceCtorEq, Nat.reduceAdd, Nat.reduceMul, Nat.reduceLT, Nat.reduceLeDiff, Int.reduceToNat, Int.reduceLE, c297]; done)); simp only [go_sem, reduceIte, Nat.reduceEqDiff, reduceCtorEq, Nat.reduceAdd, Nat.reduceMul, Nat.reduceLT, Nat.reduceLeDiff, Int.reduceToNat, Int.reduceLE, c297]; refine hK _ ?_; clear hK K) | (refine rops_off rfl rfl ?_ ?_; (focus (simp only [go_sem, reduceIte, Nat.reduceEqDiff, reduceCtorEq, Nat.reduceAdd, Nat.reduceMul, Nat.reduceLT, Nat.reduceLeDiff, Int.reduceToNat, Int.reduceLE, c297]; done))))
    rcases c298 : (decide (a0.next > 1048577)) with _ | _
    · repeat (first | (refine rops_ng rfl fun K hK => ?_; simp only [go_sem, reduceIte, Nat.reduceEqDiff, reduceCtorEq, Nat.reduceAdd, Nat.reduceMul, Nat.reduceLT, Nat.reduceLeDiff, Int.reduceToNat, Int.reduceLE, c297, c298]; refine hK _ ?_; clear hK K) | (refine rops_on rfl rfl ?_ fun K hK => ?_; (focus (simp only [go_sem, reduceIte, Nat.reduceEqDiff, reduceCtorEq, Nat.reduceAdd, Nat.reduceMul, Nat.reduceLT, Nat.reduceLeDiff, Int.reduceToNat, Int.reduceLE, c297, c298]; done)); simp only [go_sem, reduceIte, Nat.reduceEqDiff, reduceCtorEq, Nat.reduceAdd, Nat.reduceMul, Nat.reduceLT, Nat.reduceLeDiff, Int.reduceToNat, Int.reduceLE, c297, c298]; refine hK _ ?_; clear hK K) | (refine rops_off rfl rfl ?_ ?_; (focus (simp only [go_sem, reduceIte, Nat.reduceEqDiff, reduceCtorEq, Nat.reduceAdd, Nat.reduceMul, Nat.reduceLT, Nat.reduceLeDiff, Int.reduceToNat, Int.reduceLE, c297, c298]; done))))
      first | refine rops_nil ?_ | refine ropsD_nil ?_
      try simp only [exs, reduceIte, Nat.reduceEqDiff]
      refine R155 _ ?_ ?_ ?_
      · (first | (simp only [upd_apply, reduceIte, Nat.reduceEqDiff]; done) | (simp only [go_sem, reduceIte, Nat.reduceEqDiff, reduceCtorEq, Nat.reduceAdd, Nat.reduceMul, Nat.reduceLT, Nat.reduceLeDiff, Int.reduceToNat, Int.reduceLE, fs_all, take_length_map, h0, c297, c298] <;> rfl) | rfl)
      · (first | (simp only [upd_apply, reduceIte, Nat.reduceEqDiff]; done) | (simp only [go_sem, reduceIte, Nat.reduceEqDiff, reduceCtorEq, Nat.reduceAdd, Nat.reduceMul, Nat.reduceLT, Nat.reduceLeDiff, Int.reduceToNat, Int.reduceLE, fs_all, take_length_map, h0, c297, c298] <;> rfl) | rfl)
      · (first | (simp only [upd_apply, reduceIte, Nat.reduceEqDiff]; done) | (simp only [go_sem, reduceIte, Nat.reduceEqDiff, reduceCtorEq, Nat.reduceAdd, Nat.reduceMul, Nat.reduceLT, Nat.reduceLeDiff, Int.reduceToNat, Int.reduceLE, fs_all, take_length_map, h0, c297, c298] <;> rfl) | rfl)
    repeat (first | (refine rops_ng rfl fun K hK => ?_; simp only [go_sem, reduceIte, Nat.reduceEqDiff, reduceCtorEq, Nat.reduceAdd, Nat.reduceMul, Nat.reduceLT, Nat.reduceLeDiff, Int.reduceToNat, Int.reduceLE, c297, c298]; refine hK _ ?_; clear hK K) | (refine rops_on rfl rfl ?_ fun K hK => ?_; (focus (simp only [go_sem, reduceIte, Nat.reduceEqDiff, reduceCtorEq, Nat.reduceAdd, Nat.reduceMul, Nat.reduceLT, Nat.reduceLeDiff, Int.reduceToNat, Int.reduceLE, c297, c298]; done)); simp only [go_sem, reduceIte, Nat.reduceEqDiff, reduceCtorEq, Nat.reduceAdd, Nat.reduceMul, Nat.reduceLT, Nat.reduceLeDiff, Int.reduceToNat, Int.reduceLE, c297, c298]; refine hK _ ?_; clear hK K) | (refine rops_off rfl rfl ?_ ?_; (focus (simp only [go_sem, reduceIte, Nat.reduceEqDiff, reduceCtorEq, Nat.reduceAdd, Nat.reduceMul, Nat.reduceLT, Nat.reduceLeDiff, Int.reduceToNat, Int.reduceLE, c297, c298]; done))))
    first | refine rops_nil ?_ | refine ropsD_nil ?_
    try simp only [exs, reduceIte, Nat.reduceEqDiff]
    refine R155 _ ?_ ?_ ?_
    · (first | (simp only [upd_apply, reduceIte, Nat.reduceEqDiff]; done) | (simp only [go_sem, reduceIte, Nat.reduceEqDiff, reduceCtorEq, Nat.reduceAdd, Nat.reduceMul, Nat.reduceLT, Nat.reduceLeDiff, Int.reduceToNat, Int.reduceLE, fs_all, take_length_map, h0, c297, c298] <;> rfl) | rfl)
    · (first | (simp only [upd_apply, reduceIte, Nat.reduceEqDiff]; done) | (simp only [go_sem, reduceIte, Nat.reduceEqDiff, reduceCtorEq, Nat.reduceAdd, Nat.reduceMul, Nat.reduceLT, Nat.reduceLeDiff, Int.reduceToNat, Int.reduceLE, fs_all, take_length_map, h0, c297, c298] <;> rfl) | rfl)
    · (first | (simp only [upd_apply, reduceIte, Nat.reduceEqDiff]; done) | (simp only [go_sem, reduceIte, Nat.reduceEqDiff, reduceCtorEq, Nat.reduceAdd, Nat.reduceMul, Nat.reduceLT, Nat.reduceLeDiff, Int.reduceToNat, Int.reduceLE, fs_all, take_length_map, h0, c297, c298] <;> rfl) | rfl)
  repeat (first | (refine rops_ng rfl fun K hK => ?_; simp only [go_sem, reduceIte, Nat.reduceEqDiff, reduceCtorEq, Nat.reduceAdd, Nat.reduceMul, Nat.reduceLT, Nat.reduceLeDiff, Int.reduceToNat, Int.reduceLE, c297]; refine hK _ ?_; clear hK K) | (refine rops_on rfl rfl ?_ fun K hK => ?_; (focus (simp only [go_sem, reduceIte, Nat.reduceEqDiff, reduceCtorEq, Nat.reduceAdd, Nat.reduceMul, Nat.reduceLT, Nat.reduceLeDiff, Int.reduceToNat, Int.reduceLE, c297]; done)); simp only [go_sem, reduceIte, Nat.reduceEqDiff, reduceCtorEq, Nat.reduceAdd, Nat.reduceMul, Nat.reduceLT, Nat.reduceLeDiff, Int.reduceToNat, Int.reduceLE, c297]; refine hK _ ?_; clear hK K) | (refine rops_off rfl rfl ?_ ?_; (focus (simp only [go_sem, reduceIte, Nat.reduceEqDiff, reduceCtorEq, Nat.reduceAdd, Nat.reduceMul, Nat.reduceLT, Nat.reduceLeDiff, Int.reduceToNat, Int.reduceLE, c297]; done))))
  first | refine rops_nil ?_ | refine ropsD_nil ?_
  try simp only [exs, reduceIte, Nat.reduceEqDiff]
  refine R155 _ ?_ ?_ ?_
  · (first | (simp only [upd_apply, reduceIte, Nat.reduceEqDiff]; done) | (simp only [go_sem, reduceIte, Nat.reduceEqDiff, reduceCtorEq, Nat.reduceAdd, Nat.reduceMul, Nat.reduceLT, Nat.reduceLeDiff, Int.reduceToNat, Int.reduceLE, fs_all, take_length_map, h0, c297] <;> rfl) | rfl)
  · (first | (simp only [upd_apply, reduceIte, Nat.reduceEqDiff]; done) | (simp only [go_sem, reduceIte, Nat.reduceEqDiff, reduceCtorEq, Nat.reduceAdd, Nat.reduceMul, Nat.reduceLT, Nat.reduceLeDiff, Int.reduceToNat, Int.reduceLE, fs_all, take_length_map, h0, c297] <;> rfl) | rfl)
  · (first | (simp only [upd_apply, reduceIte, Nat.reduceEqDiff]; done) | (simp only [go_sem, reduceIte, Nat.reduceEqDiff, reduceCtorEq, Nat.reduceAdd, Nat.reduceMul, Nat.reduceLT, Nat.reduceLeDiff, Int.reduceToNat, Int.reduceLE, fs_all, take_length_map, h0, c297] <;> rfl) | rfl)

end Go.Proofs.Mm
