import Derived.Test.YtoelfoplajpgnaaEvLift
import Derived.Test.YtoelfoplajpgnaaMmF
import Derived.Test.YtoelfoplajpgnaaL25
import Derived.Test.YtoelfoplajpgnaaL26
set_option linter.unusedVariables false
set_option linter.unusedSimpArgs false
set_option linter.unusedSectionVars false

namespace Go.Proofs.Mm
open Go Go.Ev

-- topiary/topiaryref02.Right
def F19_J1  : Option (Bool) :=
  some true

def F19_L1 (a0 : Mdl) (N : Nat) : Nat → Int → Option (Bool)
  | 0, _ => none
  | n436 + 1, p416 =>
    bif decide (p416 < (a0.nodes.length : Int)) then
      (getO a0.nodes p416).bind fun x443 =>
      (F25 N a0 x443).bind fun x444 =>
      bindG (!(!x444)) (F26 N a0 x443) fun x445 =>
      bif (!x444) || (!x445) then
        some false
      else
        (F19_L1 a0 N n436) (IntKind.i64.wrap (p416 + 1))
    else
      F19_J1 

def F19_J2 (a0 : Mdl) (N : Nat) : Option (Bool) :=
  F19_L1 a0 N N 0

def F19_L2 (a0 : Mdl) (N : Nat) : Nat → Int → Option (Bool)
  | 0, _ => none
  | n496 + 1, p476 =>
    bif decide (p476 < (a0.nodes.length : Int)) then
      (getO a0.nodes p476).bind fun x503 =>
      bindG (!((decide (x503.id < 1)) || (decide (x503.id ≥ a0.next))) && (decide (p476 > 0))) (getO a0.nodes (IntKind.i64.wrap (p476 - 1))) fun x504 =>
      bif ((decide (x503.id < 1)) || (decide (x503.id ≥ a0.next))) || ((decide (p476 > 0)) && (decide (x503.id ≤ x504.id))) then
        some false
      else
        (F19_L2 a0 N n496) (IntKind.i64.wrap (p476 + 1))
    else
      F19_J2 a0 N

def F19 (N : Nat) (a0 : Mdl) : Option (Bool) :=
  bif ((decide (a0.next < 1)) || (decide (a0.next > 1048577))) || (decide ((a0.nodes.length : Int) > 4096)) then
    some false
  else
    F19_L2 a0 N N 0

set_option maxHeartbeats 4000000 in
theorem F19_does (E : Env) (N : Nat) (a0 : Mdl) (r : Bool) (h : F19 N a0 = some r) : Does Try.prog E 19 [.agg [.fl (.int .i64 a0.next), .sl (List.map Nd.av a0.nodes)]] (.ret [.v (.fl (.bool r))]) := by
  refine does_run Try.func19 Try.ntmps19 rfl rfl (by simp) fun w0 I0 s hr hb => ?_
  have h0 := hr 0
  simp only [List.map_cons, List.map_nil, List.getElem?_cons_zero, List.getElem?_cons_succ, Option.getD_some] at h0
  unfold F19 at h
  refine awp_seq fun K261 hK261 => ?_
  refine awp_region rfl (by kernel_rfl) ?_
  first | refine rops_k ?_ | refine ropsD_k ?_
  repeat (refine rops_ng rfl fun K hK => ?_; simp only [go_sem, reduceIte, Nat.reduceEqDiff, reduceCtorEq, Nat.reduceAdd, Nat.reduceMul, Nat.reduceLT, Nat.reduceLeDiff, Int.reduceToNat, Int.reduceLE, h0]; refine hK _ ?_; clear hK K)
  first | refine rops_nil ?_ | refine ropsD_nil ?_
  try simp only [exs, reduceIte, Nat.reduceEqDiff]
  refine hK261 _ ?_
  refine awp_seq fun K262 hK262 => ?_
  refine awp_seq fun K263 hK263 => ?_
  refine awp_region rfl (by kernel_rfl) ?_
  have R265 : ∀ s264 : St, (s264.r 1 = .loc 1 (s264.g 1) 0 0 0) → (s264.r 18 = .val (.fl (.bool (((decide (a0.next < 1)) || (decide (a0.next > 1048577))) || (decide ((a0.nodes.length : Int) > 4096)))))) → (s264.b 1 = some (.cells [.val (.fl (.int .i64 a0.next)), .val (.sl (List.map Nd.av a0.nodes))])) → K263 s264 := by
    intro s264 h1 h18 b1
    refine hK263 _ ?_
    refine awp_if (by kernel_rfl) (by (simp only [upd_apply, reduceIte, Nat.reduceEqDiff, St.ev, constReg, constCell, St.put_some, St.put_none, h1, h18, b1] <;> rfl)) (fun hc => ?_) (fun hc => ?_)
    · have c266 : (((decide (a0.next < 1)) || (decide (a0.next > 1048577))) || (decide ((a0.nodes.length : Int) > 4096))) = true := by first | exact hc | simpa using hc
      clear hc
      rw [c266] at h
      simp only [cond_true, cond_false] at h
      refine awp_seq fun K267 hK267 => ?_
      refine awp_region rfl (by kernel_rfl) ?_
      first | refine rops_k ?_ | refine ropsD_k ?_
      repeat (refine rops_ng rfl fun K hK => ?_; simp only [go_sem, reduceIte, Nat.reduceEqDiff, reduceCtorEq, Nat.reduceAdd, Nat.reduceMul, Nat.reduceLT, Nat.reduceLeDiff, Int.reduceToNat, Int.reduceLE, b1]; refine hK _ ?_; clear hK K)
      first | refine rops_nil ?_ | refine ropsD_nil ?_
      try simp only [exs, reduceIte, Nat.reduceEqDiff]
      refine hK267 _ ?_
      have h := Option.some.inj h
      subst h
      refine awp_ret ?_
      try simp only [exs, reduceIte, Nat.reduceEqDiff]
      refine fin_ret (vs := [.tmp 2]) Try.ntmps19 rfl (by simp [List.filter_cons, isOwn]) none ?_
      (simp only [resultsAre, resCell, loadRegs, regRV, go_sem, reduceIte, Nat.reduceEqDiff, reduceCtorEq, Nat.reduceAdd, Nat.reduceMul, Nat.reduceLT, Nat.reduceLeDiff, Int.reduceToNat, Int.reduceLE, fs_all, take_length_map, h1, h18, b1] <;> rfl)
    have c266 : (((decide (a0.next < 1)) || (decide (a0.next > 1048577))) || (decide ((a0.nodes.length : Int) > 4096))) = false := by first | exact hc | simpa using hc
    clear hc
    rw [c266] at h
    simp only [cond_true, cond_false] at h
    refine awp_skip ?_
    try simp only [exs, reduceIte, Nat.reduceEqDiff]
    refine hK262 _ ?_
    refine awp_seq fun K268 hK268 => ?_
    have J2 : ∀  (s330 : St), (s330.r 1 = .loc 1 (s330.g 1) 0 0 0) → (s330.b 1 = some (.cells [.val (.fl (.int .i64 a0.next)), .val (.sl (List.map Nd.av a0.nodes))])) → F19_J2 a0 N = some r → K268 s330 := by
      intro  s330 h1 b1 h
      unfold F19_J2 at h
      refine hK268 _ ?_
      refine awp_seq fun K331 hK331 => ?_
      have J1 : ∀  (s393 : St), True → F19_J1  = some r → K331 s393 := by
        intro  s393 _ h
        unfold F19_J1 at h
        refine hK331 _ ?_
        refine awp_seq fun K394 hK394 => ?_
        refine awp_region rfl (by kernel_rfl) ?_
        first | refine rops_k ?_ | refine ropsD_k ?_
        repeat (refine rops_ng rfl fun K hK => ?_; simp only [go_sem, reduceIte, Nat.reduceEqDiff, reduceCtorEq, Nat.reduceAdd, Nat.reduceMul, Nat.reduceLT, Nat.reduceLeDiff, Int.reduceToNat, Int.reduceLE]; refine hK _ ?_; clear hK K)
        first | refine rops_nil ?_ | refine ropsD_nil ?_
        try simp only [exs, reduceIte, Nat.reduceEqDiff]
        refine hK394 _ ?_
        have h := Option.some.inj h
        subst h
        refine awp_ret ?_
        try simp only [exs, reduceIte, Nat.reduceEqDiff]
        refine fin_ret (vs := [.tmp 2]) Try.ntmps19 rfl (by simp [List.filter_cons, isOwn]) none ?_
        (simp only [resultsAre, resCell, loadRegs, regRV, go_sem, reduceIte, Nat.reduceEqDiff, reduceCtorEq, Nat.reduceAdd, Nat.reduceMul, Nat.reduceLT, Nat.reduceLeDiff, Int.reduceToNat, Int.reduceLE, fs_all, take_length_map] <;> rfl)
      refine awp_seq fun K395 hK395 => ?_
      refine awp_region rfl (by kernel_rfl) ?_
      first | refine rops_k ?_ | refine ropsD_k ?_
      repeat (refine rops_ng rfl fun K hK => ?_; simp only [go_sem, reduceIte, Nat.reduceEqDiff, reduceCtorEq, Nat.reduceAdd, Nat.reduceMul, Nat.reduceLT, Nat.reduceLeDiff, Int.reduceToNat, Int.reduceLE, b1]; refine hK _ ?_; clear hK K)
      first | refine rops_nil ?_ | refine ropsD_nil ?_
      try simp only [exs, reduceIte, Nat.reduceEqDiff]
      refine hK395 _ ?_
      refine awp_block ?_
      refine awp_loopK (fun m s435 => ∃ (p416 : Int), s435.r 1 = .loc 1 (s435.g 1) 0 0 0 ∧ s435.r 4 = .val (.fl (.int .i64 p416)) ∧ s435.b 1 = some (.cells [.val (.fl (.int .i64 a0.next)), .val (.sl (List.map Nd.av a0.nodes))]) ∧  F19_L1 a0 N m p416 = some r) N ?_ ?_
      · refine ⟨0, ?_, ?_, ?_, h⟩
        · simp only [upd_apply, reduceIte, Nat.reduceEqDiff, h1]
        · (first | (simp only [upd_apply, reduceIte, Nat.reduceEqDiff]; done) | (simp only [go_sem, reduceIte, Nat.reduceEqDiff, reduceCtorEq, Nat.reduceAdd, Nat.reduceMul, Nat.reduceLT, Nat.reduceLeDiff, Int.reduceToNat, Int.reduceLE, fs_all, take_length_map, h1, b1] <;> rfl) | rfl)
        · simp only [upd_apply, reduceIte, Nat.reduceEqDiff, b1]
      clear h
      intro m437 s435 hI K396 hK396
      obtain ⟨p416, h1, h4, b1, h⟩ := hI
      rcases m437 with _ | n436
      · simp only [F19_L1, reduceCtorEq] at h
      rw [F19_L1] at h
      refine awp_seq fun K438 hK438 => ?_
      refine awp_seq fun K439 hK439 => ?_
      refine awp_region rfl (by kernel_rfl) ?_
      first | refine rops_k ?_ | refine ropsD_k ?_
      repeat (refine rops_ng rfl fun K hK => ?_; simp only [go_sem, reduceIte, Nat.reduceEqDiff, reduceCtorEq, Nat.reduceAdd, Nat.reduceMul, Nat.reduceLT, Nat.reduceLeDiff, Int.reduceToNat, Int.reduceLE, h1, h4, b1]; refine hK _ ?_; clear hK K)
      first | refine rops_nil ?_ | refine ropsD_nil ?_
      try simp only [exs, reduceIte, Nat.reduceEqDiff]
      refine hK439 _ ?_
      refine awp_if (by kernel_rfl) (by (simp only [upd_apply, reduceIte, Nat.reduceEqDiff, St.ev, constReg, constCell, St.put_some, St.put_none, h1, h4, b1] <;> rfl)) (fun hc => ?_) (fun hc => ?_)
      · have c440 : (decide (p416 < (a0.nodes.length : Int))) = true := by first | exact hc | simpa using hc
        clear hc
        rw [c440] at h
        simp only [cond_true, cond_false] at h
        refine awp_skip ?_
        try simp only [exs, reduceIte, Nat.reduceEqDiff]
        refine hK438 _ ?_
        refine awp_seq fun K441 hK441 => ?_
        refine awp_block ?_
        refine awp_seq fun K442 hK442 => ?_
        obtain ⟨x443, q446, h⟩ := bind_some h
        obtain ⟨q446i, q446e, q446l⟩ := getO_some q446
        obtain ⟨x444, q447, h⟩ := bind_some h
        obtain ⟨x445, q448, h⟩ := bindG_some h
        refine awp_draw (by kernel_rfl) rfl (by kernel_rfl) (by kernel_rfl) ?_
        have R450 : ∀ s449 : St, (s449.r 1 = .loc 1 (s449.g 1) 0 0 0) → (s449.r 4 = .val (.fl (.int .i64 p416))) → (s449.r 88 = .val (.fl (.bool ((!x444) || (!x445))))) → (s449.b 1 = some (.cells [.val (.fl (.int .i64 a0.next)), .val (.sl (List.map Nd.av a0.nodes))])) → K442 s449 := by
          intro s449 h1 h4 h88 b1
          refine hK442 _ ?_
          refine awp_if (by kernel_rfl) (by (simp only [upd_apply, reduceIte, Nat.reduceEqDiff, St.ev, constReg, constCell, St.put_some, St.put_none, h1, h4, h88, b1, q446i, q446e, q446l] <;> rfl)) (fun hc => ?_) (fun hc => ?_)
          · have c451 : ((!x444) || (!x445)) = true := by first | exact hc | simpa using hc
            clear hc
            rw [c451] at h
            simp only [cond_true, cond_false] at h
            refine awp_seq fun K452 hK452 => ?_
            refine awp_region rfl (by kernel_rfl) ?_
            first | refine rops_k ?_ | refine ropsD_k ?_
            repeat (refine rops_ng rfl fun K hK => ?_; simp only [go_sem, reduceIte, Nat.reduceEqDiff, reduceCtorEq, Nat.reduceAdd, Nat.reduceMul, Nat.reduceLT, Nat.reduceLeDiff, Int.reduceToNat, Int.reduceLE, b1]; refine hK _ ?_; clear hK K)
            first | refine rops_nil ?_ | refine ropsD_nil ?_
            try simp only [exs, reduceIte, Nat.reduceEqDiff]
            refine hK452 _ ?_
            have h := Option.some.inj h
            subst h
            refine awp_ret ?_
            try simp only [exs, reduceIte, Nat.reduceEqDiff]
            refine fin_ret (vs := [.tmp 2]) Try.ntmps19 rfl (by simp [List.filter_cons, isOwn]) none ?_
            (simp only [resultsAre, resCell, loadRegs, regRV, go_sem, reduceIte, Nat.reduceEqDiff, reduceCtorEq, Nat.reduceAdd, Nat.reduceMul, Nat.reduceLT, Nat.reduceLeDiff, Int.reduceToNat, Int.reduceLE, fs_all, take_length_map, h1, h4, h88, b1, q446i, q446e, q446l] <;> rfl)
          have c451 : ((!x444) || (!x445)) = false := by first | exact hc | simpa using hc
          clear hc
          rw [c451] at h
          simp only [cond_true, cond_false] at h
          refine awp_skip ?_
          try simp only [exs, reduceIte, Nat.reduceEqDiff]
          refine hK441 _ ?_
          refine awp_region rfl (by kernel_rfl) ?_
          first | refine rops_k ?_ | refine ropsD_k ?_
          repeat (refine rops_ng rfl fun K hK => ?_; simp only [go_sem, reduceIte, Nat.reduceEqDiff, reduceCtorEq, Nat.reduceAdd, Nat.reduceMul, Nat.reduceLT, Nat.reduceLeDiff, Int.reduceToNat, Int.reduceLE, h4, b1, q446i, q446e, q446l]; refine hK _ ?_; clear hK K)
          first | refine rops_nil ?_ | refine ropsD_nil ?_
          try simp only [exs, reduceIte, Nat.reduceEqDiff]
          refine hK396 _ ⟨n436, Nat.lt_succ_self _, (IntKind.i64.wrap (p416 + 1)), ?_, ?_, ?_, h⟩
          · simp only [upd_apply, reduceIte, Nat.reduceEqDiff, h1]
          · (first | (simp only [upd_apply, reduceIte, Nat.reduceEqDiff, h4]; done) | (simp only [go_sem, reduceIte, Nat.reduceEqDiff, reduceCtorEq, Nat.reduceAdd, Nat.reduceMul, Nat.reduceLT, Nat.reduceLeDiff, Int.reduceToNat, Int.reduceLE, fs_all, take_length_map, h1, h4, h88, b1, q446i, q446e, q446l] <;> rfl) | rfl)
          · simp only [upd_apply, reduceIte, Nat.reduceEqDiff, b1]
        first | refine rops_k ?_ | refine ropsD_k ?_
        repeat (refine ropsD_ng rfl fun K hK => ?_; simp only [go_sem, reduceIte, Nat.reduceEqDiff, reduceCtorEq, Nat.reduceAdd, Nat.reduceMul, Nat.reduceLT, Nat.reduceLeDiff, Int.reduceToNat, Int.reduceLE, h1, h4, b1, q446i, q446e, q446l]; refine hK _ ?_; clear hK K)
        refine ropsD_ng rfl fun K hK => ?_
        simp only [List.head?_cons, List.head?_nil, Option.map_some, Option.map_none, rops1, ropsD1, gtmp, gate, beq_self_eq_true, beq_t, beq_f, Bool.not_true, Bool.not_false, if_true, rOp, rOpD, calleeOf, regAVsOf, regAV, List.getElem?_toArray, List.getElem?_cons_zero, List.getElem?_cons_succ, Option.bind_some, upd_apply, reduceIte, Nat.reduceEqDiff, St.ev, constReg, constCell, St.put_some, St.put_none, h1, h4, b1, q446i, q446e, q446l]
        refine ⟨_, _, rfl, _, rfl, _, (F25_does _ N a0 x443  _ q447), _, rfl, ?_⟩
        simp only [flRV, outK, St.take, St.takeRVs, St.takeRV, retReg, St.put_some, St.put_none, List.map_cons, List.map_nil]
        refine hK _ ?_; clear hK K
        repeat (refine ropsD_ng rfl fun K hK => ?_; simp only [go_sem, reduceIte, Nat.reduceEqDiff, reduceCtorEq, Nat.reduceAdd, Nat.reduceMul, Nat.reduceLT, Nat.reduceLeDiff, Int.reduceToNat, Int.reduceLE, h1, h4, b1, q446i, q446e, q446l]; refine hK _ ?_; clear hK K)
        rcases c453 : (x444) with _ | _
        · repeat (first | (refine ropsD_ng rfl fun K hK => ?_; simp only [go_sem, reduceIte, Nat.reduceEqDiff, reduceCtorEq, Nat.reduceAdd, Nat.reduceMul, Nat.reduceLT, Nat.reduceLeDiff, Int.reduceToNat, Int.reduceLE, h1, h4, b1, q446i, q446e, q446l, c453]; refine hK _ ?_; clear hK K) | (refine ropsD_on rfl rfl ?_ fun K hK => ?_; (focus (simp only [go_sem, reduceIte, Nat.reduceEqDiff, reduceCtorEq, Nat.reduceAdd, Nat.reduceMul, Nat.reduceLT, Nat.reduceLeDiff, Int.reduceToNat, Int.reduceLE, h1, h4, b1, q446i, q446e, q446l, c453]; done)); simp only [go_sem, reduceIte, Nat.reduceEqDiff, reduceCtorEq, Nat.reduceAdd, Nat.reduceMul, Nat.reduceLT, Nat.reduceLeDiff, Int.reduceToNat, Int.reduceLE, h1, h4, b1, q446i, q446e, q446l, c453]; refine hK _ ?_; clear hK K) | (refine ropsD_off rfl rfl ?_ ?_; (focus (simp only [go_sem, reduceIte, Nat.reduceEqDiff, reduceCtorEq, Nat.reduceAdd, Nat.reduceMul, Nat.reduceLT, Nat.reduceLeDiff, Int.reduceToNat, Int.reduceLE, h1, h4, b1, q446i, q446e, q446l, c453]; done))))
          first | refine rops_nil ?_ | refine ropsD_nil ?_
          try simp only [exs, reduceIte, Nat.reduceEqDiff]
          refine R450 _ ?_ ?_ ?_ ?_
          · simp only [upd_apply, reduceIte, Nat.reduceEqDiff, h1]
          · simp only [upd_apply, reduceIte, Nat.reduceEqDiff, h4]
          · (first | (simp only [upd_apply, reduceIte, Nat.reduceEqDiff]; done) | (simp only [go_sem, reduceIte, Nat.reduceEqDiff, reduceCtorEq, Nat.reduceAdd, Nat.reduceMul, Nat.reduceLT, Nat.reduceLeDiff, Int.reduceToNat, Int.reduceLE, fs_all, take_length_map, h1, h4, b1, q446i, q446e, q446l, c453] <;> rfl) | rfl)
          · simp only [upd_apply, reduceIte, Nat.reduceEqDiff, b1]
        have q454 := q448 (by simp only [c453, fs_bool, beq_t, beq_f, beq_self_eq_true])
        repeat (first | (refine ropsD_ng rfl fun K hK => ?_; simp only [go_sem, reduceIte, Nat.reduceEqDiff, reduceCtorEq, Nat.reduceAdd, Nat.reduceMul, Nat.reduceLT, Nat.reduceLeDiff, Int.reduceToNat, Int.reduceLE, h1, h4, b1, q446i, q446e, q446l, c453]; refine hK _ ?_; clear hK K) | (refine ropsD_on rfl rfl ?_ fun K hK => ?_; (focus (simp only [go_sem, reduceIte, Nat.reduceEqDiff, reduceCtorEq, Nat.reduceAdd, Nat.reduceMul, Nat.reduceLT, Nat.reduceLeDiff, Int.reduceToNat, Int.reduceLE, h1, h4, b1, q446i, q446e, q446l, c453]; done)); simp only [go_sem, reduceIte, Nat.reduceEqDiff, reduceCtorEq, Nat.reduceAdd, Nat.reduceMul, Nat.reduceLT, Nat.reduceLeDiff, Int.reduceToNat, Int.reduceLE, h1, h4, b1, q446i, q446e, q446l, c453]; refine hK _ ?_; clear hK K) | (refine ropsD_off rfl rfl ?_ ?_; (focus (simp only [go_sem, reduceIte, Nat.reduceEqDiff, reduceCtorEq, Nat.reduceAdd, Nat.reduceMul, Nat.reduceLT, Nat.reduceLeDiff, Int.reduceToNat, Int.reduceLE, h1, h4, b1, q446i, q446e, q446l, c453]; done))))
        refine ropsD_on rfl rfl (by simp only [gate, beq_self_eq_true, beq_t, beq_f, Bool.not_true, Bool.not_false, Bool.true_eq_false, Bool.false_eq_true, upd_apply, reduceIte, Nat.reduceEqDiff, St.put_some, St.put_none, h1, h4, b1, q446i, q446e, q446l, c453]) fun K hK => ?_
        simp only [List.head?_cons, List.head?_nil, Option.map_some, Option.map_none, rops1, ropsD1, gtmp, gate, beq_self_eq_true, beq_t, beq_f, Bool.not_true, Bool.not_false, if_true, rOp, rOpD, calleeOf, regAVsOf, regAV, List.getElem?_toArray, List.getElem?_cons_zero, List.getElem?_cons_succ, Option.bind_some, upd_apply, reduceIte, Nat.reduceEqDiff, St.ev, constReg, constCell, St.put_some, St.put_none, h1, h4, b1, q446i, q446e, q446l, c453]
        refine ⟨_, _, rfl, _, rfl, _, (F26_does _ N a0 x443  _ q454), _, rfl, ?_⟩
        simp only [flRV, outK, St.take, St.takeRVs, St.takeRV, retReg, St.put_some, St.put_none, List.map_cons, List.map_nil]
        refine hK _ ?_; clear hK K
        repeat (first | (refine ropsD_ng rfl fun K hK => ?_; simp only [go_sem, reduceIte, Nat.reduceEqDiff, reduceCtorEq, Nat.reduceAdd, Nat.reduceMul, Nat.reduceLT, Nat.reduceLeDiff, Int.reduceToNat, Int.reduceLE, h1, h4, b1, q446i, q446e, q446l, c453]; refine hK _ ?_; clear hK K) | (refine ropsD_on rfl rfl ?_ fun K hK => ?_; (focus (simp only [go_sem, reduceIte, Nat.reduceEqDiff, reduceCtorEq, Nat.reduceAdd, Nat.reduceMul, Nat.reduceLT, Nat.reduceLeDiff, Int.reduceToNat, Int.reduceLE, h1, h4, b1, q446i, q446e, q446l, c453]; done)); simp only [go_sem, reduceIte, Nat.reduceEqDiff, reduceCtorEq, Nat.reduceAdd, Nat.reduceMul, Nat.reduceLT, Nat.reduceLeDiff, Int.reduceToNat, Int.reduceLE, h1, h4, b1, q446i, q446e, q446l, c453]; refine hK _ ?_; clear hK K) | (refine ropsD_off rfl rfl ?_ ?_; (focus (simp only [go_sem, reduceIte, Nat.reduceEqDiff, reduceCtorEq, Nat.reduceAdd, Nat.reduceMul, Nat.reduceLT, Nat.reduceLeDiff, Int.reduceToNat, Int.reduceLE, h1, h4, b1, q446i, q446e, q446l, c453]; done))))
        first | refine rops_nil ?_ | refine ropsD_nil ?_
        try simp only [exs, reduceIte, Nat.reduceEqDiff]
        refine R450 _ ?_ ?_ ?_ ?_
        · simp only [upd_apply, reduceIte, Nat.reduceEqDiff, h1]
        · simp only [upd_apply, reduceIte, Nat.reduceEqDiff, h4]
        · (first | (simp only [upd_apply, reduceIte, Nat.reduceEqDiff]; done) | (simp only [go_sem, reduceIte, Nat.reduceEqDiff, reduceCtorEq, Nat.reduceAdd, Nat.reduceMul, Nat.reduceLT, Nat.reduceLeDiff, Int.reduceToNat, Int.reduceLE, fs_all, take_length_map, h1, h4, b1, q446i, q446e, q446l, c453] <;> rfl) | rfl)
        · simp only [upd_apply, reduceIte, Nat.reduceEqDiff, b1]
      have c440 : (decide (p416 < (a0.nodes.length : Int))) = false := by first | exact hc | simpa using hc
      clear hc
      rw [c440] at h
      simp only [cond_true, cond_false] at h
      refine awp_exit ?_
      try simp only [exs, reduceIte, Nat.reduceEqDiff]
      refine J1  _ trivial h
    refine awp_seq fun K455 hK455 => ?_
    refine awp_region rfl (by kernel_rfl) ?_
    first | refine rops_k ?_ | refine ropsD_k ?_
    repeat (refine rops_ng rfl fun K hK => ?_; simp only [go_sem, reduceIte, Nat.reduceEqDiff, reduceCtorEq, Nat.reduceAdd, Nat.reduceMul, Nat.reduceLT, Nat.reduceLeDiff, Int.reduceToNat, Int.reduceLE, b1]; refine hK _ ?_; clear hK K)
    first | refine rops_nil ?_ | refine ropsD_nil ?_
    try simp only [exs, reduceIte, Nat.reduceEqDiff]
    refine hK455 _ ?_
    refine awp_block ?_
    refine awp_loopK (fun m s495 => ∃ (p476 : Int), s495.r 1 = .loc 1 (s495.g 1) 0 0 0 ∧ s495.r 3 = .val (.fl (.int .i64 p476)) ∧ s495.b 1 = some (.cells [.val (.fl (.int .i64 a0.next)), .val (.sl (List.map Nd.av a0.nodes))]) ∧  F19_L2 a0 N m p476 = some r) N ?_ ?_
    · refine ⟨0, ?_, ?_, ?_, h⟩
      · simp only [upd_apply, reduceIte, Nat.reduceEqDiff, h1]
      · (first | (simp only [upd_apply, reduceIte, Nat.reduceEqDiff]; done) | (simp only [go_sem, reduceIte, Nat.reduceEqDiff, reduceCtorEq, Nat.reduceAdd, Nat.reduceMul, Nat.reduceLT, Nat.reduceLeDiff, Int.reduceToNat, Int.reduceLE, fs_all, take_length_map, h1, h18, b1] <;> rfl) | rfl)
      · simp only [upd_apply, reduceIte, Nat.reduceEqDiff, b1]
    clear h
    intro m497 s495 hI K456 hK456
    obtain ⟨p476, h1, h3, b1, h⟩ := hI
    rcases m497 with _ | n496
    · simp only [F19_L2, reduceCtorEq] at h
    rw [F19_L2] at h
    refine awp_seq fun K498 hK498 => ?_
    refine awp_seq fun K499 hK499 => ?_
    refine awp_region rfl (by kernel_rfl) ?_
    first | refine rops_k ?_ | refine ropsD_k ?_
    repeat (refine rops_ng rfl fun K hK => ?_; simp only [go_sem, reduceIte, Nat.reduceEqDiff, reduceCtorEq, Nat.reduceAdd, Nat.reduceMul, Nat.reduceLT, Nat.reduceLeDiff, Int.reduceToNat, Int.reduceLE, h1, h3, b1]; refine hK _ ?_; clear hK K)
    first | refine rops_nil ?_ | refine ropsD_nil ?_
    try simp only [exs, reduceIte, Nat.reduceEqDiff]
    refine hK499 _ ?_
    refine awp_if (by kernel_rfl) (by (simp only [upd_apply, reduceIte, Nat.reduceEqDiff, St.ev, constReg, constCell, St.put_some, St.put_none, h1, h3, b1] <;> rfl)) (fun hc => ?_) (fun hc => ?_)
    · have c500 : (decide (p476 < (a0.nodes.length : Int))) = true := by first | exact hc | simpa using hc
      clear hc
      rw [c500] at h
      simp only [cond_true, cond_false] at h
      refine awp_skip ?_
      try simp only [exs, reduceIte, Nat.reduceEqDiff]
      refine hK498 _ ?_
      refine awp_seq fun K501 hK501 => ?_
      refine awp_block ?_
      refine awp_seq fun K502 hK502 => ?_
      obtain ⟨x503, q505, h⟩ := bind_some h
      obtain ⟨q505i, q505e, q505l⟩ := getO_some q505
      obtain ⟨x504, q506, h⟩ := bindG_some h
      refine awp_draw (by kernel_rfl) rfl (by kernel_rfl) (by kernel_rfl) ?_
      have R508 : ∀ s507 : St, (s507.r 1 = .loc 1 (s507.g 1) 0 0 0) → (s507.r 3 = .val (.fl (.int .i64 p476))) → (s507.r 63 = .val (.fl (.bool (((decide (x503.id < 1)) || (decide (x503.id ≥ a0.next))) || ((decide (p476 > 0)) && (decide (x503.id ≤ x504.id))))))) → (s507.b 1 = some (.cells [.val (.fl (.int .i64 a0.next)), .val (.sl (List.map Nd.av a0.nodes))])) → K502 s507 := by
        intro s507 h1 h3 h63 b1
        refine hK502 _ ?_
        refine awp_if (by kernel_rfl) (by (simp only [upd_apply, reduceIte, Nat.reduceEqDiff, St.ev, constReg, constCell, St.put_some, St.put_none, h1, h3, h63, b1, q505i, q505e, q505l] <;> rfl)) (fun hc => ?_) (fun hc => ?_)
        · have c509 : (((decide (x503.id < 1)) || (decide (x503.id ≥ a0.next))) || ((decide (p476 > 0)) && (decide (x503.id ≤ x504.id)))) = true := by first | exact hc | simpa using hc
          clear hc
          rw [c509] at h
          simp only [cond_true, cond_false] at h
          refine awp_seq fun K510 hK510 => ?_
          refine awp_region rfl (by kernel_rfl) ?_
          first | refine rops_k ?_ | refine ropsD_k ?_
          repeat (refine rops_ng rfl fun K hK => ?_; simp only [go_sem, reduceIte, Nat.reduceEqDiff, reduceCtorEq, Nat.reduceAdd, Nat.reduceMul, Nat.reduceLT, Nat.reduceLeDiff, Int.reduceToNat, Int.reduceLE, b1]; refine hK _ ?_; clear hK K)
          first | refine rops_nil ?_ | refine ropsD_nil ?_
          try simp only [exs, reduceIte, Nat.reduceEqDiff]
          refine hK510 _ ?_
          have h := Option.some.inj h
          subst h
          refine awp_ret ?_
          try simp only [exs, reduceIte, Nat.reduceEqDiff]
          refine fin_ret (vs := [.tmp 2]) Try.ntmps19 rfl (by simp [List.filter_cons, isOwn]) none ?_
          (simp only [resultsAre, resCell, loadRegs, regRV, go_sem, reduceIte, Nat.reduceEqDiff, reduceCtorEq, Nat.reduceAdd, Nat.reduceMul, Nat.reduceLT, Nat.reduceLeDiff, Int.reduceToNat, Int.reduceLE, fs_all, take_length_map, h1, h3, h63, b1, q505i, q505e, q505l] <;> rfl)
        have c509 : (((decide (x503.id < 1)) || (decide (x503.id ≥ a0.next))) || ((decide (p476 > 0)) && (decide (x503.id ≤ x504.id)))) = false := by first | exact hc | simpa using hc
        clear hc
        rw [c509] at h
        simp only [cond_true, cond_false] at h
        refine awp_skip ?_
        try simp only [exs, reduceIte, Nat.reduceEqDiff]
        refine hK501 _ ?_
        refine awp_region rfl (by kernel_rfl) ?_
        first | refine rops_k ?_ | refine ropsD_k ?_
        repeat (refine rops_ng rfl fun K hK => ?_; simp only [go_sem, reduceIte, Nat.reduceEqDiff, reduceCtorEq, Nat.reduceAdd, Nat.reduceMul, Nat.reduceLT, Nat.reduceLeDiff, Int.reduceToNat, Int.reduceLE, h3, b1, q505i, q505e, q505l]; refine hK _ ?_; clear hK K)
        first | refine rops_nil ?_ | refine ropsD_nil ?_
        try simp only [exs, reduceIte, Nat.reduceEqDiff]
        refine hK456 _ ⟨n496, Nat.lt_succ_self _, (IntKind.i64.wrap (p476 + 1)), ?_, ?_, ?_, h⟩
        · simp only [upd_apply, reduceIte, Nat.reduceEqDiff, h1]
        · (first | (simp only [upd_apply, reduceIte, Nat.reduceEqDiff, h3]; done) | (simp only [go_sem, reduceIte, Nat.reduceEqDiff, reduceCtorEq, Nat.reduceAdd, Nat.reduceMul, Nat.reduceLT, Nat.reduceLeDiff, Int.reduceToNat, Int.reduceLE, fs_all, take_length_map, h1, h3, h63, b1, q505i, q505e, q505l] <;> rfl) | rfl)
        · simp only [upd_apply, reduceIte, Nat.reduceEqDiff, b1]
      first | refine rops_k ?_ | refine ropsD_k ?_
      repeat (refine ropsD_ng rfl fun K hK => ?_; simp only [go_sem, reduceIte, Nat.reduceEqDiff, reduceCtorEq, Nat.reduceAdd, Nat.reduceMul, Nat.reduceLT, Nat.reduceLeDiff, Int.reduceToNat, Int.reduceLE, h1, h3, b1, q505i, q505e, q505l]; refine hK _ ?_; clear hK K)
      rcases c511 : (decide (x503.id < 1)) with _ | _
      · repeat (first | (refine ropsD_ng rfl fun K hK => ?_; simp only [go_sem, reduceIte, Nat.reduceEqDiff, reduceCtorEq, Nat.reduceAdd, Nat.reduceMul, Nat.reduceLT, Nat.reduceLeDiff, Int.reduceToNat, Int.reduceLE, h1, h3, b1, q505i, q505e, q505l, c511]; refine hK _ ?_; clear hK K) | (refine ropsD_on rfl rfl ?_ fun K hK => ?_; (focus (simp only [go_sem, reduceIte, Nat.reduceEqDiff, reduceCtorEq, Nat.reduceAdd, Nat.reduceMul, Nat.reduceLT, Nat.reduceLeDiff, Int.reduceToNat, Int.reduceLE, h1, h3, b1, q505i, q505e, q505l, c511]; done)); simp only [go_sem, reduceIte, Nat.reduceEqDiff, reduceCtorEq, Nat.reduceAdd, Nat.reduceMul, Nat.reduceLT, Nat.reduceLeDiff, Int.reduceToNat, Int.reduceLE, h1, h3, b1, q505i, q505e, q505l, c511]; refine hK _ ?_; clear hK K) | (refine ropsD_off rfl rfl ?_ ?_; (focus (simp only [go_sem, reduceIte, Nat.reduceEqDiff, reduceCtorEq, Nat.reduceAdd, Nat.reduceMul, Nat.reduceLT, Nat.reduceLeDiff, Int.reduceToNat, Int.reduceLE, h1, h3, b1, q505i, q505e, q505l, c511]; done))))
        rcases c512 : (decide (x503.id ≥ a0.next)) with _ | _
        · repeat (first | (refine ropsD_ng rfl fun K hK => ?_; simp only [go_sem, reduceIte, Nat.reduceEqDiff, reduceCtorEq, Nat.reduceAdd, Nat.reduceMul, Nat.reduceLT, Nat.reduceLeDiff, Int.reduceToNat, Int.reduceLE, h1, h3, b1, q505i, q505e, q505l, c511, c512]; refine hK _ ?_; clear hK K) | (refine ropsD_on rfl rfl ?_ fun K hK => ?_; (focus (simp only [go_sem, reduceIte, Nat.reduceEqDiff, reduceCtorEq, Nat.reduceAdd, Nat.reduceMul, Nat.reduceLT, Nat.reduceLeDiff, Int.reduceToNat, Int.reduceLE, h1, h3, b1, q505i, q505e, q505l, c511, c512]; done)); simp only [go_sem, reduceIte, Nat.reduceEqDiff, reduceCtorEq, Nat.reduceAdd, Nat.reduceMul, Nat.reduceLT, Nat.reduceLeDiff, Int.reduceToNat, Int.reduceLE, h1, h3, b1, q505i, q505e, q505l, c511, c512]; refine hK _ ?_; clear hK K) | (refine ropsD_off rfl rfl ?_ ?_; (focus (simp only [go_sem, reduceIte, Nat.reduceEqDiff, reduceCtorEq, Nat.reduceAdd, Nat.reduceMul, Nat.reduceLT, Nat.reduceLeDiff, Int.reduceToNat, Int.reduceLE, h1, h3, b1, q505i, q505e, q505l, c511, c512]; done))))
          rcases c513 : (decide (p476 > 0)) with _ | _
          · repeat (first | (refine ropsD_ng rfl fun K hK => ?_; simp only [go_sem, reduceIte, Nat.reduceEqDiff, reduceCtorEq, Nat.reduceAdd, Nat.reduceMul, Nat.reduceLT, Nat.reduceLeDiff, Int.reduceToNat, Int.reduceLE, h1, h3, b1, q505i, q505e, q505l, c511, c512, c513]; refine hK _ ?_; clear hK K) | (refine ropsD_on rfl rfl ?_ fun K hK => ?_; (focus (simp only [go_sem, reduceIte, Nat.reduceEqDiff, reduceCtorEq, Nat.reduceAdd, Nat.reduceMul, Nat.reduceLT, Nat.reduceLeDiff, Int.reduceToNat, Int.reduceLE, h1, h3, b1, q505i, q505e, q505l, c511, c512, c513]; done)); simp only [go_sem, reduceIte, Nat.reduceEqDiff, reduceCtorEq, Nat.reduceAdd, Nat.reduceMul, Nat.reduceLT, Nat.reduceLeDiff, Int.reduceToNat, Int.reduceLE, h1, h3, b1, q505i, q505e, q505l, c511, c512, c513]; refine hK _ ?_; clear hK K) | (refine ropsD_off rfl rfl ?_ ?_; (focus (simp only [go_sem, reduceIte, Nat.reduceEqDiff, reduceCtorEq, Nat.reduceAdd, Nat.reduceMul, Nat.reduceLT, Nat.reduceLeDiff, Int.reduceToNat, Int.reduceLE, h1, h3, b1, q505i, q505e, q505l, c511, c512, c513]; done))))
            first | refine rops_nil ?_ | refine ropsD_nil ?_
            try simp only [exs, reduceIte, Nat.reduceEqDiff]
            refine R508 _ ?_ ?_ ?_ ?_
            · simp only [upd_apply, reduceIte, Nat.reduceEqDiff, h1]
            · simp only [upd_apply, reduceIte, Nat.reduceEqDiff, h3]
            · (first | (simp only [upd_apply, reduceIte, Nat.reduceEqDiff]; done) | (simp only [go_sem, reduceIte, Nat.reduceEqDiff, reduceCtorEq, Nat.reduceAdd, Nat.reduceMul, Nat.reduceLT, Nat.reduceLeDiff, Int.reduceToNat, Int.reduceLE, fs_all, take_length_map, h1, h3, b1, q505i, q505e, q505l, c511, c512, c513] <;> rfl) | rfl)
            · simp only [upd_apply, reduceIte, Nat.reduceEqDiff, b1]
          have q514 := q506 (by simp only [c511, c512, c513, fs_bool, beq_t, beq_f, beq_self_eq_true])
          obtain ⟨q514i, q514e, q514l⟩ := getO_some q514
          repeat (first | (refine ropsD_ng rfl fun K hK => ?_; simp only [go_sem, reduceIte, Nat.reduceEqDiff, reduceCtorEq, Nat.reduceAdd, Nat.reduceMul, Nat.reduceLT, Nat.reduceLeDiff, Int.reduceToNat, Int.reduceLE, h1, h3, b1, q505i, q505e, q505l, q514i, q514e, q514l, c511, c512, c513]; refine hK _ ?_; clear hK K) | (refine ropsD_on rfl rfl ?_ fun K hK => ?_; (focus (simp only [go_sem, reduceIte, Nat.reduceEqDiff, reduceCtorEq, Nat.reduceAdd, Nat.reduceMul, Nat.reduceLT, Nat.reduceLeDiff, Int.reduceToNat, Int.reduceLE, h1, h3, b1, q505i, q505e, q505l, q514i, q514e, q514l, c511, c512, c513]; done)); simp only [go_sem, reduceIte, Nat.reduceEqDiff, reduceCtorEq, Nat.reduceAdd, Nat.reduceMul, Nat.reduceLT, Nat.reduceLeDiff, Int.reduceToNat, Int.reduceLE, h1, h3, b1, q505i, q505e, q505l, q514i, q514e, q514l, c511, c512, c513]; refine hK _ ?_; clear hK K) | (refine ropsD_off rfl rfl ?_ ?_; (focus (simp only [go_sem, reduceIte, Nat.reduceEqDiff, reduceCtorEq, Nat.reduceAdd, Nat.reduceMul, Nat.reduceLT, Nat.reduceLeDiff, Int.reduceToNat, Int.reduceLE, h1, h3, b1, q505i, q505e, q505l, q514i, q514e, q514l, c511, c512, c513]; done))))
          first | refine rops_nil ?_ | refine ropsD_nil ?_
          try simp only [exs, reduceIte, Nat.reduceEqDiff]
          refine R508 _ ?_ ?_ ?_ ?_
          · simp only [upd_apply, reduceIte, Nat.reduceEqDiff, h1]
          · simp only [upd_apply, reduceIte, Nat.reduceEqDiff, h3]
          · (first | (simp only [upd_apply, reduceIte, Nat.reduceEqDiff]; done) | (simp only [go_sem, reduceIte, Nat.reduceEqDiff, reduceCtorEq, Nat.reduceAdd, Nat.reduceMul, Nat.reduceLT, Nat.reduceLeDiff, Int.reduceToNat, Int.reduceLE, fs_all, take_length_map, h1, h3, b1, q505i, q505e, q505l, q514i, q514e, q514l, c511, c512, c513] <;> rfl) | rfl)
          · simp only [upd_apply, reduceIte, Nat.reduceEqDiff, b1]
        repeat (first | (refine ropsD_ng rfl fun K hK => ?_; simp only [go_sem, reduceIte, Nat.reduceEqDiff, reduceCtorEq, Nat.reduceAdd, Nat.reduceMul, Nat.reduceLT, Nat.reduceLeDiff, Int.reduceToNat, Int.reduceLE, h1, h3, b1, q505i, q505e, q505l, c511, c512]; refine hK _ ?_; clear hK K) | (refine ropsD_on rfl rfl ?_ fun K hK => ?_; (focus (simp only [go_sem, reduceIte, Nat.reduceEqDiff, reduceCtorEq, Nat.reduceAdd, Nat.reduceMul, Nat.reduceLT, Nat.reduceLeDiff, Int.reduceToNat, Int.reduceLE, h1, h3, b1, q505i, q505e, q505l, c511, c512]; done)); simp only [go_sem, reduceIte, Nat.reduceEqDiff, reduceCtorEq, Nat.reduceAdd, Nat.reduceMul, Nat.reduceLT, Nat.reduceLeDiff, Int.reduceToNat, Int.reduceLE, h1, h3, b1, q505i, q505e, q505l, c511, c512]; refine hK _ ?_; clear hK K) | (refine ropsD_off rfl rfl ?_ ?_; (focus (simp only [go_sem, reduceIte, Nat.reduceEqDiff, reduceCtorEq, Nat.reduceAdd, Nat.reduceMul, Nat.reduceLT, Nat.reduceLeDiff, Int.reduceToNat, Int.reduceLE, h1, h3, b1, q505i, q505e, q505l, c511, c512]; done))))
        first | refine rops_nil ?_ | refine ropsD_nil ?_
        try simp only [exs, reduceIte, Nat.reduceEqDiff]
        refine R508 _ ?_ ?_ ?_ ?_
        · simp only [upd_apply, reduceIte, Nat.reduceEqDiff, h1]
        · simp only [upd_apply, reduceIte, Nat.reduceEqDiff, h3]
        · (first | (simp only [upd_apply, reduceIte, Nat.reduceEqDiff]; done) | (simp only [go_sem, reduceIte, Nat.reduceEqDiff, reduceCtorEq, Nat.reduceAdd, Nat.reduceMul, Nat.reduceLT, Nat.reduceLeDiff, Int.reduceToNat, Int.reduceLE, fs_all, take_length_map, h1, h3, b1, q505i, q505e, q505l, c511, c512] <;> rfl) | rfl)
        · simp only [upd_apply, reduceIte, Nat.reduceEqDiff, b1]
      repeat (first | (refine ropsD_ng rfl fun K hK => ?_; simp only [go_sem, reduceIte, Nat.reduceEqDiff, reduceCtorEq, Nat.reduceAdd, Nat.reduceMul, Nat.reduceLT, Nat.reduceLeDiff, Int.reduceToNat, Int.reduceLE, h1, h3, b1, q505i, q505e, q505l, c511]; refine hK _ ?_; clear hK K) | (refine ropsD_on rfl rfl ?_ fun K hK => ?_; (focus (simp only [go_sem, reduceIte, Nat.reduceEqDiff, reduceCtorEq, Nat.reduceAdd, Nat.reduceMul, Nat.reduceLT, Nat.reduceLeDiff, Int.reduceToNat, Int.reduceLE, h1, h3, b1, q505i, q505e, q505l, c511]; done)); simp only [go_sem, reduceIte, Nat.reduceEqDiff, reduceCtorEq, Nat.reduceAdd, Nat.reduceMul, Nat.reduceLT, Nat.reduceLeDiff, Int.reduceToNat, Int.reduceLE, h1, h3, b1, q505i, q505e, q505l, c511]; refine hK _ ?_; clear hK K) | (refine ropsD_off rfl rfl ?_ ?_; (focus (simp only [go_sem, reduceIte, Nat.reduceEqDiff, reduceCtorEq, Nat.reduceAdd, Nat.reduceMul, Nat.reduceLT, Nat.reduceLeDiff, Int.reduceToNat, Int.reduceLE, h1, h3, b1, q505i, q505e, q505l, c511]; done))))
      first | refine rops_nil ?_ | refine ropsD_nil ?_
      try simp only [exs, reduceIte, Nat.reduceEqDiff]
      refine R508 _ ?_ ?_ ?_ ?_
      · simp only [upd_apply, reduceIte, Nat.reduceEqDiff, h1]
      · simp only [upd_apply, reduceIte, Nat.reduceEqDiff, h3]
      · (first | (simp only [upd_apply, reduceIte, Nat.reduceEqDiff]; done) | (simp only [go_sem, reduceIte, Nat.reduceEqDiff, reduceCtorEq, Nat.reduceAdd, Nat.reduceMul, Nat.reduceLT, Nat.reduceLeDiff, Int.reduceToNat, Int.reduceLE, fs_all, take_length_map, h1, h3, b1, q505i, q505e, q505l, c511] <;> rfl) | rfl)
      · simp only [upd_apply, reduceIte, Nat.reduceEqDiff, b1]
    have c500 : (decide (p476 < (a0.nodes.length : Int))) = false := by first | exact hc | simpa using hc
    clear hc
    rw [c500] at h
    simp only [cond_true, cond_false] at h
    refine awp_exit ?_
    try simp only [exs, reduceIte, Nat.reduceEqDiff]
    refine J2  _ ?_ ?_ h
    · simp only [upd_apply, reduceIte, Nat.reduceEqDiff, h1]
    · simp only [upd_apply, reduceIte, Nat.reduceEqDiff, b1]
  first | refine rops_k ?_ | refine ropsD_k ?_
  repeat (refine rops_ng rfl fun K hK => ?_; simp only [go_sem, reduceIte, Nat.reduceEqDiff, reduceCtorEq, Nat.reduceAdd, Nat.reduceMul, Nat.reduceLT, Nat.reduceLeDiff, Int.reduceToNat, Int.reduceLE]; refine hK _ ?_; clear hK K)
  rcases c515 : (decide (a0.next < 1)) with _ | _
  · repeat (first | (refine rops_ng rfl fun K hK => ?_; simp only [go_sem, reduceIte, Nat.reduceEqDiff, reduceCtorEq, Nat.reduceAdd, Nat.reduceMul, Nat.reduceLT, Nat.reduceLeDiff, Int.reduceToNat, Int.reduceLE, c515]; refine hK _ ?_; clear hK K) | (refine rops_on rfl rfl ?_ fun K hK => ?_; (focus (simp only [go_sem, reduceIte, Nat.reduceEqDiff, reduceCtorEq, Nat.reduceAdd, Nat.reduceMul, Nat.reduceLT, Nat.reduceLeDiff, Int.reduceToNat, Int.reduceLE, c515]; done)); simp only [go_sem, reduceIte, Nat.reduceEqDiff, reduceCtorEq, Nat.reduceAdd, Nat.reduceMul, Nat.reduceLT, Nat.reduceLeDiff, Int.reduceToNat, Int.reduceLE, c515]; refine hK _ ?_; clear hK K) | (refine rops_off rfl rfl ?_ ?_; (focus (simp only [go_sem, reduceIte, Nat.reduceEqDiff, reduceCtorEq, Nat.reduceAdd, Nat.reduceMul, Nat.reduceLT, Nat.reduceLeDiff, Int.reduceToNat, Int.reduceLE, c515]; done))))
    rcases c516 : (decide (a0.next > 1048577)) with _ | _
    · repeat (first | (refine rops_ng rfl fun K hK => ?_; simp only [go_sem, reduceIte, Nat.reduceEqDiff, reduceCtorEq, Nat.reduceAdd, Nat.reduceMul, Nat.reduceLT, Nat.reduceLeDiff, Int.reduceToNat, Int.reduceLE, c515, c516]; refine hK _ ?_; clear hK K) | (refine rops_on rfl rfl ?_ fun K hK => ?_; (focus (simp only [go_sem, reduceIte, Nat.reduceEqDiff, reduceCtorEq, Nat.reduceAdd, Nat.reduceMul, Nat.reduceLT, Nat.reduceLeDiff, Int.reduceToNat, Int.reduceLE, c515, c516]; done)); simp only [go_sem, reduceIte, Nat.reduceEqDiff, reduceCtorEq, Nat.reduceAdd, Nat.reduceMul, Nat.reduceLT, Nat.reduceLeDiff, Int.reduceToNat, Int.reduceLE, c515, c516]; refine hK _ ?_; clear hK K) | (refine rops_off rfl rfl ?_ ?_; (focus (simp only [go_sem, reduceIte, Nat.reduceEqDiff, reduceCtorEq, Nat.reduceAdd, Nat.reduceMul, Nat.reduceLT, Nat.reduceLeDiff, Int.reduceToNat, Int.reduceLE, c515, c516]; done))))
      first | refine rops_nil ?_ | refine ropsD_nil ?_
      try simp only [exs, reduceIte, Nat.reduceEqDiff]
      refine R265 _ ?_ ?_ ?_
      · (first | (simp only [upd_apply, reduceIte, Nat.reduceEqDiff]; done) | (simp only [go_sem, reduceIte, Nat.reduceEqDiff, reduceCtorEq, Nat.reduceAdd, Nat.reduceMul, Nat.reduceLT, Nat.reduceLeDiff, Int.reduceToNat, Int.reduceLE, fs_all, take_length_map, h0, c515, c516] <;> rfl) | rfl)
      · (first | (simp only [upd_apply, reduceIte, Nat.reduceEqDiff]; done) | (simp only [go_sem, reduceIte, Nat.reduceEqDiff, reduceCtorEq, Nat.reduceAdd, Nat.reduceMul, Nat.reduceLT, Nat.reduceLeDiff, Int.reduceToNat, Int.reduceLE, fs_all, take_length_map, h0, c515, c516] <;> rfl) | rfl)
      · (first | (simp only [upd_apply, reduceIte, Nat.reduceEqDiff]; done) | (simp only [go_sem, reduceIte, Nat.reduceEqDiff, reduceCtorEq, Nat.reduceAdd, Nat.reduceMul, Nat.reduceLT, Nat.reduceLeDiff, Int.reduceToNat, Int.reduceLE, fs_all, take_length_map, h0, c515, c516] <;> rfl) | rfl)
    repeat (first | (refine rops_ng rfl fun K hK => ?_; simp only [go_sem, reduceIte, Nat.reduceEqDiff, reduceCtorEq, Nat.reduceAdd, Nat.reduceMul, Nat.reduceLT, Nat.reduceLeDiff, Int.reduceToNat, Int.reduceLE, c515, c516]; refine hK _ ?_; clear hK K) | (refine rops_on rfl rfl ?_ fun K hK => ?_; (focus (simp only [go_sem, reduceIte, Nat.reduceEqDiff, reduceCtorEq, Nat.reduceAdd, Nat.reduceMul, Nat.reduceLT, Nat.reduceLeDiff, Int.reduceToNat, Int.reduceLE, c515, c516]; done)); simp only [go_sem, reduceIte, Nat.reduceEqDiff, reduceCtorEq, Nat.reduceAdd, Nat.reduceMul, Nat.reduceLT, Nat.reduceLeDiff, Int.reduceToNat, Int.reduceLE, c515, c516]; refine hK _ ?_; clear hK K) | (refine rops_off rfl rfl ?_ ?_; (focus (simp only [go_sem, reduceIte, Nat.reduceEqDiff, reduceCtorEq, Nat.reduceAdd, Nat.reduceMul, Nat.reduceLT, Nat.reduceLeDiff, Int.reduceToNat, Int.reduceLE, c515, c516]; done))))
    first | refine rops_nil ?_ | refine ropsD_nil ?_
    try simp only [exs, reduceIte, Nat.reduceEqDiff]
    refine R265 _ ?_ ?_ ?_
    · (first | (simp only [upd_apply, reduceIte, Nat.reduceEqDiff]; done) | (simp only [go_sem, reduceIte, Nat.reduceEqDiff, reduceCtorEq, Nat.reduceAdd, Nat.reduceMul, Nat.reduceLT, Nat.reduceLeDiff, Int.reduceToNat, Int.reduceLE, fs_all, take_length_map, h0, c515, c516] <;> rfl) | rfl)
    · (first | (simp only [upd_apply, reduceIte, Nat.reduceEqDiff]; done) | (simp only [go_sem, reduceIte, Nat.reduceEqDiff, reduceCtorEq, Nat.reduceAdd, Nat.reduceMul, Nat.reduceLT, Nat.reduceLeDiff, Int.reduceToNat, Int.reduceLE, fs_all, take_length_map, h0, c515, c516] <;> rfl) | rfl)
    · (first | (simp only [upd_apply, reduceIte, Nat.reduceEqDiff]; done) | (simp only [go_sem, reduceIte, Nat.reduceEqDiff, reduceCtorEq, Nat.reduceAdd, Nat.reduceMul, Nat.reduceLT, Nat.reduceLeDiff, Int.reduceToNat, Int.reduceLE, fs_all, take_length_map, h0, c515, c516] <;> rfl) | rfl)
  repeat (first | (refine rops_ng rfl fun K hK => ?_; simp only [go_sem, reduceIte, Nat.reduceEqDiff, reduceCtorEq, Nat.reduceAdd, Nat.reduceMul, Nat.reduceLT, Nat.reduceLeDiff, Int.reduceToNat, Int.reduceLE, c515]; refine hK _ ?_; clear hK K) | (refine rops_on rfl rfl ?_ fun K hK => ?_; (focus (simp only [go_sem, reduceIte, Nat.reduceEqDiff, reduceCtorEq, Nat.reduceAdd, Nat.reduceMul, Nat.reduceLT, Nat.reduceLeDiff, Int.reduceToNat, Int.reduceLE, c515]; done)); simp only [go_sem, reduceIte, Nat.reduceEqDiff, reduceCtorEq, Nat.reduceAdd, Nat.reduceMul, Nat.reduceLT, Nat.reduceLeDiff, Int.reduceToNat, Int.reduceLE, c515]; refine hK _ ?_; clear hK K) | (refine rops_off rfl rfl ?_ ?_; (focus (simp only [go_sem, reduceIte, Nat.reduceEqDiff, reduceCtorEq, Nat.reduceAdd, Nat.reduceMul, Nat.reduceLT, Nat.reduceLeDiff, Int.reduceToNat, Int.reduceLE, c515]; done))))
  first | refine rops_nil ?_ | refine ropsD_nil ?_
  try simp only [exs, reduceIte, Nat.reduceEqDiff]
  refine R265 _ ?_ ?_ ?_
  · (first | (simp only [upd_apply, reduceIte, Nat.reduceEqDiff]; done) | (simp only [go_sem, reduceIte, Nat.reduceEqDiff, reduceCtorEq, Nat.reduceAdd, Nat.reduceMul, Nat.reduceLT, Nat.reduceLeDiff, Int.reduceToNat, Int.reduceLE, fs_all, take_length_map, h0, c515] <;> rfl) | rfl)
  · (first | (simp only [upd_apply, reduceIte, Nat.reduceEqDiff]; done) | (simp only [go_sem, reduceIte, Nat.reduceEqDiff, reduceCtorEq, Nat.reduceAdd, Nat.reduceMul, Nat.reduceLT, Nat.reduceLeDiff, Int.reduceToNat, Int.reduceLE, fs_all, take_length_map, h0, c515] <;> rfl) | rfl)
  · (first | (simp only [upd_apply, reduceIte, Nat.reduceEqDiff]; done) | (simp only [go_sem, reduceIte, Nat.reduceEqDiff, reduceCtorEq, Nat.reduceAdd, Nat.reduceMul, Nat.reduceLT, Nat.reduceLeDiff, Int.reduceToNat, Int.reduceLE, fs_all, take_length_map, h0, c515] <;> rfl) | rfl)

end Go.Proofs.Mm
