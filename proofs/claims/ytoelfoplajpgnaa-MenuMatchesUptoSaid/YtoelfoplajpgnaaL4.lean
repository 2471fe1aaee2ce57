import Derived.Test.YtoelfoplajpgnaaEvLift
import Derived.Test.YtoelfoplajpgnaaMmF
import Derived.Test.YtoelfoplajpgnaaL9
import Derived.Test.YtoelfoplajpgnaaL10
import Derived.Test.YtoelfoplajpgnaaLS1
set_option linter.unusedVariables false
set_option linter.unusedSimpArgs false
set_option linter.unusedSectionVars false

namespace Go.Proofs.Mm
open Go Go.Ev

-- topiary/topiarylaw14.MenuMatches
def F4 (N : Nat) (a0 : Mdl) (a1 : List Itm) (a2 : Str) (a3 : Str) : Option (Bool) :=
  bif (decide ((a0.nodes.length : Int) > 300)) || (decide ((a1.length : Int) > 300)) then
    some true
  else
    (chk (decide (a1.length ≤ maxLen) && decide (a1.length * 24 ≤ 140737488355328))).bind fun _ =>
    (F9 N a0 a1 a2 a3).bind fun x54 =>
    (F10 N a0 a1 a2 a3).bind fun x57 =>
    (F11 N x57 x54).bind fun x61 =>
    bindG (!(!x61)) (F11 N a1 a1) fun x62 =>
    bif (!x61) || (!x62) then
      some false
    else
      (F12 N x57).bind fun x70 =>
      (F11 N a1 a1).bind fun x73 =>
      bindG (x73) (F10 N a0 a1 a2 a3) fun x74 =>
      bindG (x73) (F11 N x74 x54) fun x75 =>
      some (x73 && x75)

set_option maxHeartbeats 4000000 in
theorem F4_does (E : Env) (N : Nat) (a0 : Mdl) (a1 : List Itm) (a2 : Str) (a3 : Str) (r : Bool) (h : F4 N a0 a1 a2 a3 = some r) : Does Try.prog E 4 [.agg [.fl (.int .i64 a0.next), .sl (List.map Nd.av a0.nodes)], .sl (List.map Itm.av a1), .fl (bs a2), .fl (bs a3)] (.ret [.v (.fl (.bool r))]) := by
  refine does_run Try.func4 Try.ntmps4 rfl rfl (by simp) fun w0 I0 s hr hb => ?_
  have h0 := hr 0
  have h1 := hr 1
  have h2 := hr 2
  have h3 := hr 3
  simp only [List.map_cons, List.map_nil, List.getElem?_cons_zero, List.getElem?_cons_succ, Option.getD_some] at h0 h1 h2 h3
  unfold F4 at h
  refine awp_seq fun K44 hK44 => ?_
  refine awp_region rfl (by kernel_rfl) ?_
  first | refine rops_k ?_ | refine ropsD_k ?_
  repeat (refine rops_ng rfl fun K hK => ?_; simp only [go_sem, reduceIte, Nat.reduceEqDiff, reduceCtorEq, Nat.reduceAdd, Nat.reduceMul, Nat.reduceLT, Nat.reduceLeDiff, Int.reduceToNat, Int.reduceLE, h0]; refine hK _ ?_; clear hK K)
  first | refine rops_nil ?_ | refine ropsD_nil ?_
  try simp only [exs, reduceIte, Nat.reduceEqDiff]
  refine hK44 _ ?_
  refine awp_seq fun K45 hK45 => ?_
  refine awp_seq fun K46 hK46 => ?_
  refine awp_region rfl (by kernel_rfl) ?_
  have R48 : ∀ s47 : St, (s47.r 1 = .val (.sl (List.map Itm.av a1))) → (s47.r 2 = .val (.fl (bs a2))) → (s47.r 3 = .val (.fl (bs a3))) → (s47.r 4 = .loc 4 (s47.g 4) 0 0 0) → (s47.r 20 = .val (.fl (.bool ((decide ((a0.nodes.length : Int) > 300)) || (decide ((a1.length : Int) > 300)))))) → (s47.b 4 = some (.cells [.val (.fl (.int .i64 a0.next)), .val (.sl (List.map Nd.av a0.nodes))])) → K46 s47 := by
    intro s47 h1 h2 h3 h4 h20 b4
    refine hK46 _ ?_
    refine awp_if (by kernel_rfl) (by (simp only [upd_apply, reduceIte, Nat.reduceEqDiff, St.ev, constReg, constCell, St.put_some, St.put_none, h1, h2, h3, h4, h20, b4] <;> rfl)) (fun hc => ?_) (fun hc => ?_)
    · have c49 : ((decide ((a0.nodes.length : Int) > 300)) || (decide ((a1.length : Int) > 300))) = true := by first | exact hc | simpa using hc
      clear hc
      rw [c49] at h
      simp only [cond_true, cond_false] at h
      refine awp_seq fun K50 hK50 => ?_
      refine awp_region rfl (by kernel_rfl) ?_
      first | refine rops_k ?_ | refine ropsD_k ?_
      repeat (refine rops_ng rfl fun K hK => ?_; simp only [go_sem, reduceIte, Nat.reduceEqDiff, reduceCtorEq, Nat.reduceAdd, Nat.reduceMul, Nat.reduceLT, Nat.reduceLeDiff, Int.reduceToNat, Int.reduceLE, b4]; refine hK _ ?_; clear hK K)
      first | refine rops_nil ?_ | refine ropsD_nil ?_
      try simp only [exs, reduceIte, Nat.reduceEqDiff]
      refine hK50 _ ?_
      have h := Option.some.inj h
      subst h
      refine awp_ret ?_
      try simp only [exs, reduceIte, Nat.reduceEqDiff]
      refine fin_ret (vs := [.tmp 8]) Try.ntmps4 rfl (by simp [List.filter_cons, isOwn]) none ?_
      (simp only [resultsAre, resCell, loadRegs, regRV, go_sem, reduceIte, Nat.reduceEqDiff, reduceCtorEq, Nat.reduceAdd, Nat.reduceMul, Nat.reduceLT, Nat.reduceLeDiff, Int.reduceToNat, Int.reduceLE, fs_all, take_length_map, h1, h2, h3, h4, h20, b4] <;> rfl)
    have c49 : ((decide ((a0.nodes.length : Int) > 300)) || (decide ((a1.length : Int) > 300))) = false := by first | exact hc | simpa using hc
    clear hc
    rw [c49] at h
    simp only [cond_true, cond_false] at h
    refine awp_skip ?_
    try simp only [exs, reduceIte, Nat.reduceEqDiff]
    refine hK45 _ ?_
    refine awp_seq fun K51 hK51 => ?_
    obtain ⟨_, q52, h⟩ := bind_some h
    have q52 := chk_some q52
    simp only [Bool.and_eq_true, decide_eq_true_eq, and_assoc] at q52
    obtain ⟨q52a, q52b⟩ := q52
    refine awp_region rfl (by kernel_rfl) ?_
    first | refine rops_k ?_ | refine ropsD_k ?_
    repeat (refine rops_ng rfl fun K hK => ?_; simp only [go_sem, reduceIte, Nat.reduceEqDiff, reduceCtorEq, Nat.reduceAdd, Nat.reduceMul, Nat.reduceLT, Nat.reduceLeDiff, Int.reduceToNat, Int.reduceLE, h1, b4, q52a, q52b]; refine hK _ ?_; clear hK K)
    first | refine rops_nil ?_ | refine ropsD_nil ?_
    try simp only [exs, reduceIte, Nat.reduceEqDiff]
    refine hK51 _ ?_
    refine awp_seq fun K53 hK53 => ?_
    obtain ⟨x54, q55, h⟩ := bind_some h
    refine awp_region rfl (by kernel_rfl) ?_
    first | refine rops_k ?_ | refine ropsD_k ?_
    repeat (refine rops_ng rfl fun K hK => ?_; simp only [go_sem, reduceIte, Nat.reduceEqDiff, reduceCtorEq, Nat.reduceAdd, Nat.reduceMul, Nat.reduceLT, Nat.reduceLeDiff, Int.reduceToNat, Int.reduceLE, h1, h2, h3, h4, b4, q52a, q52b]; refine hK _ ?_; clear hK K)
    refine rops_ng rfl fun K hK => ?_
    simp only [List.head?_cons, List.head?_nil, Option.map_some, Option.map_none, rops1, ropsD1, gtmp, gate, beq_self_eq_true, beq_t, beq_f, Bool.not_true, Bool.not_false, if_true, rOp, rOpD, calleeOf, regAVsOf, regAV, List.getElem?_toArray, List.getElem?_cons_zero, List.getElem?_cons_succ, Option.bind_some, upd_apply, reduceIte, Nat.reduceEqDiff, St.ev, constReg, constCell, St.put_some, St.put_none, h1, h2, h3, h4, h20, b4, q52a, q52b]
    refine .inl ⟨_, _, rfl, _, rfl, _, (F9_does _ N a0 a1 a2 a3  _ q55), ?_⟩
    simp only [flRV, outK, St.take, St.takeRVs, St.takeRV, retReg, St.put_some, St.put_none, List.map_cons, List.map_nil]
    refine hK _ ?_; clear hK K
    repeat (refine rops_ng rfl fun K hK => ?_; simp only [go_sem, reduceIte, Nat.reduceEqDiff, reduceCtorEq, Nat.reduceAdd, Nat.reduceMul, Nat.reduceLT, Nat.reduceLeDiff, Int.reduceToNat, Int.reduceLE, h1, h2, h3, h4, b4, q52a, q52b]; refine hK _ ?_; clear hK K)
    first | refine rops_nil ?_ | refine ropsD_nil ?_
    try simp only [exs, reduceIte, Nat.reduceEqDiff]
    refine hK53 _ ?_
    refine awp_seq fun K56 hK56 => ?_
    refine awp_giveAs 9 9 (List.map Itm.av a1) (by first | assumption | (simp only [upd_apply, reduceIte, Nat.reduceEqDiff, h1, h2, h3, h4, h20, b4, q52a, q52b]; done) | (simp only [upd_apply, reduceIte, Nat.reduceEqDiff, h1, h2, h3, h4, h20, b4, q52a, q52b]; rfl)) (by first | rfl | (simp only [upd_apply, reduceIte, Nat.reduceEqDiff]; done)) (by first | assumption | (simp only [upd_apply, reduceIte, Nat.reduceEqDiff, h1, h2, h3, h4, h20, b4, q52a, q52b]; done) | (simp only [upd_apply, reduceIte, Nat.reduceEqDiff, h1, h2, h3, h4, h20, b4, q52a, q52b]; rfl)) ?_ ?_
    · first | rfl | (simp only [List.drop_zero, take_length_map, List.length_map, List.map_append, List.map_replicate, List.map_set, List.map_cons, List.map_nil, List.take_length]; done) | simp [intAV, boolAV, strAV, byteAV, List.map_take, List.map_drop, List.take_take, take_length_map]
    obtain ⟨x57, q58, h⟩ := bind_some h
    refine awp_region rfl (by kernel_rfl) ?_
    first | refine rops_k ?_ | refine ropsD_k ?_
    repeat (refine rops_ng rfl fun K hK => ?_; simp only [go_sem, reduceIte, Nat.reduceEqDiff, reduceCtorEq, Nat.reduceAdd, Nat.reduceMul, Nat.reduceLT, Nat.reduceLeDiff, Int.reduceToNat, Int.reduceLE, h2, h3, h4, b4, q52a, q52b]; refine hK _ ?_; clear hK K)
    refine rops_ng rfl fun K hK => ?_
    simp only [List.head?_cons, List.head?_nil, Option.map_some, Option.map_none, rops1, ropsD1, gtmp, gate, beq_self_eq_true, beq_t, beq_f, Bool.not_true, Bool.not_false, if_true, rOp, rOpD, calleeOf, regAVsOf, regAV, List.getElem?_toArray, List.getElem?_cons_zero, List.getElem?_cons_succ, Option.bind_some, upd_apply, reduceIte, Nat.reduceEqDiff, St.ev, constReg, constCell, St.put_some, St.put_none, h1, h2, h3, h4, h20, b4, q52a, q52b]
    refine .inl ⟨_, _, rfl, _, rfl, _, (F10_does _ N a0 a1 a2 a3  _ q58), ?_⟩
    simp only [flRV, outK, St.take, St.takeRVs, St.takeRV, retReg, St.put_some, St.put_none, List.map_cons, List.map_nil]
    refine hK _ ?_; clear hK K
    repeat (refine rops_ng rfl fun K hK => ?_; simp only [go_sem, reduceIte, Nat.reduceEqDiff, reduceCtorEq, Nat.reduceAdd, Nat.reduceMul, Nat.reduceLT, Nat.reduceLeDiff, Int.reduceToNat, Int.reduceLE, h2, h3, h4, b4, q52a, q52b]; refine hK _ ?_; clear hK K)
    first | refine rops_nil ?_ | refine ropsD_nil ?_
    try simp only [exs, reduceIte, Nat.reduceEqDiff]
    refine hK56 _ ?_
    refine awp_seq fun K59 hK59 => ?_
    refine awp_seq fun K60 hK60 => ?_
    obtain ⟨x61, q63, h⟩ := bind_some h
    obtain ⟨x62, q64, h⟩ := bindG_some h
    refine awp_region rfl (by kernel_rfl) ?_
    have R66 : ∀ s65 : St, (s65.r 1 = .val (.sl (List.map Itm.av a1))) → (s65.r 2 = .val (.fl (bs a2))) → (s65.r 3 = .val (.fl (bs a3))) → (s65.r 4 = .loc 4 (s65.g 4) 0 0 0) → (s65.r 9 = .val (.sl (List.map Itm.av a1))) → (s65.r 10 = .view 10 (s65.g 10) 0 x54.length) → (s65.r 11 = .view 11 (s65.g 11) 0 x57.length) → (s65.r 43 = .val (.fl (.bool ((!x61) || (!x62))))) → (s65.b 4 = some (.cells [.val (.fl (.int .i64 a0.next)), .val (.sl (List.map Nd.av a0.nodes))])) → (s65.b 10 = some (.arr 41 (List.map Itm.av x54))) → (s65.b 11 = some (.arr 41 (List.map Itm.av x57))) → K60 s65 := by
      intro s65 h1 h2 h3 h4 h9 h10 h11 h43 b4 b10 b11
      refine hK60 _ ?_
      refine awp_if (by kernel_rfl) (by (simp only [upd_apply, reduceIte, Nat.reduceEqDiff, St.ev, constReg, constCell, St.put_some, St.put_none, h1, h2, h3, h4, h9, h10, h11, h43, b4, b10, b11, q52a, q52b] <;> rfl)) (fun hc => ?_) (fun hc => ?_)
      · have c67 : ((!x61) || (!x62)) = true := by first | exact hc | simpa using hc
        clear hc
        rw [c67] at h
        simp only [cond_true, cond_false] at h
        refine awp_seq fun K68 hK68 => ?_
        refine awp_region rfl (by kernel_rfl) ?_
        first | refine rops_k ?_ | refine ropsD_k ?_
        repeat (refine rops_ng rfl fun K hK => ?_; simp only [go_sem, reduceIte, Nat.reduceEqDiff, reduceCtorEq, Nat.reduceAdd, Nat.reduceMul, Nat.reduceLT, Nat.reduceLeDiff, Int.reduceToNat, Int.reduceLE, b4, b10, b11]; refine hK _ ?_; clear hK K)
        first | refine rops_nil ?_ | refine ropsD_nil ?_
        try simp only [exs, reduceIte, Nat.reduceEqDiff]
        refine hK68 _ ?_
        have h := Option.some.inj h
        subst h
        refine awp_ret ?_
        try simp only [exs, reduceIte, Nat.reduceEqDiff]
        refine fin_ret (vs := [.tmp 8]) Try.ntmps4 rfl (by simp [List.filter_cons, isOwn]) none ?_
        (simp only [resultsAre, resCell, loadRegs, regRV, go_sem, reduceIte, Nat.reduceEqDiff, reduceCtorEq, Nat.reduceAdd, Nat.reduceMul, Nat.reduceLT, Nat.reduceLeDiff, Int.reduceToNat, Int.reduceLE, fs_all, take_length_map, h1, h2, h3, h4, h9, h10, h11, h43, b4, b10, b11, q52a, q52b] <;> rfl)
      have c67 : ((!x61) || (!x62)) = false := by first | exact hc | simpa using hc
      clear hc
      rw [c67] at h
      simp only [cond_true, cond_false] at h
      refine awp_skip ?_
      try simp only [exs, reduceIte, Nat.reduceEqDiff]
      refine hK59 _ ?_
      refine awp_seq fun K69 hK69 => ?_
      obtain ⟨x70, q71, h⟩ := bind_some h
      refine awp_region rfl (by kernel_rfl) ?_
      first | refine rops_k ?_ | refine ropsD_k ?_
      repeat (refine rops_ng rfl fun K hK => ?_; simp only [go_sem, reduceIte, Nat.reduceEqDiff, reduceCtorEq, Nat.reduceAdd, Nat.reduceMul, Nat.reduceLT, Nat.reduceLeDiff, Int.reduceToNat, Int.reduceLE, h11, b4, b10, b11, q52a, q52b]; refine hK _ ?_; clear hK K)
      refine rops_ng rfl fun K hK => ?_
      simp only [List.head?_cons, List.head?_nil, Option.map_some, Option.map_none, rops1, ropsD1, gtmp, gate, beq_self_eq_true, beq_t, beq_f, Bool.not_true, Bool.not_false, if_true, rOp, rOpD, calleeOf, regAVsOf, regAV, List.getElem?_toArray, List.getElem?_cons_zero, List.getElem?_cons_succ, Option.bind_some, upd_apply, reduceIte, Nat.reduceEqDiff, St.ev, constReg, constCell, St.put_some, St.put_none, h1, h2, h3, h4, h9, h10, h11, h43, b4, b10, b11, q52a, q52b]
      refine .inl ⟨_, _, _, _, 11, _, _, _, _, rfl, rfl, rfl, ?_, (F12_takes _ N x57 _ q71), ?_⟩
      · simp only [takeArg, peekAVs, peekAV, regAV, take_length_map, List.drop_zero, go_sem, reduceIte, Nat.reduceEqDiff, reduceCtorEq, Nat.reduceAdd, Nat.reduceMul, Nat.reduceLT, Nat.reduceLeDiff, Int.reduceToNat, Int.reduceLE, h1, h2, h3, h4, h9, h10, h11, h43, b4, b10, b11, q52a, q52b]
      simp only [flRV, outK, St.take, St.takeRVs, St.takeRV, retReg, St.put_some, St.put_none, List.map_cons, List.map_nil]
      refine hK _ ?_; clear hK K
      first | refine rops_nil ?_ | refine ropsD_nil ?_
      try simp only [exs, reduceIte, Nat.reduceEqDiff]
      refine hK69 _ ?_
      refine awp_seq fun K72 hK72 => ?_
      obtain ⟨x73, q76, h⟩ := bind_some h
      obtain ⟨x74, q77, h⟩ := bindG_some h
      obtain ⟨x75, q78, h⟩ := bindG_some h
      refine awp_region rfl (by kernel_rfl) ?_
      have R80 : ∀ s79 : St, (s79.r 8 = .val (.fl (.bool (x73 && x75)))) → K72 s79 := by
        intro s79 h8
        refine hK72 _ ?_
        have h := Option.some.inj h
        subst h
        refine awp_ret ?_
        try simp only [exs, reduceIte, Nat.reduceEqDiff]
        refine fin_ret (vs := [.tmp 8]) Try.ntmps4 rfl (by simp [List.filter_cons, isOwn]) none ?_
        (simp only [resultsAre, resCell, loadRegs, regRV, go_sem, reduceIte, Nat.reduceEqDiff, reduceCtorEq, Nat.reduceAdd, Nat.reduceMul, Nat.reduceLT, Nat.reduceLeDiff, Int.reduceToNat, Int.reduceLE, fs_all, take_length_map, h8, q52a, q52b] <;> rfl)
      first | refine rops_k ?_ | refine ropsD_k ?_
      repeat (refine rops_ng rfl fun K hK => ?_; simp only [go_sem, reduceIte, Nat.reduceEqDiff, reduceCtorEq, Nat.reduceAdd, Nat.reduceMul, Nat.reduceLT, Nat.reduceLeDiff, Int.reduceToNat, Int.reduceLE, h1, h2, h3, h4, h9, h10, b4, b10, b11, q52a, q52b]; refine hK _ ?_; clear hK K)
      refine rops_ng rfl fun K hK => ?_
      simp only [List.head?_cons, List.head?_nil, Option.map_some, Option.map_none, rops1, ropsD1, gtmp, gate, beq_self_eq_true, beq_t, beq_f, Bool.not_true, Bool.not_false, if_true, rOp, rOpD, calleeOf, regAVsOf, regAV, List.getElem?_toArray, List.getElem?_cons_zero, List.getElem?_cons_succ, Option.bind_some, upd_apply, reduceIte, Nat.reduceEqDiff, St.ev, constReg, constCell, St.put_some, St.put_none, h1, h2, h3, h4, h9, h10, h11, h43, b4, b10, b11, q52a, q52b]
      refine .inl ⟨_, _, rfl, _, rfl, _, (F11_does _ N a1 a1  _ q76), ?_⟩
      simp only [flRV, outK, St.take, St.takeRVs, St.takeRV, retReg, St.put_some, St.put_none, List.map_cons, List.map_nil]
      refine hK _ ?_; clear hK K
      repeat (refine rops_ng rfl fun K hK => ?_; simp only [go_sem, reduceIte, Nat.reduceEqDiff, reduceCtorEq, Nat.reduceAdd, Nat.reduceMul, Nat.reduceLT, Nat.reduceLeDiff, Int.reduceToNat, Int.reduceLE, h1, h2, h3, h4, h9, h10, b4, b10, b11, q52a, q52b]; refine hK _ ?_; clear hK K)
      rcases c81 : (x73) with _ | _
      · repeat (first | (refine rops_ng rfl fun K hK => ?_; simp only [go_sem, reduceIte, Nat.reduceEqDiff, reduceCtorEq, Nat.reduceAdd, Nat.reduceMul, Nat.reduceLT, Nat.reduceLeDiff, Int.reduceToNat, Int.reduceLE, h1, h2, h3, h4, h9, h10, b4, b10, b11, q52a, q52b, c81]; refine hK _ ?_; clear hK K) | (refine rops_on rfl rfl ?_ fun K hK => ?_; (focus (simp only [go_sem, reduceIte, Nat.reduceEqDiff, reduceCtorEq, Nat.reduceAdd, Nat.reduceMul, Nat.reduceLT, Nat.reduceLeDiff, Int.reduceToNat, Int.reduceLE, h1, h2, h3, h4, h9, h10, b4, b10, b11, q52a, q52b, c81]; done)); simp only [go_sem, reduceIte, Nat.reduceEqDiff, reduceCtorEq, Nat.reduceAdd, Nat.reduceMul, Nat.reduceLT, Nat.reduceLeDiff, Int.reduceToNat, Int.reduceLE, h1, h2, h3, h4, h9, h10, b4, b10, b11, q52a, q52b, c81]; refine hK _ ?_; clear hK K) | (refine rops_off rfl rfl ?_ ?_; (focus (simp only [go_sem, reduceIte, Nat.reduceEqDiff, reduceCtorEq, Nat.reduceAdd, Nat.reduceMul, Nat.reduceLT, Nat.reduceLeDiff, Int.reduceToNat, Int.reduceLE, h1, h2, h3, h4, h9, h10, b4, b10, b11, q52a, q52b, c81]; done))))
        first | refine rops_nil ?_ | refine ropsD_nil ?_
        try simp only [exs, reduceIte, Nat.reduceEqDiff]
        refine R80 _ ?_
        · (first | (simp only [upd_apply, reduceIte, Nat.reduceEqDiff]; done) | (simp only [go_sem, reduceIte, Nat.reduceEqDiff, reduceCtorEq, Nat.reduceAdd, Nat.reduceMul, Nat.reduceLT, Nat.reduceLeDiff, Int.reduceToNat, Int.reduceLE, fs_all, take_length_map, h1, h2, h3, h4, h9, h10, h11, h43, b4, b10, b11, q52a, q52b, c81] <;> rfl) | rfl)
      have q82 := q77 (by simp only [c81, fs_bool, beq_t, beq_f, beq_self_eq_true])
      have q83 := q78 (by simp only [c81, fs_bool, beq_t, beq_f, beq_self_eq_true])
      repeat (first | (refine rops_ng rfl fun K hK => ?_; simp only [go_sem, reduceIte, Nat.reduceEqDiff, reduceCtorEq, Nat.reduceAdd, Nat.reduceMul, Nat.reduceLT, Nat.reduceLeDiff, Int.reduceToNat, Int.reduceLE, h1, h2, h3, h4, h9, h10, b4, b10, b11, q52a, q52b, c81]; refine hK _ ?_; clear hK K) | (refine rops_on rfl rfl ?_ fun K hK => ?_; (focus (simp only [go_sem, reduceIte, Nat.reduceEqDiff, reduceCtorEq, Nat.reduceAdd, Nat.reduceMul, Nat.reduceLT, Nat.reduceLeDiff, Int.reduceToNat, Int.reduceLE, h1, h2, h3, h4, h9, h10, b4, b10, b11, q52a, q52b, c81]; done)); simp only [go_sem, reduceIte, Nat.reduceEqDiff, reduceCtorEq, Nat.reduceAdd, Nat.reduceMul, Nat.reduceLT, Nat.reduceLeDiff, Int.reduceToNat, Int.reduceLE, h1, h2, h3, h4, h9, h10, b4, b10, b11, q52a, q52b, c81]; refine hK _ ?_; clear hK K) | (refine rops_off rfl rfl ?_ ?_; (focus (simp only [go_sem, reduceIte, Nat.reduceEqDiff, reduceCtorEq, Nat.reduceAdd, Nat.reduceMul, Nat.reduceLT, Nat.reduceLeDiff, Int.reduceToNat, Int.reduceLE, h1, h2, h3, h4, h9, h10, b4, b10, b11, q52a, q52b, c81]; done))))
      refine rops_on rfl rfl (by simp only [gate, beq_self_eq_true, beq_t, beq_f, Bool.not_true, Bool.not_false, Bool.true_eq_false, Bool.false_eq_true, upd_apply, reduceIte, Nat.reduceEqDiff, St.put_some, St.put_none, h1, h2, h3, h4, h9, h10, h11, h43, b4, b10, b11, q52a, q52b, c81]) fun K hK => ?_
      simp only [List.head?_cons, List.head?_nil, Option.map_some, Option.map_none, rops1, ropsD1, gtmp, gate, beq_self_eq_true, beq_t, beq_f, Bool.not_true, Bool.not_false, if_true, rOp, rOpD, calleeOf, regAVsOf, regAV, List.getElem?_toArray, List.getElem?_cons_zero, List.getElem?_cons_succ, Option.bind_some, upd_apply, reduceIte, Nat.reduceEqDiff, St.ev, constReg, constCell, St.put_some, St.put_none, h1, h2, h3, h4, h9, h10, h11, h43, b4, b10, b11, q52a, q52b, c81]
      refine .inl ⟨_, _, rfl, _, rfl, _, (F10_does _ N a0 a1 a2 a3  _ q82), ?_⟩
      simp only [flRV, outK, St.take, St.takeRVs, St.takeRV, retReg, St.put_some, St.put_none, List.map_cons, List.map_nil]
      refine hK _ ?_; clear hK K
      repeat (first | (refine rops_ng rfl fun K hK => ?_; simp only [go_sem, reduceIte, Nat.reduceEqDiff, reduceCtorEq, Nat.reduceAdd, Nat.reduceMul, Nat.reduceLT, Nat.reduceLeDiff, Int.reduceToNat, Int.reduceLE, h1, h2, h3, h4, h9, h10, b4, b10, b11, q52a, q52b, c81]; refine hK _ ?_; clear hK K) | (refine rops_on rfl rfl ?_ fun K hK => ?_; (focus (simp only [go_sem, reduceIte, Nat.reduceEqDiff, reduceCtorEq, Nat.reduceAdd, Nat.reduceMul, Nat.reduceLT, Nat.reduceLeDiff, Int.reduceToNat, Int.reduceLE, h1, h2, h3, h4, h9, h10, b4, b10, b11, q52a, q52b, c81]; done)); simp only [go_sem, reduceIte, Nat.reduceEqDiff, reduceCtorEq, Nat.reduceAdd, Nat.reduceMul, Nat.reduceLT, Nat.reduceLeDiff, Int.reduceToNat, Int.reduceLE, h1, h2, h3, h4, h9, h10, b4, b10, b11, q52a, q52b, c81]; refine hK _ ?_; clear hK K) | (refine rops_off rfl rfl ?_ ?_; (focus (simp only [go_sem, reduceIte, Nat.reduceEqDiff, reduceCtorEq, Nat.reduceAdd, Nat.reduceMul, Nat.reduceLT, Nat.reduceLeDiff, Int.reduceToNat, Int.reduceLE, h1, h2, h3, h4, h9, h10, b4, b10, b11, q52a, q52b, c81]; done))))
      refine rops_on rfl rfl (by simp only [gate, beq_self_eq_true, beq_t, beq_f, Bool.not_true, Bool.not_false, Bool.true_eq_false, Bool.false_eq_true, upd_apply, reduceIte, Nat.reduceEqDiff, St.put_some, St.put_none, h1, h2, h3, h4, h9, h10, h11, h43, b4, b10, b11, q52a, q52b, c81]) fun K hK => ?_
      simp only [List.head?_cons, List.head?_nil, Option.map_some, Option.map_none, rops1, ropsD1, gtmp, gate, beq_self_eq_true, beq_t, beq_f, Bool.not_true, Bool.not_false, if_true, rOp, rOpD, calleeOf, regAVsOf, regAV, List.getElem?_toArray, List.getElem?_cons_zero, List.getElem?_cons_succ, Option.bind_some, upd_apply, reduceIte, Nat.reduceEqDiff, St.ev, constReg, constCell, St.put_some, St.put_none, h1, h2, h3, h4, h9, h10, h11, h43, b4, b10, b11, q52a, q52b, c81]
      refine .inr ⟨_, [.sl (List.map Itm.av x74), .sl (List.map Itm.av x54)], [.bool x75], rfl, ?_, (F11_does _ N x74 x54  _ q83), ?_⟩
      · simp only [takeArg, peekAVs, peekAV, regAV, take_length_map, List.drop_zero, go_sem, reduceIte, Nat.reduceEqDiff, reduceCtorEq, Nat.reduceAdd, Nat.reduceMul, Nat.reduceLT, Nat.reduceLeDiff, Int.reduceToNat, Int.reduceLE, h1, h2, h3, h4, h9, h10, h11, h43, b4, b10, b11, q52a, q52b, c81]
      simp only [flRV, outK, St.take, St.takeRVs, St.takeRV, retReg, St.put_some, St.put_none, List.map_cons, List.map_nil]
      refine hK _ ?_; clear hK K
      repeat (first | (refine rops_ng rfl fun K hK => ?_; simp only [go_sem, reduceIte, Nat.reduceEqDiff, reduceCtorEq, Nat.reduceAdd, Nat.reduceMul, Nat.reduceLT, Nat.reduceLeDiff, Int.reduceToNat, Int.reduceLE, h1, h2, h3, h4, h9, h10, b4, b10, b11, q52a, q52b, c81]; refine hK _ ?_; clear hK K) | (refine rops_on rfl rfl ?_ fun K hK => ?_; (focus (simp only [go_sem, reduceIte, Nat.reduceEqDiff, reduceCtorEq, Nat.reduceAdd, Nat.reduceMul, Nat.reduceLT, Nat.reduceLeDiff, Int.reduceToNat, Int.reduceLE, h1, h2, h3, h4, h9, h10, b4, b10, b11, q52a, q52b, c81]; done)); simp only [go_sem, reduceIte, Nat.reduceEqDiff, reduceCtorEq, Nat.reduceAdd, Nat.reduceMul, Nat.reduceLT, Nat.reduceLeDiff, Int.reduceToNat, Int.reduceLE, h1, h2, h3, h4, h9, h10, b4, b10, b11, q52a, q52b, c81]; refine hK _ ?_; clear hK K) | (refine rops_off rfl rfl ?_ ?_; (focus (simp only [go_sem, reduceIte, Nat.reduceEqDiff, reduceCtorEq, Nat.reduceAdd, Nat.reduceMul, Nat.reduceLT, Nat.reduceLeDiff, Int.reduceToNat, Int.reduceLE, h1, h2, h3, h4, h9, h10, b4, b10, b11, q52a, q52b, c81]; done))))
      first | refine rops_nil ?_ | refine ropsD_nil ?_
      try simp only [exs, reduceIte, Nat.reduceEqDiff]
      refine R80 _ ?_
      · (first | (simp only [upd_apply, reduceIte, Nat.reduceEqDiff]; done) | (simp only [go_sem, reduceIte, Nat.reduceEqDiff, reduceCtorEq, Nat.reduceAdd, Nat.reduceMul, Nat.reduceLT, Nat.reduceLeDiff, Int.reduceToNat, Int.reduceLE, fs_all, take_length_map, h1, h2, h3, h4, h9, h10, h11, h43, b4, b10, b11, q52a, q52b, c81] <;> rfl) | rfl)
    first | refine rops_k ?_ | refine ropsD_k ?_
    repeat (refine rops_ng rfl fun K hK => ?_; simp only [go_sem, reduceIte, Nat.reduceEqDiff, reduceCtorEq, Nat.reduceAdd, Nat.reduceMul, Nat.reduceLT, Nat.reduceLeDiff, Int.reduceToNat, Int.reduceLE, h1, b4, q52a, q52b]; refine hK _ ?_; clear hK K)
    refine rops_ng rfl fun K hK => ?_
    simp only [List.head?_cons, List.head?_nil, Option.map_some, Option.map_none, rops1, ropsD1, gtmp, gate, beq_self_eq_true, beq_t, beq_f, Bool.not_true, Bool.not_false, if_true, rOp, rOpD, calleeOf, regAVsOf, regAV, List.getElem?_toArray, List.getElem?_cons_zero, List.getElem?_cons_succ, Option.bind_some, upd_apply, reduceIte, Nat.reduceEqDiff, St.ev, constReg, constCell, St.put_some, St.put_none, h1, h2, h3, h4, h20, b4, q52a, q52b]
    refine .inr ⟨_, [.sl (List.map Itm.av x57), .sl (List.map Itm.av x54)], [.bool x61], rfl, ?_, (F11_does _ N x57 x54  _ q63), ?_⟩
    · simp only [takeArg, peekAVs, peekAV, regAV, take_length_map, List.drop_zero, go_sem, reduceIte, Nat.reduceEqDiff, reduceCtorEq, Nat.reduceAdd, Nat.reduceMul, Nat.reduceLT, Nat.reduceLeDiff, Int.reduceToNat, Int.reduceLE, h1, h2, h3, h4, h20, b4, q52a, q52b]
    simp only [flRV, outK, St.take, St.takeRVs, St.takeRV, retReg, St.put_some, St.put_none, List.map_cons, List.map_nil]
    refine hK _ ?_; clear hK K
    repeat (refine rops_ng rfl fun K hK => ?_; simp only [go_sem, reduceIte, Nat.reduceEqDiff, reduceCtorEq, Nat.reduceAdd, Nat.reduceMul, Nat.reduceLT, Nat.reduceLeDiff, Int.reduceToNat, Int.reduceLE, h1, b4, q52a, q52b]; refine hK _ ?_; clear hK K)
    rcases c84 : (x61) with _ | _
    · repeat (first | (refine rops_ng rfl fun K hK => ?_; simp only [go_sem, reduceIte, Nat.reduceEqDiff, reduceCtorEq, Nat.reduceAdd, Nat.reduceMul, Nat.reduceLT, Nat.reduceLeDiff, Int.reduceToNat, Int.reduceLE, h1, b4, q52a, q52b, c84]; refine hK _ ?_; clear hK K) | (refine rops_on rfl rfl ?_ fun K hK => ?_; (focus (simp only [go_sem, reduceIte, Nat.reduceEqDiff, reduceCtorEq, Nat.reduceAdd, Nat.reduceMul, Nat.reduceLT, Nat.reduceLeDiff, Int.reduceToNat, Int.reduceLE, h1, b4, q52a, q52b, c84]; done)); simp only [go_sem, reduceIte, Nat.reduceEqDiff, reduceCtorEq, Nat.reduceAdd, Nat.reduceMul, Nat.reduceLT, Nat.reduceLeDiff, Int.reduceToNat, Int.reduceLE, h1, b4, q52a, q52b, c84]; refine hK _ ?_; clear hK K) | (refine rops_off rfl rfl ?_ ?_; (focus (simp only [go_sem, reduceIte, Nat.reduceEqDiff, reduceCtorEq, Nat.reduceAdd, Nat.reduceMul, Nat.reduceLT, Nat.reduceLeDiff, Int.reduceToNat, Int.reduceLE, h1, b4, q52a, q52b, c84]; done))))
      first | refine rops_nil ?_ | refine ropsD_nil ?_
      try simp only [exs, reduceIte, Nat.reduceEqDiff]
      refine R66 _ ?_ ?_ ?_ ?_ ?_ ?_ ?_ ?_ ?_ ?_ ?_
      · simp only [upd_apply, reduceIte, Nat.reduceEqDiff, h1]
      · simp only [upd_apply, reduceIte, Nat.reduceEqDiff, h2]
      · simp only [upd_apply, reduceIte, Nat.reduceEqDiff, h3]
      · simp only [upd_apply, reduceIte, Nat.reduceEqDiff, h4]
      · (first | (simp only [upd_apply, reduceIte, Nat.reduceEqDiff]; done) | (simp only [go_sem, reduceIte, Nat.reduceEqDiff, reduceCtorEq, Nat.reduceAdd, Nat.reduceMul, Nat.reduceLT, Nat.reduceLeDiff, Int.reduceToNat, Int.reduceLE, fs_all, take_length_map, h1, h2, h3, h4, h20, b4, q52a, q52b, c84] <;> rfl) | rfl)
      · (first | (simp only [upd_apply, reduceIte, Nat.reduceEqDiff]; done) | (simp only [go_sem, reduceIte, Nat.reduceEqDiff, reduceCtorEq, Nat.reduceAdd, Nat.reduceMul, Nat.reduceLT, Nat.reduceLeDiff, Int.reduceToNat, Int.reduceLE, fs_all, take_length_map, h1, h2, h3, h4, h20, b4, q52a, q52b, c84] <;> rfl) | rfl)
      · (first | (simp only [upd_apply, reduceIte, Nat.reduceEqDiff]; done) | (simp only [go_sem, reduceIte, Nat.reduceEqDiff, reduceCtorEq, Nat.reduceAdd, Nat.reduceMul, Nat.reduceLT, Nat.reduceLeDiff, Int.reduceToNat, Int.reduceLE, fs_all, take_length_map, h1, h2, h3, h4, h20, b4, q52a, q52b, c84] <;> rfl) | rfl)
      · (first | (simp only [upd_apply, reduceIte, Nat.reduceEqDiff]; done) | (simp only [go_sem, reduceIte, Nat.reduceEqDiff, reduceCtorEq, Nat.reduceAdd, Nat.reduceMul, Nat.reduceLT, Nat.reduceLeDiff, Int.reduceToNat, Int.reduceLE, fs_all, take_length_map, h1, h2, h3, h4, h20, b4, q52a, q52b, c84] <;> rfl) | rfl)
      · simp only [upd_apply, reduceIte, Nat.reduceEqDiff, b4]
      · (first | (simp only [upd_apply, reduceIte, Nat.reduceEqDiff]; done) | (simp only [go_sem, reduceIte, Nat.reduceEqDiff, reduceCtorEq, Nat.reduceAdd, Nat.reduceMul, Nat.reduceLT, Nat.reduceLeDiff, Int.reduceToNat, Int.reduceLE, fs_all, take_length_map, h1, h2, h3, h4, h20, b4, q52a, q52b, c84] <;> rfl) | rfl)
      · (first | (simp only [upd_apply, reduceIte, Nat.reduceEqDiff]; done) | (simp only [go_sem, reduceIte, Nat.reduceEqDiff, reduceCtorEq, Nat.reduceAdd, Nat.reduceMul, Nat.reduceLT, Nat.reduceLeDiff, Int.reduceToNat, Int.reduceLE, fs_all, take_length_map, h1, h2, h3, h4, h20, b4, q52a, q52b, c84] <;> rfl) | rfl)
    have q85 := q64 (by simp only [c84, fs_bool, beq_t, beq_f, beq_self_eq_true])
    repeat (first | (refine rops_ng rfl fun K hK => ?_; simp only [go_sem, reduceIte, Nat.reduceEqDiff, reduceCtorEq, Nat.reduceAdd, Nat.reduceMul, Nat.reduceLT, Nat.reduceLeDiff, Int.reduceToNat, Int.reduceLE, h1, b4, q52a, q52b, c84]; refine hK _ ?_; clear hK K) | (refine rops_on rfl rfl ?_ fun K hK => ?_; (focus (simp only [go_sem, reduceIte, Nat.reduceEqDiff, reduceCtorEq, Nat.reduceAdd, Nat.reduceMul, Nat.reduceLT, Nat.reduceLeDiff, Int.reduceToNat, Int.reduceLE, h1, b4, q52a, q52b, c84]; done)); simp only [go_sem, reduceIte, Nat.reduceEqDiff, reduceCtorEq, Nat.reduceAdd, Nat.reduceMul, Nat.reduceLT, Nat.reduceLeDiff, Int.reduceToNat, Int.reduceLE, h1, b4, q52a, q52b, c84]; refine hK _ ?_; clear hK K) | (refine rops_off rfl rfl ?_ ?_; (focus (simp only [go_sem, reduceIte, Nat.reduceEqDiff, reduceCtorEq, Nat.reduceAdd, Nat.reduceMul, Nat.reduceLT, Nat.reduceLeDiff, Int.reduceToNat, Int.reduceLE, h1, b4, q52a, q52b, c84]; done))))
    refine rops_on rfl rfl (by simp only [gate, beq_self_eq_true, beq_t, beq_f, Bool.not_true, Bool.not_false, Bool.true_eq_false, Bool.false_eq_true, upd_apply, reduceIte, Nat.reduceEqDiff, St.put_some, St.put_none, h1, h2, h3, h4, h20, b4, q52a, q52b, c84]) fun K hK => ?_
    simp only [List.head?_cons, List.head?_nil, Option.map_some, Option.map_none, rops1, ropsD1, gtmp, gate, beq_self_eq_true, beq_t, beq_f, Bool.not_true, Bool.not_false, if_true, rOp, rOpD, calleeOf, regAVsOf, regAV, List.getElem?_toArray, List.getElem?_cons_zero, List.getElem?_cons_succ, Option.bind_some, upd_apply, reduceIte, Nat.reduceEqDiff, St.ev, constReg, constCell, St.put_some, St.put_none, h1, h2, h3, h4, h20, b4, q52a, q52b, c84]
    refine .inl ⟨_, _, rfl, _, rfl, _, (F11_does _ N a1 a1  _ q85), ?_⟩
    simp only [flRV, outK, St.take, St.takeRVs, St.takeRV, retReg, St.put_some, St.put_none, List.map_cons, List.map_nil]
    refine hK _ ?_; clear hK K
    repeat (first | (refine rops_ng rfl fun K hK => ?_; simp only [go_sem, reduceIte, Nat.reduceEqDiff, reduceCtorEq, Nat.reduceAdd, Nat.reduceMul, Nat.reduceLT, Nat.reduceLeDiff, Int.reduceToNat, Int.reduceLE, h1, b4, q52a, q52b, c84]; refine hK _ ?_; clear hK K) | (refine rops_on rfl rfl ?_ fun K hK => ?_; (focus (simp only [go_sem, reduceIte, Nat.reduceEqDiff, reduceCtorEq, Nat.reduceAdd, Nat.reduceMul, Nat.reduceLT, Nat.reduceLeDiff, Int.reduceToNat, Int.reduceLE, h1, b4, q52a, q52b, c84]; done)); simp only [go_sem, reduceIte, Nat.reduceEqDiff, reduceCtorEq, Nat.reduceAdd, Nat.reduceMul, Nat.reduceLT, Nat.reduceLeDiff, Int.reduceToNat, Int.reduceLE, h1, b4, q52a, q52b, c84]; refine hK _ ?_; clear hK K) | (refine rops_off rfl rfl ?_ ?_; (focus (simp only [go_sem, reduceIte, Nat.reduceEqDiff, reduceCtorEq, Nat.reduceAdd, Nat.reduceMul, Nat.reduceLT, Nat.reduceLeDiff, Int.reduceToNat, Int.reduceLE, h1, b4, q52a, q52b, c84]; done))))
    first | refine rops_nil ?_ | refine ropsD_nil ?_
    try simp only [exs, reduceIte, Nat.reduceEqDiff]
    refine R66 _ ?_ ?_ ?_ ?_ ?_ ?_ ?_ ?_ ?_ ?_ ?_
    · simp only [upd_apply, reduceIte, Nat.reduceEqDiff, h1]
    · simp only [upd_apply, reduceIte, Nat.reduceEqDiff, h2]
    · simp only [upd_apply, reduceIte, Nat.reduceEqDiff, h3]
    · simp only [upd_apply, reduceIte, Nat.reduceEqDiff, h4]
    · (first | (simp only [upd_apply, reduceIte, Nat.reduceEqDiff]; done) | (simp only [go_sem, reduceIte, Nat.reduceEqDiff, reduceCtorEq, Nat.reduceAdd, Nat.reduceMul, Nat.reduceLT, Nat.reduceLeDiff, Int.reduceToNat, Int.reduceLE, fs_all, take_length_map, h1, h2, h3, h4, h20, b4, q52a, q52b, c84] <;> rfl) | rfl)
    · (first | (simp only [upd_apply, reduceIte, Nat.reduceEqDiff]; done) | (simp only [go_sem, reduceIte, Nat.reduceEqDiff, reduceCtorEq, Nat.reduceAdd, Nat.reduceMul, Nat.reduceLT, Nat.reduceLeDiff, Int.reduceToNat, Int.reduceLE, fs_all, take_length_map, h1, h2, h3, h4, h20, b4, q52a, q52b, c84] <;> rfl) | rfl)
    · (first | (simp only [upd_apply, reduceIte, Nat.reduceEqDiff]; done) | (simp only [go_sem, reduceIte, Nat.reduceEqDiff, reduceCtorEq, Nat.reduceAdd, Nat.reduceMul, Nat.reduceLT, Nat.reduceLeDiff, Int.reduceToNat, Int.reduceLE, fs_all, take_length_map, h1, h2, h3, h4, h20, b4, q52a, q52b, c84] <;> rfl) | rfl)
    · (first | (simp only [upd_apply, reduceIte, Nat.reduceEqDiff]; done) | (simp only [go_sem, reduceIte, Nat.reduceEqDiff, reduceCtorEq, Nat.reduceAdd, Nat.reduceMul, Nat.reduceLT, Nat.reduceLeDiff, Int.reduceToNat, Int.reduceLE, fs_all, take_length_map, h1, h2, h3, h4, h20, b4, q52a, q52b, c84] <;> rfl) | rfl)
    · simp only [upd_apply, reduceIte, Nat.reduceEqDiff, b4]
    · (first | (simp only [upd_apply, reduceIte, Nat.reduceEqDiff]; done) | (simp only [go_sem, reduceIte, Nat.reduceEqDiff, reduceCtorEq, Nat.reduceAdd, Nat.reduceMul, Nat.reduceLT, Nat.reduceLeDiff, Int.reduceToNat, Int.reduceLE, fs_all, take_length_map, h1, h2, h3, h4, h20, b4, q52a, q52b, c84] <;> rfl) | rfl)
    · (first | (simp only [upd_apply, reduceIte, Nat.reduceEqDiff]; done) | (simp only [go_sem, reduceIte, Nat.reduceEqDiff, reduceCtorEq, Nat.reduceAdd, Nat.reduceMul, Nat.reduceLT, Nat.reduceLeDiff, Int.reduceToNat, Int.reduceLE, fs_all, take_length_map, h1, h2, h3, h4, h20, b4, q52a, q52b, c84] <;> rfl) | rfl)
  first | refine rops_k ?_ | refine ropsD_k ?_
  repeat (refine rops_ng rfl fun K hK => ?_; simp only [go_sem, reduceIte, Nat.reduceEqDiff, reduceCtorEq, Nat.reduceAdd, Nat.reduceMul, Nat.reduceLT, Nat.reduceLeDiff, Int.reduceToNat, Int.reduceLE, h1]; refine hK _ ?_; clear hK K)
  rcases c86 : (decide ((a0.nodes.length : Int) > 300)) with _ | _
  · repeat (first | (refine rops_ng rfl fun K hK => ?_; simp only [go_sem, reduceIte, Nat.reduceEqDiff, reduceCtorEq, Nat.reduceAdd, Nat.reduceMul, Nat.reduceLT, Nat.reduceLeDiff, Int.reduceToNat, Int.reduceLE, h1, c86]; refine hK _ ?_; clear hK K) | (refine rops_on rfl rfl ?_ fun K hK => ?_; (focus (simp only [go_sem, reduceIte, Nat.reduceEqDiff, reduceCtorEq, Nat.reduceAdd, Nat.reduceMul, Nat.reduceLT, Nat.reduceLeDiff, Int.reduceToNat, Int.reduceLE, h1, c86]; done)); simp only [go_sem, reduceIte, Nat.reduceEqDiff, reduceCtorEq, Nat.reduceAdd, Nat.reduceMul, Nat.reduceLT, Nat.reduceLeDiff, Int.reduceToNat, Int.reduceLE, h1, c86]; refine hK _ ?_; clear hK K) | (refine rops_off rfl rfl ?_ ?_; (focus (simp only [go_sem, reduceIte, Nat.reduceEqDiff, reduceCtorEq, Nat.reduceAdd, Nat.reduceMul, Nat.reduceLT, Nat.reduceLeDiff, Int.reduceToNat, Int.reduceLE, h1, c86]; done))))
    first | refine rops_nil ?_ | refine ropsD_nil ?_
    try simp only [exs, reduceIte, Nat.reduceEqDiff]
    refine R48 _ ?_ ?_ ?_ ?_ ?_ ?_
    · simp only [upd_apply, reduceIte, Nat.reduceEqDiff, h1]
    · simp only [upd_apply, reduceIte, Nat.reduceEqDiff, h2]
    · simp only [upd_apply, reduceIte, Nat.reduceEqDiff, h3]
    · (first | (simp only [upd_apply, reduceIte, Nat.reduceEqDiff]; done) | (simp only [go_sem, reduceIte, Nat.reduceEqDiff, reduceCtorEq, Nat.reduceAdd, Nat.reduceMul, Nat.reduceLT, Nat.reduceLeDiff, Int.reduceToNat, Int.reduceLE, fs_all, take_length_map, h0, h1, h2, h3, c86] <;> rfl) | rfl)
    · (first | (simp only [upd_apply, reduceIte, Nat.reduceEqDiff]; done) | (simp only [go_sem, reduceIte, Nat.reduceEqDiff, reduceCtorEq, Nat.reduceAdd, Nat.reduceMul, Nat.reduceLT, Nat.reduceLeDiff, Int.reduceToNat, Int.reduceLE, fs_all, take_length_map, h0, h1, h2, h3, c86] <;> rfl) | rfl)
    · (first | (simp only [upd_apply, reduceIte, Nat.reduceEqDiff]; done) | (simp only [go_sem, reduceIte, Nat.reduceEqDiff, reduceCtorEq, Nat.reduceAdd, Nat.reduceMul, Nat.reduceLT, Nat.reduceLeDiff, Int.reduceToNat, Int.reduceLE, fs_all, take_length_map, h0, h1, h2, h3, c86] <;> rfl) | rfl)
  repeat (first | (refine rops_ng rfl fun K hK => ?_; simp only [go_sem, reduceIte, Nat.reduceEqDiff, reduceCtorEq, Nat.reduceAdd, Nat.reduceMul, Nat.reduceLT, Nat.reduceLeDiff, Int.reduceToNat, Int.reduceLE, h1, c86]; refine hK _ ?_; clear hK K) | (refine rops_on rfl rfl ?_ fun K hK => ?_; (focus (simp only [go_sem, reduceIte, Nat.reduceEqDiff, reduceCtorEq, Nat.reduceAdd, Nat.reduceMul, Nat.reduceLT, Nat.reduceLeDiff, Int.reduceToNat, Int.reduceLE, h1, c86]; done)); simp only [go_sem, reduceIte, Nat.reduceEqDiff, reduceCtorEq, Nat.reduceAdd, Nat.reduceMul, Nat.reduceLT, Nat.reduceLeDiff, Int.reduceToNat, Int.reduceLE, h1, c86]; refine hK _ ?_; clear hK K) | (refine rops_off rfl rfl ?_ ?_; (focus (simp only [go_sem, reduceIte, Nat.reduceEqDiff, reduceCtorEq, Nat.reduceAdd, Nat.reduceMul, Nat.reduceLT, Nat.reduceLeDiff, Int.reduceToNat, Int.reduceLE, h1, c86]; done))))
  first | refine rops_nil ?_ | refine ropsD_nil ?_
  try simp only [exs, reduceIte, Nat.reduceEqDiff]
  refine R48 _ ?_ ?_ ?_ ?_ ?_ ?_
  · simp only [upd_apply, reduceIte, Nat.reduceEqDiff, h1]
  · simp only [upd_apply, reduceIte, Nat.reduceEqDiff, h2]
  · simp only [upd_apply, reduceIte, Nat.reduceEqDiff, h3]
  · (first | (simp only [upd_apply, reduceIte, Nat.reduceEqDiff]; done) | (simp only [go_sem, reduceIte, Nat.reduceEqDiff, reduceCtorEq, Nat.reduceAdd, Nat.reduceMul, Nat.reduceLT, Nat.reduceLeDiff, Int.reduceToNat, Int.reduceLE, fs_all, take_length_map, h0, h1, h2, h3, c86] <;> rfl) | rfl)
  · (first | (simp only [upd_apply, reduceIte, Nat.reduceEqDiff]; done) | (simp only [go_sem, reduceIte, Nat.reduceEqDiff, reduceCtorEq, Nat.reduceAdd, Nat.reduceMul, Nat.reduceLT, Nat.reduceLeDiff, Int.reduceToNat, Int.reduceLE, fs_all, take_length_map, h0, h1, h2, h3, c86] <;> rfl) | rfl)
  · (first | (simp only [upd_apply, reduceIte, Nat.reduceEqDiff]; done) | (simp only [go_sem, reduceIte, Nat.reduceEqDiff, reduceCtorEq, Nat.reduceAdd, Nat.reduceMul, Nat.reduceLT, Nat.reduceLeDiff, Int.reduceToNat, Int.reduceLE, fs_all, take_length_map, h0, h1, h2, h3, c86] <;> rfl) | rfl)

end Go.Proofs.Mm
