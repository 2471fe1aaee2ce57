import Derived.Test.YtoelfoplajpgnaaEvLift
import Derived.Test.YtoelfoplajpgnaaMmF
import Derived.Test.YtoelfoplajpgnaaL20
import Derived.Test.YtoelfoplajpgnaaL33
import Derived.Test.YtoelfoplajpgnaaLS1
set_option linter.unusedVariables false
set_option linter.unusedSimpArgs false
set_option linter.unusedSectionVars false

namespace Go.Proofs.Mm
open Go Go.Ev

-- topiary/topiaryref02.below
def F26_J1  : Option (Bool) :=
  some false

def F26_L1 (N : Nat) (a0 : Mdl) : Nat → Int → Nd → Option (Bool)
  | 0, _, _ => none
  | n389 + 1, p354, p355 =>
    bif decide (p354 ≤ 64) then
      bif p355.parent == 0 then
        some (p355.role == [])
      else
        (F20 N a0 p355.parent).bind fun x400 =>
        bindG (!(decide (x400 < 0))) (F33 N p355.role) fun x404 =>
        bindG (!((decide (x400 < 0)) || (!x404))) (getO a0.nodes x400) fun x405 =>
        bindG (!((decide (x400 < 0)) || (!x404))) (F34 N x405.kids p355.id) fun x406 =>
        bif ((decide (x400 < 0)) || (!x404)) || (!x406) then
          some false
        else
          (getO a0.nodes x400).bind fun x414 =>
          (F26_L1 N a0 n389) (IntKind.i64.wrap (p354 + 1)) x414
    else
      F26_J1 

def F26 (N : Nat) (a0 : Mdl) (a1 : Nd) : Option (Bool) :=
  F26_L1 N a0 N 1 a1

set_option maxHeartbeats 4000000 in
theorem F26_does (E : Env) (N : Nat) (a0 : Mdl) (a1 : Nd) (r : Bool) (h : F26 N a0 a1 = some r) : Does Try.prog E 26 [.agg [.fl (.int .i64 a0.next), .sl (List.map Nd.av a0.nodes)], .agg [.fl (.int .i64 a1.id), .fl (bs a1.concept), .fl (.int .i64 a1.parent), .fl (bs a1.role), .sl (List.map Prp.av a1.props), .sl (List.map intAV a1.kids), .sl (List.map Rf.av a1.refs)]] (.ret [.v (.fl (.bool r))]) := by
  refine does_run Try.func26 Try.ntmps26 rfl rfl (by simp) fun w0 I0 s hr hb => ?_
  have h0 := hr 0
  have h1 := hr 1
  simp only [List.map_cons, List.map_nil, List.getElem?_cons_zero, List.getElem?_cons_succ, Option.getD_some] at h0 h1
  unfold F26 at h
  refine awp_seq fun K212 hK212 => ?_
  refine awp_region rfl (by kernel_rfl) ?_
  first | refine rops_k ?_ | refine ropsD_k ?_
  repeat (refine rops_ng rfl fun K hK => ?_; simp only [go_sem, reduceIte, Nat.reduceEqDiff, reduceCtorEq, Nat.reduceAdd, Nat.reduceMul, Nat.reduceLT, Nat.reduceLeDiff, Int.reduceToNat, Int.reduceLE, h0, h1]; refine hK _ ?_; clear hK K)
  first | refine rops_nil ?_ | refine ropsD_nil ?_
  try simp only [exs, reduceIte, Nat.reduceEqDiff]
  refine hK212 _ ?_
  refine awp_seq fun K213 hK213 => ?_
  have J1 : ∀  (s317 : St), True → F26_J1  = some r → K213 s317 := by
    intro  s317 _ h
    unfold F26_J1 at h
    refine hK213 _ ?_
    refine awp_seq fun K318 hK318 => ?_
    refine awp_region rfl (by kernel_rfl) ?_
    first | refine rops_k ?_ | refine ropsD_k ?_
    repeat (refine rops_ng rfl fun K hK => ?_; simp only [go_sem, reduceIte, Nat.reduceEqDiff, reduceCtorEq, Nat.reduceAdd, Nat.reduceMul, Nat.reduceLT, Nat.reduceLeDiff, Int.reduceToNat, Int.reduceLE]; refine hK _ ?_; clear hK K)
    first | refine rops_nil ?_ | refine ropsD_nil ?_
    try simp only [exs, reduceIte, Nat.reduceEqDiff]
    refine hK318 _ ?_
    have h := Option.some.inj h
    subst h
    refine awp_ret ?_
    try simp only [exs, reduceIte, Nat.reduceEqDiff]
    refine fin_ret (vs := [.tmp 4]) Try.ntmps26 rfl (by simp [List.filter_cons, isOwn]) none ?_
    (simp only [resultsAre, resCell, loadRegs, regRV, go_sem, reduceIte, Nat.reduceEqDiff, reduceCtorEq, Nat.reduceAdd, Nat.reduceMul, Nat.reduceLT, Nat.reduceLeDiff, Int.reduceToNat, Int.reduceLE, fs_all, take_length_map] <;> rfl)
  refine awp_seq fun K319 hK319 => ?_
  refine awp_region rfl (by kernel_rfl) ?_
  first | refine rops_k ?_ | refine ropsD_k ?_
  repeat (refine rops_ng rfl fun K hK => ?_; simp only [go_sem, reduceIte, Nat.reduceEqDiff, reduceCtorEq, Nat.reduceAdd, Nat.reduceMul, Nat.reduceLT, Nat.reduceLeDiff, Int.reduceToNat, Int.reduceLE]; refine hK _ ?_; clear hK K)
  first | refine rops_nil ?_ | refine ropsD_nil ?_
  try simp only [exs, reduceIte, Nat.reduceEqDiff]
  refine hK319 _ ?_
  refine awp_block ?_
  refine awp_loopK (fun m s388 => ∃ (p354 : Int) (p355 : Nd), s388.r 2 = .loc 2 (s388.g 2) 0 0 0 ∧ s388.r 3 = .loc 3 (s388.g 3) 0 0 0 ∧ s388.r 5 = .val (.fl (.int .i64 p354)) ∧ s388.b 2 = some (.cells [.val (.fl (.int .i64 a0.next)), .val (.sl (List.map Nd.av a0.nodes))]) ∧ s388.b 3 = some (.cells [.val (.fl (.int .i64 p355.id)), .val (.fl (bs p355.concept)), .val (.fl (.int .i64 p355.parent)), .val (.fl (bs p355.role)), .val (.sl (List.map Prp.av p355.props)), .val (.sl (List.map intAV p355.kids)), .val (.sl (List.map Rf.av p355.refs))]) ∧  F26_L1 N a0 m p354 p355 = some r) N ?_ ?_
  · refine ⟨1, a1, ?_, ?_, ?_, ?_, ?_, h⟩
    · (first | (simp only [upd_apply, reduceIte, Nat.reduceEqDiff]; done) | (simp only [go_sem, reduceIte, Nat.reduceEqDiff, reduceCtorEq, Nat.reduceAdd, Nat.reduceMul, Nat.reduceLT, Nat.reduceLeDiff, Int.reduceToNat, Int.reduceLE, fs_all, take_length_map, h0, h1] <;> rfl) | rfl)
    · (first | (simp only [upd_apply, reduceIte, Nat.reduceEqDiff]; done) | (simp only [go_sem, reduceIte, Nat.reduceEqDiff, reduceCtorEq, Nat.reduceAdd, Nat.reduceMul, Nat.reduceLT, Nat.reduceLeDiff, Int.reduceToNat, Int.reduceLE, fs_all, take_length_map, h0, h1] <;> rfl) | rfl)
    · (first | (simp only [upd_apply, reduceIte, Nat.reduceEqDiff]; done) | (simp only [go_sem, reduceIte, Nat.reduceEqDiff, reduceCtorEq, Nat.reduceAdd, Nat.reduceMul, Nat.reduceLT, Nat.reduceLeDiff, Int.reduceToNat, Int.reduceLE, fs_all, take_length_map, h0, h1] <;> rfl) | rfl)
    · (first | (simp only [upd_apply, reduceIte, Nat.reduceEqDiff]; done) | (simp only [go_sem, reduceIte, Nat.reduceEqDiff, reduceCtorEq, Nat.reduceAdd, Nat.reduceMul, Nat.reduceLT, Nat.reduceLeDiff, Int.reduceToNat, Int.reduceLE, fs_all, take_length_map, h0, h1] <;> rfl) | rfl)
    · (first | (simp only [upd_apply, reduceIte, Nat.reduceEqDiff]; done) | (simp only [go_sem, reduceIte, Nat.reduceEqDiff, reduceCtorEq, Nat.reduceAdd, Nat.reduceMul, Nat.reduceLT, Nat.reduceLeDiff, Int.reduceToNat, Int.reduceLE, fs_all, take_length_map, h0, h1] <;> rfl) | rfl)
  clear h
  intro m390 s388 hI K320 hK320
  obtain ⟨p354, p355, h2, h3, h5, b2, b3, h⟩ := hI
  rcases m390 with _ | n389
  · simp only [F26_L1, reduceCtorEq] at h
  rw [F26_L1] at h
  refine awp_seq fun K391 hK391 => ?_
  refine awp_seq fun K392 hK392 => ?_
  refine awp_region rfl (by kernel_rfl) ?_
  first | refine rops_k ?_ | refine ropsD_k ?_
  repeat (refine rops_ng rfl fun K hK => ?_; simp only [go_sem, reduceIte, Nat.reduceEqDiff, reduceCtorEq, Nat.reduceAdd, Nat.reduceMul, Nat.reduceLT, Nat.reduceLeDiff, Int.reduceToNat, Int.reduceLE, h5, b2, b3]; refine hK _ ?_; clear hK K)
  first | refine rops_nil ?_ | refine ropsD_nil ?_
  try simp only [exs, reduceIte, Nat.reduceEqDiff]
  refine hK392 _ ?_
  refine awp_if (by kernel_rfl) (by (simp only [upd_apply, reduceIte, Nat.reduceEqDiff, St.ev, constReg, constCell, St.put_some, St.put_none, h2, h3, h5, b2, b3] <;> rfl)) (fun hc => ?_) (fun hc => ?_)
  · have c393 : (decide (p354 ≤ 64)) = true := by first | exact hc | simpa using hc
    clear hc
    rw [c393] at h
    simp only [cond_true, cond_false] at h
    refine awp_skip ?_
    try simp only [exs, reduceIte, Nat.reduceEqDiff]
    refine hK391 _ ?_
    refine awp_seq fun K394 hK394 => ?_
    refine awp_block ?_
    refine awp_seq fun K395 hK395 => ?_
    refine awp_seq fun K396 hK396 => ?_
    refine awp_region rfl (by kernel_rfl) ?_
    first | refine rops_k ?_ | refine ropsD_k ?_
    repeat (refine rops_ng rfl fun K hK => ?_; simp only [go_sem, reduceIte, Nat.reduceEqDiff, reduceCtorEq, Nat.reduceAdd, Nat.reduceMul, Nat.reduceLT, Nat.reduceLeDiff, Int.reduceToNat, Int.reduceLE, h3, b2, b3]; refine hK _ ?_; clear hK K)
    first | refine rops_nil ?_ | refine ropsD_nil ?_
    try simp only [exs, reduceIte, Nat.reduceEqDiff]
    refine hK396 _ ?_
    refine awp_if (by kernel_rfl) (by (simp only [upd_apply, reduceIte, Nat.reduceEqDiff, St.ev, constReg, constCell, St.put_some, St.put_none, h2, h3, h5, b2, b3] <;> rfl)) (fun hc => ?_) (fun hc => ?_)
    · have c397 : (p355.parent == 0) = true := by first | exact hc | simpa using hc
      clear hc
      rw [c397] at h
      simp only [cond_true, cond_false] at h
      refine awp_seq fun K398 hK398 => ?_
      refine awp_region rfl (by kernel_rfl) ?_
      first | refine rops_k ?_ | refine ropsD_k ?_
      repeat (refine rops_ng rfl fun K hK => ?_; simp only [go_sem, reduceIte, Nat.reduceEqDiff, reduceCtorEq, Nat.reduceAdd, Nat.reduceMul, Nat.reduceLT, Nat.reduceLeDiff, Int.reduceToNat, Int.reduceLE, h3, b2, b3]; refine hK _ ?_; clear hK K)
      first | refine rops_nil ?_ | refine ropsD_nil ?_
      try simp only [exs, reduceIte, Nat.reduceEqDiff]
      refine hK398 _ ?_
      have h := Option.some.inj h
      subst h
      refine awp_ret ?_
      try simp only [exs, reduceIte, Nat.reduceEqDiff]
      refine fin_ret (vs := [.tmp 4]) Try.ntmps26 rfl (by simp [List.filter_cons, isOwn]) none ?_
      (simp only [resultsAre, resCell, loadRegs, regRV, go_sem, reduceIte, Nat.reduceEqDiff, reduceCtorEq, Nat.reduceAdd, Nat.reduceMul, Nat.reduceLT, Nat.reduceLeDiff, Int.reduceToNat, Int.reduceLE, fs_all, take_length_map, h2, h3, h5, b2, b3] <;> rfl)
    have c397 : (p355.parent == 0) = false := by first | exact hc | simpa using hc
    clear hc
    rw [c397] at h
    simp only [cond_true, cond_false] at h
    refine awp_skip ?_
    try simp only [exs, reduceIte, Nat.reduceEqDiff]
    refine hK395 _ ?_
    refine awp_seq fun K399 hK399 => ?_
    obtain ⟨x400, q401, h⟩ := bind_some h
    refine awp_region rfl (by kernel_rfl) ?_
    first | refine rops_k ?_ | refine ropsD_k ?_
    repeat (refine rops_ng rfl fun K hK => ?_; simp only [go_sem, reduceIte, Nat.reduceEqDiff, reduceCtorEq, Nat.reduceAdd, Nat.reduceMul, Nat.reduceLT, Nat.reduceLeDiff, Int.reduceToNat, Int.reduceLE, h2, h3, b2, b3]; refine hK _ ?_; clear hK K)
    refine rops_ng rfl fun K hK => ?_
    simp only [List.head?_cons, List.head?_nil, Option.map_some, Option.map_none, rops1, ropsD1, gtmp, gate, beq_self_eq_true, beq_t, beq_f, Bool.not_true, Bool.not_false, if_true, rOp, rOpD, calleeOf, regAVsOf, regAV, List.getElem?_toArray, List.getElem?_cons_zero, List.getElem?_cons_succ, Option.bind_some, upd_apply, reduceIte, Nat.reduceEqDiff, St.ev, constReg, constCell, St.put_some, St.put_none, h2, h3, h5, b2, b3]
    refine .inl ⟨_, _, rfl, _, rfl, _, (F20_does _ N a0 p355.parent  _ q401), ?_⟩
    simp only [flRV, outK, St.take, St.takeRVs, St.takeRV, retReg, St.put_some, St.put_none, List.map_cons, List.map_nil]
    refine hK _ ?_; clear hK K
    repeat (refine rops_ng rfl fun K hK => ?_; simp only [go_sem, reduceIte, Nat.reduceEqDiff, reduceCtorEq, Nat.reduceAdd, Nat.reduceMul, Nat.reduceLT, Nat.reduceLeDiff, Int.reduceToNat, Int.reduceLE, h2, h3, b2, b3]; refine hK _ ?_; clear hK K)
    first | refine rops_nil ?_ | refine ropsD_nil ?_
    try simp only [exs, reduceIte, Nat.reduceEqDiff]
    refine hK399 _ ?_
    refine awp_seq fun K402 hK402 => ?_
    refine awp_seq fun K403 hK403 => ?_
    obtain ⟨x404, q407, h⟩ := bindG_some h
    obtain ⟨x405, q408, h⟩ := bindG_some h
    obtain ⟨x406, q409, h⟩ := bindG_some h
    refine awp_draw (by kernel_rfl) rfl (by kernel_rfl) (by kernel_rfl) ?_
    have R411 : ∀ s410 : St, (s410.r 2 = .loc 2 (s410.g 2) 0 0 0) → (s410.r 3 = .loc 3 (s410.g 3) 0 0 0) → (s410.r 5 = .val (.fl (.int .i64 p354))) → (s410.r 6 = .val (.fl (.int .i64 x400))) → (s410.r 40 = .val (.fl (.bool (((decide (x400 < 0)) || (!x404)) || (!x406))))) → (s410.b 2 = some (.cells [.val (.fl (.int .i64 a0.next)), .val (.sl (List.map Nd.av a0.nodes))])) → (s410.b 3 = some (.cells [.val (.fl (.int .i64 p355.id)), .val (.fl (bs p355.concept)), .val (.fl (.int .i64 p355.parent)), .val (.fl (bs p355.role)), .val (.sl (List.map Prp.av p355.props)), .val (.sl (List.map intAV p355.kids)), .val (.sl (List.map Rf.av p355.refs))])) → K403 s410 := by
      intro s410 h2 h3 h5 h6 h40 b2 b3
      refine hK403 _ ?_
      refine awp_if (by kernel_rfl) (by (simp only [upd_apply, reduceIte, Nat.reduceEqDiff, St.ev, constReg, constCell, St.put_some, St.put_none, h2, h3, h5, h6, h40, b2, b3] <;> rfl)) (fun hc => ?_) (fun hc => ?_)
      · have c412 : (((decide (x400 < 0)) || (!x404)) || (!x406)) = true := by first | exact hc | simpa using hc
        clear hc
        rw [c412] at h
        simp only [cond_true, cond_false] at h
        refine awp_seq fun K413 hK413 => ?_
        refine awp_region rfl (by kernel_rfl) ?_
        first | refine rops_k ?_ | refine ropsD_k ?_
        repeat (refine rops_ng rfl fun K hK => ?_; simp only [go_sem, reduceIte, Nat.reduceEqDiff, reduceCtorEq, Nat.reduceAdd, Nat.reduceMul, Nat.reduceLT, Nat.reduceLeDiff, Int.reduceToNat, Int.reduceLE, b2, b3]; refine hK _ ?_; clear hK K)
        first | refine rops_nil ?_ | refine ropsD_nil ?_
        try simp only [exs, reduceIte, Nat.reduceEqDiff]
        refine hK413 _ ?_
        have h := Option.some.inj h
        subst h
        refine awp_ret ?_
        try simp only [exs, reduceIte, Nat.reduceEqDiff]
        refine fin_ret (vs := [.tmp 4]) Try.ntmps26 rfl (by simp [List.filter_cons, isOwn]) none ?_
        (simp only [resultsAre, resCell, loadRegs, regRV, go_sem, reduceIte, Nat.reduceEqDiff, reduceCtorEq, Nat.reduceAdd, Nat.reduceMul, Nat.reduceLT, Nat.reduceLeDiff, Int.reduceToNat, Int.reduceLE, fs_all, take_length_map, h2, h3, h5, h6, h40, b2, b3] <;> rfl)
      have c412 : (((decide (x400 < 0)) || (!x404)) || (!x406)) = false := by first | exact hc | simpa using hc
      clear hc
      rw [c412] at h
      simp only [cond_true, cond_false] at h
      refine awp_skip ?_
      try simp only [exs, reduceIte, Nat.reduceEqDiff]
      refine hK402 _ ?_
      obtain ⟨x414, q415, h⟩ := bind_some h
      obtain ⟨q415i, q415e, q415l⟩ := getO_some q415
      refine awp_region rfl (by kernel_rfl) ?_
      first | refine rops_k ?_ | refine ropsD_k ?_
      repeat (refine rops_ng rfl fun K hK => ?_; simp only [go_sem, reduceIte, Nat.reduceEqDiff, reduceCtorEq, Nat.reduceAdd, Nat.reduceMul, Nat.reduceLT, Nat.reduceLeDiff, Int.reduceToNat, Int.reduceLE, h2, h3, h6, b2, b3, q415i, q415e, q415l]; refine hK _ ?_; clear hK K)
      first | refine rops_nil ?_ | refine ropsD_nil ?_
      try simp only [exs, reduceIte, Nat.reduceEqDiff]
      refine hK394 _ ?_
      refine awp_region rfl (by kernel_rfl) ?_
      first | refine rops_k ?_ | refine ropsD_k ?_
      repeat (refine rops_ng rfl fun K hK => ?_; simp only [go_sem, reduceIte, Nat.reduceEqDiff, reduceCtorEq, Nat.reduceAdd, Nat.reduceMul, Nat.reduceLT, Nat.reduceLeDiff, Int.reduceToNat, Int.reduceLE, h5, b2, b3, q415i, q415e, q415l]; refine hK _ ?_; clear hK K)
      first | refine rops_nil ?_ | refine ropsD_nil ?_
      try simp only [exs, reduceIte, Nat.reduceEqDiff]
      refine hK320 _ ⟨n389, Nat.lt_succ_self _, (IntKind.i64.wrap (p354 + 1)), x414, ?_, ?_, ?_, ?_, ?_, h⟩
      · simp only [upd_apply, reduceIte, Nat.reduceEqDiff, h2]
      · simp only [upd_apply, reduceIte, Nat.reduceEqDiff, h3]
      · (first | (simp only [upd_apply, reduceIte, Nat.reduceEqDiff, h5]; done) | (simp only [go_sem, reduceIte, Nat.reduceEqDiff, reduceCtorEq, Nat.reduceAdd, Nat.reduceMul, Nat.reduceLT, Nat.reduceLeDiff, Int.reduceToNat, Int.reduceLE, fs_all, take_length_map, h2, h3, h5, h6, h40, b2, b3, q415i, q415e, q415l] <;> rfl) | rfl)
      · simp only [upd_apply, reduceIte, Nat.reduceEqDiff, b2]
      · (first | (simp only [upd_apply, reduceIte, Nat.reduceEqDiff, b3]; done) | (simp only [go_sem, reduceIte, Nat.reduceEqDiff, reduceCtorEq, Nat.reduceAdd, Nat.reduceMul, Nat.reduceLT, Nat.reduceLeDiff, Int.reduceToNat, Int.reduceLE, fs_all, take_length_map, h2, h3, h5, h6, h40, b2, b3, q415i, q415e, q415l] <;> rfl) | rfl)
    first | refine rops_k ?_ | refine ropsD_k ?_
    repeat (refine ropsD_ng rfl fun K hK => ?_; simp only [go_sem, reduceIte, Nat.reduceEqDiff, reduceCtorEq, Nat.reduceAdd, Nat.reduceMul, Nat.reduceLT, Nat.reduceLeDiff, Int.reduceToNat, Int.reduceLE, h2, h3, b2, b3]; refine hK _ ?_; clear hK K)
    rcases c416 : (decide (x400 < 0)) with _ | _
    · have q417 := q407 (by simp only [c416, fs_bool, beq_t, beq_f, beq_self_eq_true])
      repeat (first | (refine ropsD_ng rfl fun K hK => ?_; simp only [go_sem, reduceIte, Nat.reduceEqDiff, reduceCtorEq, Nat.reduceAdd, Nat.reduceMul, Nat.reduceLT, Nat.reduceLeDiff, Int.reduceToNat, Int.reduceLE, h2, h3, b2, b3, c416]; refine hK _ ?_; clear hK K) | (refine ropsD_on rfl rfl ?_ fun K hK => ?_; (focus (simp only [go_sem, reduceIte, Nat.reduceEqDiff, reduceCtorEq, Nat.reduceAdd, Nat.reduceMul, Nat.reduceLT, Nat.reduceLeDiff, Int.reduceToNat, Int.reduceLE, h2, h3, b2, b3, c416]; done)); simp only [go_sem, reduceIte, Nat.reduceEqDiff, reduceCtorEq, Nat.reduceAdd, Nat.reduceMul, Nat.reduceLT, Nat.reduceLeDiff, Int.reduceToNat, Int.reduceLE, h2, h3, b2, b3, c416]; refine hK _ ?_; clear hK K) | (refine ropsD_off rfl rfl ?_ ?_; (focus (simp only [go_sem, reduceIte, Nat.reduceEqDiff, reduceCtorEq, Nat.reduceAdd, Nat.reduceMul, Nat.reduceLT, Nat.reduceLeDiff, Int.reduceToNat, Int.reduceLE, h2, h3, b2, b3, c416]; done))))
      refine ropsD_on rfl rfl (by simp only [gate, beq_self_eq_true, beq_t, beq_f, Bool.not_true, Bool.not_false, Bool.true_eq_false, Bool.false_eq_true, upd_apply, reduceIte, Nat.reduceEqDiff, St.put_some, St.put_none, h2, h3, h5, b2, b3, c416]) fun K hK => ?_
      simp only [List.head?_cons, List.head?_nil, Option.map_some, Option.map_none, rops1, ropsD1, gtmp, gate, beq_self_eq_true, beq_t, beq_f, Bool.not_true, Bool.not_false, if_true, rOp, rOpD, calleeOf, regAVsOf, regAV, List.getElem?_toArray, List.getElem?_cons_zero, List.getElem?_cons_succ, Option.bind_some, upd_apply, reduceIte, Nat.reduceEqDiff, St.ev, constReg, constCell, St.put_some, St.put_none, h2, h3, h5, b2, b3, c416]
      refine ⟨_, _, rfl, _, rfl, _, (F33_does _ N p355.role  _ q417), _, rfl, ?_⟩
      simp only [flRV, outK, St.take, St.takeRVs, St.takeRV, retReg, St.put_some, St.put_none, List.map_cons, List.map_nil]
      refine hK _ ?_; clear hK K
      repeat (first | (refine ropsD_ng rfl fun K hK => ?_; simp only [go_sem, reduceIte, Nat.reduceEqDiff, reduceCtorEq, Nat.reduceAdd, Nat.reduceMul, Nat.reduceLT, Nat.reduceLeDiff, Int.reduceToNat, Int.reduceLE, h2, h3, b2, b3, c416]; refine hK _ ?_; clear hK K) | (refine ropsD_on rfl rfl ?_ fun K hK => ?_; (focus (simp only [go_sem, reduceIte, Nat.reduceEqDiff, reduceCtorEq, Nat.reduceAdd, Nat.reduceMul, Nat.reduceLT, Nat.reduceLeDiff, Int.reduceToNat, Int.reduceLE, h2, h3, b2, b3, c416]; done)); simp only [go_sem, reduceIte, Nat.reduceEqDiff, reduceCtorEq, Nat.reduceAdd, Nat.reduceMul, Nat.reduceLT, Nat.reduceLeDiff, Int.reduceToNat, Int.reduceLE, h2, h3, b2, b3, c416]; refine hK _ ?_; clear hK K) | (refine ropsD_off rfl rfl ?_ ?_; (focus (simp only [go_sem, reduceIte, Nat.reduceEqDiff, reduceCtorEq, Nat.reduceAdd, Nat.reduceMul, Nat.reduceLT, Nat.reduceLeDiff, Int.reduceToNat, Int.reduceLE, h2, h3, b2, b3, c416]; done))))
      rcases c418 : (x404) with _ | _
      · repeat (first | (refine ropsD_ng rfl fun K hK => ?_; simp only [go_sem, reduceIte, Nat.reduceEqDiff, reduceCtorEq, Nat.reduceAdd, Nat.reduceMul, Nat.reduceLT, Nat.reduceLeDiff, Int.reduceToNat, Int.reduceLE, h2, h3, b2, b3, c416, c418]; refine hK _ ?_; clear hK K) | (refine ropsD_on rfl rfl ?_ fun K hK => ?_; (focus (simp only [go_sem, reduceIte, Nat.reduceEqDiff, reduceCtorEq, Nat.reduceAdd, Nat.reduceMul, Nat.reduceLT, Nat.reduceLeDiff, Int.reduceToNat, Int.reduceLE, h2, h3, b2, b3, c416, c418]; done)); simp only [go_sem, reduceIte, Nat.reduceEqDiff, reduceCtorEq, Nat.reduceAdd, Nat.reduceMul, Nat.reduceLT, Nat.reduceLeDiff, Int.reduceToNat, Int.reduceLE, h2, h3, b2, b3, c416, c418]; refine hK _ ?_; clear hK K) | (refine ropsD_off rfl rfl ?_ ?_; (focus (simp only [go_sem, reduceIte, Nat.reduceEqDiff, reduceCtorEq, Nat.reduceAdd, Nat.reduceMul, Nat.reduceLT, Nat.reduceLeDiff, Int.reduceToNat, Int.reduceLE, h2, h3, b2, b3, c416, c418]; done))))
        first | refine rops_nil ?_ | refine ropsD_nil ?_
        try simp only [exs, reduceIte, Nat.reduceEqDiff]
        refine R411 _ ?_ ?_ ?_ ?_ ?_ ?_ ?_
        · simp only [upd_apply, reduceIte, Nat.reduceEqDiff, h2]
        · simp only [upd_apply, reduceIte, Nat.reduceEqDiff, h3]
        · simp only [upd_apply, reduceIte, Nat.reduceEqDiff, h5]
        · (first | (simp only [upd_apply, reduceIte, Nat.reduceEqDiff]; done) | (simp only [go_sem, reduceIte, Nat.reduceEqDiff, reduceCtorEq, Nat.reduceAdd, Nat.reduceMul, Nat.reduceLT, Nat.reduceLeDiff, Int.reduceToNat, Int.reduceLE, fs_all, take_length_map, h2, h3, h5, b2, b3, c416, c418] <;> rfl) | rfl)
        · (first | (simp only [upd_apply, reduceIte, Nat.reduceEqDiff]; done) | (simp only [go_sem, reduceIte, Nat.reduceEqDiff, reduceCtorEq, Nat.reduceAdd, Nat.reduceMul, Nat.reduceLT, Nat.reduceLeDiff, Int.reduceToNat, Int.reduceLE, fs_all, take_length_map, h2, h3, h5, b2, b3, c416, c418] <;> rfl) | rfl)
        · simp only [upd_apply, reduceIte, Nat.reduceEqDiff, b2]
        · simp only [upd_apply, reduceIte, Nat.reduceEqDiff, b3]
      have q419 := q408 (by simp only [c416, c418, fs_bool, beq_t, beq_f, beq_self_eq_true])
      obtain ⟨q419i, q419e, q419l⟩ := getO_some q419
      have q420 := q409 (by simp only [c416, c418, fs_bool, beq_t, beq_f, beq_self_eq_true])
      repeat (first | (refine ropsD_ng rfl fun K hK => ?_; simp only [go_sem, reduceIte, Nat.reduceEqDiff, reduceCtorEq, Nat.reduceAdd, Nat.reduceMul, Nat.reduceLT, Nat.reduceLeDiff, Int.reduceToNat, Int.reduceLE, h2, h3, b2, b3, q419i, q419e, q419l, c416, c418]; refine hK _ ?_; clear hK K) | (refine ropsD_on rfl rfl ?_ fun K hK => ?_; (focus (simp only [go_sem, reduceIte, Nat.reduceEqDiff, reduceCtorEq, Nat.reduceAdd, Nat.reduceMul, Nat.reduceLT, Nat.reduceLeDiff, Int.reduceToNat, Int.reduceLE, h2, h3, b2, b3, q419i, q419e, q419l, c416, c418]; done)); simp only [go_sem, reduceIte, Nat.reduceEqDiff, reduceCtorEq, Nat.reduceAdd, Nat.reduceMul, Nat.reduceLT, Nat.reduceLeDiff, Int.reduceToNat, Int.reduceLE, h2, h3, b2, b3, q419i, q419e, q419l, c416, c418]; refine hK _ ?_; clear hK K) | (refine ropsD_off rfl rfl ?_ ?_; (focus (simp only [go_sem, reduceIte, Nat.reduceEqDiff, reduceCtorEq, Nat.reduceAdd, Nat.reduceMul, Nat.reduceLT, Nat.reduceLeDiff, Int.reduceToNat, Int.reduceLE, h2, h3, b2, b3, q419i, q419e, q419l, c416, c418]; done))))
      refine ropsD_on rfl rfl (by simp only [gate, beq_self_eq_true, beq_t, beq_f, Bool.not_true, Bool.not_false, Bool.true_eq_false, Bool.false_eq_true, upd_apply, reduceIte, Nat.reduceEqDiff, St.put_some, St.put_none, h2, h3, h5, b2, b3, q419i, q419e, q419l, c416, c418]) fun K hK => ?_
      simp only [List.head?_cons, List.head?_nil, Option.map_some, Option.map_none, rops1, ropsD1, gtmp, gate, beq_self_eq_true, beq_t, beq_f, Bool.not_true, Bool.not_false, if_true, rOp, rOpD, calleeOf, regAVsOf, regAV, List.getElem?_toArray, List.getElem?_cons_zero, List.getElem?_cons_succ, Option.bind_some, upd_apply, reduceIte, Nat.reduceEqDiff, St.ev, constReg, constCell, St.put_some, St.put_none, h2, h3, h5, b2, b3, q419i, q419e, q419l, c416, c418]
      refine ⟨_, _, rfl, _, rfl, _, (F34_does _ N x405.kids p355.id  _ q420), _, rfl, ?_⟩
      simp only [flRV, outK, St.take, St.takeRVs, St.takeRV, retReg, St.put_some, St.put_none, List.map_cons, List.map_nil]
      refine hK _ ?_; clear hK K
      repeat (first | (refine ropsD_ng rfl fun K hK => ?_; simp only [go_sem, reduceIte, Nat.reduceEqDiff, reduceCtorEq, Nat.reduceAdd, Nat.reduceMul, Nat.reduceLT, Nat.reduceLeDiff, Int.reduceToNat, Int.reduceLE, h2, h3, b2, b3, q419i, q419e, q419l, c416, c418]; refine hK _ ?_; clear hK K) | (refine ropsD_on rfl rfl ?_ fun K hK => ?_; (focus (simp only [go_sem, reduceIte, Nat.reduceEqDiff, reduceCtorEq, Nat.reduceAdd, Nat.reduceMul, Nat.reduceLT, Nat.reduceLeDiff, Int.reduceToNat, Int.reduceLE, h2, h3, b2, b3, q419i, q419e, q419l, c416, c418]; done)); simp only [go_sem, reduceIte, Nat.reduceEqDiff, reduceCtorEq, Nat.reduceAdd, Nat.reduceMul, Nat.reduceLT, Nat.reduceLeDiff, Int.reduceToNat, Int.reduceLE, h2, h3, b2, b3, q419i, q419e, q419l, c416, c418]; refine hK _ ?_; clear hK K) | (refine ropsD_off rfl rfl ?_ ?_; (focus (simp only [go_sem, reduceIte, Nat.reduceEqDiff, reduceCtorEq, Nat.reduceAdd, Nat.reduceMul, Nat.reduceLT, Nat.reduceLeDiff, Int.reduceToNat, Int.reduceLE, h2, h3, b2, b3, q419i, q419e, q419l, c416, c418]; done))))
      first | refine rops_nil ?_ | refine ropsD_nil ?_
      try simp only [exs, reduceIte, Nat.reduceEqDiff]
      refine R411 _ ?_ ?_ ?_ ?_ ?_ ?_ ?_
      · simp only [upd_apply, reduceIte, Nat.reduceEqDiff, h2]
      · simp only [upd_apply, reduceIte, Nat.reduceEqDiff, h3]
      · simp only [upd_apply, reduceIte, Nat.reduceEqDiff, h5]
      · (first | (simp only [upd_apply, reduceIte, Nat.reduceEqDiff]; done) | (simp only [go_sem, reduceIte, Nat.reduceEqDiff, reduceCtorEq, Nat.reduceAdd, Nat.reduceMul, Nat.reduceLT, Nat.reduceLeDiff, Int.reduceToNat, Int.reduceLE, fs_all, take_length_map, h2, h3, h5, b2, b3, q419i, q419e, q419l, c416, c418] <;> rfl) | rfl)
      · (first | (simp only [upd_apply, reduceIte, Nat.reduceEqDiff]; done) | (simp only [go_sem, reduceIte, Nat.reduceEqDiff, reduceCtorEq, Nat.reduceAdd, Nat.reduceMul, Nat.reduceLT, Nat.reduceLeDiff, Int.reduceToNat, Int.reduceLE, fs_all, take_length_map, h2, h3, h5, b2, b3, q419i, q419e, q419l, c416, c418] <;> rfl) | rfl)
      · simp only [upd_apply, reduceIte, Nat.reduceEqDiff, b2]
      · simp only [upd_apply, reduceIte, Nat.reduceEqDiff, b3]
    repeat (first | (refine ropsD_ng rfl fun K hK => ?_; simp only [go_sem, reduceIte, Nat.reduceEqDiff, reduceCtorEq, Nat.reduceAdd, Nat.reduceMul, Nat.reduceLT, Nat.reduceLeDiff, Int.reduceToNat, Int.reduceLE, h2, h3, b2, b3, c416]; refine hK _ ?_; clear hK K) | (refine ropsD_on rfl rfl ?_ fun K hK => ?_; (focus (simp only [go_sem, reduceIte, Nat.reduceEqDiff, reduceCtorEq, Nat.reduceAdd, Nat.reduceMul, Nat.reduceLT, Nat.reduceLeDiff, Int.reduceToNat, Int.reduceLE, h2, h3, b2, b3, c416]; done)); simp only [go_sem, reduceIte, Nat.reduceEqDiff, reduceCtorEq, Nat.reduceAdd, Nat.reduceMul, Nat.reduceLT, Nat.reduceLeDiff, Int.reduceToNat, Int.reduceLE, h2, h3, b2, b3, c416]; refine hK _ ?_; clear hK K) | (refine ropsD_off rfl rfl ?_ ?_; (focus (simp only [go_sem, reduceIte, Nat.reduceEqDiff, reduceCtorEq, Nat.reduceAdd, Nat.reduceMul, Nat.reduceLT, Nat.reduceLeDiff, Int.reduceToNat, Int.reduceLE, h2, h3, b2, b3, c416]; done))))
    first | refine rops_nil ?_ | refine ropsD_nil ?_
    try simp only [exs, reduceIte, Nat.reduceEqDiff]
    refine R411 _ ?_ ?_ ?_ ?_ ?_ ?_ ?_
    · simp only [upd_apply, reduceIte, Nat.reduceEqDiff, h2]
    · simp only [upd_apply, reduceIte, Nat.reduceEqDiff, h3]
    · simp only [upd_apply, reduceIte, Nat.reduceEqDiff, h5]
    · (first | (simp only [upd_apply, reduceIte, Nat.reduceEqDiff]; done) | (simp only [go_sem, reduceIte, Nat.reduceEqDiff, reduceCtorEq, Nat.reduceAdd, Nat.reduceMul, Nat.reduceLT, Nat.reduceLeDiff, Int.reduceToNat, Int.reduceLE, fs_all, take_length_map, h2, h3, h5, b2, b3, c416] <;> rfl) | rfl)
    · (first | (simp only [upd_apply, reduceIte, Nat.reduceEqDiff]; done) | (simp only [go_sem, reduceIte, Nat.reduceEqDiff, reduceCtorEq, Nat.reduceAdd, Nat.reduceMul, Nat.reduceLT, Nat.reduceLeDiff, Int.reduceToNat, Int.reduceLE, fs_all, take_length_map, h2, h3, h5, b2, b3, c416] <;> rfl) | rfl)
    · simp only [upd_apply, reduceIte, Nat.reduceEqDiff, b2]
    · simp only [upd_apply, reduceIte, Nat.reduceEqDiff, b3]
  have c393 : (decide (p354 ≤ 64)) = false := by first | exact hc | simpa using hc
  clear hc
  rw [c393] at h
  simp only [cond_true, cond_false] at h
  refine awp_exit ?_
  try simp only [exs, reduceIte, Nat.reduceEqDiff]
  refine J1  _ trivial h

end Go.Proofs.Mm
