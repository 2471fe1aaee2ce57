import Derived.Test.YtoelfoplajpgnaaEvLift
import Derived.Test.YtoelfoplajpgnaaMmF
set_option linter.unusedVariables false
set_option linter.unusedSimpArgs false
set_option linter.unusedSectionVars false

namespace Go.Proofs.Mm
open Go Go.Ev

-- topiary/topiaryref02.At
def F20_J1 (a0 : Mdl) (a1 : Int) (p129 : Int) : Option (Int) :=
  bindG ((decide (p129 < (a0.nodes.length : Int)))) (getO a0.nodes p129) fun x133 =>
  bif (decide (p129 < (a0.nodes.length : Int))) && (x133.id == a1) then
    some p129
  else
    some (-1)

def F20_L1 (a0 : Mdl) (a1 : Int) : Nat → Int → Int → Option (Int)
  | 0, _, _ => none
  | n167 + 1, p154, p155 =>
    bif decide (p154 < p155) then
      (getO a0.nodes (IntKind.i64.wrap (Int.tdiv (IntKind.i64.wrap (p154 + p155)) 2))).bind fun x174 =>
      bif decide (x174.id < a1) then
        (F20_L1 a0 a1 n167) (IntKind.i64.wrap ((IntKind.i64.wrap (Int.tdiv (IntKind.i64.wrap (p154 + p155)) 2)) + 1)) p155
      else
        (F20_L1 a0 a1 n167) p154 (IntKind.i64.wrap (Int.tdiv (IntKind.i64.wrap (p154 + p155)) 2))
    else
      F20_J1 a0 a1 p154

def F20 (N : Nat) (a0 : Mdl) (a1 : Int) : Option (Int) :=
  F20_L1 a0 a1 N 0 (a0.nodes.length : Int)

set_option maxHeartbeats 4000000 in
theorem F20_does (E : Env) (N : Nat) (a0 : Mdl) (a1 : Int) (r : Int) (h : F20 N a0 a1 = some r) : Does Try.prog E 20 [.agg [.fl (.int .i64 a0.next), .sl (List.map Nd.av a0.nodes)], .fl (.int .i64 a1)] (.ret [.v (.fl (.int .i64 r))]) := by
  refine does_run Try.func20 Try.ntmps20 rfl rfl (by simp) fun w0 I0 s hr hb => ?_
  have h0 := hr 0
  have h1 := hr 1
  simp only [List.map_cons, List.map_nil, List.getElem?_cons_zero, List.getElem?_cons_succ, Option.getD_some] at h0 h1
  unfold F20 at h
  refine awp_seq fun K90 hK90 => ?_
  refine awp_region rfl (by kernel_rfl) ?_
  first | refine rops_k ?_ | refine ropsD_k ?_
  repeat (refine rops_ng rfl fun K hK => ?_; simp only [go_sem, reduceIte, Nat.reduceEqDiff, reduceCtorEq, Nat.reduceAdd, Nat.reduceMul, Nat.reduceLT, Nat.reduceLeDiff, Int.reduceToNat, Int.reduceLE, h0]; refine hK _ ?_; clear hK K)
  first | refine rops_nil ?_ | refine ropsD_nil ?_
  try simp only [exs, reduceIte, Nat.reduceEqDiff]
  refine hK90 _ ?_
  refine awp_seq fun K91 hK91 => ?_
  refine awp_draw (by kernel_rfl) rfl (by kernel_rfl) (by kernel_rfl) ?_
  first | refine rops_k ?_ | refine ropsD_k ?_
  repeat (refine ropsD_ng rfl fun K hK => ?_; simp only [go_sem, reduceIte, Nat.reduceEqDiff, reduceCtorEq, Nat.reduceAdd, Nat.reduceMul, Nat.reduceLT, Nat.reduceLeDiff, Int.reduceToNat, Int.reduceLE]; refine hK _ ?_; clear hK K)
  first | refine rops_nil ?_ | refine ropsD_nil ?_
  try simp only [exs, reduceIte, Nat.reduceEqDiff]
  refine hK91 _ ?_
  refine awp_seq fun K92 hK92 => ?_
  have J1 : ∀ (p129 : Int) (s130 : St), (s130.r 1 = .val (.fl (.int .i64 a1))) → (s130.r 2 = .loc 2 (s130.g 2) 0 0 0) → (s130.r 5 = .val (.fl (.int .i64 p129))) → (s130.b 2 = some (.cells [.val (.fl (.int .i64 a0.next)), .val (.sl (List.map Nd.av a0.nodes))])) → F20_J1 a0 a1 p129 = some r → K92 s130 := by
    intro p129 s130 h1 h2 h5 b2 h
    unfold F20_J1 at h
    refine hK92 _ ?_
    refine awp_seq fun K131 hK131 => ?_
    refine awp_seq fun K132 hK132 => ?_
    obtain ⟨x133, q134, h⟩ := bindG_some h
    refine awp_region rfl (by kernel_rfl) ?_
    have R136 : ∀ s135 : St, (s135.r 5 = .val (.fl (.int .i64 p129))) → (s135.r 43 = .val (.fl (.bool ((decide (p129 < (a0.nodes.length : Int))) && (x133.id == a1))))) → K132 s135 := by
      intro s135 h5 h43
      refine hK132 _ ?_
      refine awp_if (by kernel_rfl) (by (simp only [upd_apply, reduceIte, Nat.reduceEqDiff, St.ev, constReg, constCell, St.put_some, St.put_none, h5, h43] <;> rfl)) (fun hc => ?_) (fun hc => ?_)
      · have c137 : ((decide (p129 < (a0.nodes.length : Int))) && (x133.id == a1)) = true := by first | exact hc | simpa using hc
        clear hc
        rw [c137] at h
        simp only [cond_true, cond_false] at h
        refine awp_seq fun K138 hK138 => ?_
        refine awp_region rfl (by kernel_rfl) ?_
        first | refine rops_k ?_ | refine ropsD_k ?_
        repeat (refine rops_ng rfl fun K hK => ?_; simp only [go_sem, reduceIte, Nat.reduceEqDiff, reduceCtorEq, Nat.reduceAdd, Nat.reduceMul, Nat.reduceLT, Nat.reduceLeDiff, Int.reduceToNat, Int.reduceLE, h5]; refine hK _ ?_; clear hK K)
        first | refine rops_nil ?_ | refine ropsD_nil ?_
        try simp only [exs, reduceIte, Nat.reduceEqDiff]
        refine hK138 _ ?_
        have h := Option.some.inj h
        subst h
        refine awp_ret ?_
        try simp only [exs, reduceIte, Nat.reduceEqDiff]
        refine fin_ret (vs := [.tmp 4]) Try.ntmps20 rfl (by simp [List.filter_cons, isOwn]) none ?_
        (simp only [resultsAre, resCell, loadRegs, regRV, go_sem, reduceIte, Nat.reduceEqDiff, reduceCtorEq, Nat.reduceAdd, Nat.reduceMul, Nat.reduceLT, Nat.reduceLeDiff, Int.reduceToNat, Int.reduceLE, fs_all, take_length_map, h5, h43] <;> rfl)
      have c137 : ((decide (p129 < (a0.nodes.length : Int))) && (x133.id == a1)) = false := by first | exact hc | simpa using hc
      clear hc
      rw [c137] at h
      simp only [cond_true, cond_false] at h
      refine awp_skip ?_
      try simp only [exs, reduceIte, Nat.reduceEqDiff]
      refine hK131 _ ?_
      refine awp_seq fun K139 hK139 => ?_
      refine awp_region rfl (by kernel_rfl) ?_
      first | refine rops_k ?_ | refine ropsD_k ?_
      repeat (refine rops_ng rfl fun K hK => ?_; simp only [go_sem, reduceIte, Nat.reduceEqDiff, reduceCtorEq, Nat.reduceAdd, Nat.reduceMul, Nat.reduceLT, Nat.reduceLeDiff, Int.reduceToNat, Int.reduceLE]; refine hK _ ?_; clear hK K)
      first | refine rops_nil ?_ | refine ropsD_nil ?_
      try simp only [exs, reduceIte, Nat.reduceEqDiff]
      refine hK139 _ ?_
      have h := Option.some.inj h
      subst h
      refine awp_ret ?_
      try simp only [exs, reduceIte, Nat.reduceEqDiff]
      refine fin_ret (vs := [.tmp 4]) Try.ntmps20 rfl (by simp [List.filter_cons, isOwn]) none ?_
      (simp only [resultsAre, resCell, loadRegs, regRV, go_sem, reduceIte, Nat.reduceEqDiff, reduceCtorEq, Nat.reduceAdd, Nat.reduceMul, Nat.reduceLT, Nat.reduceLeDiff, Int.reduceToNat, Int.reduceLE, fs_all, take_length_map, h5, h43] <;> rfl)
    first | refine rops_k ?_ | refine ropsD_k ?_
    repeat (refine rops_ng rfl fun K hK => ?_; simp only [go_sem, reduceIte, Nat.reduceEqDiff, reduceCtorEq, Nat.reduceAdd, Nat.reduceMul, Nat.reduceLT, Nat.reduceLeDiff, Int.reduceToNat, Int.reduceLE, h1, h2, h5, b2]; refine hK _ ?_; clear hK K)
    rcases c140 : (decide (p129 < (a0.nodes.length : Int))) with _ | _
    · repeat (first | (refine rops_ng rfl fun K hK => ?_; simp only [go_sem, reduceIte, Nat.reduceEqDiff, reduceCtorEq, Nat.reduceAdd, Nat.reduceMul, Nat.reduceLT, Nat.reduceLeDiff, Int.reduceToNat, Int.reduceLE, h1, h2, h5, b2, c140]; refine hK _ ?_; clear hK K) | (refine rops_on rfl rfl ?_ fun K hK => ?_; (focus (simp only [go_sem, reduceIte, Nat.reduceEqDiff, reduceCtorEq, Nat.reduceAdd, Nat.reduceMul, Nat.reduceLT, Nat.reduceLeDiff, Int.reduceToNat, Int.reduceLE, h1, h2, h5, b2, c140]; done)); simp only [go_sem, reduceIte, Nat.reduceEqDiff, reduceCtorEq, Nat.reduceAdd, Nat.reduceMul, Nat.reduceLT, Nat.reduceLeDiff, Int.reduceToNat, Int.reduceLE, h1, h2, h5, b2, c140]; refine hK _ ?_; clear hK K) | (refine rops_off rfl rfl ?_ ?_; (focus (simp only [go_sem, reduceIte, Nat.reduceEqDiff, reduceCtorEq, Nat.reduceAdd, Nat.reduceMul, Nat.reduceLT, Nat.reduceLeDiff, Int.reduceToNat, Int.reduceLE, h1, h2, h5, b2, c140]; done))))
      first | refine rops_nil ?_ | refine ropsD_nil ?_
      try simp only [exs, reduceIte, Nat.reduceEqDiff]
      refine R136 _ ?_ ?_
      · simp only [upd_apply, reduceIte, Nat.reduceEqDiff, h5]
      · (first | (simp only [upd_apply, reduceIte, Nat.reduceEqDiff]; done) | (simp only [go_sem, reduceIte, Nat.reduceEqDiff, reduceCtorEq, Nat.reduceAdd, Nat.reduceMul, Nat.reduceLT, Nat.reduceLeDiff, Int.reduceToNat, Int.reduceLE, fs_all, take_length_map, h1, h2, h5, b2, c140] <;> rfl) | rfl)
    have q141 := q134 (by simp only [c140, fs_bool, beq_t, beq_f, beq_self_eq_true])
    obtain ⟨q141i, q141e, q141l⟩ := getO_some q141
    repeat (first | (refine rops_ng rfl fun K hK => ?_; simp only [go_sem, reduceIte, Nat.reduceEqDiff, reduceCtorEq, Nat.reduceAdd, Nat.reduceMul, Nat.reduceLT, Nat.reduceLeDiff, Int.reduceToNat, Int.reduceLE, h1, h2, h5, b2, q141i, q141e, q141l, c140]; refine hK _ ?_; clear hK K) | (refine rops_on rfl rfl ?_ fun K hK => ?_; (focus (simp only [go_sem, reduceIte, Nat.reduceEqDiff, reduceCtorEq, Nat.reduceAdd, Nat.reduceMul, Nat.reduceLT, Nat.reduceLeDiff, Int.reduceToNat, Int.reduceLE, h1, h2, h5, b2, q141i, q141e, q141l, c140]; done)); simp only [go_sem, reduceIte, Nat.reduceEqDiff, reduceCtorEq, Nat.reduceAdd, Nat.reduceMul, Nat.reduceLT, Nat.reduceLeDiff, Int.reduceToNat, Int.reduceLE, h1, h2, h5, b2, q141i, q141e, q141l, c140]; refine hK _ ?_; clear hK K) | (refine rops_off rfl rfl ?_ ?_; (focus (simp only [go_sem, reduceIte, Nat.reduceEqDiff, reduceCtorEq, Nat.reduceAdd, Nat.reduceMul, Nat.reduceLT, Nat.reduceLeDiff, Int.reduceToNat, Int.reduceLE, h1, h2, h5, b2, q141i, q141e, q141l, c140]; done))))
    first | refine rops_nil ?_ | refine ropsD_nil ?_
    try simp only [exs, reduceIte, Nat.reduceEqDiff]
    refine R136 _ ?_ ?_
    · simp only [upd_apply, reduceIte, Nat.reduceEqDiff, h5]
    · (first | (simp only [upd_apply, reduceIte, Nat.reduceEqDiff]; done) | (simp only [go_sem, reduceIte, Nat.reduceEqDiff, reduceCtorEq, Nat.reduceAdd, Nat.reduceMul, Nat.reduceLT, Nat.reduceLeDiff, Int.reduceToNat, Int.reduceLE, fs_all, take_length_map, h1, h2, h5, b2, q141i, q141e, q141l, c140] <;> rfl) | rfl)
  refine awp_block ?_
  refine awp_loopK (fun m s166 => ∃ (p154 : Int) (p155 : Int), s166.r 1 = .val (.fl (.int .i64 a1)) ∧ s166.r 2 = .loc 2 (s166.g 2) 0 0 0 ∧ s166.r 5 = .val (.fl (.int .i64 p154)) ∧ s166.r 6 = .val (.fl (.int .i64 p155)) ∧ s166.b 2 = some (.cells [.val (.fl (.int .i64 a0.next)), .val (.sl (List.map Nd.av a0.nodes))]) ∧  F20_L1 a0 a1 m p154 p155 = some r) N ?_ ?_
  · refine ⟨0, (a0.nodes.length : Int), ?_, ?_, ?_, ?_, ?_, h⟩
    · simp only [upd_apply, reduceIte, Nat.reduceEqDiff, h1]
    · (first | (simp only [upd_apply, reduceIte, Nat.reduceEqDiff]; done) | (simp only [go_sem, reduceIte, Nat.reduceEqDiff, reduceCtorEq, Nat.reduceAdd, Nat.reduceMul, Nat.reduceLT, Nat.reduceLeDiff, Int.reduceToNat, Int.reduceLE, fs_all, take_length_map, h0, h1] <;> rfl) | rfl)
    · (first | (simp only [upd_apply, reduceIte, Nat.reduceEqDiff]; done) | (simp only [go_sem, reduceIte, Nat.reduceEqDiff, reduceCtorEq, Nat.reduceAdd, Nat.reduceMul, Nat.reduceLT, Nat.reduceLeDiff, Int.reduceToNat, Int.reduceLE, fs_all, take_length_map, h0, h1] <;> rfl) | rfl)
    · (first | (simp only [upd_apply, reduceIte, Nat.reduceEqDiff]; done) | (simp only [go_sem, reduceIte, Nat.reduceEqDiff, reduceCtorEq, Nat.reduceAdd, Nat.reduceMul, Nat.reduceLT, Nat.reduceLeDiff, Int.reduceToNat, Int.reduceLE, fs_all, take_length_map, h0, h1] <;> rfl) | rfl)
    · (first | (simp only [upd_apply, reduceIte, Nat.reduceEqDiff]; done) | (simp only [go_sem, reduceIte, Nat.reduceEqDiff, reduceCtorEq, Nat.reduceAdd, Nat.reduceMul, Nat.reduceLT, Nat.reduceLeDiff, Int.reduceToNat, Int.reduceLE, fs_all, take_length_map, h0, h1] <;> rfl) | rfl)
  clear h
  intro m168 s166 hI K142 hK142
  obtain ⟨p154, p155, h1, h2, h5, h6, b2, h⟩ := hI
  rcases m168 with _ | n167
  · simp only [F20_L1, reduceCtorEq] at h
  rw [F20_L1] at h
  refine awp_seq fun K169 hK169 => ?_
  refine awp_seq fun K170 hK170 => ?_
  refine awp_region rfl (by kernel_rfl) ?_
  first | refine rops_k ?_ | refine ropsD_k ?_
  repeat (refine rops_ng rfl fun K hK => ?_; simp only [go_sem, reduceIte, Nat.reduceEqDiff, reduceCtorEq, Nat.reduceAdd, Nat.reduceMul, Nat.reduceLT, Nat.reduceLeDiff, Int.reduceToNat, Int.reduceLE, h5, h6, b2]; refine hK _ ?_; clear hK K)
  first | refine rops_nil ?_ | refine ropsD_nil ?_
  try simp only [exs, reduceIte, Nat.reduceEqDiff]
  refine hK170 _ ?_
  refine awp_if (by kernel_rfl) (by (simp only [upd_apply, reduceIte, Nat.reduceEqDiff, St.ev, constReg, constCell, St.put_some, St.put_none, h1, h2, h5, h6, b2] <;> rfl)) (fun hc => ?_) (fun hc => ?_)
  · have c171 : (decide (p154 < p155)) = true := by first | exact hc | simpa using hc
    clear hc
    rw [c171] at h
    simp only [cond_true, cond_false] at h
    refine awp_skip ?_
    try simp only [exs, reduceIte, Nat.reduceEqDiff]
    refine hK169 _ ?_
    refine awp_block ?_
    refine awp_seq fun K172 hK172 => ?_
    refine awp_region rfl (by kernel_rfl) ?_
    first | refine rops_k ?_ | refine ropsD_k ?_
    repeat (refine rops_ng rfl fun K hK => ?_; simp only [go_sem, reduceIte, Nat.reduceEqDiff, reduceCtorEq, Nat.reduceAdd, Nat.reduceMul, Nat.reduceLT, Nat.reduceLeDiff, Int.reduceToNat, Int.reduceLE, h5, h6, b2]; refine hK _ ?_; clear hK K)
    first | refine rops_nil ?_ | refine ropsD_nil ?_
    try simp only [exs, reduceIte, Nat.reduceEqDiff]
    refine hK172 _ ?_
    refine awp_seq fun K173 hK173 => ?_
    obtain ⟨x174, q175, h⟩ := bind_some h
    obtain ⟨q175i, q175e, q175l⟩ := getO_some q175
    refine awp_region rfl (by kernel_rfl) ?_
    first | refine rops_k ?_ | refine ropsD_k ?_
    repeat (refine rops_ng rfl fun K hK => ?_; simp only [go_sem, reduceIte, Nat.reduceEqDiff, reduceCtorEq, Nat.reduceAdd, Nat.reduceMul, Nat.reduceLT, Nat.reduceLeDiff, Int.reduceToNat, Int.reduceLE, h1, h2, b2, q175i, q175e, q175l]; refine hK _ ?_; clear hK K)
    first | refine rops_nil ?_ | refine ropsD_nil ?_
    try simp only [exs, reduceIte, Nat.reduceEqDiff]
    refine hK173 _ ?_
    refine awp_if (by kernel_rfl) (by (simp only [upd_apply, reduceIte, Nat.reduceEqDiff, St.ev, constReg, constCell, St.put_some, St.put_none, h1, h2, h5, h6, b2, q175i, q175e, q175l] <;> rfl)) (fun hc => ?_) (fun hc => ?_)
    · have c176 : (decide (x174.id < a1)) = true := by first | exact hc | simpa using hc
      clear hc
      rw [c176] at h
      simp only [cond_true, cond_false] at h
      refine awp_region rfl (by kernel_rfl) ?_
      first | refine rops_k ?_ | refine ropsD_k ?_
      repeat (refine rops_ng rfl fun K hK => ?_; simp only [go_sem, reduceIte, Nat.reduceEqDiff, reduceCtorEq, Nat.reduceAdd, Nat.reduceMul, Nat.reduceLT, Nat.reduceLeDiff, Int.reduceToNat, Int.reduceLE, b2, q175i, q175e, q175l]; refine hK _ ?_; clear hK K)
      first | refine rops_nil ?_ | refine ropsD_nil ?_
      try simp only [exs, reduceIte, Nat.reduceEqDiff]
      refine hK142 _ ⟨n167, Nat.lt_succ_self _, (IntKind.i64.wrap ((IntKind.i64.wrap (Int.tdiv (IntKind.i64.wrap (p154 + p155)) 2)) + 1)), p155, ?_, ?_, ?_, ?_, ?_, h⟩
      · simp only [upd_apply, reduceIte, Nat.reduceEqDiff, h1]
      · simp only [upd_apply, reduceIte, Nat.reduceEqDiff, h2]
      · (first | (simp only [upd_apply, reduceIte, Nat.reduceEqDiff, h5]; done) | (simp only [go_sem, reduceIte, Nat.reduceEqDiff, reduceCtorEq, Nat.reduceAdd, Nat.reduceMul, Nat.reduceLT, Nat.reduceLeDiff, Int.reduceToNat, Int.reduceLE, fs_all, take_length_map, h1, h2, h5, h6, b2, q175i, q175e, q175l] <;> rfl) | rfl)
      · simp only [upd_apply, reduceIte, Nat.reduceEqDiff, h6]
      · simp only [upd_apply, reduceIte, Nat.reduceEqDiff, b2]
    have c176 : (decide (x174.id < a1)) = false := by first | exact hc | simpa using hc
    clear hc
    rw [c176] at h
    simp only [cond_true, cond_false] at h
    refine awp_region rfl (by kernel_rfl) ?_
    first | refine rops_k ?_ | refine ropsD_k ?_
    repeat (refine rops_ng rfl fun K hK => ?_; simp only [go_sem, reduceIte, Nat.reduceEqDiff, reduceCtorEq, Nat.reduceAdd, Nat.reduceMul, Nat.reduceLT, Nat.reduceLeDiff, Int.reduceToNat, Int.reduceLE, b2]; refine hK _ ?_; clear hK K)
    first | refine rops_nil ?_ | refine ropsD_nil ?_
    try simp only [exs, reduceIte, Nat.reduceEqDiff]
    refine hK142 _ ⟨n167, Nat.lt_succ_self _, p154, (IntKind.i64.wrap (Int.tdiv (IntKind.i64.wrap (p154 + p155)) 2)), ?_, ?_, ?_, ?_, ?_, h⟩
    · simp only [upd_apply, reduceIte, Nat.reduceEqDiff, h1]
    · simp only [upd_apply, reduceIte, Nat.reduceEqDiff, h2]
    · simp only [upd_apply, reduceIte, Nat.reduceEqDiff, h5]
    · (first | (simp only [upd_apply, reduceIte, Nat.reduceEqDiff, h6]; done) | (simp only [go_sem, reduceIte, Nat.reduceEqDiff, reduceCtorEq, Nat.reduceAdd, Nat.reduceMul, Nat.reduceLT, Nat.reduceLeDiff, Int.reduceToNat, Int.reduceLE, fs_all, take_length_map, h1, h2, h5, h6, b2, q175i, q175e, q175l] <;> rfl) | rfl)
    · simp only [upd_apply, reduceIte, Nat.reduceEqDiff, b2]
  have c171 : (decide (p154 < p155)) = false := by first | exact hc | simpa using hc
  clear hc
  rw [c171] at h
  simp only [cond_true, cond_false] at h
  refine awp_exit ?_
  try simp only [exs, reduceIte, Nat.reduceEqDiff]
  refine J1 p154 _ ?_ ?_ ?_ ?_ h
  · simp only [upd_apply, reduceIte, Nat.reduceEqDiff, h1]
  · simp only [upd_apply, reduceIte, Nat.reduceEqDiff, h2]
  · simp only [upd_apply, reduceIte, Nat.reduceEqDiff, h5]
  · simp only [upd_apply, reduceIte, Nat.reduceEqDiff, b2]

end Go.Proofs.Mm
