import Derived.Test.YtoelfoplajpgnaaEvLift
import Derived.Test.YtoelfoplajpgnaaMmF
import Derived.Test.YtoelfoplajpgnaaLS1
set_option linter.unusedVariables false
set_option linter.unusedSimpArgs false
set_option linter.unusedSectionVars false

namespace Go.Proofs.Mm
open Go Go.Ev

-- slices.BinarySearchFunc[[]topiary/api.Node,topiary/api.Node,int]
def F29_J1 (a0 : List Nd) (f2 : Nd → Int → Option Int) (a1 : Int) (p148 : Int) : Option (Int × Bool) :=
  bindG ((decide (p148 < (a0.length : Int)))) (getO a0 p148) fun x151 =>
  bindG ((decide (p148 < (a0.length : Int)))) (f2 x151 a1) fun x152 =>
  some (p148, (decide (p148 < (a0.length : Int))) && (x152 == 0))

def F29_L1 (a0 : List Nd) (f2 : Nd → Int → Option Int) (a1 : Int) : Nat → Int → Int → Option (Int × Bool)
  | 0, _, _ => none
  | n189 + 1, p174, p175 =>
    bif decide (p174 < p175) then
      (getO a0 (IntKind.i64.wrap (Int.fdiv (IntKind.u64.wrap (IntKind.i64.wrap (p174 + p175))) (2 ^ min 1 64)))).bind fun x196 =>
      (f2 x196 a1).bind fun x197 =>
      bif decide (x197 < 0) then
        (F29_L1 a0 f2 a1 n189) (IntKind.i64.wrap ((IntKind.i64.wrap (Int.fdiv (IntKind.u64.wrap (IntKind.i64.wrap (p174 + p175))) (2 ^ min 1 64))) + 1)) p175
      else
        (F29_L1 a0 f2 a1 n189) p174 (IntKind.i64.wrap (Int.fdiv (IntKind.u64.wrap (IntKind.i64.wrap (p174 + p175))) (2 ^ min 1 64)))
    else
      F29_J1 a0 f2 a1 p174

def F29 (N : Nat) (a0 : List Nd) (a1 : Int) (f2 : Nd → Int → Option Int) : Option (Int × Bool) :=
  F29_L1 a0 f2 a1 N 0 (a0.length : Int)

set_option maxHeartbeats 4000000 in
theorem F29_does (E : Env) (N : Nat) (a0 : List Nd) (a1 : Int) (f2 : Nd → Int → Option Int) (fid2 : FuncId) (caps2 : List AV) (hf2 : ∀ (x2_0 : Nd) (x2_1 : Int) (y : Int), f2 x2_0 x2_1 = some y → Does Try.prog E fid2 ([.agg [.fl (.int .i64 x2_0.id), .fl (bs x2_0.concept), .fl (.int .i64 x2_0.parent), .fl (bs x2_0.role), .sl (List.map Prp.av x2_0.props), .sl (List.map intAV x2_0.kids), .sl (List.map Rf.av x2_0.refs)], .fl (.int .i64 x2_1)] ++ caps2) (.ret [.v (.fl (.int .i64 y))])) (r : Int × Bool) (h : F29 N a0 a1 f2 = some r) : Does Try.prog E 29 [.sl (List.map Nd.av a0), .fl (.int .i64 a1), .fn fid2 caps2] (.ret [.v (.fl (.int .i64 r.1)), .v (.fl (.bool r.2))]) := by
  refine does_run Try.func29 Try.ntmps29 rfl rfl (by simp) fun w0 I0 s hr hb => ?_
  have h0 := hr 0
  have h1 := hr 1
  have h2 := hr 2
  simp only [List.map_cons, List.map_nil, List.getElem?_cons_zero, List.getElem?_cons_succ, Option.getD_some] at h0 h1 h2
  unfold F29 at h
  refine awp_seq fun K102 hK102 => ?_
  refine awp_region rfl (by kernel_rfl) ?_
  first | refine rops_k ?_ | refine ropsD_k ?_
  repeat (refine rops_ng rfl fun K hK => ?_; simp only [go_sem, reduceIte, Nat.reduceEqDiff, reduceCtorEq, Nat.reduceAdd, Nat.reduceMul, Nat.reduceLT, Nat.reduceLeDiff, Int.reduceToNat, Int.reduceLE]; refine hK _ ?_; clear hK K)
  first | refine rops_nil ?_ | refine ropsD_nil ?_
  try simp only [exs, reduceIte, Nat.reduceEqDiff]
  refine hK102 _ ?_
  refine awp_seq fun K103 hK103 => ?_
  refine awp_region rfl (by kernel_rfl) ?_
  first | refine rops_k ?_ | refine ropsD_k ?_
  repeat (refine rops_ng rfl fun K hK => ?_; simp only [go_sem, reduceIte, Nat.reduceEqDiff, reduceCtorEq, Nat.reduceAdd, Nat.reduceMul, Nat.reduceLT, Nat.reduceLeDiff, Int.reduceToNat, Int.reduceLE, h0]; refine hK _ ?_; clear hK K)
  first | refine rops_nil ?_ | refine ropsD_nil ?_
  try simp only [exs, reduceIte, Nat.reduceEqDiff]
  refine hK103 _ ?_
  refine awp_seq fun K104 hK104 => ?_
  refine awp_region rfl (by kernel_rfl) ?_
  first | refine rops_k ?_ | refine ropsD_k ?_
  repeat (refine rops_ng rfl fun K hK => ?_; simp only [go_sem, reduceIte, Nat.reduceEqDiff, reduceCtorEq, Nat.reduceAdd, Nat.reduceMul, Nat.reduceLT, Nat.reduceLeDiff, Int.reduceToNat, Int.reduceLE]; refine hK _ ?_; clear hK K)
  first | refine rops_nil ?_ | refine ropsD_nil ?_
  try simp only [exs, reduceIte, Nat.reduceEqDiff]
  refine hK104 _ ?_
  refine awp_seq fun K105 hK105 => ?_
  have J1 : ∀ (p148 : Int) (s149 : St), (s149.r 0 = .val (.sl (List.map Nd.av a0))) → (s149.r 1 = .val (.fl (.int .i64 a1))) → (s149.r 2 = .val (.fn fid2 caps2)) → (s149.r 8 = .val (.fl (.int .i64 (a0.length : Int)))) → (s149.r 9 = .val (.fl (.int .i64 p148))) → F29_J1 a0 f2 a1 p148 = some r → K105 s149 := by
    intro p148 s149 h0 h1 h2 h8 h9 h
    unfold F29_J1 at h
    refine hK105 _ ?_
    refine awp_seq fun K150 hK150 => ?_
    obtain ⟨x151, q153, h⟩ := bindG_some h
    obtain ⟨x152, q154, h⟩ := bindG_some h
    refine awp_region rfl (by kernel_rfl) ?_
    have R156 : ∀ s155 : St, (s155.r 6 = .val (.fl (.int .i64 p148))) → (s155.r 7 = .val (.fl (.bool ((decide (p148 < (a0.length : Int))) && (x152 == 0))))) → K150 s155 := by
      intro s155 h6 h7
      refine hK150 _ ?_
      have h := Option.some.inj h
      subst h
      refine awp_ret ?_
      try simp only [exs, reduceIte, Nat.reduceEqDiff]
      refine fin_ret (vs := [.tmp 6, .tmp 7]) Try.ntmps29 rfl (by simp [List.filter_cons, isOwn]) none ?_
      (simp only [resultsAre, resCell, loadRegs, regRV, go_sem, reduceIte, Nat.reduceEqDiff, reduceCtorEq, Nat.reduceAdd, Nat.reduceMul, Nat.reduceLT, Nat.reduceLeDiff, Int.reduceToNat, Int.reduceLE, fs_all, take_length_map, h6, h7] <;> rfl)
    first | refine rops_k ?_ | refine ropsD_k ?_
    repeat (refine rops_ng rfl fun K hK => ?_; simp only [go_sem, reduceIte, Nat.reduceEqDiff, reduceCtorEq, Nat.reduceAdd, Nat.reduceMul, Nat.reduceLT, Nat.reduceLeDiff, Int.reduceToNat, Int.reduceLE, h0, h1, h2, h8, h9]; refine hK _ ?_; clear hK K)
    rcases c157 : (decide (p148 < (a0.length : Int))) with _ | _
    · repeat (first | (refine rops_ng rfl fun K hK => ?_; simp only [go_sem, reduceIte, Nat.reduceEqDiff, reduceCtorEq, Nat.reduceAdd, Nat.reduceMul, Nat.reduceLT, Nat.reduceLeDiff, Int.reduceToNat, Int.reduceLE, h0, h1, h2, h8, h9, c157]; refine hK _ ?_; clear hK K) | (refine rops_on rfl rfl ?_ fun K hK => ?_; (focus (simp only [go_sem, reduceIte, Nat.reduceEqDiff, reduceCtorEq, Nat.reduceAdd, Nat.reduceMul, Nat.reduceLT, Nat.reduceLeDiff, Int.reduceToNat, Int.reduceLE, h0, h1, h2, h8, h9, c157]; done)); simp only [go_sem, reduceIte, Nat.reduceEqDiff, reduceCtorEq, Nat.reduceAdd, Nat.reduceMul, Nat.reduceLT, Nat.reduceLeDiff, Int.reduceToNat, Int.reduceLE, h0, h1, h2, h8, h9, c157]; refine hK _ ?_; clear hK K) | (refine rops_off rfl rfl ?_ ?_; (focus (simp only [go_sem, reduceIte, Nat.reduceEqDiff, reduceCtorEq, Nat.reduceAdd, Nat.reduceMul, Nat.reduceLT, Nat.reduceLeDiff, Int.reduceToNat, Int.reduceLE, h0, h1, h2, h8, h9, c157]; done))))
      first | refine rops_nil ?_ | refine ropsD_nil ?_
      try simp only [exs, reduceIte, Nat.reduceEqDiff]
      refine R156 _ ?_ ?_
      · (first | (simp only [upd_apply, reduceIte, Nat.reduceEqDiff]; done) | (simp only [go_sem, reduceIte, Nat.reduceEqDiff, reduceCtorEq, Nat.reduceAdd, Nat.reduceMul, Nat.reduceLT, Nat.reduceLeDiff, Int.reduceToNat, Int.reduceLE, fs_all, take_length_map, h0, h1, h2, h8, h9, c157] <;> rfl) | rfl)
      · (first | (simp only [upd_apply, reduceIte, Nat.reduceEqDiff]; done) | (simp only [go_sem, reduceIte, Nat.reduceEqDiff, reduceCtorEq, Nat.reduceAdd, Nat.reduceMul, Nat.reduceLT, Nat.reduceLeDiff, Int.reduceToNat, Int.reduceLE, fs_all, take_length_map, h0, h1, h2, h8, h9, c157] <;> rfl) | rfl)
    have q158 := q153 (by simp only [c157, fs_bool, beq_t, beq_f, beq_self_eq_true])
    obtain ⟨q158i, q158e, q158l⟩ := getO_some q158
    have q159 := q154 (by simp only [c157, fs_bool, beq_t, beq_f, beq_self_eq_true])
    repeat (first | (refine rops_ng rfl fun K hK => ?_; simp only [go_sem, reduceIte, Nat.reduceEqDiff, reduceCtorEq, Nat.reduceAdd, Nat.reduceMul, Nat.reduceLT, Nat.reduceLeDiff, Int.reduceToNat, Int.reduceLE, h0, h1, h2, h8, h9, q158i, q158e, q158l, c157]; refine hK _ ?_; clear hK K) | (refine rops_on rfl rfl ?_ fun K hK => ?_; (focus (simp only [go_sem, reduceIte, Nat.reduceEqDiff, reduceCtorEq, Nat.reduceAdd, Nat.reduceMul, Nat.reduceLT, Nat.reduceLeDiff, Int.reduceToNat, Int.reduceLE, h0, h1, h2, h8, h9, q158i, q158e, q158l, c157]; done)); simp only [go_sem, reduceIte, Nat.reduceEqDiff, reduceCtorEq, Nat.reduceAdd, Nat.reduceMul, Nat.reduceLT, Nat.reduceLeDiff, Int.reduceToNat, Int.reduceLE, h0, h1, h2, h8, h9, q158i, q158e, q158l, c157]; refine hK _ ?_; clear hK K) | (refine rops_off rfl rfl ?_ ?_; (focus (simp only [go_sem, reduceIte, Nat.reduceEqDiff, reduceCtorEq, Nat.reduceAdd, Nat.reduceMul, Nat.reduceLT, Nat.reduceLeDiff, Int.reduceToNat, Int.reduceLE, h0, h1, h2, h8, h9, q158i, q158e, q158l, c157]; done))))
    refine rops_on rfl rfl (by simp only [gate, beq_self_eq_true, beq_t, beq_f, Bool.not_true, Bool.not_false, Bool.true_eq_false, Bool.false_eq_true, upd_apply, reduceIte, Nat.reduceEqDiff, St.put_some, St.put_none, h0, h1, h2, h8, h9, q158i, q158e, q158l, c157]) fun K hK => ?_
    simp only [List.head?_cons, List.head?_nil, Option.map_some, Option.map_none, rops1, ropsD1, gtmp, gate, beq_self_eq_true, beq_t, beq_f, Bool.not_true, Bool.not_false, if_true, rOp, rOpD, calleeOf, regAVsOf, regAV, List.getElem?_toArray, List.getElem?_cons_zero, List.getElem?_cons_succ, Option.bind_some, upd_apply, reduceIte, Nat.reduceEqDiff, St.ev, constReg, constCell, St.put_some, St.put_none, h0, h1, h2, h8, h9, q158i, q158e, q158l, c157]
    refine .inl ⟨_, _, rfl, _, rfl, _, (hf2 x151 a1 _ q159), ?_⟩
    simp only [flRV, outK, St.take, St.takeRVs, St.takeRV, retReg, St.put_some, St.put_none, List.map_cons, List.map_nil]
    refine hK _ ?_; clear hK K
    repeat (first | (refine rops_ng rfl fun K hK => ?_; simp only [go_sem, reduceIte, Nat.reduceEqDiff, reduceCtorEq, Nat.reduceAdd, Nat.reduceMul, Nat.reduceLT, Nat.reduceLeDiff, Int.reduceToNat, Int.reduceLE, h0, h1, h2, h8, h9, q158i, q158e, q158l, c157]; refine hK _ ?_; clear hK K) | (refine rops_on rfl rfl ?_ fun K hK => ?_; (focus (simp only [go_sem, reduceIte, Nat.reduceEqDiff, reduceCtorEq, Nat.reduceAdd, Nat.reduceMul, Nat.reduceLT, Nat.reduceLeDiff, Int.reduceToNat, Int.reduceLE, h0, h1, h2, h8, h9, q158i, q158e, q158l, c157]; done)); simp only [go_sem, reduceIte, Nat.reduceEqDiff, reduceCtorEq, Nat.reduceAdd, Nat.reduceMul, Nat.reduceLT, Nat.reduceLeDiff, Int.reduceToNat, Int.reduceLE, h0, h1, h2, h8, h9, q158i, q158e, q158l, c157]; refine hK _ ?_; clear hK K) | (refine rops_off rfl rfl ?_ ?_; (focus (simp only [go_sem, reduceIte, Nat.reduceEqDiff, reduceCtorEq, Nat.reduceAdd, Nat.reduceMul, Nat.reduceLT, Nat.reduceLeDiff, Int.reduceToNat, Int.reduceLE, h0, h1, h2, h8, h9, q158i, q158e, q158l, c157]; done))))
    first | refine rops_nil ?_ | refine ropsD_nil ?_
    try simp only [exs, reduceIte, Nat.reduceEqDiff]
    refine R156 _ ?_ ?_
    · (first | (simp only [upd_apply, reduceIte, Nat.reduceEqDiff]; done) | (simp only [go_sem, reduceIte, Nat.reduceEqDiff, reduceCtorEq, Nat.reduceAdd, Nat.reduceMul, Nat.reduceLT, Nat.reduceLeDiff, Int.reduceToNat, Int.reduceLE, fs_all, take_length_map, h0, h1, h2, h8, h9, q158i, q158e, q158l, c157] <;> rfl) | rfl)
    · (first | (simp only [upd_apply, reduceIte, Nat.reduceEqDiff]; done) | (simp only [go_sem, reduceIte, Nat.reduceEqDiff, reduceCtorEq, Nat.reduceAdd, Nat.reduceMul, Nat.reduceLT, Nat.reduceLeDiff, Int.reduceToNat, Int.reduceLE, fs_all, take_length_map, h0, h1, h2, h8, h9, q158i, q158e, q158l, c157] <;> rfl) | rfl)
  refine awp_block ?_
  refine awp_loopK (fun m s188 => ∃ (p174 : Int) (p175 : Int), s188.r 0 = .val (.sl (List.map Nd.av a0)) ∧ s188.r 1 = .val (.fl (.int .i64 a1)) ∧ s188.r 2 = .val (.fn fid2 caps2) ∧ s188.r 8 = .val (.fl (.int .i64 (a0.length : Int))) ∧ s188.r 9 = .val (.fl (.int .i64 p174)) ∧ s188.r 10 = .val (.fl (.int .i64 p175)) ∧  F29_L1 a0 f2 a1 m p174 p175 = some r) N ?_ ?_
  · refine ⟨0, (a0.length : Int), ?_, ?_, ?_, ?_, ?_, ?_, h⟩
    · simp only [upd_apply, reduceIte, Nat.reduceEqDiff, h0]
    · simp only [upd_apply, reduceIte, Nat.reduceEqDiff, h1]
    · simp only [upd_apply, reduceIte, Nat.reduceEqDiff, h2]
    · (first | (simp only [upd_apply, reduceIte, Nat.reduceEqDiff]; done) | (simp only [go_sem, reduceIte, Nat.reduceEqDiff, reduceCtorEq, Nat.reduceAdd, Nat.reduceMul, Nat.reduceLT, Nat.reduceLeDiff, Int.reduceToNat, Int.reduceLE, fs_all, take_length_map, h0, h1, h2] <;> rfl) | rfl)
    · (first | (simp only [upd_apply, reduceIte, Nat.reduceEqDiff]; done) | (simp only [go_sem, reduceIte, Nat.reduceEqDiff, reduceCtorEq, Nat.reduceAdd, Nat.reduceMul, Nat.reduceLT, Nat.reduceLeDiff, Int.reduceToNat, Int.reduceLE, fs_all, take_length_map, h0, h1, h2] <;> rfl) | rfl)
    · (first | (simp only [upd_apply, reduceIte, Nat.reduceEqDiff]; done) | (simp only [go_sem, reduceIte, Nat.reduceEqDiff, reduceCtorEq, Nat.reduceAdd, Nat.reduceMul, Nat.reduceLT, Nat.reduceLeDiff, Int.reduceToNat, Int.reduceLE, fs_all, take_length_map, h0, h1, h2] <;> rfl) | rfl)
  clear h
  intro m190 s188 hI K160 hK160
  obtain ⟨p174, p175, h0, h1, h2, h8, h9, h10, h⟩ := hI
  rcases m190 with _ | n189
  · simp only [F29_L1, reduceCtorEq] at h
  rw [F29_L1] at h
  refine awp_seq fun K191 hK191 => ?_
  refine awp_seq fun K192 hK192 => ?_
  refine awp_region rfl (by kernel_rfl) ?_
  first | refine rops_k ?_ | refine ropsD_k ?_
  repeat (refine rops_ng rfl fun K hK => ?_; simp only [go_sem, reduceIte, Nat.reduceEqDiff, reduceCtorEq, Nat.reduceAdd, Nat.reduceMul, Nat.reduceLT, Nat.reduceLeDiff, Int.reduceToNat, Int.reduceLE, h9, h10]; refine hK _ ?_; clear hK K)
  first | refine rops_nil ?_ | refine ropsD_nil ?_
  try simp only [exs, reduceIte, Nat.reduceEqDiff]
  refine hK192 _ ?_
  refine awp_if (by kernel_rfl) (by (simp only [upd_apply, reduceIte, Nat.reduceEqDiff, St.ev, constReg, constCell, St.put_some, St.put_none, h0, h1, h2, h8, h9, h10] <;> rfl)) (fun hc => ?_) (fun hc => ?_)
  · have c193 : (decide (p174 < p175)) = true := by first | exact hc | simpa using hc
    clear hc
    rw [c193] at h
    simp only [cond_true, cond_false] at h
    refine awp_skip ?_
    try simp only [exs, reduceIte, Nat.reduceEqDiff]
    refine hK191 _ ?_
    refine awp_block ?_
    refine awp_seq fun K194 hK194 => ?_
    refine awp_region rfl (by kernel_rfl) ?_
    first | refine rops_k ?_ | refine ropsD_k ?_
    repeat (refine rops_ng rfl fun K hK => ?_; simp only [go_sem, reduceIte, Nat.reduceEqDiff, reduceCtorEq, Nat.reduceAdd, Nat.reduceMul, Nat.reduceLT, Nat.reduceLeDiff, Int.reduceToNat, Int.reduceLE, h9, h10]; refine hK _ ?_; clear hK K)
    first | refine rops_nil ?_ | refine ropsD_nil ?_
    try simp only [exs, reduceIte, Nat.reduceEqDiff]
    refine hK194 _ ?_
    refine awp_seq fun K195 hK195 => ?_
    obtain ⟨x196, q198, h⟩ := bind_some h
    obtain ⟨q198i, q198e, q198l⟩ := getO_some q198
    obtain ⟨x197, q199, h⟩ := bind_some h
    refine awp_region rfl (by kernel_rfl) ?_
    first | refine rops_k ?_ | refine ropsD_k ?_
    repeat (refine rops_ng rfl fun K hK => ?_; simp only [go_sem, reduceIte, Nat.reduceEqDiff, reduceCtorEq, Nat.reduceAdd, Nat.reduceMul, Nat.reduceLT, Nat.reduceLeDiff, Int.reduceToNat, Int.reduceLE, h0, h1, h2, q198i, q198e, q198l]; refine hK _ ?_; clear hK K)
    refine rops_ng rfl fun K hK => ?_
    simp only [List.head?_cons, List.head?_nil, Option.map_some, Option.map_none, rops1, ropsD1, gtmp, gate, beq_self_eq_true, beq_t, beq_f, Bool.not_true, Bool.not_false, if_true, rOp, rOpD, calleeOf, regAVsOf, regAV, List.getElem?_toArray, List.getElem?_cons_zero, List.getElem?_cons_succ, Option.bind_some, upd_apply, reduceIte, Nat.reduceEqDiff, St.ev, constReg, constCell, St.put_some, St.put_none, h0, h1, h2, h8, h9, h10, q198i, q198e, q198l]
    refine .inl ⟨_, _, rfl, _, rfl, _, (hf2 x196 a1 _ q199), ?_⟩
    simp only [flRV, outK, St.take, St.takeRVs, St.takeRV, retReg, St.put_some, St.put_none, List.map_cons, List.map_nil]
    refine hK _ ?_; clear hK K
    repeat (refine rops_ng rfl fun K hK => ?_; simp only [go_sem, reduceIte, Nat.reduceEqDiff, reduceCtorEq, Nat.reduceAdd, Nat.reduceMul, Nat.reduceLT, Nat.reduceLeDiff, Int.reduceToNat, Int.reduceLE, h0, h1, h2, q198i, q198e, q198l]; refine hK _ ?_; clear hK K)
    first | refine rops_nil ?_ | refine ropsD_nil ?_
    try simp only [exs, reduceIte, Nat.reduceEqDiff]
    refine hK195 _ ?_
    refine awp_if (by kernel_rfl) (by (simp only [upd_apply, reduceIte, Nat.reduceEqDiff, St.ev, constReg, constCell, St.put_some, St.put_none, h0, h1, h2, h8, h9, h10, q198i, q198e, q198l] <;> rfl)) (fun hc => ?_) (fun hc => ?_)
    · have c200 : (decide (x197 < 0)) = true := by first | exact hc | simpa using hc
      clear hc
      rw [c200] at h
      simp only [cond_true, cond_false] at h
      refine awp_region rfl (by kernel_rfl) ?_
      first | refine rops_k ?_ | refine ropsD_k ?_
      repeat (refine rops_ng rfl fun K hK => ?_; simp only [go_sem, reduceIte, Nat.reduceEqDiff, reduceCtorEq, Nat.reduceAdd, Nat.reduceMul, Nat.reduceLT, Nat.reduceLeDiff, Int.reduceToNat, Int.reduceLE, q198i, q198e, q198l]; refine hK _ ?_; clear hK K)
      first | refine rops_nil ?_ | refine ropsD_nil ?_
      try simp only [exs, reduceIte, Nat.reduceEqDiff]
      refine hK160 _ ⟨n189, Nat.lt_succ_self _, (IntKind.i64.wrap ((IntKind.i64.wrap (Int.fdiv (IntKind.u64.wrap (IntKind.i64.wrap (p174 + p175))) (2 ^ min 1 64))) + 1)), p175, ?_, ?_, ?_, ?_, ?_, ?_, h⟩
      · simp only [upd_apply, reduceIte, Nat.reduceEqDiff, h0]
      · simp only [upd_apply, reduceIte, Nat.reduceEqDiff, h1]
      · simp only [upd_apply, reduceIte, Nat.reduceEqDiff, h2]
      · simp only [upd_apply, reduceIte, Nat.reduceEqDiff, h8]
      · (first | (simp only [upd_apply, reduceIte, Nat.reduceEqDiff, h9]; done) | (simp only [go_sem, reduceIte, Nat.reduceEqDiff, reduceCtorEq, Nat.reduceAdd, Nat.reduceMul, Nat.reduceLT, Nat.reduceLeDiff, Int.reduceToNat, Int.reduceLE, fs_all, take_length_map, h0, h1, h2, h8, h9, h10, q198i, q198e, q198l] <;> rfl) | rfl)
      · simp only [upd_apply, reduceIte, Nat.reduceEqDiff, h10]
    have c200 : (decide (x197 < 0)) = false := by first | exact hc | simpa using hc
    clear hc
    rw [c200] at h
    simp only [cond_true, cond_false] at h
    refine awp_region rfl (by kernel_rfl) ?_
    first | refine rops_k ?_ | refine ropsD_k ?_
    repeat (refine rops_ng rfl fun K hK => ?_; simp only [go_sem, reduceIte, Nat.reduceEqDiff, reduceCtorEq, Nat.reduceAdd, Nat.reduceMul, Nat.reduceLT, Nat.reduceLeDiff, Int.reduceToNat, Int.reduceLE]; refine hK _ ?_; clear hK K)
    first | refine rops_nil ?_ | refine ropsD_nil ?_
    try simp only [exs, reduceIte, Nat.reduceEqDiff]
    refine hK160 _ ⟨n189, Nat.lt_succ_self _, p174, (IntKind.i64.wrap (Int.fdiv (IntKind.u64.wrap (IntKind.i64.wrap (p174 + p175))) (2 ^ min 1 64))), ?_, ?_, ?_, ?_, ?_, ?_, h⟩
    · simp only [upd_apply, reduceIte, Nat.reduceEqDiff, h0]
    · simp only [upd_apply, reduceIte, Nat.reduceEqDiff, h1]
    · simp only [upd_apply, reduceIte, Nat.reduceEqDiff, h2]
    · simp only [upd_apply, reduceIte, Nat.reduceEqDiff, h8]
    · simp only [upd_apply, reduceIte, Nat.reduceEqDiff, h9]
    · (first | (simp only [upd_apply, reduceIte, Nat.reduceEqDiff, h10]; done) | (simp only [go_sem, reduceIte, Nat.reduceEqDiff, reduceCtorEq, Nat.reduceAdd, Nat.reduceMul, Nat.reduceLT, Nat.reduceLeDiff, Int.reduceToNat, Int.reduceLE, fs_all, take_length_map, h0, h1, h2, h8, h9, h10, q198i, q198e, q198l] <;> rfl) | rfl)
  have c193 : (decide (p174 < p175)) = false := by first | exact hc | simpa using hc
  clear hc
  rw [c193] at h
  simp only [cond_true, cond_false] at h
  refine awp_exit ?_
  try simp only [exs, reduceIte, Nat.reduceEqDiff]
  refine J1 p174 _ ?_ ?_ ?_ ?_ ?_ h
  · simp only [upd_apply, reduceIte, Nat.reduceEqDiff, h0]
  · simp only [upd_apply, reduceIte, Nat.reduceEqDiff, h1]
  · simp only [upd_apply, reduceIte, Nat.reduceEqDiff, h2]
  · simp only [upd_apply, reduceIte, Nat.reduceEqDiff, h8]
  · simp only [upd_apply, reduceIte, Nat.reduceEqDiff, h9]

end Go.Proofs.Mm

namespace Go.Proofs.Mm
open Go Go.Ev

-- topiary/arena.place
def F23 (N : Nat) (a0 : Mdl) (a1 : Int) : Option (Int) :=
  (F29 N a0.nodes a1 (F30 N)).bind fun x12 =>
  bif !x12.2 then
    some (-1)
  else
    some x12.1

set_option maxHeartbeats 4000000 in
theorem F23_does (E : Env) (N : Nat) (a0 : Mdl) (a1 : Int) (r : Int) (h : F23 N a0 a1 = some r) : Does Try.prog E 23 [.agg [.fl (.int .i64 a0.next), .sl (List.map Nd.av a0.nodes)], .fl (.int .i64 a1)] (.ret [.v (.fl (.int .i64 r))]) := by
  refine does_run Try.func23 Try.ntmps23 rfl rfl (by simp) fun w0 I0 s hr hb => ?_
  have h0 := hr 0
  have h1 := hr 1
  simp only [List.map_cons, List.map_nil, List.getElem?_cons_zero, List.getElem?_cons_succ, Option.getD_some] at h0 h1
  unfold F23 at h
  refine awp_seq fun K10 hK10 => ?_
  refine awp_region rfl (by kernel_rfl) ?_
  first | refine rops_k ?_ | refine ropsD_k ?_
  repeat (refine rops_ng rfl fun K hK => ?_; simp only [go_sem, reduceIte, Nat.reduceEqDiff, reduceCtorEq, Nat.reduceAdd, Nat.reduceMul, Nat.reduceLT, Nat.reduceLeDiff, Int.reduceToNat, Int.reduceLE, h0]; refine hK _ ?_; clear hK K)
  first | refine rops_nil ?_ | refine ropsD_nil ?_
  try simp only [exs, reduceIte, Nat.reduceEqDiff]
  refine hK10 _ ?_
  refine awp_seq fun K11 hK11 => ?_
  obtain ⟨x12, q13, h⟩ := bind_some h
  refine awp_region rfl (by kernel_rfl) ?_
  first | refine rops_k ?_ | refine ropsD_k ?_
  repeat (refine rops_ng rfl fun K hK => ?_; simp only [go_sem, reduceIte, Nat.reduceEqDiff, reduceCtorEq, Nat.reduceAdd, Nat.reduceMul, Nat.reduceLT, Nat.reduceLeDiff, Int.reduceToNat, Int.reduceLE, h1]; refine hK _ ?_; clear hK K)
  refine rops_ng rfl fun K hK => ?_
  simp only [List.head?_cons, List.head?_nil, Option.map_some, Option.map_none, rops1, ropsD1, gtmp, gate, beq_self_eq_true, beq_t, beq_f, Bool.not_true, Bool.not_false, if_true, rOp, rOpD, calleeOf, regAVsOf, regAV, List.getElem?_toArray, List.getElem?_cons_zero, List.getElem?_cons_succ, Option.bind_some, upd_apply, reduceIte, Nat.reduceEqDiff, St.ev, constReg, constCell, St.put_some, St.put_none, h0, h1]
  refine .inl ⟨_, _, rfl, _, rfl, _, (F29_does _ N a0.nodes a1 (F30 N) 30 [] (fun z0 z1 y hy => F30_does _ N z0 z1 y hy) _ q13), ?_⟩
  simp only [flRV, outK, St.take, St.takeRVs, St.takeRV, retReg, St.put_some, St.put_none, List.map_cons, List.map_nil]
  refine hK _ ?_; clear hK K
  repeat (refine rops_ng rfl fun K hK => ?_; simp only [go_sem, reduceIte, Nat.reduceEqDiff, reduceCtorEq, Nat.reduceAdd, Nat.reduceMul, Nat.reduceLT, Nat.reduceLeDiff, Int.reduceToNat, Int.reduceLE, h1]; refine hK _ ?_; clear hK K)
  first | refine rops_nil ?_ | refine ropsD_nil ?_
  try simp only [exs, reduceIte, Nat.reduceEqDiff]
  refine hK11 _ ?_
  refine awp_seq fun K14 hK14 => ?_
  refine awp_seq fun K15 hK15 => ?_
  refine awp_region rfl (by kernel_rfl) ?_
  first | refine rops_k ?_ | refine ropsD_k ?_
  repeat (refine rops_ng rfl fun K hK => ?_; simp only [go_sem, reduceIte, Nat.reduceEqDiff, reduceCtorEq, Nat.reduceAdd, Nat.reduceMul, Nat.reduceLT, Nat.reduceLeDiff, Int.reduceToNat, Int.reduceLE]; refine hK _ ?_; clear hK K)
  first | refine rops_nil ?_ | refine ropsD_nil ?_
  try simp only [exs, reduceIte, Nat.reduceEqDiff]
  refine hK15 _ ?_
  refine awp_if (by kernel_rfl) (by (simp only [upd_apply, reduceIte, Nat.reduceEqDiff, St.ev, constReg, constCell, St.put_some, St.put_none, h0, h1] <;> rfl)) (fun hc => ?_) (fun hc => ?_)
  · have c16 : (!x12.2) = true := by first | exact hc | simpa using hc
    clear hc
    rw [c16] at h
    simp only [cond_true, cond_false] at h
    refine awp_seq fun K17 hK17 => ?_
    refine awp_region rfl (by kernel_rfl) ?_
    first | refine rops_k ?_ | refine ropsD_k ?_
    repeat (refine rops_ng rfl fun K hK => ?_; simp only [go_sem, reduceIte, Nat.reduceEqDiff, reduceCtorEq, Nat.reduceAdd, Nat.reduceMul, Nat.reduceLT, Nat.reduceLeDiff, Int.reduceToNat, Int.reduceLE]; refine hK _ ?_; clear hK K)
    first | refine rops_nil ?_ | refine ropsD_nil ?_
    try simp only [exs, reduceIte, Nat.reduceEqDiff]
    refine hK17 _ ?_
    have h := Option.some.inj h
    subst h
    refine awp_ret ?_
    try simp only [exs, reduceIte, Nat.reduceEqDiff]
    refine fin_ret (vs := [.tmp 4]) Try.ntmps23 rfl (by simp [List.filter_cons, isOwn]) none ?_
    (simp only [resultsAre, resCell, loadRegs, regRV, go_sem, reduceIte, Nat.reduceEqDiff, reduceCtorEq, Nat.reduceAdd, Nat.reduceMul, Nat.reduceLT, Nat.reduceLeDiff, Int.reduceToNat, Int.reduceLE, fs_all, take_length_map, h0, h1] <;> rfl)
  have c16 : (!x12.2) = false := by first | exact hc | simpa using hc
  clear hc
  rw [c16] at h
  simp only [cond_true, cond_false] at h
  refine awp_skip ?_
  try simp only [exs, reduceIte, Nat.reduceEqDiff]
  refine hK14 _ ?_
  refine awp_seq fun K18 hK18 => ?_
  refine awp_region rfl (by kernel_rfl) ?_
  first | refine rops_k ?_ | refine ropsD_k ?_
  repeat (refine rops_ng rfl fun K hK => ?_; simp only [go_sem, reduceIte, Nat.reduceEqDiff, reduceCtorEq, Nat.reduceAdd, Nat.reduceMul, Nat.reduceLT, Nat.reduceLeDiff, Int.reduceToNat, Int.reduceLE]; refine hK _ ?_; clear hK K)
  first | refine rops_nil ?_ | refine ropsD_nil ?_
  try simp only [exs, reduceIte, Nat.reduceEqDiff]
  refine hK18 _ ?_
  have h := Option.some.inj h
  subst h
  refine awp_ret ?_
  try simp only [exs, reduceIte, Nat.reduceEqDiff]
  refine fin_ret (vs := [.tmp 4]) Try.ntmps23 rfl (by simp [List.filter_cons, isOwn]) none ?_
  (simp only [resultsAre, resCell, loadRegs, regRV, go_sem, reduceIte, Nat.reduceEqDiff, reduceCtorEq, Nat.reduceAdd, Nat.reduceMul, Nat.reduceLT, Nat.reduceLeDiff, Int.reduceToNat, Int.reduceLE, fs_all, take_length_map, h0, h1] <;> rfl)

end Go.Proofs.Mm
