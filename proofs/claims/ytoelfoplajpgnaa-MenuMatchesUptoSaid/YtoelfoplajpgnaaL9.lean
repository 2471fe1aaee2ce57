import Derived.Test.YtoelfoplajpgnaaEvLift
import Derived.Test.YtoelfoplajpgnaaMmF
import Derived.Test.YtoelfoplajpgnaaLS1
import Derived.Test.YtoelfoplajpgnaaLS3
set_option linter.unusedVariables false
set_option linter.unusedSimpArgs false
set_option linter.unusedSectionVars false

namespace Go.Proofs.Mm
open Go Go.Ev

-- topiary/topiaryref14.Match
def F9_J1 (p2501 : List Itm) : Option ((List Itm)) :=
  some p2501

def F9_J2 (k2506 : Int → (List Itm) → Option ((List Itm))) (p2776 : Int) (p3196 : List Itm) : Option ((List Itm)) :=
  k2506 (IntKind.i64.wrap (p2776 + 1)) p3196

def F9_J3 (k2506 : Int → (List Itm) → Option ((List Itm))) (p2776 : Int) (p3209 : List Itm) : Option ((List Itm)) :=
  F9_J2 k2506 p2776 p3209

def F9_J4 (k3221 : Int → (List Itm) → Option ((List Itm))) (p3257 : Int) (p3314 : List Itm) : Option ((List Itm)) :=
  k3221 (IntKind.i64.wrap (p3257 + 1)) p3314

def F9_L2 (x3217 : Nd × Bool) (a2 : Str) (N : Nat) (a3 : Str) (a1 : List Itm) (p2776 : Int) (k2506 : Int → (List Itm) → Option ((List Itm))) : Nat → Int → (List Itm) → Option ((List Itm))
  | 0, _, _ => none
  | n3295 + 1, p3257, p3258 =>
    bif decide (p3257 < (x3217.1.props.length : Int)) then
      (getO x3217.1.props p3257).bind fun x3317 =>
      bindG ((x3317.name == a2)) (F14 N x3317.value a3) fun x3318 =>
      bif (x3317.name == a2) && x3318 then
        (getO a1 p2776).bind fun x3324 =>
        (chk (decide (p3258.length + 1 ≤ maxLen) && decide ((p3258.length + 1) * 24 ≤ 140737488355328))).bind fun _ =>
        F9_J4 (F9_L2 x3217 a2 N a3 a1 p2776 k2506 n3295) p3257 (p3258 ++ [x3324])
      else
        F9_J4 (F9_L2 x3217 a2 N a3 a1 p2776 k2506 n3295) p3257 p3258
    else
      F9_J2 k2506 p2776 p3258

def F9_L1 (a1 : List Itm) (N : Nat) (a3 : Str) (a0 : Mdl) (a2 : Str) : Nat → Int → (List Itm) → Option ((List Itm))
  | 0, _, _ => none
  | n3056 + 1, p2776, p2777 =>
    bif decide (p2776 < (a1.length : Int)) then
      (getO a1 p2776).bind fun x3200 =>
      bif x3200.target == 0 then
        (F14 N x3200.concept a3).bind fun x3212 =>
        bif x3212 then
          (chk (decide (p2777.length + 1 ≤ maxLen) && decide ((p2777.length + 1) * 24 ≤ 140737488355328))).bind fun _ =>
          F9_J3 (F9_L1 a1 N a3 a0 a2 n3056) p2776 (p2777 ++ [x3200])
        else
          F9_J3 (F9_L1 a1 N a3 a0 a2 n3056) p2776 p2777
      else
        (F15 N a0 x3200.target).bind fun x3217 =>
        F9_L2 x3217 a2 N a3 a1 p2776 (F9_L1 a1 N a3 a0 a2 n3056) N 0 p2777
    else
      F9_J1 p2777

def F9 (N : Nat) (a0 : Mdl) (a1 : List Itm) (a2 : Str) (a3 : Str) : Option ((List Itm)) :=
  F9_L1 a1 N a3 a0 a2 N 0 []

set_option maxHeartbeats 4000000 in
theorem F9_does (E : Env) (N : Nat) (a0 : Mdl) (a1 : List Itm) (a2 : Str) (a3 : Str) (r : (List Itm)) (h : F9 N a0 a1 a2 a3 = some r) : Does Try.prog E 9 [.agg [.fl (.int .i64 a0.next), .sl (List.map Nd.av a0.nodes)], .sl (List.map Itm.av a1), .fl (bs a2), .fl (bs a3)] (.ret [.own 41 (List.map Itm.av r)]) := by
  refine does_run Try.func9 Try.ntmps9 rfl rfl (by simp) fun w0 I0 s hr hb => ?_
  have h0 := hr 0
  have h1 := hr 1
  have h2 := hr 2
  have h3 := hr 3
  simp only [List.map_cons, List.map_nil, List.getElem?_cons_zero, List.getElem?_cons_succ, Option.getD_some] at h0 h1 h2 h3
  unfold F9 at h
  refine awp_seq fun K1668 hK1668 => ?_
  refine awp_region rfl (by kernel_rfl) ?_
  first | refine rops_k ?_ | refine ropsD_k ?_
  repeat (refine rops_ng rfl fun K hK => ?_; simp only [go_sem, reduceIte, Nat.reduceEqDiff, reduceCtorEq, Nat.reduceAdd, Nat.reduceMul, Nat.reduceLT, Nat.reduceLeDiff, Int.reduceToNat, Int.reduceLE, h0]; refine hK _ ?_; clear hK K)
  first | refine rops_nil ?_ | refine ropsD_nil ?_
  try simp only [exs, reduceIte, Nat.reduceEqDiff]
  refine hK1668 _ ?_
  refine awp_seq fun K1669 hK1669 => ?_
  refine awp_region rfl (by kernel_rfl) ?_
  first | refine rops_k ?_ | refine ropsD_k ?_
  repeat (refine rops_ng rfl fun K hK => ?_; simp only [go_sem, reduceIte, Nat.reduceEqDiff, reduceCtorEq, Nat.reduceAdd, Nat.reduceMul, Nat.reduceLT, Nat.reduceLeDiff, Int.reduceToNat, Int.reduceLE]; refine hK _ ?_; clear hK K)
  first | refine rops_nil ?_ | refine ropsD_nil ?_
  try simp only [exs, reduceIte, Nat.reduceEqDiff]
  refine hK1669 _ ?_
  refine awp_ofNil 9 41 (by simp only [upd_apply, reduceIte, Nat.reduceEqDiff, St.ev, constReg, constCell, St.put_some, St.put_none]) (by rw [tc41]; exact Nat.zero_lt_succ _) ?_
  simp only [St.newArr, List.length_nil]
  refine awp_seq fun K1670 hK1670 => ?_
  have J1 : ∀ (p2501 : List Itm) (s2502 : St), (s2502.r 9 = .view 9 (s2502.g 9) 0 p2501.length) → (s2502.b 9 = some (.arr 41 (List.map Itm.av p2501))) → F9_J1 p2501 = some r → K1670 s2502 := by
    intro p2501 s2502 h9 b9 h
    unfold F9_J1 at h
    refine hK1670 _ ?_
    refine awp_seq fun K2503 hK2503 => ?_
    refine awp_region rfl (by kernel_rfl) ?_
    first | refine rops_k ?_ | refine ropsD_k ?_
    repeat (refine rops_ng rfl fun K hK => ?_; simp only [go_sem, reduceIte, Nat.reduceEqDiff, reduceCtorEq, Nat.reduceAdd, Nat.reduceMul, Nat.reduceLT, Nat.reduceLeDiff, Int.reduceToNat, Int.reduceLE, h9, b9]; refine hK _ ?_; clear hK K)
    first | refine rops_nil ?_ | refine ropsD_nil ?_
    try simp only [exs, reduceIte, Nat.reduceEqDiff]
    refine hK2503 _ ?_
    have h := Option.some.inj h
    subst h
    refine awp_ret ?_
    try simp only [exs, reduceIte, Nat.reduceEqDiff]
    refine fin_ret (vs := [.tmp 8]) Try.ntmps9 rfl (by simp [List.filter_cons, isOwn]) (some 8) ?_
    (simp only [resultsAre, resCell, loadRegs, regRV, go_sem, reduceIte, Nat.reduceEqDiff, reduceCtorEq, Nat.reduceAdd, Nat.reduceMul, Nat.reduceLT, Nat.reduceLeDiff, Int.reduceToNat, Int.reduceLE, fs_all, take_length_map, h9, b9] <;> rfl)
  refine awp_seq fun K2504 hK2504 => ?_
  refine awp_region rfl (by kernel_rfl) ?_
  first | refine rops_k ?_ | refine ropsD_k ?_
  repeat (refine rops_ng rfl fun K hK => ?_; simp only [go_sem, reduceIte, Nat.reduceEqDiff, reduceCtorEq, Nat.reduceAdd, Nat.reduceMul, Nat.reduceLT, Nat.reduceLeDiff, Int.reduceToNat, Int.reduceLE]; refine hK _ ?_; clear hK K)
  first | refine rops_nil ?_ | refine ropsD_nil ?_
  try simp only [exs, reduceIte, Nat.reduceEqDiff]
  refine hK2504 _ ?_
  refine awp_block ?_
  refine awp_loopK (fun m s3055 => ∃ (p2776 : Int) (p2777 : List Itm), s3055.r 1 = .val (.sl (List.map Itm.av a1)) ∧ s3055.r 2 = .val (.fl (bs a2)) ∧ s3055.r 3 = .val (.fl (bs a3)) ∧ s3055.r 4 = .loc 4 (s3055.g 4) 0 0 0 ∧ s3055.r 9 = .view 9 (s3055.g 9) 0 p2777.length ∧ s3055.r 10 = .val (.fl (.int .i64 p2776)) ∧ s3055.b 4 = some (.cells [.val (.fl (.int .i64 a0.next)), .val (.sl (List.map Nd.av a0.nodes))]) ∧ s3055.b 9 = some (.arr 41 (List.map Itm.av p2777)) ∧  F9_L1 a1 N a3 a0 a2 m p2776 p2777 = some r) N ?_ ?_
  · refine ⟨0, [], ?_, ?_, ?_, ?_, ?_, ?_, ?_, ?_, h⟩
    · simp only [upd_apply, reduceIte, Nat.reduceEqDiff, h1]
    · simp only [upd_apply, reduceIte, Nat.reduceEqDiff, h2]
    · simp only [upd_apply, reduceIte, Nat.reduceEqDiff, h3]
    · (first | (simp only [upd_apply, reduceIte, Nat.reduceEqDiff]; done) | (simp only [go_sem, reduceIte, Nat.reduceEqDiff, reduceCtorEq, Nat.reduceAdd, Nat.reduceMul, Nat.reduceLT, Nat.reduceLeDiff, Int.reduceToNat, Int.reduceLE, fs_all, take_length_map, h0, h1, h2, h3] <;> rfl) | rfl)
    · (first | (simp only [upd_apply, reduceIte, Nat.reduceEqDiff]; done) | (simp only [go_sem, reduceIte, Nat.reduceEqDiff, reduceCtorEq, Nat.reduceAdd, Nat.reduceMul, Nat.reduceLT, Nat.reduceLeDiff, Int.reduceToNat, Int.reduceLE, fs_all, take_length_map, h0, h1, h2, h3] <;> rfl) | rfl)
    · (first | (simp only [upd_apply, reduceIte, Nat.reduceEqDiff]; done) | (simp only [go_sem, reduceIte, Nat.reduceEqDiff, reduceCtorEq, Nat.reduceAdd, Nat.reduceMul, Nat.reduceLT, Nat.reduceLeDiff, Int.reduceToNat, Int.reduceLE, fs_all, take_length_map, h0, h1, h2, h3] <;> rfl) | rfl)
    · (first | (simp only [upd_apply, reduceIte, Nat.reduceEqDiff]; done) | (simp only [go_sem, reduceIte, Nat.reduceEqDiff, reduceCtorEq, Nat.reduceAdd, Nat.reduceMul, Nat.reduceLT, Nat.reduceLeDiff, Int.reduceToNat, Int.reduceLE, fs_all, take_length_map, h0, h1, h2, h3] <;> rfl) | rfl)
    · (first | (simp only [upd_apply, reduceIte, Nat.reduceEqDiff]; done) | (simp only [go_sem, reduceIte, Nat.reduceEqDiff, reduceCtorEq, Nat.reduceAdd, Nat.reduceMul, Nat.reduceLT, Nat.reduceLeDiff, Int.reduceToNat, Int.reduceLE, fs_all, take_length_map, h0, h1, h2, h3] <;> rfl) | rfl)
  clear h
  intro m3057 s3055 hI K2505 hK2505
  obtain ⟨p2776, p2777, h1, h2, h3, h4, h9, h10, b4, b9, h⟩ := hI
  rcases m3057 with _ | n3056
  · simp only [F9_L1, reduceCtorEq] at h
  rw [F9_L1] at h
  refine awp_seq fun K3058 hK3058 => ?_
  refine awp_seq fun K3059 hK3059 => ?_
  refine awp_region rfl (by kernel_rfl) ?_
  first | refine rops_k ?_ | refine ropsD_k ?_
  repeat (refine rops_ng rfl fun K hK => ?_; simp only [go_sem, reduceIte, Nat.reduceEqDiff, reduceCtorEq, Nat.reduceAdd, Nat.reduceMul, Nat.reduceLT, Nat.reduceLeDiff, Int.reduceToNat, Int.reduceLE, h1, h10, b4, b9]; refine hK _ ?_; clear hK K)
  first | refine rops_nil ?_ | refine ropsD_nil ?_
  try simp only [exs, reduceIte, Nat.reduceEqDiff]
  refine hK3059 _ ?_
  refine awp_if (by kernel_rfl) (by (simp only [upd_apply, reduceIte, Nat.reduceEqDiff, St.ev, constReg, constCell, St.put_some, St.put_none, h1, h2, h3, h4, h9, h10, b4, b9] <;> rfl)) (fun hc => ?_) (fun hc => ?_)
  · have c3060 : (decide (p2776 < (a1.length : Int))) = true := by first | exact hc | simpa using hc
    clear hc
    rw [c3060] at h
    simp only [cond_true, cond_false] at h
    refine awp_skip ?_
    try simp only [exs, reduceIte, Nat.reduceEqDiff]
    refine hK3058 _ ?_
    refine awp_seq fun K3061 hK3061 => ?_
    have J2 : ∀ (p3196 : List Itm) (s3197 : St), (s3197.r 1 = .val (.sl (List.map Itm.av a1))) → (s3197.r 2 = .val (.fl (bs a2))) → (s3197.r 3 = .val (.fl (bs a3))) → (s3197.r 4 = .loc 4 (s3197.g 4) 0 0 0) → (s3197.r 9 = .view 9 (s3197.g 9) 0 p3196.length) → (s3197.r 10 = .val (.fl (.int .i64 p2776))) → (s3197.b 4 = some (.cells [.val (.fl (.int .i64 a0.next)), .val (.sl (List.map Nd.av a0.nodes))])) → (s3197.b 9 = some (.arr 41 (List.map Itm.av p3196))) → F9_J2 (F9_L1 a1 N a3 a0 a2 n3056) p2776 p3196 = some r → K3061 s3197 := by
      intro p3196 s3197 h1 h2 h3 h4 h9 h10 b4 b9 h
      unfold F9_J2 at h
      refine hK3061 _ ?_
      refine awp_region rfl (by kernel_rfl) ?_
      first | refine rops_k ?_ | refine ropsD_k ?_
      repeat (refine rops_ng rfl fun K hK => ?_; simp only [go_sem, reduceIte, Nat.reduceEqDiff, reduceCtorEq, Nat.reduceAdd, Nat.reduceMul, Nat.reduceLT, Nat.reduceLeDiff, Int.reduceToNat, Int.reduceLE, h10, b4, b9]; refine hK _ ?_; clear hK K)
      first | refine rops_nil ?_ | refine ropsD_nil ?_
      try simp only [exs, reduceIte, Nat.reduceEqDiff]
      refine hK2505 _ ⟨n3056, Nat.lt_succ_self _, (IntKind.i64.wrap (p2776 + 1)), p3196, ?_, ?_, ?_, ?_, ?_, ?_, ?_, ?_, h⟩
      · simp only [upd_apply, reduceIte, Nat.reduceEqDiff, h1]
      · simp only [upd_apply, reduceIte, Nat.reduceEqDiff, h2]
      · simp only [upd_apply, reduceIte, Nat.reduceEqDiff, h3]
      · simp only [upd_apply, reduceIte, Nat.reduceEqDiff, h4]
      · (first | (simp only [upd_apply, reduceIte, Nat.reduceEqDiff, h9]; done) | (simp only [go_sem, reduceIte, Nat.reduceEqDiff, reduceCtorEq, Nat.reduceAdd, Nat.reduceMul, Nat.reduceLT, Nat.reduceLeDiff, Int.reduceToNat, Int.reduceLE, fs_all, take_length_map, h1, h2, h3, h4, h9, h10, b4, b9] <;> rfl) | rfl)
      · (first | (simp only [upd_apply, reduceIte, Nat.reduceEqDiff, h10]; done) | (simp only [go_sem, reduceIte, Nat.reduceEqDiff, reduceCtorEq, Nat.reduceAdd, Nat.reduceMul, Nat.reduceLT, Nat.reduceLeDiff, Int.reduceToNat, Int.reduceLE, fs_all, take_length_map, h1, h2, h3, h4, h9, h10, b4, b9] <;> rfl) | rfl)
      · simp only [upd_apply, reduceIte, Nat.reduceEqDiff, b4]
      · simp only [upd_apply, reduceIte, Nat.reduceEqDiff, b9]
    refine awp_block ?_
    refine awp_seq fun K3198 hK3198 => ?_
    refine awp_seq fun K3199 hK3199 => ?_
    obtain ⟨x3200, q3201, h⟩ := bind_some h
    obtain ⟨q3201i, q3201e, q3201l⟩ := getO_some q3201
    refine awp_region rfl (by kernel_rfl) ?_
    first | refine rops_k ?_ | refine ropsD_k ?_
    repeat (refine rops_ng rfl fun K hK => ?_; simp only [go_sem, reduceIte, Nat.reduceEqDiff, reduceCtorEq, Nat.reduceAdd, Nat.reduceMul, Nat.reduceLT, Nat.reduceLeDiff, Int.reduceToNat, Int.reduceLE, h1, h10, b4, b9, q3201i, q3201e, q3201l]; refine hK _ ?_; clear hK K)
    first | refine rops_nil ?_ | refine ropsD_nil ?_
    try simp only [exs, reduceIte, Nat.reduceEqDiff]
    refine hK3199 _ ?_
    refine awp_if (by kernel_rfl) (by (simp only [upd_apply, reduceIte, Nat.reduceEqDiff, St.ev, constReg, constCell, St.put_some, St.put_none, h1, h2, h3, h4, h9, h10, b4, b9, q3201i, q3201e, q3201l] <;> rfl)) (fun hc => ?_) (fun hc => ?_)
    · have c3202 : (x3200.target == 0) = true := by first | exact hc | simpa using hc
      clear hc
      rw [c3202] at h
      simp only [cond_true, cond_false] at h
      refine awp_seq fun K3203 hK3203 => ?_
      have J3 : ∀ (p3209 : List Itm) (s3210 : St), (s3210.r 1 = .val (.sl (List.map Itm.av a1))) → (s3210.r 2 = .val (.fl (bs a2))) → (s3210.r 3 = .val (.fl (bs a3))) → (s3210.r 4 = .loc 4 (s3210.g 4) 0 0 0) → (s3210.r 9 = .view 9 (s3210.g 9) 0 p3209.length) → (s3210.r 10 = .val (.fl (.int .i64 p2776))) → (s3210.b 4 = some (.cells [.val (.fl (.int .i64 a0.next)), .val (.sl (List.map Nd.av a0.nodes))])) → (s3210.b 9 = some (.arr 41 (List.map Itm.av p3209))) → F9_J3 (F9_L1 a1 N a3 a0 a2 n3056) p2776 p3209 = some r → K3203 s3210 := by
        intro p3209 s3210 h1 h2 h3 h4 h9 h10 b4 b9 h
        unfold F9_J3 at h
        refine hK3203 _ ?_
        refine awp_exit ?_
        try simp only [exs, reduceIte, Nat.reduceEqDiff]
        refine J2 p3209 _ ?_ ?_ ?_ ?_ ?_ ?_ ?_ ?_ h
        · simp only [upd_apply, reduceIte, Nat.reduceEqDiff, h1]
        · simp only [upd_apply, reduceIte, Nat.reduceEqDiff, h2]
        · simp only [upd_apply, reduceIte, Nat.reduceEqDiff, h3]
        · simp only [upd_apply, reduceIte, Nat.reduceEqDiff, h4]
        · (first | (simp only [upd_apply, reduceIte, Nat.reduceEqDiff, h9]; done) | (simp only [go_sem, reduceIte, Nat.reduceEqDiff, reduceCtorEq, Nat.reduceAdd, Nat.reduceMul, Nat.reduceLT, Nat.reduceLeDiff, Int.reduceToNat, Int.reduceLE, fs_all, take_length_map, h1, h2, h3, h4, h9, h10, b4, b9] <;> rfl) | rfl)
        · simp only [upd_apply, reduceIte, Nat.reduceEqDiff, h10]
        · simp only [upd_apply, reduceIte, Nat.reduceEqDiff, b4]
        · simp only [upd_apply, reduceIte, Nat.reduceEqDiff, b9]
      refine awp_seq fun K3211 hK3211 => ?_
      obtain ⟨x3212, q3213, h⟩ := bind_some h
      refine awp_region rfl (by kernel_rfl) ?_
      first | refine rops_k ?_ | refine ropsD_k ?_
      repeat (refine rops_ng rfl fun K hK => ?_; simp only [go_sem, reduceIte, Nat.reduceEqDiff, reduceCtorEq, Nat.reduceAdd, Nat.reduceMul, Nat.reduceLT, Nat.reduceLeDiff, Int.reduceToNat, Int.reduceLE, h1, h3, h10, b4, b9, q3201i, q3201e, q3201l]; refine hK _ ?_; clear hK K)
      refine rops_ng rfl fun K hK => ?_
      simp only [List.head?_cons, List.head?_nil, Option.map_some, Option.map_none, rops1, ropsD1, gtmp, gate, beq_self_eq_true, beq_t, beq_f, Bool.not_true, Bool.not_false, if_true, rOp, rOpD, calleeOf, regAVsOf, regAV, List.getElem?_toArray, List.getElem?_cons_zero, List.getElem?_cons_succ, Option.bind_some, upd_apply, reduceIte, Nat.reduceEqDiff, St.ev, constReg, constCell, St.put_some, St.put_none, h1, h2, h3, h4, h9, h10, b4, b9, q3201i, q3201e, q3201l]
      refine .inl ⟨_, _, rfl, _, rfl, _, (F14_does _ N x3200.concept a3  _ q3213), ?_⟩
      simp only [flRV, outK, St.take, St.takeRVs, St.takeRV, retReg, St.put_some, St.put_none, List.map_cons, List.map_nil]
      refine hK _ ?_; clear hK K
      first | refine rops_nil ?_ | refine ropsD_nil ?_
      try simp only [exs, reduceIte, Nat.reduceEqDiff]
      refine hK3211 _ ?_
      refine awp_if (by kernel_rfl) (by (simp only [upd_apply, reduceIte, Nat.reduceEqDiff, St.ev, constReg, constCell, St.put_some, St.put_none, h1, h2, h3, h4, h9, h10, b4, b9, q3201i, q3201e, q3201l] <;> rfl)) (fun hc => ?_) (fun hc => ?_)
      · have c3214 : (x3212) = true := by first | exact hc | simpa using hc
        clear hc
        rw [c3214] at h
        simp only [cond_true, cond_false] at h
        obtain ⟨_, q3215, h⟩ := bind_some h
        have q3215 := chk_some q3215
        simp only [Bool.and_eq_true, decide_eq_true_eq, and_assoc] at q3215
        obtain ⟨q3215a, q3215b⟩ := q3215
        refine awp_region rfl (by kernel_rfl) ?_
        first | refine rops_k ?_ | refine ropsD_k ?_
        repeat (refine rops_ng rfl fun K hK => ?_; simp only [go_sem, reduceIte, Nat.reduceEqDiff, reduceCtorEq, Nat.reduceAdd, Nat.reduceMul, Nat.reduceLT, Nat.reduceLeDiff, Int.reduceToNat, Int.reduceLE, h1, h9, h10, b4, b9, q3201i, q3201e, q3201l, q3215a, q3215b]; refine hK _ ?_; clear hK K)
        first | refine rops_nil ?_ | refine ropsD_nil ?_
        try simp only [exs, reduceIte, Nat.reduceEqDiff]
        refine J3 (p2777 ++ [x3200]) _ ?_ ?_ ?_ ?_ ?_ ?_ ?_ ?_ h
        · simp only [upd_apply, reduceIte, Nat.reduceEqDiff, h1]
        · simp only [upd_apply, reduceIte, Nat.reduceEqDiff, h2]
        · simp only [upd_apply, reduceIte, Nat.reduceEqDiff, h3]
        · simp only [upd_apply, reduceIte, Nat.reduceEqDiff, h4]
        · (first | (simp only [upd_apply, reduceIte, Nat.reduceEqDiff, h9]; done) | (simp only [go_sem, reduceIte, Nat.reduceEqDiff, reduceCtorEq, Nat.reduceAdd, Nat.reduceMul, Nat.reduceLT, Nat.reduceLeDiff, Int.reduceToNat, Int.reduceLE, fs_all, take_length_map, h1, h2, h3, h4, h9, h10, b4, b9, q3201i, q3201e, q3201l, q3215a, q3215b] <;> rfl) | rfl)
        · simp only [upd_apply, reduceIte, Nat.reduceEqDiff, h10]
        · simp only [upd_apply, reduceIte, Nat.reduceEqDiff, b4]
        · (first | (simp only [upd_apply, reduceIte, Nat.reduceEqDiff, b9]; done) | (simp only [go_sem, reduceIte, Nat.reduceEqDiff, reduceCtorEq, Nat.reduceAdd, Nat.reduceMul, Nat.reduceLT, Nat.reduceLeDiff, Int.reduceToNat, Int.reduceLE, fs_all, take_length_map, h1, h2, h3, h4, h9, h10, b4, b9, q3201i, q3201e, q3201l, q3215a, q3215b] <;> rfl) | rfl)
      have c3214 : (x3212) = false := by first | exact hc | simpa using hc
      clear hc
      rw [c3214] at h
      simp only [cond_true, cond_false] at h
      refine awp_skip ?_
      try simp only [exs, reduceIte, Nat.reduceEqDiff]
      refine J3 p2777 _ ?_ ?_ ?_ ?_ ?_ ?_ ?_ ?_ h
      · simp only [upd_apply, reduceIte, Nat.reduceEqDiff, h1]
      · simp only [upd_apply, reduceIte, Nat.reduceEqDiff, h2]
      · simp only [upd_apply, reduceIte, Nat.reduceEqDiff, h3]
      · simp only [upd_apply, reduceIte, Nat.reduceEqDiff, h4]
      · (first | (simp only [upd_apply, reduceIte, Nat.reduceEqDiff, h9]; done) | (simp only [go_sem, reduceIte, Nat.reduceEqDiff, reduceCtorEq, Nat.reduceAdd, Nat.reduceMul, Nat.reduceLT, Nat.reduceLeDiff, Int.reduceToNat, Int.reduceLE, fs_all, take_length_map, h1, h2, h3, h4, h9, h10, b4, b9, q3201i, q3201e, q3201l] <;> rfl) | rfl)
      · simp only [upd_apply, reduceIte, Nat.reduceEqDiff, h10]
      · simp only [upd_apply, reduceIte, Nat.reduceEqDiff, b4]
      · simp only [upd_apply, reduceIte, Nat.reduceEqDiff, b9]
    have c3202 : (x3200.target == 0) = false := by first | exact hc | simpa using hc
    clear hc
    rw [c3202] at h
    simp only [cond_true, cond_false] at h
    refine awp_skip ?_
    try simp only [exs, reduceIte, Nat.reduceEqDiff]
    refine hK3198 _ ?_
    refine awp_seq fun K3216 hK3216 => ?_
    obtain ⟨x3217, q3218, h⟩ := bind_some h
    refine awp_drop 11 ?_
    refine awp_draw (by kernel_rfl) rfl (by kernel_rfl) (by kernel_rfl) ?_
    first | refine rops_k ?_ | refine ropsD_k ?_
    repeat (refine ropsD_ng rfl fun K hK => ?_; simp only [go_sem, reduceIte, Nat.reduceEqDiff, reduceCtorEq, Nat.reduceAdd, Nat.reduceMul, Nat.reduceLT, Nat.reduceLeDiff, Int.reduceToNat, Int.reduceLE, h1, h4, h10, b4, b9, q3201i, q3201e, q3201l]; refine hK _ ?_; clear hK K)
    refine ropsD_ng rfl fun K hK => ?_
    simp only [List.head?_cons, List.head?_nil, Option.map_some, Option.map_none, rops1, ropsD1, gtmp, gate, beq_self_eq_true, beq_t, beq_f, Bool.not_true, Bool.not_false, if_true, rOp, rOpD, calleeOf, regAVsOf, regAV, List.getElem?_toArray, List.getElem?_cons_zero, List.getElem?_cons_succ, Option.bind_some, upd_apply, reduceIte, Nat.reduceEqDiff, St.ev, constReg, constCell, St.put_some, St.put_none, h1, h2, h3, h4, h9, h10, b4, b9, q3201i, q3201e, q3201l]
    refine ⟨_, _, rfl, _, rfl, _, (F15_does _ N a0 x3200.target  _ q3218), _, rfl, ?_⟩
    simp only [flRV, outK, St.take, St.takeRVs, St.takeRV, retReg, St.put_some, St.put_none, List.map_cons, List.map_nil]
    refine hK _ ?_; clear hK K
    repeat (refine ropsD_ng rfl fun K hK => ?_; simp only [go_sem, reduceIte, Nat.reduceEqDiff, reduceCtorEq, Nat.reduceAdd, Nat.reduceMul, Nat.reduceLT, Nat.reduceLeDiff, Int.reduceToNat, Int.reduceLE, h1, h4, h10, b4, b9, q3201i, q3201e, q3201l]; refine hK _ ?_; clear hK K)
    first | refine rops_nil ?_ | refine ropsD_nil ?_
    try simp only [exs, reduceIte, Nat.reduceEqDiff]
    refine hK3216 _ ?_
    refine awp_seq fun K3219 hK3219 => ?_
    refine awp_region rfl (by kernel_rfl) ?_
    first | refine rops_k ?_ | refine ropsD_k ?_
    repeat (refine rops_ng rfl fun K hK => ?_; simp only [go_sem, reduceIte, Nat.reduceEqDiff, reduceCtorEq, Nat.reduceAdd, Nat.reduceMul, Nat.reduceLT, Nat.reduceLeDiff, Int.reduceToNat, Int.reduceLE, b4, b9]; refine hK _ ?_; clear hK K)
    first | refine rops_nil ?_ | refine ropsD_nil ?_
    try simp only [exs, reduceIte, Nat.reduceEqDiff]
    refine hK3219 _ ?_
    refine awp_block ?_
    refine awp_loopK (fun m s3294 => ∃ (p3257 : Int) (p3258 : List Itm), s3294.r 1 = .val (.sl (List.map Itm.av a1)) ∧ s3294.r 2 = .val (.fl (bs a2)) ∧ s3294.r 3 = .val (.fl (bs a3)) ∧ s3294.r 4 = .loc 4 (s3294.g 4) 0 0 0 ∧ s3294.r 9 = .view 9 (s3294.g 9) 0 p3258.length ∧ s3294.r 10 = .val (.fl (.int .i64 p2776)) ∧ s3294.r 11 = .loc 11 (s3294.g 11) 0 0 0 ∧ s3294.r 13 = .val (.fl (.int .i64 p3257)) ∧ s3294.b 4 = some (.cells [.val (.fl (.int .i64 a0.next)), .val (.sl (List.map Nd.av a0.nodes))]) ∧ s3294.b 9 = some (.arr 41 (List.map Itm.av p3258)) ∧ s3294.b 11 = some (.cells [.val (.fl (.int .i64 x3217.1.id)), .val (.fl (bs x3217.1.concept)), .val (.fl (.int .i64 x3217.1.parent)), .val (.fl (bs x3217.1.role)), .val (.sl (List.map Prp.av x3217.1.props)), .val (.sl (List.map intAV x3217.1.kids)), .val (.sl (List.map Rf.av x3217.1.refs))]) ∧  F9_L2 x3217 a2 N a3 a1 p2776 (F9_L1 a1 N a3 a0 a2 n3056) m p3257 p3258 = some r) N ?_ ?_
    · refine ⟨0, p2777, ?_, ?_, ?_, ?_, ?_, ?_, ?_, ?_, ?_, ?_, ?_, h⟩
      · simp only [upd_apply, reduceIte, Nat.reduceEqDiff, h1]
      · simp only [upd_apply, reduceIte, Nat.reduceEqDiff, h2]
      · simp only [upd_apply, reduceIte, Nat.reduceEqDiff, h3]
      · simp only [upd_apply, reduceIte, Nat.reduceEqDiff, h4]
      · (first | (simp only [upd_apply, reduceIte, Nat.reduceEqDiff, h9]; done) | (simp only [go_sem, reduceIte, Nat.reduceEqDiff, reduceCtorEq, Nat.reduceAdd, Nat.reduceMul, Nat.reduceLT, Nat.reduceLeDiff, Int.reduceToNat, Int.reduceLE, fs_all, take_length_map, h1, h2, h3, h4, h9, h10, b4, b9, q3201i, q3201e, q3201l] <;> rfl) | rfl)
      · simp only [upd_apply, reduceIte, Nat.reduceEqDiff, h10]
      · (first | (simp only [upd_apply, reduceIte, Nat.reduceEqDiff]; done) | (simp only [go_sem, reduceIte, Nat.reduceEqDiff, reduceCtorEq, Nat.reduceAdd, Nat.reduceMul, Nat.reduceLT, Nat.reduceLeDiff, Int.reduceToNat, Int.reduceLE, fs_all, take_length_map, h1, h2, h3, h4, h9, h10, b4, b9, q3201i, q3201e, q3201l] <;> rfl) | rfl)
      · (first | (simp only [upd_apply, reduceIte, Nat.reduceEqDiff]; done) | (simp only [go_sem, reduceIte, Nat.reduceEqDiff, reduceCtorEq, Nat.reduceAdd, Nat.reduceMul, Nat.reduceLT, Nat.reduceLeDiff, Int.reduceToNat, Int.reduceLE, fs_all, take_length_map, h1, h2, h3, h4, h9, h10, b4, b9, q3201i, q3201e, q3201l] <;> rfl) | rfl)
      · simp only [upd_apply, reduceIte, Nat.reduceEqDiff, b4]
      · simp only [upd_apply, reduceIte, Nat.reduceEqDiff, b9]
      · (first | (simp only [upd_apply, reduceIte, Nat.reduceEqDiff]; done) | (simp only [go_sem, reduceIte, Nat.reduceEqDiff, reduceCtorEq, Nat.reduceAdd, Nat.reduceMul, Nat.reduceLT, Nat.reduceLeDiff, Int.reduceToNat, Int.reduceLE, fs_all, take_length_map, h1, h2, h3, h4, h9, h10, b4, b9, q3201i, q3201e, q3201l] <;> rfl) | rfl)
    clear h
    intro m3296 s3294 hI K3220 hK3220
    obtain ⟨p3257, p3258, h1, h2, h3, h4, h9, h10, h11, h13, b4, b9, b11, h⟩ := hI
    rcases m3296 with _ | n3295
    · simp only [F9_L2, reduceCtorEq] at h
    rw [F9_L2] at h
    refine awp_seq fun K3297 hK3297 => ?_
    refine awp_seq fun K3298 hK3298 => ?_
    refine awp_region rfl (by kernel_rfl) ?_
    first | refine rops_k ?_ | refine ropsD_k ?_
    repeat (refine rops_ng rfl fun K hK => ?_; simp only [go_sem, reduceIte, Nat.reduceEqDiff, reduceCtorEq, Nat.reduceAdd, Nat.reduceMul, Nat.reduceLT, Nat.reduceLeDiff, Int.reduceToNat, Int.reduceLE, h11, h13, b4, b9, b11]; refine hK _ ?_; clear hK K)
    first | refine rops_nil ?_ | refine ropsD_nil ?_
    try simp only [exs, reduceIte, Nat.reduceEqDiff]
    refine hK3298 _ ?_
    refine awp_if (by kernel_rfl) (by (simp only [upd_apply, reduceIte, Nat.reduceEqDiff, St.ev, constReg, constCell, St.put_some, St.put_none, h1, h2, h3, h4, h9, h10, h11, h13, b4, b9, b11] <;> rfl)) (fun hc => ?_) (fun hc => ?_)
    · have c3299 : (decide (p3257 < (x3217.1.props.length : Int))) = true := by first | exact hc | simpa using hc
      clear hc
      rw [c3299] at h
      simp only [cond_true, cond_false] at h
      refine awp_skip ?_
      try simp only [exs, reduceIte, Nat.reduceEqDiff]
      refine hK3297 _ ?_
      refine awp_seq fun K3300 hK3300 => ?_
      have J4 : ∀ (p3314 : List Itm) (s3315 : St), (s3315.r 1 = .val (.sl (List.map Itm.av a1))) → (s3315.r 2 = .val (.fl (bs a2))) → (s3315.r 3 = .val (.fl (bs a3))) → (s3315.r 4 = .loc 4 (s3315.g 4) 0 0 0) → (s3315.r 9 = .view 9 (s3315.g 9) 0 p3314.length) → (s3315.r 10 = .val (.fl (.int .i64 p2776))) → (s3315.r 11 = .loc 11 (s3315.g 11) 0 0 0) → (s3315.r 13 = .val (.fl (.int .i64 p3257))) → (s3315.b 4 = some (.cells [.val (.fl (.int .i64 a0.next)), .val (.sl (List.map Nd.av a0.nodes))])) → (s3315.b 9 = some (.arr 41 (List.map Itm.av p3314))) → (s3315.b 11 = some (.cells [.val (.fl (.int .i64 x3217.1.id)), .val (.fl (bs x3217.1.concept)), .val (.fl (.int .i64 x3217.1.parent)), .val (.fl (bs x3217.1.role)), .val (.sl (List.map Prp.av x3217.1.props)), .val (.sl (List.map intAV x3217.1.kids)), .val (.sl (List.map Rf.av x3217.1.refs))])) → F9_J4 (F9_L2 x3217 a2 N a3 a1 p2776 (F9_L1 a1 N a3 a0 a2 n3056) n3295) p3257 p3314 = some r → K3300 s3315 := by
        intro p3314 s3315 h1 h2 h3 h4 h9 h10 h11 h13 b4 b9 b11 h
        unfold F9_J4 at h
        refine hK3300 _ ?_
        refine awp_region rfl (by kernel_rfl) ?_
        first | refine rops_k ?_ | refine ropsD_k ?_
        repeat (refine rops_ng rfl fun K hK => ?_; simp only [go_sem, reduceIte, Nat.reduceEqDiff, reduceCtorEq, Nat.reduceAdd, Nat.reduceMul, Nat.reduceLT, Nat.reduceLeDiff, Int.reduceToNat, Int.reduceLE, h13, b4, b9, b11]; refine hK _ ?_; clear hK K)
        first | refine rops_nil ?_ | refine ropsD_nil ?_
        try simp only [exs, reduceIte, Nat.reduceEqDiff]
        refine hK3220 _ ⟨n3295, Nat.lt_succ_self _, (IntKind.i64.wrap (p3257 + 1)), p3314, ?_, ?_, ?_, ?_, ?_, ?_, ?_, ?_, ?_, ?_, ?_, h⟩
        · simp only [upd_apply, reduceIte, Nat.reduceEqDiff, h1]
        · simp only [upd_apply, reduceIte, Nat.reduceEqDiff, h2]
        · simp only [upd_apply, reduceIte, Nat.reduceEqDiff, h3]
        · simp only [upd_apply, reduceIte, Nat.reduceEqDiff, h4]
        · (first | (simp only [upd_apply, reduceIte, Nat.reduceEqDiff, h9]; done) | (simp only [go_sem, reduceIte, Nat.reduceEqDiff, reduceCtorEq, Nat.reduceAdd, Nat.reduceMul, Nat.reduceLT, Nat.reduceLeDiff, Int.reduceToNat, Int.reduceLE, fs_all, take_length_map, h1, h2, h3, h4, h9, h10, h11, h13, b4, b9, b11] <;> rfl) | rfl)
        · simp only [upd_apply, reduceIte, Nat.reduceEqDiff, h10]
        · simp only [upd_apply, reduceIte, Nat.reduceEqDiff, h11]
        · (first | (simp only [upd_apply, reduceIte, Nat.reduceEqDiff, h13]; done) | (simp only [go_sem, reduceIte, Nat.reduceEqDiff, reduceCtorEq, Nat.reduceAdd, Nat.reduceMul, Nat.reduceLT, Nat.reduceLeDiff, Int.reduceToNat, Int.reduceLE, fs_all, take_length_map, h1, h2, h3, h4, h9, h10, h11, h13, b4, b9, b11] <;> rfl) | rfl)
        · simp only [upd_apply, reduceIte, Nat.reduceEqDiff, b4]
        · simp only [upd_apply, reduceIte, Nat.reduceEqDiff, b9]
        · simp only [upd_apply, reduceIte, Nat.reduceEqDiff, b11]
      refine awp_block ?_
      refine awp_seq fun K3316 hK3316 => ?_
      obtain ⟨x3317, q3319, h⟩ := bind_some h
      obtain ⟨q3319i, q3319e, q3319l⟩ := getO_some q3319
      obtain ⟨x3318, q3320, h⟩ := bindG_some h
      refine awp_region rfl (by kernel_rfl) ?_
      have R3322 : ∀ s3321 : St, (s3321.r 1 = .val (.sl (List.map Itm.av a1))) → (s3321.r 2 = .val (.fl (bs a2))) → (s3321.r 3 = .val (.fl (bs a3))) → (s3321.r 4 = .loc 4 (s3321.g 4) 0 0 0) → (s3321.r 9 = .view 9 (s3321.g 9) 0 p3258.length) → (s3321.r 10 = .val (.fl (.int .i64 p2776))) → (s3321.r 11 = .loc 11 (s3321.g 11) 0 0 0) → (s3321.r 13 = .val (.fl (.int .i64 p3257))) → (s3321.r 74 = .val (.fl (.bool ((x3317.name == a2) && x3318)))) → (s3321.b 4 = some (.cells [.val (.fl (.int .i64 a0.next)), .val (.sl (List.map Nd.av a0.nodes))])) → (s3321.b 9 = some (.arr 41 (List.map Itm.av p3258))) → (s3321.b 11 = some (.cells [.val (.fl (.int .i64 x3217.1.id)), .val (.fl (bs x3217.1.concept)), .val (.fl (.int .i64 x3217.1.parent)), .val (.fl (bs x3217.1.role)), .val (.sl (List.map Prp.av x3217.1.props)), .val (.sl (List.map intAV x3217.1.kids)), .val (.sl (List.map Rf.av x3217.1.refs))])) → K3316 s3321 := by
        intro s3321 h1 h2 h3 h4 h9 h10 h11 h13 h74 b4 b9 b11
        refine hK3316 _ ?_
        refine awp_if (by kernel_rfl) (by (simp only [upd_apply, reduceIte, Nat.reduceEqDiff, St.ev, constReg, constCell, St.put_some, St.put_none, h1, h2, h3, h4, h9, h10, h11, h13, h74, b4, b9, b11, q3319i, q3319e, q3319l] <;> rfl)) (fun hc => ?_) (fun hc => ?_)
        · have c3323 : ((x3317.name == a2) && x3318) = true := by first | exact hc | simpa using hc
          clear hc
          rw [c3323] at h
          simp only [cond_true, cond_false] at h
          obtain ⟨x3324, q3325, h⟩ := bind_some h
          obtain ⟨q3325i, q3325e, q3325l⟩ := getO_some q3325
          obtain ⟨_, q3326, h⟩ := bind_some h
          have q3326 := chk_some q3326
          simp only [Bool.and_eq_true, decide_eq_true_eq, and_assoc] at q3326
          obtain ⟨q3326a, q3326b⟩ := q3326
          refine awp_region rfl (by kernel_rfl) ?_
          first | refine rops_k ?_ | refine ropsD_k ?_
          repeat (refine rops_ng rfl fun K hK => ?_; simp only [go_sem, reduceIte, Nat.reduceEqDiff, reduceCtorEq, Nat.reduceAdd, Nat.reduceMul, Nat.reduceLT, Nat.reduceLeDiff, Int.reduceToNat, Int.reduceLE, h1, h9, h10, b4, b9, b11, q3319i, q3319e, q3319l, q3325i, q3325e, q3325l, q3326a, q3326b]; refine hK _ ?_; clear hK K)
          first | refine rops_nil ?_ | refine ropsD_nil ?_
          try simp only [exs, reduceIte, Nat.reduceEqDiff]
          refine J4 (p3258 ++ [x3324]) _ ?_ ?_ ?_ ?_ ?_ ?_ ?_ ?_ ?_ ?_ ?_ h
          · simp only [upd_apply, reduceIte, Nat.reduceEqDiff, h1]
          · simp only [upd_apply, reduceIte, Nat.reduceEqDiff, h2]
          · simp only [upd_apply, reduceIte, Nat.reduceEqDiff, h3]
          · simp only [upd_apply, reduceIte, Nat.reduceEqDiff, h4]
          · (first | (simp only [upd_apply, reduceIte, Nat.reduceEqDiff, h9]; done) | (simp only [go_sem, reduceIte, Nat.reduceEqDiff, reduceCtorEq, Nat.reduceAdd, Nat.reduceMul, Nat.reduceLT, Nat.reduceLeDiff, Int.reduceToNat, Int.reduceLE, fs_all, take_length_map, h1, h2, h3, h4, h9, h10, h11, h13, h74, b4, b9, b11, q3319i, q3319e, q3319l, q3325i, q3325e, q3325l, q3326a, q3326b] <;> rfl) | rfl)
          · simp only [upd_apply, reduceIte, Nat.reduceEqDiff, h10]
          · simp only [upd_apply, reduceIte, Nat.reduceEqDiff, h11]
          · simp only [upd_apply, reduceIte, Nat.reduceEqDiff, h13]
          · simp only [upd_apply, reduceIte, Nat.reduceEqDiff, b4]
          · (first | (simp only [upd_apply, reduceIte, Nat.reduceEqDiff, b9]; done) | (simp only [go_sem, reduceIte, Nat.reduceEqDiff, reduceCtorEq, Nat.reduceAdd, Nat.reduceMul, Nat.reduceLT, Nat.reduceLeDiff, Int.reduceToNat, Int.reduceLE, fs_all, take_length_map, h1, h2, h3, h4, h9, h10, h11, h13, h74, b4, b9, b11, q3319i, q3319e, q3319l, q3325i, q3325e, q3325l, q3326a, q3326b] <;> rfl) | rfl)
          · simp only [upd_apply, reduceIte, Nat.reduceEqDiff, b11]
        have c3323 : ((x3317.name == a2) && x3318) = false := by first | exact hc | simpa using hc
        clear hc
        rw [c3323] at h
        simp only [cond_true, cond_false] at h
        refine awp_skip ?_
        try simp only [exs, reduceIte, Nat.reduceEqDiff]
        refine J4 p3258 _ ?_ ?_ ?_ ?_ ?_ ?_ ?_ ?_ ?_ ?_ ?_ h
        · simp only [upd_apply, reduceIte, Nat.reduceEqDiff, h1]
        · simp only [upd_apply, reduceIte, Nat.reduceEqDiff, h2]
        · simp only [upd_apply, reduceIte, Nat.reduceEqDiff, h3]
        · simp only [upd_apply, reduceIte, Nat.reduceEqDiff, h4]
        · (first | (simp only [upd_apply, reduceIte, Nat.reduceEqDiff, h9]; done) | (simp only [go_sem, reduceIte, Nat.reduceEqDiff, reduceCtorEq, Nat.reduceAdd, Nat.reduceMul, Nat.reduceLT, Nat.reduceLeDiff, Int.reduceToNat, Int.reduceLE, fs_all, take_length_map, h1, h2, h3, h4, h9, h10, h11, h13, h74, b4, b9, b11, q3319i, q3319e, q3319l] <;> rfl) | rfl)
        · simp only [upd_apply, reduceIte, Nat.reduceEqDiff, h10]
        · simp only [upd_apply, reduceIte, Nat.reduceEqDiff, h11]
        · simp only [upd_apply, reduceIte, Nat.reduceEqDiff, h13]
        · simp only [upd_apply, reduceIte, Nat.reduceEqDiff, b4]
        · simp only [upd_apply, reduceIte, Nat.reduceEqDiff, b9]
        · simp only [upd_apply, reduceIte, Nat.reduceEqDiff, b11]
      first | refine rops_k ?_ | refine ropsD_k ?_
      repeat (refine rops_ng rfl fun K hK => ?_; simp only [go_sem, reduceIte, Nat.reduceEqDiff, reduceCtorEq, Nat.reduceAdd, Nat.reduceMul, Nat.reduceLT, Nat.reduceLeDiff, Int.reduceToNat, Int.reduceLE, h2, h3, h11, h13, b4, b9, b11, q3319i, q3319e, q3319l]; refine hK _ ?_; clear hK K)
      rcases c3327 : (x3317.name == a2) with _ | _
      · repeat (first | (refine rops_ng rfl fun K hK => ?_; simp only [go_sem, reduceIte, Nat.reduceEqDiff, reduceCtorEq, Nat.reduceAdd, Nat.reduceMul, Nat.reduceLT, Nat.reduceLeDiff, Int.reduceToNat, Int.reduceLE, h2, h3, h11, h13, b4, b9, b11, q3319i, q3319e, q3319l, c3327]; refine hK _ ?_; clear hK K) | (refine rops_on rfl rfl ?_ fun K hK => ?_; (focus (simp only [go_sem, reduceIte, Nat.reduceEqDiff, reduceCtorEq, Nat.reduceAdd, Nat.reduceMul, Nat.reduceLT, Nat.reduceLeDiff, Int.reduceToNat, Int.reduceLE, h2, h3, h11, h13, b4, b9, b11, q3319i, q3319e, q3319l, c3327]; done)); simp only [go_sem, reduceIte, Nat.reduceEqDiff, reduceCtorEq, Nat.reduceAdd, Nat.reduceMul, Nat.reduceLT, Nat.reduceLeDiff, Int.reduceToNat, Int.reduceLE, h2, h3, h11, h13, b4, b9, b11, q3319i, q3319e, q3319l, c3327]; refine hK _ ?_; clear hK K) | (refine rops_off rfl rfl ?_ ?_; (focus (simp only [go_sem, reduceIte, Nat.reduceEqDiff, reduceCtorEq, Nat.reduceAdd, Nat.reduceMul, Nat.reduceLT, Nat.reduceLeDiff, Int.reduceToNat, Int.reduceLE, h2, h3, h11, h13, b4, b9, b11, q3319i, q3319e, q3319l, c3327]; done))))
        first | refine rops_nil ?_ | refine ropsD_nil ?_
        try simp only [exs, reduceIte, Nat.reduceEqDiff]
        refine R3322 _ ?_ ?_ ?_ ?_ ?_ ?_ ?_ ?_ ?_ ?_ ?_ ?_
        · simp only [upd_apply, reduceIte, Nat.reduceEqDiff, h1]
        · simp only [upd_apply, reduceIte, Nat.reduceEqDiff, h2]
        · simp only [upd_apply, reduceIte, Nat.reduceEqDiff, h3]
        · simp only [upd_apply, reduceIte, Nat.reduceEqDiff, h4]
        · (first | (simp only [upd_apply, reduceIte, Nat.reduceEqDiff, h9]; done) | (simp only [go_sem, reduceIte, Nat.reduceEqDiff, reduceCtorEq, Nat.reduceAdd, Nat.reduceMul, Nat.reduceLT, Nat.reduceLeDiff, Int.reduceToNat, Int.reduceLE, fs_all, take_length_map, h1, h2, h3, h4, h9, h10, h11, h13, b4, b9, b11, q3319i, q3319e, q3319l, c3327] <;> rfl) | rfl)
        · simp only [upd_apply, reduceIte, Nat.reduceEqDiff, h10]
        · simp only [upd_apply, reduceIte, Nat.reduceEqDiff, h11]
        · simp only [upd_apply, reduceIte, Nat.reduceEqDiff, h13]
        · (first | (simp only [upd_apply, reduceIte, Nat.reduceEqDiff]; done) | (simp only [go_sem, reduceIte, Nat.reduceEqDiff, reduceCtorEq, Nat.reduceAdd, Nat.reduceMul, Nat.reduceLT, Nat.reduceLeDiff, Int.reduceToNat, Int.reduceLE, fs_all, take_length_map, h1, h2, h3, h4, h9, h10, h11, h13, b4, b9, b11, q3319i, q3319e, q3319l, c3327] <;> rfl) | rfl)
        · simp only [upd_apply, reduceIte, Nat.reduceEqDiff, b4]
        · simp only [upd_apply, reduceIte, Nat.reduceEqDiff, b9]
        · simp only [upd_apply, reduceIte, Nat.reduceEqDiff, b11]
      have q3328 := q3320 (by simp only [c3327, fs_bool, beq_t, beq_f, beq_self_eq_true])
      repeat (first | (refine rops_ng rfl fun K hK => ?_; simp only [go_sem, reduceIte, Nat.reduceEqDiff, reduceCtorEq, Nat.reduceAdd, Nat.reduceMul, Nat.reduceLT, Nat.reduceLeDiff, Int.reduceToNat, Int.reduceLE, h2, h3, h11, h13, b4, b9, b11, q3319i, q3319e, q3319l, c3327]; refine hK _ ?_; clear hK K) | (refine rops_on rfl rfl ?_ fun K hK => ?_; (focus (simp only [go_sem, reduceIte, Nat.reduceEqDiff, reduceCtorEq, Nat.reduceAdd, Nat.reduceMul, Nat.reduceLT, Nat.reduceLeDiff, Int.reduceToNat, Int.reduceLE, h2, h3, h11, h13, b4, b9, b11, q3319i, q3319e, q3319l, c3327]; done)); simp only [go_sem, reduceIte, Nat.reduceEqDiff, reduceCtorEq, Nat.reduceAdd, Nat.reduceMul, Nat.reduceLT, Nat.reduceLeDiff, Int.reduceToNat, Int.reduceLE, h2, h3, h11, h13, b4, b9, b11, q3319i, q3319e, q3319l, c3327]; refine hK _ ?_; clear hK K) | (refine rops_off rfl rfl ?_ ?_; (focus (simp only [go_sem, reduceIte, Nat.reduceEqDiff, reduceCtorEq, Nat.reduceAdd, Nat.reduceMul, Nat.reduceLT, Nat.reduceLeDiff, Int.reduceToNat, Int.reduceLE, h2, h3, h11, h13, b4, b9, b11, q3319i, q3319e, q3319l, c3327]; done))))
      refine rops_on rfl rfl (by simp only [gate, beq_self_eq_true, beq_t, beq_f, Bool.not_true, Bool.not_false, Bool.true_eq_false, Bool.false_eq_true, upd_apply, reduceIte, Nat.reduceEqDiff, St.put_some, St.put_none, h1, h2, h3, h4, h9, h10, h11, h13, b4, b9, b11, q3319i, q3319e, q3319l, c3327]) fun K hK => ?_
      simp only [List.head?_cons, List.head?_nil, Option.map_some, Option.map_none, rops1, ropsD1, gtmp, gate, beq_self_eq_true, beq_t, beq_f, Bool.not_true, Bool.not_false, if_true, rOp, rOpD, calleeOf, regAVsOf, regAV, List.getElem?_toArray, List.getElem?_cons_zero, List.getElem?_cons_succ, Option.bind_some, upd_apply, reduceIte, Nat.reduceEqDiff, St.ev, constReg, constCell, St.put_some, St.put_none, h1, h2, h3, h4, h9, h10, h11, h13, b4, b9, b11, q3319i, q3319e, q3319l, c3327]
      refine .inl ⟨_, _, rfl, _, rfl, _, (F14_does _ N x3317.value a3  _ q3328), ?_⟩
      simp only [flRV, outK, St.take, St.takeRVs, St.takeRV, retReg, St.put_some, St.put_none, List.map_cons, List.map_nil]
      refine hK _ ?_; clear hK K
      repeat (first | (refine rops_ng rfl fun K hK => ?_; simp only [go_sem, reduceIte, Nat.reduceEqDiff, reduceCtorEq, Nat.reduceAdd, Nat.reduceMul, Nat.reduceLT, Nat.reduceLeDiff, Int.reduceToNat, Int.reduceLE, h2, h3, h11, h13, b4, b9, b11, q3319i, q3319e, q3319l, c3327]; refine hK _ ?_; clear hK K) | (refine rops_on rfl rfl ?_ fun K hK => ?_; (focus (simp only [go_sem, reduceIte, Nat.reduceEqDiff, reduceCtorEq, Nat.reduceAdd, Nat.reduceMul, Nat.reduceLT, Nat.reduceLeDiff, Int.reduceToNat, Int.reduceLE, h2, h3, h11, h13, b4, b9, b11, q3319i, q3319e, q3319l, c3327]; done)); simp only [go_sem, reduceIte, Nat.reduceEqDiff, reduceCtorEq, Nat.reduceAdd, Nat.reduceMul, Nat.reduceLT, Nat.reduceLeDiff, Int.reduceToNat, Int.reduceLE, h2, h3, h11, h13, b4, b9, b11, q3319i, q3319e, q3319l, c3327]; refine hK _ ?_; clear hK K) | (refine rops_off rfl rfl ?_ ?_; (focus (simp only [go_sem, reduceIte, Nat.reduceEqDiff, reduceCtorEq, Nat.reduceAdd, Nat.reduceMul, Nat.reduceLT, Nat.reduceLeDiff, Int.reduceToNat, Int.reduceLE, h2, h3, h11, h13, b4, b9, b11, q3319i, q3319e, q3319l, c3327]; done))))
      first | refine rops_nil ?_ | refine ropsD_nil ?_
      try simp only [exs, reduceIte, Nat.reduceEqDiff]
      refine R3322 _ ?_ ?_ ?_ ?_ ?_ ?_ ?_ ?_ ?_ ?_ ?_ ?_
      · simp only [upd_apply, reduceIte, Nat.reduceEqDiff, h1]
      · simp only [upd_apply, reduceIte, Nat.reduceEqDiff, h2]
      · simp only [upd_apply, reduceIte, Nat.reduceEqDiff, h3]
      · simp only [upd_apply, reduceIte, Nat.reduceEqDiff, h4]
      · (first | (simp only [upd_apply, reduceIte, Nat.reduceEqDiff, h9]; done) | (simp only [go_sem, reduceIte, Nat.reduceEqDiff, reduceCtorEq, Nat.reduceAdd, Nat.reduceMul, Nat.reduceLT, Nat.reduceLeDiff, Int.reduceToNat, Int.reduceLE, fs_all, take_length_map, h1, h2, h3, h4, h9, h10, h11, h13, b4, b9, b11, q3319i, q3319e, q3319l, c3327] <;> rfl) | rfl)
      · simp only [upd_apply, reduceIte, Nat.reduceEqDiff, h10]
      · simp only [upd_apply, reduceIte, Nat.reduceEqDiff, h11]
      · simp only [upd_apply, reduceIte, Nat.reduceEqDiff, h13]
      · (first | (simp only [upd_apply, reduceIte, Nat.reduceEqDiff]; done) | (simp only [go_sem, reduceIte, Nat.reduceEqDiff, reduceCtorEq, Nat.reduceAdd, Nat.reduceMul, Nat.reduceLT, Nat.reduceLeDiff, Int.reduceToNat, Int.reduceLE, fs_all, take_length_map, h1, h2, h3, h4, h9, h10, h11, h13, b4, b9, b11, q3319i, q3319e, q3319l, c3327] <;> rfl) | rfl)
      · simp only [upd_apply, reduceIte, Nat.reduceEqDiff, b4]
      · simp only [upd_apply, reduceIte, Nat.reduceEqDiff, b9]
      · simp only [upd_apply, reduceIte, Nat.reduceEqDiff, b11]
    have c3299 : (decide (p3257 < (x3217.1.props.length : Int))) = false := by first | exact hc | simpa using hc
    clear hc
    rw [c3299] at h
    simp only [cond_true, cond_false] at h
    refine awp_exit ?_
    try simp only [exs, reduceIte, Nat.reduceEqDiff]
    refine J2 p3258 _ ?_ ?_ ?_ ?_ ?_ ?_ ?_ ?_ h
    · simp only [upd_apply, reduceIte, Nat.reduceEqDiff, h1]
    · simp only [upd_apply, reduceIte, Nat.reduceEqDiff, h2]
    · simp only [upd_apply, reduceIte, Nat.reduceEqDiff, h3]
    · simp only [upd_apply, reduceIte, Nat.reduceEqDiff, h4]
    · (first | (simp only [upd_apply, reduceIte, Nat.reduceEqDiff, h9]; done) | (simp only [go_sem, reduceIte, Nat.reduceEqDiff, reduceCtorEq, Nat.reduceAdd, Nat.reduceMul, Nat.reduceLT, Nat.reduceLeDiff, Int.reduceToNat, Int.reduceLE, fs_all, take_length_map, h1, h2, h3, h4, h9, h10, h11, h13, b4, b9, b11] <;> rfl) | rfl)
    · simp only [upd_apply, reduceIte, Nat.reduceEqDiff, h10]
    · simp only [upd_apply, reduceIte, Nat.reduceEqDiff, b4]
    · simp only [upd_apply, reduceIte, Nat.reduceEqDiff, b9]
  have c3060 : (decide (p2776 < (a1.length : Int))) = false := by first | exact hc | simpa using hc
  clear hc
  rw [c3060] at h
  simp only [cond_true, cond_false] at h
  refine awp_exit ?_
  try simp only [exs, reduceIte, Nat.reduceEqDiff]
  refine J1 p2777 _ ?_ ?_ h
  · (first | (simp only [upd_apply, reduceIte, Nat.reduceEqDiff, h9]; done) | (simp only [go_sem, reduceIte, Nat.reduceEqDiff, reduceCtorEq, Nat.reduceAdd, Nat.reduceMul, Nat.reduceLT, Nat.reduceLeDiff, Int.reduceToNat, Int.reduceLE, fs_all, take_length_map, h1, h2, h3, h4, h9, h10, b4, b9] <;> rfl) | rfl)
  · simp only [upd_apply, reduceIte, Nat.reduceEqDiff, b9]

end Go.Proofs.Mm
