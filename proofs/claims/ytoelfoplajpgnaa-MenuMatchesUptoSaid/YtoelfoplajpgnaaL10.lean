import Derived.Test.YtoelfoplajpgnaaEvLift
import Derived.Test.YtoelfoplajpgnaaMmF
import Derived.Test.YtoelfoplajpgnaaLS1
import Derived.Test.YtoelfoplajpgnaaLS3
set_option linter.unusedVariables false
set_option linter.unusedSimpArgs false
set_option linter.unusedSectionVars false

namespace Go.Proofs.Mm
open Go Go.Ev

-- topiary/menu.Match
def F10_J1 (p2411 : List Itm) : Option ((List Itm)) :=
  some p2411

def F10_J2 (k2416 : Int → (List Itm) → Option ((List Itm))) (p2676 : Int) (p3081 : List Itm) : Option ((List Itm)) :=
  k2416 (IntKind.i64.wrap (p2676 + 1)) p3081

def F10_J3 (k2416 : Int → (List Itm) → Option ((List Itm))) (p2676 : Int) (p3095 : List Itm) : Option ((List Itm)) :=
  F10_J2 k2416 p2676 p3095

def F10_J4 (k3107 : Int → (List Itm) → Option ((List Itm))) (p3141 : Int) (p3195 : List Itm) : Option ((List Itm)) :=
  k3107 (IntKind.i64.wrap (p3141 + 1)) p3195

def F10_L2 (x3103 : Nd × Bool) (a2 : Str) (N : Nat) (a3 : Str) (x3084 : Itm) (k2416 : Int → (List Itm) → Option ((List Itm))) (p2676 : Int) : Nat → Int → (List Itm) → Option ((List Itm))
  | 0, _, _ => none
  | n3177 + 1, p3141, p3142 =>
    bif decide (p3141 < (x3103.1.props.length : Int)) then
      (getO x3103.1.props p3141).bind fun x3198 =>
      bindG ((x3198.name == a2)) (F16 N x3198.value a3) fun x3201 =>
      bif (x3198.name == a2) && x3201 then
        (chk (decide (p3142.length + 1 ≤ maxLen) && decide ((p3142.length + 1) * 24 ≤ 140737488355328))).bind fun _ =>
        F10_J4 (F10_L2 x3103 a2 N a3 x3084 k2416 p2676 n3177) p3141 (p3142 ++ [x3084])
      else
        F10_J4 (F10_L2 x3103 a2 N a3 x3084 k2416 p2676 n3177) p3141 p3142
    else
      F10_J2 k2416 p2676 p3142

def F10_L1 (a1 : List Itm) (N : Nat) (a3 : Str) (a0 : Mdl) (a2 : Str) : Nat → Int → (List Itm) → Option ((List Itm))
  | 0, _, _ => none
  | n2946 + 1, p2676, p2677 =>
    bif decide (p2676 < (a1.length : Int)) then
      (getO a1 p2676).bind fun x3084 =>
      bif x3084.target == 0 then
        (F16 N x3084.concept a3).bind fun x3098 =>
        bif x3098 then
          (chk (decide (p2677.length + 1 ≤ maxLen) && decide ((p2677.length + 1) * 24 ≤ 140737488355328))).bind fun _ =>
          F10_J3 (F10_L1 a1 N a3 a0 a2 n2946) p2676 (p2677 ++ [x3084])
        else
          F10_J3 (F10_L1 a1 N a3 a0 a2 n2946) p2676 p2677
      else
        (F17 N a0 x3084.target).bind fun x3103 =>
        F10_L2 x3103 a2 N a3 x3084 (F10_L1 a1 N a3 a0 a2 n2946) p2676 N 0 p2677
    else
      F10_J1 p2677

def F10 (N : Nat) (a0 : Mdl) (a1 : List Itm) (a2 : Str) (a3 : Str) : Option ((List Itm)) :=
  F10_L1 a1 N a3 a0 a2 N 0 []

set_option maxHeartbeats 4000000 in
theorem F10_does (E : Env) (N : Nat) (a0 : Mdl) (a1 : List Itm) (a2 : Str) (a3 : Str) (r : (List Itm)) (h : F10 N a0 a1 a2 a3 = some r) : Does Try.prog E 10 [.agg [.fl (.int .i64 a0.next), .sl (List.map Nd.av a0.nodes)], .sl (List.map Itm.av a1), .fl (bs a2), .fl (bs a3)] (.ret [.own 41 (List.map Itm.av r)]) := by
  refine does_run Try.func10 Try.ntmps10 rfl rfl (by simp) fun w0 I0 s hr hb => ?_
  have h0 := hr 0
  have h1 := hr 1
  have h2 := hr 2
  have h3 := hr 3
  simp only [List.map_cons, List.map_nil, List.getElem?_cons_zero, List.getElem?_cons_succ, Option.getD_some] at h0 h1 h2 h3
  unfold F10 at h
  refine awp_seq fun K1608 hK1608 => ?_
  refine awp_region rfl (by kernel_rfl) ?_
  first | refine rops_k ?_ | refine ropsD_k ?_
  repeat (refine rops_ng rfl fun K hK => ?_; simp only [go_sem, reduceIte, Nat.reduceEqDiff, reduceCtorEq, Nat.reduceAdd, Nat.reduceMul, Nat.reduceLT, Nat.reduceLeDiff, Int.reduceToNat, Int.reduceLE, h0]; refine hK _ ?_; clear hK K)
  first | refine rops_nil ?_ | refine ropsD_nil ?_
  try simp only [exs, reduceIte, Nat.reduceEqDiff]
  refine hK1608 _ ?_
  refine awp_seq fun K1609 hK1609 => ?_
  refine awp_region rfl (by kernel_rfl) ?_
  first | refine rops_k ?_ | refine ropsD_k ?_
  repeat (refine rops_ng rfl fun K hK => ?_; simp only [go_sem, reduceIte, Nat.reduceEqDiff, reduceCtorEq, Nat.reduceAdd, Nat.reduceMul, Nat.reduceLT, Nat.reduceLeDiff, Int.reduceToNat, Int.reduceLE]; refine hK _ ?_; clear hK K)
  first | refine rops_nil ?_ | refine ropsD_nil ?_
  try simp only [exs, reduceIte, Nat.reduceEqDiff]
  refine hK1609 _ ?_
  refine awp_ofNil 9 41 (by simp only [upd_apply, reduceIte, Nat.reduceEqDiff, St.ev, constReg, constCell, St.put_some, St.put_none]) (by rw [tc41]; exact Nat.zero_lt_succ _) ?_
  simp only [St.newArr, List.length_nil]
  refine awp_seq fun K1610 hK1610 => ?_
  have J1 : ∀ (p2411 : List Itm) (s2412 : St), (s2412.r 9 = .view 9 (s2412.g 9) 0 p2411.length) → (s2412.b 9 = some (.arr 41 (List.map Itm.av p2411))) → F10_J1 p2411 = some r → K1610 s2412 := by
    intro p2411 s2412 h9 b9 h
    unfold F10_J1 at h
    refine hK1610 _ ?_
    refine awp_seq fun K2413 hK2413 => ?_
    refine awp_region rfl (by kernel_rfl) ?_
    first | refine rops_k ?_ | refine ropsD_k ?_
    repeat (refine rops_ng rfl fun K hK => ?_; simp only [go_sem, reduceIte, Nat.reduceEqDiff, reduceCtorEq, Nat.reduceAdd, Nat.reduceMul, Nat.reduceLT, Nat.reduceLeDiff, Int.reduceToNat, Int.reduceLE, h9, b9]; refine hK _ ?_; clear hK K)
    first | refine rops_nil ?_ | refine ropsD_nil ?_
    try simp only [exs, reduceIte, Nat.reduceEqDiff]
    refine hK2413 _ ?_
    have h := Option.some.inj h
    subst h
    refine awp_ret ?_
    try simp only [exs, reduceIte, Nat.reduceEqDiff]
    refine fin_ret (vs := [.tmp 8]) Try.ntmps10 rfl (by simp [List.filter_cons, isOwn]) (some 8) ?_
    (simp only [resultsAre, resCell, loadRegs, regRV, go_sem, reduceIte, Nat.reduceEqDiff, reduceCtorEq, Nat.reduceAdd, Nat.reduceMul, Nat.reduceLT, Nat.reduceLeDiff, Int.reduceToNat, Int.reduceLE, fs_all, take_length_map, h9, b9] <;> rfl)
  refine awp_seq fun K2414 hK2414 => ?_
  refine awp_region rfl (by kernel_rfl) ?_
  first | refine rops_k ?_ | refine ropsD_k ?_
  repeat (refine rops_ng rfl fun K hK => ?_; simp only [go_sem, reduceIte, Nat.reduceEqDiff, reduceCtorEq, Nat.reduceAdd, Nat.reduceMul, Nat.reduceLT, Nat.reduceLeDiff, Int.reduceToNat, Int.reduceLE, h1]; refine hK _ ?_; clear hK K)
  first | refine rops_nil ?_ | refine ropsD_nil ?_
  try simp only [exs, reduceIte, Nat.reduceEqDiff]
  refine hK2414 _ ?_
  refine awp_block ?_
  refine awp_loopK (fun m s2945 => ∃ (p2676 : Int) (p2677 : List Itm), s2945.r 2 = .val (.fl (bs a2)) ∧ s2945.r 3 = .val (.fl (bs a3)) ∧ s2945.r 4 = .loc 4 (s2945.g 4) 0 0 0 ∧ s2945.r 9 = .view 9 (s2945.g 9) 0 p2677.length ∧ s2945.r 16 = .val (.sl (List.map Itm.av a1)) ∧ s2945.r 17 = .val (.fl (.int .i64 (a1.length : Int))) ∧ s2945.r 18 = .val (.fl (.int .i64 p2676)) ∧ s2945.b 4 = some (.cells [.val (.fl (.int .i64 a0.next)), .val (.sl (List.map Nd.av a0.nodes))]) ∧ s2945.b 9 = some (.arr 41 (List.map Itm.av p2677)) ∧  F10_L1 a1 N a3 a0 a2 m p2676 p2677 = some r) N ?_ ?_
  · refine ⟨0, [], ?_, ?_, ?_, ?_, ?_, ?_, ?_, ?_, ?_, h⟩
    · simp only [upd_apply, reduceIte, Nat.reduceEqDiff, h2]
    · simp only [upd_apply, reduceIte, Nat.reduceEqDiff, h3]
    · (first | (simp only [upd_apply, reduceIte, Nat.reduceEqDiff]; done) | (simp only [go_sem, reduceIte, Nat.reduceEqDiff, reduceCtorEq, Nat.reduceAdd, Nat.reduceMul, Nat.reduceLT, Nat.reduceLeDiff, Int.reduceToNat, Int.reduceLE, fs_all, take_length_map, h0, h1, h2, h3] <;> rfl) | rfl)
    · (first | (simp only [upd_apply, reduceIte, Nat.reduceEqDiff]; done) | (simp only [go_sem, reduceIte, Nat.reduceEqDiff, reduceCtorEq, Nat.reduceAdd, Nat.reduceMul, Nat.reduceLT, Nat.reduceLeDiff, Int.reduceToNat, Int.reduceLE, fs_all, take_length_map, h0, h1, h2, h3] <;> rfl) | rfl)
    · (first | (simp only [upd_apply, reduceIte, Nat.reduceEqDiff]; done) | (simp only [go_sem, reduceIte, Nat.reduceEqDiff, reduceCtorEq, Nat.reduceAdd, Nat.reduceMul, Nat.reduceLT, Nat.reduceLeDiff, Int.reduceToNat, Int.reduceLE, fs_all, take_length_map, h0, h1, h2, h3] <;> rfl) | rfl)
    · (first | (simp only [upd_apply, reduceIte, Nat.reduceEqDiff]; done) | (simp only [go_sem, reduceIte, Nat.reduceEqDiff, reduceCtorEq, Nat.reduceAdd, Nat.reduceMul, Nat.reduceLT, Nat.reduceLeDiff, Int.reduceToNat, Int.reduceLE, fs_all, take_length_map, h0, h1, h2, h3] <;> rfl) | rfl)
    · (first | (simp only [upd_apply, reduceIte, Nat.reduceEqDiff]; done) | (simp only [go_sem, reduceIte, Nat.reduceEqDiff, reduceCtorEq, Nat.reduceAdd, Nat.reduceMul, Nat.reduceLT, Nat.reduceLeDiff, Int.reduceToNat, Int.reduceLE, fs_all, take_length_map, h0, h1, h2, h3] <;> rfl) | rfl)
    · (first | (simp only [upd_apply, reduceIte, Nat.reduceEqDiff]; done) | (simp only [go_sem, reduceIte, Nat.reduceEqDiff, reduceCtorEq, Nat.reduceAdd, Nat.reduceMul, Nat.reduceLT, Nat.reduceLeDiff, Int.reduceToNat, Int.reduceLE, fs_all, take_length_map, h0, h1, h2, h3] <;> rfl) | rfl)
    · (first | (simp only [upd_apply, reduceIte, Nat.reduceEqDiff]; done) | (simp only [go_sem, reduceIte, Nat.reduceEqDiff, reduceCtorEq, Nat.reduceAdd, Nat.reduceMul, Nat.reduceLT, Nat.reduceLeDiff, Int.reduceToNat, Int.reduceLE, fs_all, take_length_map, h0, h1, h2, h3] <;> rfl) | rfl)
  clear h
  intro m2947 s2945 hI K2415 hK2415
  obtain ⟨p2676, p2677, h2, h3, h4, h9, h16, h17, h18, b4, b9, h⟩ := hI
  rcases m2947 with _ | n2946
  · simp only [F10_L1, reduceCtorEq] at h
  rw [F10_L1] at h
  refine awp_seq fun K2948 hK2948 => ?_
  refine awp_region rfl (by kernel_rfl) ?_
  first | refine rops_k ?_ | refine ropsD_k ?_
  repeat (refine rops_ng rfl fun K hK => ?_; simp only [go_sem, reduceIte, Nat.reduceEqDiff, reduceCtorEq, Nat.reduceAdd, Nat.reduceMul, Nat.reduceLT, Nat.reduceLeDiff, Int.reduceToNat, Int.reduceLE, h17, h18, b4, b9]; refine hK _ ?_; clear hK K)
  first | refine rops_nil ?_ | refine ropsD_nil ?_
  try simp only [exs, reduceIte, Nat.reduceEqDiff]
  refine hK2948 _ ?_
  refine awp_seq fun K2949 hK2949 => ?_
  refine awp_if (by kernel_rfl) (by (simp only [upd_apply, reduceIte, Nat.reduceEqDiff, St.ev, constReg, constCell, St.put_some, St.put_none, h2, h3, h4, h9, h16, h17, h18, b4, b9] <;> rfl)) (fun hc => ?_) (fun hc => ?_)
  · have c2950 : (decide (p2676 < (a1.length : Int))) = true := by first | exact hc | simpa using hc
    clear hc
    rw [c2950] at h
    simp only [cond_true, cond_false] at h
    refine awp_skip ?_
    try simp only [exs, reduceIte, Nat.reduceEqDiff]
    refine hK2949 _ ?_
    refine awp_seq fun K2951 hK2951 => ?_
    have J2 : ∀ (p3081 : List Itm) (s3082 : St), (s3082.r 2 = .val (.fl (bs a2))) → (s3082.r 3 = .val (.fl (bs a3))) → (s3082.r 4 = .loc 4 (s3082.g 4) 0 0 0) → (s3082.r 9 = .view 9 (s3082.g 9) 0 p3081.length) → (s3082.r 16 = .val (.sl (List.map Itm.av a1))) → (s3082.r 17 = .val (.fl (.int .i64 (a1.length : Int)))) → (s3082.r 18 = .val (.fl (.int .i64 p2676))) → (s3082.b 4 = some (.cells [.val (.fl (.int .i64 a0.next)), .val (.sl (List.map Nd.av a0.nodes))])) → (s3082.b 9 = some (.arr 41 (List.map Itm.av p3081))) → F10_J2 (F10_L1 a1 N a3 a0 a2 n2946) p2676 p3081 = some r → K2951 s3082 := by
      intro p3081 s3082 h2 h3 h4 h9 h16 h17 h18 b4 b9 h
      unfold F10_J2 at h
      refine hK2951 _ ?_
      refine awp_region rfl (by kernel_rfl) ?_
      first | refine rops_k ?_ | refine ropsD_k ?_
      repeat (refine rops_ng rfl fun K hK => ?_; simp only [go_sem, reduceIte, Nat.reduceEqDiff, reduceCtorEq, Nat.reduceAdd, Nat.reduceMul, Nat.reduceLT, Nat.reduceLeDiff, Int.reduceToNat, Int.reduceLE, h18, b4, b9]; refine hK _ ?_; clear hK K)
      first | refine rops_nil ?_ | refine ropsD_nil ?_
      try simp only [exs, reduceIte, Nat.reduceEqDiff]
      refine hK2415 _ ⟨n2946, Nat.lt_succ_self _, (IntKind.i64.wrap (p2676 + 1)), p3081, ?_, ?_, ?_, ?_, ?_, ?_, ?_, ?_, ?_, h⟩
      · simp only [upd_apply, reduceIte, Nat.reduceEqDiff, h2]
      · simp only [upd_apply, reduceIte, Nat.reduceEqDiff, h3]
      · simp only [upd_apply, reduceIte, Nat.reduceEqDiff, h4]
      · (first | (simp only [upd_apply, reduceIte, Nat.reduceEqDiff, h9]; done) | (simp only [go_sem, reduceIte, Nat.reduceEqDiff, reduceCtorEq, Nat.reduceAdd, Nat.reduceMul, Nat.reduceLT, Nat.reduceLeDiff, Int.reduceToNat, Int.reduceLE, fs_all, take_length_map, h2, h3, h4, h9, h16, h17, h18, b4, b9] <;> rfl) | rfl)
      · simp only [upd_apply, reduceIte, Nat.reduceEqDiff, h16]
      · simp only [upd_apply, reduceIte, Nat.reduceEqDiff, h17]
      · (first | (simp only [upd_apply, reduceIte, Nat.reduceEqDiff, h18]; done) | (simp only [go_sem, reduceIte, Nat.reduceEqDiff, reduceCtorEq, Nat.reduceAdd, Nat.reduceMul, Nat.reduceLT, Nat.reduceLeDiff, Int.reduceToNat, Int.reduceLE, fs_all, take_length_map, h2, h3, h4, h9, h16, h17, h18, b4, b9] <;> rfl) | rfl)
      · simp only [upd_apply, reduceIte, Nat.reduceEqDiff, b4]
      · simp only [upd_apply, reduceIte, Nat.reduceEqDiff, b9]
    refine awp_block ?_
    refine awp_seq fun K3083 hK3083 => ?_
    obtain ⟨x3084, q3085, h⟩ := bind_some h
    obtain ⟨q3085i, q3085e, q3085l⟩ := getO_some q3085
    refine awp_region rfl (by kernel_rfl) ?_
    first | refine rops_k ?_ | refine ropsD_k ?_
    repeat (refine rops_ng rfl fun K hK => ?_; simp only [go_sem, reduceIte, Nat.reduceEqDiff, reduceCtorEq, Nat.reduceAdd, Nat.reduceMul, Nat.reduceLT, Nat.reduceLeDiff, Int.reduceToNat, Int.reduceLE, h16, h18, b4, b9, q3085i, q3085e, q3085l]; refine hK _ ?_; clear hK K)
    first | refine rops_nil ?_ | refine ropsD_nil ?_
    try simp only [exs, reduceIte, Nat.reduceEqDiff]
    refine hK3083 _ ?_
    refine awp_seq fun K3086 hK3086 => ?_
    refine awp_seq fun K3087 hK3087 => ?_
    refine awp_region rfl (by kernel_rfl) ?_
    first | refine rops_k ?_ | refine ropsD_k ?_
    repeat (refine rops_ng rfl fun K hK => ?_; simp only [go_sem, reduceIte, Nat.reduceEqDiff, reduceCtorEq, Nat.reduceAdd, Nat.reduceMul, Nat.reduceLT, Nat.reduceLeDiff, Int.reduceToNat, Int.reduceLE, b4, b9, q3085i, q3085e, q3085l]; refine hK _ ?_; clear hK K)
    first | refine rops_nil ?_ | refine ropsD_nil ?_
    try simp only [exs, reduceIte, Nat.reduceEqDiff]
    refine hK3087 _ ?_
    refine awp_if (by kernel_rfl) (by (simp only [upd_apply, reduceIte, Nat.reduceEqDiff, St.ev, constReg, constCell, St.put_some, St.put_none, h2, h3, h4, h9, h16, h17, h18, b4, b9, q3085i, q3085e, q3085l] <;> rfl)) (fun hc => ?_) (fun hc => ?_)
    · have c3088 : (x3084.target == 0) = true := by first | exact hc | simpa using hc
      clear hc
      rw [c3088] at h
      simp only [cond_true, cond_false] at h
      refine awp_seq fun K3089 hK3089 => ?_
      have J3 : ∀ (p3095 : List Itm) (s3096 : St), (s3096.r 2 = .val (.fl (bs a2))) → (s3096.r 3 = .val (.fl (bs a3))) → (s3096.r 4 = .loc 4 (s3096.g 4) 0 0 0) → (s3096.r 9 = .view 9 (s3096.g 9) 0 p3095.length) → (s3096.r 16 = .val (.sl (List.map Itm.av a1))) → (s3096.r 17 = .val (.fl (.int .i64 (a1.length : Int)))) → (s3096.r 18 = .val (.fl (.int .i64 p2676))) → (s3096.b 4 = some (.cells [.val (.fl (.int .i64 a0.next)), .val (.sl (List.map Nd.av a0.nodes))])) → (s3096.b 9 = some (.arr 41 (List.map Itm.av p3095))) → F10_J3 (F10_L1 a1 N a3 a0 a2 n2946) p2676 p3095 = some r → K3089 s3096 := by
        intro p3095 s3096 h2 h3 h4 h9 h16 h17 h18 b4 b9 h
        unfold F10_J3 at h
        refine hK3089 _ ?_
        refine awp_exit ?_
        try simp only [exs, reduceIte, Nat.reduceEqDiff]
        refine J2 p3095 _ ?_ ?_ ?_ ?_ ?_ ?_ ?_ ?_ ?_ h
        · simp only [upd_apply, reduceIte, Nat.reduceEqDiff, h2]
        · simp only [upd_apply, reduceIte, Nat.reduceEqDiff, h3]
        · simp only [upd_apply, reduceIte, Nat.reduceEqDiff, h4]
        · (first | (simp only [upd_apply, reduceIte, Nat.reduceEqDiff, h9]; done) | (simp only [go_sem, reduceIte, Nat.reduceEqDiff, reduceCtorEq, Nat.reduceAdd, Nat.reduceMul, Nat.reduceLT, Nat.reduceLeDiff, Int.reduceToNat, Int.reduceLE, fs_all, take_length_map, h2, h3, h4, h9, h16, h17, h18, b4, b9] <;> rfl) | rfl)
        · simp only [upd_apply, reduceIte, Nat.reduceEqDiff, h16]
        · simp only [upd_apply, reduceIte, Nat.reduceEqDiff, h17]
        · simp only [upd_apply, reduceIte, Nat.reduceEqDiff, h18]
        · simp only [upd_apply, reduceIte, Nat.reduceEqDiff, b4]
        · simp only [upd_apply, reduceIte, Nat.reduceEqDiff, b9]
      refine awp_seq fun K3097 hK3097 => ?_
      obtain ⟨x3098, q3099, h⟩ := bind_some h
      refine awp_region rfl (by kernel_rfl) ?_
      first | refine rops_k ?_ | refine ropsD_k ?_
      repeat (refine rops_ng rfl fun K hK => ?_; simp only [go_sem, reduceIte, Nat.reduceEqDiff, reduceCtorEq, Nat.reduceAdd, Nat.reduceMul, Nat.reduceLT, Nat.reduceLeDiff, Int.reduceToNat, Int.reduceLE, h3, b4, b9, q3085i, q3085e, q3085l]; refine hK _ ?_; clear hK K)
      refine rops_ng rfl fun K hK => ?_
      simp only [List.head?_cons, List.head?_nil, Option.map_some, Option.map_none, rops1, ropsD1, gtmp, gate, beq_self_eq_true, beq_t, beq_f, Bool.not_true, Bool.not_false, if_true, rOp, rOpD, calleeOf, regAVsOf, regAV, List.getElem?_toArray, List.getElem?_cons_zero, List.getElem?_cons_succ, Option.bind_some, upd_apply, reduceIte, Nat.reduceEqDiff, St.ev, constReg, constCell, St.put_some, St.put_none, h2, h3, h4, h9, h16, h17, h18, b4, b9, q3085i, q3085e, q3085l]
      refine .inl ⟨_, _, rfl, _, rfl, _, (F16_does _ N x3084.concept a3  _ q3099), ?_⟩
      simp only [flRV, outK, St.take, St.takeRVs, St.takeRV, retReg, St.put_some, St.put_none, List.map_cons, List.map_nil]
      refine hK _ ?_; clear hK K
      first | refine rops_nil ?_ | refine ropsD_nil ?_
      try simp only [exs, reduceIte, Nat.reduceEqDiff]
      refine hK3097 _ ?_
      refine awp_if (by kernel_rfl) (by (simp only [upd_apply, reduceIte, Nat.reduceEqDiff, St.ev, constReg, constCell, St.put_some, St.put_none, h2, h3, h4, h9, h16, h17, h18, b4, b9, q3085i, q3085e, q3085l] <;> rfl)) (fun hc => ?_) (fun hc => ?_)
      · have c3100 : (x3098) = true := by first | exact hc | simpa using hc
        clear hc
        rw [c3100] at h
        simp only [cond_true, cond_false] at h
        obtain ⟨_, q3101, h⟩ := bind_some h
        have q3101 := chk_some q3101
        simp only [Bool.and_eq_true, decide_eq_true_eq, and_assoc] at q3101
        obtain ⟨q3101a, q3101b⟩ := q3101
        refine awp_region rfl (by kernel_rfl) ?_
        first | refine rops_k ?_ | refine ropsD_k ?_
        repeat (refine rops_ng rfl fun K hK => ?_; simp only [go_sem, reduceIte, Nat.reduceEqDiff, reduceCtorEq, Nat.reduceAdd, Nat.reduceMul, Nat.reduceLT, Nat.reduceLeDiff, Int.reduceToNat, Int.reduceLE, h9, b4, b9, q3085i, q3085e, q3085l, q3101a, q3101b]; refine hK _ ?_; clear hK K)
        first | refine rops_nil ?_ | refine ropsD_nil ?_
        try simp only [exs, reduceIte, Nat.reduceEqDiff]
        refine J3 (p2677 ++ [x3084]) _ ?_ ?_ ?_ ?_ ?_ ?_ ?_ ?_ ?_ h
        · simp only [upd_apply, reduceIte, Nat.reduceEqDiff, h2]
        · simp only [upd_apply, reduceIte, Nat.reduceEqDiff, h3]
        · simp only [upd_apply, reduceIte, Nat.reduceEqDiff, h4]
        · (first | (simp only [upd_apply, reduceIte, Nat.reduceEqDiff, h9]; done) | (simp only [go_sem, reduceIte, Nat.reduceEqDiff, reduceCtorEq, Nat.reduceAdd, Nat.reduceMul, Nat.reduceLT, Nat.reduceLeDiff, Int.reduceToNat, Int.reduceLE, fs_all, take_length_map, h2, h3, h4, h9, h16, h17, h18, b4, b9, q3085i, q3085e, q3085l, q3101a, q3101b] <;> rfl) | rfl)
        · simp only [upd_apply, reduceIte, Nat.reduceEqDiff, h16]
        · simp only [upd_apply, reduceIte, Nat.reduceEqDiff, h17]
        · simp only [upd_apply, reduceIte, Nat.reduceEqDiff, h18]
        · simp only [upd_apply, reduceIte, Nat.reduceEqDiff, b4]
        · (first | (simp only [upd_apply, reduceIte, Nat.reduceEqDiff, b9]; done) | (simp only [go_sem, reduceIte, Nat.reduceEqDiff, reduceCtorEq, Nat.reduceAdd, Nat.reduceMul, Nat.reduceLT, Nat.reduceLeDiff, Int.reduceToNat, Int.reduceLE, fs_all, take_length_map, h2, h3, h4, h9, h16, h17, h18, b4, b9, q3085i, q3085e, q3085l, q3101a, q3101b] <;> rfl) | rfl)
      have c3100 : (x3098) = false := by first | exact hc | simpa using hc
      clear hc
      rw [c3100] at h
      simp only [cond_true, cond_false] at h
      refine awp_skip ?_
      try simp only [exs, reduceIte, Nat.reduceEqDiff]
      refine J3 p2677 _ ?_ ?_ ?_ ?_ ?_ ?_ ?_ ?_ ?_ h
      · simp only [upd_apply, reduceIte, Nat.reduceEqDiff, h2]
      · simp only [upd_apply, reduceIte, Nat.reduceEqDiff, h3]
      · simp only [upd_apply, reduceIte, Nat.reduceEqDiff, h4]
      · (first | (simp only [upd_apply, reduceIte, Nat.reduceEqDiff, h9]; done) | (simp only [go_sem, reduceIte, Nat.reduceEqDiff, reduceCtorEq, Nat.reduceAdd, Nat.reduceMul, Nat.reduceLT, Nat.reduceLeDiff, Int.reduceToNat, Int.reduceLE, fs_all, take_length_map, h2, h3, h4, h9, h16, h17, h18, b4, b9, q3085i, q3085e, q3085l] <;> rfl) | rfl)
      · simp only [upd_apply, reduceIte, Nat.reduceEqDiff, h16]
      · simp only [upd_apply, reduceIte, Nat.reduceEqDiff, h17]
      · simp only [upd_apply, reduceIte, Nat.reduceEqDiff, h18]
      · simp only [upd_apply, reduceIte, Nat.reduceEqDiff, b4]
      · simp only [upd_apply, reduceIte, Nat.reduceEqDiff, b9]
    have c3088 : (x3084.target == 0) = false := by first | exact hc | simpa using hc
    clear hc
    rw [c3088] at h
    simp only [cond_true, cond_false] at h
    refine awp_skip ?_
    try simp only [exs, reduceIte, Nat.reduceEqDiff]
    refine hK3086 _ ?_
    refine awp_seq fun K3102 hK3102 => ?_
    obtain ⟨x3103, q3104, h⟩ := bind_some h
    refine awp_region rfl (by kernel_rfl) ?_
    first | refine rops_k ?_ | refine ropsD_k ?_
    repeat (refine rops_ng rfl fun K hK => ?_; simp only [go_sem, reduceIte, Nat.reduceEqDiff, reduceCtorEq, Nat.reduceAdd, Nat.reduceMul, Nat.reduceLT, Nat.reduceLeDiff, Int.reduceToNat, Int.reduceLE, h4, b4, b9, q3085i, q3085e, q3085l]; refine hK _ ?_; clear hK K)
    refine rops_ng rfl fun K hK => ?_
    simp only [List.head?_cons, List.head?_nil, Option.map_some, Option.map_none, rops1, ropsD1, gtmp, gate, beq_self_eq_true, beq_t, beq_f, Bool.not_true, Bool.not_false, if_true, rOp, rOpD, calleeOf, regAVsOf, regAV, List.getElem?_toArray, List.getElem?_cons_zero, List.getElem?_cons_succ, Option.bind_some, upd_apply, reduceIte, Nat.reduceEqDiff, St.ev, constReg, constCell, St.put_some, St.put_none, h2, h3, h4, h9, h16, h17, h18, b4, b9, q3085i, q3085e, q3085l]
    refine .inl ⟨_, _, rfl, _, rfl, _, (F17_does _ N a0 x3084.target  _ q3104), ?_⟩
    simp only [flRV, outK, St.take, St.takeRVs, St.takeRV, retReg, St.put_some, St.put_none, List.map_cons, List.map_nil]
    refine hK _ ?_; clear hK K
    repeat (refine rops_ng rfl fun K hK => ?_; simp only [go_sem, reduceIte, Nat.reduceEqDiff, reduceCtorEq, Nat.reduceAdd, Nat.reduceMul, Nat.reduceLT, Nat.reduceLeDiff, Int.reduceToNat, Int.reduceLE, h4, b4, b9, q3085i, q3085e, q3085l]; refine hK _ ?_; clear hK K)
    first | refine rops_nil ?_ | refine ropsD_nil ?_
    try simp only [exs, reduceIte, Nat.reduceEqDiff]
    refine hK3102 _ ?_
    refine awp_seq fun K3105 hK3105 => ?_
    refine awp_region rfl (by kernel_rfl) ?_
    first | refine rops_k ?_ | refine ropsD_k ?_
    repeat (refine rops_ng rfl fun K hK => ?_; simp only [go_sem, reduceIte, Nat.reduceEqDiff, reduceCtorEq, Nat.reduceAdd, Nat.reduceMul, Nat.reduceLT, Nat.reduceLeDiff, Int.reduceToNat, Int.reduceLE, b4, b9, q3085i, q3085e, q3085l]; refine hK _ ?_; clear hK K)
    first | refine rops_nil ?_ | refine ropsD_nil ?_
    try simp only [exs, reduceIte, Nat.reduceEqDiff]
    refine hK3105 _ ?_
    refine awp_block ?_
    refine awp_loopK (fun m s3176 => ∃ (p3141 : Int) (p3142 : List Itm), s3176.r 2 = .val (.fl (bs a2)) ∧ s3176.r 3 = .val (.fl (bs a3)) ∧ s3176.r 4 = .loc 4 (s3176.g 4) 0 0 0 ∧ s3176.r 9 = .view 9 (s3176.g 9) 0 p3142.length ∧ s3176.r 11 = .loc 11 (s3176.g 11) 0 0 0 ∧ s3176.r 16 = .val (.sl (List.map Itm.av a1)) ∧ s3176.r 17 = .val (.fl (.int .i64 (a1.length : Int))) ∧ s3176.r 18 = .val (.fl (.int .i64 p2676)) ∧ s3176.r 41 = .val (.sl (List.map Prp.av x3103.1.props)) ∧ s3176.r 42 = .val (.fl (.int .i64 (x3103.1.props.length : Int))) ∧ s3176.r 43 = .val (.fl (.int .i64 p3141)) ∧ s3176.b 4 = some (.cells [.val (.fl (.int .i64 a0.next)), .val (.sl (List.map Nd.av a0.nodes))]) ∧ s3176.b 9 = some (.arr 41 (List.map Itm.av p3142)) ∧ s3176.b 11 = some (.cells [.val (.fl (bs x3084.concept)), .val (.fl (.int .i64 x3084.target))]) ∧  F10_L2 x3103 a2 N a3 x3084 (F10_L1 a1 N a3 a0 a2 n2946) p2676 m p3141 p3142 = some r) N ?_ ?_
    · refine ⟨0, p2677, ?_, ?_, ?_, ?_, ?_, ?_, ?_, ?_, ?_, ?_, ?_, ?_, ?_, ?_, h⟩
      · simp only [upd_apply, reduceIte, Nat.reduceEqDiff, h2]
      · simp only [upd_apply, reduceIte, Nat.reduceEqDiff, h3]
      · simp only [upd_apply, reduceIte, Nat.reduceEqDiff, h4]
      · (first | (simp only [upd_apply, reduceIte, Nat.reduceEqDiff, h9]; done) | (simp only [go_sem, reduceIte, Nat.reduceEqDiff, reduceCtorEq, Nat.reduceAdd, Nat.reduceMul, Nat.reduceLT, Nat.reduceLeDiff, Int.reduceToNat, Int.reduceLE, fs_all, take_length_map, h2, h3, h4, h9, h16, h17, h18, b4, b9, q3085i, q3085e, q3085l] <;> rfl) | rfl)
      · (first | (simp only [upd_apply, reduceIte, Nat.reduceEqDiff]; done) | (simp only [go_sem, reduceIte, Nat.reduceEqDiff, reduceCtorEq, Nat.reduceAdd, Nat.reduceMul, Nat.reduceLT, Nat.reduceLeDiff, Int.reduceToNat, Int.reduceLE, fs_all, take_length_map, h2, h3, h4, h9, h16, h17, h18, b4, b9, q3085i, q3085e, q3085l] <;> rfl) | rfl)
      · simp only [upd_apply, reduceIte, Nat.reduceEqDiff, h16]
      · simp only [upd_apply, reduceIte, Nat.reduceEqDiff, h17]
      · simp only [upd_apply, reduceIte, Nat.reduceEqDiff, h18]
      · (first | (simp only [upd_apply, reduceIte, Nat.reduceEqDiff]; done) | (simp only [go_sem, reduceIte, Nat.reduceEqDiff, reduceCtorEq, Nat.reduceAdd, Nat.reduceMul, Nat.reduceLT, Nat.reduceLeDiff, Int.reduceToNat, Int.reduceLE, fs_all, take_length_map, h2, h3, h4, h9, h16, h17, h18, b4, b9, q3085i, q3085e, q3085l] <;> rfl) | rfl)
      · (first | (simp only [upd_apply, reduceIte, Nat.reduceEqDiff]; done) | (simp only [go_sem, reduceIte, Nat.reduceEqDiff, reduceCtorEq, Nat.reduceAdd, Nat.reduceMul, Nat.reduceLT, Nat.reduceLeDiff, Int.reduceToNat, Int.reduceLE, fs_all, take_length_map, h2, h3, h4, h9, h16, h17, h18, b4, b9, q3085i, q3085e, q3085l] <;> rfl) | rfl)
      · (first | (simp only [upd_apply, reduceIte, Nat.reduceEqDiff]; done) | (simp only [go_sem, reduceIte, Nat.reduceEqDiff, reduceCtorEq, Nat.reduceAdd, Nat.reduceMul, Nat.reduceLT, Nat.reduceLeDiff, Int.reduceToNat, Int.reduceLE, fs_all, take_length_map, h2, h3, h4, h9, h16, h17, h18, b4, b9, q3085i, q3085e, q3085l] <;> rfl) | rfl)
      · simp only [upd_apply, reduceIte, Nat.reduceEqDiff, b4]
      · simp only [upd_apply, reduceIte, Nat.reduceEqDiff, b9]
      · (first | (simp only [upd_apply, reduceIte, Nat.reduceEqDiff]; done) | (simp only [go_sem, reduceIte, Nat.reduceEqDiff, reduceCtorEq, Nat.reduceAdd, Nat.reduceMul, Nat.reduceLT, Nat.reduceLeDiff, Int.reduceToNat, Int.reduceLE, fs_all, take_length_map, h2, h3, h4, h9, h16, h17, h18, b4, b9, q3085i, q3085e, q3085l] <;> rfl) | rfl)
    clear h
    intro m3178 s3176 hI K3106 hK3106
    obtain ⟨p3141, p3142, h2, h3, h4, h9, h11, h16, h17, h18, h41, h42, h43, b4, b9, b11, h⟩ := hI
    rcases m3178 with _ | n3177
    · simp only [F10_L2, reduceCtorEq] at h
    rw [F10_L2] at h
    refine awp_seq fun K3179 hK3179 => ?_
    refine awp_region rfl (by kernel_rfl) ?_
    first | refine rops_k ?_ | refine ropsD_k ?_
    repeat (refine rops_ng rfl fun K hK => ?_; simp only [go_sem, reduceIte, Nat.reduceEqDiff, reduceCtorEq, Nat.reduceAdd, Nat.reduceMul, Nat.reduceLT, Nat.reduceLeDiff, Int.reduceToNat, Int.reduceLE, h42, h43, b4, b9, b11]; refine hK _ ?_; clear hK K)
    first | refine rops_nil ?_ | refine ropsD_nil ?_
    try simp only [exs, reduceIte, Nat.reduceEqDiff]
    refine hK3179 _ ?_
    refine awp_seq fun K3180 hK3180 => ?_
    refine awp_if (by kernel_rfl) (by (simp only [upd_apply, reduceIte, Nat.reduceEqDiff, St.ev, constReg, constCell, St.put_some, St.put_none, h2, h3, h4, h9, h11, h16, h17, h18, h41, h42, h43, b4, b9, b11] <;> rfl)) (fun hc => ?_) (fun hc => ?_)
    · have c3181 : (decide (p3141 < (x3103.1.props.length : Int))) = true := by first | exact hc | simpa using hc
      clear hc
      rw [c3181] at h
      simp only [cond_true, cond_false] at h
      refine awp_skip ?_
      try simp only [exs, reduceIte, Nat.reduceEqDiff]
      refine hK3180 _ ?_
      refine awp_seq fun K3182 hK3182 => ?_
      have J4 : ∀ (p3195 : List Itm) (s3196 : St), (s3196.r 2 = .val (.fl (bs a2))) → (s3196.r 3 = .val (.fl (bs a3))) → (s3196.r 4 = .loc 4 (s3196.g 4) 0 0 0) → (s3196.r 9 = .view 9 (s3196.g 9) 0 p3195.length) → (s3196.r 11 = .loc 11 (s3196.g 11) 0 0 0) → (s3196.r 16 = .val (.sl (List.map Itm.av a1))) → (s3196.r 17 = .val (.fl (.int .i64 (a1.length : Int)))) → (s3196.r 18 = .val (.fl (.int .i64 p2676))) → (s3196.r 41 = .val (.sl (List.map Prp.av x3103.1.props))) → (s3196.r 42 = .val (.fl (.int .i64 (x3103.1.props.length : Int)))) → (s3196.r 43 = .val (.fl (.int .i64 p3141))) → (s3196.b 4 = some (.cells [.val (.fl (.int .i64 a0.next)), .val (.sl (List.map Nd.av a0.nodes))])) → (s3196.b 9 = some (.arr 41 (List.map Itm.av p3195))) → (s3196.b 11 = some (.cells [.val (.fl (bs x3084.concept)), .val (.fl (.int .i64 x3084.target))])) → F10_J4 (F10_L2 x3103 a2 N a3 x3084 (F10_L1 a1 N a3 a0 a2 n2946) p2676 n3177) p3141 p3195 = some r → K3182 s3196 := by
        intro p3195 s3196 h2 h3 h4 h9 h11 h16 h17 h18 h41 h42 h43 b4 b9 b11 h
        unfold F10_J4 at h
        refine hK3182 _ ?_
        refine awp_region rfl (by kernel_rfl) ?_
        first | refine rops_k ?_ | refine ropsD_k ?_
        repeat (refine rops_ng rfl fun K hK => ?_; simp only [go_sem, reduceIte, Nat.reduceEqDiff, reduceCtorEq, Nat.reduceAdd, Nat.reduceMul, Nat.reduceLT, Nat.reduceLeDiff, Int.reduceToNat, Int.reduceLE, h43, b4, b9, b11]; refine hK _ ?_; clear hK K)
        first | refine rops_nil ?_ | refine ropsD_nil ?_
        try simp only [exs, reduceIte, Nat.reduceEqDiff]
        refine hK3106 _ ⟨n3177, Nat.lt_succ_self _, (IntKind.i64.wrap (p3141 + 1)), p3195, ?_, ?_, ?_, ?_, ?_, ?_, ?_, ?_, ?_, ?_, ?_, ?_, ?_, ?_, h⟩
        · simp only [upd_apply, reduceIte, Nat.reduceEqDiff, h2]
        · simp only [upd_apply, reduceIte, Nat.reduceEqDiff, h3]
        · simp only [upd_apply, reduceIte, Nat.reduceEqDiff, h4]
        · (first | (simp only [upd_apply, reduceIte, Nat.reduceEqDiff, h9]; done) | (simp only [go_sem, reduceIte, Nat.reduceEqDiff, reduceCtorEq, Nat.reduceAdd, Nat.reduceMul, Nat.reduceLT, Nat.reduceLeDiff, Int.reduceToNat, Int.reduceLE, fs_all, take_length_map, h2, h3, h4, h9, h11, h16, h17, h18, h41, h42, h43, b4, b9, b11] <;> rfl) | rfl)
        · simp only [upd_apply, reduceIte, Nat.reduceEqDiff, h11]
        · simp only [upd_apply, reduceIte, Nat.reduceEqDiff, h16]
        · simp only [upd_apply, reduceIte, Nat.reduceEqDiff, h17]
        · simp only [upd_apply, reduceIte, Nat.reduceEqDiff, h18]
        · simp only [upd_apply, reduceIte, Nat.reduceEqDiff, h41]
        · simp only [upd_apply, reduceIte, Nat.reduceEqDiff, h42]
        · (first | (simp only [upd_apply, reduceIte, Nat.reduceEqDiff, h43]; done) | (simp only [go_sem, reduceIte, Nat.reduceEqDiff, reduceCtorEq, Nat.reduceAdd, Nat.reduceMul, Nat.reduceLT, Nat.reduceLeDiff, Int.reduceToNat, Int.reduceLE, fs_all, take_length_map, h2, h3, h4, h9, h11, h16, h17, h18, h41, h42, h43, b4, b9, b11] <;> rfl) | rfl)
        · simp only [upd_apply, reduceIte, Nat.reduceEqDiff, b4]
        · simp only [upd_apply, reduceIte, Nat.reduceEqDiff, b9]
        · simp only [upd_apply, reduceIte, Nat.reduceEqDiff, b11]
      refine awp_block ?_
      refine awp_seq fun K3197 hK3197 => ?_
      obtain ⟨x3198, q3199, h⟩ := bind_some h
      obtain ⟨q3199i, q3199e, q3199l⟩ := getO_some q3199
      refine awp_region rfl (by kernel_rfl) ?_
      first | refine rops_k ?_ | refine ropsD_k ?_
      repeat (refine rops_ng rfl fun K hK => ?_; simp only [go_sem, reduceIte, Nat.reduceEqDiff, reduceCtorEq, Nat.reduceAdd, Nat.reduceMul, Nat.reduceLT, Nat.reduceLeDiff, Int.reduceToNat, Int.reduceLE, h41, h43, b4, b9, b11, q3199i, q3199e, q3199l]; refine hK _ ?_; clear hK K)
      first | refine rops_nil ?_ | refine ropsD_nil ?_
      try simp only [exs, reduceIte, Nat.reduceEqDiff]
      refine hK3197 _ ?_
      refine awp_seq fun K3200 hK3200 => ?_
      obtain ⟨x3201, q3202, h⟩ := bindG_some h
      refine awp_region rfl (by kernel_rfl) ?_
      have R3204 : ∀ s3203 : St, (s3203.r 2 = .val (.fl (bs a2))) → (s3203.r 3 = .val (.fl (bs a3))) → (s3203.r 4 = .loc 4 (s3203.g 4) 0 0 0) → (s3203.r 9 = .view 9 (s3203.g 9) 0 p3142.length) → (s3203.r 11 = .loc 11 (s3203.g 11) 0 0 0) → (s3203.r 16 = .val (.sl (List.map Itm.av a1))) → (s3203.r 17 = .val (.fl (.int .i64 (a1.length : Int)))) → (s3203.r 18 = .val (.fl (.int .i64 p2676))) → (s3203.r 41 = .val (.sl (List.map Prp.av x3103.1.props))) → (s3203.r 42 = .val (.fl (.int .i64 (x3103.1.props.length : Int)))) → (s3203.r 43 = .val (.fl (.int .i64 p3141))) → (s3203.r 56 = .val (.fl (.bool ((x3198.name == a2) && x3201)))) → (s3203.b 4 = some (.cells [.val (.fl (.int .i64 a0.next)), .val (.sl (List.map Nd.av a0.nodes))])) → (s3203.b 9 = some (.arr 41 (List.map Itm.av p3142))) → (s3203.b 11 = some (.cells [.val (.fl (bs x3084.concept)), .val (.fl (.int .i64 x3084.target))])) → K3200 s3203 := by
        intro s3203 h2 h3 h4 h9 h11 h16 h17 h18 h41 h42 h43 h56 b4 b9 b11
        refine hK3200 _ ?_
        refine awp_if (by kernel_rfl) (by (simp only [upd_apply, reduceIte, Nat.reduceEqDiff, St.ev, constReg, constCell, St.put_some, St.put_none, h2, h3, h4, h9, h11, h16, h17, h18, h41, h42, h43, h56, b4, b9, b11, q3199i, q3199e, q3199l] <;> rfl)) (fun hc => ?_) (fun hc => ?_)
        · have c3205 : ((x3198.name == a2) && x3201) = true := by first | exact hc | simpa using hc
          clear hc
          rw [c3205] at h
          simp only [cond_true, cond_false] at h
          obtain ⟨_, q3206, h⟩ := bind_some h
          have q3206 := chk_some q3206
          simp only [Bool.and_eq_true, decide_eq_true_eq, and_assoc] at q3206
          obtain ⟨q3206a, q3206b⟩ := q3206
          refine awp_region rfl (by kernel_rfl) ?_
          first | refine rops_k ?_ | refine ropsD_k ?_
          repeat (refine rops_ng rfl fun K hK => ?_; simp only [go_sem, reduceIte, Nat.reduceEqDiff, reduceCtorEq, Nat.reduceAdd, Nat.reduceMul, Nat.reduceLT, Nat.reduceLeDiff, Int.reduceToNat, Int.reduceLE, h9, h11, b4, b9, b11, q3199i, q3199e, q3199l, q3206a, q3206b]; refine hK _ ?_; clear hK K)
          first | refine rops_nil ?_ | refine ropsD_nil ?_
          try simp only [exs, reduceIte, Nat.reduceEqDiff]
          refine J4 (p3142 ++ [x3084]) _ ?_ ?_ ?_ ?_ ?_ ?_ ?_ ?_ ?_ ?_ ?_ ?_ ?_ ?_ h
          · simp only [upd_apply, reduceIte, Nat.reduceEqDiff, h2]
          · simp only [upd_apply, reduceIte, Nat.reduceEqDiff, h3]
          · simp only [upd_apply, reduceIte, Nat.reduceEqDiff, h4]
          · (first | (simp only [upd_apply, reduceIte, Nat.reduceEqDiff, h9]; done) | (simp only [go_sem, reduceIte, Nat.reduceEqDiff, reduceCtorEq, Nat.reduceAdd, Nat.reduceMul, Nat.reduceLT, Nat.reduceLeDiff, Int.reduceToNat, Int.reduceLE, fs_all, take_length_map, h2, h3, h4, h9, h11, h16, h17, h18, h41, h42, h43, h56, b4, b9, b11, q3199i, q3199e, q3199l, q3206a, q3206b] <;> rfl) | rfl)
          · simp only [upd_apply, reduceIte, Nat.reduceEqDiff, h11]
          · simp only [upd_apply, reduceIte, Nat.reduceEqDiff, h16]
          · simp only [upd_apply, reduceIte, Nat.reduceEqDiff, h17]
          · simp only [upd_apply, reduceIte, Nat.reduceEqDiff, h18]
          · simp only [upd_apply, reduceIte, Nat.reduceEqDiff, h41]
          · simp only [upd_apply, reduceIte, Nat.reduceEqDiff, h42]
          · simp only [upd_apply, reduceIte, Nat.reduceEqDiff, h43]
          · simp only [upd_apply, reduceIte, Nat.reduceEqDiff, b4]
          · (first | (simp only [upd_apply, reduceIte, Nat.reduceEqDiff, b9]; done) | (simp only [go_sem, reduceIte, Nat.reduceEqDiff, reduceCtorEq, Nat.reduceAdd, Nat.reduceMul, Nat.reduceLT, Nat.reduceLeDiff, Int.reduceToNat, Int.reduceLE, fs_all, take_length_map, h2, h3, h4, h9, h11, h16, h17, h18, h41, h42, h43, h56, b4, b9, b11, q3199i, q3199e, q3199l, q3206a, q3206b] <;> rfl) | rfl)
          · simp only [upd_apply, reduceIte, Nat.reduceEqDiff, b11]
        have c3205 : ((x3198.name == a2) && x3201) = false := by first | exact hc | simpa using hc
        clear hc
        rw [c3205] at h
        simp only [cond_true, cond_false] at h
        refine awp_skip ?_
        try simp only [exs, reduceIte, Nat.reduceEqDiff]
        refine J4 p3142 _ ?_ ?_ ?_ ?_ ?_ ?_ ?_ ?_ ?_ ?_ ?_ ?_ ?_ ?_ h
        · simp only [upd_apply, reduceIte, Nat.reduceEqDiff, h2]
        · simp only [upd_apply, reduceIte, Nat.reduceEqDiff, h3]
        · simp only [upd_apply, reduceIte, Nat.reduceEqDiff, h4]
        · (first | (simp only [upd_apply, reduceIte, Nat.reduceEqDiff, h9]; done) | (simp only [go_sem, reduceIte, Nat.reduceEqDiff, reduceCtorEq, Nat.reduceAdd, Nat.reduceMul, Nat.reduceLT, Nat.reduceLeDiff, Int.reduceToNat, Int.reduceLE, fs_all, take_length_map, h2, h3, h4, h9, h11, h16, h17, h18, h41, h42, h43, h56, b4, b9, b11, q3199i, q3199e, q3199l] <;> rfl) | rfl)
        · simp only [upd_apply, reduceIte, Nat.reduceEqDiff, h11]
        · simp only [upd_apply, reduceIte, Nat.reduceEqDiff, h16]
        · simp only [upd_apply, reduceIte, Nat.reduceEqDiff, h17]
        · simp only [upd_apply, reduceIte, Nat.reduceEqDiff, h18]
        · simp only [upd_apply, reduceIte, Nat.reduceEqDiff, h41]
        · simp only [upd_apply, reduceIte, Nat.reduceEqDiff, h42]
        · simp only [upd_apply, reduceIte, Nat.reduceEqDiff, h43]
        · simp only [upd_apply, reduceIte, Nat.reduceEqDiff, b4]
        · simp only [upd_apply, reduceIte, Nat.reduceEqDiff, b9]
        · simp only [upd_apply, reduceIte, Nat.reduceEqDiff, b11]
      first | refine rops_k ?_ | refine ropsD_k ?_
      repeat (refine rops_ng rfl fun K hK => ?_; simp only [go_sem, reduceIte, Nat.reduceEqDiff, reduceCtorEq, Nat.reduceAdd, Nat.reduceMul, Nat.reduceLT, Nat.reduceLeDiff, Int.reduceToNat, Int.reduceLE, h2, h3, b4, b9, b11, q3199i, q3199e, q3199l]; refine hK _ ?_; clear hK K)
      rcases c3207 : (x3198.name == a2) with _ | _
      · repeat (first | (refine rops_ng rfl fun K hK => ?_; simp only [go_sem, reduceIte, Nat.reduceEqDiff, reduceCtorEq, Nat.reduceAdd, Nat.reduceMul, Nat.reduceLT, Nat.reduceLeDiff, Int.reduceToNat, Int.reduceLE, h2, h3, b4, b9, b11, q3199i, q3199e, q3199l, c3207]; refine hK _ ?_; clear hK K) | (refine rops_on rfl rfl ?_ fun K hK => ?_; (focus (simp only [go_sem, reduceIte, Nat.reduceEqDiff, reduceCtorEq, Nat.reduceAdd, Nat.reduceMul, Nat.reduceLT, Nat.reduceLeDiff, Int.reduceToNat, Int.reduceLE, h2, h3, b4, b9, b11, q3199i, q3199e, q3199l, c3207]; done)); simp only [go_sem, reduceIte, Nat.reduceEqDiff, reduceCtorEq, Nat.reduceAdd, Nat.reduceMul, Nat.reduceLT, Nat.reduceLeDiff, Int.reduceToNat, Int.reduceLE, h2, h3, b4, b9, b11, q3199i, q3199e, q3199l, c3207]; refine hK _ ?_; clear hK K) | (refine rops_off rfl rfl ?_ ?_; (focus (simp only [go_sem, reduceIte, Nat.reduceEqDiff, reduceCtorEq, Nat.reduceAdd, Nat.reduceMul, Nat.reduceLT, Nat.reduceLeDiff, Int.reduceToNat, Int.reduceLE, h2, h3, b4, b9, b11, q3199i, q3199e, q3199l, c3207]; done))))
        first | refine rops_nil ?_ | refine ropsD_nil ?_
        try simp only [exs, reduceIte, Nat.reduceEqDiff]
        refine R3204 _ ?_ ?_ ?_ ?_ ?_ ?_ ?_ ?_ ?_ ?_ ?_ ?_ ?_ ?_ ?_
        · simp only [upd_apply, reduceIte, Nat.reduceEqDiff, h2]
        · simp only [upd_apply, reduceIte, Nat.reduceEqDiff, h3]
        · simp only [upd_apply, reduceIte, Nat.reduceEqDiff, h4]
        · (first | (simp only [upd_apply, reduceIte, Nat.reduceEqDiff, h9]; done) | (simp only [go_sem, reduceIte, Nat.reduceEqDiff, reduceCtorEq, Nat.reduceAdd, Nat.reduceMul, Nat.reduceLT, Nat.reduceLeDiff, Int.reduceToNat, Int.reduceLE, fs_all, take_length_map, h2, h3, h4, h9, h11, h16, h17, h18, h41, h42, h43, b4, b9, b11, q3199i, q3199e, q3199l, c3207] <;> rfl) | rfl)
        · simp only [upd_apply, reduceIte, Nat.reduceEqDiff, h11]
        · simp only [upd_apply, reduceIte, Nat.reduceEqDiff, h16]
        · simp only [upd_apply, reduceIte, Nat.reduceEqDiff, h17]
        · simp only [upd_apply, reduceIte, Nat.reduceEqDiff, h18]
        · simp only [upd_apply, reduceIte, Nat.reduceEqDiff, h41]
        · simp only [upd_apply, reduceIte, Nat.reduceEqDiff, h42]
        · simp only [upd_apply, reduceIte, Nat.reduceEqDiff, h43]
        · (first | (simp only [upd_apply, reduceIte, Nat.reduceEqDiff]; done) | (simp only [go_sem, reduceIte, Nat.reduceEqDiff, reduceCtorEq, Nat.reduceAdd, Nat.reduceMul, Nat.reduceLT, Nat.reduceLeDiff, Int.reduceToNat, Int.reduceLE, fs_all, take_length_map, h2, h3, h4, h9, h11, h16, h17, h18, h41, h42, h43, b4, b9, b11, q3199i, q3199e, q3199l, c3207] <;> rfl) | rfl)
        · simp only [upd_apply, reduceIte, Nat.reduceEqDiff, b4]
        · simp only [upd_apply, reduceIte, Nat.reduceEqDiff, b9]
        · simp only [upd_apply, reduceIte, Nat.reduceEqDiff, b11]
      have q3208 := q3202 (by simp only [c3207, fs_bool, beq_t, beq_f, beq_self_eq_true])
      repeat (first | (refine rops_ng rfl fun K hK => ?_; simp only [go_sem, reduceIte, Nat.reduceEqDiff, reduceCtorEq, Nat.reduceAdd, Nat.reduceMul, Nat.reduceLT, Nat.reduceLeDiff, Int.reduceToNat, Int.reduceLE, h2, h3, b4, b9, b11, q3199i, q3199e, q3199l, c3207]; refine hK _ ?_; clear hK K) | (refine rops_on rfl rfl ?_ fun K hK => ?_; (focus (simp only [go_sem, reduceIte, Nat.reduceEqDiff, reduceCtorEq, Nat.reduceAdd, Nat.reduceMul, Nat.reduceLT, Nat.reduceLeDiff, Int.reduceToNat, Int.reduceLE, h2, h3, b4, b9, b11, q3199i, q3199e, q3199l, c3207]; done)); simp only [go_sem, reduceIte, Nat.reduceEqDiff, reduceCtorEq, Nat.reduceAdd, Nat.reduceMul, Nat.reduceLT, Nat.reduceLeDiff, Int.reduceToNat, Int.reduceLE, h2, h3, b4, b9, b11, q3199i, q3199e, q3199l, c3207]; refine hK _ ?_; clear hK K) | (refine rops_off rfl rfl ?_ ?_; (focus (simp only [go_sem, reduceIte, Nat.reduceEqDiff, reduceCtorEq, Nat.reduceAdd, Nat.reduceMul, Nat.reduceLT, Nat.reduceLeDiff, Int.reduceToNat, Int.reduceLE, h2, h3, b4, b9, b11, q3199i, q3199e, q3199l, c3207]; done))))
      refine rops_on rfl rfl (by simp only [gate, beq_self_eq_true, beq_t, beq_f, Bool.not_true, Bool.not_false, Bool.true_eq_false, Bool.false_eq_true, upd_apply, reduceIte, Nat.reduceEqDiff, St.put_some, St.put_none, h2, h3, h4, h9, h11, h16, h17, h18, h41, h42, h43, b4, b9, b11, q3199i, q3199e, q3199l, c3207]) fun K hK => ?_
      simp only [List.head?_cons, List.head?_nil, Option.map_some, Option.map_none, rops1, ropsD1, gtmp, gate, beq_self_eq_true, beq_t, beq_f, Bool.not_true, Bool.not_false, if_true, rOp, rOpD, calleeOf, regAVsOf, regAV, List.getElem?_toArray, List.getElem?_cons_zero, List.getElem?_cons_succ, Option.bind_some, upd_apply, reduceIte, Nat.reduceEqDiff, St.ev, constReg, constCell, St.put_some, St.put_none, h2, h3, h4, h9, h11, h16, h17, h18, h41, h42, h43, b4, b9, b11, q3199i, q3199e, q3199l, c3207]
      refine .inl ⟨_, _, rfl, _, rfl, _, (F16_does _ N x3198.value a3  _ q3208), ?_⟩
      simp only [flRV, outK, St.take, St.takeRVs, St.takeRV, retReg, St.put_some, St.put_none, List.map_cons, List.map_nil]
      refine hK _ ?_; clear hK K
      repeat (first | (refine rops_ng rfl fun K hK => ?_; simp only [go_sem, reduceIte, Nat.reduceEqDiff, reduceCtorEq, Nat.reduceAdd, Nat.reduceMul, Nat.reduceLT, Nat.reduceLeDiff, Int.reduceToNat, Int.reduceLE, h2, h3, b4, b9, b11, q3199i, q3199e, q3199l, c3207]; refine hK _ ?_; clear hK K) | (refine rops_on rfl rfl ?_ fun K hK => ?_; (focus (simp only [go_sem, reduceIte, Nat.reduceEqDiff, reduceCtorEq, Nat.reduceAdd, Nat.reduceMul, Nat.reduceLT, Nat.reduceLeDiff, Int.reduceToNat, Int.reduceLE, h2, h3, b4, b9, b11, q3199i, q3199e, q3199l, c3207]; done)); simp only [go_sem, reduceIte, Nat.reduceEqDiff, reduceCtorEq, Nat.reduceAdd, Nat.reduceMul, Nat.reduceLT, Nat.reduceLeDiff, Int.reduceToNat, Int.reduceLE, h2, h3, b4, b9, b11, q3199i, q3199e, q3199l, c3207]; refine hK _ ?_; clear hK K) | (refine rops_off rfl rfl ?_ ?_; (focus (simp only [go_sem, reduceIte, Nat.reduceEqDiff, reduceCtorEq, Nat.reduceAdd, Nat.reduceMul, Nat.reduceLT, Nat.reduceLeDiff, Int.reduceToNat, Int.reduceLE, h2, h3, b4, b9, b11, q3199i, q3199e, q3199l, c3207]; done))))
      first | refine rops_nil ?_ | refine ropsD_nil ?_
      try simp only [exs, reduceIte, Nat.reduceEqDiff]
      refine R3204 _ ?_ ?_ ?_ ?_ ?_ ?_ ?_ ?_ ?_ ?_ ?_ ?_ ?_ ?_ ?_
      · simp only [upd_apply, reduceIte, Nat.reduceEqDiff, h2]
      · simp only [upd_apply, reduceIte, Nat.reduceEqDiff, h3]
      · simp only [upd_apply, reduceIte, Nat.reduceEqDiff, h4]
      · (first | (simp only [upd_apply, reduceIte, Nat.reduceEqDiff, h9]; done) | (simp only [go_sem, reduceIte, Nat.reduceEqDiff, reduceCtorEq, Nat.reduceAdd, Nat.reduceMul, Nat.reduceLT, Nat.reduceLeDiff, Int.reduceToNat, Int.reduceLE, fs_all, take_length_map, h2, h3, h4, h9, h11, h16, h17, h18, h41, h42, h43, b4, b9, b11, q3199i, q3199e, q3199l, c3207] <;> rfl) | rfl)
      · simp only [upd_apply, reduceIte, Nat.reduceEqDiff, h11]
      · simp only [upd_apply, reduceIte, Nat.reduceEqDiff, h16]
      · simp only [upd_apply, reduceIte, Nat.reduceEqDiff, h17]
      · simp only [upd_apply, reduceIte, Nat.reduceEqDiff, h18]
      · simp only [upd_apply, reduceIte, Nat.reduceEqDiff, h41]
      · simp only [upd_apply, reduceIte, Nat.reduceEqDiff, h42]
      · simp only [upd_apply, reduceIte, Nat.reduceEqDiff, h43]
      · (first | (simp only [upd_apply, reduceIte, Nat.reduceEqDiff]; done) | (simp only [go_sem, reduceIte, Nat.reduceEqDiff, reduceCtorEq, Nat.reduceAdd, Nat.reduceMul, Nat.reduceLT, Nat.reduceLeDiff, Int.reduceToNat, Int.reduceLE, fs_all, take_length_map, h2, h3, h4, h9, h11, h16, h17, h18, h41, h42, h43, b4, b9, b11, q3199i, q3199e, q3199l, c3207] <;> rfl) | rfl)
      · simp only [upd_apply, reduceIte, Nat.reduceEqDiff, b4]
      · simp only [upd_apply, reduceIte, Nat.reduceEqDiff, b9]
      · simp only [upd_apply, reduceIte, Nat.reduceEqDiff, b11]
    have c3181 : (decide (p3141 < (x3103.1.props.length : Int))) = false := by first | exact hc | simpa using hc
    clear hc
    rw [c3181] at h
    simp only [cond_true, cond_false] at h
    refine awp_exit ?_
    try simp only [exs, reduceIte, Nat.reduceEqDiff]
    refine J2 p3142 _ ?_ ?_ ?_ ?_ ?_ ?_ ?_ ?_ ?_ h
    · simp only [upd_apply, reduceIte, Nat.reduceEqDiff, h2]
    · simp only [upd_apply, reduceIte, Nat.reduceEqDiff, h3]
    · simp only [upd_apply, reduceIte, Nat.reduceEqDiff, h4]
    · (first | (simp only [upd_apply, reduceIte, Nat.reduceEqDiff, h9]; done) | (simp only [go_sem, reduceIte, Nat.reduceEqDiff, reduceCtorEq, Nat.reduceAdd, Nat.reduceMul, Nat.reduceLT, Nat.reduceLeDiff, Int.reduceToNat, Int.reduceLE, fs_all, take_length_map, h2, h3, h4, h9, h11, h16, h17, h18, h41, h42, h43, b4, b9, b11] <;> rfl) | rfl)
    · simp only [upd_apply, reduceIte, Nat.reduceEqDiff, h16]
    · simp only [upd_apply, reduceIte, Nat.reduceEqDiff, h17]
    · simp only [upd_apply, reduceIte, Nat.reduceEqDiff, h18]
    · simp only [upd_apply, reduceIte, Nat.reduceEqDiff, b4]
    · simp only [upd_apply, reduceIte, Nat.reduceEqDiff, b9]
  have c2950 : (decide (p2676 < (a1.length : Int))) = false := by first | exact hc | simpa using hc
  clear hc
  rw [c2950] at h
  simp only [cond_true, cond_false] at h
  refine awp_exit ?_
  try simp only [exs, reduceIte, Nat.reduceEqDiff]
  refine J1 p2677 _ ?_ ?_ h
  · (first | (simp only [upd_apply, reduceIte, Nat.reduceEqDiff, h9]; done) | (simp only [go_sem, reduceIte, Nat.reduceEqDiff, reduceCtorEq, Nat.reduceAdd, Nat.reduceMul, Nat.reduceLT, Nat.reduceLeDiff, Int.reduceToNat, Int.reduceLE, fs_all, take_length_map, h2, h3, h4, h9, h16, h17, h18, b4, b9] <;> rfl) | rfl)
  · simp only [upd_apply, reduceIte, Nat.reduceEqDiff, b9]

end Go.Proofs.Mm
