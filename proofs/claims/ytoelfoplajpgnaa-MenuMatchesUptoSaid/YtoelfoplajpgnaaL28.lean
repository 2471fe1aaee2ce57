import Derived.Test.YtoelfoplajpgnaaEvLift
import Derived.Test.YtoelfoplajpgnaaMmF
import Derived.Test.YtoelfoplajpgnaaLS2
set_option linter.unusedVariables false
set_option linter.unusedSimpArgs false
set_option linter.unusedSectionVars false

namespace Go.Proofs.Mm
open Go Go.Ev

-- topiary/arena.hangs
def F28_J1  : Option (Int) :=
  some 0

def F28_J2 (k3684 : Int → Option (Int)) (p3890 : Int) : Option (Int) :=
  k3684 (IntKind.i64.wrap (p3890 + 1))

def F28_J3  : Option (Int) :=
  some 29

def F28_L2 (k3684 : Int → Option (Int)) (p3890 : Int) (N : Nat) (a0 : Mdl) : Nat → Int → Nd → Option (Int)
  | 0, _, _ => none
  | n4287 + 1, p4271, p4272 =>
    bif decide (p4271 ≤ 64) then
      bif p4272.parent == 0 then
        F28_J2 k3684 p3890
      else
        (F23 N a0 p4272.parent).bind fun x4296 =>
        (getO a0.nodes x4296).bind fun x4297 =>
        (F28_L2 k3684 p3890 N a0 n4287) (IntKind.i64.wrap (p4271 + 1)) x4297
    else
      F28_J3 

def F28_L1 (a0 : Mdl) (N : Nat) : Nat → Int → Option (Int)
  | 0, _ => none
  | n4097 + 1, p3890 =>
    bif decide (p3890 < (a0.nodes.length : Int)) then
      (getO a0.nodes p3890).bind fun x4204 =>
      F28_L2 (F28_L1 a0 N n4097) p3890 N a0 N 1 x4204
    else
      F28_J1 

def F28_J4 (a0 : Mdl) (N : Nat) : Option (Int) :=
  F28_L1 a0 N N 0

def F28_L3 (a0 : Mdl) (p2982 : List Int) (N : Nat) : Nat → Int → Option (Int)
  | 0, _ => none
  | n4347 + 1, p4324 =>
    bif decide (p4324 < (a0.nodes.length : Int)) then
      (getO a0.nodes p4324).bind fun x4354 =>
      bindG ((x4354.parent == 0)) (getO p2982 p4324) fun x4357 =>
      bindG (!((x4354.parent == 0) && (!(x4357 == 0))) && (!(x4354.parent == 0))) (getO p2982 p4324) fun x4358 =>
      bif ((x4354.parent == 0) && (!(x4357 == 0))) || ((!(x4354.parent == 0)) && (!(x4358 == 1))) then
        some 29
      else
        (F28_L3 a0 p2982 N n4347) (IntKind.i64.wrap (p4324 + 1))
    else
      F28_J4 a0 N

def F28_J5 (a0 : Mdl) (N : Nat) (p2982 : List Int) : Option (Int) :=
  F28_L3 a0 p2982 N N 0

def F28_J6 (k4371 : Int → (List Int) → Option (Int)) (p4545 : Int) (p4809 : List Int) : Option (Int) :=
  k4371 (IntKind.i64.wrap (p4545 + 1)) p4809

def F28_L5 (x4812 : Nd) (N : Nat) (a0 : Mdl) (k4371 : Int → (List Int) → Option (Int)) (p4545 : Int) : Nat → Int → (List Int) → Option (Int)
  | 0, _, _ => none
  | n4868 + 1, p4841, p4842 =>
    bif decide (p4841 < (x4812.kids.length : Int)) then
      (getO x4812.kids p4841).bind fun x4875 =>
      (F23 N a0 x4875).bind fun x4878 =>
      bindG (!(decide (x4878 < 0))) (getO a0.nodes x4878) fun x4882 =>
      bif (decide (x4878 < 0)) || (!(x4882.parent == x4812.id)) then
        some 29
      else
        (getO p4842 x4878).bind fun x4888 =>
        (F28_L5 x4812 N a0 k4371 p4545 n4868) (IntKind.i64.wrap (p4841 + 1)) (p4842.set x4878.toNat (IntKind.i64.wrap (x4888 + 1)))
    else
      F28_J6 k4371 p4545 p4842

def F28_L4 (a0 : Mdl) (N : Nat) : Nat → Int → (List Int) → Option (Int)
  | 0, _, _ => none
  | n4721 + 1, p4545, p4546 =>
    bif decide (p4545 < (a0.nodes.length : Int)) then
      (getO a0.nodes p4545).bind fun x4812 =>
      F28_L5 x4812 N a0 (F28_L4 a0 N n4721) p4545 N 0 p4546
    else
      F28_J5 a0 N p4546

def F28 (N : Nat) (a0 : Mdl) : Option (Int) :=
  (chk (decide (a0.nodes.length ≤ maxLen) && decide (a0.nodes.length * 8 ≤ 281474976710656))).bind fun _ =>
  F28_L4 a0 N N 0 (List.replicate a0.nodes.length 0)

set_option maxHeartbeats 4000000 in
theorem F28_does (E : Env) (N : Nat) (a0 : Mdl) (r : Int) (h : F28 N a0 = some r) : Does Try.prog E 28 [.agg [.fl (.int .i64 a0.next), .sl (List.map Nd.av a0.nodes)]] (.ret [.v (.fl (.int .i64 r))]) := by
  refine does_run Try.func28 Try.ntmps28 rfl rfl (by simp) fun w0 I0 s hr hb => ?_
  have h0 := hr 0
  simp only [List.map_cons, List.map_nil, List.getElem?_cons_zero, List.getElem?_cons_succ, Option.getD_some] at h0
  unfold F28 at h
  refine awp_seq fun K2452 hK2452 => ?_
  refine awp_region rfl (by kernel_rfl) ?_
  first | refine rops_k ?_ | refine ropsD_k ?_
  repeat (refine rops_ng rfl fun K hK => ?_; simp only [go_sem, reduceIte, Nat.reduceEqDiff, reduceCtorEq, Nat.reduceAdd, Nat.reduceMul, Nat.reduceLT, Nat.reduceLeDiff, Int.reduceToNat, Int.reduceLE, h0]; refine hK _ ?_; clear hK K)
  first | refine rops_nil ?_ | refine ropsD_nil ?_
  try simp only [exs, reduceIte, Nat.reduceEqDiff]
  refine hK2452 _ ?_
  refine awp_scope ?_
  refine awp_seq fun K2453 hK2453 => ?_
  obtain ⟨_, q2454, h⟩ := bind_some h
  have q2454 := chk_some q2454
  simp only [Bool.and_eq_true, decide_eq_true_eq, and_assoc] at q2454
  obtain ⟨q2454a, q2454b⟩ := q2454
  refine awp_region rfl (by kernel_rfl) ?_
  first | refine rops_k ?_ | refine ropsD_k ?_
  repeat (refine rops_ng rfl fun K hK => ?_; simp only [go_sem, reduceIte, Nat.reduceEqDiff, reduceCtorEq, Nat.reduceAdd, Nat.reduceMul, Nat.reduceLT, Nat.reduceLeDiff, Int.reduceToNat, Int.reduceLE, q2454a, q2454b]; refine hK _ ?_; clear hK K)
  first | refine rops_nil ?_ | refine ropsD_nil ?_
  try simp only [exs, reduceIte, Nat.reduceEqDiff]
  refine hK2453 _ ?_
  refine awp_seq fun K2455 hK2455 => ?_
  have J5 : ∀ (p2982 : List Int) (s2983 : St), (s2983.r 1 = .loc 1 (s2983.g 1) 0 0 0) → (s2983.r 3 = .view 3 (s2983.g 3) 0 p2982.length) → (s2983.b 1 = some (.cells [.val (.fl (.int .i64 a0.next)), .val (.sl (List.map Nd.av a0.nodes))])) → (s2983.b 3 = some (.arr 3 (List.map intAV p2982))) → F28_J5 a0 N p2982 = some r → K2455 s2983 := by
    intro p2982 s2983 h1 h3 b1 b3 h
    unfold F28_J5 at h
    refine hK2455 _ ?_
    refine awp_seq fun K2984 hK2984 => ?_
    have J4 : ∀  (s3055 : St), (s3055.r 1 = .loc 1 (s3055.g 1) 0 0 0) → (s3055.b 1 = some (.cells [.val (.fl (.int .i64 a0.next)), .val (.sl (List.map Nd.av a0.nodes))])) → F28_J4 a0 N = some r → K2984 s3055 := by
      intro  s3055 h1 b1 h
      unfold F28_J4 at h
      refine hK2984 _ ?_
      refine awp_seq fun K3056 hK3056 => ?_
      refine awp_label ?_
      try simp only [exs, reduceIte, Nat.reduceEqDiff]
      refine hK3056 _ ?_
      refine awp_seq fun K3057 hK3057 => ?_
      have J1 : ∀  (s3680 : St), True → F28_J1  = some r → K3057 s3680 := by
        intro  s3680 _ h
        unfold F28_J1 at h
        refine hK3057 _ ?_
        refine awp_seq fun K3681 hK3681 => ?_
        refine awp_region rfl (by kernel_rfl) ?_
        first | refine rops_k ?_ | refine ropsD_k ?_
        repeat (refine rops_ng rfl fun K hK => ?_; simp only [go_sem, reduceIte, Nat.reduceEqDiff, reduceCtorEq, Nat.reduceAdd, Nat.reduceMul, Nat.reduceLT, Nat.reduceLeDiff, Int.reduceToNat, Int.reduceLE]; refine hK _ ?_; clear hK K)
        first | refine rops_nil ?_ | refine ropsD_nil ?_
        try simp only [exs, reduceIte, Nat.reduceEqDiff]
        refine hK3681 _ ?_
        have h := Option.some.inj h
        subst h
        refine awp_ret ?_
        try simp only [exs, reduceIte, Nat.reduceEqDiff]
        refine fin_ret (vs := [.tmp 2]) Try.ntmps28 rfl (by simp [List.filter_cons, isOwn]) none ?_
        (simp only [resultsAre, resCell, loadRegs, regRV, go_sem, reduceIte, Nat.reduceEqDiff, reduceCtorEq, Nat.reduceAdd, Nat.reduceMul, Nat.reduceLT, Nat.reduceLeDiff, Int.reduceToNat, Int.reduceLE, fs_all, take_length_map] <;> rfl)
      refine awp_seq fun K3682 hK3682 => ?_
      refine awp_region rfl (by kernel_rfl) ?_
      first | refine rops_k ?_ | refine ropsD_k ?_
      repeat (refine rops_ng rfl fun K hK => ?_; simp only [go_sem, reduceIte, Nat.reduceEqDiff, reduceCtorEq, Nat.reduceAdd, Nat.reduceMul, Nat.reduceLT, Nat.reduceLeDiff, Int.reduceToNat, Int.reduceLE, h1, b1]; refine hK _ ?_; clear hK K)
      first | refine rops_nil ?_ | refine ropsD_nil ?_
      try simp only [exs, reduceIte, Nat.reduceEqDiff]
      refine hK3682 _ ?_
      refine awp_block ?_
      refine awp_loopK (fun m s4096 => ∃ (p3890 : Int), s4096.r 1 = .loc 1 (s4096.g 1) 0 0 0 ∧ s4096.r 88 = .val (.sl (List.map Nd.av a0.nodes)) ∧ s4096.r 89 = .val (.fl (.int .i64 (a0.nodes.length : Int))) ∧ s4096.r 90 = .val (.fl (.int .i64 p3890)) ∧ s4096.b 1 = some (.cells [.val (.fl (.int .i64 a0.next)), .val (.sl (List.map Nd.av a0.nodes))]) ∧  F28_L1 a0 N m p3890 = some r) N ?_ ?_
      · refine ⟨0, ?_, ?_, ?_, ?_, ?_, h⟩
        · simp only [upd_apply, reduceIte, Nat.reduceEqDiff, h1]
        · (first | (simp only [upd_apply, reduceIte, Nat.reduceEqDiff]; done) | (simp only [go_sem, reduceIte, Nat.reduceEqDiff, reduceCtorEq, Nat.reduceAdd, Nat.reduceMul, Nat.reduceLT, Nat.reduceLeDiff, Int.reduceToNat, Int.reduceLE, fs_all, take_length_map, h1, b1] <;> rfl) | rfl)
        · (first | (simp only [upd_apply, reduceIte, Nat.reduceEqDiff]; done) | (simp only [go_sem, reduceIte, Nat.reduceEqDiff, reduceCtorEq, Nat.reduceAdd, Nat.reduceMul, Nat.reduceLT, Nat.reduceLeDiff, Int.reduceToNat, Int.reduceLE, fs_all, take_length_map, h1, b1] <;> rfl) | rfl)
        · (first | (simp only [upd_apply, reduceIte, Nat.reduceEqDiff]; done) | (simp only [go_sem, reduceIte, Nat.reduceEqDiff, reduceCtorEq, Nat.reduceAdd, Nat.reduceMul, Nat.reduceLT, Nat.reduceLeDiff, Int.reduceToNat, Int.reduceLE, fs_all, take_length_map, h1, b1] <;> rfl) | rfl)
        · simp only [upd_apply, reduceIte, Nat.reduceEqDiff, b1]
      clear h
      intro m4098 s4096 hI K3683 hK3683
      obtain ⟨p3890, h1, h88, h89, h90, b1, h⟩ := hI
      rcases m4098 with _ | n4097
      · simp only [F28_L1, reduceCtorEq] at h
      rw [F28_L1] at h
      refine awp_seq fun K4099 hK4099 => ?_
      refine awp_region rfl (by kernel_rfl) ?_
      first | refine rops_k ?_ | refine ropsD_k ?_
      repeat (refine rops_ng rfl fun K hK => ?_; simp only [go_sem, reduceIte, Nat.reduceEqDiff, reduceCtorEq, Nat.reduceAdd, Nat.reduceMul, Nat.reduceLT, Nat.reduceLeDiff, Int.reduceToNat, Int.reduceLE, h89, h90, b1]; refine hK _ ?_; clear hK K)
      first | refine rops_nil ?_ | refine ropsD_nil ?_
      try simp only [exs, reduceIte, Nat.reduceEqDiff]
      refine hK4099 _ ?_
      refine awp_seq fun K4100 hK4100 => ?_
      refine awp_if (by kernel_rfl) (by (simp only [upd_apply, reduceIte, Nat.reduceEqDiff, St.ev, constReg, constCell, St.put_some, St.put_none, h1, h88, h89, h90, b1] <;> rfl)) (fun hc => ?_) (fun hc => ?_)
      · have c4101 : (decide (p3890 < (a0.nodes.length : Int))) = true := by first | exact hc | simpa using hc
        clear hc
        rw [c4101] at h
        simp only [cond_true, cond_false] at h
        refine awp_skip ?_
        try simp only [exs, reduceIte, Nat.reduceEqDiff]
        refine hK4100 _ ?_
        refine awp_seq fun K4102 hK4102 => ?_
        have J2 : ∀  (s4202 : St), (s4202.r 1 = .loc 1 (s4202.g 1) 0 0 0) → (s4202.r 88 = .val (.sl (List.map Nd.av a0.nodes))) → (s4202.r 89 = .val (.fl (.int .i64 (a0.nodes.length : Int)))) → (s4202.r 90 = .val (.fl (.int .i64 p3890))) → (s4202.b 1 = some (.cells [.val (.fl (.int .i64 a0.next)), .val (.sl (List.map Nd.av a0.nodes))])) → F28_J2 (F28_L1 a0 N n4097) p3890 = some r → K4102 s4202 := by
          intro  s4202 h1 h88 h89 h90 b1 h
          unfold F28_J2 at h
          refine hK4102 _ ?_
          refine awp_region rfl (by kernel_rfl) ?_
          first | refine rops_k ?_ | refine ropsD_k ?_
          repeat (refine rops_ng rfl fun K hK => ?_; simp only [go_sem, reduceIte, Nat.reduceEqDiff, reduceCtorEq, Nat.reduceAdd, Nat.reduceMul, Nat.reduceLT, Nat.reduceLeDiff, Int.reduceToNat, Int.reduceLE, h90, b1]; refine hK _ ?_; clear hK K)
          first | refine rops_nil ?_ | refine ropsD_nil ?_
          try simp only [exs, reduceIte, Nat.reduceEqDiff]
          refine hK3683 _ ⟨n4097, Nat.lt_succ_self _, (IntKind.i64.wrap (p3890 + 1)), ?_, ?_, ?_, ?_, ?_, h⟩
          · simp only [upd_apply, reduceIte, Nat.reduceEqDiff, h1]
          · simp only [upd_apply, reduceIte, Nat.reduceEqDiff, h88]
          · simp only [upd_apply, reduceIte, Nat.reduceEqDiff, h89]
          · (first | (simp only [upd_apply, reduceIte, Nat.reduceEqDiff, h90]; done) | (simp only [go_sem, reduceIte, Nat.reduceEqDiff, reduceCtorEq, Nat.reduceAdd, Nat.reduceMul, Nat.reduceLT, Nat.reduceLeDiff, Int.reduceToNat, Int.reduceLE, fs_all, take_length_map, h1, h88, h89, h90, b1] <;> rfl) | rfl)
          · simp only [upd_apply, reduceIte, Nat.reduceEqDiff, b1]
        refine awp_block ?_
        refine awp_seq fun K4203 hK4203 => ?_
        obtain ⟨x4204, q4205, h⟩ := bind_some h
        obtain ⟨q4205i, q4205e, q4205l⟩ := getO_some q4205
        refine awp_region rfl (by kernel_rfl) ?_
        first | refine rops_k ?_ | refine ropsD_k ?_
        repeat (refine rops_ng rfl fun K hK => ?_; simp only [go_sem, reduceIte, Nat.reduceEqDiff, reduceCtorEq, Nat.reduceAdd, Nat.reduceMul, Nat.reduceLT, Nat.reduceLeDiff, Int.reduceToNat, Int.reduceLE, h88, h90, b1, q4205i, q4205e, q4205l]; refine hK _ ?_; clear hK K)
        first | refine rops_nil ?_ | refine ropsD_nil ?_
        try simp only [exs, reduceIte, Nat.reduceEqDiff]
        refine hK4203 _ ?_
        refine awp_seq fun K4206 hK4206 => ?_
        have J3 : ∀  (s4253 : St), True → F28_J3  = some r → K4206 s4253 := by
          intro  s4253 _ h
          unfold F28_J3 at h
          refine hK4206 _ ?_
          refine awp_seq fun K4254 hK4254 => ?_
          refine awp_region rfl (by kernel_rfl) ?_
          first | refine rops_k ?_ | refine ropsD_k ?_
          repeat (refine rops_ng rfl fun K hK => ?_; simp only [go_sem, reduceIte, Nat.reduceEqDiff, reduceCtorEq, Nat.reduceAdd, Nat.reduceMul, Nat.reduceLT, Nat.reduceLeDiff, Int.reduceToNat, Int.reduceLE]; refine hK _ ?_; clear hK K)
          first | refine rops_nil ?_ | refine ropsD_nil ?_
          try simp only [exs, reduceIte, Nat.reduceEqDiff]
          refine hK4254 _ ?_
          have h := Option.some.inj h
          subst h
          refine awp_ret ?_
          try simp only [exs, reduceIte, Nat.reduceEqDiff]
          refine fin_ret (vs := [.tmp 2]) Try.ntmps28 rfl (by simp [List.filter_cons, isOwn]) none ?_
          (simp only [resultsAre, resCell, loadRegs, regRV, go_sem, reduceIte, Nat.reduceEqDiff, reduceCtorEq, Nat.reduceAdd, Nat.reduceMul, Nat.reduceLT, Nat.reduceLeDiff, Int.reduceToNat, Int.reduceLE, fs_all, take_length_map] <;> rfl)
        refine awp_seq fun K4255 hK4255 => ?_
        refine awp_region rfl (by kernel_rfl) ?_
        first | refine rops_k ?_ | refine ropsD_k ?_
        repeat (refine rops_ng rfl fun K hK => ?_; simp only [go_sem, reduceIte, Nat.reduceEqDiff, reduceCtorEq, Nat.reduceAdd, Nat.reduceMul, Nat.reduceLT, Nat.reduceLeDiff, Int.reduceToNat, Int.reduceLE, b1]; refine hK _ ?_; clear hK K)
        first | refine rops_nil ?_ | refine ropsD_nil ?_
        try simp only [exs, reduceIte, Nat.reduceEqDiff]
        refine hK4255 _ ?_
        refine awp_block ?_
        refine awp_loopK (fun m s4286 => ∃ (p4271 : Int) (p4272 : Nd), s4286.r 1 = .loc 1 (s4286.g 1) 0 0 0 ∧ s4286.r 12 = .loc 12 (s4286.g 12) 0 0 0 ∧ s4286.r 13 = .val (.fl (.int .i64 p4271)) ∧ s4286.r 88 = .val (.sl (List.map Nd.av a0.nodes)) ∧ s4286.r 89 = .val (.fl (.int .i64 (a0.nodes.length : Int))) ∧ s4286.r 90 = .val (.fl (.int .i64 p3890)) ∧ s4286.b 1 = some (.cells [.val (.fl (.int .i64 a0.next)), .val (.sl (List.map Nd.av a0.nodes))]) ∧ s4286.b 12 = some (.cells [.val (.fl (.int .i64 p4272.id)), .val (.fl (bs p4272.concept)), .val (.fl (.int .i64 p4272.parent)), .val (.fl (bs p4272.role)), .val (.sl (List.map Prp.av p4272.props)), .val (.sl (List.map intAV p4272.kids)), .val (.sl (List.map Rf.av p4272.refs))]) ∧  F28_L2 (F28_L1 a0 N n4097) p3890 N a0 m p4271 p4272 = some r) N ?_ ?_
        · refine ⟨1, x4204, ?_, ?_, ?_, ?_, ?_, ?_, ?_, ?_, h⟩
          · simp only [upd_apply, reduceIte, Nat.reduceEqDiff, h1]
          · (first | (simp only [upd_apply, reduceIte, Nat.reduceEqDiff]; done) | (simp only [go_sem, reduceIte, Nat.reduceEqDiff, reduceCtorEq, Nat.reduceAdd, Nat.reduceMul, Nat.reduceLT, Nat.reduceLeDiff, Int.reduceToNat, Int.reduceLE, fs_all, take_length_map, h1, h88, h89, h90, b1, q4205i, q4205e, q4205l] <;> rfl) | rfl)
          · (first | (simp only [upd_apply, reduceIte, Nat.reduceEqDiff]; done) | (simp only [go_sem, reduceIte, Nat.reduceEqDiff, reduceCtorEq, Nat.reduceAdd, Nat.reduceMul, Nat.reduceLT, Nat.reduceLeDiff, Int.reduceToNat, Int.reduceLE, fs_all, take_length_map, h1, h88, h89, h90, b1, q4205i, q4205e, q4205l] <;> rfl) | rfl)
          · simp only [upd_apply, reduceIte, Nat.reduceEqDiff, h88]
          · simp only [upd_apply, reduceIte, Nat.reduceEqDiff, h89]
          · simp only [upd_apply, reduceIte, Nat.reduceEqDiff, h90]
          · simp only [upd_apply, reduceIte, Nat.reduceEqDiff, b1]
          · (first | (simp only [upd_apply, reduceIte, Nat.reduceEqDiff]; done) | (simp only [go_sem, reduceIte, Nat.reduceEqDiff, reduceCtorEq, Nat.reduceAdd, Nat.reduceMul, Nat.reduceLT, Nat.reduceLeDiff, Int.reduceToNat, Int.reduceLE, fs_all, take_length_map, h1, h88, h89, h90, b1, q4205i, q4205e, q4205l] <;> rfl) | rfl)
        clear h
        intro m4288 s4286 hI K4256 hK4256
        obtain ⟨p4271, p4272, h1, h12, h13, h88, h89, h90, b1, b12, h⟩ := hI
        rcases m4288 with _ | n4287
        · simp only [F28_L2, reduceCtorEq] at h
        rw [F28_L2] at h
        refine awp_seq fun K4289 hK4289 => ?_
        refine awp_seq fun K4290 hK4290 => ?_
        refine awp_region rfl (by kernel_rfl) ?_
        first | refine rops_k ?_ | refine ropsD_k ?_
        repeat (refine rops_ng rfl fun K hK => ?_; simp only [go_sem, reduceIte, Nat.reduceEqDiff, reduceCtorEq, Nat.reduceAdd, Nat.reduceMul, Nat.reduceLT, Nat.reduceLeDiff, Int.reduceToNat, Int.reduceLE, h13, b1, b12]; refine hK _ ?_; clear hK K)
        first | refine rops_nil ?_ | refine ropsD_nil ?_
        try simp only [exs, reduceIte, Nat.reduceEqDiff]
        refine hK4290 _ ?_
        refine awp_if (by kernel_rfl) (by (simp only [upd_apply, reduceIte, Nat.reduceEqDiff, St.ev, constReg, constCell, St.put_some, St.put_none, h1, h12, h13, h88, h89, h90, b1, b12] <;> rfl)) (fun hc => ?_) (fun hc => ?_)
        · have c4291 : (decide (p4271 ≤ 64)) = true := by first | exact hc | simpa using hc
          clear hc
          rw [c4291] at h
          simp only [cond_true, cond_false] at h
          refine awp_skip ?_
          try simp only [exs, reduceIte, Nat.reduceEqDiff]
          refine hK4289 _ ?_
          refine awp_seq fun K4292 hK4292 => ?_
          refine awp_block ?_
          refine awp_seq fun K4293 hK4293 => ?_
          refine awp_seq fun K4294 hK4294 => ?_
          refine awp_region rfl (by kernel_rfl) ?_
          first | refine rops_k ?_ | refine ropsD_k ?_
          repeat (refine rops_ng rfl fun K hK => ?_; simp only [go_sem, reduceIte, Nat.reduceEqDiff, reduceCtorEq, Nat.reduceAdd, Nat.reduceMul, Nat.reduceLT, Nat.reduceLeDiff, Int.reduceToNat, Int.reduceLE, h12, b1, b12]; refine hK _ ?_; clear hK K)
          first | refine rops_nil ?_ | refine ropsD_nil ?_
          try simp only [exs, reduceIte, Nat.reduceEqDiff]
          refine hK4294 _ ?_
          refine awp_if (by kernel_rfl) (by (simp only [upd_apply, reduceIte, Nat.reduceEqDiff, St.ev, constReg, constCell, St.put_some, St.put_none, h1, h12, h13, h88, h89, h90, b1, b12] <;> rfl)) (fun hc => ?_) (fun hc => ?_)
          · have c4295 : (p4272.parent == 0) = true := by first | exact hc | simpa using hc
            clear hc
            rw [c4295] at h
            simp only [cond_true, cond_false] at h
            refine awp_exit ?_
            try simp only [exs, reduceIte, Nat.reduceEqDiff]
            refine J2  _ ?_ ?_ ?_ ?_ ?_ h
            · simp only [upd_apply, reduceIte, Nat.reduceEqDiff, h1]
            · simp only [upd_apply, reduceIte, Nat.reduceEqDiff, h88]
            · simp only [upd_apply, reduceIte, Nat.reduceEqDiff, h89]
            · simp only [upd_apply, reduceIte, Nat.reduceEqDiff, h90]
            · simp only [upd_apply, reduceIte, Nat.reduceEqDiff, b1]
          have c4295 : (p4272.parent == 0) = false := by first | exact hc | simpa using hc
          clear hc
          rw [c4295] at h
          simp only [cond_true, cond_false] at h
          refine awp_skip ?_
          try simp only [exs, reduceIte, Nat.reduceEqDiff]
          refine hK4293 _ ?_
          obtain ⟨x4296, q4298, h⟩ := bind_some h
          obtain ⟨x4297, q4299, h⟩ := bind_some h
          obtain ⟨q4299i, q4299e, q4299l⟩ := getO_some q4299
          refine awp_draw (by kernel_rfl) rfl (by kernel_rfl) (by kernel_rfl) ?_
          first | refine rops_k ?_ | refine ropsD_k ?_
          repeat (refine ropsD_ng rfl fun K hK => ?_; simp only [go_sem, reduceIte, Nat.reduceEqDiff, reduceCtorEq, Nat.reduceAdd, Nat.reduceMul, Nat.reduceLT, Nat.reduceLeDiff, Int.reduceToNat, Int.reduceLE, h1, h12, b1, b12, q4299i, q4299e, q4299l]; refine hK _ ?_; clear hK K)
          refine ropsD_ng rfl fun K hK => ?_
          simp only [List.head?_cons, List.head?_nil, Option.map_some, Option.map_none, rops1, ropsD1, gtmp, gate, beq_self_eq_true, beq_t, beq_f, Bool.not_true, Bool.not_false, if_true, rOp, rOpD, calleeOf, regAVsOf, regAV, List.getElem?_toArray, List.getElem?_cons_zero, List.getElem?_cons_succ, Option.bind_some, upd_apply, reduceIte, Nat.reduceEqDiff, St.ev, constReg, constCell, St.put_some, St.put_none, h1, h12, h13, h88, h89, h90, b1, b12, q4299i, q4299e, q4299l]
          refine ⟨_, _, rfl, _, rfl, _, (F23_does _ N a0 p4272.parent  _ q4298), _, rfl, ?_⟩
          simp only [flRV, outK, St.take, St.takeRVs, St.takeRV, retReg, St.put_some, St.put_none, List.map_cons, List.map_nil]
          refine hK _ ?_; clear hK K
          repeat (refine ropsD_ng rfl fun K hK => ?_; simp only [go_sem, reduceIte, Nat.reduceEqDiff, reduceCtorEq, Nat.reduceAdd, Nat.reduceMul, Nat.reduceLT, Nat.reduceLeDiff, Int.reduceToNat, Int.reduceLE, h1, h12, b1, b12, q4299i, q4299e, q4299l]; refine hK _ ?_; clear hK K)
          first | refine rops_nil ?_ | refine ropsD_nil ?_
          try simp only [exs, reduceIte, Nat.reduceEqDiff]
          refine hK4292 _ ?_
          refine awp_region rfl (by kernel_rfl) ?_
          first | refine rops_k ?_ | refine ropsD_k ?_
          repeat (refine rops_ng rfl fun K hK => ?_; simp only [go_sem, reduceIte, Nat.reduceEqDiff, reduceCtorEq, Nat.reduceAdd, Nat.reduceMul, Nat.reduceLT, Nat.reduceLeDiff, Int.reduceToNat, Int.reduceLE, h13, b1, b12, q4299i, q4299e, q4299l]; refine hK _ ?_; clear hK K)
          first | refine rops_nil ?_ | refine ropsD_nil ?_
          try simp only [exs, reduceIte, Nat.reduceEqDiff]
          refine hK4256 _ ⟨n4287, Nat.lt_succ_self _, (IntKind.i64.wrap (p4271 + 1)), x4297, ?_, ?_, ?_, ?_, ?_, ?_, ?_, ?_, h⟩
          · simp only [upd_apply, reduceIte, Nat.reduceEqDiff, h1]
          · simp only [upd_apply, reduceIte, Nat.reduceEqDiff, h12]
          · (first | (simp only [upd_apply, reduceIte, Nat.reduceEqDiff, h13]; done) | (simp only [go_sem, reduceIte, Nat.reduceEqDiff, reduceCtorEq, Nat.reduceAdd, Nat.reduceMul, Nat.reduceLT, Nat.reduceLeDiff, Int.reduceToNat, Int.reduceLE, fs_all, take_length_map, h1, h12, h13, h88, h89, h90, b1, b12, q4299i, q4299e, q4299l] <;> rfl) | rfl)
          · simp only [upd_apply, reduceIte, Nat.reduceEqDiff, h88]
          · simp only [upd_apply, reduceIte, Nat.reduceEqDiff, h89]
          · simp only [upd_apply, reduceIte, Nat.reduceEqDiff, h90]
          · simp only [upd_apply, reduceIte, Nat.reduceEqDiff, b1]
          · (first | (simp only [upd_apply, reduceIte, Nat.reduceEqDiff, b12]; done) | (simp only [go_sem, reduceIte, Nat.reduceEqDiff, reduceCtorEq, Nat.reduceAdd, Nat.reduceMul, Nat.reduceLT, Nat.reduceLeDiff, Int.reduceToNat, Int.reduceLE, fs_all, take_length_map, h1, h12, h13, h88, h89, h90, b1, b12, q4299i, q4299e, q4299l] <;> rfl) | rfl)
        have c4291 : (decide (p4271 ≤ 64)) = false := by first | exact hc | simpa using hc
        clear hc
        rw [c4291] at h
        simp only [cond_true, cond_false] at h
        refine awp_exit ?_
        try simp only [exs, reduceIte, Nat.reduceEqDiff]
        refine J3  _ trivial h
      have c4101 : (decide (p3890 < (a0.nodes.length : Int))) = false := by first | exact hc | simpa using hc
      clear hc
      rw [c4101] at h
      simp only [cond_true, cond_false] at h
      refine awp_exit ?_
      try simp only [exs, reduceIte, Nat.reduceEqDiff]
      refine J1  _ trivial h
    refine awp_seq fun K4300 hK4300 => ?_
    refine awp_region rfl (by kernel_rfl) ?_
    first | refine rops_k ?_ | refine ropsD_k ?_
    repeat (refine rops_ng rfl fun K hK => ?_; simp only [go_sem, reduceIte, Nat.reduceEqDiff, reduceCtorEq, Nat.reduceAdd, Nat.reduceMul, Nat.reduceLT, Nat.reduceLeDiff, Int.reduceToNat, Int.reduceLE, h1, b1, b3]; refine hK _ ?_; clear hK K)
    first | refine rops_nil ?_ | refine ropsD_nil ?_
    try simp only [exs, reduceIte, Nat.reduceEqDiff]
    refine hK4300 _ ?_
    refine awp_block ?_
    refine awp_loopK (fun m s4346 => ∃ (p4324 : Int), s4346.r 1 = .loc 1 (s4346.g 1) 0 0 0 ∧ s4346.r 3 = .view 3 (s4346.g 3) 0 p2982.length ∧ s4346.r 57 = .val (.sl (List.map Nd.av a0.nodes)) ∧ s4346.r 58 = .val (.fl (.int .i64 (a0.nodes.length : Int))) ∧ s4346.r 59 = .val (.fl (.int .i64 p4324)) ∧ s4346.b 1 = some (.cells [.val (.fl (.int .i64 a0.next)), .val (.sl (List.map Nd.av a0.nodes))]) ∧ s4346.b 3 = some (.arr 3 (List.map intAV p2982)) ∧  F28_L3 a0 p2982 N m p4324 = some r) N ?_ ?_
    · refine ⟨0, ?_, ?_, ?_, ?_, ?_, ?_, ?_, h⟩
      · simp only [upd_apply, reduceIte, Nat.reduceEqDiff, h1]
      · (first | (simp only [upd_apply, reduceIte, Nat.reduceEqDiff, h3]; done) | (simp only [go_sem, reduceIte, Nat.reduceEqDiff, reduceCtorEq, Nat.reduceAdd, Nat.reduceMul, Nat.reduceLT, Nat.reduceLeDiff, Int.reduceToNat, Int.reduceLE, fs_all, take_length_map, h1, h3, b1, b3] <;> rfl) | rfl)
      · (first | (simp only [upd_apply, reduceIte, Nat.reduceEqDiff]; done) | (simp only [go_sem, reduceIte, Nat.reduceEqDiff, reduceCtorEq, Nat.reduceAdd, Nat.reduceMul, Nat.reduceLT, Nat.reduceLeDiff, Int.reduceToNat, Int.reduceLE, fs_all, take_length_map, h1, h3, b1, b3] <;> rfl) | rfl)
      · (first | (simp only [upd_apply, reduceIte, Nat.reduceEqDiff]; done) | (simp only [go_sem, reduceIte, Nat.reduceEqDiff, reduceCtorEq, Nat.reduceAdd, Nat.reduceMul, Nat.reduceLT, Nat.reduceLeDiff, Int.reduceToNat, Int.reduceLE, fs_all, take_length_map, h1, h3, b1, b3] <;> rfl) | rfl)
      · (first | (simp only [upd_apply, reduceIte, Nat.reduceEqDiff]; done) | (simp only [go_sem, reduceIte, Nat.reduceEqDiff, reduceCtorEq, Nat.reduceAdd, Nat.reduceMul, Nat.reduceLT, Nat.reduceLeDiff, Int.reduceToNat, Int.reduceLE, fs_all, take_length_map, h1, h3, b1, b3] <;> rfl) | rfl)
      · simp only [upd_apply, reduceIte, Nat.reduceEqDiff, b1]
      · simp only [upd_apply, reduceIte, Nat.reduceEqDiff, b3]
    clear h
    intro m4348 s4346 hI K4301 hK4301
    obtain ⟨p4324, h1, h3, h57, h58, h59, b1, b3, h⟩ := hI
    rcases m4348 with _ | n4347
    · simp only [F28_L3, reduceCtorEq] at h
    rw [F28_L3] at h
    refine awp_seq fun K4349 hK4349 => ?_
    refine awp_region rfl (by kernel_rfl) ?_
    first | refine rops_k ?_ | refine ropsD_k ?_
    repeat (refine rops_ng rfl fun K hK => ?_; simp only [go_sem, reduceIte, Nat.reduceEqDiff, reduceCtorEq, Nat.reduceAdd, Nat.reduceMul, Nat.reduceLT, Nat.reduceLeDiff, Int.reduceToNat, Int.reduceLE, h58, h59, b1, b3]; refine hK _ ?_; clear hK K)
    first | refine rops_nil ?_ | refine ropsD_nil ?_
    try simp only [exs, reduceIte, Nat.reduceEqDiff]
    refine hK4349 _ ?_
    refine awp_seq fun K4350 hK4350 => ?_
    refine awp_if (by kernel_rfl) (by (simp only [upd_apply, reduceIte, Nat.reduceEqDiff, St.ev, constReg, constCell, St.put_some, St.put_none, h1, h3, h57, h58, h59, b1, b3] <;> rfl)) (fun hc => ?_) (fun hc => ?_)
    · have c4351 : (decide (p4324 < (a0.nodes.length : Int))) = true := by first | exact hc | simpa using hc
      clear hc
      rw [c4351] at h
      simp only [cond_true, cond_false] at h
      refine awp_skip ?_
      try simp only [exs, reduceIte, Nat.reduceEqDiff]
      refine hK4350 _ ?_
      refine awp_seq fun K4352 hK4352 => ?_
      refine awp_block ?_
      refine awp_seq fun K4353 hK4353 => ?_
      obtain ⟨x4354, q4355, h⟩ := bind_some h
      obtain ⟨q4355i, q4355e, q4355l⟩ := getO_some q4355
      refine awp_region rfl (by kernel_rfl) ?_
      first | refine rops_k ?_ | refine ropsD_k ?_
      repeat (refine rops_ng rfl fun K hK => ?_; simp only [go_sem, reduceIte, Nat.reduceEqDiff, reduceCtorEq, Nat.reduceAdd, Nat.reduceMul, Nat.reduceLT, Nat.reduceLeDiff, Int.reduceToNat, Int.reduceLE, h57, h59, b1, b3, q4355i, q4355e, q4355l]; refine hK _ ?_; clear hK K)
      first | refine rops_nil ?_ | refine ropsD_nil ?_
      try simp only [exs, reduceIte, Nat.reduceEqDiff]
      refine hK4353 _ ?_
      refine awp_seq fun K4356 hK4356 => ?_
      obtain ⟨x4357, q4359, h⟩ := bindG_some h
      obtain ⟨x4358, q4360, h⟩ := bindG_some h
      refine awp_region rfl (by kernel_rfl) ?_
      have R4362 : ∀ s4361 : St, (s4361.r 1 = .loc 1 (s4361.g 1) 0 0 0) → (s4361.r 3 = .view 3 (s4361.g 3) 0 p2982.length) → (s4361.r 57 = .val (.sl (List.map Nd.av a0.nodes))) → (s4361.r 58 = .val (.fl (.int .i64 (a0.nodes.length : Int)))) → (s4361.r 59 = .val (.fl (.int .i64 p4324))) → (s4361.r 85 = .val (.fl (.bool (((x4354.parent == 0) && (!(x4357 == 0))) || ((!(x4354.parent == 0)) && (!(x4358 == 1))))))) → (s4361.b 1 = some (.cells [.val (.fl (.int .i64 a0.next)), .val (.sl (List.map Nd.av a0.nodes))])) → (s4361.b 3 = some (.arr 3 (List.map intAV p2982))) → K4356 s4361 := by
        intro s4361 h1 h3 h57 h58 h59 h85 b1 b3
        refine hK4356 _ ?_
        refine awp_if (by kernel_rfl) (by (simp only [upd_apply, reduceIte, Nat.reduceEqDiff, St.ev, constReg, constCell, St.put_some, St.put_none, h1, h3, h57, h58, h59, h85, b1, b3, q4355i, q4355e, q4355l] <;> rfl)) (fun hc => ?_) (fun hc => ?_)
        · have c4363 : (((x4354.parent == 0) && (!(x4357 == 0))) || ((!(x4354.parent == 0)) && (!(x4358 == 1)))) = true := by first | exact hc | simpa using hc
          clear hc
          rw [c4363] at h
          simp only [cond_true, cond_false] at h
          refine awp_seq fun K4364 hK4364 => ?_
          refine awp_region rfl (by kernel_rfl) ?_
          first | refine rops_k ?_ | refine ropsD_k ?_
          repeat (refine rops_ng rfl fun K hK => ?_; simp only [go_sem, reduceIte, Nat.reduceEqDiff, reduceCtorEq, Nat.reduceAdd, Nat.reduceMul, Nat.reduceLT, Nat.reduceLeDiff, Int.reduceToNat, Int.reduceLE, b1, b3]; refine hK _ ?_; clear hK K)
          first | refine rops_nil ?_ | refine ropsD_nil ?_
          try simp only [exs, reduceIte, Nat.reduceEqDiff]
          refine hK4364 _ ?_
          have h := Option.some.inj h
          subst h
          refine awp_ret ?_
          try simp only [exs, reduceIte, Nat.reduceEqDiff]
          refine fin_ret (vs := [.tmp 2]) Try.ntmps28 rfl (by simp [List.filter_cons, isOwn]) none ?_
          (simp only [resultsAre, resCell, loadRegs, regRV, go_sem, reduceIte, Nat.reduceEqDiff, reduceCtorEq, Nat.reduceAdd, Nat.reduceMul, Nat.reduceLT, Nat.reduceLeDiff, Int.reduceToNat, Int.reduceLE, fs_all, take_length_map, h1, h3, h57, h58, h59, h85, b1, b3, q4355i, q4355e, q4355l] <;> rfl)
        have c4363 : (((x4354.parent == 0) && (!(x4357 == 0))) || ((!(x4354.parent == 0)) && (!(x4358 == 1)))) = false := by first | exact hc | simpa using hc
        clear hc
        rw [c4363] at h
        simp only [cond_true, cond_false] at h
        refine awp_skip ?_
        try simp only [exs, reduceIte, Nat.reduceEqDiff]
        refine hK4352 _ ?_
        refine awp_region rfl (by kernel_rfl) ?_
        first | refine rops_k ?_ | refine ropsD_k ?_
        repeat (refine rops_ng rfl fun K hK => ?_; simp only [go_sem, reduceIte, Nat.reduceEqDiff, reduceCtorEq, Nat.reduceAdd, Nat.reduceMul, Nat.reduceLT, Nat.reduceLeDiff, Int.reduceToNat, Int.reduceLE, h59, b1, b3, q4355i, q4355e, q4355l]; refine hK _ ?_; clear hK K)
        first | refine rops_nil ?_ | refine ropsD_nil ?_
        try simp only [exs, reduceIte, Nat.reduceEqDiff]
        refine hK4301 _ ⟨n4347, Nat.lt_succ_self _, (IntKind.i64.wrap (p4324 + 1)), ?_, ?_, ?_, ?_, ?_, ?_, ?_, h⟩
        · simp only [upd_apply, reduceIte, Nat.reduceEqDiff, h1]
        · (first | (simp only [upd_apply, reduceIte, Nat.reduceEqDiff, h3]; done) | (simp only [go_sem, reduceIte, Nat.reduceEqDiff, reduceCtorEq, Nat.reduceAdd, Nat.reduceMul, Nat.reduceLT, Nat.reduceLeDiff, Int.reduceToNat, Int.reduceLE, fs_all, take_length_map, h1, h3, h57, h58, h59, h85, b1, b3, q4355i, q4355e, q4355l] <;> rfl) | rfl)
        · simp only [upd_apply, reduceIte, Nat.reduceEqDiff, h57]
        · simp only [upd_apply, reduceIte, Nat.reduceEqDiff, h58]
        · (first | (simp only [upd_apply, reduceIte, Nat.reduceEqDiff, h59]; done) | (simp only [go_sem, reduceIte, Nat.reduceEqDiff, reduceCtorEq, Nat.reduceAdd, Nat.reduceMul, Nat.reduceLT, Nat.reduceLeDiff, Int.reduceToNat, Int.reduceLE, fs_all, take_length_map, h1, h3, h57, h58, h59, h85, b1, b3, q4355i, q4355e, q4355l] <;> rfl) | rfl)
        · simp only [upd_apply, reduceIte, Nat.reduceEqDiff, b1]
        · simp only [upd_apply, reduceIte, Nat.reduceEqDiff, b3]
      first | refine rops_k ?_ | refine ropsD_k ?_
      repeat (refine rops_ng rfl fun K hK => ?_; simp only [go_sem, reduceIte, Nat.reduceEqDiff, reduceCtorEq, Nat.reduceAdd, Nat.reduceMul, Nat.reduceLT, Nat.reduceLeDiff, Int.reduceToNat, Int.reduceLE, h3, b1, b3, q4355i, q4355e, q4355l]; refine hK _ ?_; clear hK K)
      rcases c4365 : (x4354.parent == 0) with _ | _
      · have q4366 := q4360 (by simp only [c4365, fs_bool, beq_t, beq_f, beq_self_eq_true])
        obtain ⟨q4366i, q4366e, q4366l⟩ := getO_some q4366
        repeat (first | (refine rops_ng rfl fun K hK => ?_; simp only [go_sem, reduceIte, Nat.reduceEqDiff, reduceCtorEq, Nat.reduceAdd, Nat.reduceMul, Nat.reduceLT, Nat.reduceLeDiff, Int.reduceToNat, Int.reduceLE, h3, b1, b3, q4355i, q4355e, q4355l, q4366i, q4366e, q4366l, c4365]; refine hK _ ?_; clear hK K) | (refine rops_on rfl rfl ?_ fun K hK => ?_; (focus (simp only [go_sem, reduceIte, Nat.reduceEqDiff, reduceCtorEq, Nat.reduceAdd, Nat.reduceMul, Nat.reduceLT, Nat.reduceLeDiff, Int.reduceToNat, Int.reduceLE, h3, b1, b3, q4355i, q4355e, q4355l, q4366i, q4366e, q4366l, c4365]; done)); simp only [go_sem, reduceIte, Nat.reduceEqDiff, reduceCtorEq, Nat.reduceAdd, Nat.reduceMul, Nat.reduceLT, Nat.reduceLeDiff, Int.reduceToNat, Int.reduceLE, h3, b1, b3, q4355i, q4355e, q4355l, q4366i, q4366e, q4366l, c4365]; refine hK _ ?_; clear hK K) | (refine rops_off rfl rfl ?_ ?_; (focus (simp only [go_sem, reduceIte, Nat.reduceEqDiff, reduceCtorEq, Nat.reduceAdd, Nat.reduceMul, Nat.reduceLT, Nat.reduceLeDiff, Int.reduceToNat, Int.reduceLE, h3, b1, b3, q4355i, q4355e, q4355l, q4366i, q4366e, q4366l, c4365]; done))))
        first | refine rops_nil ?_ | refine ropsD_nil ?_
        try simp only [exs, reduceIte, Nat.reduceEqDiff]
        refine R4362 _ ?_ ?_ ?_ ?_ ?_ ?_ ?_ ?_
        · simp only [upd_apply, reduceIte, Nat.reduceEqDiff, h1]
        · (first | (simp only [upd_apply, reduceIte, Nat.reduceEqDiff, h3]; done) | (simp only [go_sem, reduceIte, Nat.reduceEqDiff, reduceCtorEq, Nat.reduceAdd, Nat.reduceMul, Nat.reduceLT, Nat.reduceLeDiff, Int.reduceToNat, Int.reduceLE, fs_all, take_length_map, h1, h3, h57, h58, h59, b1, b3, q4355i, q4355e, q4355l, q4366i, q4366e, q4366l, c4365] <;> rfl) | rfl)
        · simp only [upd_apply, reduceIte, Nat.reduceEqDiff, h57]
        · simp only [upd_apply, reduceIte, Nat.reduceEqDiff, h58]
        · simp only [upd_apply, reduceIte, Nat.reduceEqDiff, h59]
        · (first | (simp only [upd_apply, reduceIte, Nat.reduceEqDiff]; done) | (simp only [go_sem, reduceIte, Nat.reduceEqDiff, reduceCtorEq, Nat.reduceAdd, Nat.reduceMul, Nat.reduceLT, Nat.reduceLeDiff, Int.reduceToNat, Int.reduceLE, fs_all, take_length_map, h1, h3, h57, h58, h59, b1, b3, q4355i, q4355e, q4355l, q4366i, q4366e, q4366l, c4365] <;> rfl) | rfl)
        · simp only [upd_apply, reduceIte, Nat.reduceEqDiff, b1]
        · simp only [upd_apply, reduceIte, Nat.reduceEqDiff, b3]
      have q4367 := q4359 (by simp only [c4365, fs_bool, beq_t, beq_f, beq_self_eq_true])
      obtain ⟨q4367i, q4367e, q4367l⟩ := getO_some q4367
      repeat (first | (refine rops_ng rfl fun K hK => ?_; simp only [go_sem, reduceIte, Nat.reduceEqDiff, reduceCtorEq, Nat.reduceAdd, Nat.reduceMul, Nat.reduceLT, Nat.reduceLeDiff, Int.reduceToNat, Int.reduceLE, h3, b1, b3, q4355i, q4355e, q4355l, q4367i, q4367e, q4367l, c4365]; refine hK _ ?_; clear hK K) | (refine rops_on rfl rfl ?_ fun K hK => ?_; (focus (simp only [go_sem, reduceIte, Nat.reduceEqDiff, reduceCtorEq, Nat.reduceAdd, Nat.reduceMul, Nat.reduceLT, Nat.reduceLeDiff, Int.reduceToNat, Int.reduceLE, h3, b1, b3, q4355i, q4355e, q4355l, q4367i, q4367e, q4367l, c4365]; done)); simp only [go_sem, reduceIte, Nat.reduceEqDiff, reduceCtorEq, Nat.reduceAdd, Nat.reduceMul, Nat.reduceLT, Nat.reduceLeDiff, Int.reduceToNat, Int.reduceLE, h3, b1, b3, q4355i, q4355e, q4355l, q4367i, q4367e, q4367l, c4365]; refine hK _ ?_; clear hK K) | (refine rops_off rfl rfl ?_ ?_; (focus (simp only [go_sem, reduceIte, Nat.reduceEqDiff, reduceCtorEq, Nat.reduceAdd, Nat.reduceMul, Nat.reduceLT, Nat.reduceLeDiff, Int.reduceToNat, Int.reduceLE, h3, b1, b3, q4355i, q4355e, q4355l, q4367i, q4367e, q4367l, c4365]; done))))
      rcases c4368 : (x4357 == 0) with _ | _
      · repeat (first | (refine rops_ng rfl fun K hK => ?_; simp only [go_sem, reduceIte, Nat.reduceEqDiff, reduceCtorEq, Nat.reduceAdd, Nat.reduceMul, Nat.reduceLT, Nat.reduceLeDiff, Int.reduceToNat, Int.reduceLE, h3, b1, b3, q4355i, q4355e, q4355l, q4367i, q4367e, q4367l, c4365, c4368]; refine hK _ ?_; clear hK K) | (refine rops_on rfl rfl ?_ fun K hK => ?_; (focus (simp only [go_sem, reduceIte, Nat.reduceEqDiff, reduceCtorEq, Nat.reduceAdd, Nat.reduceMul, Nat.reduceLT, Nat.reduceLeDiff, Int.reduceToNat, Int.reduceLE, h3, b1, b3, q4355i, q4355e, q4355l, q4367i, q4367e, q4367l, c4365, c4368]; done)); simp only [go_sem, reduceIte, Nat.reduceEqDiff, reduceCtorEq, Nat.reduceAdd, Nat.reduceMul, Nat.reduceLT, Nat.reduceLeDiff, Int.reduceToNat, Int.reduceLE, h3, b1, b3, q4355i, q4355e, q4355l, q4367i, q4367e, q4367l, c4365, c4368]; refine hK _ ?_; clear hK K) | (refine rops_off rfl rfl ?_ ?_; (focus (simp only [go_sem, reduceIte, Nat.reduceEqDiff, reduceCtorEq, Nat.reduceAdd, Nat.reduceMul, Nat.reduceLT, Nat.reduceLeDiff, Int.reduceToNat, Int.reduceLE, h3, b1, b3, q4355i, q4355e, q4355l, q4367i, q4367e, q4367l, c4365, c4368]; done))))
        first | refine rops_nil ?_ | refine ropsD_nil ?_
        try simp only [exs, reduceIte, Nat.reduceEqDiff]
        refine R4362 _ ?_ ?_ ?_ ?_ ?_ ?_ ?_ ?_
        · simp only [upd_apply, reduceIte, Nat.reduceEqDiff, h1]
        · (first | (simp only [upd_apply, reduceIte, Nat.reduceEqDiff, h3]; done) | (simp only [go_sem, reduceIte, Nat.reduceEqDiff, reduceCtorEq, Nat.reduceAdd, Nat.reduceMul, Nat.reduceLT, Nat.reduceLeDiff, Int.reduceToNat, Int.reduceLE, fs_all, take_length_map, h1, h3, h57, h58, h59, b1, b3, q4355i, q4355e, q4355l, q4367i, q4367e, q4367l, c4365, c4368] <;> rfl) | rfl)
        · simp only [upd_apply, reduceIte, Nat.reduceEqDiff, h57]
        · simp only [upd_apply, reduceIte, Nat.reduceEqDiff, h58]
        · simp only [upd_apply, reduceIte, Nat.reduceEqDiff, h59]
        · (first | (simp only [upd_apply, reduceIte, Nat.reduceEqDiff]; done) | (simp only [go_sem, reduceIte, Nat.reduceEqDiff, reduceCtorEq, Nat.reduceAdd, Nat.reduceMul, Nat.reduceLT, Nat.reduceLeDiff, Int.reduceToNat, Int.reduceLE, fs_all, take_length_map, h1, h3, h57, h58, h59, b1, b3, q4355i, q4355e, q4355l, q4367i, q4367e, q4367l, c4365, c4368] <;> rfl) | rfl)
        · simp only [upd_apply, reduceIte, Nat.reduceEqDiff, b1]
        · simp only [upd_apply, reduceIte, Nat.reduceEqDiff, b3]
      repeat (first | (refine rops_ng rfl fun K hK => ?_; simp only [go_sem, reduceIte, Nat.reduceEqDiff, reduceCtorEq, Nat.reduceAdd, Nat.reduceMul, Nat.reduceLT, Nat.reduceLeDiff, Int.reduceToNat, Int.reduceLE, h3, b1, b3, q4355i, q4355e, q4355l, q4367i, q4367e, q4367l, c4365, c4368]; refine hK _ ?_; clear hK K) | (refine rops_on rfl rfl ?_ fun K hK => ?_; (focus (simp only [go_sem, reduceIte, Nat.reduceEqDiff, reduceCtorEq, Nat.reduceAdd, Nat.reduceMul, Nat.reduceLT, Nat.reduceLeDiff, Int.reduceToNat, Int.reduceLE, h3, b1, b3, q4355i, q4355e, q4355l, q4367i, q4367e, q4367l, c4365, c4368]; done)); simp only [go_sem, reduceIte, Nat.reduceEqDiff, reduceCtorEq, Nat.reduceAdd, Nat.reduceMul, Nat.reduceLT, Nat.reduceLeDiff, Int.reduceToNat, Int.reduceLE, h3, b1, b3, q4355i, q4355e, q4355l, q4367i, q4367e, q4367l, c4365, c4368]; refine hK _ ?_; clear hK K) | (refine rops_off rfl rfl ?_ ?_; (focus (simp only [go_sem, reduceIte, Nat.reduceEqDiff, reduceCtorEq, Nat.reduceAdd, Nat.reduceMul, Nat.reduceLT, Nat.reduceLeDiff, Int.reduceToNat, Int.reduceLE, h3, b1, b3, q4355i, q4355e, q4355l, q4367i, q4367e, q4367l, c4365, c4368]; done))))
      first | refine rops_nil ?_ | refine ropsD_nil ?_
      try simp only [exs, reduceIte, Nat.reduceEqDiff]
      refine R4362 _ ?_ ?_ ?_ ?_ ?_ ?_ ?_ ?_
      · simp only [upd_apply, reduceIte, Nat.reduceEqDiff, h1]
      · (first | (simp only [upd_apply, reduceIte, Nat.reduceEqDiff, h3]; done) | (simp only [go_sem, reduceIte, Nat.reduceEqDiff, reduceCtorEq, Nat.reduceAdd, Nat.reduceMul, Nat.reduceLT, Nat.reduceLeDiff, Int.reduceToNat, Int.reduceLE, fs_all, take_length_map, h1, h3, h57, h58, h59, b1, b3, q4355i, q4355e, q4355l, q4367i, q4367e, q4367l, c4365, c4368] <;> rfl) | rfl)
      · simp only [upd_apply, reduceIte, Nat.reduceEqDiff, h57]
      · simp only [upd_apply, reduceIte, Nat.reduceEqDiff, h58]
      · simp only [upd_apply, reduceIte, Nat.reduceEqDiff, h59]
      · (first | (simp only [upd_apply, reduceIte, Nat.reduceEqDiff]; done) | (simp only [go_sem, reduceIte, Nat.reduceEqDiff, reduceCtorEq, Nat.reduceAdd, Nat.reduceMul, Nat.reduceLT, Nat.reduceLeDiff, Int.reduceToNat, Int.reduceLE, fs_all, take_length_map, h1, h3, h57, h58, h59, b1, b3, q4355i, q4355e, q4355l, q4367i, q4367e, q4367l, c4365, c4368] <;> rfl) | rfl)
      · simp only [upd_apply, reduceIte, Nat.reduceEqDiff, b1]
      · simp only [upd_apply, reduceIte, Nat.reduceEqDiff, b3]
    have c4351 : (decide (p4324 < (a0.nodes.length : Int))) = false := by first | exact hc | simpa using hc
    clear hc
    rw [c4351] at h
    simp only [cond_true, cond_false] at h
    refine awp_exit ?_
    try simp only [exs, reduceIte, Nat.reduceEqDiff]
    refine J4  _ ?_ ?_ h
    · simp only [upd_apply, reduceIte, Nat.reduceEqDiff, h1]
    · simp only [upd_apply, reduceIte, Nat.reduceEqDiff, b1]
  refine awp_seq fun K4369 hK4369 => ?_
  refine awp_region rfl (by kernel_rfl) ?_
  first | refine rops_k ?_ | refine ropsD_k ?_
  repeat (refine rops_ng rfl fun K hK => ?_; simp only [go_sem, reduceIte, Nat.reduceEqDiff, reduceCtorEq, Nat.reduceAdd, Nat.reduceMul, Nat.reduceLT, Nat.reduceLeDiff, Int.reduceToNat, Int.reduceLE, q2454a, q2454b]; refine hK _ ?_; clear hK K)
  first | refine rops_nil ?_ | refine ropsD_nil ?_
  try simp only [exs, reduceIte, Nat.reduceEqDiff]
  refine hK4369 _ ?_
  refine awp_block ?_
  refine awp_loopK (fun m s4720 => ∃ (p4545 : Int) (p4546 : List Int), s4720.r 1 = .loc 1 (s4720.g 1) 0 0 0 ∧ s4720.r 3 = .view 3 (s4720.g 3) 0 p4546.length ∧ s4720.r 19 = .val (.sl (List.map Nd.av a0.nodes)) ∧ s4720.r 20 = .val (.fl (.int .i64 (a0.nodes.length : Int))) ∧ s4720.r 21 = .val (.fl (.int .i64 p4545)) ∧ s4720.b 1 = some (.cells [.val (.fl (.int .i64 a0.next)), .val (.sl (List.map Nd.av a0.nodes))]) ∧ s4720.b 3 = some (.arr 3 (List.map intAV p4546)) ∧  F28_L4 a0 N m p4545 p4546 = some r) N ?_ ?_
  · refine ⟨0, (List.replicate a0.nodes.length 0), ?_, ?_, ?_, ?_, ?_, ?_, ?_, h⟩
    · (first | (simp only [upd_apply, reduceIte, Nat.reduceEqDiff]; done) | (simp only [go_sem, reduceIte, Nat.reduceEqDiff, reduceCtorEq, Nat.reduceAdd, Nat.reduceMul, Nat.reduceLT, Nat.reduceLeDiff, Int.reduceToNat, Int.reduceLE, fs_all, take_length_map, h0, q2454a, q2454b] <;> rfl) | rfl)
    · (first | (simp only [upd_apply, reduceIte, Nat.reduceEqDiff]; done) | (simp only [go_sem, reduceIte, Nat.reduceEqDiff, reduceCtorEq, Nat.reduceAdd, Nat.reduceMul, Nat.reduceLT, Nat.reduceLeDiff, Int.reduceToNat, Int.reduceLE, fs_all, take_length_map, h0, q2454a, q2454b] <;> rfl) | rfl)
    · (first | (simp only [upd_apply, reduceIte, Nat.reduceEqDiff]; done) | (simp only [go_sem, reduceIte, Nat.reduceEqDiff, reduceCtorEq, Nat.reduceAdd, Nat.reduceMul, Nat.reduceLT, Nat.reduceLeDiff, Int.reduceToNat, Int.reduceLE, fs_all, take_length_map, h0, q2454a, q2454b] <;> rfl) | rfl)
    · (first | (simp only [upd_apply, reduceIte, Nat.reduceEqDiff]; done) | (simp only [go_sem, reduceIte, Nat.reduceEqDiff, reduceCtorEq, Nat.reduceAdd, Nat.reduceMul, Nat.reduceLT, Nat.reduceLeDiff, Int.reduceToNat, Int.reduceLE, fs_all, take_length_map, h0, q2454a, q2454b] <;> rfl) | rfl)
    · (first | (simp only [upd_apply, reduceIte, Nat.reduceEqDiff]; done) | (simp only [go_sem, reduceIte, Nat.reduceEqDiff, reduceCtorEq, Nat.reduceAdd, Nat.reduceMul, Nat.reduceLT, Nat.reduceLeDiff, Int.reduceToNat, Int.reduceLE, fs_all, take_length_map, h0, q2454a, q2454b] <;> rfl) | rfl)
    · (first | (simp only [upd_apply, reduceIte, Nat.reduceEqDiff]; done) | (simp only [go_sem, reduceIte, Nat.reduceEqDiff, reduceCtorEq, Nat.reduceAdd, Nat.reduceMul, Nat.reduceLT, Nat.reduceLeDiff, Int.reduceToNat, Int.reduceLE, fs_all, take_length_map, h0, q2454a, q2454b] <;> rfl) | rfl)
    · (first | (simp only [upd_apply, reduceIte, Nat.reduceEqDiff]; done) | (simp only [go_sem, reduceIte, Nat.reduceEqDiff, reduceCtorEq, Nat.reduceAdd, Nat.reduceMul, Nat.reduceLT, Nat.reduceLeDiff, Int.reduceToNat, Int.reduceLE, fs_all, take_length_map, h0, q2454a, q2454b] <;> rfl) | rfl)
  clear h
  intro m4722 s4720 hI K4370 hK4370
  obtain ⟨p4545, p4546, h1, h3, h19, h20, h21, b1, b3, h⟩ := hI
  rcases m4722 with _ | n4721
  · simp only [F28_L4, reduceCtorEq] at h
  rw [F28_L4] at h
  refine awp_seq fun K4723 hK4723 => ?_
  refine awp_region rfl (by kernel_rfl) ?_
  first | refine rops_k ?_ | refine ropsD_k ?_
  repeat (refine rops_ng rfl fun K hK => ?_; simp only [go_sem, reduceIte, Nat.reduceEqDiff, reduceCtorEq, Nat.reduceAdd, Nat.reduceMul, Nat.reduceLT, Nat.reduceLeDiff, Int.reduceToNat, Int.reduceLE, h20, h21, b1, b3]; refine hK _ ?_; clear hK K)
  first | refine rops_nil ?_ | refine ropsD_nil ?_
  try simp only [exs, reduceIte, Nat.reduceEqDiff]
  refine hK4723 _ ?_
  refine awp_seq fun K4724 hK4724 => ?_
  refine awp_if (by kernel_rfl) (by (simp only [upd_apply, reduceIte, Nat.reduceEqDiff, St.ev, constReg, constCell, St.put_some, St.put_none, h1, h3, h19, h20, h21, b1, b3] <;> rfl)) (fun hc => ?_) (fun hc => ?_)
  · have c4725 : (decide (p4545 < (a0.nodes.length : Int))) = true := by first | exact hc | simpa using hc
    clear hc
    rw [c4725] at h
    simp only [cond_true, cond_false] at h
    refine awp_skip ?_
    try simp only [exs, reduceIte, Nat.reduceEqDiff]
    refine hK4724 _ ?_
    refine awp_seq fun K4726 hK4726 => ?_
    have J6 : ∀ (p4809 : List Int) (s4810 : St), (s4810.r 1 = .loc 1 (s4810.g 1) 0 0 0) → (s4810.r 3 = .view 3 (s4810.g 3) 0 p4809.length) → (s4810.r 19 = .val (.sl (List.map Nd.av a0.nodes))) → (s4810.r 20 = .val (.fl (.int .i64 (a0.nodes.length : Int)))) → (s4810.r 21 = .val (.fl (.int .i64 p4545))) → (s4810.b 1 = some (.cells [.val (.fl (.int .i64 a0.next)), .val (.sl (List.map Nd.av a0.nodes))])) → (s4810.b 3 = some (.arr 3 (List.map intAV p4809))) → F28_J6 (F28_L4 a0 N n4721) p4545 p4809 = some r → K4726 s4810 := by
      intro p4809 s4810 h1 h3 h19 h20 h21 b1 b3 h
      unfold F28_J6 at h
      refine hK4726 _ ?_
      refine awp_region rfl (by kernel_rfl) ?_
      first | refine rops_k ?_ | refine ropsD_k ?_
      repeat (refine rops_ng rfl fun K hK => ?_; simp only [go_sem, reduceIte, Nat.reduceEqDiff, reduceCtorEq, Nat.reduceAdd, Nat.reduceMul, Nat.reduceLT, Nat.reduceLeDiff, Int.reduceToNat, Int.reduceLE, h21, b1, b3]; refine hK _ ?_; clear hK K)
      first | refine rops_nil ?_ | refine ropsD_nil ?_
      try simp only [exs, reduceIte, Nat.reduceEqDiff]
      refine hK4370 _ ⟨n4721, Nat.lt_succ_self _, (IntKind.i64.wrap (p4545 + 1)), p4809, ?_, ?_, ?_, ?_, ?_, ?_, ?_, h⟩
      · simp only [upd_apply, reduceIte, Nat.reduceEqDiff, h1]
      · (first | (simp only [upd_apply, reduceIte, Nat.reduceEqDiff, h3]; done) | (simp only [go_sem, reduceIte, Nat.reduceEqDiff, reduceCtorEq, Nat.reduceAdd, Nat.reduceMul, Nat.reduceLT, Nat.reduceLeDiff, Int.reduceToNat, Int.reduceLE, fs_all, take_length_map, h1, h3, h19, h20, h21, b1, b3] <;> rfl) | rfl)
      · simp only [upd_apply, reduceIte, Nat.reduceEqDiff, h19]
      · simp only [upd_apply, reduceIte, Nat.reduceEqDiff, h20]
      · (first | (simp only [upd_apply, reduceIte, Nat.reduceEqDiff, h21]; done) | (simp only [go_sem, reduceIte, Nat.reduceEqDiff, reduceCtorEq, Nat.reduceAdd, Nat.reduceMul, Nat.reduceLT, Nat.reduceLeDiff, Int.reduceToNat, Int.reduceLE, fs_all, take_length_map, h1, h3, h19, h20, h21, b1, b3] <;> rfl) | rfl)
      · simp only [upd_apply, reduceIte, Nat.reduceEqDiff, b1]
      · simp only [upd_apply, reduceIte, Nat.reduceEqDiff, b3]
    refine awp_block ?_
    refine awp_seq fun K4811 hK4811 => ?_
    obtain ⟨x4812, q4813, h⟩ := bind_some h
    obtain ⟨q4813i, q4813e, q4813l⟩ := getO_some q4813
    refine awp_region rfl (by kernel_rfl) ?_
    first | refine rops_k ?_ | refine ropsD_k ?_
    repeat (refine rops_ng rfl fun K hK => ?_; simp only [go_sem, reduceIte, Nat.reduceEqDiff, reduceCtorEq, Nat.reduceAdd, Nat.reduceMul, Nat.reduceLT, Nat.reduceLeDiff, Int.reduceToNat, Int.reduceLE, h19, h21, b1, b3, q4813i, q4813e, q4813l]; refine hK _ ?_; clear hK K)
    first | refine rops_nil ?_ | refine ropsD_nil ?_
    try simp only [exs, reduceIte, Nat.reduceEqDiff]
    refine hK4811 _ ?_
    refine awp_seq fun K4814 hK4814 => ?_
    refine awp_region rfl (by kernel_rfl) ?_
    first | refine rops_k ?_ | refine ropsD_k ?_
    repeat (refine rops_ng rfl fun K hK => ?_; simp only [go_sem, reduceIte, Nat.reduceEqDiff, reduceCtorEq, Nat.reduceAdd, Nat.reduceMul, Nat.reduceLT, Nat.reduceLeDiff, Int.reduceToNat, Int.reduceLE, b1, b3, q4813i, q4813e, q4813l]; refine hK _ ?_; clear hK K)
    first | refine rops_nil ?_ | refine ropsD_nil ?_
    try simp only [exs, reduceIte, Nat.reduceEqDiff]
    refine hK4814 _ ?_
    refine awp_block ?_
    refine awp_loopK (fun m s4867 => ∃ (p4841 : Int) (p4842 : List Int), s4867.r 1 = .loc 1 (s4867.g 1) 0 0 0 ∧ s4867.r 3 = .view 3 (s4867.g 3) 0 p4842.length ∧ s4867.r 5 = .loc 5 (s4867.g 5) 0 0 0 ∧ s4867.r 19 = .val (.sl (List.map Nd.av a0.nodes)) ∧ s4867.r 20 = .val (.fl (.int .i64 (a0.nodes.length : Int))) ∧ s4867.r 21 = .val (.fl (.int .i64 p4545)) ∧ s4867.r 26 = .val (.sl (List.map intAV x4812.kids)) ∧ s4867.r 27 = .val (.fl (.int .i64 (x4812.kids.length : Int))) ∧ s4867.r 28 = .val (.fl (.int .i64 p4841)) ∧ s4867.b 1 = some (.cells [.val (.fl (.int .i64 a0.next)), .val (.sl (List.map Nd.av a0.nodes))]) ∧ s4867.b 3 = some (.arr 3 (List.map intAV p4842)) ∧ s4867.b 5 = some (.cells [.val (.fl (.int .i64 x4812.id)), .val (.fl (bs x4812.concept)), .val (.fl (.int .i64 x4812.parent)), .val (.fl (bs x4812.role)), .val (.sl (List.map Prp.av x4812.props)), .val (.sl (List.map intAV x4812.kids)), .val (.sl (List.map Rf.av x4812.refs))]) ∧  F28_L5 x4812 N a0 (F28_L4 a0 N n4721) p4545 m p4841 p4842 = some r) N ?_ ?_
    · refine ⟨0, p4546, ?_, ?_, ?_, ?_, ?_, ?_, ?_, ?_, ?_, ?_, ?_, ?_, h⟩
      · simp only [upd_apply, reduceIte, Nat.reduceEqDiff, h1]
      · (first | (simp only [upd_apply, reduceIte, Nat.reduceEqDiff, h3]; done) | (simp only [go_sem, reduceIte, Nat.reduceEqDiff, reduceCtorEq, Nat.reduceAdd, Nat.reduceMul, Nat.reduceLT, Nat.reduceLeDiff, Int.reduceToNat, Int.reduceLE, fs_all, take_length_map, h1, h3, h19, h20, h21, b1, b3, q4813i, q4813e, q4813l] <;> rfl) | rfl)
      · (first | (simp only [upd_apply, reduceIte, Nat.reduceEqDiff]; done) | (simp only [go_sem, reduceIte, Nat.reduceEqDiff, reduceCtorEq, Nat.reduceAdd, Nat.reduceMul, Nat.reduceLT, Nat.reduceLeDiff, Int.reduceToNat, Int.reduceLE, fs_all, take_length_map, h1, h3, h19, h20, h21, b1, b3, q4813i, q4813e, q4813l] <;> rfl) | rfl)
      · simp only [upd_apply, reduceIte, Nat.reduceEqDiff, h19]
      · simp only [upd_apply, reduceIte, Nat.reduceEqDiff, h20]
      · simp only [upd_apply, reduceIte, Nat.reduceEqDiff, h21]
      · (first | (simp only [upd_apply, reduceIte, Nat.reduceEqDiff]; done) | (simp only [go_sem, reduceIte, Nat.reduceEqDiff, reduceCtorEq, Nat.reduceAdd, Nat.reduceMul, Nat.reduceLT, Nat.reduceLeDiff, Int.reduceToNat, Int.reduceLE, fs_all, take_length_map, h1, h3, h19, h20, h21, b1, b3, q4813i, q4813e, q4813l] <;> rfl) | rfl)
      · (first | (simp only [upd_apply, reduceIte, Nat.reduceEqDiff]; done) | (simp only [go_sem, reduceIte, Nat.reduceEqDiff, reduceCtorEq, Nat.reduceAdd, Nat.reduceMul, Nat.reduceLT, Nat.reduceLeDiff, Int.reduceToNat, Int.reduceLE, fs_all, take_length_map, h1, h3, h19, h20, h21, b1, b3, q4813i, q4813e, q4813l] <;> rfl) | rfl)
      · (first | (simp only [upd_apply, reduceIte, Nat.reduceEqDiff]; done) | (simp only [go_sem, reduceIte, Nat.reduceEqDiff, reduceCtorEq, Nat.reduceAdd, Nat.reduceMul, Nat.reduceLT, Nat.reduceLeDiff, Int.reduceToNat, Int.reduceLE, fs_all, take_length_map, h1, h3, h19, h20, h21, b1, b3, q4813i, q4813e, q4813l] <;> rfl) | rfl)
      · simp only [upd_apply, reduceIte, Nat.reduceEqDiff, b1]
      · simp only [upd_apply, reduceIte, Nat.reduceEqDiff, b3]
      · (first | (simp only [upd_apply, reduceIte, Nat.reduceEqDiff]; done) | (simp only [go_sem, reduceIte, Nat.reduceEqDiff, reduceCtorEq, Nat.reduceAdd, Nat.reduceMul, Nat.reduceLT, Nat.reduceLeDiff, Int.reduceToNat, Int.reduceLE, fs_all, take_length_map, h1, h3, h19, h20, h21, b1, b3, q4813i, q4813e, q4813l] <;> rfl) | rfl)
    clear h
    intro m4869 s4867 hI K4815 hK4815
    obtain ⟨p4841, p4842, h1, h3, h5, h19, h20, h21, h26, h27, h28, b1, b3, b5, h⟩ := hI
    rcases m4869 with _ | n4868
    · simp only [F28_L5, reduceCtorEq] at h
    rw [F28_L5] at h
    refine awp_seq fun K4870 hK4870 => ?_
    refine awp_region rfl (by kernel_rfl) ?_
    first | refine rops_k ?_ | refine ropsD_k ?_
    repeat (refine rops_ng rfl fun K hK => ?_; simp only [go_sem, reduceIte, Nat.reduceEqDiff, reduceCtorEq, Nat.reduceAdd, Nat.reduceMul, Nat.reduceLT, Nat.reduceLeDiff, Int.reduceToNat, Int.reduceLE, h27, h28, b1, b3, b5]; refine hK _ ?_; clear hK K)
    first | refine rops_nil ?_ | refine ropsD_nil ?_
    try simp only [exs, reduceIte, Nat.reduceEqDiff]
    refine hK4870 _ ?_
    refine awp_seq fun K4871 hK4871 => ?_
    refine awp_if (by kernel_rfl) (by (simp only [upd_apply, reduceIte, Nat.reduceEqDiff, St.ev, constReg, constCell, St.put_some, St.put_none, h1, h3, h5, h19, h20, h21, h26, h27, h28, b1, b3, b5] <;> rfl)) (fun hc => ?_) (fun hc => ?_)
    · have c4872 : (decide (p4841 < (x4812.kids.length : Int))) = true := by first | exact hc | simpa using hc
      clear hc
      rw [c4872] at h
      simp only [cond_true, cond_false] at h
      refine awp_skip ?_
      try simp only [exs, reduceIte, Nat.reduceEqDiff]
      refine hK4871 _ ?_
      refine awp_seq fun K4873 hK4873 => ?_
      refine awp_block ?_
      refine awp_seq fun K4874 hK4874 => ?_
      obtain ⟨x4875, q4876, h⟩ := bind_some h
      obtain ⟨q4876i, q4876e, q4876l⟩ := getO_some q4876
      refine awp_region rfl (by kernel_rfl) ?_
      first | refine rops_k ?_ | refine ropsD_k ?_
      repeat (refine rops_ng rfl fun K hK => ?_; simp only [go_sem, reduceIte, Nat.reduceEqDiff, reduceCtorEq, Nat.reduceAdd, Nat.reduceMul, Nat.reduceLT, Nat.reduceLeDiff, Int.reduceToNat, Int.reduceLE, h26, h28, b1, b3, b5, q4876i, q4876e, q4876l]; refine hK _ ?_; clear hK K)
      first | refine rops_nil ?_ | refine ropsD_nil ?_
      try simp only [exs, reduceIte, Nat.reduceEqDiff]
      refine hK4874 _ ?_
      refine awp_seq fun K4877 hK4877 => ?_
      obtain ⟨x4878, q4879, h⟩ := bind_some h
      refine awp_region rfl (by kernel_rfl) ?_
      first | refine rops_k ?_ | refine ropsD_k ?_
      repeat (refine rops_ng rfl fun K hK => ?_; simp only [go_sem, reduceIte, Nat.reduceEqDiff, reduceCtorEq, Nat.reduceAdd, Nat.reduceMul, Nat.reduceLT, Nat.reduceLeDiff, Int.reduceToNat, Int.reduceLE, h1, b1, b3, b5, q4876i, q4876e, q4876l]; refine hK _ ?_; clear hK K)
      refine rops_ng rfl fun K hK => ?_
      simp only [List.head?_cons, List.head?_nil, Option.map_some, Option.map_none, rops1, ropsD1, gtmp, gate, beq_self_eq_true, beq_t, beq_f, Bool.not_true, Bool.not_false, if_true, rOp, rOpD, calleeOf, regAVsOf, regAV, List.getElem?_toArray, List.getElem?_cons_zero, List.getElem?_cons_succ, Option.bind_some, upd_apply, reduceIte, Nat.reduceEqDiff, St.ev, constReg, constCell, St.put_some, St.put_none, h1, h3, h5, h19, h20, h21, h26, h27, h28, b1, b3, b5, q4876i, q4876e, q4876l]
      refine .inl ⟨_, _, rfl, _, rfl, _, (F23_does _ N a0 x4875  _ q4879), ?_⟩
      simp only [flRV, outK, St.take, St.takeRVs, St.takeRV, retReg, St.put_some, St.put_none, List.map_cons, List.map_nil]
      refine hK _ ?_; clear hK K
      repeat (refine rops_ng rfl fun K hK => ?_; simp only [go_sem, reduceIte, Nat.reduceEqDiff, reduceCtorEq, Nat.reduceAdd, Nat.reduceMul, Nat.reduceLT, Nat.reduceLeDiff, Int.reduceToNat, Int.reduceLE, h1, b1, b3, b5, q4876i, q4876e, q4876l]; refine hK _ ?_; clear hK K)
      first | refine rops_nil ?_ | refine ropsD_nil ?_
      try simp only [exs, reduceIte, Nat.reduceEqDiff]
      refine hK4877 _ ?_
      refine awp_seq fun K4880 hK4880 => ?_
      refine awp_seq fun K4881 hK4881 => ?_
      obtain ⟨x4882, q4883, h⟩ := bindG_some h
      refine awp_draw (by kernel_rfl) rfl (by kernel_rfl) (by kernel_rfl) ?_
      have R4885 : ∀ s4884 : St, (s4884.r 1 = .loc 1 (s4884.g 1) 0 0 0) → (s4884.r 3 = .view 3 (s4884.g 3) 0 p4842.length) → (s4884.r 5 = .loc 5 (s4884.g 5) 0 0 0) → (s4884.r 8 = .val (.fl (.int .i64 x4878))) → (s4884.r 19 = .val (.sl (List.map Nd.av a0.nodes))) → (s4884.r 20 = .val (.fl (.int .i64 (a0.nodes.length : Int)))) → (s4884.r 21 = .val (.fl (.int .i64 p4545))) → (s4884.r 26 = .val (.sl (List.map intAV x4812.kids))) → (s4884.r 27 = .val (.fl (.int .i64 (x4812.kids.length : Int)))) → (s4884.r 28 = .val (.fl (.int .i64 p4841))) → (s4884.r 47 = .val (.fl (.bool ((decide (x4878 < 0)) || (!(x4882.parent == x4812.id)))))) → (s4884.b 1 = some (.cells [.val (.fl (.int .i64 a0.next)), .val (.sl (List.map Nd.av a0.nodes))])) → (s4884.b 3 = some (.arr 3 (List.map intAV p4842))) → (s4884.b 5 = some (.cells [.val (.fl (.int .i64 x4812.id)), .val (.fl (bs x4812.concept)), .val (.fl (.int .i64 x4812.parent)), .val (.fl (bs x4812.role)), .val (.sl (List.map Prp.av x4812.props)), .val (.sl (List.map intAV x4812.kids)), .val (.sl (List.map Rf.av x4812.refs))])) → K4881 s4884 := by
        intro s4884 h1 h3 h5 h8 h19 h20 h21 h26 h27 h28 h47 b1 b3 b5
        refine hK4881 _ ?_
        refine awp_if (by kernel_rfl) (by (simp only [upd_apply, reduceIte, Nat.reduceEqDiff, St.ev, constReg, constCell, St.put_some, St.put_none, h1, h3, h5, h8, h19, h20, h21, h26, h27, h28, h47, b1, b3, b5, q4876i, q4876e, q4876l] <;> rfl)) (fun hc => ?_) (fun hc => ?_)
        · have c4886 : ((decide (x4878 < 0)) || (!(x4882.parent == x4812.id))) = true := by first | exact hc | simpa using hc
          clear hc
          rw [c4886] at h
          simp only [cond_true, cond_false] at h
          refine awp_seq fun K4887 hK4887 => ?_
          refine awp_region rfl (by kernel_rfl) ?_
          first | refine rops_k ?_ | refine ropsD_k ?_
          repeat (refine rops_ng rfl fun K hK => ?_; simp only [go_sem, reduceIte, Nat.reduceEqDiff, reduceCtorEq, Nat.reduceAdd, Nat.reduceMul, Nat.reduceLT, Nat.reduceLeDiff, Int.reduceToNat, Int.reduceLE, b1, b3, b5]; refine hK _ ?_; clear hK K)
          first | refine rops_nil ?_ | refine ropsD_nil ?_
          try simp only [exs, reduceIte, Nat.reduceEqDiff]
          refine hK4887 _ ?_
          have h := Option.some.inj h
          subst h
          refine awp_ret ?_
          try simp only [exs, reduceIte, Nat.reduceEqDiff]
          refine fin_ret (vs := [.tmp 2]) Try.ntmps28 rfl (by simp [List.filter_cons, isOwn]) none ?_
          (simp only [resultsAre, resCell, loadRegs, regRV, go_sem, reduceIte, Nat.reduceEqDiff, reduceCtorEq, Nat.reduceAdd, Nat.reduceMul, Nat.reduceLT, Nat.reduceLeDiff, Int.reduceToNat, Int.reduceLE, fs_all, take_length_map, h1, h3, h5, h8, h19, h20, h21, h26, h27, h28, h47, b1, b3, b5, q4876i, q4876e, q4876l] <;> rfl)
        have c4886 : ((decide (x4878 < 0)) || (!(x4882.parent == x4812.id))) = false := by first | exact hc | simpa using hc
        clear hc
        rw [c4886] at h
        simp only [cond_true, cond_false] at h
        refine awp_skip ?_
        try simp only [exs, reduceIte, Nat.reduceEqDiff]
        refine hK4880 _ ?_
        obtain ⟨x4888, q4889, h⟩ := bind_some h
        obtain ⟨q4889i, q4889e, q4889l⟩ := getO_some q4889
        refine awp_region rfl (by kernel_rfl) ?_
        first | refine rops_k ?_ | refine ropsD_k ?_
        repeat (refine rops_ng rfl fun K hK => ?_; simp only [go_sem, reduceIte, Nat.reduceEqDiff, reduceCtorEq, Nat.reduceAdd, Nat.reduceMul, Nat.reduceLT, Nat.reduceLeDiff, Int.reduceToNat, Int.reduceLE, h3, h8, b1, b3, b5, q4876i, q4876e, q4876l, q4889i, q4889e, q4889l]; refine hK _ ?_; clear hK K)
        first | refine rops_nil ?_ | refine ropsD_nil ?_
        try simp only [exs, reduceIte, Nat.reduceEqDiff]
        refine hK4873 _ ?_
        refine awp_region rfl (by kernel_rfl) ?_
        first | refine rops_k ?_ | refine ropsD_k ?_
        repeat (refine rops_ng rfl fun K hK => ?_; simp only [go_sem, reduceIte, Nat.reduceEqDiff, reduceCtorEq, Nat.reduceAdd, Nat.reduceMul, Nat.reduceLT, Nat.reduceLeDiff, Int.reduceToNat, Int.reduceLE, h28, b1, b3, b5, q4876i, q4876e, q4876l, q4889i, q4889e, q4889l]; refine hK _ ?_; clear hK K)
        first | refine rops_nil ?_ | refine ropsD_nil ?_
        try simp only [exs, reduceIte, Nat.reduceEqDiff]
        refine hK4815 _ ⟨n4868, Nat.lt_succ_self _, (IntKind.i64.wrap (p4841 + 1)), (p4842.set x4878.toNat (IntKind.i64.wrap (x4888 + 1))), ?_, ?_, ?_, ?_, ?_, ?_, ?_, ?_, ?_, ?_, ?_, ?_, h⟩
        · simp only [upd_apply, reduceIte, Nat.reduceEqDiff, h1]
        · (first | (simp only [upd_apply, reduceIte, Nat.reduceEqDiff, h3]; done) | (simp only [go_sem, reduceIte, Nat.reduceEqDiff, reduceCtorEq, Nat.reduceAdd, Nat.reduceMul, Nat.reduceLT, Nat.reduceLeDiff, Int.reduceToNat, Int.reduceLE, fs_all, take_length_map, h1, h3, h5, h8, h19, h20, h21, h26, h27, h28, h47, b1, b3, b5, q4876i, q4876e, q4876l, q4889i, q4889e, q4889l] <;> rfl) | rfl)
        · simp only [upd_apply, reduceIte, Nat.reduceEqDiff, h5]
        · simp only [upd_apply, reduceIte, Nat.reduceEqDiff, h19]
        · simp only [upd_apply, reduceIte, Nat.reduceEqDiff, h20]
        · simp only [upd_apply, reduceIte, Nat.reduceEqDiff, h21]
        · simp only [upd_apply, reduceIte, Nat.reduceEqDiff, h26]
        · simp only [upd_apply, reduceIte, Nat.reduceEqDiff, h27]
        · (first | (simp only [upd_apply, reduceIte, Nat.reduceEqDiff, h28]; done) | (simp only [go_sem, reduceIte, Nat.reduceEqDiff, reduceCtorEq, Nat.reduceAdd, Nat.reduceMul, Nat.reduceLT, Nat.reduceLeDiff, Int.reduceToNat, Int.reduceLE, fs_all, take_length_map, h1, h3, h5, h8, h19, h20, h21, h26, h27, h28, h47, b1, b3, b5, q4876i, q4876e, q4876l, q4889i, q4889e, q4889l] <;> rfl) | rfl)
        · simp only [upd_apply, reduceIte, Nat.reduceEqDiff, b1]
        · (first | (simp only [upd_apply, reduceIte, Nat.reduceEqDiff, b3]; done) | (simp only [go_sem, reduceIte, Nat.reduceEqDiff, reduceCtorEq, Nat.reduceAdd, Nat.reduceMul, Nat.reduceLT, Nat.reduceLeDiff, Int.reduceToNat, Int.reduceLE, fs_all, take_length_map, h1, h3, h5, h8, h19, h20, h21, h26, h27, h28, h47, b1, b3, b5, q4876i, q4876e, q4876l, q4889i, q4889e, q4889l] <;> rfl) | rfl)
        · simp only [upd_apply, reduceIte, Nat.reduceEqDiff, b5]
      first | refine rops_k ?_ | refine ropsD_k ?_
      repeat (refine ropsD_ng rfl fun K hK => ?_; simp only [go_sem, reduceIte, Nat.reduceEqDiff, reduceCtorEq, Nat.reduceAdd, Nat.reduceMul, Nat.reduceLT, Nat.reduceLeDiff, Int.reduceToNat, Int.reduceLE, h1, h5, b1, b3, b5, q4876i, q4876e, q4876l]; refine hK _ ?_; clear hK K)
      rcases c4890 : (decide (x4878 < 0)) with _ | _
      · have q4891 := q4883 (by simp only [c4890, fs_bool, beq_t, beq_f, beq_self_eq_true])
        obtain ⟨q4891i, q4891e, q4891l⟩ := getO_some q4891
        repeat (first | (refine ropsD_ng rfl fun K hK => ?_; simp only [go_sem, reduceIte, Nat.reduceEqDiff, reduceCtorEq, Nat.reduceAdd, Nat.reduceMul, Nat.reduceLT, Nat.reduceLeDiff, Int.reduceToNat, Int.reduceLE, h1, h5, b1, b3, b5, q4876i, q4876e, q4876l, q4891i, q4891e, q4891l, c4890]; refine hK _ ?_; clear hK K) | (refine ropsD_on rfl rfl ?_ fun K hK => ?_; (focus (simp only [go_sem, reduceIte, Nat.reduceEqDiff, reduceCtorEq, Nat.reduceAdd, Nat.reduceMul, Nat.reduceLT, Nat.reduceLeDiff, Int.reduceToNat, Int.reduceLE, h1, h5, b1, b3, b5, q4876i, q4876e, q4876l, q4891i, q4891e, q4891l, c4890]; done)); simp only [go_sem, reduceIte, Nat.reduceEqDiff, reduceCtorEq, Nat.reduceAdd, Nat.reduceMul, Nat.reduceLT, Nat.reduceLeDiff, Int.reduceToNat, Int.reduceLE, h1, h5, b1, b3, b5, q4876i, q4876e, q4876l, q4891i, q4891e, q4891l, c4890]; refine hK _ ?_; clear hK K) | (refine ropsD_off rfl rfl ?_ ?_; (focus (simp only [go_sem, reduceIte, Nat.reduceEqDiff, reduceCtorEq, Nat.reduceAdd, Nat.reduceMul, Nat.reduceLT, Nat.reduceLeDiff, Int.reduceToNat, Int.reduceLE, h1, h5, b1, b3, b5, q4876i, q4876e, q4876l, q4891i, q4891e, q4891l, c4890]; done))))
        first | refine rops_nil ?_ | refine ropsD_nil ?_
        try simp only [exs, reduceIte, Nat.reduceEqDiff]
        refine R4885 _ ?_ ?_ ?_ ?_ ?_ ?_ ?_ ?_ ?_ ?_ ?_ ?_ ?_ ?_
        · simp only [upd_apply, reduceIte, Nat.reduceEqDiff, h1]
        · (first | (simp only [upd_apply, reduceIte, Nat.reduceEqDiff, h3]; done) | (simp only [go_sem, reduceIte, Nat.reduceEqDiff, reduceCtorEq, Nat.reduceAdd, Nat.reduceMul, Nat.reduceLT, Nat.reduceLeDiff, Int.reduceToNat, Int.reduceLE, fs_all, take_length_map, h1, h3, h5, h19, h20, h21, h26, h27, h28, b1, b3, b5, q4876i, q4876e, q4876l, q4891i, q4891e, q4891l, c4890] <;> rfl) | rfl)
        · simp only [upd_apply, reduceIte, Nat.reduceEqDiff, h5]
        · (first | (simp only [upd_apply, reduceIte, Nat.reduceEqDiff]; done) | (simp only [go_sem, reduceIte, Nat.reduceEqDiff, reduceCtorEq, Nat.reduceAdd, Nat.reduceMul, Nat.reduceLT, Nat.reduceLeDiff, Int.reduceToNat, Int.reduceLE, fs_all, take_length_map, h1, h3, h5, h19, h20, h21, h26, h27, h28, b1, b3, b5, q4876i, q4876e, q4876l, q4891i, q4891e, q4891l, c4890] <;> rfl) | rfl)
        · simp only [upd_apply, reduceIte, Nat.reduceEqDiff, h19]
        · simp only [upd_apply, reduceIte, Nat.reduceEqDiff, h20]
        · simp only [upd_apply, reduceIte, Nat.reduceEqDiff, h21]
        · simp only [upd_apply, reduceIte, Nat.reduceEqDiff, h26]
        · simp only [upd_apply, reduceIte, Nat.reduceEqDiff, h27]
        · simp only [upd_apply, reduceIte, Nat.reduceEqDiff, h28]
        · (first | (simp only [upd_apply, reduceIte, Nat.reduceEqDiff]; done) | (simp only [go_sem, reduceIte, Nat.reduceEqDiff, reduceCtorEq, Nat.reduceAdd, Nat.reduceMul, Nat.reduceLT, Nat.reduceLeDiff, Int.reduceToNat, Int.reduceLE, fs_all, take_length_map, h1, h3, h5, h19, h20, h21, h26, h27, h28, b1, b3, b5, q4876i, q4876e, q4876l, q4891i, q4891e, q4891l, c4890] <;> rfl) | rfl)
        · simp only [upd_apply, reduceIte, Nat.reduceEqDiff, b1]
        · simp only [upd_apply, reduceIte, Nat.reduceEqDiff, b3]
        · simp only [upd_apply, reduceIte, Nat.reduceEqDiff, b5]
      repeat (first | (refine ropsD_ng rfl fun K hK => ?_; simp only [go_sem, reduceIte, Nat.reduceEqDiff, reduceCtorEq, Nat.reduceAdd, Nat.reduceMul, Nat.reduceLT, Nat.reduceLeDiff, Int.reduceToNat, Int.reduceLE, h1, h5, b1, b3, b5, q4876i, q4876e, q4876l, c4890]; refine hK _ ?_; clear hK K) | (refine ropsD_on rfl rfl ?_ fun K hK => ?_; (focus (simp only [go_sem, reduceIte, Nat.reduceEqDiff, reduceCtorEq, Nat.reduceAdd, Nat.reduceMul, Nat.reduceLT, Nat.reduceLeDiff, Int.reduceToNat, Int.reduceLE, h1, h5, b1, b3, b5, q4876i, q4876e, q4876l, c4890]; done)); simp only [go_sem, reduceIte, Nat.reduceEqDiff, reduceCtorEq, Nat.reduceAdd, Nat.reduceMul, Nat.reduceLT, Nat.reduceLeDiff, Int.reduceToNat, Int.reduceLE, h1, h5, b1, b3, b5, q4876i, q4876e, q4876l, c4890]; refine hK _ ?_; clear hK K) | (refine ropsD_off rfl rfl ?_ ?_; (focus (simp only [go_sem, reduceIte, Nat.reduceEqDiff, reduceCtorEq, Nat.reduceAdd, Nat.reduceMul, Nat.reduceLT, Nat.reduceLeDiff, Int.reduceToNat, Int.reduceLE, h1, h5, b1, b3, b5, q4876i, q4876e, q4876l, c4890]; done))))
      first | refine rops_nil ?_ | refine ropsD_nil ?_
      try simp only [exs, reduceIte, Nat.reduceEqDiff]
      refine R4885 _ ?_ ?_ ?_ ?_ ?_ ?_ ?_ ?_ ?_ ?_ ?_ ?_ ?_ ?_
      · simp only [upd_apply, reduceIte, Nat.reduceEqDiff, h1]
      · (first | (simp only [upd_apply, reduceIte, Nat.reduceEqDiff, h3]; done) | (simp only [go_sem, reduceIte, Nat.reduceEqDiff, reduceCtorEq, Nat.reduceAdd, Nat.reduceMul, Nat.reduceLT, Nat.reduceLeDiff, Int.reduceToNat, Int.reduceLE, fs_all, take_length_map, h1, h3, h5, h19, h20, h21, h26, h27, h28, b1, b3, b5, q4876i, q4876e, q4876l, c4890] <;> rfl) | rfl)
      · simp only [upd_apply, reduceIte, Nat.reduceEqDiff, h5]
      · (first | (simp only [upd_apply, reduceIte, Nat.reduceEqDiff]; done) | (simp only [go_sem, reduceIte, Nat.reduceEqDiff, reduceCtorEq, Nat.reduceAdd, Nat.reduceMul, Nat.reduceLT, Nat.reduceLeDiff, Int.reduceToNat, Int.reduceLE, fs_all, take_length_map, h1, h3, h5, h19, h20, h21, h26, h27, h28, b1, b3, b5, q4876i, q4876e, q4876l, c4890] <;> rfl) | rfl)
      · simp only [upd_apply, reduceIte, Nat.reduceEqDiff, h19]
      · simp only [upd_apply, reduceIte, Nat.reduceEqDiff, h20]
      · simp only [upd_apply, reduceIte, Nat.reduceEqDiff, h21]
      · simp only [upd_apply, reduceIte, Nat.reduceEqDiff, h26]
      · simp only [upd_apply, reduceIte, Nat.reduceEqDiff, h27]
      · simp only [upd_apply, reduceIte, Nat.reduceEqDiff, h28]
      · (first | (simp only [upd_apply, reduceIte, Nat.reduceEqDiff]; done) | (simp only [go_sem, reduceIte, Nat.reduceEqDiff, reduceCtorEq, Nat.reduceAdd, Nat.reduceMul, Nat.reduceLT, Nat.reduceLeDiff, Int.reduceToNat, Int.reduceLE, fs_all, take_length_map, h1, h3, h5, h19, h20, h21, h26, h27, h28, b1, b3, b5, q4876i, q4876e, q4876l, c4890] <;> rfl) | rfl)
      · simp only [upd_apply, reduceIte, Nat.reduceEqDiff, b1]
      · simp only [upd_apply, reduceIte, Nat.reduceEqDiff, b3]
      · simp only [upd_apply, reduceIte, Nat.reduceEqDiff, b5]
    have c4872 : (decide (p4841 < (x4812.kids.length : Int))) = false := by first | exact hc | simpa using hc
    clear hc
    rw [c4872] at h
    simp only [cond_true, cond_false] at h
    refine awp_exit ?_
    try simp only [exs, reduceIte, Nat.reduceEqDiff]
    refine J6 p4842 _ ?_ ?_ ?_ ?_ ?_ ?_ ?_ h
    · simp only [upd_apply, reduceIte, Nat.reduceEqDiff, h1]
    · (first | (simp only [upd_apply, reduceIte, Nat.reduceEqDiff, h3]; done) | (simp only [go_sem, reduceIte, Nat.reduceEqDiff, reduceCtorEq, Nat.reduceAdd, Nat.reduceMul, Nat.reduceLT, Nat.reduceLeDiff, Int.reduceToNat, Int.reduceLE, fs_all, take_length_map, h1, h3, h5, h19, h20, h21, h26, h27, h28, b1, b3, b5] <;> rfl) | rfl)
    · simp only [upd_apply, reduceIte, Nat.reduceEqDiff, h19]
    · simp only [upd_apply, reduceIte, Nat.reduceEqDiff, h20]
    · simp only [upd_apply, reduceIte, Nat.reduceEqDiff, h21]
    · simp only [upd_apply, reduceIte, Nat.reduceEqDiff, b1]
    · simp only [upd_apply, reduceIte, Nat.reduceEqDiff, b3]
  have c4725 : (decide (p4545 < (a0.nodes.length : Int))) = false := by first | exact hc | simpa using hc
  clear hc
  rw [c4725] at h
  simp only [cond_true, cond_false] at h
  refine awp_exit ?_
  try simp only [exs, reduceIte, Nat.reduceEqDiff]
  refine J5 p4546 _ ?_ ?_ ?_ ?_ h
  · simp only [upd_apply, reduceIte, Nat.reduceEqDiff, h1]
  · (first | (simp only [upd_apply, reduceIte, Nat.reduceEqDiff, h3]; done) | (simp only [go_sem, reduceIte, Nat.reduceEqDiff, reduceCtorEq, Nat.reduceAdd, Nat.reduceMul, Nat.reduceLT, Nat.reduceLeDiff, Int.reduceToNat, Int.reduceLE, fs_all, take_length_map, h1, h3, h19, h20, h21, b1, b3] <;> rfl) | rfl)
  · simp only [upd_apply, reduceIte, Nat.reduceEqDiff, b1]
  · simp only [upd_apply, reduceIte, Nat.reduceEqDiff, b3]

end Go.Proofs.Mm
