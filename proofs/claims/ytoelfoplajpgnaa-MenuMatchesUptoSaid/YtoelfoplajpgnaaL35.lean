import Derived.Test.YtoelfoplajpgnaaEvLift
import Derived.Test.YtoelfoplajpgnaaMmF
import Derived.Test.YtoelfoplajpgnaaLS1
set_option linter.unusedVariables false
set_option linter.unusedSimpArgs false
set_option linter.unusedSectionVars false

namespace Go.Proofs.Mm
open Go Go.Ev

-- topiary/arena.Word
def F35_J1  : Option (Bool) :=
  some true

def F35_L1 (x149 : Str) (N : Nat) : Nat → Int → Option (Bool)
  | 0, _ => none
  | n268 + 1, p248 =>
    bif decide (p248 < ((x149.map (fun c => (c.toNat : Int))).length : Int)) then
      (getO (x149.map (fun c => (c.toNat : Int))) p248).bind fun x275 =>
      (F38 N x275).bind fun x278 =>
      bif ((!x278) && ((decide (x275 < 48)) || (decide (x275 > 57)))) && (!(x275 == 95)) then
        some false
      else
        (F35_L1 x149 N n268) (IntKind.i64.wrap (p248 + 1))
    else
      F35_J1 

def F35 (N : Nat) (a0 : Str) : Option (Bool) :=
  (F37 N a0 [63]).bind fun x149 =>
  bindG (!((x149 == []) || (decide ((x149.length : Int) > 32)))) (getO x149 0) fun x153 =>
  bindG (!((x149 == []) || (decide ((x149.length : Int) > 32)))) (F38 N (x153.toNat : Int)) fun x154 =>
  bif ((x149 == []) || (decide ((x149.length : Int) > 32))) || (!x154) then
    some false
  else
    (chk (decide (x149.length ≤ maxLen))).bind fun _ =>
    F35_L1 x149 N N 0

set_option maxHeartbeats 4000000 in
theorem F35_does (E : Env) (N : Nat) (a0 : Str) (r : Bool) (h : F35 N a0 = some r) : Does Try.prog E 35 [.fl (bs a0)] (.ret [.v (.fl (.bool r))]) := by
  refine does_run Try.func35 Try.ntmps35 rfl rfl (by simp) fun w0 I0 s hr hb => ?_
  have h0 := hr 0
  simp only [List.map_cons, List.map_nil, List.getElem?_cons_zero, List.getElem?_cons_succ, Option.getD_some] at h0
  unfold F35 at h
  refine awp_seq fun K147 hK147 => ?_
  refine awp_region rfl (by kernel_rfl) ?_
  first | refine rops_k ?_ | refine ropsD_k ?_
  repeat (refine rops_ng rfl fun K hK => ?_; simp only [go_sem, reduceIte, Nat.reduceEqDiff, reduceCtorEq, Nat.reduceAdd, Nat.reduceMul, Nat.reduceLT, Nat.reduceLeDiff, Int.reduceToNat, Int.reduceLE]; refine hK _ ?_; clear hK K)
  first | refine rops_nil ?_ | refine ropsD_nil ?_
  try simp only [exs, reduceIte, Nat.reduceEqDiff]
  refine hK147 _ ?_
  refine awp_seq fun K148 hK148 => ?_
  obtain ⟨x149, q150, h⟩ := bind_some h
  refine awp_region rfl (by kernel_rfl) ?_
  first | refine rops_k ?_ | refine ropsD_k ?_
  repeat (refine rops_ng rfl fun K hK => ?_; simp only [go_sem, reduceIte, Nat.reduceEqDiff, reduceCtorEq, Nat.reduceAdd, Nat.reduceMul, Nat.reduceLT, Nat.reduceLeDiff, Int.reduceToNat, Int.reduceLE, h0]; refine hK _ ?_; clear hK K)
  refine rops_ng rfl fun K hK => ?_
  simp only [List.head?_cons, List.head?_nil, Option.map_some, Option.map_none, rops1, ropsD1, gtmp, gate, beq_self_eq_true, beq_t, beq_f, Bool.not_true, Bool.not_false, if_true, rOp, rOpD, calleeOf, regAVsOf, regAV, List.getElem?_toArray, List.getElem?_cons_zero, List.getElem?_cons_succ, Option.bind_some, upd_apply, reduceIte, Nat.reduceEqDiff, St.ev, constReg, constCell, St.put_some, St.put_none, h0]
  refine .inl ⟨_, _, rfl, _, rfl, _, (F37_does _ N a0 [63]  _ q150), ?_⟩
  simp only [flRV, outK, St.take, St.takeRVs, St.takeRV, retReg, St.put_some, St.put_none, List.map_cons, List.map_nil]
  refine hK _ ?_; clear hK K
  repeat (refine rops_ng rfl fun K hK => ?_; simp only [go_sem, reduceIte, Nat.reduceEqDiff, reduceCtorEq, Nat.reduceAdd, Nat.reduceMul, Nat.reduceLT, Nat.reduceLeDiff, Int.reduceToNat, Int.reduceLE, h0]; refine hK _ ?_; clear hK K)
  first | refine rops_nil ?_ | refine ropsD_nil ?_
  try simp only [exs, reduceIte, Nat.reduceEqDiff]
  refine hK148 _ ?_
  refine awp_seq fun K151 hK151 => ?_
  refine awp_seq fun K152 hK152 => ?_
  obtain ⟨x153, q155, h⟩ := bindG_some h
  obtain ⟨x154, q156, h⟩ := bindG_some h
  refine awp_region rfl (by kernel_rfl) ?_
  have R158 : ∀ s157 : St, (s157.r 0 = .val (.fl (bs x149))) → (s157.r 19 = .val (.fl (.bool (((x149 == []) || (decide ((x149.length : Int) > 32))) || (!x154))))) → K152 s157 := by
    intro s157 h0 h19
    refine hK152 _ ?_
    refine awp_if (by kernel_rfl) (by (simp only [upd_apply, reduceIte, Nat.reduceEqDiff, St.ev, constReg, constCell, St.put_some, St.put_none, h0, h19] <;> rfl)) (fun hc => ?_) (fun hc => ?_)
    · have c159 : (((x149 == []) || (decide ((x149.length : Int) > 32))) || (!x154)) = true := by first | exact hc | simpa using hc
      clear hc
      rw [c159] at h
      simp only [cond_true, cond_false] at h
      refine awp_seq fun K160 hK160 => ?_
      refine awp_region rfl (by kernel_rfl) ?_
      first | refine rops_k ?_ | refine ropsD_k ?_
      repeat (refine rops_ng rfl fun K hK => ?_; simp only [go_sem, reduceIte, Nat.reduceEqDiff, reduceCtorEq, Nat.reduceAdd, Nat.reduceMul, Nat.reduceLT, Nat.reduceLeDiff, Int.reduceToNat, Int.reduceLE]; refine hK _ ?_; clear hK K)
      first | refine rops_nil ?_ | refine ropsD_nil ?_
      try simp only [exs, reduceIte, Nat.reduceEqDiff]
      refine hK160 _ ?_
      have h := Option.some.inj h
      subst h
      refine awp_ret ?_
      try simp only [exs, reduceIte, Nat.reduceEqDiff]
      refine fin_ret (vs := [.tmp 2]) Try.ntmps35 rfl (by simp [List.filter_cons, isOwn]) none ?_
      (simp only [resultsAre, resCell, loadRegs, regRV, go_sem, reduceIte, Nat.reduceEqDiff, reduceCtorEq, Nat.reduceAdd, Nat.reduceMul, Nat.reduceLT, Nat.reduceLeDiff, Int.reduceToNat, Int.reduceLE, fs_all, take_length_map, h0, h19] <;> rfl)
    have c159 : (((x149 == []) || (decide ((x149.length : Int) > 32))) || (!x154)) = false := by first | exact hc | simpa using hc
    clear hc
    rw [c159] at h
    simp only [cond_true, cond_false] at h
    refine awp_skip ?_
    try simp only [exs, reduceIte, Nat.reduceEqDiff]
    refine hK151 _ ?_
    refine awp_seq fun K161 hK161 => ?_
    have J1 : ∀  (s224 : St), True → F35_J1  = some r → K161 s224 := by
      intro  s224 _ h
      unfold F35_J1 at h
      refine hK161 _ ?_
      refine awp_seq fun K225 hK225 => ?_
      refine awp_region rfl (by kernel_rfl) ?_
      first | refine rops_k ?_ | refine ropsD_k ?_
      repeat (refine rops_ng rfl fun K hK => ?_; simp only [go_sem, reduceIte, Nat.reduceEqDiff, reduceCtorEq, Nat.reduceAdd, Nat.reduceMul, Nat.reduceLT, Nat.reduceLeDiff, Int.reduceToNat, Int.reduceLE]; refine hK _ ?_; clear hK K)
      first | refine rops_nil ?_ | refine ropsD_nil ?_
      try simp only [exs, reduceIte, Nat.reduceEqDiff]
      refine hK225 _ ?_
      have h := Option.some.inj h
      subst h
      refine awp_ret ?_
      try simp only [exs, reduceIte, Nat.reduceEqDiff]
      refine fin_ret (vs := [.tmp 2]) Try.ntmps35 rfl (by simp [List.filter_cons, isOwn]) none ?_
      (simp only [resultsAre, resCell, loadRegs, regRV, go_sem, reduceIte, Nat.reduceEqDiff, reduceCtorEq, Nat.reduceAdd, Nat.reduceMul, Nat.reduceLT, Nat.reduceLeDiff, Int.reduceToNat, Int.reduceLE, fs_all, take_length_map] <;> rfl)
    refine awp_seq fun K226 hK226 => ?_
    obtain ⟨_, q227, h⟩ := bind_some h
    have q227a := chk_some q227
    simp only [decide_eq_true_eq] at q227a
    refine awp_region rfl (by kernel_rfl) ?_
    first | refine rops_k ?_ | refine ropsD_k ?_
    repeat (refine rops_ng rfl fun K hK => ?_; simp only [go_sem, reduceIte, Nat.reduceEqDiff, reduceCtorEq, Nat.reduceAdd, Nat.reduceMul, Nat.reduceLT, Nat.reduceLeDiff, Int.reduceToNat, Int.reduceLE, h0, q227a]; refine hK _ ?_; clear hK K)
    first | refine rops_nil ?_ | refine ropsD_nil ?_
    try simp only [exs, reduceIte, Nat.reduceEqDiff]
    refine hK226 _ ?_
    refine awp_block ?_
    refine awp_loopK (fun m s267 => ∃ (p248 : Int), s267.r 21 = .val (.sl (List.map byteAV (x149.map (fun c => (c.toNat : Int))))) ∧ s267.r 22 = .val (.fl (.int .i64 ((x149.map (fun c => (c.toNat : Int))).length : Int))) ∧ s267.r 23 = .val (.fl (.int .i64 p248)) ∧  F35_L1 x149 N m p248 = some r) N ?_ ?_
    · refine ⟨0, ?_, ?_, ?_, h⟩
      · (first | (simp only [upd_apply, reduceIte, Nat.reduceEqDiff]; done) | (simp only [go_sem, reduceIte, Nat.reduceEqDiff, reduceCtorEq, Nat.reduceAdd, Nat.reduceMul, Nat.reduceLT, Nat.reduceLeDiff, Int.reduceToNat, Int.reduceLE, fs_all, take_length_map, h0, h19, q227a] <;> rfl) | rfl)
      · (first | (simp only [upd_apply, reduceIte, Nat.reduceEqDiff]; done) | (simp only [go_sem, reduceIte, Nat.reduceEqDiff, reduceCtorEq, Nat.reduceAdd, Nat.reduceMul, Nat.reduceLT, Nat.reduceLeDiff, Int.reduceToNat, Int.reduceLE, fs_all, take_length_map, h0, h19, q227a] <;> rfl) | rfl)
      · (first | (simp only [upd_apply, reduceIte, Nat.reduceEqDiff]; done) | (simp only [go_sem, reduceIte, Nat.reduceEqDiff, reduceCtorEq, Nat.reduceAdd, Nat.reduceMul, Nat.reduceLT, Nat.reduceLeDiff, Int.reduceToNat, Int.reduceLE, fs_all, take_length_map, h0, h19, q227a] <;> rfl) | rfl)
    clear h
    intro m269 s267 hI K228 hK228
    obtain ⟨p248, h21, h22, h23, h⟩ := hI
    rcases m269 with _ | n268
    · simp only [F35_L1, reduceCtorEq] at h
    rw [F35_L1] at h
    refine awp_seq fun K270 hK270 => ?_
    refine awp_region rfl (by kernel_rfl) ?_
    first | refine rops_k ?_ | refine ropsD_k ?_
    repeat (refine rops_ng rfl fun K hK => ?_; simp only [go_sem, reduceIte, Nat.reduceEqDiff, reduceCtorEq, Nat.reduceAdd, Nat.reduceMul, Nat.reduceLT, Nat.reduceLeDiff, Int.reduceToNat, Int.reduceLE, h22, h23]; refine hK _ ?_; clear hK K)
    first | refine rops_nil ?_ | refine ropsD_nil ?_
    try simp only [exs, reduceIte, Nat.reduceEqDiff]
    refine hK270 _ ?_
    refine awp_seq fun K271 hK271 => ?_
    refine awp_if (by kernel_rfl) (by (simp only [upd_apply, reduceIte, Nat.reduceEqDiff, St.ev, constReg, constCell, St.put_some, St.put_none, h21, h22, h23] <;> rfl)) (fun hc => ?_) (fun hc => ?_)
    · have c272 : (decide (p248 < ((x149.map (fun c => (c.toNat : Int))).length : Int))) = true := by first | exact hc | simpa using hc
      clear hc
      rw [c272] at h
      simp only [cond_true, cond_false] at h
      refine awp_skip ?_
      try simp only [exs, reduceIte, Nat.reduceEqDiff]
      refine hK271 _ ?_
      refine awp_seq fun K273 hK273 => ?_
      refine awp_block ?_
      refine awp_seq fun K274 hK274 => ?_
      obtain ⟨x275, q276, h⟩ := bind_some h
      obtain ⟨q276i, q276e, q276l⟩ := getO_some q276
      refine awp_region rfl (by kernel_rfl) ?_
      first | refine rops_k ?_ | refine ropsD_k ?_
      repeat (refine rops_ng rfl fun K hK => ?_; simp only [go_sem, reduceIte, Nat.reduceEqDiff, reduceCtorEq, Nat.reduceAdd, Nat.reduceMul, Nat.reduceLT, Nat.reduceLeDiff, Int.reduceToNat, Int.reduceLE, h21, h23, q276i, q276e, q276l]; refine hK _ ?_; clear hK K)
      first | refine rops_nil ?_ | refine ropsD_nil ?_
      try simp only [exs, reduceIte, Nat.reduceEqDiff]
      refine hK274 _ ?_
      refine awp_seq fun K277 hK277 => ?_
      obtain ⟨x278, q279, h⟩ := bind_some h
      refine awp_region rfl (by kernel_rfl) ?_
      have R281 : ∀ s280 : St, (s280.r 21 = .val (.sl (List.map byteAV (x149.map (fun c => (c.toNat : Int)))))) → (s280.r 22 = .val (.fl (.int .i64 ((x149.map (fun c => (c.toNat : Int))).length : Int)))) → (s280.r 23 = .val (.fl (.int .i64 p248))) → (s280.r 41 = .val (.fl (.bool (((!x278) && ((decide (x275 < 48)) || (decide (x275 > 57)))) && (!(x275 == 95)))))) → K277 s280 := by
        intro s280 h21 h22 h23 h41
        refine hK277 _ ?_
        refine awp_if (by kernel_rfl) (by (simp only [upd_apply, reduceIte, Nat.reduceEqDiff, St.ev, constReg, constCell, St.put_some, St.put_none, h21, h22, h23, h41, q276i, q276e, q276l] <;> rfl)) (fun hc => ?_) (fun hc => ?_)
        · have c282 : (((!x278) && ((decide (x275 < 48)) || (decide (x275 > 57)))) && (!(x275 == 95))) = true := by first | exact hc | simpa using hc
          clear hc
          rw [c282] at h
          simp only [cond_true, cond_false] at h
          refine awp_seq fun K283 hK283 => ?_
          refine awp_region rfl (by kernel_rfl) ?_
          first | refine rops_k ?_ | refine ropsD_k ?_
          repeat (refine rops_ng rfl fun K hK => ?_; simp only [go_sem, reduceIte, Nat.reduceEqDiff, reduceCtorEq, Nat.reduceAdd, Nat.reduceMul, Nat.reduceLT, Nat.reduceLeDiff, Int.reduceToNat, Int.reduceLE]; refine hK _ ?_; clear hK K)
          first | refine rops_nil ?_ | refine ropsD_nil ?_
          try simp only [exs, reduceIte, Nat.reduceEqDiff]
          refine hK283 _ ?_
          have h := Option.some.inj h
          subst h
          refine awp_ret ?_
          try simp only [exs, reduceIte, Nat.reduceEqDiff]
          refine fin_ret (vs := [.tmp 2]) Try.ntmps35 rfl (by simp [List.filter_cons, isOwn]) none ?_
          (simp only [resultsAre, resCell, loadRegs, regRV, go_sem, reduceIte, Nat.reduceEqDiff, reduceCtorEq, Nat.reduceAdd, Nat.reduceMul, Nat.reduceLT, Nat.reduceLeDiff, Int.reduceToNat, Int.reduceLE, fs_all, take_length_map, h21, h22, h23, h41, q276i, q276e, q276l] <;> rfl)
        have c282 : (((!x278) && ((decide (x275 < 48)) || (decide (x275 > 57)))) && (!(x275 == 95))) = false := by first | exact hc | simpa using hc
        clear hc
        rw [c282] at h
        simp only [cond_true, cond_false] at h
        refine awp_skip ?_
        try simp only [exs, reduceIte, Nat.reduceEqDiff]
        refine hK273 _ ?_
        refine awp_region rfl (by kernel_rfl) ?_
        first | refine rops_k ?_ | refine ropsD_k ?_
        repeat (refine rops_ng rfl fun K hK => ?_; simp only [go_sem, reduceIte, Nat.reduceEqDiff, reduceCtorEq, Nat.reduceAdd, Nat.reduceMul, Nat.reduceLT, Nat.reduceLeDiff, Int.reduceToNat, Int.reduceLE, h23, q276i, q276e, q276l]; refine hK _ ?_; clear hK K)
        first | refine rops_nil ?_ | refine ropsD_nil ?_
        try simp only [exs, reduceIte, Nat.reduceEqDiff]
        refine hK228 _ ⟨n268, Nat.lt_succ_self _, (IntKind.i64.wrap (p248 + 1)), ?_, ?_, ?_, h⟩
        · simp only [upd_apply, reduceIte, Nat.reduceEqDiff, h21]
        · simp only [upd_apply, reduceIte, Nat.reduceEqDiff, h22]
        · (first | (simp only [upd_apply, reduceIte, Nat.reduceEqDiff, h23]; done) | (simp only [go_sem, reduceIte, Nat.reduceEqDiff, reduceCtorEq, Nat.reduceAdd, Nat.reduceMul, Nat.reduceLT, Nat.reduceLeDiff, Int.reduceToNat, Int.reduceLE, fs_all, take_length_map, h21, h22, h23, h41, q276i, q276e, q276l] <;> rfl) | rfl)
      first | refine rops_k ?_ | refine ropsD_k ?_
      repeat (refine rops_ng rfl fun K hK => ?_; simp only [go_sem, reduceIte, Nat.reduceEqDiff, reduceCtorEq, Nat.reduceAdd, Nat.reduceMul, Nat.reduceLT, Nat.reduceLeDiff, Int.reduceToNat, Int.reduceLE, q276i, q276e, q276l]; refine hK _ ?_; clear hK K)
      refine rops_ng rfl fun K hK => ?_
      simp only [List.head?_cons, List.head?_nil, Option.map_some, Option.map_none, rops1, ropsD1, gtmp, gate, beq_self_eq_true, beq_t, beq_f, Bool.not_true, Bool.not_false, if_true, rOp, rOpD, calleeOf, regAVsOf, regAV, List.getElem?_toArray, List.getElem?_cons_zero, List.getElem?_cons_succ, Option.bind_some, upd_apply, reduceIte, Nat.reduceEqDiff, St.ev, constReg, constCell, St.put_some, St.put_none, h21, h22, h23, q276i, q276e, q276l]
      refine .inl ⟨_, _, rfl, _, rfl, _, (F38_does _ N x275  _ q279), ?_⟩
      simp only [flRV, outK, St.take, St.takeRVs, St.takeRV, retReg, St.put_some, St.put_none, List.map_cons, List.map_nil]
      refine hK _ ?_; clear hK K
      repeat (refine rops_ng rfl fun K hK => ?_; simp only [go_sem, reduceIte, Nat.reduceEqDiff, reduceCtorEq, Nat.reduceAdd, Nat.reduceMul, Nat.reduceLT, Nat.reduceLeDiff, Int.reduceToNat, Int.reduceLE, q276i, q276e, q276l]; refine hK _ ?_; clear hK K)
      rcases c284 : (x278) with _ | _
      · repeat (first | (refine rops_ng rfl fun K hK => ?_; simp only [go_sem, reduceIte, Nat.reduceEqDiff, reduceCtorEq, Nat.reduceAdd, Nat.reduceMul, Nat.reduceLT, Nat.reduceLeDiff, Int.reduceToNat, Int.reduceLE, q276i, q276e, q276l, c284]; refine hK _ ?_; clear hK K) | (refine rops_on rfl rfl ?_ fun K hK => ?_; (focus (simp only [go_sem, reduceIte, Nat.reduceEqDiff, reduceCtorEq, Nat.reduceAdd, Nat.reduceMul, Nat.reduceLT, Nat.reduceLeDiff, Int.reduceToNat, Int.reduceLE, q276i, q276e, q276l, c284]; done)); simp only [go_sem, reduceIte, Nat.reduceEqDiff, reduceCtorEq, Nat.reduceAdd, Nat.reduceMul, Nat.reduceLT, Nat.reduceLeDiff, Int.reduceToNat, Int.reduceLE, q276i, q276e, q276l, c284]; refine hK _ ?_; clear hK K) | (refine rops_off rfl rfl ?_ ?_; (focus (simp only [go_sem, reduceIte, Nat.reduceEqDiff, reduceCtorEq, Nat.reduceAdd, Nat.reduceMul, Nat.reduceLT, Nat.reduceLeDiff, Int.reduceToNat, Int.reduceLE, q276i, q276e, q276l, c284]; done))))
        rcases c285 : (decide (x275 < 48)) with _ | _
        · repeat (first | (refine rops_ng rfl fun K hK => ?_; simp only [go_sem, reduceIte, Nat.reduceEqDiff, reduceCtorEq, Nat.reduceAdd, Nat.reduceMul, Nat.reduceLT, Nat.reduceLeDiff, Int.reduceToNat, Int.reduceLE, q276i, q276e, q276l, c284, c285]; refine hK _ ?_; clear hK K) | (refine rops_on rfl rfl ?_ fun K hK => ?_; (focus (simp only [go_sem, reduceIte, Nat.reduceEqDiff, reduceCtorEq, Nat.reduceAdd, Nat.reduceMul, Nat.reduceLT, Nat.reduceLeDiff, Int.reduceToNat, Int.reduceLE, q276i, q276e, q276l, c284, c285]; done)); simp only [go_sem, reduceIte, Nat.reduceEqDiff, reduceCtorEq, Nat.reduceAdd, Nat.reduceMul, Nat.reduceLT, Nat.reduceLeDiff, Int.reduceToNat, Int.reduceLE, q276i, q276e, q276l, c284, c285]; refine hK _ ?_; clear hK K) | (refine rops_off rfl rfl ?_ ?_; (focus (simp only [go_sem, reduceIte, Nat.reduceEqDiff, reduceCtorEq, Nat.reduceAdd, Nat.reduceMul, Nat.reduceLT, Nat.reduceLeDiff, Int.reduceToNat, Int.reduceLE, q276i, q276e, q276l, c284, c285]; done))))
          rcases c286 : (decide (x275 > 57)) with _ | _
          · repeat (first | (refine rops_ng rfl fun K hK => ?_; simp only [go_sem, reduceIte, Nat.reduceEqDiff, reduceCtorEq, Nat.reduceAdd, Nat.reduceMul, Nat.reduceLT, Nat.reduceLeDiff, Int.reduceToNat, Int.reduceLE, q276i, q276e, q276l, c284, c285, c286]; refine hK _ ?_; clear hK K) | (refine rops_on rfl rfl ?_ fun K hK => ?_; (focus (simp only [go_sem, reduceIte, Nat.reduceEqDiff, reduceCtorEq, Nat.reduceAdd, Nat.reduceMul, Nat.reduceLT, Nat.reduceLeDiff, Int.reduceToNat, Int.reduceLE, q276i, q276e, q276l, c284, c285, c286]; done)); simp only [go_sem, reduceIte, Nat.reduceEqDiff, reduceCtorEq, Nat.reduceAdd, Nat.reduceMul, Nat.reduceLT, Nat.reduceLeDiff, Int.reduceToNat, Int.reduceLE, q276i, q276e, q276l, c284, c285, c286]; refine hK _ ?_; clear hK K) | (refine rops_off rfl rfl ?_ ?_; (focus (simp only [go_sem, reduceIte, Nat.reduceEqDiff, reduceCtorEq, Nat.reduceAdd, Nat.reduceMul, Nat.reduceLT, Nat.reduceLeDiff, Int.reduceToNat, Int.reduceLE, q276i, q276e, q276l, c284, c285, c286]; done))))
            first | refine rops_nil ?_ | refine ropsD_nil ?_
            try simp only [exs, reduceIte, Nat.reduceEqDiff]
            refine R281 _ ?_ ?_ ?_ ?_
            · simp only [upd_apply, reduceIte, Nat.reduceEqDiff, h21]
            · simp only [upd_apply, reduceIte, Nat.reduceEqDiff, h22]
            · simp only [upd_apply, reduceIte, Nat.reduceEqDiff, h23]
            · (first | (simp only [upd_apply, reduceIte, Nat.reduceEqDiff]; done) | (simp only [go_sem, reduceIte, Nat.reduceEqDiff, reduceCtorEq, Nat.reduceAdd, Nat.reduceMul, Nat.reduceLT, Nat.reduceLeDiff, Int.reduceToNat, Int.reduceLE, fs_all, take_length_map, h21, h22, h23, q276i, q276e, q276l, c284, c285, c286] <;> rfl) | rfl)
          repeat (first | (refine rops_ng rfl fun K hK => ?_; simp only [go_sem, reduceIte, Nat.reduceEqDiff, reduceCtorEq, Nat.reduceAdd, Nat.reduceMul, Nat.reduceLT, Nat.reduceLeDiff, Int.reduceToNat, Int.reduceLE, q276i, q276e, q276l, c284, c285, c286]; refine hK _ ?_; clear hK K) | (refine rops_on rfl rfl ?_ fun K hK => ?_; (focus (simp only [go_sem, reduceIte, Nat.reduceEqDiff, reduceCtorEq, Nat.reduceAdd, Nat.reduceMul, Nat.reduceLT, Nat.reduceLeDiff, Int.reduceToNat, Int.reduceLE, q276i, q276e, q276l, c284, c285, c286]; done)); simp only [go_sem, reduceIte, Nat.reduceEqDiff, reduceCtorEq, Nat.reduceAdd, Nat.reduceMul, Nat.reduceLT, Nat.reduceLeDiff, Int.reduceToNat, Int.reduceLE, q276i, q276e, q276l, c284, c285, c286]; refine hK _ ?_; clear hK K) | (refine rops_off rfl rfl ?_ ?_; (focus (simp only [go_sem, reduceIte, Nat.reduceEqDiff, reduceCtorEq, Nat.reduceAdd, Nat.reduceMul, Nat.reduceLT, Nat.reduceLeDiff, Int.reduceToNat, Int.reduceLE, q276i, q276e, q276l, c284, c285, c286]; done))))
          first | refine rops_nil ?_ | refine ropsD_nil ?_
          try simp only [exs, reduceIte, Nat.reduceEqDiff]
          refine R281 _ ?_ ?_ ?_ ?_
          · simp only [upd_apply, reduceIte, Nat.reduceEqDiff, h21]
          · simp only [upd_apply, reduceIte, Nat.reduceEqDiff, h22]
          · simp only [upd_apply, reduceIte, Nat.reduceEqDiff, h23]
          · (first | (simp only [upd_apply, reduceIte, Nat.reduceEqDiff]; done) | (simp only [go_sem, reduceIte, Nat.reduceEqDiff, reduceCtorEq, Nat.reduceAdd, Nat.reduceMul, Nat.reduceLT, Nat.reduceLeDiff, Int.reduceToNat, Int.reduceLE, fs_all, take_length_map, h21, h22, h23, q276i, q276e, q276l, c284, c285, c286] <;> rfl) | rfl)
        repeat (first | (refine rops_ng rfl fun K hK => ?_; simp only [go_sem, reduceIte, Nat.reduceEqDiff, reduceCtorEq, Nat.reduceAdd, Nat.reduceMul, Nat.reduceLT, Nat.reduceLeDiff, Int.reduceToNat, Int.reduceLE, q276i, q276e, q276l, c284, c285]; refine hK _ ?_; clear hK K) | (refine rops_on rfl rfl ?_ fun K hK => ?_; (focus (simp only [go_sem, reduceIte, Nat.reduceEqDiff, reduceCtorEq, Nat.reduceAdd, Nat.reduceMul, Nat.reduceLT, Nat.reduceLeDiff, Int.reduceToNat, Int.reduceLE, q276i, q276e, q276l, c284, c285]; done)); simp only [go_sem, reduceIte, Nat.reduceEqDiff, reduceCtorEq, Nat.reduceAdd, Nat.reduceMul, Nat.reduceLT, Nat.reduceLeDiff, Int.reduceToNat, Int.reduceLE, q276i, q276e, q276l, c284, c285]; refine hK _ ?_; clear hK K) | (refine rops_off rfl rfl ?_ ?_; (focus (simp only [go_sem, reduceIte, Nat.reduceEqDiff, reduceCtorEq, Nat.reduceAdd, Nat.reduceMul, Nat.reduceLT, Nat.reduceLeDiff, Int.reduceToNat, Int.reduceLE, q276i, q276e, q276l, c284, c285]; done))))
        first | refine rops_nil ?_ | refine ropsD_nil ?_
        try simp only [exs, reduceIte, Nat.reduceEqDiff]
        refine R281 _ ?_ ?_ ?_ ?_
        · simp only [upd_apply, reduceIte, Nat.reduceEqDiff, h21]
        · simp only [upd_apply, reduceIte, Nat.reduceEqDiff, h22]
        · simp only [upd_apply, reduceIte, Nat.reduceEqDiff, h23]
        · (first | (simp only [upd_apply, reduceIte, Nat.reduceEqDiff]; done) | (simp only [go_sem, reduceIte, Nat.reduceEqDiff, reduceCtorEq, Nat.reduceAdd, Nat.reduceMul, Nat.reduceLT, Nat.reduceLeDiff, Int.reduceToNat, Int.reduceLE, fs_all, take_length_map, h21, h22, h23, q276i, q276e, q276l, c284, c285] <;> rfl) | rfl)
      repeat (first | (refine rops_ng rfl fun K hK => ?_; simp only [go_sem, reduceIte, Nat.reduceEqDiff, reduceCtorEq, Nat.reduceAdd, Nat.reduceMul, Nat.reduceLT, Nat.reduceLeDiff, Int.reduceToNat, Int.reduceLE, q276i, q276e, q276l, c284]; refine hK _ ?_; clear hK K) | (refine rops_on rfl rfl ?_ fun K hK => ?_; (focus (simp only [go_sem, reduceIte, Nat.reduceEqDiff, reduceCtorEq, Nat.reduceAdd, Nat.reduceMul, Nat.reduceLT, Nat.reduceLeDiff, Int.reduceToNat, Int.reduceLE, q276i, q276e, q276l, c284]; done)); simp only [go_sem, reduceIte, Nat.reduceEqDiff, reduceCtorEq, Nat.reduceAdd, Nat.reduceMul, Nat.reduceLT, Nat.reduceLeDiff, Int.reduceToNat, Int.reduceLE, q276i, q276e, q276l, c284]; refine hK _ ?_; clear hK K) | (refine rops_off rfl rfl ?_ ?_; (focus (simp only [go_sem, reduceIte, Nat.reduceEqDiff, reduceCtorEq, Nat.reduceAdd, Nat.reduceMul, Nat.reduceLT, Nat.reduceLeDiff, Int.reduceToNat, Int.reduceLE, q276i, q276e, q276l, c284]; done))))
      first | refine rops_nil ?_ | refine ropsD_nil ?_
      try simp only [exs, reduceIte, Nat.reduceEqDiff]
      refine R281 _ ?_ ?_ ?_ ?_
      · simp only [upd_apply, reduceIte, Nat.reduceEqDiff, h21]
      · simp only [upd_apply, reduceIte, Nat.reduceEqDiff, h22]
      · simp only [upd_apply, reduceIte, Nat.reduceEqDiff, h23]
      · (first | (simp only [upd_apply, reduceIte, Nat.reduceEqDiff]; done) | (simp only [go_sem, reduceIte, Nat.reduceEqDiff, reduceCtorEq, Nat.reduceAdd, Nat.reduceMul, Nat.reduceLT, Nat.reduceLeDiff, Int.reduceToNat, Int.reduceLE, fs_all, take_length_map, h21, h22, h23, q276i, q276e, q276l, c284] <;> rfl) | rfl)
    have c272 : (decide (p248 < ((x149.map (fun c => (c.toNat : Int))).length : Int))) = false := by first | exact hc | simpa using hc
    clear hc
    rw [c272] at h
    simp only [cond_true, cond_false] at h
    refine awp_exit ?_
    try simp only [exs, reduceIte, Nat.reduceEqDiff]
    refine J1  _ trivial h
  first | refine rops_k ?_ | refine ropsD_k ?_
  repeat (refine rops_ng rfl fun K hK => ?_; simp only [go_sem, reduceIte, Nat.reduceEqDiff, reduceCtorEq, Nat.reduceAdd, Nat.reduceMul, Nat.reduceLT, Nat.reduceLeDiff, Int.reduceToNat, Int.reduceLE, h0]; refine hK _ ?_; clear hK K)
  rcases c287 : (x149 == []) with _ | _
  · repeat (first | (refine rops_ng rfl fun K hK => ?_; simp only [go_sem, reduceIte, Nat.reduceEqDiff, reduceCtorEq, Nat.reduceAdd, Nat.reduceMul, Nat.reduceLT, Nat.reduceLeDiff, Int.reduceToNat, Int.reduceLE, h0, c287]; refine hK _ ?_; clear hK K) | (refine rops_on rfl rfl ?_ fun K hK => ?_; (focus (simp only [go_sem, reduceIte, Nat.reduceEqDiff, reduceCtorEq, Nat.reduceAdd, Nat.reduceMul, Nat.reduceLT, Nat.reduceLeDiff, Int.reduceToNat, Int.reduceLE, h0, c287]; done)); simp only [go_sem, reduceIte, Nat.reduceEqDiff, reduceCtorEq, Nat.reduceAdd, Nat.reduceMul, Nat.reduceLT, Nat.reduceLeDiff, Int.reduceToNat, Int.reduceLE, h0, c287]; refine hK _ ?_; clear hK K) | (refine rops_off rfl rfl ?_ ?_; (focus (simp only [go_sem, reduceIte, Nat.reduceEqDiff, reduceCtorEq, Nat.reduceAdd, Nat.reduceMul, Nat.reduceLT, Nat.reduceLeDiff, Int.reduceToNat, Int.reduceLE, h0, c287]; done))))
    rcases c288 : (decide ((x149.length : Int) > 32)) with _ | _
    · have q289 := q155 (by simp only [c287, c288, fs_bool, beq_t, beq_f, beq_self_eq_true])
      obtain ⟨q289i, q289e, q289l⟩ := getO_some q289
      simp only [Int.toNat_zero, Int.reduceToNat] at q289e
      have q290 := q156 (by simp only [c287, c288, fs_bool, beq_t, beq_f, beq_self_eq_true])
      repeat (first | (refine rops_ng rfl fun K hK => ?_; simp only [go_sem, reduceIte, Nat.reduceEqDiff, reduceCtorEq, Nat.reduceAdd, Nat.reduceMul, Nat.reduceLT, Nat.reduceLeDiff, Int.reduceToNat, Int.reduceLE, h0, q289e, q289l, c287, c288]; refine hK _ ?_; clear hK K) | (refine rops_on rfl rfl ?_ fun K hK => ?_; (focus (simp only [go_sem, reduceIte, Nat.reduceEqDiff, reduceCtorEq, Nat.reduceAdd, Nat.reduceMul, Nat.reduceLT, Nat.reduceLeDiff, Int.reduceToNat, Int.reduceLE, h0, q289e, q289l, c287, c288]; done)); simp only [go_sem, reduceIte, Nat.reduceEqDiff, reduceCtorEq, Nat.reduceAdd, Nat.reduceMul, Nat.reduceLT, Nat.reduceLeDiff, Int.reduceToNat, Int.reduceLE, h0, q289e, q289l, c287, c288]; refine hK _ ?_; clear hK K) | (refine rops_off rfl rfl ?_ ?_; (focus (simp only [go_sem, reduceIte, Nat.reduceEqDiff, reduceCtorEq, Nat.reduceAdd, Nat.reduceMul, Nat.reduceLT, Nat.reduceLeDiff, Int.reduceToNat, Int.reduceLE, h0, q289e, q289l, c287, c288]; done))))
      refine rops_on rfl rfl (by simp only [gate, beq_self_eq_true, beq_t, beq_f, Bool.not_true, Bool.not_false, Bool.true_eq_false, Bool.false_eq_true, upd_apply, reduceIte, Nat.reduceEqDiff, St.put_some, St.put_none, h0, q289e, q289l, c287, c288]) fun K hK => ?_
      simp only [List.head?_cons, List.head?_nil, Option.map_some, Option.map_none, rops1, ropsD1, gtmp, gate, beq_self_eq_true, beq_t, beq_f, Bool.not_true, Bool.not_false, if_true, rOp, rOpD, calleeOf, regAVsOf, regAV, List.getElem?_toArray, List.getElem?_cons_zero, List.getElem?_cons_succ, Option.bind_some, upd_apply, reduceIte, Nat.reduceEqDiff, St.ev, constReg, constCell, St.put_some, St.put_none, h0, q289e, q289l, c287, c288]
      refine .inl ⟨_, _, rfl, _, rfl, _, (F38_does _ N (x153.toNat : Int)  _ q290), ?_⟩
      simp only [flRV, outK, St.take, St.takeRVs, St.takeRV, retReg, St.put_some, St.put_none, List.map_cons, List.map_nil]
      refine hK _ ?_; clear hK K
      repeat (first | (refine rops_ng rfl fun K hK => ?_; simp only [go_sem, reduceIte, Nat.reduceEqDiff, reduceCtorEq, Nat.reduceAdd, Nat.reduceMul, Nat.reduceLT, Nat.reduceLeDiff, Int.reduceToNat, Int.reduceLE, h0, q289e, q289l, c287, c288]; refine hK _ ?_; clear hK K) | (refine rops_on rfl rfl ?_ fun K hK => ?_; (focus (simp only [go_sem, reduceIte, Nat.reduceEqDiff, reduceCtorEq, Nat.reduceAdd, Nat.reduceMul, Nat.reduceLT, Nat.reduceLeDiff, Int.reduceToNat, Int.reduceLE, h0, q289e, q289l, c287, c288]; done)); simp only [go_sem, reduceIte, Nat.reduceEqDiff, reduceCtorEq, Nat.reduceAdd, Nat.reduceMul, Nat.reduceLT, Nat.reduceLeDiff, Int.reduceToNat, Int.reduceLE, h0, q289e, q289l, c287, c288]; refine hK _ ?_; clear hK K) | (refine rops_off rfl rfl ?_ ?_; (focus (simp only [go_sem, reduceIte, Nat.reduceEqDiff, reduceCtorEq, Nat.reduceAdd, Nat.reduceMul, Nat.reduceLT, Nat.reduceLeDiff, Int.reduceToNat, Int.reduceLE, h0, q289e, q289l, c287, c288]; done))))
      first | refine rops_nil ?_ | refine ropsD_nil ?_
      try simp only [exs, reduceIte, Nat.reduceEqDiff]
      refine R158 _ ?_ ?_
      · (first | (simp only [upd_apply, reduceIte, Nat.reduceEqDiff, h0]; done) | (simp only [go_sem, reduceIte, Nat.reduceEqDiff, reduceCtorEq, Nat.reduceAdd, Nat.reduceMul, Nat.reduceLT, Nat.reduceLeDiff, Int.reduceToNat, Int.reduceLE, fs_all, take_length_map, h0, q289e, q289l, c287, c288] <;> rfl) | rfl)
      · (first | (simp only [upd_apply, reduceIte, Nat.reduceEqDiff]; done) | (simp only [go_sem, reduceIte, Nat.reduceEqDiff, reduceCtorEq, Nat.reduceAdd, Nat.reduceMul, Nat.reduceLT, Nat.reduceLeDiff, Int.reduceToNat, Int.reduceLE, fs_all, take_length_map, h0, q289e, q289l, c287, c288] <;> rfl) | rfl)
    repeat (first | (refine rops_ng rfl fun K hK => ?_; simp only [go_sem, reduceIte, Nat.reduceEqDiff, reduceCtorEq, Nat.reduceAdd, Nat.reduceMul, Nat.reduceLT, Nat.reduceLeDiff, Int.reduceToNat, Int.reduceLE, h0, c287, c288]; refine hK _ ?_; clear hK K) | (refine rops_on rfl rfl ?_ fun K hK => ?_; (focus (simp only [go_sem, reduceIte, Nat.reduceEqDiff, reduceCtorEq, Nat.reduceAdd, Nat.reduceMul, Nat.reduceLT, Nat.reduceLeDiff, Int.reduceToNat, Int.reduceLE, h0, c287, c288]; done)); simp only [go_sem, reduceIte, Nat.reduceEqDiff, reduceCtorEq, Nat.reduceAdd, Nat.reduceMul, Nat.reduceLT, Nat.reduceLeDiff, Int.reduceToNat, Int.reduceLE, h0, c287, c288]; refine hK _ ?_; clear hK K) | (refine rops_off rfl rfl ?_ ?_; (focus (simp only [go_sem, reduceIte, Nat.reduceEqDiff, reduceCtorEq, Nat.reduceAdd, Nat.reduceMul, Nat.reduceLT, Nat.reduceLeDiff, Int.reduceToNat, Int.reduceLE, h0, c287, c288]; done))))
    first | refine rops_nil ?_ | refine ropsD_nil ?_
    try simp only [exs, reduceIte, Nat.reduceEqDiff]
    refine R158 _ ?_ ?_
    · (first | (simp only [upd_apply, reduceIte, Nat.reduceEqDiff, h0]; done) | (simp only [go_sem, reduceIte, Nat.reduceEqDiff, reduceCtorEq, Nat.reduceAdd, Nat.reduceMul, Nat.reduceLT, Nat.reduceLeDiff, Int.reduceToNat, Int.reduceLE, fs_all, take_length_map, h0, c287, c288] <;> rfl) | rfl)
    · (first | (simp only [upd_apply, reduceIte, Nat.reduceEqDiff]; done) | (simp only [go_sem, reduceIte, Nat.reduceEqDiff, reduceCtorEq, Nat.reduceAdd, Nat.reduceMul, Nat.reduceLT, Nat.reduceLeDiff, Int.reduceToNat, Int.reduceLE, fs_all, take_length_map, h0, c287, c288] <;> rfl) | rfl)
  repeat (first | (refine rops_ng rfl fun K hK => ?_; simp only [go_sem, reduceIte, Nat.reduceEqDiff, reduceCtorEq, Nat.reduceAdd, Nat.reduceMul, Nat.reduceLT, Nat.reduceLeDiff, Int.reduceToNat, Int.reduceLE, h0, c287]; refine hK _ ?_; clear hK K) | (refine rops_on rfl rfl ?_ fun K hK => ?_; (focus (simp only [go_sem, reduceIte, Nat.reduceEqDiff, reduceCtorEq, Nat.reduceAdd, Nat.reduceMul, Nat.reduceLT, Nat.reduceLeDiff, Int.reduceToNat, Int.reduceLE, h0, c287]; done)); simp only [go_sem, reduceIte, Nat.reduceEqDiff, reduceCtorEq, Nat.reduceAdd, Nat.reduceMul, Nat.reduceLT, Nat.reduceLeDiff, Int.reduceToNat, Int.reduceLE, h0, c287]; refine hK _ ?_; clear hK K) | (refine rops_off rfl rfl ?_ ?_; (focus (simp only [go_sem, reduceIte, Nat.reduceEqDiff, reduceCtorEq, Nat.reduceAdd, Nat.reduceMul, Nat.reduceLT, Nat.reduceLeDiff, Int.reduceToNat, Int.reduceLE, h0, c287]; done))))
  first | refine rops_nil ?_ | refine ropsD_nil ?_
  try simp only [exs, reduceIte, Nat.reduceEqDiff]
  refine R158 _ ?_ ?_
  · (first | (simp only [upd_apply, reduceIte, Nat.reduceEqDiff, h0]; done) | (simp only [go_sem, reduceIte, Nat.reduceEqDiff, reduceCtorEq, Nat.reduceAdd, Nat.reduceMul, Nat.reduceLT, Nat.reduceLeDiff, Int.reduceToNat, Int.reduceLE, fs_all, take_length_map, h0, c287] <;> rfl) | rfl)
  · (first | (simp only [upd_apply, reduceIte, Nat.reduceEqDiff]; done) | (simp only [go_sem, reduceIte, Nat.reduceEqDiff, reduceCtorEq, Nat.reduceAdd, Nat.reduceMul, Nat.reduceLT, Nat.reduceLeDiff, Int.reduceToNat, Int.reduceLE, fs_all, take_length_map, h0, c287] <;> rfl) | rfl)

end Go.Proofs.Mm
