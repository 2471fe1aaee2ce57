import Derived.Test.YtoelfoplajpgnaaEvLift
import Derived.Test.YtoelfoplajpgnaaMmF
set_option linter.unusedVariables false
set_option linter.unusedSimpArgs false
set_option linter.unusedSectionVars false

namespace Go.Proofs.Mm
open Go Go.Ev

-- topiary/topiaryref02.index
def F36_J1  : Option (Int) :=
  some (-1)

def F36_L1 (a0 : List Int) (a1 : Int) : Nat → Int → Option (Int)
  | 0, _ => none
  | n146 + 1, p134 =>
    bif decide (p134 < (a0.length : Int)) then
      (getO a0 p134).bind fun x153 =>
      bif x153 == a1 then
        some p134
      else
        (F36_L1 a0 a1 n146) (IntKind.i64.wrap (p134 + 1))
    else
      F36_J1 

def F36 (N : Nat) (a0 : List Int) (a1 : Int) : Option (Int) :=
  F36_L1 a0 a1 N 0

set_option maxHeartbeats 4000000 in
theorem F36_does (E : Env) (N : Nat) (a0 : List Int) (a1 : Int) (r : Int) (h : F36 N a0 a1 = some r) : Does Try.prog E 36 [.sl (List.map intAV a0), .fl (.int .i64 a1)] (.ret [.v (.fl (.int .i64 r))]) := by
  refine does_run Try.func36 Try.ntmps36 rfl rfl (by simp) fun w0 I0 s hr hb => ?_
  have h0 := hr 0
  have h1 := hr 1
  simp only [List.map_cons, List.map_nil, List.getElem?_cons_zero, List.getElem?_cons_succ, Option.getD_some] at h0 h1
  unfold F36 at h
  refine awp_seq fun K80 hK80 => ?_
  refine awp_region rfl (by kernel_rfl) ?_
  first | refine rops_k ?_ | refine ropsD_k ?_
  repeat (refine rops_ng rfl fun K hK => ?_; simp only [go_sem, reduceIte, Nat.reduceEqDiff, reduceCtorEq, Nat.reduceAdd, Nat.reduceMul, Nat.reduceLT, Nat.reduceLeDiff, Int.reduceToNat, Int.reduceLE]; refine hK _ ?_; clear hK K)
  first | refine rops_nil ?_ | refine ropsD_nil ?_
  try simp only [exs, reduceIte, Nat.reduceEqDiff]
  refine hK80 _ ?_
  refine awp_seq fun K81 hK81 => ?_
  have J1 : ∀  (s119 : St), True → F36_J1  = some r → K81 s119 := by
    intro  s119 _ h
    unfold F36_J1 at h
    refine hK81 _ ?_
    refine awp_seq fun K120 hK120 => ?_
    refine awp_region rfl (by kernel_rfl) ?_
    first | refine rops_k ?_ | refine ropsD_k ?_
    repeat (refine rops_ng rfl fun K hK => ?_; simp only [go_sem, reduceIte, Nat.reduceEqDiff, reduceCtorEq, Nat.reduceAdd, Nat.reduceMul, Nat.reduceLT, Nat.reduceLeDiff, Int.reduceToNat, Int.reduceLE]; refine hK _ ?_; clear hK K)
    first | refine rops_nil ?_ | refine ropsD_nil ?_
    try simp only [exs, reduceIte, Nat.reduceEqDiff]
    refine hK120 _ ?_
    have h := Option.some.inj h
    subst h
    refine awp_ret ?_
    try simp only [exs, reduceIte, Nat.reduceEqDiff]
    refine fin_ret (vs := [.tmp 4]) Try.ntmps36 rfl (by simp [List.filter_cons, isOwn]) none ?_
    (simp only [resultsAre, resCell, loadRegs, regRV, go_sem, reduceIte, Nat.reduceEqDiff, reduceCtorEq, Nat.reduceAdd, Nat.reduceMul, Nat.reduceLT, Nat.reduceLeDiff, Int.reduceToNat, Int.reduceLE, fs_all, take_length_map] <;> rfl)
  refine awp_seq fun K121 hK121 => ?_
  refine awp_region rfl (by kernel_rfl) ?_
  first | refine rops_k ?_ | refine ropsD_k ?_
  repeat (refine rops_ng rfl fun K hK => ?_; simp only [go_sem, reduceIte, Nat.reduceEqDiff, reduceCtorEq, Nat.reduceAdd, Nat.reduceMul, Nat.reduceLT, Nat.reduceLeDiff, Int.reduceToNat, Int.reduceLE]; refine hK _ ?_; clear hK K)
  first | refine rops_nil ?_ | refine ropsD_nil ?_
  try simp only [exs, reduceIte, Nat.reduceEqDiff]
  refine hK121 _ ?_
  refine awp_block ?_
  refine awp_loopK (fun m s145 => ∃ (p134 : Int), s145.r 0 = .val (.sl (List.map intAV a0)) ∧ s145.r 1 = .val (.fl (.int .i64 a1)) ∧ s145.r 5 = .val (.fl (.int .i64 p134)) ∧  F36_L1 a0 a1 m p134 = some r) N ?_ ?_
  · refine ⟨0, ?_, ?_, ?_, h⟩
    · simp only [upd_apply, reduceIte, Nat.reduceEqDiff, h0]
    · simp only [upd_apply, reduceIte, Nat.reduceEqDiff, h1]
    · (first | (simp only [upd_apply, reduceIte, Nat.reduceEqDiff]; done) | (simp only [go_sem, reduceIte, Nat.reduceEqDiff, reduceCtorEq, Nat.reduceAdd, Nat.reduceMul, Nat.reduceLT, Nat.reduceLeDiff, Int.reduceToNat, Int.reduceLE, fs_all, take_length_map, h0, h1] <;> rfl) | rfl)
  clear h
  intro m147 s145 hI K122 hK122
  obtain ⟨p134, h0, h1, h5, h⟩ := hI
  rcases m147 with _ | n146
  · simp only [F36_L1, reduceCtorEq] at h
  rw [F36_L1] at h
  refine awp_seq fun K148 hK148 => ?_
  refine awp_seq fun K149 hK149 => ?_
  refine awp_region rfl (by kernel_rfl) ?_
  first | refine rops_k ?_ | refine ropsD_k ?_
  repeat (refine rops_ng rfl fun K hK => ?_; simp only [go_sem, reduceIte, Nat.reduceEqDiff, reduceCtorEq, Nat.reduceAdd, Nat.reduceMul, Nat.reduceLT, Nat.reduceLeDiff, Int.reduceToNat, Int.reduceLE, h0, h5]; refine hK _ ?_; clear hK K)
  first | refine rops_nil ?_ | refine ropsD_nil ?_
  try simp only [exs, reduceIte, Nat.reduceEqDiff]
  refine hK149 _ ?_
  refine awp_if (by kernel_rfl) (by (simp only [upd_apply, reduceIte, Nat.reduceEqDiff, St.ev, constReg, constCell, St.put_some, St.put_none, h0, h1, h5] <;> rfl)) (fun hc => ?_) (fun hc => ?_)
  · have c150 : (decide (p134 < (a0.length : Int))) = true := by first | exact hc | simpa using hc
    clear hc
    rw [c150] at h
    simp only [cond_true, cond_false] at h
    refine awp_skip ?_
    try simp only [exs, reduceIte, Nat.reduceEqDiff]
    refine hK148 _ ?_
    refine awp_seq fun K151 hK151 => ?_
    refine awp_block ?_
    refine awp_seq fun K152 hK152 => ?_
    obtain ⟨x153, q154, h⟩ := bind_some h
    obtain ⟨q154i, q154e, q154l⟩ := getO_some q154
    refine awp_region rfl (by kernel_rfl) ?_
    first | refine rops_k ?_ | refine ropsD_k ?_
    repeat (refine rops_ng rfl fun K hK => ?_; simp only [go_sem, reduceIte, Nat.reduceEqDiff, reduceCtorEq, Nat.reduceAdd, Nat.reduceMul, Nat.reduceLT, Nat.reduceLeDiff, Int.reduceToNat, Int.reduceLE, h0, h1, h5, q154i, q154e, q154l]; refine hK _ ?_; clear hK K)
    first | refine rops_nil ?_ | refine ropsD_nil ?_
    try simp only [exs, reduceIte, Nat.reduceEqDiff]
    refine hK152 _ ?_
    refine awp_if (by kernel_rfl) (by (simp only [upd_apply, reduceIte, Nat.reduceEqDiff, St.ev, constReg, constCell, St.put_some, St.put_none, h0, h1, h5, q154i, q154e, q154l] <;> rfl)) (fun hc => ?_) (fun hc => ?_)
    · have c155 : (x153 == a1) = true := by first | exact hc | simpa using hc
      clear hc
      rw [c155] at h
      simp only [cond_true, cond_false] at h
      refine awp_seq fun K156 hK156 => ?_
      refine awp_region rfl (by kernel_rfl) ?_
      first | refine rops_k ?_ | refine ropsD_k ?_
      repeat (refine rops_ng rfl fun K hK => ?_; simp only [go_sem, reduceIte, Nat.reduceEqDiff, reduceCtorEq, Nat.reduceAdd, Nat.reduceMul, Nat.reduceLT, Nat.reduceLeDiff, Int.reduceToNat, Int.reduceLE, h5]; refine hK _ ?_; clear hK K)
      first | refine rops_nil ?_ | refine ropsD_nil ?_
      try simp only [exs, reduceIte, Nat.reduceEqDiff]
      refine hK156 _ ?_
      have h := Option.some.inj h
      subst h
      refine awp_ret ?_
      try simp only [exs, reduceIte, Nat.reduceEqDiff]
      refine fin_ret (vs := [.tmp 4]) Try.ntmps36 rfl (by simp [List.filter_cons, isOwn]) none ?_
      (simp only [resultsAre, resCell, loadRegs, regRV, go_sem, reduceIte, Nat.reduceEqDiff, reduceCtorEq, Nat.reduceAdd, Nat.reduceMul, Nat.reduceLT, Nat.reduceLeDiff, Int.reduceToNat, Int.reduceLE, fs_all, take_length_map, h0, h1, h5, q154i, q154e, q154l] <;> rfl)
    have c155 : (x153 == a1) = false := by first | exact hc | simpa using hc
    clear hc
    rw [c155] at h
    simp only [cond_true, cond_false] at h
    refine awp_skip ?_
    try simp only [exs, reduceIte, Nat.reduceEqDiff]
    refine hK151 _ ?_
    refine awp_region rfl (by kernel_rfl) ?_
    first | refine rops_k ?_ | refine ropsD_k ?_
    repeat (refine rops_ng rfl fun K hK => ?_; simp only [go_sem, reduceIte, Nat.reduceEqDiff, reduceCtorEq, Nat.reduceAdd, Nat.reduceMul, Nat.reduceLT, Nat.reduceLeDiff, Int.reduceToNat, Int.reduceLE, h5, q154i, q154e, q154l]; refine hK _ ?_; clear hK K)
    first | refine rops_nil ?_ | refine ropsD_nil ?_
    try simp only [exs, reduceIte, Nat.reduceEqDiff]
    refine hK122 _ ⟨n146, Nat.lt_succ_self _, (IntKind.i64.wrap (p134 + 1)), ?_, ?_, ?_, h⟩
    · simp only [upd_apply, reduceIte, Nat.reduceEqDiff, h0]
    · simp only [upd_apply, reduceIte, Nat.reduceEqDiff, h1]
    · (first | (simp only [upd_apply, reduceIte, Nat.reduceEqDiff, h5]; done) | (simp only [go_sem, reduceIte, Nat.reduceEqDiff, reduceCtorEq, Nat.reduceAdd, Nat.reduceMul, Nat.reduceLT, Nat.reduceLeDiff, Int.reduceToNat, Int.reduceLE, fs_all, take_length_map, h0, h1, h5, q154i, q154e, q154l] <;> rfl) | rfl)
  have c150 : (decide (p134 < (a0.length : Int))) = false := by first | exact hc | simpa using hc
  clear hc
  rw [c150] at h
  simp only [cond_true, cond_false] at h
  refine awp_exit ?_
  try simp only [exs, reduceIte, Nat.reduceEqDiff]
  refine J1  _ trivial h

end Go.Proofs.Mm

namespace Go.Proofs.Mm
open Go Go.Ev

-- topiary/topiaryref02.has
def F34 (N : Nat) (a0 : List Int) (a1 : Int) : Option (Bool) :=
  (F36 N a0 a1).bind fun x7 =>
  some (decide (x7 ≥ 0))

set_option maxHeartbeats 4000000 in
theorem F34_does (E : Env) (N : Nat) (a0 : List Int) (a1 : Int) (r : Bool) (h : F34 N a0 a1 = some r) : Does Try.prog E 34 [.sl (List.map intAV a0), .fl (.int .i64 a1)] (.ret [.v (.fl (.bool r))]) := by
  refine does_run Try.func34 Try.ntmps34 rfl rfl (by simp) fun w0 I0 s hr hb => ?_
  have h0 := hr 0
  have h1 := hr 1
  simp only [List.map_cons, List.map_nil, List.getElem?_cons_zero, List.getElem?_cons_succ, Option.getD_some] at h0 h1
  unfold F34 at h
  refine awp_seq fun K5 hK5 => ?_
  refine awp_region rfl (by kernel_rfl) ?_
  first | refine rops_k ?_ | refine ropsD_k ?_
  repeat (refine rops_ng rfl fun K hK => ?_; simp only [go_sem, reduceIte, Nat.reduceEqDiff, reduceCtorEq, Nat.reduceAdd, Nat.reduceMul, Nat.reduceLT, Nat.reduceLeDiff, Int.reduceToNat, Int.reduceLE]; refine hK _ ?_; clear hK K)
  first | refine rops_nil ?_ | refine ropsD_nil ?_
  try simp only [exs, reduceIte, Nat.reduceEqDiff]
  refine hK5 _ ?_
  refine awp_seq fun K6 hK6 => ?_
  obtain ⟨x7, q8, h⟩ := bind_some h
  refine awp_region rfl (by kernel_rfl) ?_
  first | refine rops_k ?_ | refine ropsD_k ?_
  repeat (refine rops_ng rfl fun K hK => ?_; simp only [go_sem, reduceIte, Nat.reduceEqDiff, reduceCtorEq, Nat.reduceAdd, Nat.reduceMul, Nat.reduceLT, Nat.reduceLeDiff, Int.reduceToNat, Int.reduceLE, h0, h1]; refine hK _ ?_; clear hK K)
  refine rops_ng rfl fun K hK => ?_
  simp only [List.head?_cons, List.head?_nil, Option.map_some, Option.map_none, rops1, ropsD1, gtmp, gate, beq_self_eq_true, beq_t, beq_f, Bool.not_true, Bool.not_false, if_true, rOp, rOpD, calleeOf, regAVsOf, regAV, List.getElem?_toArray, List.getElem?_cons_zero, List.getElem?_cons_succ, Option.bind_some, upd_apply, reduceIte, Nat.reduceEqDiff, St.ev, constReg, constCell, St.put_some, St.put_none, h0, h1]
  refine .inl ⟨_, _, rfl, _, rfl, _, (F36_does _ N a0 a1  _ q8), ?_⟩
  simp only [flRV, outK, St.take, St.takeRVs, St.takeRV, retReg, St.put_some, St.put_none, List.map_cons, List.map_nil]
  refine hK _ ?_; clear hK K
  repeat (refine rops_ng rfl fun K hK => ?_; simp only [go_sem, reduceIte, Nat.reduceEqDiff, reduceCtorEq, Nat.reduceAdd, Nat.reduceMul, Nat.reduceLT, Nat.reduceLeDiff, Int.reduceToNat, Int.reduceLE, h0, h1]; refine hK _ ?_; clear hK K)
  first | refine rops_nil ?_ | refine ropsD_nil ?_
  try simp only [exs, reduceIte, Nat.reduceEqDiff]
  refine hK6 _ ?_
  have h := Option.some.inj h
  subst h
  refine awp_ret ?_
  try simp only [exs, reduceIte, Nat.reduceEqDiff]
  refine fin_ret (vs := [.tmp 4]) Try.ntmps34 rfl (by simp [List.filter_cons, isOwn]) none ?_
  (simp only [resultsAre, resCell, loadRegs, regRV, go_sem, reduceIte, Nat.reduceEqDiff, reduceCtorEq, Nat.reduceAdd, Nat.reduceMul, Nat.reduceLT, Nat.reduceLeDiff, Int.reduceToNat, Int.reduceLE, fs_all, take_length_map, h0, h1] <;> rfl)

end Go.Proofs.Mm

namespace Go.Proofs.Mm
open Go Go.Ev

-- topiary/topiaryref14.begins
def F14 (N : Nat) (a0 : Str) (a1 : Str) : Option (Bool) :=
  bindG ((decide ((a0.length : Int) ≥ (a1.length : Int)))) (chk (decide (a1.length ≤ a0.length))) fun _ =>
  some ((decide ((a0.length : Int) ≥ (a1.length : Int))) && ((a0.take a1.length) == a1))

set_option maxHeartbeats 4000000 in
theorem F14_does (E : Env) (N : Nat) (a0 : Str) (a1 : Str) (r : Bool) (h : F14 N a0 a1 = some r) : Does Try.prog E 14 [.fl (bs a0), .fl (bs a1)] (.ret [.v (.fl (.bool r))]) := by
  refine does_run Try.func14 Try.ntmps14 rfl rfl (by simp) fun w0 I0 s hr hb => ?_
  have h0 := hr 0
  have h1 := hr 1
  simp only [List.map_cons, List.map_nil, List.getElem?_cons_zero, List.getElem?_cons_succ, Option.getD_some] at h0 h1
  unfold F14 at h
  refine awp_seq fun K8 hK8 => ?_
  refine awp_region rfl (by kernel_rfl) ?_
  first | refine rops_k ?_ | refine ropsD_k ?_
  repeat (refine rops_ng rfl fun K hK => ?_; simp only [go_sem, reduceIte, Nat.reduceEqDiff, reduceCtorEq, Nat.reduceAdd, Nat.reduceMul, Nat.reduceLT, Nat.reduceLeDiff, Int.reduceToNat, Int.reduceLE]; refine hK _ ?_; clear hK K)
  first | refine rops_nil ?_ | refine ropsD_nil ?_
  try simp only [exs, reduceIte, Nat.reduceEqDiff]
  refine hK8 _ ?_
  refine awp_seq fun K9 hK9 => ?_
  obtain ⟨_, q10, h⟩ := bindG_some h
  refine awp_region rfl (by kernel_rfl) ?_
  have R12 : ∀ s11 : St, (s11.r 4 = .val (.fl (.bool ((decide ((a0.length : Int) ≥ (a1.length : Int))) && ((a0.take a1.length) == a1))))) → K9 s11 := by
    intro s11 h4
    refine hK9 _ ?_
    have h := Option.some.inj h
    subst h
    refine awp_ret ?_
    try simp only [exs, reduceIte, Nat.reduceEqDiff]
    refine fin_ret (vs := [.tmp 4]) Try.ntmps14 rfl (by simp [List.filter_cons, isOwn]) none ?_
    (simp only [resultsAre, resCell, loadRegs, regRV, go_sem, reduceIte, Nat.reduceEqDiff, reduceCtorEq, Nat.reduceAdd, Nat.reduceMul, Nat.reduceLT, Nat.reduceLeDiff, Int.reduceToNat, Int.reduceLE, fs_all, take_length_map, h4] <;> rfl)
  first | refine rops_k ?_ | refine ropsD_k ?_
  repeat (refine rops_ng rfl fun K hK => ?_; simp only [go_sem, reduceIte, Nat.reduceEqDiff, reduceCtorEq, Nat.reduceAdd, Nat.reduceMul, Nat.reduceLT, Nat.reduceLeDiff, Int.reduceToNat, Int.reduceLE, h0, h1]; refine hK _ ?_; clear hK K)
  rcases c13 : (decide ((a0.length : Int) ≥ (a1.length : Int))) with _ | _
  · repeat (first | (refine rops_ng rfl fun K hK => ?_; simp only [go_sem, reduceIte, Nat.reduceEqDiff, reduceCtorEq, Nat.reduceAdd, Nat.reduceMul, Nat.reduceLT, Nat.reduceLeDiff, Int.reduceToNat, Int.reduceLE, h0, h1, c13]; refine hK _ ?_; clear hK K) | (refine rops_on rfl rfl ?_ fun K hK => ?_; (focus (simp only [go_sem, reduceIte, Nat.reduceEqDiff, reduceCtorEq, Nat.reduceAdd, Nat.reduceMul, Nat.reduceLT, Nat.reduceLeDiff, Int.reduceToNat, Int.reduceLE, h0, h1, c13]; done)); simp only [go_sem, reduceIte, Nat.reduceEqDiff, reduceCtorEq, Nat.reduceAdd, Nat.reduceMul, Nat.reduceLT, Nat.reduceLeDiff, Int.reduceToNat, Int.reduceLE, h0, h1, c13]; refine hK _ ?_; clear hK K) | (refine rops_off rfl rfl ?_ ?_; (focus (simp only [go_sem, reduceIte, Nat.reduceEqDiff, reduceCtorEq, Nat.reduceAdd, Nat.reduceMul, Nat.reduceLT, Nat.reduceLeDiff, Int.reduceToNat, Int.reduceLE, h0, h1, c13]; done))))
    first | refine rops_nil ?_ | refine ropsD_nil ?_
    try simp only [exs, reduceIte, Nat.reduceEqDiff]
    refine R12 _ ?_
    · (first | (simp only [upd_apply, reduceIte, Nat.reduceEqDiff]; done) | (simp only [go_sem, reduceIte, Nat.reduceEqDiff, reduceCtorEq, Nat.reduceAdd, Nat.reduceMul, Nat.reduceLT, Nat.reduceLeDiff, Int.reduceToNat, Int.reduceLE, fs_all, take_length_map, h0, h1, c13] <;> rfl) | rfl)
  have q14 := q10 (by simp only [c13, fs_bool, beq_t, beq_f, beq_self_eq_true])
  have q14a := chk_some q14
  simp only [decide_eq_true_eq] at q14a
  repeat (first | (refine rops_ng rfl fun K hK => ?_; simp only [go_sem, reduceIte, Nat.reduceEqDiff, reduceCtorEq, Nat.reduceAdd, Nat.reduceMul, Nat.reduceLT, Nat.reduceLeDiff, Int.reduceToNat, Int.reduceLE, h0, h1, q14a, c13]; refine hK _ ?_; clear hK K) | (refine rops_on rfl rfl ?_ fun K hK => ?_; (focus (simp only [go_sem, reduceIte, Nat.reduceEqDiff, reduceCtorEq, Nat.reduceAdd, Nat.reduceMul, Nat.reduceLT, Nat.reduceLeDiff, Int.reduceToNat, Int.reduceLE, h0, h1, q14a, c13]; done)); simp only [go_sem, reduceIte, Nat.reduceEqDiff, reduceCtorEq, Nat.reduceAdd, Nat.reduceMul, Nat.reduceLT, Nat.reduceLeDiff, Int.reduceToNat, Int.reduceLE, h0, h1, q14a, c13]; refine hK _ ?_; clear hK K) | (refine rops_off rfl rfl ?_ ?_; (focus (simp only [go_sem, reduceIte, Nat.reduceEqDiff, reduceCtorEq, Nat.reduceAdd, Nat.reduceMul, Nat.reduceLT, Nat.reduceLeDiff, Int.reduceToNat, Int.reduceLE, h0, h1, q14a, c13]; done))))
  first | refine rops_nil ?_ | refine ropsD_nil ?_
  try simp only [exs, reduceIte, Nat.reduceEqDiff]
  refine R12 _ ?_
  · (first | (simp only [upd_apply, reduceIte, Nat.reduceEqDiff]; done) | (simp only [go_sem, reduceIte, Nat.reduceEqDiff, reduceCtorEq, Nat.reduceAdd, Nat.reduceMul, Nat.reduceLT, Nat.reduceLeDiff, Int.reduceToNat, Int.reduceLE, fs_all, take_length_map, h0, h1, q14a, c13] <;> rfl) | rfl)

end Go.Proofs.Mm

namespace Go.Proofs.Mm
open Go Go.Ev

-- internal/stringslite.HasPrefix
def F21 (N : Nat) (a0 : Str) (a1 : Str) : Option (Bool) :=
  bindG ((decide ((a0.length : Int) ≥ (a1.length : Int)))) (chk (decide (a1.length ≤ a0.length))) fun _ =>
  some ((decide ((a0.length : Int) ≥ (a1.length : Int))) && ((a0.take a1.length) == a1))

set_option maxHeartbeats 4000000 in
theorem F21_does (E : Env) (N : Nat) (a0 : Str) (a1 : Str) (r : Bool) (h : F21 N a0 a1 = some r) : Does Try.prog E 21 [.fl (bs a0), .fl (bs a1)] (.ret [.v (.fl (.bool r))]) := by
  refine does_run Try.func21 Try.ntmps21 rfl rfl (by simp) fun w0 I0 s hr hb => ?_
  have h0 := hr 0
  have h1 := hr 1
  simp only [List.map_cons, List.map_nil, List.getElem?_cons_zero, List.getElem?_cons_succ, Option.getD_some] at h0 h1
  unfold F21 at h
  refine awp_seq fun K8 hK8 => ?_
  refine awp_region rfl (by kernel_rfl) ?_
  first | refine rops_k ?_ | refine ropsD_k ?_
  repeat (refine rops_ng rfl fun K hK => ?_; simp only [go_sem, reduceIte, Nat.reduceEqDiff, reduceCtorEq, Nat.reduceAdd, Nat.reduceMul, Nat.reduceLT, Nat.reduceLeDiff, Int.reduceToNat, Int.reduceLE]; refine hK _ ?_; clear hK K)
  first | refine rops_nil ?_ | refine ropsD_nil ?_
  try simp only [exs, reduceIte, Nat.reduceEqDiff]
  refine hK8 _ ?_
  refine awp_seq fun K9 hK9 => ?_
  obtain ⟨_, q10, h⟩ := bindG_some h
  refine awp_region rfl (by kernel_rfl) ?_
  have R12 : ∀ s11 : St, (s11.r 4 = .val (.fl (.bool ((decide ((a0.length : Int) ≥ (a1.length : Int))) && ((a0.take a1.length) == a1))))) → K9 s11 := by
    intro s11 h4
    refine hK9 _ ?_
    have h := Option.some.inj h
    subst h
    refine awp_ret ?_
    try simp only [exs, reduceIte, Nat.reduceEqDiff]
    refine fin_ret (vs := [.tmp 4]) Try.ntmps21 rfl (by simp [List.filter_cons, isOwn]) none ?_
    (simp only [resultsAre, resCell, loadRegs, regRV, go_sem, reduceIte, Nat.reduceEqDiff, reduceCtorEq, Nat.reduceAdd, Nat.reduceMul, Nat.reduceLT, Nat.reduceLeDiff, Int.reduceToNat, Int.reduceLE, fs_all, take_length_map, h4] <;> rfl)
  first | refine rops_k ?_ | refine ropsD_k ?_
  repeat (refine rops_ng rfl fun K hK => ?_; simp only [go_sem, reduceIte, Nat.reduceEqDiff, reduceCtorEq, Nat.reduceAdd, Nat.reduceMul, Nat.reduceLT, Nat.reduceLeDiff, Int.reduceToNat, Int.reduceLE, h0, h1]; refine hK _ ?_; clear hK K)
  rcases c13 : (decide ((a0.length : Int) ≥ (a1.length : Int))) with _ | _
  · repeat (first | (refine rops_ng rfl fun K hK => ?_; simp only [go_sem, reduceIte, Nat.reduceEqDiff, reduceCtorEq, Nat.reduceAdd, Nat.reduceMul, Nat.reduceLT, Nat.reduceLeDiff, Int.reduceToNat, Int.reduceLE, h0, h1, c13]; refine hK _ ?_; clear hK K) | (refine rops_on rfl rfl ?_ fun K hK => ?_; (focus (simp only [go_sem, reduceIte, Nat.reduceEqDiff, reduceCtorEq, Nat.reduceAdd, Nat.reduceMul, Nat.reduceLT, Nat.reduceLeDiff, Int.reduceToNat, Int.reduceLE, h0, h1, c13]; done)); simp only [go_sem, reduceIte, Nat.reduceEqDiff, reduceCtorEq, Nat.reduceAdd, Nat.reduceMul, Nat.reduceLT, Nat.reduceLeDiff, Int.reduceToNat, Int.reduceLE, h0, h1, c13]; refine hK _ ?_; clear hK K) | (refine rops_off rfl rfl ?_ ?_; (focus (simp only [go_sem, reduceIte, Nat.reduceEqDiff, reduceCtorEq, Nat.reduceAdd, Nat.reduceMul, Nat.reduceLT, Nat.reduceLeDiff, Int.reduceToNat, Int.reduceLE, h0, h1, c13]; done))))
    first | refine rops_nil ?_ | refine ropsD_nil ?_
    try simp only [exs, reduceIte, Nat.reduceEqDiff]
    refine R12 _ ?_
    · (first | (simp only [upd_apply, reduceIte, Nat.reduceEqDiff]; done) | (simp only [go_sem, reduceIte, Nat.reduceEqDiff, reduceCtorEq, Nat.reduceAdd, Nat.reduceMul, Nat.reduceLT, Nat.reduceLeDiff, Int.reduceToNat, Int.reduceLE, fs_all, take_length_map, h0, h1, c13] <;> rfl) | rfl)
  have q14 := q10 (by simp only [c13, fs_bool, beq_t, beq_f, beq_self_eq_true])
  have q14a := chk_some q14
  simp only [decide_eq_true_eq] at q14a
  repeat (first | (refine rops_ng rfl fun K hK => ?_; simp only [go_sem, reduceIte, Nat.reduceEqDiff, reduceCtorEq, Nat.reduceAdd, Nat.reduceMul, Nat.reduceLT, Nat.reduceLeDiff, Int.reduceToNat, Int.reduceLE, h0, h1, q14a, c13]; refine hK _ ?_; clear hK K) | (refine rops_on rfl rfl ?_ fun K hK => ?_; (focus (simp only [go_sem, reduceIte, Nat.reduceEqDiff, reduceCtorEq, Nat.reduceAdd, Nat.reduceMul, Nat.reduceLT, Nat.reduceLeDiff, Int.reduceToNat, Int.reduceLE, h0, h1, q14a, c13]; done)); simp only [go_sem, reduceIte, Nat.reduceEqDiff, reduceCtorEq, Nat.reduceAdd, Nat.reduceMul, Nat.reduceLT, Nat.reduceLeDiff, Int.reduceToNat, Int.reduceLE, h0, h1, q14a, c13]; refine hK _ ?_; clear hK K) | (refine rops_off rfl rfl ?_ ?_; (focus (simp only [go_sem, reduceIte, Nat.reduceEqDiff, reduceCtorEq, Nat.reduceAdd, Nat.reduceMul, Nat.reduceLT, Nat.reduceLeDiff, Int.reduceToNat, Int.reduceLE, h0, h1, q14a, c13]; done))))
  first | refine rops_nil ?_ | refine ropsD_nil ?_
  try simp only [exs, reduceIte, Nat.reduceEqDiff]
  refine R12 _ ?_
  · (first | (simp only [upd_apply, reduceIte, Nat.reduceEqDiff]; done) | (simp only [go_sem, reduceIte, Nat.reduceEqDiff, reduceCtorEq, Nat.reduceAdd, Nat.reduceMul, Nat.reduceLT, Nat.reduceLeDiff, Int.reduceToNat, Int.reduceLE, fs_all, take_length_map, h0, h1, q14a, c13] <;> rfl) | rfl)

end Go.Proofs.Mm

namespace Go.Proofs.Mm
open Go Go.Ev

-- internal/stringslite.TrimPrefix
def F39 (N : Nat) (a0 : Str) (a1 : Str) : Option (Str) :=
  (F21 N a0 a1).bind fun x13 =>
  bif x13 then
    (chk (decide (0 ≤ (a1.length : Int)) && decide (a1.length ≤ a0.length))).bind fun _ =>
    some ((a0.drop a1.length).take (a0.length - a1.length))
  else
    some a0

set_option maxHeartbeats 4000000 in
theorem F39_does (E : Env) (N : Nat) (a0 : Str) (a1 : Str) (r : Str) (h : F39 N a0 a1 = some r) : Does Try.prog E 39 [.fl (bs a0), .fl (bs a1)] (.ret [.v (.fl (bs r))]) := by
  refine does_run Try.func39 Try.ntmps39 rfl rfl (by simp) fun w0 I0 s hr hb => ?_
  have h0 := hr 0
  have h1 := hr 1
  simp only [List.map_cons, List.map_nil, List.getElem?_cons_zero, List.getElem?_cons_succ, Option.getD_some] at h0 h1
  unfold F39 at h
  refine awp_seq fun K10 hK10 => ?_
  refine awp_region rfl (by kernel_rfl) ?_
  first | refine rops_k ?_ | refine ropsD_k ?_
  repeat (refine rops_ng rfl fun K hK => ?_; simp only [go_sem, reduceIte, Nat.reduceEqDiff, reduceCtorEq, Nat.reduceAdd, Nat.reduceMul, Nat.reduceLT, Nat.reduceLeDiff, Int.reduceToNat, Int.reduceLE]; refine hK _ ?_; clear hK K)
  first | refine rops_nil ?_ | refine ropsD_nil ?_
  try simp only [exs, reduceIte, Nat.reduceEqDiff]
  refine hK10 _ ?_
  refine awp_seq fun K11 hK11 => ?_
  refine awp_seq fun K12 hK12 => ?_
  obtain ⟨x13, q14, h⟩ := bind_some h
  refine awp_region rfl (by kernel_rfl) ?_
  first | refine rops_k ?_ | refine ropsD_k ?_
  repeat (refine rops_ng rfl fun K hK => ?_; simp only [go_sem, reduceIte, Nat.reduceEqDiff, reduceCtorEq, Nat.reduceAdd, Nat.reduceMul, Nat.reduceLT, Nat.reduceLeDiff, Int.reduceToNat, Int.reduceLE, h0, h1]; refine hK _ ?_; clear hK K)
  refine rops_ng rfl fun K hK => ?_
  simp only [List.head?_cons, List.head?_nil, Option.map_some, Option.map_none, rops1, ropsD1, gtmp, gate, beq_self_eq_true, beq_t, beq_f, Bool.not_true, Bool.not_false, if_true, rOp, rOpD, calleeOf, regAVsOf, regAV, List.getElem?_toArray, List.getElem?_cons_zero, List.getElem?_cons_succ, Option.bind_some, upd_apply, reduceIte, Nat.reduceEqDiff, St.ev, constReg, constCell, St.put_some, St.put_none, h0, h1]
  refine .inl ⟨_, _, rfl, _, rfl, _, (F21_does _ N a0 a1  _ q14), ?_⟩
  simp only [flRV, outK, St.take, St.takeRVs, St.takeRV, retReg, St.put_some, St.put_none, List.map_cons, List.map_nil]
  refine hK _ ?_; clear hK K
  first | refine rops_nil ?_ | refine ropsD_nil ?_
  try simp only [exs, reduceIte, Nat.reduceEqDiff]
  refine hK12 _ ?_
  refine awp_if (by kernel_rfl) (by (simp only [upd_apply, reduceIte, Nat.reduceEqDiff, St.ev, constReg, constCell, St.put_some, St.put_none, h0, h1] <;> rfl)) (fun hc => ?_) (fun hc => ?_)
  · have c15 : (x13) = true := by first | exact hc | simpa using hc
    clear hc
    rw [c15] at h
    simp only [cond_true, cond_false] at h
    refine awp_seq fun K16 hK16 => ?_
    obtain ⟨_, q17, h⟩ := bind_some h
    have q17 := chk_some q17
    simp only [Bool.and_eq_true, decide_eq_true_eq, and_assoc] at q17
    obtain ⟨q17a, q17b⟩ := q17
    refine awp_region rfl (by kernel_rfl) ?_
    first | refine rops_k ?_ | refine ropsD_k ?_
    repeat (refine rops_ng rfl fun K hK => ?_; simp only [go_sem, reduceIte, Nat.reduceEqDiff, reduceCtorEq, Nat.reduceAdd, Nat.reduceMul, Nat.reduceLT, Nat.reduceLeDiff, Int.reduceToNat, Int.reduceLE, h0, h1, q17a, q17b]; refine hK _ ?_; clear hK K)
    first | refine rops_nil ?_ | refine ropsD_nil ?_
    try simp only [exs, reduceIte, Nat.reduceEqDiff]
    refine hK16 _ ?_
    have h := Option.some.inj h
    subst h
    refine awp_ret ?_
    try simp only [exs, reduceIte, Nat.reduceEqDiff]
    refine fin_ret (vs := [.tmp 4]) Try.ntmps39 rfl (by simp [List.filter_cons, isOwn]) none ?_
    (simp only [resultsAre, resCell, loadRegs, regRV, go_sem, reduceIte, Nat.reduceEqDiff, reduceCtorEq, Nat.reduceAdd, Nat.reduceMul, Nat.reduceLT, Nat.reduceLeDiff, Int.reduceToNat, Int.reduceLE, fs_all, take_length_map, h0, h1, q17a, q17b] <;> rfl)
  have c15 : (x13) = false := by first | exact hc | simpa using hc
  clear hc
  rw [c15] at h
  simp only [cond_true, cond_false] at h
  refine awp_skip ?_
  try simp only [exs, reduceIte, Nat.reduceEqDiff]
  refine hK11 _ ?_
  refine awp_seq fun K18 hK18 => ?_
  refine awp_region rfl (by kernel_rfl) ?_
  first | refine rops_k ?_ | refine ropsD_k ?_
  repeat (refine rops_ng rfl fun K hK => ?_; simp only [go_sem, reduceIte, Nat.reduceEqDiff, reduceCtorEq, Nat.reduceAdd, Nat.reduceMul, Nat.reduceLT, Nat.reduceLeDiff, Int.reduceToNat, Int.reduceLE, h0]; refine hK _ ?_; clear hK K)
  first | refine rops_nil ?_ | refine ropsD_nil ?_
  try simp only [exs, reduceIte, Nat.reduceEqDiff]
  refine hK18 _ ?_
  have h := Option.some.inj h
  subst h
  refine awp_ret ?_
  try simp only [exs, reduceIte, Nat.reduceEqDiff]
  refine fin_ret (vs := [.tmp 4]) Try.ntmps39 rfl (by simp [List.filter_cons, isOwn]) none ?_
  (simp only [resultsAre, resCell, loadRegs, regRV, go_sem, reduceIte, Nat.reduceEqDiff, reduceCtorEq, Nat.reduceAdd, Nat.reduceMul, Nat.reduceLT, Nat.reduceLeDiff, Int.reduceToNat, Int.reduceLE, fs_all, take_length_map, h0, h1] <;> rfl)

end Go.Proofs.Mm

namespace Go.Proofs.Mm
open Go Go.Ev

-- strings.TrimPrefix
def F37 (N : Nat) (a0 : Str) (a1 : Str) : Option (Str) :=
  (F39 N a0 a1).bind fun x7 =>
  some x7

set_option maxHeartbeats 4000000 in
theorem F37_does (E : Env) (N : Nat) (a0 : Str) (a1 : Str) (r : Str) (h : F37 N a0 a1 = some r) : Does Try.prog E 37 [.fl (bs a0), .fl (bs a1)] (.ret [.v (.fl (bs r))]) := by
  refine does_run Try.func37 Try.ntmps37 rfl rfl (by simp) fun w0 I0 s hr hb => ?_
  have h0 := hr 0
  have h1 := hr 1
  simp only [List.map_cons, List.map_nil, List.getElem?_cons_zero, List.getElem?_cons_succ, Option.getD_some] at h0 h1
  unfold F37 at h
  refine awp_seq fun K5 hK5 => ?_
  refine awp_region rfl (by kernel_rfl) ?_
  first | refine rops_k ?_ | refine ropsD_k ?_
  repeat (refine rops_ng rfl fun K hK => ?_; simp only [go_sem, reduceIte, Nat.reduceEqDiff, reduceCtorEq, Nat.reduceAdd, Nat.reduceMul, Nat.reduceLT, Nat.reduceLeDiff, Int.reduceToNat, Int.reduceLE]; refine hK _ ?_; clear hK K)
  first | refine rops_nil ?_ | refine ropsD_nil ?_
  try simp only [exs, reduceIte, Nat.reduceEqDiff]
  refine hK5 _ ?_
  refine awp_seq fun K6 hK6 => ?_
  obtain ⟨x7, q8, h⟩ := bind_some h
  refine awp_region rfl (by kernel_rfl) ?_
  first | refine rops_k ?_ | refine ropsD_k ?_
  repeat (refine rops_ng rfl fun K hK => ?_; simp only [go_sem, reduceIte, Nat.reduceEqDiff, reduceCtorEq, Nat.reduceAdd, Nat.reduceMul, Nat.reduceLT, Nat.reduceLeDiff, Int.reduceToNat, Int.reduceLE, h0, h1]; refine hK _ ?_; clear hK K)
  refine rops_ng rfl fun K hK => ?_
  simp only [List.head?_cons, List.head?_nil, Option.map_some, Option.map_none, rops1, ropsD1, gtmp, gate, beq_self_eq_true, beq_t, beq_f, Bool.not_true, Bool.not_false, if_true, rOp, rOpD, calleeOf, regAVsOf, regAV, List.getElem?_toArray, List.getElem?_cons_zero, List.getElem?_cons_succ, Option.bind_some, upd_apply, reduceIte, Nat.reduceEqDiff, St.ev, constReg, constCell, St.put_some, St.put_none, h0, h1]
  refine .inl ⟨_, _, rfl, _, rfl, _, (F39_does _ N a0 a1  _ q8), ?_⟩
  simp only [flRV, outK, St.take, St.takeRVs, St.takeRV, retReg, St.put_some, St.put_none, List.map_cons, List.map_nil]
  refine hK _ ?_; clear hK K
  repeat (refine rops_ng rfl fun K hK => ?_; simp only [go_sem, reduceIte, Nat.reduceEqDiff, reduceCtorEq, Nat.reduceAdd, Nat.reduceMul, Nat.reduceLT, Nat.reduceLeDiff, Int.reduceToNat, Int.reduceLE, h0, h1]; refine hK _ ?_; clear hK K)
  first | refine rops_nil ?_ | refine ropsD_nil ?_
  try simp only [exs, reduceIte, Nat.reduceEqDiff]
  refine hK6 _ ?_
  have h := Option.some.inj h
  subst h
  refine awp_ret ?_
  try simp only [exs, reduceIte, Nat.reduceEqDiff]
  refine fin_ret (vs := [.tmp 4]) Try.ntmps37 rfl (by simp [List.filter_cons, isOwn]) none ?_
  (simp only [resultsAre, resCell, loadRegs, regRV, go_sem, reduceIte, Nat.reduceEqDiff, reduceCtorEq, Nat.reduceAdd, Nat.reduceMul, Nat.reduceLT, Nat.reduceLeDiff, Int.reduceToNat, Int.reduceLE, fs_all, take_length_map, h0, h1] <;> rfl)

end Go.Proofs.Mm

namespace Go.Proofs.Mm
open Go Go.Ev

-- strings.HasPrefix
def F16 (N : Nat) (a0 : Str) (a1 : Str) : Option (Bool) :=
  (F21 N a0 a1).bind fun x7 =>
  some x7

set_option maxHeartbeats 4000000 in
theorem F16_does (E : Env) (N : Nat) (a0 : Str) (a1 : Str) (r : Bool) (h : F16 N a0 a1 = some r) : Does Try.prog E 16 [.fl (bs a0), .fl (bs a1)] (.ret [.v (.fl (.bool r))]) := by
  refine does_run Try.func16 Try.ntmps16 rfl rfl (by simp) fun w0 I0 s hr hb => ?_
  have h0 := hr 0
  have h1 := hr 1
  simp only [List.map_cons, List.map_nil, List.getElem?_cons_zero, List.getElem?_cons_succ, Option.getD_some] at h0 h1
  unfold F16 at h
  refine awp_seq fun K5 hK5 => ?_
  refine awp_region rfl (by kernel_rfl) ?_
  first | refine rops_k ?_ | refine ropsD_k ?_
  repeat (refine rops_ng rfl fun K hK => ?_; simp only [go_sem, reduceIte, Nat.reduceEqDiff, reduceCtorEq, Nat.reduceAdd, Nat.reduceMul, Nat.reduceLT, Nat.reduceLeDiff, Int.reduceToNat, Int.reduceLE]; refine hK _ ?_; clear hK K)
  first | refine rops_nil ?_ | refine ropsD_nil ?_
  try simp only [exs, reduceIte, Nat.reduceEqDiff]
  refine hK5 _ ?_
  refine awp_seq fun K6 hK6 => ?_
  obtain ⟨x7, q8, h⟩ := bind_some h
  refine awp_region rfl (by kernel_rfl) ?_
  first | refine rops_k ?_ | refine ropsD_k ?_
  repeat (refine rops_ng rfl fun K hK => ?_; simp only [go_sem, reduceIte, Nat.reduceEqDiff, reduceCtorEq, Nat.reduceAdd, Nat.reduceMul, Nat.reduceLT, Nat.reduceLeDiff, Int.reduceToNat, Int.reduceLE, h0, h1]; refine hK _ ?_; clear hK K)
  refine rops_ng rfl fun K hK => ?_
  simp only [List.head?_cons, List.head?_nil, Option.map_some, Option.map_none, rops1, ropsD1, gtmp, gate, beq_self_eq_true, beq_t, beq_f, Bool.not_true, Bool.not_false, if_true, rOp, rOpD, calleeOf, regAVsOf, regAV, List.getElem?_toArray, List.getElem?_cons_zero, List.getElem?_cons_succ, Option.bind_some, upd_apply, reduceIte, Nat.reduceEqDiff, St.ev, constReg, constCell, St.put_some, St.put_none, h0, h1]
  refine .inl ⟨_, _, rfl, _, rfl, _, (F21_does _ N a0 a1  _ q8), ?_⟩
  simp only [flRV, outK, St.take, St.takeRVs, St.takeRV, retReg, St.put_some, St.put_none, List.map_cons, List.map_nil]
  refine hK _ ?_; clear hK K
  repeat (refine rops_ng rfl fun K hK => ?_; simp only [go_sem, reduceIte, Nat.reduceEqDiff, reduceCtorEq, Nat.reduceAdd, Nat.reduceMul, Nat.reduceLT, Nat.reduceLeDiff, Int.reduceToNat, Int.reduceLE, h0, h1]; refine hK _ ?_; clear hK K)
  first | refine rops_nil ?_ | refine ropsD_nil ?_
  try simp only [exs, reduceIte, Nat.reduceEqDiff]
  refine hK6 _ ?_
  have h := Option.some.inj h
  subst h
  refine awp_ret ?_
  try simp only [exs, reduceIte, Nat.reduceEqDiff]
  refine fin_ret (vs := [.tmp 4]) Try.ntmps16 rfl (by simp [List.filter_cons, isOwn]) none ?_
  (simp only [resultsAre, resCell, loadRegs, regRV, go_sem, reduceIte, Nat.reduceEqDiff, reduceCtorEq, Nat.reduceAdd, Nat.reduceMul, Nat.reduceLT, Nat.reduceLeDiff, Int.reduceToNat, Int.reduceLE, fs_all, take_length_map, h0, h1] <;> rfl)

end Go.Proofs.Mm

namespace Go.Proofs.Mm
open Go Go.Ev

-- topiary/arena.letter
def F38 (N : Nat) (a0 : Int) : Option (Bool) :=
  some (((decide (a0 ≥ 65)) && (decide (a0 ≤ 90))) || ((decide (a0 ≥ 97)) && (decide (a0 ≤ 122))))

set_option maxHeartbeats 4000000 in
theorem F38_does (E : Env) (N : Nat) (a0 : Int) (r : Bool) (h : F38 N a0 = some r) : Does Try.prog E 38 [.fl (.int .u8 a0)] (.ret [.v (.fl (.bool r))]) := by
  refine does_run Try.func38 Try.ntmps38 rfl rfl (by simp) fun w0 I0 s hr hb => ?_
  have h0 := hr 0
  simp only [List.map_cons, List.map_nil, List.getElem?_cons_zero, List.getElem?_cons_succ, Option.getD_some] at h0
  unfold F38 at h
  refine awp_seq fun K9 hK9 => ?_
  refine awp_region rfl (by kernel_rfl) ?_
  first | refine rops_k ?_ | refine ropsD_k ?_
  repeat (refine rops_ng rfl fun K hK => ?_; simp only [go_sem, reduceIte, Nat.reduceEqDiff, reduceCtorEq, Nat.reduceAdd, Nat.reduceMul, Nat.reduceLT, Nat.reduceLeDiff, Int.reduceToNat, Int.reduceLE]; refine hK _ ?_; clear hK K)
  first | refine rops_nil ?_ | refine ropsD_nil ?_
  try simp only [exs, reduceIte, Nat.reduceEqDiff]
  refine hK9 _ ?_
  refine awp_seq fun K10 hK10 => ?_
  refine awp_region rfl (by kernel_rfl) ?_
  have R12 : ∀ s11 : St, (s11.r 2 = .val (.fl (.bool (((decide (a0 ≥ 65)) && (decide (a0 ≤ 90))) || ((decide (a0 ≥ 97)) && (decide (a0 ≤ 122))))))) → K10 s11 := by
    intro s11 h2
    refine hK10 _ ?_
    have h := Option.some.inj h
    subst h
    refine awp_ret ?_
    try simp only [exs, reduceIte, Nat.reduceEqDiff]
    refine fin_ret (vs := [.tmp 2]) Try.ntmps38 rfl (by simp [List.filter_cons, isOwn]) none ?_
    (simp only [resultsAre, resCell, loadRegs, regRV, go_sem, reduceIte, Nat.reduceEqDiff, reduceCtorEq, Nat.reduceAdd, Nat.reduceMul, Nat.reduceLT, Nat.reduceLeDiff, Int.reduceToNat, Int.reduceLE, fs_all, take_length_map, h2] <;> rfl)
  first | refine rops_k ?_ | refine ropsD_k ?_
  repeat (refine rops_ng rfl fun K hK => ?_; simp only [go_sem, reduceIte, Nat.reduceEqDiff, reduceCtorEq, Nat.reduceAdd, Nat.reduceMul, Nat.reduceLT, Nat.reduceLeDiff, Int.reduceToNat, Int.reduceLE, h0]; refine hK _ ?_; clear hK K)
  rcases c13 : (decide (a0 ≥ 65)) with _ | _
  · repeat (first | (refine rops_ng rfl fun K hK => ?_; simp only [go_sem, reduceIte, Nat.reduceEqDiff, reduceCtorEq, Nat.reduceAdd, Nat.reduceMul, Nat.reduceLT, Nat.reduceLeDiff, Int.reduceToNat, Int.reduceLE, h0, c13]; refine hK _ ?_; clear hK K) | (refine rops_on rfl rfl ?_ fun K hK => ?_; (focus (simp only [go_sem, reduceIte, Nat.reduceEqDiff, reduceCtorEq, Nat.reduceAdd, Nat.reduceMul, Nat.reduceLT, Nat.reduceLeDiff, Int.reduceToNat, Int.reduceLE, h0, c13]; done)); simp only [go_sem, reduceIte, Nat.reduceEqDiff, reduceCtorEq, Nat.reduceAdd, Nat.reduceMul, Nat.reduceLT, Nat.reduceLeDiff, Int.reduceToNat, Int.reduceLE, h0, c13]; refine hK _ ?_; clear hK K) | (refine rops_off rfl rfl ?_ ?_; (focus (simp only [go_sem, reduceIte, Nat.reduceEqDiff, reduceCtorEq, Nat.reduceAdd, Nat.reduceMul, Nat.reduceLT, Nat.reduceLeDiff, Int.reduceToNat, Int.reduceLE, h0, c13]; done))))
    rcases c14 : (decide (a0 ≥ 97)) with _ | _
    · repeat (first | (refine rops_ng rfl fun K hK => ?_; simp only [go_sem, reduceIte, Nat.reduceEqDiff, reduceCtorEq, Nat.reduceAdd, Nat.reduceMul, Nat.reduceLT, Nat.reduceLeDiff, Int.reduceToNat, Int.reduceLE, h0, c13, c14]; refine hK _ ?_; clear hK K) | (refine rops_on rfl rfl ?_ fun K hK => ?_; (focus (simp only [go_sem, reduceIte, Nat.reduceEqDiff, reduceCtorEq, Nat.reduceAdd, Nat.reduceMul, Nat.reduceLT, Nat.reduceLeDiff, Int.reduceToNat, Int.reduceLE, h0, c13, c14]; done)); simp only [go_sem, reduceIte, Nat.reduceEqDiff, reduceCtorEq, Nat.reduceAdd, Nat.reduceMul, Nat.reduceLT, Nat.reduceLeDiff, Int.reduceToNat, Int.reduceLE, h0, c13, c14]; refine hK _ ?_; clear hK K) | (refine rops_off rfl rfl ?_ ?_; (focus (simp only [go_sem, reduceIte, Nat.reduceEqDiff, reduceCtorEq, Nat.reduceAdd, Nat.reduceMul, Nat.reduceLT, Nat.reduceLeDiff, Int.reduceToNat, Int.reduceLE, h0, c13, c14]; done))))
      first | refine rops_nil ?_ | refine ropsD_nil ?_
      try simp only [exs, reduceIte, Nat.reduceEqDiff]
      refine R12 _ ?_
      · (first | (simp only [upd_apply, reduceIte, Nat.reduceEqDiff]; done) | (simp only [go_sem, reduceIte, Nat.reduceEqDiff, reduceCtorEq, Nat.reduceAdd, Nat.reduceMul, Nat.reduceLT, Nat.reduceLeDiff, Int.reduceToNat, Int.reduceLE, fs_all, take_length_map, h0, c13, c14] <;> rfl) | rfl)
    repeat (first | (refine rops_ng rfl fun K hK => ?_; simp only [go_sem, reduceIte, Nat.reduceEqDiff, reduceCtorEq, Nat.reduceAdd, Nat.reduceMul, Nat.reduceLT, Nat.reduceLeDiff, Int.reduceToNat, Int.reduceLE, h0, c13, c14]; refine hK _ ?_; clear hK K) | (refine rops_on rfl rfl ?_ fun K hK => ?_; (focus (simp only [go_sem, reduceIte, Nat.reduceEqDiff, reduceCtorEq, Nat.reduceAdd, Nat.reduceMul, Nat.reduceLT, Nat.reduceLeDiff, Int.reduceToNat, Int.reduceLE, h0, c13, c14]; done)); simp only [go_sem, reduceIte, Nat.reduceEqDiff, reduceCtorEq, Nat.reduceAdd, Nat.reduceMul, Nat.reduceLT, Nat.reduceLeDiff, Int.reduceToNat, Int.reduceLE, h0, c13, c14]; refine hK _ ?_; clear hK K) | (refine rops_off rfl rfl ?_ ?_; (focus (simp only [go_sem, reduceIte, Nat.reduceEqDiff, reduceCtorEq, Nat.reduceAdd, Nat.reduceMul, Nat.reduceLT, Nat.reduceLeDiff, Int.reduceToNat, Int.reduceLE, h0, c13, c14]; done))))
    first | refine rops_nil ?_ | refine ropsD_nil ?_
    try simp only [exs, reduceIte, Nat.reduceEqDiff]
    refine R12 _ ?_
    · (first | (simp only [upd_apply, reduceIte, Nat.reduceEqDiff]; done) | (simp only [go_sem, reduceIte, Nat.reduceEqDiff, reduceCtorEq, Nat.reduceAdd, Nat.reduceMul, Nat.reduceLT, Nat.reduceLeDiff, Int.reduceToNat, Int.reduceLE, fs_all, take_length_map, h0, c13, c14] <;> rfl) | rfl)
  repeat (first | (refine rops_ng rfl fun K hK => ?_; simp only [go_sem, reduceIte, Nat.reduceEqDiff, reduceCtorEq, Nat.reduceAdd, Nat.reduceMul, Nat.reduceLT, Nat.reduceLeDiff, Int.reduceToNat, Int.reduceLE, h0, c13]; refine hK _ ?_; clear hK K) | (refine rops_on rfl rfl ?_ fun K hK => ?_; (focus (simp only [go_sem, reduceIte, Nat.reduceEqDiff, reduceCtorEq, Nat.reduceAdd, Nat.reduceMul, Nat.reduceLT, Nat.reduceLeDiff, Int.reduceToNat, Int.reduceLE, h0, c13]; done)); simp only [go_sem, reduceIte, Nat.reduceEqDiff, reduceCtorEq, Nat.reduceAdd, Nat.reduceMul, Nat.reduceLT, Nat.reduceLeDiff, Int.reduceToNat, Int.reduceLE, h0, c13]; refine hK _ ?_; clear hK K) | (refine rops_off rfl rfl ?_ ?_; (focus (simp only [go_sem, reduceIte, Nat.reduceEqDiff, reduceCtorEq, Nat.reduceAdd, Nat.reduceMul, Nat.reduceLT, Nat.reduceLeDiff, Int.reduceToNat, Int.reduceLE, h0, c13]; done))))
  rcases c15 : (decide (a0 ≤ 90)) with _ | _
  · repeat (first | (refine rops_ng rfl fun K hK => ?_; simp only [go_sem, reduceIte, Nat.reduceEqDiff, reduceCtorEq, Nat.reduceAdd, Nat.reduceMul, Nat.reduceLT, Nat.reduceLeDiff, Int.reduceToNat, Int.reduceLE, h0, c13, c15]; refine hK _ ?_; clear hK K) | (refine rops_on rfl rfl ?_ fun K hK => ?_; (focus (simp only [go_sem, reduceIte, Nat.reduceEqDiff, reduceCtorEq, Nat.reduceAdd, Nat.reduceMul, Nat.reduceLT, Nat.reduceLeDiff, Int.reduceToNat, Int.reduceLE, h0, c13, c15]; done)); simp only [go_sem, reduceIte, Nat.reduceEqDiff, reduceCtorEq, Nat.reduceAdd, Nat.reduceMul, Nat.reduceLT, Nat.reduceLeDiff, Int.reduceToNat, Int.reduceLE, h0, c13, c15]; refine hK _ ?_; clear hK K) | (refine rops_off rfl rfl ?_ ?_; (focus (simp only [go_sem, reduceIte, Nat.reduceEqDiff, reduceCtorEq, Nat.reduceAdd, Nat.reduceMul, Nat.reduceLT, Nat.reduceLeDiff, Int.reduceToNat, Int.reduceLE, h0, c13, c15]; done))))
    rcases c16 : (decide (a0 ≥ 97)) with _ | _
    · repeat (first | (refine rops_ng rfl fun K hK => ?_; simp only [go_sem, reduceIte, Nat.reduceEqDiff, reduceCtorEq, Nat.reduceAdd, Nat.reduceMul, Nat.reduceLT, Nat.reduceLeDiff, Int.reduceToNat, Int.reduceLE, h0, c13, c15, c16]; refine hK _ ?_; clear hK K) | (refine rops_on rfl rfl ?_ fun K hK => ?_; (focus (simp only [go_sem, reduceIte, Nat.reduceEqDiff, reduceCtorEq, Nat.reduceAdd, Nat.reduceMul, Nat.reduceLT, Nat.reduceLeDiff, Int.reduceToNat, Int.reduceLE, h0, c13, c15, c16]; done)); simp only [go_sem, reduceIte, Nat.reduceEqDiff, reduceCtorEq, Nat.reduceAdd, Nat.reduceMul, Nat.reduceLT, Nat.reduceLeDiff, Int.reduceToNat, Int.reduceLE, h0, c13, c15, c16]; refine hK _ ?_; clear hK K) | (refine rops_off rfl rfl ?_ ?_; (focus (simp only [go_sem, reduceIte, Nat.reduceEqDiff, reduceCtorEq, Nat.reduceAdd, Nat.reduceMul, Nat.reduceLT, Nat.reduceLeDiff, Int.reduceToNat, Int.reduceLE, h0, c13, c15, c16]; done))))
      first | refine rops_nil ?_ | refine ropsD_nil ?_
      try simp only [exs, reduceIte, Nat.reduceEqDiff]
      refine R12 _ ?_
      · (first | (simp only [upd_apply, reduceIte, Nat.reduceEqDiff]; done) | (simp only [go_sem, reduceIte, Nat.reduceEqDiff, reduceCtorEq, Nat.reduceAdd, Nat.reduceMul, Nat.reduceLT, Nat.reduceLeDiff, Int.reduceToNat, Int.reduceLE, fs_all, take_length_map, h0, c13, c15, c16] <;> rfl) | rfl)
    repeat (first | (refine rops_ng rfl fun K hK => ?_; simp only [go_sem, reduceIte, Nat.reduceEqDiff, reduceCtorEq, Nat.reduceAdd, Nat.reduceMul, Nat.reduceLT, Nat.reduceLeDiff, Int.reduceToNat, Int.reduceLE, h0, c13, c15, c16]; refine hK _ ?_; clear hK K) | (refine rops_on rfl rfl ?_ fun K hK => ?_; (focus (simp only [go_sem, reduceIte, Nat.reduceEqDiff, reduceCtorEq, Nat.reduceAdd, Nat.reduceMul, Nat.reduceLT, Nat.reduceLeDiff, Int.reduceToNat, Int.reduceLE, h0, c13, c15, c16]; done)); simp only [go_sem, reduceIte, Nat.reduceEqDiff, reduceCtorEq, Nat.reduceAdd, Nat.reduceMul, Nat.reduceLT, Nat.reduceLeDiff, Int.reduceToNat, Int.reduceLE, h0, c13, c15, c16]; refine hK _ ?_; clear hK K) | (refine rops_off rfl rfl ?_ ?_; (focus (simp only [go_sem, reduceIte, Nat.reduceEqDiff, reduceCtorEq, Nat.reduceAdd, Nat.reduceMul, Nat.reduceLT, Nat.reduceLeDiff, Int.reduceToNat, Int.reduceLE, h0, c13, c15, c16]; done))))
    first | refine rops_nil ?_ | refine ropsD_nil ?_
    try simp only [exs, reduceIte, Nat.reduceEqDiff]
    refine R12 _ ?_
    · (first | (simp only [upd_apply, reduceIte, Nat.reduceEqDiff]; done) | (simp only [go_sem, reduceIte, Nat.reduceEqDiff, reduceCtorEq, Nat.reduceAdd, Nat.reduceMul, Nat.reduceLT, Nat.reduceLeDiff, Int.reduceToNat, Int.reduceLE, fs_all, take_length_map, h0, c13, c15, c16] <;> rfl) | rfl)
  repeat (first | (refine rops_ng rfl fun K hK => ?_; simp only [go_sem, reduceIte, Nat.reduceEqDiff, reduceCtorEq, Nat.reduceAdd, Nat.reduceMul, Nat.reduceLT, Nat.reduceLeDiff, Int.reduceToNat, Int.reduceLE, h0, c13, c15]; refine hK _ ?_; clear hK K) | (refine rops_on rfl rfl ?_ fun K hK => ?_; (focus (simp only [go_sem, reduceIte, Nat.reduceEqDiff, reduceCtorEq, Nat.reduceAdd, Nat.reduceMul, Nat.reduceLT, Nat.reduceLeDiff, Int.reduceToNat, Int.reduceLE, h0, c13, c15]; done)); simp only [go_sem, reduceIte, Nat.reduceEqDiff, reduceCtorEq, Nat.reduceAdd, Nat.reduceMul, Nat.reduceLT, Nat.reduceLeDiff, Int.reduceToNat, Int.reduceLE, h0, c13, c15]; refine hK _ ?_; clear hK K) | (refine rops_off rfl rfl ?_ ?_; (focus (simp only [go_sem, reduceIte, Nat.reduceEqDiff, reduceCtorEq, Nat.reduceAdd, Nat.reduceMul, Nat.reduceLT, Nat.reduceLeDiff, Int.reduceToNat, Int.reduceLE, h0, c13, c15]; done))))
  first | refine rops_nil ?_ | refine ropsD_nil ?_
  try simp only [exs, reduceIte, Nat.reduceEqDiff]
  refine R12 _ ?_
  · (first | (simp only [upd_apply, reduceIte, Nat.reduceEqDiff]; done) | (simp only [go_sem, reduceIte, Nat.reduceEqDiff, reduceCtorEq, Nat.reduceAdd, Nat.reduceMul, Nat.reduceLT, Nat.reduceLeDiff, Int.reduceToNat, Int.reduceLE, fs_all, take_length_map, h0, c13, c15] <;> rfl) | rfl)

end Go.Proofs.Mm

namespace Go.Proofs.Mm
open Go Go.Ev

-- topiary/topiaryref14.Same
def F11_J1  : Option (Bool) :=
  some true

def F11_L1 (a0 : List Itm) (a1 : List Itm) : Nat → Int → Option (Bool)
  | 0, _ => none
  | n176 + 1, p162 =>
    bif decide (p162 < (a0.length : Int)) then
      (getO a0 p162).bind fun x183 =>
      (getO a1 p162).bind fun x184 =>
      bif !((x183.concept == x184.concept) && ((x183.target == x184.target) && true)) then
        some false
      else
        (F11_L1 a0 a1 n176) (IntKind.i64.wrap (p162 + 1))
    else
      F11_J1 

def F11 (N : Nat) (a0 : List Itm) (a1 : List Itm) : Option (Bool) :=
  bif !((a0.length : Int) == (a1.length : Int)) then
    some false
  else
    F11_L1 a0 a1 N 0

set_option maxHeartbeats 4000000 in
theorem F11_does (E : Env) (N : Nat) (a0 : List Itm) (a1 : List Itm) (r : Bool) (h : F11 N a0 a1 = some r) : Does Try.prog E 11 [.sl (List.map Itm.av a0), .sl (List.map Itm.av a1)] (.ret [.v (.fl (.bool r))]) := by
  refine does_run Try.func11 Try.ntmps11 rfl rfl (by simp) fun w0 I0 s hr hb => ?_
  have h0 := hr 0
  have h1 := hr 1
  simp only [List.map_cons, List.map_nil, List.getElem?_cons_zero, List.getElem?_cons_succ, Option.getD_some] at h0 h1
  unfold F11 at h
  refine awp_seq fun K96 hK96 => ?_
  refine awp_region rfl (by kernel_rfl) ?_
  first | refine rops_k ?_ | refine ropsD_k ?_
  repeat (refine rops_ng rfl fun K hK => ?_; simp only [go_sem, reduceIte, Nat.reduceEqDiff, reduceCtorEq, Nat.reduceAdd, Nat.reduceMul, Nat.reduceLT, Nat.reduceLeDiff, Int.reduceToNat, Int.reduceLE]; refine hK _ ?_; clear hK K)
  first | refine rops_nil ?_ | refine ropsD_nil ?_
  try simp only [exs, reduceIte, Nat.reduceEqDiff]
  refine hK96 _ ?_
  refine awp_seq fun K97 hK97 => ?_
  refine awp_seq fun K98 hK98 => ?_
  refine awp_region rfl (by kernel_rfl) ?_
  first | refine rops_k ?_ | refine ropsD_k ?_
  repeat (refine rops_ng rfl fun K hK => ?_; simp only [go_sem, reduceIte, Nat.reduceEqDiff, reduceCtorEq, Nat.reduceAdd, Nat.reduceMul, Nat.reduceLT, Nat.reduceLeDiff, Int.reduceToNat, Int.reduceLE, h0, h1]; refine hK _ ?_; clear hK K)
  first | refine rops_nil ?_ | refine ropsD_nil ?_
  try simp only [exs, reduceIte, Nat.reduceEqDiff]
  refine hK98 _ ?_
  refine awp_if (by kernel_rfl) (by (simp only [upd_apply, reduceIte, Nat.reduceEqDiff, St.ev, constReg, constCell, St.put_some, St.put_none, h0, h1] <;> rfl)) (fun hc => ?_) (fun hc => ?_)
  · have c99 : (!((a0.length : Int) == (a1.length : Int))) = true := by first | exact hc | simpa using hc
    clear hc
    rw [c99] at h
    simp only [cond_true, cond_false] at h
    refine awp_seq fun K100 hK100 => ?_
    refine awp_region rfl (by kernel_rfl) ?_
    first | refine rops_k ?_ | refine ropsD_k ?_
    repeat (refine rops_ng rfl fun K hK => ?_; simp only [go_sem, reduceIte, Nat.reduceEqDiff, reduceCtorEq, Nat.reduceAdd, Nat.reduceMul, Nat.reduceLT, Nat.reduceLeDiff, Int.reduceToNat, Int.reduceLE]; refine hK _ ?_; clear hK K)
    first | refine rops_nil ?_ | refine ropsD_nil ?_
    try simp only [exs, reduceIte, Nat.reduceEqDiff]
    refine hK100 _ ?_
    have h := Option.some.inj h
    subst h
    refine awp_ret ?_
    try simp only [exs, reduceIte, Nat.reduceEqDiff]
    refine fin_ret (vs := [.tmp 4]) Try.ntmps11 rfl (by simp [List.filter_cons, isOwn]) none ?_
    (simp only [resultsAre, resCell, loadRegs, regRV, go_sem, reduceIte, Nat.reduceEqDiff, reduceCtorEq, Nat.reduceAdd, Nat.reduceMul, Nat.reduceLT, Nat.reduceLeDiff, Int.reduceToNat, Int.reduceLE, fs_all, take_length_map, h0, h1] <;> rfl)
  have c99 : (!((a0.length : Int) == (a1.length : Int))) = false := by first | exact hc | simpa using hc
  clear hc
  rw [c99] at h
  simp only [cond_true, cond_false] at h
  refine awp_skip ?_
  try simp only [exs, reduceIte, Nat.reduceEqDiff]
  refine hK97 _ ?_
  refine awp_seq fun K101 hK101 => ?_
  have J1 : ∀  (s145 : St), True → F11_J1  = some r → K101 s145 := by
    intro  s145 _ h
    unfold F11_J1 at h
    refine hK101 _ ?_
    refine awp_seq fun K146 hK146 => ?_
    refine awp_region rfl (by kernel_rfl) ?_
    first | refine rops_k ?_ | refine ropsD_k ?_
    repeat (refine rops_ng rfl fun K hK => ?_; simp only [go_sem, reduceIte, Nat.reduceEqDiff, reduceCtorEq, Nat.reduceAdd, Nat.reduceMul, Nat.reduceLT, Nat.reduceLeDiff, Int.reduceToNat, Int.reduceLE]; refine hK _ ?_; clear hK K)
    first | refine rops_nil ?_ | refine ropsD_nil ?_
    try simp only [exs, reduceIte, Nat.reduceEqDiff]
    refine hK146 _ ?_
    have h := Option.some.inj h
    subst h
    refine awp_ret ?_
    try simp only [exs, reduceIte, Nat.reduceEqDiff]
    refine fin_ret (vs := [.tmp 4]) Try.ntmps11 rfl (by simp [List.filter_cons, isOwn]) none ?_
    (simp only [resultsAre, resCell, loadRegs, regRV, go_sem, reduceIte, Nat.reduceEqDiff, reduceCtorEq, Nat.reduceAdd, Nat.reduceMul, Nat.reduceLT, Nat.reduceLeDiff, Int.reduceToNat, Int.reduceLE, fs_all, take_length_map] <;> rfl)
  refine awp_seq fun K147 hK147 => ?_
  refine awp_region rfl (by kernel_rfl) ?_
  first | refine rops_k ?_ | refine ropsD_k ?_
  repeat (refine rops_ng rfl fun K hK => ?_; simp only [go_sem, reduceIte, Nat.reduceEqDiff, reduceCtorEq, Nat.reduceAdd, Nat.reduceMul, Nat.reduceLT, Nat.reduceLeDiff, Int.reduceToNat, Int.reduceLE]; refine hK _ ?_; clear hK K)
  first | refine rops_nil ?_ | refine ropsD_nil ?_
  try simp only [exs, reduceIte, Nat.reduceEqDiff]
  refine hK147 _ ?_
  refine awp_block ?_
  refine awp_loopK (fun m s175 => ∃ (p162 : Int), s175.r 0 = .val (.sl (List.map Itm.av a0)) ∧ s175.r 1 = .val (.sl (List.map Itm.av a1)) ∧ s175.r 5 = .val (.fl (.int .i64 p162)) ∧  F11_L1 a0 a1 m p162 = some r) N ?_ ?_
  · refine ⟨0, ?_, ?_, ?_, h⟩
    · simp only [upd_apply, reduceIte, Nat.reduceEqDiff, h0]
    · simp only [upd_apply, reduceIte, Nat.reduceEqDiff, h1]
    · (first | (simp only [upd_apply, reduceIte, Nat.reduceEqDiff]; done) | (simp only [go_sem, reduceIte, Nat.reduceEqDiff, reduceCtorEq, Nat.reduceAdd, Nat.reduceMul, Nat.reduceLT, Nat.reduceLeDiff, Int.reduceToNat, Int.reduceLE, fs_all, take_length_map, h0, h1] <;> rfl) | rfl)
  clear h
  intro m177 s175 hI K148 hK148
  obtain ⟨p162, h0, h1, h5, h⟩ := hI
  rcases m177 with _ | n176
  · simp only [F11_L1, reduceCtorEq] at h
  rw [F11_L1] at h
  refine awp_seq fun K178 hK178 => ?_
  refine awp_seq fun K179 hK179 => ?_
  refine awp_region rfl (by kernel_rfl) ?_
  first | refine rops_k ?_ | refine ropsD_k ?_
  repeat (refine rops_ng rfl fun K hK => ?_; simp only [go_sem, reduceIte, Nat.reduceEqDiff, reduceCtorEq, Nat.reduceAdd, Nat.reduceMul, Nat.reduceLT, Nat.reduceLeDiff, Int.reduceToNat, Int.reduceLE, h0, h5]; refine hK _ ?_; clear hK K)
  first | refine rops_nil ?_ | refine ropsD_nil ?_
  try simp only [exs, reduceIte, Nat.reduceEqDiff]
  refine hK179 _ ?_
  refine awp_if (by kernel_rfl) (by (simp only [upd_apply, reduceIte, Nat.reduceEqDiff, St.ev, constReg, constCell, St.put_some, St.put_none, h0, h1, h5] <;> rfl)) (fun hc => ?_) (fun hc => ?_)
  · have c180 : (decide (p162 < (a0.length : Int))) = true := by first | exact hc | simpa using hc
    clear hc
    rw [c180] at h
    simp only [cond_true, cond_false] at h
    refine awp_skip ?_
    try simp only [exs, reduceIte, Nat.reduceEqDiff]
    refine hK178 _ ?_
    refine awp_seq fun K181 hK181 => ?_
    refine awp_block ?_
    refine awp_seq fun K182 hK182 => ?_
    obtain ⟨x183, q185, h⟩ := bind_some h
    obtain ⟨q185i, q185e, q185l⟩ := getO_some q185
    obtain ⟨x184, q186, h⟩ := bind_some h
    obtain ⟨q186i, q186e, q186l⟩ := getO_some q186
    refine awp_draw (by kernel_rfl) rfl (by kernel_rfl) (by kernel_rfl) ?_
    first | refine rops_k ?_ | refine ropsD_k ?_
    repeat (refine ropsD_ng rfl fun K hK => ?_; simp only [go_sem, reduceIte, Nat.reduceEqDiff, reduceCtorEq, Nat.reduceAdd, Nat.reduceMul, Nat.reduceLT, Nat.reduceLeDiff, Int.reduceToNat, Int.reduceLE, h0, h1, h5, q185i, q185e, q185l, q186i, q186e, q186l]; refine hK _ ?_; clear hK K)
    first | refine rops_nil ?_ | refine ropsD_nil ?_
    try simp only [exs, reduceIte, Nat.reduceEqDiff]
    refine hK182 _ ?_
    refine awp_if (by kernel_rfl) (by (simp only [upd_apply, reduceIte, Nat.reduceEqDiff, St.ev, constReg, constCell, St.put_some, St.put_none, h0, h1, h5, q185i, q185e, q185l, q186i, q186e, q186l] <;> rfl)) (fun hc => ?_) (fun hc => ?_)
    · have c187 : (!((x183.concept == x184.concept) && ((x183.target == x184.target) && true))) = true := by first | exact hc | simpa using hc
      clear hc
      rw [c187] at h
      simp only [cond_true, cond_false] at h
      refine awp_seq fun K188 hK188 => ?_
      refine awp_region rfl (by kernel_rfl) ?_
      first | refine rops_k ?_ | refine ropsD_k ?_
      repeat (refine rops_ng rfl fun K hK => ?_; simp only [go_sem, reduceIte, Nat.reduceEqDiff, reduceCtorEq, Nat.reduceAdd, Nat.reduceMul, Nat.reduceLT, Nat.reduceLeDiff, Int.reduceToNat, Int.reduceLE]; refine hK _ ?_; clear hK K)
      first | refine rops_nil ?_ | refine ropsD_nil ?_
      try simp only [exs, reduceIte, Nat.reduceEqDiff]
      refine hK188 _ ?_
      have h := Option.some.inj h
      subst h
      refine awp_ret ?_
      try simp only [exs, reduceIte, Nat.reduceEqDiff]
      refine fin_ret (vs := [.tmp 4]) Try.ntmps11 rfl (by simp [List.filter_cons, isOwn]) none ?_
      (simp only [resultsAre, resCell, loadRegs, regRV, go_sem, reduceIte, Nat.reduceEqDiff, reduceCtorEq, Nat.reduceAdd, Nat.reduceMul, Nat.reduceLT, Nat.reduceLeDiff, Int.reduceToNat, Int.reduceLE, fs_all, take_length_map, h0, h1, h5, q185i, q185e, q185l, q186i, q186e, q186l] <;> rfl)
    have c187 : (!((x183.concept == x184.concept) && ((x183.target == x184.target) && true))) = false := by first | exact hc | simpa using hc
    clear hc
    rw [c187] at h
    simp only [cond_true, cond_false] at h
    refine awp_skip ?_
    try simp only [exs, reduceIte, Nat.reduceEqDiff]
    refine hK181 _ ?_
    refine awp_region rfl (by kernel_rfl) ?_
    first | refine rops_k ?_ | refine ropsD_k ?_
    repeat (refine rops_ng rfl fun K hK => ?_; simp only [go_sem, reduceIte, Nat.reduceEqDiff, reduceCtorEq, Nat.reduceAdd, Nat.reduceMul, Nat.reduceLT, Nat.reduceLeDiff, Int.reduceToNat, Int.reduceLE, h5, q185i, q185e, q185l, q186i, q186e, q186l]; refine hK _ ?_; clear hK K)
    first | refine rops_nil ?_ | refine ropsD_nil ?_
    try simp only [exs, reduceIte, Nat.reduceEqDiff]
    refine hK148 _ ⟨n176, Nat.lt_succ_self _, (IntKind.i64.wrap (p162 + 1)), ?_, ?_, ?_, h⟩
    · simp only [upd_apply, reduceIte, Nat.reduceEqDiff, h0]
    · simp only [upd_apply, reduceIte, Nat.reduceEqDiff, h1]
    · (first | (simp only [upd_apply, reduceIte, Nat.reduceEqDiff, h5]; done) | (simp only [go_sem, reduceIte, Nat.reduceEqDiff, reduceCtorEq, Nat.reduceAdd, Nat.reduceMul, Nat.reduceLT, Nat.reduceLeDiff, Int.reduceToNat, Int.reduceLE, fs_all, take_length_map, h0, h1, h5, q185i, q185e, q185l, q186i, q186e, q186l] <;> rfl) | rfl)
  have c180 : (decide (p162 < (a0.length : Int))) = false := by first | exact hc | simpa using hc
  clear hc
  rw [c180] at h
  simp only [cond_true, cond_false] at h
  refine awp_exit ?_
  try simp only [exs, reduceIte, Nat.reduceEqDiff]
  refine J1  _ trivial h

end Go.Proofs.Mm

namespace Go.Proofs.Mm
open Go Go.Ev

-- topiary/arena.place$1
def F30 (N : Nat) (a0 : Nd) (a1 : Int) : Option (Int) :=
  some (IntKind.i64.wrap (a0.id - a1))

set_option maxHeartbeats 4000000 in
theorem F30_does (E : Env) (N : Nat) (a0 : Nd) (a1 : Int) (r : Int) (h : F30 N a0 a1 = some r) : Does Try.prog E 30 [.agg [.fl (.int .i64 a0.id), .fl (bs a0.concept), .fl (.int .i64 a0.parent), .fl (bs a0.role), .sl (List.map Prp.av a0.props), .sl (List.map intAV a0.kids), .sl (List.map Rf.av a0.refs)], .fl (.int .i64 a1)] (.ret [.v (.fl (.int .i64 r))]) := by
  refine does_run Try.func30 Try.ntmps30 rfl rfl (by simp) fun w0 I0 s hr hb => ?_
  have h0 := hr 0
  have h1 := hr 1
  simp only [List.map_cons, List.map_nil, List.getElem?_cons_zero, List.getElem?_cons_succ, Option.getD_some] at h0 h1
  unfold F30 at h
  refine awp_seq fun K3 hK3 => ?_
  refine awp_region rfl (by kernel_rfl) ?_
  first | refine rops_k ?_ | refine ropsD_k ?_
  repeat (refine rops_ng rfl fun K hK => ?_; simp only [go_sem, reduceIte, Nat.reduceEqDiff, reduceCtorEq, Nat.reduceAdd, Nat.reduceMul, Nat.reduceLT, Nat.reduceLeDiff, Int.reduceToNat, Int.reduceLE, h0]; refine hK _ ?_; clear hK K)
  first | refine rops_nil ?_ | refine ropsD_nil ?_
  try simp only [exs, reduceIte, Nat.reduceEqDiff]
  refine hK3 _ ?_
  refine awp_seq fun K4 hK4 => ?_
  refine awp_region rfl (by kernel_rfl) ?_
  first | refine rops_k ?_ | refine ropsD_k ?_
  repeat (refine rops_ng rfl fun K hK => ?_; simp only [go_sem, reduceIte, Nat.reduceEqDiff, reduceCtorEq, Nat.reduceAdd, Nat.reduceMul, Nat.reduceLT, Nat.reduceLeDiff, Int.reduceToNat, Int.reduceLE, h1]; refine hK _ ?_; clear hK K)
  first | refine rops_nil ?_ | refine ropsD_nil ?_
  try simp only [exs, reduceIte, Nat.reduceEqDiff]
  refine hK4 _ ?_
  have h := Option.some.inj h
  subst h
  refine awp_ret ?_
  try simp only [exs, reduceIte, Nat.reduceEqDiff]
  refine fin_ret (vs := [.tmp 4]) Try.ntmps30 rfl (by simp [List.filter_cons, isOwn]) none ?_
  (simp only [resultsAre, resCell, loadRegs, regRV, go_sem, reduceIte, Nat.reduceEqDiff, reduceCtorEq, Nat.reduceAdd, Nat.reduceMul, Nat.reduceLT, Nat.reduceLeDiff, Int.reduceToNat, Int.reduceLE, fs_all, take_length_map, h0, h1] <;> rfl)

end Go.Proofs.Mm

namespace Go.Proofs.Mm
open Go Go.Ev

-- slices.Clone
def F31 (N : Nat) (a0 : List Prp) : Option (List Prp) :=
  (chk (decide (a0.length ≤ maxLen) && decide (a0.length * 32 ≤ 140737488355328))).bind fun _ =>
  some a0

set_option maxHeartbeats 4000000 in
theorem F31_does (E : Env) (N : Nat) (a0 : List Prp) (r : List Prp) (h : F31 N a0 = some r) : Does Try.prog E 31 [.sl (List.map Prp.av a0)] (.ret [.own 51 (List.map Prp.av r)]) := by
  refine does_run Try.func31 Try.ntmps31 rfl rfl (by simp) fun w0 I0 s hr hb => ?_
  have h0 := hr 0
  simp only [List.map_cons, List.map_nil, List.getElem?_cons_zero, List.getElem?_cons_succ, Option.getD_some] at h0
  unfold F31 at h
  obtain ⟨_, q, h⟩ := bind_some h
  have q := chk_some q
  simp only [Bool.and_eq_true, decide_eq_true_eq, and_assoc] at q
  obtain ⟨qa, qb⟩ := q
  have h := Option.some.inj h
  subst h
  have hel : ∀ x ∈ a0, (Prp.av x).cells.length = Try.prog.cellsOf 51 ∧ (Prp.av x).wf := fun x _ => ⟨by simp only [Prp.av, cells_agg, List.length_cons, List.length_nil, tc51], by simp [AV.wf, Prp.av, cells_agg, AV.isAgg]⟩
  have hE : Elems Try.prog 51 (List.map Prp.av a0) := fun x hx => by
    obtain ⟨y, hy, rfl⟩ := List.mem_map.1 hx
    exact hel y hy
  refine awp_seq fun K1 hK1 => ?_
  refine awp_region rfl (by kernel_rfl) ?_
  first | refine rops_k ?_ | refine ropsD_k ?_
  repeat ((first | refine rops_step fun K hK => ?_ | refine ropsD_step fun K hK => ?_); simp only [go_sem, reduceIte, Nat.reduceEqDiff, reduceCtorEq, Nat.reduceAdd, Nat.reduceMul, Nat.reduceLT, Nat.reduceLeDiff, Int.reduceToNat, Int.reduceLE, h0]; refine hK _ ?_; clear hK K)
  first | refine rops_nil ?_ | refine ropsD_nil ?_
  try simp only [AExit.then_exit, AExit.then_ret, AExit.inBlock_ret, AExit.inBlock_exit, AExit.inBlock_normal, AExit.then_normal, reduceIte, Nat.reduceEqDiff]
  refine hK1 _ ?_
  refine awp_seq fun K2 hK2 => ?_
  refine awp_seq fun K3 hK3 => ?_
  refine awp_region rfl (by kernel_rfl) ?_
  first | refine rops_k ?_ | refine ropsD_k ?_
  repeat ((first | refine rops_step fun K hK => ?_ | refine ropsD_step fun K hK => ?_); simp only [go_sem, reduceIte, Nat.reduceEqDiff, reduceCtorEq, Nat.reduceAdd, Nat.reduceMul, Nat.reduceLT, Nat.reduceLeDiff, Int.reduceToNat, Int.reduceLE, h0]; refine hK _ ?_; clear hK K)
  refine rops_step fun K hK => ?_
  simp only [go_sem, reduceIte, Nat.reduceEqDiff, reduceCtorEq, Nat.reduceAdd, Nat.reduceMul, Nat.reduceLT, Nat.reduceLeDiff, Int.reduceToNat, Int.reduceLE, h0]
  intro b hb
  refine hK _ ?_; clear hK K
  first | refine rops_nil ?_ | refine ropsD_nil ?_
  try simp only [AExit.then_exit, AExit.then_ret, AExit.inBlock_ret, AExit.inBlock_exit, AExit.inBlock_normal, AExit.then_normal, reduceIte, Nat.reduceEqDiff]
  refine hK3 _ ?_
  refine awp_if (by kernel_rfl) (by (simp only [upd_apply, reduceIte, Nat.reduceEqDiff, St.ev, constReg, constCell, St.put_some, St.put_none, h0] <;> rfl)) (fun hc => ?_) (fun hc => ?_)
  · have hn : a0 = [] := List.map_eq_nil_iff.1 (hb hc)
    subst hn
    refine awp_seq fun K4 hK4 => ?_
    refine awp_region rfl (by kernel_rfl) ?_
    first | refine rops_k ?_ | refine ropsD_k ?_
    repeat ((first | refine rops_step fun K hK => ?_ | refine ropsD_step fun K hK => ?_); simp only [go_sem, reduceIte, Nat.reduceEqDiff, reduceCtorEq, Nat.reduceAdd, Nat.reduceMul, Nat.reduceLT, Nat.reduceLeDiff, Int.reduceToNat, Int.reduceLE, h0]; refine hK _ ?_; clear hK K)
    first | refine rops_nil ?_ | refine ropsD_nil ?_
    try simp only [AExit.then_exit, AExit.then_ret, AExit.inBlock_ret, AExit.inBlock_exit, AExit.inBlock_normal, AExit.then_normal, reduceIte, Nat.reduceEqDiff]
    refine hK4 _ ?_
    refine awp_ret ?_
    try simp only [AExit.then_exit, AExit.then_ret, AExit.inBlock_ret, AExit.inBlock_exit, AExit.inBlock_normal, AExit.then_normal, reduceIte, Nat.reduceEqDiff]
    refine fin_ret (vs := [.tmp 2]) Try.ntmps31 rfl (by simp [List.filter_cons, isOwn]) none ?_
    simp only [resultsAre, regRV, upd_apply, reduceIte, Nat.reduceEqDiff, St.ev, constReg, St.put_some, List.map_nil, true_and, and_true, tc51, Nat.zero_lt_succ, Nat.reduceLT]
  · refine awp_skip ?_
    try simp only [AExit.then_exit, AExit.then_ret, AExit.inBlock_ret, AExit.inBlock_exit, AExit.inBlock_normal, AExit.then_normal, reduceIte, Nat.reduceEqDiff]
    refine hK2 _ ?_
    refine awp_seq fun K5 hK5 => ?_
    refine awp_region rfl (by kernel_rfl) ?_
    first | refine rops_k ?_ | refine ropsD_k ?_
    repeat ((first | refine rops_step fun K hK => ?_ | refine ropsD_step fun K hK => ?_); simp only [go_sem, reduceIte, Nat.reduceEqDiff, reduceCtorEq, Nat.reduceAdd, Nat.reduceMul, Nat.reduceLT, Nat.reduceLeDiff, Int.reduceToNat, Int.reduceLE, h0, qa, qb]; refine hK _ ?_; clear hK K)
    first | refine rops_nil ?_ | refine ropsD_nil ?_
    try simp only [AExit.then_exit, AExit.then_ret, AExit.inBlock_ret, AExit.inBlock_exit, AExit.inBlock_normal, AExit.then_normal, reduceIte, Nat.reduceEqDiff]
    refine hK5 _ ?_
    refine awp_ret ?_
    try simp only [AExit.then_exit, AExit.then_ret, AExit.inBlock_ret, AExit.inBlock_exit, AExit.inBlock_normal, AExit.then_normal, reduceIte, Nat.reduceEqDiff]
    refine fin_ret (vs := [.tmp 2]) Try.ntmps31 rfl (by simp [List.filter_cons, isOwn]) (some 2) ?_
    (simp only [resultsAre, resCell, loadRegs, regRV, go_sem, reduceIte, Nat.reduceEqDiff, reduceCtorEq, Nat.reduceAdd, Nat.reduceMul, Nat.reduceLT, Nat.reduceLeDiff, Int.reduceToNat, Int.reduceLE, fs_map, fs_len, fs_bool, fs_box, take_length_map, cond_true, cond_false, Nat.min_self, min3, min4, h0] <;> rfl)


end Go.Proofs.Mm

namespace Go.Proofs.Mm
open Go Go.Ev

-- slices.Clone
def F32 (N : Nat) (a0 : List Rf) : Option (List Rf) :=
  (chk (decide (a0.length ≤ maxLen) && decide (a0.length * 24 ≤ 140737488355328))).bind fun _ =>
  some a0

set_option maxHeartbeats 4000000 in
theorem F32_does (E : Env) (N : Nat) (a0 : List Rf) (r : List Rf) (h : F32 N a0 = some r) : Does Try.prog E 32 [.sl (List.map Rf.av a0)] (.ret [.own 65 (List.map Rf.av r)]) := by
  refine does_run Try.func32 Try.ntmps32 rfl rfl (by simp) fun w0 I0 s hr hb => ?_
  have h0 := hr 0
  simp only [List.map_cons, List.map_nil, List.getElem?_cons_zero, List.getElem?_cons_succ, Option.getD_some] at h0
  unfold F32 at h
  obtain ⟨_, q, h⟩ := bind_some h
  have q := chk_some q
  simp only [Bool.and_eq_true, decide_eq_true_eq, and_assoc] at q
  obtain ⟨qa, qb⟩ := q
  have h := Option.some.inj h
  subst h
  have hel : ∀ x ∈ a0, (Rf.av x).cells.length = Try.prog.cellsOf 65 ∧ (Rf.av x).wf := fun x _ => ⟨by simp only [Rf.av, cells_agg, List.length_cons, List.length_nil, tc65], by simp [AV.wf, Rf.av, cells_agg, AV.isAgg]⟩
  have hE : Elems Try.prog 65 (List.map Rf.av a0) := fun x hx => by
    obtain ⟨y, hy, rfl⟩ := List.mem_map.1 hx
    exact hel y hy
  refine awp_seq fun K1 hK1 => ?_
  refine awp_region rfl (by kernel_rfl) ?_
  first | refine rops_k ?_ | refine ropsD_k ?_
  repeat ((first | refine rops_step fun K hK => ?_ | refine ropsD_step fun K hK => ?_); simp only [go_sem, reduceIte, Nat.reduceEqDiff, reduceCtorEq, Nat.reduceAdd, Nat.reduceMul, Nat.reduceLT, Nat.reduceLeDiff, Int.reduceToNat, Int.reduceLE, h0]; refine hK _ ?_; clear hK K)
  first | refine rops_nil ?_ | refine ropsD_nil ?_
  try simp only [AExit.then_exit, AExit.then_ret, AExit.inBlock_ret, AExit.inBlock_exit, AExit.inBlock_normal, AExit.then_normal, reduceIte, Nat.reduceEqDiff]
  refine hK1 _ ?_
  refine awp_seq fun K2 hK2 => ?_
  refine awp_seq fun K3 hK3 => ?_
  refine awp_region rfl (by kernel_rfl) ?_
  first | refine rops_k ?_ | refine ropsD_k ?_
  repeat ((first | refine rops_step fun K hK => ?_ | refine ropsD_step fun K hK => ?_); simp only [go_sem, reduceIte, Nat.reduceEqDiff, reduceCtorEq, Nat.reduceAdd, Nat.reduceMul, Nat.reduceLT, Nat.reduceLeDiff, Int.reduceToNat, Int.reduceLE, h0]; refine hK _ ?_; clear hK K)
  refine rops_step fun K hK => ?_
  simp only [go_sem, reduceIte, Nat.reduceEqDiff, reduceCtorEq, Nat.reduceAdd, Nat.reduceMul, Nat.reduceLT, Nat.reduceLeDiff, Int.reduceToNat, Int.reduceLE, h0]
  intro b hb
  refine hK _ ?_; clear hK K
  first | refine rops_nil ?_ | refine ropsD_nil ?_
  try simp only [AExit.then_exit, AExit.then_ret, AExit.inBlock_ret, AExit.inBlock_exit, AExit.inBlock_normal, AExit.then_normal, reduceIte, Nat.reduceEqDiff]
  refine hK3 _ ?_
  refine awp_if (by kernel_rfl) (by (simp only [upd_apply, reduceIte, Nat.reduceEqDiff, St.ev, constReg, constCell, St.put_some, St.put_none, h0] <;> rfl)) (fun hc => ?_) (fun hc => ?_)
  · have hn : a0 = [] := List.map_eq_nil_iff.1 (hb hc)
    subst hn
    refine awp_seq fun K4 hK4 => ?_
    refine awp_region rfl (by kernel_rfl) ?_
    first | refine rops_k ?_ | refine ropsD_k ?_
    repeat ((first | refine rops_step fun K hK => ?_ | refine ropsD_step fun K hK => ?_); simp only [go_sem, reduceIte, Nat.reduceEqDiff, reduceCtorEq, Nat.reduceAdd, Nat.reduceMul, Nat.reduceLT, Nat.reduceLeDiff, Int.reduceToNat, Int.reduceLE, h0]; refine hK _ ?_; clear hK K)
    first | refine rops_nil ?_ | refine ropsD_nil ?_
    try simp only [AExit.then_exit, AExit.then_ret, AExit.inBlock_ret, AExit.inBlock_exit, AExit.inBlock_normal, AExit.then_normal, reduceIte, Nat.reduceEqDiff]
    refine hK4 _ ?_
    refine awp_ret ?_
    try simp only [AExit.then_exit, AExit.then_ret, AExit.inBlock_ret, AExit.inBlock_exit, AExit.inBlock_normal, AExit.then_normal, reduceIte, Nat.reduceEqDiff]
    refine fin_ret (vs := [.tmp 2]) Try.ntmps32 rfl (by simp [List.filter_cons, isOwn]) none ?_
    simp only [resultsAre, regRV, upd_apply, reduceIte, Nat.reduceEqDiff, St.ev, constReg, St.put_some, List.map_nil, true_and, and_true, tc65, Nat.zero_lt_succ, Nat.reduceLT]
  · refine awp_skip ?_
    try simp only [AExit.then_exit, AExit.then_ret, AExit.inBlock_ret, AExit.inBlock_exit, AExit.inBlock_normal, AExit.then_normal, reduceIte, Nat.reduceEqDiff]
    refine hK2 _ ?_
    refine awp_seq fun K5 hK5 => ?_
    refine awp_region rfl (by kernel_rfl) ?_
    first | refine rops_k ?_ | refine ropsD_k ?_
    repeat ((first | refine rops_step fun K hK => ?_ | refine ropsD_step fun K hK => ?_); simp only [go_sem, reduceIte, Nat.reduceEqDiff, reduceCtorEq, Nat.reduceAdd, Nat.reduceMul, Nat.reduceLT, Nat.reduceLeDiff, Int.reduceToNat, Int.reduceLE, h0, qa, qb]; refine hK _ ?_; clear hK K)
    first | refine rops_nil ?_ | refine ropsD_nil ?_
    try simp only [AExit.then_exit, AExit.then_ret, AExit.inBlock_ret, AExit.inBlock_exit, AExit.inBlock_normal, AExit.then_normal, reduceIte, Nat.reduceEqDiff]
    refine hK5 _ ?_
    refine awp_ret ?_
    try simp only [AExit.then_exit, AExit.then_ret, AExit.inBlock_ret, AExit.inBlock_exit, AExit.inBlock_normal, AExit.then_normal, reduceIte, Nat.reduceEqDiff]
    refine fin_ret (vs := [.tmp 2]) Try.ntmps32 rfl (by simp [List.filter_cons, isOwn]) (some 2) ?_
    (simp only [resultsAre, resCell, loadRegs, regRV, go_sem, reduceIte, Nat.reduceEqDiff, reduceCtorEq, Nat.reduceAdd, Nat.reduceMul, Nat.reduceLT, Nat.reduceLeDiff, Int.reduceToNat, Int.reduceLE, fs_map, fs_len, fs_bool, fs_box, take_length_map, cond_true, cond_false, Nat.min_self, min3, min4, h0] <;> rfl)


end Go.Proofs.Mm

namespace Go.Proofs.Mm
open Go Go.Ev

-- topiary/arena.own
def F24 (N : Nat) (a0 : Nd) : Option (Nd) :=
  (F31 N a0.props).bind fun x18 =>
  (F32 N a0.refs).bind fun x19 =>
  (chk (decide (a0.kids.length ≤ maxLen) && decide (a0.kids.length * 8 ≤ 281474976710656))).bind fun _ =>
  some (Nd.mk a0.id a0.concept a0.parent a0.role x18 (a0.kids.take (min a0.kids.length (List.replicate a0.kids.length 0).length) ++ (List.replicate a0.kids.length 0).drop (min a0.kids.length (List.replicate a0.kids.length 0).length)) x19)

set_option maxHeartbeats 4000000 in
theorem F24_does (E : Env) (N : Nat) (a0 : Nd) (r : Nd) (h : F24 N a0 = some r) : Does Try.prog E 24 [.agg [.fl (.int .i64 a0.id), .fl (bs a0.concept), .fl (.int .i64 a0.parent), .fl (bs a0.role), .sl (List.map Prp.av a0.props), .sl (List.map intAV a0.kids), .sl (List.map Rf.av a0.refs)]] (.ret [.v (.agg [.fl (.int .i64 r.id), .fl (bs r.concept), .fl (.int .i64 r.parent), .fl (bs r.role), .sl (List.map Prp.av r.props), .sl (List.map intAV r.kids), .sl (List.map Rf.av r.refs)])]) := by
  refine does_run Try.func24 Try.ntmps24 rfl rfl (by simp) fun w0 I0 s hr hb => ?_
  have h0 := hr 0
  simp only [List.map_cons, List.map_nil, List.getElem?_cons_zero, List.getElem?_cons_succ, Option.getD_some] at h0
  unfold F24 at h
  refine awp_seq fun K16 hK16 => ?_
  refine awp_region rfl (by kernel_rfl) ?_
  first | refine rops_k ?_ | refine ropsD_k ?_
  repeat (refine rops_ng rfl fun K hK => ?_; simp only [go_sem, reduceIte, Nat.reduceEqDiff, reduceCtorEq, Nat.reduceAdd, Nat.reduceMul, Nat.reduceLT, Nat.reduceLeDiff, Int.reduceToNat, Int.reduceLE, h0]; refine hK _ ?_; clear hK K)
  first | refine rops_nil ?_ | refine ropsD_nil ?_
  try simp only [exs, reduceIte, Nat.reduceEqDiff]
  refine hK16 _ ?_
  refine awp_seq fun K17 hK17 => ?_
  obtain ⟨x18, q20, h⟩ := bind_some h
  obtain ⟨x19, q21, h⟩ := bind_some h
  refine awp_draw (by kernel_rfl) rfl (by kernel_rfl) (by kernel_rfl) ?_
  first | refine rops_k ?_ | refine ropsD_k ?_
  repeat (refine ropsD_ng rfl fun K hK => ?_; simp only [go_sem, reduceIte, Nat.reduceEqDiff, reduceCtorEq, Nat.reduceAdd, Nat.reduceMul, Nat.reduceLT, Nat.reduceLeDiff, Int.reduceToNat, Int.reduceLE]; refine hK _ ?_; clear hK K)
  refine ropsD_ng rfl fun K hK => ?_
  simp only [List.head?_cons, List.head?_nil, Option.map_some, Option.map_none, rops1, ropsD1, gtmp, gate, beq_self_eq_true, beq_t, beq_f, Bool.not_true, Bool.not_false, if_true, rOp, rOpD, calleeOf, regAVsOf, regAV, List.getElem?_toArray, List.getElem?_cons_zero, List.getElem?_cons_succ, Option.bind_some, upd_apply, reduceIte, Nat.reduceEqDiff, St.ev, constReg, constCell, St.put_some, St.put_none, h0]
  refine ⟨_, _, rfl, _, rfl, _, (does_v (F31_does _ N a0.props  _ q20)), _, rfl, ?_⟩
  simp only [flRV, outK, St.take, St.takeRVs, St.takeRV, retReg, St.put_some, St.put_none, List.map_cons, List.map_nil]
  refine hK _ ?_; clear hK K
  repeat (refine ropsD_ng rfl fun K hK => ?_; simp only [go_sem, reduceIte, Nat.reduceEqDiff, reduceCtorEq, Nat.reduceAdd, Nat.reduceMul, Nat.reduceLT, Nat.reduceLeDiff, Int.reduceToNat, Int.reduceLE]; refine hK _ ?_; clear hK K)
  refine ropsD_ng rfl fun K hK => ?_
  simp only [List.head?_cons, List.head?_nil, Option.map_some, Option.map_none, rops1, ropsD1, gtmp, gate, beq_self_eq_true, beq_t, beq_f, Bool.not_true, Bool.not_false, if_true, rOp, rOpD, calleeOf, regAVsOf, regAV, List.getElem?_toArray, List.getElem?_cons_zero, List.getElem?_cons_succ, Option.bind_some, upd_apply, reduceIte, Nat.reduceEqDiff, St.ev, constReg, constCell, St.put_some, St.put_none, h0]
  refine ⟨_, _, rfl, _, rfl, _, (does_v (F32_does _ N a0.refs  _ q21)), _, rfl, ?_⟩
  simp only [flRV, outK, St.take, St.takeRVs, St.takeRV, retReg, St.put_some, St.put_none, List.map_cons, List.map_nil]
  refine hK _ ?_; clear hK K
  repeat (refine ropsD_ng rfl fun K hK => ?_; simp only [go_sem, reduceIte, Nat.reduceEqDiff, reduceCtorEq, Nat.reduceAdd, Nat.reduceMul, Nat.reduceLT, Nat.reduceLeDiff, Int.reduceToNat, Int.reduceLE]; refine hK _ ?_; clear hK K)
  first | refine rops_nil ?_ | refine ropsD_nil ?_
  try simp only [exs, reduceIte, Nat.reduceEqDiff]
  refine hK17 _ ?_
  refine awp_seq fun K22 hK22 => ?_
  obtain ⟨_, q23, h⟩ := bind_some h
  have q23 := chk_some q23
  simp only [Bool.and_eq_true, decide_eq_true_eq, and_assoc] at q23
  obtain ⟨q23a, q23b⟩ := q23
  refine awp_region rfl (by kernel_rfl) ?_
  first | refine rops_k ?_ | refine ropsD_k ?_
  repeat (refine rops_ng rfl fun K hK => ?_; simp only [go_sem, reduceIte, Nat.reduceEqDiff, reduceCtorEq, Nat.reduceAdd, Nat.reduceMul, Nat.reduceLT, Nat.reduceLeDiff, Int.reduceToNat, Int.reduceLE, q23a, q23b]; refine hK _ ?_; clear hK K)
  first | refine rops_nil ?_ | refine ropsD_nil ?_
  try simp only [exs, reduceIte, Nat.reduceEqDiff]
  refine hK22 _ ?_
  refine awp_seq fun K24 hK24 => ?_
  refine awp_region rfl (by kernel_rfl) ?_
  first | refine rops_k ?_ | refine ropsD_k ?_
  repeat (refine rops_ng rfl fun K hK => ?_; simp only [go_sem, reduceIte, Nat.reduceEqDiff, reduceCtorEq, Nat.reduceAdd, Nat.reduceMul, Nat.reduceLT, Nat.reduceLeDiff, Int.reduceToNat, Int.reduceLE, q23a, q23b]; refine hK _ ?_; clear hK K)
  first | refine rops_nil ?_ | refine ropsD_nil ?_
  try simp only [exs, reduceIte, Nat.reduceEqDiff]
  refine hK24 _ ?_
  refine awp_seq fun K25 hK25 => ?_
  refine awp_giveAs 3 3 (List.map intAV (a0.kids.take (min a0.kids.length (List.replicate a0.kids.length 0).length) ++ (List.replicate a0.kids.length 0).drop (min a0.kids.length (List.replicate a0.kids.length 0).length))) (by first | assumption | (simp only [upd_apply, reduceIte, Nat.reduceEqDiff, h0, q23a, q23b]; done) | (simp only [upd_apply, reduceIte, Nat.reduceEqDiff, h0, q23a, q23b]; rfl)) (by first | rfl | (simp only [upd_apply, reduceIte, Nat.reduceEqDiff]; done)) (by first | assumption | (simp only [upd_apply, reduceIte, Nat.reduceEqDiff, h0, q23a, q23b]; done) | (simp only [upd_apply, reduceIte, Nat.reduceEqDiff, h0, q23a, q23b]; rfl)) ?_ ?_
  · first | rfl | (simp only [List.drop_zero, take_length_map, List.length_map, List.map_append, List.map_replicate, List.map_set, List.map_cons, List.map_nil, List.take_length]; done) | simp [intAV, boolAV, strAV, byteAV, List.map_take, List.map_drop, List.take_take, take_length_map]
  refine awp_region rfl (by kernel_rfl) ?_
  first | refine rops_k ?_ | refine ropsD_k ?_
  repeat (refine rops_ng rfl fun K hK => ?_; simp only [go_sem, reduceIte, Nat.reduceEqDiff, reduceCtorEq, Nat.reduceAdd, Nat.reduceMul, Nat.reduceLT, Nat.reduceLeDiff, Int.reduceToNat, Int.reduceLE, q23a, q23b]; refine hK _ ?_; clear hK K)
  first | refine rops_nil ?_ | refine ropsD_nil ?_
  try simp only [exs, reduceIte, Nat.reduceEqDiff]
  refine hK25 _ ?_
  refine awp_seq fun K26 hK26 => ?_
  refine awp_region rfl (by kernel_rfl) ?_
  first | refine rops_k ?_ | refine ropsD_k ?_
  repeat (refine rops_ng rfl fun K hK => ?_; simp only [go_sem, reduceIte, Nat.reduceEqDiff, reduceCtorEq, Nat.reduceAdd, Nat.reduceMul, Nat.reduceLT, Nat.reduceLeDiff, Int.reduceToNat, Int.reduceLE, q23a, q23b]; refine hK _ ?_; clear hK K)
  first | refine rops_nil ?_ | refine ropsD_nil ?_
  try simp only [exs, reduceIte, Nat.reduceEqDiff]
  refine hK26 _ ?_
  have h := Option.some.inj h
  subst h
  refine awp_ret ?_
  try simp only [exs, reduceIte, Nat.reduceEqDiff]
  refine fin_ret (vs := [.cell 2 47]) Try.ntmps24 rfl (by simp [List.filter_cons, isOwn]) none ?_
  (simp only [resultsAre, resCell, loadRegs, regRV, go_sem, reduceIte, Nat.reduceEqDiff, reduceCtorEq, Nat.reduceAdd, Nat.reduceMul, Nat.reduceLT, Nat.reduceLeDiff, Int.reduceToNat, Int.reduceLE, fs_all, take_length_map, h0, q23a, q23b] <;> rfl)

end Go.Proofs.Mm

namespace Go.Proofs.Mm
open Go Go.Ev

-- topiary/topiarylaw14.spoil
def F12_L1  : Nat → Int → (List Itm) → Option (Unit)
  | 0, _, _ => none
  | n54 + 1, p43, p44 =>
    bif decide (p43 < (p44.length : Int)) then
      (getO p44 p43).bind fun x60 =>
      (F12_L1 n54) (IntKind.i64.wrap (p43 + 1)) (p44.set p43.toNat (Itm.mk [115, 112, 111, 105, 108, 116] (-9)))
    else
      some ()

def F12 (N : Nat) (a0 : List Itm) : Option (Unit) :=
  F12_L1 N 0 a0

set_option maxHeartbeats 4000000 in
theorem F12_takes (E : Env) (N : Nat) (a0 : List Itm) (r : Unit) (h : F12 N a0 = some r) : Takes Try.prog E 12 (.view 0 0 0 a0.length) (.arr 41 (List.map Itm.av a0)) [] [] := by
  refine take_run Try.func12 Try.ntmps12 rfl rfl (by simp) fun bo w0 I0 s hr hb hg => ?_
  have h0 : s.r 0 = .view 0 (s.g 0) 0 a0.length := by rw [hg 0]; exact hr 0
  have b0 : s.b 0 = some (.arr 41 (List.map Itm.av a0)) := hb 0
  unfold F12 at h
  refine awp_seq fun K32 hK32 => ?_
  refine awp_region rfl (by kernel_rfl) ?_
  first | refine rops_k ?_ | refine ropsD_k ?_
  repeat (refine rops_ng rfl fun K hK => ?_; simp only [go_sem, reduceIte, Nat.reduceEqDiff, reduceCtorEq, Nat.reduceAdd, Nat.reduceMul, Nat.reduceLT, Nat.reduceLeDiff, Int.reduceToNat, Int.reduceLE, b0]; refine hK _ ?_; clear hK K)
  first | refine rops_nil ?_ | refine ropsD_nil ?_
  try simp only [exs, reduceIte, Nat.reduceEqDiff]
  refine hK32 _ ?_
  refine awp_block ?_
  refine awp_loopK (fun m s53 => ∃ (p43 : Int) (p44 : List Itm), s53.r 0 = .view 0 (s53.g 0) 0 p44.length ∧ s53.r 2 = .val (.fl (.int .i64 p43)) ∧ s53.b 0 = some (.arr 41 (List.map Itm.av p44)) ∧  F12_L1 m p43 p44 = some r) N ?_ ?_
  · refine ⟨0, a0, ?_, ?_, ?_, h⟩
    · (first | (simp only [upd_apply, reduceIte, Nat.reduceEqDiff, h0]; done) | (simp only [go_sem, reduceIte, Nat.reduceEqDiff, reduceCtorEq, Nat.reduceAdd, Nat.reduceMul, Nat.reduceLT, Nat.reduceLeDiff, Int.reduceToNat, Int.reduceLE, fs_all, take_length_map, h0, b0] <;> rfl) | rfl)
    · (first | (simp only [upd_apply, reduceIte, Nat.reduceEqDiff]; done) | (simp only [go_sem, reduceIte, Nat.reduceEqDiff, reduceCtorEq, Nat.reduceAdd, Nat.reduceMul, Nat.reduceLT, Nat.reduceLeDiff, Int.reduceToNat, Int.reduceLE, fs_all, take_length_map, h0, b0] <;> rfl) | rfl)
    · (first | (simp only [upd_apply, reduceIte, Nat.reduceEqDiff, b0]; done) | (simp only [go_sem, reduceIte, Nat.reduceEqDiff, reduceCtorEq, Nat.reduceAdd, Nat.reduceMul, Nat.reduceLT, Nat.reduceLeDiff, Int.reduceToNat, Int.reduceLE, fs_all, take_length_map, h0, b0] <;> rfl) | rfl)
  clear h
  intro m55 s53 hI K33 hK33
  obtain ⟨p43, p44, h0, h2, b0, h⟩ := hI
  rcases m55 with _ | n54
  · simp only [F12_L1, reduceCtorEq] at h
  rw [F12_L1] at h
  refine awp_seq fun K56 hK56 => ?_
  refine awp_seq fun K57 hK57 => ?_
  refine awp_region rfl (by kernel_rfl) ?_
  first | refine rops_k ?_ | refine ropsD_k ?_
  repeat (refine rops_ng rfl fun K hK => ?_; simp only [go_sem, reduceIte, Nat.reduceEqDiff, reduceCtorEq, Nat.reduceAdd, Nat.reduceMul, Nat.reduceLT, Nat.reduceLeDiff, Int.reduceToNat, Int.reduceLE, h0, h2, b0]; refine hK _ ?_; clear hK K)
  first | refine rops_nil ?_ | refine ropsD_nil ?_
  try simp only [exs, reduceIte, Nat.reduceEqDiff]
  refine hK57 _ ?_
  refine awp_if (by kernel_rfl) (by (simp only [upd_apply, reduceIte, Nat.reduceEqDiff, St.ev, constReg, constCell, St.put_some, St.put_none, h0, h2, b0] <;> rfl)) (fun hc => ?_) (fun hc => ?_)
  · have c58 : (decide (p43 < (p44.length : Int))) = true := by first | exact hc | simpa using hc
    clear hc
    rw [c58] at h
    simp only [cond_true, cond_false] at h
    refine awp_skip ?_
    try simp only [exs, reduceIte, Nat.reduceEqDiff]
    refine hK56 _ ?_
    refine awp_seq fun K59 hK59 => ?_
    refine awp_block ?_
    obtain ⟨x60, q61, h⟩ := bind_some h
    obtain ⟨q61i, q61e, q61l⟩ := getO_some q61
    refine awp_region rfl (by kernel_rfl) ?_
    first | refine rops_k ?_ | refine ropsD_k ?_
    repeat (refine rops_ng rfl fun K hK => ?_; simp only [go_sem, reduceIte, Nat.reduceEqDiff, reduceCtorEq, Nat.reduceAdd, Nat.reduceMul, Nat.reduceLT, Nat.reduceLeDiff, Int.reduceToNat, Int.reduceLE, h0, h2, b0, q61i, q61e, q61l]; refine hK _ ?_; clear hK K)
    first | refine rops_nil ?_ | refine ropsD_nil ?_
    try simp only [exs, reduceIte, Nat.reduceEqDiff]
    refine hK59 _ ?_
    refine awp_region rfl (by kernel_rfl) ?_
    first | refine rops_k ?_ | refine ropsD_k ?_
    repeat (refine rops_ng rfl fun K hK => ?_; simp only [go_sem, reduceIte, Nat.reduceEqDiff, reduceCtorEq, Nat.reduceAdd, Nat.reduceMul, Nat.reduceLT, Nat.reduceLeDiff, Int.reduceToNat, Int.reduceLE, h2, b0, q61i, q61e, q61l]; refine hK _ ?_; clear hK K)
    first | refine rops_nil ?_ | refine ropsD_nil ?_
    try simp only [exs, reduceIte, Nat.reduceEqDiff]
    refine hK33 _ ⟨n54, Nat.lt_succ_self _, (IntKind.i64.wrap (p43 + 1)), (p44.set p43.toNat (Itm.mk [115, 112, 111, 105, 108, 116] (-9))), ?_, ?_, ?_, h⟩
    · (first | (simp only [upd_apply, reduceIte, Nat.reduceEqDiff, h0]; done) | (simp only [go_sem, reduceIte, Nat.reduceEqDiff, reduceCtorEq, Nat.reduceAdd, Nat.reduceMul, Nat.reduceLT, Nat.reduceLeDiff, Int.reduceToNat, Int.reduceLE, fs_all, take_length_map, h0, h2, b0, q61i, q61e, q61l] <;> rfl) | rfl)
    · (first | (simp only [upd_apply, reduceIte, Nat.reduceEqDiff, h2]; done) | (simp only [go_sem, reduceIte, Nat.reduceEqDiff, reduceCtorEq, Nat.reduceAdd, Nat.reduceMul, Nat.reduceLT, Nat.reduceLeDiff, Int.reduceToNat, Int.reduceLE, fs_all, take_length_map, h0, h2, b0, q61i, q61e, q61l] <;> rfl) | rfl)
    · (first | (simp only [upd_apply, reduceIte, Nat.reduceEqDiff, b0]; done) | (simp only [go_sem, reduceIte, Nat.reduceEqDiff, reduceCtorEq, Nat.reduceAdd, Nat.reduceMul, Nat.reduceLT, Nat.reduceLeDiff, Int.reduceToNat, Int.reduceLE, fs_all, take_length_map, h0, h2, b0, q61i, q61e, q61l] <;> rfl) | rfl)
  have c58 : (decide (p43 < (p44.length : Int))) = false := by first | exact hc | simpa using hc
  clear hc
  rw [c58] at h
  simp only [cond_true, cond_false] at h
  refine awp_exit ?_
  try simp only [exs, reduceIte, Nat.reduceEqDiff]
  refine fin_normal (vs := []) Try.ntmps12 rfl (by simp [List.filter_cons, isOwn]) none ?_
  (simp only [resultsAre, resCell, loadRegs, regRV, go_sem, reduceIte, Nat.reduceEqDiff, reduceCtorEq, Nat.reduceAdd, Nat.reduceMul, Nat.reduceLT, Nat.reduceLeDiff, Int.reduceToNat, Int.reduceLE, fs_all, take_length_map, h0, h2, b0] <;> rfl)

end Go.Proofs.Mm
