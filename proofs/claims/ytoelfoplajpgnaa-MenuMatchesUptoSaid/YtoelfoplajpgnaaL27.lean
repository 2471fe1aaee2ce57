import Derived.Test.YtoelfoplajpgnaaEvLift
import Derived.Test.YtoelfoplajpgnaaMmF
import Derived.Test.YtoelfoplajpgnaaL35
set_option linter.unusedVariables false
set_option linter.unusedSimpArgs false
set_option linter.unusedSectionVars false

namespace Go.Proofs.Mm
open Go Go.Ev

-- topiary/arena.alone
def F27_J1  : Option (Bool) :=
  some true

def F27_L1 (a1 : Nd) (N : Nat) (a0 : Mdl) : Nat → Int → Option (Bool)
  | 0, _ => none
  | n518 + 1, p494 =>
    bif decide (p494 < (a1.refs.length : Int)) then
      (getO a1.refs p494).bind fun x525 =>
      (F35 N x525.role).bind fun x528 =>
      bindG (!(((!x528) || (decide (x525.target < 1))) || (decide (x525.target ≥ a0.next))) && (decide (p494 > 0))) (getO a1.refs (IntKind.i64.wrap (p494 - 1))) fun x529 =>
      bif (((!x528) || (decide (x525.target < 1))) || (decide (x525.target ≥ a0.next))) || ((decide (p494 > 0)) && (!Op.bytesLess x529.role x525.role)) then
        some false
      else
        (F27_L1 a1 N a0 n518) (IntKind.i64.wrap (p494 + 1))
    else
      F27_J1 

def F27_J2 (a1 : Nd) (N : Nat) (a0 : Mdl) : Option (Bool) :=
  F27_L1 a1 N a0 N 0

def F27_L2 (a1 : Nd) (N : Nat) (a0 : Mdl) : Nat → Int → Option (Bool)
  | 0, _ => none
  | n588 + 1, p565 =>
    bif decide (p565 < (a1.props.length : Int)) then
      (getO a1.props p565).bind fun x595 =>
      (F35 N x595.name).bind fun x598 =>
      bindG (!((!x598) || (decide ((x595.value.length : Int) > 4096))) && (decide (p565 > 0))) (getO a1.props (IntKind.i64.wrap (p565 - 1))) fun x599 =>
      bif ((!x598) || (decide ((x595.value.length : Int) > 4096))) || ((decide (p565 > 0)) && (!Op.bytesLess x599.name x595.name)) then
        some false
      else
        (F27_L2 a1 N a0 n588) (IntKind.i64.wrap (p565 + 1))
    else
      F27_J2 a1 N a0

def F27 (N : Nat) (a0 : Mdl) (a1 : Nd) : Option (Bool) :=
  (F35 N a1.concept).bind fun x313 =>
  bindG (!((!x313) || (!((a1.parent == 0) == (a1.role == [])))) && (!(a1.role == []))) (F35 N a1.role) fun x314 =>
  bif (((!x313) || (!((a1.parent == 0) == (a1.role == [])))) || ((!(a1.role == [])) && (!x314))) || (decide ((a1.kids.length : Int) > (a0.nodes.length : Int))) then
    some false
  else
    F27_L2 a1 N a0 N 0

set_option maxHeartbeats 4000000 in
theorem F27_does (E : Env) (N : Nat) (a0 : Mdl) (a1 : Nd) (r : Bool) (h : F27 N a0 a1 = some r) : Does Try.prog E 27 [.agg [.fl (.int .i64 a0.next), .sl (List.map Nd.av a0.nodes)], .agg [.fl (.int .i64 a1.id), .fl (bs a1.concept), .fl (.int .i64 a1.parent), .fl (bs a1.role), .sl (List.map Prp.av a1.props), .sl (List.map intAV a1.kids), .sl (List.map Rf.av a1.refs)]] (.ret [.v (.fl (.bool r))]) := by
  refine does_run Try.func27 Try.ntmps27 rfl rfl (by simp) fun w0 I0 s hr hb => ?_
  have h0 := hr 0
  have h1 := hr 1
  simp only [List.map_cons, List.map_nil, List.getElem?_cons_zero, List.getElem?_cons_succ, Option.getD_some] at h0 h1
  unfold F27 at h
  refine awp_seq fun K310 hK310 => ?_
  refine awp_region rfl (by kernel_rfl) ?_
  first | refine rops_k ?_ | refine ropsD_k ?_
  repeat (refine rops_ng rfl fun K hK => ?_; simp only [go_sem, reduceIte, Nat.reduceEqDiff, reduceCtorEq, Nat.reduceAdd, Nat.reduceMul, Nat.reduceLT, Nat.reduceLeDiff, Int.reduceToNat, Int.reduceLE, h0, h1]; refine hK _ ?_; clear hK K)
  first | refine rops_nil ?_ | refine ropsD_nil ?_
  try simp only [exs, reduceIte, Nat.reduceEqDiff]
  refine hK310 _ ?_
  refine awp_seq fun K311 hK311 => ?_
  refine awp_seq fun K312 hK312 => ?_
  obtain ⟨x313, q315, h⟩ := bind_some h
  obtain ⟨x314, q316, h⟩ := bindG_some h
  refine awp_region rfl (by kernel_rfl) ?_
  have R318 : ∀ s317 : St, (s317.r 2 = .loc 2 (s317.g 2) 0 0 0) → (s317.r 3 = .loc 3 (s317.g 3) 0 0 0) → (s317.r 41 = .val (.fl (.bool ((((!x313) || (!((a1.parent == 0) == (a1.role == [])))) || ((!(a1.role == [])) && (!x314))) || (decide ((a1.kids.length : Int) > (a0.nodes.length : Int))))))) → (s317.b 2 = some (.cells [.val (.fl (.int .i64 a0.next)), .val (.sl (List.map Nd.av a0.nodes))])) → (s317.b 3 = some (.cells [.val (.fl (.int .i64 a1.id)), .val (.fl (bs a1.concept)), .val (.fl (.int .i64 a1.parent)), .val (.fl (bs a1.role)), .val (.sl (List.map Prp.av a1.props)), .val (.sl (List.map intAV a1.kids)), .val (.sl (List.map Rf.av a1.refs))])) → K312 s317 := by
    intro s317 h2 h3 h41 b2 b3
    refine hK312 _ ?_
    refine awp_if (by kernel_rfl) (by (simp only [upd_apply, reduceIte, Nat.reduceEqDiff, St.ev, constReg, constCell, St.put_some, St.put_none, h2, h3, h41, b2, b3] <;> rfl)) (fun hc => ?_) (fun hc => ?_)
    · have c319 : ((((!x313) || (!((a1.parent == 0) == (a1.role == [])))) || ((!(a1.role == [])) && (!x314))) || (decide ((a1.kids.length : Int) > (a0.nodes.length : Int)))) = true := by first | exact hc | simpa using hc
      clear hc
      rw [c319] at h
      simp only [cond_true, cond_false] at h
      refine awp_seq fun K320 hK320 => ?_
      refine awp_region rfl (by kernel_rfl) ?_
      first | refine rops_k ?_ | refine ropsD_k ?_
      repeat (refine rops_ng rfl fun K hK => ?_; simp only [go_sem, reduceIte, Nat.reduceEqDiff, reduceCtorEq, Nat.reduceAdd, Nat.reduceMul, Nat.reduceLT, Nat.reduceLeDiff, Int.reduceToNat, Int.reduceLE, b2, b3]; refine hK _ ?_; clear hK K)
      first | refine rops_nil ?_ | refine ropsD_nil ?_
      try simp only [exs, reduceIte, Nat.reduceEqDiff]
      refine hK320 _ ?_
      have h := Option.some.inj h
      subst h
      refine awp_ret ?_
      try simp only [exs, reduceIte, Nat.reduceEqDiff]
      refine fin_ret (vs := [.tmp 4]) Try.ntmps27 rfl (by simp [List.filter_cons, isOwn]) none ?_
      (simp only [resultsAre, resCell, loadRegs, regRV, go_sem, reduceIte, Nat.reduceEqDiff, reduceCtorEq, Nat.reduceAdd, Nat.reduceMul, Nat.reduceLT, Nat.reduceLeDiff, Int.reduceToNat, Int.reduceLE, fs_all, take_length_map, h2, h3, h41, b2, b3] <;> rfl)
    have c319 : ((((!x313) || (!((a1.parent == 0) == (a1.role == [])))) || ((!(a1.role == [])) && (!x314))) || (decide ((a1.kids.length : Int) > (a0.nodes.length : Int)))) = false := by first | exact hc | simpa using hc
    clear hc
    rw [c319] at h
    simp only [cond_true, cond_false] at h
    refine awp_skip ?_
    try simp only [exs, reduceIte, Nat.reduceEqDiff]
    refine hK311 _ ?_
    refine awp_seq fun K321 hK321 => ?_
    have J2 : ∀  (s392 : St), (s392.r 2 = .loc 2 (s392.g 2) 0 0 0) → (s392.r 3 = .loc 3 (s392.g 3) 0 0 0) → (s392.b 2 = some (.cells [.val (.fl (.int .i64 a0.next)), .val (.sl (List.map Nd.av a0.nodes))])) → (s392.b 3 = some (.cells [.val (.fl (.int .i64 a1.id)), .val (.fl (bs a1.concept)), .val (.fl (.int .i64 a1.parent)), .val (.fl (bs a1.role)), .val (.sl (List.map Prp.av a1.props)), .val (.sl (List.map intAV a1.kids)), .val (.sl (List.map Rf.av a1.refs))])) → F27_J2 a1 N a0 = some r → K321 s392 := by
      intro  s392 h2 h3 b2 b3 h
      unfold F27_J2 at h
      refine hK321 _ ?_
      refine awp_seq fun K393 hK393 => ?_
      have J1 : ∀  (s467 : St), True → F27_J1  = some r → K393 s467 := by
        intro  s467 _ h
        unfold F27_J1 at h
        refine hK393 _ ?_
        refine awp_seq fun K468 hK468 => ?_
        refine awp_region rfl (by kernel_rfl) ?_
        first | refine rops_k ?_ | refine ropsD_k ?_
        repeat (refine rops_ng rfl fun K hK => ?_; simp only [go_sem, reduceIte, Nat.reduceEqDiff, reduceCtorEq, Nat.reduceAdd, Nat.reduceMul, Nat.reduceLT, Nat.reduceLeDiff, Int.reduceToNat, Int.reduceLE]; refine hK _ ?_; clear hK K)
        first | refine rops_nil ?_ | refine ropsD_nil ?_
        try simp only [exs, reduceIte, Nat.reduceEqDiff]
        refine hK468 _ ?_
        have h := Option.some.inj h
        subst h
        refine awp_ret ?_
        try simp only [exs, reduceIte, Nat.reduceEqDiff]
        refine fin_ret (vs := [.tmp 4]) Try.ntmps27 rfl (by simp [List.filter_cons, isOwn]) none ?_
        (simp only [resultsAre, resCell, loadRegs, regRV, go_sem, reduceIte, Nat.reduceEqDiff, reduceCtorEq, Nat.reduceAdd, Nat.reduceMul, Nat.reduceLT, Nat.reduceLeDiff, Int.reduceToNat, Int.reduceLE, fs_all, take_length_map] <;> rfl)
      refine awp_seq fun K469 hK469 => ?_
      refine awp_region rfl (by kernel_rfl) ?_
      first | refine rops_k ?_ | refine ropsD_k ?_
      repeat (refine rops_ng rfl fun K hK => ?_; simp only [go_sem, reduceIte, Nat.reduceEqDiff, reduceCtorEq, Nat.reduceAdd, Nat.reduceMul, Nat.reduceLT, Nat.reduceLeDiff, Int.reduceToNat, Int.reduceLE, h3, b2, b3]; refine hK _ ?_; clear hK K)
      first | refine rops_nil ?_ | refine ropsD_nil ?_
      try simp only [exs, reduceIte, Nat.reduceEqDiff]
      refine hK469 _ ?_
      refine awp_block ?_
      refine awp_loopK (fun m s517 => ∃ (p494 : Int), s517.r 2 = .loc 2 (s517.g 2) 0 0 0 ∧ s517.r 3 = .loc 3 (s517.g 3) 0 0 0 ∧ s517.r 78 = .val (.sl (List.map Rf.av a1.refs)) ∧ s517.r 79 = .val (.fl (.int .i64 (a1.refs.length : Int))) ∧ s517.r 80 = .val (.fl (.int .i64 p494)) ∧ s517.b 2 = some (.cells [.val (.fl (.int .i64 a0.next)), .val (.sl (List.map Nd.av a0.nodes))]) ∧ s517.b 3 = some (.cells [.val (.fl (.int .i64 a1.id)), .val (.fl (bs a1.concept)), .val (.fl (.int .i64 a1.parent)), .val (.fl (bs a1.role)), .val (.sl (List.map Prp.av a1.props)), .val (.sl (List.map intAV a1.kids)), .val (.sl (List.map Rf.av a1.refs))]) ∧  F27_L1 a1 N a0 m p494 = some r) N ?_ ?_
      · refine ⟨0, ?_, ?_, ?_, ?_, ?_, ?_, ?_, h⟩
        · simp only [upd_apply, reduceIte, Nat.reduceEqDiff, h2]
        · simp only [upd_apply, reduceIte, Nat.reduceEqDiff, h3]
        · (first | (simp only [upd_apply, reduceIte, Nat.reduceEqDiff]; done) | (simp only [go_sem, reduceIte, Nat.reduceEqDiff, reduceCtorEq, Nat.reduceAdd, Nat.reduceMul, Nat.reduceLT, Nat.reduceLeDiff, Int.reduceToNat, Int.reduceLE, fs_all, take_length_map, h2, h3, b2, b3] <;> rfl) | rfl)
        · (first | (simp only [upd_apply, reduceIte, Nat.reduceEqDiff]; done) | (simp only [go_sem, reduceIte, Nat.reduceEqDiff, reduceCtorEq, Nat.reduceAdd, Nat.reduceMul, Nat.reduceLT, Nat.reduceLeDiff, Int.reduceToNat, Int.reduceLE, fs_all, take_length_map, h2, h3, b2, b3] <;> rfl) | rfl)
        · (first | (simp only [upd_apply, reduceIte, Nat.reduceEqDiff]; done) | (simp only [go_sem, reduceIte, Nat.reduceEqDiff, reduceCtorEq, Nat.reduceAdd, Nat.reduceMul, Nat.reduceLT, Nat.reduceLeDiff, Int.reduceToNat, Int.reduceLE, fs_all, take_length_map, h2, h3, b2, b3] <;> rfl) | rfl)
        · simp only [upd_apply, reduceIte, Nat.reduceEqDiff, b2]
        · simp only [upd_apply, reduceIte, Nat.reduceEqDiff, b3]
      clear h
      intro m519 s517 hI K470 hK470
      obtain ⟨p494, h2, h3, h78, h79, h80, b2, b3, h⟩ := hI
      rcases m519 with _ | n518
      · simp only [F27_L1, reduceCtorEq] at h
      rw [F27_L1] at h
      refine awp_seq fun K520 hK520 => ?_
      refine awp_region rfl (by kernel_rfl) ?_
      first | refine rops_k ?_ | refine ropsD_k ?_
      repeat (refine rops_ng rfl fun K hK => ?_; simp only [go_sem, reduceIte, Nat.reduceEqDiff, reduceCtorEq, Nat.reduceAdd, Nat.reduceMul, Nat.reduceLT, Nat.reduceLeDiff, Int.reduceToNat, Int.reduceLE, h79, h80, b2, b3]; refine hK _ ?_; clear hK K)
      first | refine rops_nil ?_ | refine ropsD_nil ?_
      try simp only [exs, reduceIte, Nat.reduceEqDiff]
      refine hK520 _ ?_
      refine awp_seq fun K521 hK521 => ?_
      refine awp_if (by kernel_rfl) (by (simp only [upd_apply, reduceIte, Nat.reduceEqDiff, St.ev, constReg, constCell, St.put_some, St.put_none, h2, h3, h78, h79, h80, b2, b3] <;> rfl)) (fun hc => ?_) (fun hc => ?_)
      · have c522 : (decide (p494 < (a1.refs.length : Int))) = true := by first | exact hc | simpa using hc
        clear hc
        rw [c522] at h
        simp only [cond_true, cond_false] at h
        refine awp_skip ?_
        try simp only [exs, reduceIte, Nat.reduceEqDiff]
        refine hK521 _ ?_
        refine awp_seq fun K523 hK523 => ?_
        refine awp_block ?_
        refine awp_seq fun K524 hK524 => ?_
        obtain ⟨x525, q526, h⟩ := bind_some h
        obtain ⟨q526i, q526e, q526l⟩ := getO_some q526
        refine awp_region rfl (by kernel_rfl) ?_
        first | refine rops_k ?_ | refine ropsD_k ?_
        repeat (refine rops_ng rfl fun K hK => ?_; simp only [go_sem, reduceIte, Nat.reduceEqDiff, reduceCtorEq, Nat.reduceAdd, Nat.reduceMul, Nat.reduceLT, Nat.reduceLeDiff, Int.reduceToNat, Int.reduceLE, h78, h80, b2, b3, q526i, q526e, q526l]; refine hK _ ?_; clear hK K)
        first | refine rops_nil ?_ | refine ropsD_nil ?_
        try simp only [exs, reduceIte, Nat.reduceEqDiff]
        refine hK524 _ ?_
        refine awp_seq fun K527 hK527 => ?_
        obtain ⟨x528, q530, h⟩ := bind_some h
        obtain ⟨x529, q531, h⟩ := bindG_some h
        refine awp_draw (by kernel_rfl) rfl (by kernel_rfl) (by kernel_rfl) ?_
        have R533 : ∀ s532 : St, (s532.r 2 = .loc 2 (s532.g 2) 0 0 0) → (s532.r 3 = .loc 3 (s532.g 3) 0 0 0) → (s532.r 78 = .val (.sl (List.map Rf.av a1.refs))) → (s532.r 79 = .val (.fl (.int .i64 (a1.refs.length : Int)))) → (s532.r 80 = .val (.fl (.int .i64 p494))) → (s532.r 116 = .val (.fl (.bool ((((!x528) || (decide (x525.target < 1))) || (decide (x525.target ≥ a0.next))) || ((decide (p494 > 0)) && (!Op.bytesLess x529.role x525.role)))))) → (s532.b 2 = some (.cells [.val (.fl (.int .i64 a0.next)), .val (.sl (List.map Nd.av a0.nodes))])) → (s532.b 3 = some (.cells [.val (.fl (.int .i64 a1.id)), .val (.fl (bs a1.concept)), .val (.fl (.int .i64 a1.parent)), .val (.fl (bs a1.role)), .val (.sl (List.map Prp.av a1.props)), .val (.sl (List.map intAV a1.kids)), .val (.sl (List.map Rf.av a1.refs))])) → K527 s532 := by
          intro s532 h2 h3 h78 h79 h80 h116 b2 b3
          refine hK527 _ ?_
          refine awp_if (by kernel_rfl) (by (simp only [upd_apply, reduceIte, Nat.reduceEqDiff, St.ev, constReg, constCell, St.put_some, St.put_none, h2, h3, h78, h79, h80, h116, b2, b3, q526i, q526e, q526l] <;> rfl)) (fun hc => ?_) (fun hc => ?_)
          · have c534 : ((((!x528) || (decide (x525.target < 1))) || (decide (x525.target ≥ a0.next))) || ((decide (p494 > 0)) && (!Op.bytesLess x529.role x525.role))) = true := by first | exact hc | simpa using hc
            clear hc
            rw [c534] at h
            simp only [cond_true, cond_false] at h
            refine awp_seq fun K535 hK535 => ?_
            refine awp_region rfl (by kernel_rfl) ?_
            first | refine rops_k ?_ | refine ropsD_k ?_
            repeat (refine rops_ng rfl fun K hK => ?_; simp only [go_sem, reduceIte, Nat.reduceEqDiff, reduceCtorEq, Nat.reduceAdd, Nat.reduceMul, Nat.reduceLT, Nat.reduceLeDiff, Int.reduceToNat, Int.reduceLE, b2, b3]; refine hK _ ?_; clear hK K)
            first | refine rops_nil ?_ | refine ropsD_nil ?_
            try simp only [exs, reduceIte, Nat.reduceEqDiff]
            refine hK535 _ ?_
            have h := Option.some.inj h
            subst h
            refine awp_ret ?_
            try simp only [exs, reduceIte, Nat.reduceEqDiff]
            refine fin_ret (vs := [.tmp 4]) Try.ntmps27 rfl (by simp [List.filter_cons, isOwn]) none ?_
            (simp only [resultsAre, resCell, loadRegs, regRV, go_sem, reduceIte, Nat.reduceEqDiff, reduceCtorEq, Nat.reduceAdd, Nat.reduceMul, Nat.reduceLT, Nat.reduceLeDiff, Int.reduceToNat, Int.reduceLE, fs_all, take_length_map, h2, h3, h78, h79, h80, h116, b2, b3, q526i, q526e, q526l] <;> rfl)
          have c534 : ((((!x528) || (decide (x525.target < 1))) || (decide (x525.target ≥ a0.next))) || ((decide (p494 > 0)) && (!Op.bytesLess x529.role x525.role))) = false := by first | exact hc | simpa using hc
          clear hc
          rw [c534] at h
          simp only [cond_true, cond_false] at h
          refine awp_skip ?_
          try simp only [exs, reduceIte, Nat.reduceEqDiff]
          refine hK523 _ ?_
          refine awp_region rfl (by kernel_rfl) ?_
          first | refine rops_k ?_ | refine ropsD_k ?_
          repeat (refine rops_ng rfl fun K hK => ?_; simp only [go_sem, reduceIte, Nat.reduceEqDiff, reduceCtorEq, Nat.reduceAdd, Nat.reduceMul, Nat.reduceLT, Nat.reduceLeDiff, Int.reduceToNat, Int.reduceLE, h80, b2, b3, q526i, q526e, q526l]; refine hK _ ?_; clear hK K)
          first | refine rops_nil ?_ | refine ropsD_nil ?_
          try simp only [exs, reduceIte, Nat.reduceEqDiff]
          refine hK470 _ ⟨n518, Nat.lt_succ_self _, (IntKind.i64.wrap (p494 + 1)), ?_, ?_, ?_, ?_, ?_, ?_, ?_, h⟩
          · simp only [upd_apply, reduceIte, Nat.reduceEqDiff, h2]
          · simp only [upd_apply, reduceIte, Nat.reduceEqDiff, h3]
          · simp only [upd_apply, reduceIte, Nat.reduceEqDiff, h78]
          · simp only [upd_apply, reduceIte, Nat.reduceEqDiff, h79]
          · (first | (simp only [upd_apply, reduceIte, Nat.reduceEqDiff, h80]; done) | (simp only [go_sem, reduceIte, Nat.reduceEqDiff, reduceCtorEq, Nat.reduceAdd, Nat.reduceMul, Nat.reduceLT, Nat.reduceLeDiff, Int.reduceToNat, Int.reduceLE, fs_all, take_length_map, h2, h3, h78, h79, h80, h116, b2, b3, q526i, q526e, q526l] <;> rfl) | rfl)
          · simp only [upd_apply, reduceIte, Nat.reduceEqDiff, b2]
          · simp only [upd_apply, reduceIte, Nat.reduceEqDiff, b3]
        first | refine rops_k ?_ | refine ropsD_k ?_
        repeat (refine ropsD_ng rfl fun K hK => ?_; simp only [go_sem, reduceIte, Nat.reduceEqDiff, reduceCtorEq, Nat.reduceAdd, Nat.reduceMul, Nat.reduceLT, Nat.reduceLeDiff, Int.reduceToNat, Int.reduceLE, h2, h3, b2, b3, q526i, q526e, q526l]; refine hK _ ?_; clear hK K)
        refine ropsD_ng rfl fun K hK => ?_
        simp only [List.head?_cons, List.head?_nil, Option.map_some, Option.map_none, rops1, ropsD1, gtmp, gate, beq_self_eq_true, beq_t, beq_f, Bool.not_true, Bool.not_false, if_true, rOp, rOpD, calleeOf, regAVsOf, regAV, List.getElem?_toArray, List.getElem?_cons_zero, List.getElem?_cons_succ, Option.bind_some, upd_apply, reduceIte, Nat.reduceEqDiff, St.ev, constReg, constCell, St.put_some, St.put_none, h2, h3, h78, h79, h80, b2, b3, q526i, q526e, q526l]
        refine ⟨_, _, rfl, _, rfl, _, (F35_does _ N x525.role  _ q530), _, rfl, ?_⟩
        simp only [flRV, outK, St.take, St.takeRVs, St.takeRV, retReg, St.put_some, St.put_none, List.map_cons, List.map_nil]
        refine hK _ ?_; clear hK K
        repeat (refine ropsD_ng rfl fun K hK => ?_; simp only [go_sem, reduceIte, Nat.reduceEqDiff, reduceCtorEq, Nat.reduceAdd, Nat.reduceMul, Nat.reduceLT, Nat.reduceLeDiff, Int.reduceToNat, Int.reduceLE, h2, h3, b2, b3, q526i, q526e, q526l]; refine hK _ ?_; clear hK K)
        rcases c536 : (x528) with _ | _
        · repeat (first | (refine ropsD_ng rfl fun K hK => ?_; simp only [go_sem, reduceIte, Nat.reduceEqDiff, reduceCtorEq, Nat.reduceAdd, Nat.reduceMul, Nat.reduceLT, Nat.reduceLeDiff, Int.reduceToNat, Int.reduceLE, h2, h3, b2, b3, q526i, q526e, q526l, c536]; refine hK _ ?_; clear hK K) | (refine ropsD_on rfl rfl ?_ fun K hK => ?_; (focus (simp only [go_sem, reduceIte, Nat.reduceEqDiff, reduceCtorEq, Nat.reduceAdd, Nat.reduceMul, Nat.reduceLT, Nat.reduceLeDiff, Int.reduceToNat, Int.reduceLE, h2, h3, b2, b3, q526i, q526e, q526l, c536]; done)); simp only [go_sem, reduceIte, Nat.reduceEqDiff, reduceCtorEq, Nat.reduceAdd, Nat.reduceMul, Nat.reduceLT, Nat.reduceLeDiff, Int.reduceToNat, Int.reduceLE, h2, h3, b2, b3, q526i, q526e, q526l, c536]; refine hK _ ?_; clear hK K) | (refine ropsD_off rfl rfl ?_ ?_; (focus (simp only [go_sem, reduceIte, Nat.reduceEqDiff, reduceCtorEq, Nat.reduceAdd, Nat.reduceMul, Nat.reduceLT, Nat.reduceLeDiff, Int.reduceToNat, Int.reduceLE, h2, h3, b2, b3, q526i, q526e, q526l, c536]; done))))
          first | refine rops_nil ?_ | refine ropsD_nil ?_
          try simp only [exs, reduceIte, Nat.reduceEqDiff]
          refine R533 _ ?_ ?_ ?_ ?_ ?_ ?_ ?_ ?_
          · simp only [upd_apply, reduceIte, Nat.reduceEqDiff, h2]
          · simp only [upd_apply, reduceIte, Nat.reduceEqDiff, h3]
          · simp only [upd_apply, reduceIte, Nat.reduceEqDiff, h78]
          · simp only [upd_apply, reduceIte, Nat.reduceEqDiff, h79]
          · simp only [upd_apply, reduceIte, Nat.reduceEqDiff, h80]
          · (first | (simp only [upd_apply, reduceIte, Nat.reduceEqDiff]; done) | (simp only [go_sem, reduceIte, Nat.reduceEqDiff, reduceCtorEq, Nat.reduceAdd, Nat.reduceMul, Nat.reduceLT, Nat.reduceLeDiff, Int.reduceToNat, Int.reduceLE, fs_all, take_length_map, h2, h3, h78, h79, h80, b2, b3, q526i, q526e, q526l, c536] <;> rfl) | rfl)
          · simp only [upd_apply, reduceIte, Nat.reduceEqDiff, b2]
          · simp only [upd_apply, reduceIte, Nat.reduceEqDiff, b3]
        repeat (first | (refine ropsD_ng rfl fun K hK => ?_; simp only [go_sem, reduceIte, Nat.reduceEqDiff, reduceCtorEq, Nat.reduceAdd, Nat.reduceMul, Nat.reduceLT, Nat.reduceLeDiff, Int.reduceToNat, Int.reduceLE, h2, h3, b2, b3, q526i, q526e, q526l, c536]; refine hK _ ?_; clear hK K) | (refine ropsD_on rfl rfl ?_ fun K hK => ?_; (focus (simp only [go_sem, reduceIte, Nat.reduceEqDiff, reduceCtorEq, Nat.reduceAdd, Nat.reduceMul, Nat.reduceLT, Nat.reduceLeDiff, Int.reduceToNat, Int.reduceLE, h2, h3, b2, b3, q526i, q526e, q526l, c536]; done)); simp only [go_sem, reduceIte, Nat.reduceEqDiff, reduceCtorEq, Nat.reduceAdd, Nat.reduceMul, Nat.reduceLT, Nat.reduceLeDiff, Int.reduceToNat, Int.reduceLE, h2, h3, b2, b3, q526i, q526e, q526l, c536]; refine hK _ ?_; clear hK K) | (refine ropsD_off rfl rfl ?_ ?_; (focus (simp only [go_sem, reduceIte, Nat.reduceEqDiff, reduceCtorEq, Nat.reduceAdd, Nat.reduceMul, Nat.reduceLT, Nat.reduceLeDiff, Int.reduceToNat, Int.reduceLE, h2, h3, b2, b3, q526i, q526e, q526l, c536]; done))))
        rcases c537 : (decide (x525.target < 1)) with _ | _
        · repeat (first | (refine ropsD_ng rfl fun K hK => ?_; simp only [go_sem, reduceIte, Nat.reduceEqDiff, reduceCtorEq, Nat.reduceAdd, Nat.reduceMul, Nat.reduceLT, Nat.reduceLeDiff, Int.reduceToNat, Int.reduceLE, h2, h3, b2, b3, q526i, q526e, q526l, c536, c537]; refine hK _ ?_; clear hK K) | (refine ropsD_on rfl rfl ?_ fun K hK => ?_; (focus (simp only [go_sem, reduceIte, Nat.reduceEqDiff, reduceCtorEq, Nat.reduceAdd, Nat.reduceMul, Nat.reduceLT, Nat.reduceLeDiff, Int.reduceToNat, Int.reduceLE, h2, h3, b2, b3, q526i, q526e, q526l, c536, c537]; done)); simp only [go_sem, reduceIte, Nat.reduceEqDiff, reduceCtorEq, Nat.reduceAdd, Nat.reduceMul, Nat.reduceLT, Nat.reduceLeDiff, Int.reduceToNat, Int.reduceLE, h2, h3, b2, b3, q526i, q526e, q526l, c536, c537]; refine hK _ ?_; clear hK K) | (refine ropsD_off rfl rfl ?_ ?_; (focus (simp only [go_sem, reduceIte, Nat.reduceEqDiff, reduceCtorEq, Nat.reduceAdd, Nat.reduceMul, Nat.reduceLT, Nat.reduceLeDiff, Int.reduceToNat, Int.reduceLE, h2, h3, b2, b3, q526i, q526e, q526l, c536, c537]; done))))
          rcases c538 : (decide (x525.target ≥ a0.next)) with _ | _
          · repeat (first | (refine ropsD_ng rfl fun K hK => ?_; simp only [go_sem, reduceIte, Nat.reduceEqDiff, reduceCtorEq, Nat.reduceAdd, Nat.reduceMul, Nat.reduceLT, Nat.reduceLeDiff, Int.reduceToNat, Int.reduceLE, h2, h3, b2, b3, q526i, q526e, q526l, c536, c537, c538]; refine hK _ ?_; clear hK K) | (refine ropsD_on rfl rfl ?_ fun K hK => ?_; (focus (simp only [go_sem, reduceIte, Nat.reduceEqDiff, reduceCtorEq, Nat.reduceAdd, Nat.reduceMul, Nat.reduceLT, Nat.reduceLeDiff, Int.reduceToNat, Int.reduceLE, h2, h3, b2, b3, q526i, q526e, q526l, c536, c537, c538]; done)); simp only [go_sem, reduceIte, Nat.reduceEqDiff, reduceCtorEq, Nat.reduceAdd, Nat.reduceMul, Nat.reduceLT, Nat.reduceLeDiff, Int.reduceToNat, Int.reduceLE, h2, h3, b2, b3, q526i, q526e, q526l, c536, c537, c538]; refine hK _ ?_; clear hK K) | (refine ropsD_off rfl rfl ?_ ?_; (focus (simp only [go_sem, reduceIte, Nat.reduceEqDiff, reduceCtorEq, Nat.reduceAdd, Nat.reduceMul, Nat.reduceLT, Nat.reduceLeDiff, Int.reduceToNat, Int.reduceLE, h2, h3, b2, b3, q526i, q526e, q526l, c536, c537, c538]; done))))
            rcases c539 : (decide (p494 > 0)) with _ | _
            · repeat (first | (refine ropsD_ng rfl fun K hK => ?_; simp only [go_sem, reduceIte, Nat.reduceEqDiff, reduceCtorEq, Nat.reduceAdd, Nat.reduceMul, Nat.reduceLT, Nat.reduceLeDiff, Int.reduceToNat, Int.reduceLE, h2, h3, b2, b3, q526i, q526e, q526l, c536, c537, c538, c539]; refine hK _ ?_; clear hK K) | (refine ropsD_on rfl rfl ?_ fun K hK => ?_; (focus (simp only [go_sem, reduceIte, Nat.reduceEqDiff, reduceCtorEq, Nat.reduceAdd, Nat.reduceMul, Nat.reduceLT, Nat.reduceLeDiff, Int.reduceToNat, Int.reduceLE, h2, h3, b2, b3, q526i, q526e, q526l, c536, c537, c538, c539]; done)); simp only [go_sem, reduceIte, Nat.reduceEqDiff, reduceCtorEq, Nat.reduceAdd, Nat.reduceMul, Nat.reduceLT, Nat.reduceLeDiff, Int.reduceToNat, Int.reduceLE, h2, h3, b2, b3, q526i, q526e, q526l, c536, c537, c538, c539]; refine hK _ ?_; clear hK K) | (refine ropsD_off rfl rfl ?_ ?_; (focus (simp only [go_sem, reduceIte, Nat.reduceEqDiff, reduceCtorEq, Nat.reduceAdd, Nat.reduceMul, Nat.reduceLT, Nat.reduceLeDiff, Int.reduceToNat, Int.reduceLE, h2, h3, b2, b3, q526i, q526e, q526l, c536, c537, c538, c539]; done))))
              first | refine rops_nil ?_ | refine ropsD_nil ?_
              try simp only [exs, reduceIte, Nat.reduceEqDiff]
              refine R533 _ ?_ ?_ ?_ ?_ ?_ ?_ ?_ ?_
              · simp only [upd_apply, reduceIte, Nat.reduceEqDiff, h2]
              · simp only [upd_apply, reduceIte, Nat.reduceEqDiff, h3]
              · simp only [upd_apply, reduceIte, Nat.reduceEqDiff, h78]
              · simp only [upd_apply, reduceIte, Nat.reduceEqDiff, h79]
              · simp only [upd_apply, reduceIte, Nat.reduceEqDiff, h80]
              · (first | (simp only [upd_apply, reduceIte, Nat.reduceEqDiff]; done) | (simp only [go_sem, reduceIte, Nat.reduceEqDiff, reduceCtorEq, Nat.reduceAdd, Nat.reduceMul, Nat.reduceLT, Nat.reduceLeDiff, Int.reduceToNat, Int.reduceLE, fs_all, take_length_map, h2, h3, h78, h79, h80, b2, b3, q526i, q526e, q526l, c536, c537, c538, c539] <;> rfl) | rfl)
              · simp only [upd_apply, reduceIte, Nat.reduceEqDiff, b2]
              · simp only [upd_apply, reduceIte, Nat.reduceEqDiff, b3]
            have q540 := q531 (by simp only [c536, c537, c538, c539, fs_bool, beq_t, beq_f, beq_self_eq_true])
            obtain ⟨q540i, q540e, q540l⟩ := getO_some q540
            repeat (first | (refine ropsD_ng rfl fun K hK => ?_; simp only [go_sem, reduceIte, Nat.reduceEqDiff, reduceCtorEq, Nat.reduceAdd, Nat.reduceMul, Nat.reduceLT, Nat.reduceLeDiff, Int.reduceToNat, Int.reduceLE, h2, h3, b2, b3, q526i, q526e, q526l, q540i, q540e, q540l, c536, c537, c538, c539]; refine hK _ ?_; clear hK K) | (refine ropsD_on rfl rfl ?_ fun K hK => ?_; (focus (simp only [go_sem, reduceIte, Nat.reduceEqDiff, reduceCtorEq, Nat.reduceAdd, Nat.reduceMul, Nat.reduceLT, Nat.reduceLeDiff, Int.reduceToNat, Int.reduceLE, h2, h3, b2, b3, q526i, q526e, q526l, q540i, q540e, q540l, c536, c537, c538, c539]; done)); simp only [go_sem, reduceIte, Nat.reduceEqDiff, reduceCtorEq, Nat.reduceAdd, Nat.reduceMul, Nat.reduceLT, Nat.reduceLeDiff, Int.reduceToNat, Int.reduceLE, h2, h3, b2, b3, q526i, q526e, q526l, q540i, q540e, q540l, c536, c537, c538, c539]; refine hK _ ?_; clear hK K) | (refine ropsD_off rfl rfl ?_ ?_; (focus (simp only [go_sem, reduceIte, Nat.reduceEqDiff, reduceCtorEq, Nat.reduceAdd, Nat.reduceMul, Nat.reduceLT, Nat.reduceLeDiff, Int.reduceToNat, Int.reduceLE, h2, h3, b2, b3, q526i, q526e, q526l, q540i, q540e, q540l, c536, c537, c538, c539]; done))))
            first | refine rops_nil ?_ | refine ropsD_nil ?_
            try simp only [exs, reduceIte, Nat.reduceEqDiff]
            refine R533 _ ?_ ?_ ?_ ?_ ?_ ?_ ?_ ?_
            · simp only [upd_apply, reduceIte, Nat.reduceEqDiff, h2]
            · simp only [upd_apply, reduceIte, Nat.reduceEqDiff, h3]
            · simp only [upd_apply, reduceIte, Nat.reduceEqDiff, h78]
            · simp only [upd_apply, reduceIte, Nat.reduceEqDiff, h79]
            · simp only [upd_apply, reduceIte, Nat.reduceEqDiff, h80]
            · (first | (simp only [upd_apply, reduceIte, Nat.reduceEqDiff]; done) | (simp only [go_sem, reduceIte, Nat.reduceEqDiff, reduceCtorEq, Nat.reduceAdd, Nat.reduceMul, Nat.reduceLT, Nat.reduceLeDiff, Int.reduceToNat, Int.reduceLE, fs_all, take_length_map, h2, h3, h78, h79, h80, b2, b3, q526i, q526e, q526l, q540i, q540e, q540l, c536, c537, c538, c539] <;> rfl) | rfl)
            · simp only [upd_apply, reduceIte, Nat.reduceEqDiff, b2]
            · simp only [upd_apply, reduceIte, Nat.reduceEqDiff, b3]
          repeat (first | (refine ropsD_ng rfl fun K hK => ?_; simp only [go_sem, reduceIte, Nat.reduceEqDiff, reduceCtorEq, Nat.reduceAdd, Nat.reduceMul, Nat.reduceLT, Nat.reduceLeDiff, Int.reduceToNat, Int.reduceLE, h2, h3, b2, b3, q526i, q526e, q526l, c536, c537, c538]; refine hK _ ?_; clear hK K) | (refine ropsD_on rfl rfl ?_ fun K hK => ?_; (focus (simp only [go_sem, reduceIte, Nat.reduceEqDiff, reduceCtorEq, Nat.reduceAdd, Nat.reduceMul, Nat.reduceLT, Nat.reduceLeDiff, Int.reduceToNat, Int.reduceLE, h2, h3, b2, b3, q526i, q526e, q526l, c536, c537, c538]; done)); simp only [go_sem, reduceIte, Nat.reduceEqDiff, reduceCtorEq, Nat.reduceAdd, Nat.reduceMul, Nat.reduceLT, Nat.reduceLeDiff, Int.reduceToNat, Int.reduceLE, h2, h3, b2, b3, q526i, q526e, q526l, c536, c537, c538]; refine hK _ ?_; clear hK K) | (refine ropsD_off rfl rfl ?_ ?_; (focus (simp only [go_sem, reduceIte, Nat.reduceEqDiff, reduceCtorEq, Nat.reduceAdd, Nat.reduceMul, Nat.reduceLT, Nat.reduceLeDiff, Int.reduceToNat, Int.reduceLE, h2, h3, b2, b3, q526i, q526e, q526l, c536, c537, c538]; done))))
          first | refine rops_nil ?_ | refine ropsD_nil ?_
          try simp only [exs, reduceIte, Nat.reduceEqDiff]
          refine R533 _ ?_ ?_ ?_ ?_ ?_ ?_ ?_ ?_
          · simp only [upd_apply, reduceIte, Nat.reduceEqDiff, h2]
          · simp only [upd_apply, reduceIte, Nat.reduceEqDiff, h3]
          · simp only [upd_apply, reduceIte, Nat.reduceEqDiff, h78]
          · simp only [upd_apply, reduceIte, Nat.reduceEqDiff, h79]
          · simp only [upd_apply, reduceIte, Nat.reduceEqDiff, h80]
          · (first | (simp only [upd_apply, reduceIte, Nat.reduceEqDiff]; done) | (simp only [go_sem, reduceIte, Nat.reduceEqDiff, reduceCtorEq, Nat.reduceAdd, Nat.reduceMul, Nat.reduceLT, Nat.reduceLeDiff, Int.reduceToNat, Int.reduceLE, fs_all, take_length_map, h2, h3, h78, h79, h80, b2, b3, q526i, q526e, q526l, c536, c537, c538] <;> rfl) | rfl)
          · simp only [upd_apply, reduceIte, Nat.reduceEqDiff, b2]
          · simp only [upd_apply, reduceIte, Nat.reduceEqDiff, b3]
        repeat (first | (refine ropsD_ng rfl fun K hK => ?_; simp only [go_sem, reduceIte, Nat.reduceEqDiff, reduceCtorEq, Nat.reduceAdd, Nat.reduceMul, Nat.reduceLT, Nat.reduceLeDiff, Int.reduceToNat, Int.reduceLE, h2, h3, b2, b3, q526i, q526e, q526l, c536, c537]; refine hK _ ?_; clear hK K) | (refine ropsD_on rfl rfl ?_ fun K hK => ?_; (focus (simp only [go_sem, reduceIte, Nat.reduceEqDiff, reduceCtorEq, Nat.reduceAdd, Nat.reduceMul, Nat.reduceLT, Nat.reduceLeDiff, Int.reduceToNat, Int.reduceLE, h2, h3, b2, b3, q526i, q526e, q526l, c536, c537]; done)); simp only [go_sem, reduceIte, Nat.reduceEqDiff, reduceCtorEq, Nat.reduceAdd, Nat.reduceMul, Nat.reduceLT, Nat.reduceLeDiff, Int.reduceToNat, Int.reduceLE, h2, h3, b2, b3, q526i, q526e, q526l, c536, c537]; refine hK _ ?_; clear hK K) | (refine ropsD_off rfl rfl ?_ ?_; (focus (simp only [go_sem, reduceIte, Nat.reduceEqDiff, reduceCtorEq, Nat.reduceAdd, Nat.reduceMul, Nat.reduceLT, Nat.reduceLeDiff, Int.reduceToNat, Int.reduceLE, h2, h3, b2, b3, q526i, q526e, q526l, c536, c537]; done))))
        first | refine rops_nil ?_ | refine ropsD_nil ?_
        try simp only [exs, reduceIte, Nat.reduceEqDiff]
        refine R533 _ ?_ ?_ ?_ ?_ ?_ ?_ ?_ ?_
        · simp only [upd_apply, reduceIte, Nat.reduceEqDiff, h2]
        · simp only [upd_apply, reduceIte, Nat.reduceEqDiff, h3]
        · simp only [upd_apply, reduceIte, Nat.reduceEqDiff, h78]
        · simp only [upd_apply, reduceIte, Nat.reduceEqDiff, h79]
        · simp only [upd_apply, reduceIte, Nat.reduceEqDiff, h80]
        · (first | (simp only [upd_apply, reduceIte, Nat.reduceEqDiff]; done) | (simp only [go_sem, reduceIte, Nat.reduceEqDiff, reduceCtorEq, Nat.reduceAdd, Nat.reduceMul, Nat.reduceLT, Nat.reduceLeDiff, Int.reduceToNat, Int.reduceLE, fs_all, take_length_map, h2, h3, h78, h79, h80, b2, b3, q526i, q526e, q526l, c536, c537] <;> rfl) | rfl)
        · simp only [upd_apply, reduceIte, Nat.reduceEqDiff, b2]
        · simp only [upd_apply, reduceIte, Nat.reduceEqDiff, b3]
      have c522 : (decide (p494 < (a1.refs.length : Int))) = false := by first | exact hc | simpa using hc
      clear hc
      rw [c522] at h
      simp only [cond_true, cond_false] at h
      refine awp_exit ?_
      try simp only [exs, reduceIte, Nat.reduceEqDiff]
      refine J1  _ trivial h
    refine awp_seq fun K541 hK541 => ?_
    refine awp_region rfl (by kernel_rfl) ?_
    first | refine rops_k ?_ | refine ropsD_k ?_
    repeat (refine rops_ng rfl fun K hK => ?_; simp only [go_sem, reduceIte, Nat.reduceEqDiff, reduceCtorEq, Nat.reduceAdd, Nat.reduceMul, Nat.reduceLT, Nat.reduceLeDiff, Int.reduceToNat, Int.reduceLE, h3, b2, b3]; refine hK _ ?_; clear hK K)
    first | refine rops_nil ?_ | refine ropsD_nil ?_
    try simp only [exs, reduceIte, Nat.reduceEqDiff]
    refine hK541 _ ?_
    refine awp_block ?_
    refine awp_loopK (fun m s587 => ∃ (p565 : Int), s587.r 2 = .loc 2 (s587.g 2) 0 0 0 ∧ s587.r 3 = .loc 3 (s587.g 3) 0 0 0 ∧ s587.r 43 = .val (.sl (List.map Prp.av a1.props)) ∧ s587.r 44 = .val (.fl (.int .i64 (a1.props.length : Int))) ∧ s587.r 45 = .val (.fl (.int .i64 p565)) ∧ s587.b 2 = some (.cells [.val (.fl (.int .i64 a0.next)), .val (.sl (List.map Nd.av a0.nodes))]) ∧ s587.b 3 = some (.cells [.val (.fl (.int .i64 a1.id)), .val (.fl (bs a1.concept)), .val (.fl (.int .i64 a1.parent)), .val (.fl (bs a1.role)), .val (.sl (List.map Prp.av a1.props)), .val (.sl (List.map intAV a1.kids)), .val (.sl (List.map Rf.av a1.refs))]) ∧  F27_L2 a1 N a0 m p565 = some r) N ?_ ?_
    · refine ⟨0, ?_, ?_, ?_, ?_, ?_, ?_, ?_, h⟩
      · simp only [upd_apply, reduceIte, Nat.reduceEqDiff, h2]
      · simp only [upd_apply, reduceIte, Nat.reduceEqDiff, h3]
      · (first | (simp only [upd_apply, reduceIte, Nat.reduceEqDiff]; done) | (simp only [go_sem, reduceIte, Nat.reduceEqDiff, reduceCtorEq, Nat.reduceAdd, Nat.reduceMul, Nat.reduceLT, Nat.reduceLeDiff, Int.reduceToNat, Int.reduceLE, fs_all, take_length_map, h2, h3, h41, b2, b3] <;> rfl) | rfl)
      · (first | (simp only [upd_apply, reduceIte, Nat.reduceEqDiff]; done) | (simp only [go_sem, reduceIte, Nat.reduceEqDiff, reduceCtorEq, Nat.reduceAdd, Nat.reduceMul, Nat.reduceLT, Nat.reduceLeDiff, Int.reduceToNat, Int.reduceLE, fs_all, take_length_map, h2, h3, h41, b2, b3] <;> rfl) | rfl)
      · (first | (simp only [upd_apply, reduceIte, Nat.reduceEqDiff]; done) | (simp only [go_sem, reduceIte, Nat.reduceEqDiff, reduceCtorEq, Nat.reduceAdd, Nat.reduceMul, Nat.reduceLT, Nat.reduceLeDiff, Int.reduceToNat, Int.reduceLE, fs_all, take_length_map, h2, h3, h41, b2, b3] <;> rfl) | rfl)
      · simp only [upd_apply, reduceIte, Nat.reduceEqDiff, b2]
      · simp only [upd_apply, reduceIte, Nat.reduceEqDiff, b3]
    clear h
    intro m589 s587 hI K542 hK542
    obtain ⟨p565, h2, h3, h43, h44, h45, b2, b3, h⟩ := hI
    rcases m589 with _ | n588
    · simp only [F27_L2, reduceCtorEq] at h
    rw [F27_L2] at h
    refine awp_seq fun K590 hK590 => ?_
    refine awp_region rfl (by kernel_rfl) ?_
    first | refine rops_k ?_ | refine ropsD_k ?_
    repeat (refine rops_ng rfl fun K hK => ?_; simp only [go_sem, reduceIte, Nat.reduceEqDiff, reduceCtorEq, Nat.reduceAdd, Nat.reduceMul, Nat.reduceLT, Nat.reduceLeDiff, Int.reduceToNat, Int.reduceLE, h44, h45, b2, b3]; refine hK _ ?_; clear hK K)
    first | refine rops_nil ?_ | refine ropsD_nil ?_
    try simp only [exs, reduceIte, Nat.reduceEqDiff]
    refine hK590 _ ?_
    refine awp_seq fun K591 hK591 => ?_
    refine awp_if (by kernel_rfl) (by (simp only [upd_apply, reduceIte, Nat.reduceEqDiff, St.ev, constReg, constCell, St.put_some, St.put_none, h2, h3, h43, h44, h45, b2, b3] <;> rfl)) (fun hc => ?_) (fun hc => ?_)
    · have c592 : (decide (p565 < (a1.props.length : Int))) = true := by first | exact hc | simpa using hc
      clear hc
      rw [c592] at h
      simp only [cond_true, cond_false] at h
      refine awp_skip ?_
      try simp only [exs, reduceIte, Nat.reduceEqDiff]
      refine hK591 _ ?_
      refine awp_seq fun K593 hK593 => ?_
      refine awp_block ?_
      refine awp_seq fun K594 hK594 => ?_
      obtain ⟨x595, q596, h⟩ := bind_some h
      obtain ⟨q596i, q596e, q596l⟩ := getO_some q596
      refine awp_region rfl (by kernel_rfl) ?_
      first | refine rops_k ?_ | refine ropsD_k ?_
      repeat (refine rops_ng rfl fun K hK => ?_; simp only [go_sem, reduceIte, Nat.reduceEqDiff, reduceCtorEq, Nat.reduceAdd, Nat.reduceMul, Nat.reduceLT, Nat.reduceLeDiff, Int.reduceToNat, Int.reduceLE, h43, h45, b2, b3, q596i, q596e, q596l]; refine hK _ ?_; clear hK K)
      first | refine rops_nil ?_ | refine ropsD_nil ?_
      try simp only [exs, reduceIte, Nat.reduceEqDiff]
      refine hK594 _ ?_
      refine awp_seq fun K597 hK597 => ?_
      obtain ⟨x598, q600, h⟩ := bind_some h
      obtain ⟨x599, q601, h⟩ := bindG_some h
      refine awp_draw (by kernel_rfl) rfl (by kernel_rfl) (by kernel_rfl) ?_
      have R603 : ∀ s602 : St, (s602.r 2 = .loc 2 (s602.g 2) 0 0 0) → (s602.r 3 = .loc 3 (s602.g 3) 0 0 0) → (s602.r 43 = .val (.sl (List.map Prp.av a1.props))) → (s602.r 44 = .val (.fl (.int .i64 (a1.props.length : Int)))) → (s602.r 45 = .val (.fl (.int .i64 p565))) → (s602.r 75 = .val (.fl (.bool (((!x598) || (decide ((x595.value.length : Int) > 4096))) || ((decide (p565 > 0)) && (!Op.bytesLess x599.name x595.name)))))) → (s602.b 2 = some (.cells [.val (.fl (.int .i64 a0.next)), .val (.sl (List.map Nd.av a0.nodes))])) → (s602.b 3 = some (.cells [.val (.fl (.int .i64 a1.id)), .val (.fl (bs a1.concept)), .val (.fl (.int .i64 a1.parent)), .val (.fl (bs a1.role)), .val (.sl (List.map Prp.av a1.props)), .val (.sl (List.map intAV a1.kids)), .val (.sl (List.map Rf.av a1.refs))])) → K597 s602 := by
        intro s602 h2 h3 h43 h44 h45 h75 b2 b3
        refine hK597 _ ?_
        refine awp_if (by kernel_rfl) (by (simp only [upd_apply, reduceIte, Nat.reduceEqDiff, St.ev, constReg, constCell, St.put_some, St.put_none, h2, h3, h43, h44, h45, h75, b2, b3, q596i, q596e, q596l] <;> rfl)) (fun hc => ?_) (fun hc => ?_)
        · have c604 : (((!x598) || (decide ((x595.value.length : Int) > 4096))) || ((decide (p565 > 0)) && (!Op.bytesLess x599.name x595.name))) = true := by first | exact hc | simpa using hc
          clear hc
          rw [c604] at h
          simp only [cond_true, cond_false] at h
          refine awp_seq fun K605 hK605 => ?_
          refine awp_region rfl (by kernel_rfl) ?_
          first | refine rops_k ?_ | refine ropsD_k ?_
          repeat (refine rops_ng rfl fun K hK => ?_; simp only [go_sem, reduceIte, Nat.reduceEqDiff, reduceCtorEq, Nat.reduceAdd, Nat.reduceMul, Nat.reduceLT, Nat.reduceLeDiff, Int.reduceToNat, Int.reduceLE, b2, b3]; refine hK _ ?_; clear hK K)
          first | refine rops_nil ?_ | refine ropsD_nil ?_
          try simp only [exs, reduceIte, Nat.reduceEqDiff]
          refine hK605 _ ?_
          have h := Option.some.inj h
          subst h
          refine awp_ret ?_
          try simp only [exs, reduceIte, Nat.reduceEqDiff]
          refine fin_ret (vs := [.tmp 4]) Try.ntmps27 rfl (by simp [List.filter_cons, isOwn]) none ?_
          (simp only [resultsAre, resCell, loadRegs, regRV, go_sem, reduceIte, Nat.reduceEqDiff, reduceCtorEq, Nat.reduceAdd, Nat.reduceMul, Nat.reduceLT, Nat.reduceLeDiff, Int.reduceToNat, Int.reduceLE, fs_all, take_length_map, h2, h3, h43, h44, h45, h75, b2, b3, q596i, q596e, q596l] <;> rfl)
        have c604 : (((!x598) || (decide ((x595.value.length : Int) > 4096))) || ((decide (p565 > 0)) && (!Op.bytesLess x599.name x595.name))) = false := by first | exact hc | simpa using hc
        clear hc
        rw [c604] at h
        simp only [cond_true, cond_false] at h
        refine awp_skip ?_
        try simp only [exs, reduceIte, Nat.reduceEqDiff]
        refine hK593 _ ?_
        refine awp_region rfl (by kernel_rfl) ?_
        first | refine rops_k ?_ | refine ropsD_k ?_
        repeat (refine rops_ng rfl fun K hK => ?_; simp only [go_sem, reduceIte, Nat.reduceEqDiff, reduceCtorEq, Nat.reduceAdd, Nat.reduceMul, Nat.reduceLT, Nat.reduceLeDiff, Int.reduceToNat, Int.reduceLE, h45, b2, b3, q596i, q596e, q596l]; refine hK _ ?_; clear hK K)
        first | refine rops_nil ?_ | refine ropsD_nil ?_
        try simp only [exs, reduceIte, Nat.reduceEqDiff]
        refine hK542 _ ⟨n588, Nat.lt_succ_self _, (IntKind.i64.wrap (p565 + 1)), ?_, ?_, ?_, ?_, ?_, ?_, ?_, h⟩
        · simp only [upd_apply, reduceIte, Nat.reduceEqDiff, h2]
        · simp only [upd_apply, reduceIte, Nat.reduceEqDiff, h3]
        · simp only [upd_apply, reduceIte, Nat.reduceEqDiff, h43]
        · simp only [upd_apply, reduceIte, Nat.reduceEqDiff, h44]
        · (first | (simp only [upd_apply, reduceIte, Nat.reduceEqDiff, h45]; done) | (simp only [go_sem, reduceIte, Nat.reduceEqDiff, reduceCtorEq, Nat.reduceAdd, Nat.reduceMul, Nat.reduceLT, Nat.reduceLeDiff, Int.reduceToNat, Int.reduceLE, fs_all, take_length_map, h2, h3, h43, h44, h45, h75, b2, b3, q596i, q596e, q596l] <;> rfl) | rfl)
        · simp only [upd_apply, reduceIte, Nat.reduceEqDiff, b2]
        · simp only [upd_apply, reduceIte, Nat.reduceEqDiff, b3]
      first | refine rops_k ?_ | refine ropsD_k ?_
      repeat (refine ropsD_ng rfl fun K hK => ?_; simp only [go_sem, reduceIte, Nat.reduceEqDiff, reduceCtorEq, Nat.reduceAdd, Nat.reduceMul, Nat.reduceLT, Nat.reduceLeDiff, Int.reduceToNat, Int.reduceLE, h3, b2, b3, q596i, q596e, q596l]; refine hK _ ?_; clear hK K)
      refine ropsD_ng rfl fun K hK => ?_
      simp only [List.head?_cons, List.head?_nil, Option.map_some, Option.map_none, rops1, ropsD1, gtmp, gate, beq_self_eq_true, beq_t, beq_f, Bool.not_true, Bool.not_false, if_true, rOp, rOpD, calleeOf, regAVsOf, regAV, List.getElem?_toArray, List.getElem?_cons_zero, List.getElem?_cons_succ, Option.bind_some, upd_apply, reduceIte, Nat.reduceEqDiff, St.ev, constReg, constCell, St.put_some, St.put_none, h2, h3, h43, h44, h45, b2, b3, q596i, q596e, q596l]
      refine ⟨_, _, rfl, _, rfl, _, (F35_does _ N x595.name  _ q600), _, rfl, ?_⟩
      simp only [flRV, outK, St.take, St.takeRVs, St.takeRV, retReg, St.put_some, St.put_none, List.map_cons, List.map_nil]
      refine hK _ ?_; clear hK K
      repeat (refine ropsD_ng rfl fun K hK => ?_; simp only [go_sem, reduceIte, Nat.reduceEqDiff, reduceCtorEq, Nat.reduceAdd, Nat.reduceMul, Nat.reduceLT, Nat.reduceLeDiff, Int.reduceToNat, Int.reduceLE, h3, b2, b3, q596i, q596e, q596l]; refine hK _ ?_; clear hK K)
      rcases c606 : (x598) with _ | _
      · repeat (first | (refine ropsD_ng rfl fun K hK => ?_; simp only [go_sem, reduceIte, Nat.reduceEqDiff, reduceCtorEq, Nat.reduceAdd, Nat.reduceMul, Nat.reduceLT, Nat.reduceLeDiff, Int.reduceToNat, Int.reduceLE, h3, b2, b3, q596i, q596e, q596l, c606]; refine hK _ ?_; clear hK K) | (refine ropsD_on rfl rfl ?_ fun K hK => ?_; (focus (simp only [go_sem, reduceIte, Nat.reduceEqDiff, reduceCtorEq, Nat.reduceAdd, Nat.reduceMul, Nat.reduceLT, Nat.reduceLeDiff, Int.reduceToNat, Int.reduceLE, h3, b2, b3, q596i, q596e, q596l, c606]; done)); simp only [go_sem, reduceIte, Nat.reduceEqDiff, reduceCtorEq, Nat.reduceAdd, Nat.reduceMul, Nat.reduceLT, Nat.reduceLeDiff, Int.reduceToNat, Int.reduceLE, h3, b2, b3, q596i, q596e, q596l, c606]; refine hK _ ?_; clear hK K) | (refine ropsD_off rfl rfl ?_ ?_; (focus (simp only [go_sem, reduceIte, Nat.reduceEqDiff, reduceCtorEq, Nat.reduceAdd, Nat.reduceMul, Nat.reduceLT, Nat.reduceLeDiff, Int.reduceToNat, Int.reduceLE, h3, b2, b3, q596i, q596e, q596l, c606]; done))))
        first | refine rops_nil ?_ | refine ropsD_nil ?_
        try simp only [exs, reduceIte, Nat.reduceEqDiff]
        refine R603 _ ?_ ?_ ?_ ?_ ?_ ?_ ?_ ?_
        · simp only [upd_apply, reduceIte, Nat.reduceEqDiff, h2]
        · simp only [upd_apply, reduceIte, Nat.reduceEqDiff, h3]
        · simp only [upd_apply, reduceIte, Nat.reduceEqDiff, h43]
        · simp only [upd_apply, reduceIte, Nat.reduceEqDiff, h44]
        · simp only [upd_apply, reduceIte, Nat.reduceEqDiff, h45]
        · (first | (simp only [upd_apply, reduceIte, Nat.reduceEqDiff]; done) | (simp only [go_sem, reduceIte, Nat.reduceEqDiff, reduceCtorEq, Nat.reduceAdd, Nat.reduceMul, Nat.reduceLT, Nat.reduceLeDiff, Int.reduceToNat, Int.reduceLE, fs_all, take_length_map, h2, h3, h43, h44, h45, b2, b3, q596i, q596e, q596l, c606] <;> rfl) | rfl)
        · simp only [upd_apply, reduceIte, Nat.reduceEqDiff, b2]
        · simp only [upd_apply, reduceIte, Nat.reduceEqDiff, b3]
      repeat (first | (refine ropsD_ng rfl fun K hK => ?_; simp only [go_sem, reduceIte, Nat.reduceEqDiff, reduceCtorEq, Nat.reduceAdd, Nat.reduceMul, Nat.reduceLT, Nat.reduceLeDiff, Int.reduceToNat, Int.reduceLE, h3, b2, b3, q596i, q596e, q596l, c606]; refine hK _ ?_; clear hK K) | (refine ropsD_on rfl rfl ?_ fun K hK => ?_; (focus (simp only [go_sem, reduceIte, Nat.reduceEqDiff, reduceCtorEq, Nat.reduceAdd, Nat.reduceMul, Nat.reduceLT, Nat.reduceLeDiff, Int.reduceToNat, Int.reduceLE, h3, b2, b3, q596i, q596e, q596l, c606]; done)); simp only [go_sem, reduceIte, Nat.reduceEqDiff, reduceCtorEq, Nat.reduceAdd, Nat.reduceMul, Nat.reduceLT, Nat.reduceLeDiff, Int.reduceToNat, Int.reduceLE, h3, b2, b3, q596i, q596e, q596l, c606]; refine hK _ ?_; clear hK K) | (refine ropsD_off rfl rfl ?_ ?_; (focus (simp only [go_sem, reduceIte, Nat.reduceEqDiff, reduceCtorEq, Nat.reduceAdd, Nat.reduceMul, Nat.reduceLT, Nat.reduceLeDiff, Int.reduceToNat, Int.reduceLE, h3, b2, b3, q596i, q596e, q596l, c606]; done))))
      rcases c607 : (decide ((x595.value.length : Int) > 4096)) with _ | _
      · repeat (first | (refine ropsD_ng rfl fun K hK => ?_; simp only [go_sem, reduceIte, Nat.reduceEqDiff, reduceCtorEq, Nat.reduceAdd, Nat.reduceMul, Nat.reduceLT, Nat.reduceLeDiff, Int.reduceToNat, Int.reduceLE, h3, b2, b3, q596i, q596e, q596l, c606, c607]; refine hK _ ?_; clear hK K) | (refine ropsD_on rfl rfl ?_ fun K hK => ?_; (focus (simp only [go_sem, reduceIte, Nat.reduceEqDiff, reduceCtorEq, Nat.reduceAdd, Nat.reduceMul, Nat.reduceLT, Nat.reduceLeDiff, Int.reduceToNat, Int.reduceLE, h3, b2, b3, q596i, q596e, q596l, c606, c607]; done)); simp only [go_sem, reduceIte, Nat.reduceEqDiff, reduceCtorEq, Nat.reduceAdd, Nat.reduceMul, Nat.reduceLT, Nat.reduceLeDiff, Int.reduceToNat, Int.reduceLE, h3, b2, b3, q596i, q596e, q596l, c606, c607]; refine hK _ ?_; clear hK K) | (refine ropsD_off rfl rfl ?_ ?_; (focus (simp only [go_sem, reduceIte, Nat.reduceEqDiff, reduceCtorEq, Nat.reduceAdd, Nat.reduceMul, Nat.reduceLT, Nat.reduceLeDiff, Int.reduceToNat, Int.reduceLE, h3, b2, b3, q596i, q596e, q596l, c606, c607]; done))))
        rcases c608 : (decide (p565 > 0)) with _ | _
        · repeat (first | (refine ropsD_ng rfl fun K hK => ?_; simp only [go_sem, reduceIte, Nat.reduceEqDiff, reduceCtorEq, Nat.reduceAdd, Nat.reduceMul, Nat.reduceLT, Nat.reduceLeDiff, Int.reduceToNat, Int.reduceLE, h3, b2, b3, q596i, q596e, q596l, c606, c607, c608]; refine hK _ ?_; clear hK K) | (refine ropsD_on rfl rfl ?_ fun K hK => ?_; (focus (simp only [go_sem, reduceIte, Nat.reduceEqDiff, reduceCtorEq, Nat.reduceAdd, Nat.reduceMul, Nat.reduceLT, Nat.reduceLeDiff, Int.reduceToNat, Int.reduceLE, h3, b2, b3, q596i, q596e, q596l, c606, c607, c608]; done)); simp only [go_sem, reduceIte, Nat.reduceEqDiff, reduceCtorEq, Nat.reduceAdd, Nat.reduceMul, Nat.reduceLT, Nat.reduceLeDiff, Int.reduceToNat, Int.reduceLE, h3, b2, b3, q596i, q596e, q596l, c606, c607, c608]; refine hK _ ?_; clear hK K) | (refine ropsD_off rfl rfl ?_ ?_; (focus (simp only [go_sem, reduceIte, Nat.reduceEqDiff, reduceCtorEq, Nat.reduceAdd, Nat.reduceMul, Nat.reduceLT, Nat.reduceLeDiff, Int.reduceToNat, Int.reduceLE, h3, b2, b3, q596i, q596e, q596l, c606, c607, c608]; done))))
          first | refine rops_nil ?_ | refine ropsD_nil ?_
          try simp only [exs, reduceIte, Nat.reduceEqDiff]
          refine R603 _ ?_ ?_ ?_ ?_ ?_ ?_ ?_ ?_
          · simp only [upd_apply, reduceIte, Nat.reduceEqDiff, h2]
          · simp only [upd_apply, reduceIte, Nat.reduceEqDiff, h3]
          · simp only [upd_apply, reduceIte, Nat.reduceEqDiff, h43]
          · simp only [upd_apply, reduceIte, Nat.reduceEqDiff, h44]
          · simp only [upd_apply, reduceIte, Nat.reduceEqDiff, h45]
          · (first | (simp only [upd_apply, reduceIte, Nat.reduceEqDiff]; done) | (simp only [go_sem, reduceIte, Nat.reduceEqDiff, reduceCtorEq, Nat.reduceAdd, Nat.reduceMul, Nat.reduceLT, Nat.reduceLeDiff, Int.reduceToNat, Int.reduceLE, fs_all, take_length_map, h2, h3, h43, h44, h45, b2, b3, q596i, q596e, q596l, c606, c607, c608] <;> rfl) | rfl)
          · simp only [upd_apply, reduceIte, Nat.reduceEqDiff, b2]
          · simp only [upd_apply, reduceIte, Nat.reduceEqDiff, b3]
        have q609 := q601 (by simp only [c606, c607, c608, fs_bool, beq_t, beq_f, beq_self_eq_true])
        obtain ⟨q609i, q609e, q609l⟩ := getO_some q609
        repeat (first | (refine ropsD_ng rfl fun K hK => ?_; simp only [go_sem, reduceIte, Nat.reduceEqDiff, reduceCtorEq, Nat.reduceAdd, Nat.reduceMul, Nat.reduceLT, Nat.reduceLeDiff, Int.reduceToNat, Int.reduceLE, h3, b2, b3, q596i, q596e, q596l, q609i, q609e, q609l, c606, c607, c608]; refine hK _ ?_; clear hK K) | (refine ropsD_on rfl rfl ?_ fun K hK => ?_; (focus (simp only [go_sem, reduceIte, Nat.reduceEqDiff, reduceCtorEq, Nat.reduceAdd, Nat.reduceMul, Nat.reduceLT, Nat.reduceLeDiff, Int.reduceToNat, Int.reduceLE, h3, b2, b3, q596i, q596e, q596l, q609i, q609e, q609l, c606, c607, c608]; done)); simp only [go_sem, reduceIte, Nat.reduceEqDiff, reduceCtorEq, Nat.reduceAdd, Nat.reduceMul, Nat.reduceLT, Nat.reduceLeDiff, Int.reduceToNat, Int.reduceLE, h3, b2, b3, q596i, q596e, q596l, q609i, q609e, q609l, c606, c607, c608]; refine hK _ ?_; clear hK K) | (refine ropsD_off rfl rfl ?_ ?_; (focus (simp only [go_sem, reduceIte, Nat.reduceEqDiff, reduceCtorEq, Nat.reduceAdd, Nat.reduceMul, Nat.reduceLT, Nat.reduceLeDiff, Int.reduceToNat, Int.reduceLE, h3, b2, b3, q596i, q596e, q596l, q609i, q609e, q609l, c606, c607, c608]; done))))
        first | refine rops_nil ?_ | refine ropsD_nil ?_
        try simp only [exs, reduceIte, Nat.reduceEqDiff]
        refine R603 _ ?_ ?_ ?_ ?_ ?_ ?_ ?_ ?_
        · simp only [upd_apply, reduceIte, Nat.reduceEqDiff, h2]
        · simp only [upd_apply, reduceIte, Nat.reduceEqDiff, h3]
        · simp only [upd_apply, reduceIte, Nat.reduceEqDiff, h43]
        · simp only [upd_apply, reduceIte, Nat.reduceEqDiff, h44]
        · simp only [upd_apply, reduceIte, Nat.reduceEqDiff, h45]
        · (first | (simp only [upd_apply, reduceIte, Nat.reduceEqDiff]; done) | (simp only [go_sem, reduceIte, Nat.reduceEqDiff, reduceCtorEq, Nat.reduceAdd, Nat.reduceMul, Nat.reduceLT, Nat.reduceLeDiff, Int.reduceToNat, Int.reduceLE, fs_all, take_length_map, h2, h3, h43, h44, h45, b2, b3, q596i, q596e, q596l, q609i, q609e, q609l, c606, c607, c608] <;> rfl) | rfl)
        · simp only [upd_apply, reduceIte, Nat.reduceEqDiff, b2]
        · simp only [upd_apply, reduceIte, Nat.reduceEqDiff, b3]
      repeat (first | (refine ropsD_ng rfl fun K hK => ?_; simp only [go_sem, reduceIte, Nat.reduceEqDiff, reduceCtorEq, Nat.reduceAdd, Nat.reduceMul, Nat.reduceLT, Nat.reduceLeDiff, Int.reduceToNat, Int.reduceLE, h3, b2, b3, q596i, q596e, q596l, c606, c607]; refine hK _ ?_; clear hK K) | (refine ropsD_on rfl rfl ?_ fun K hK => ?_; (focus (simp only [go_sem, reduceIte, Nat.reduceEqDiff, reduceCtorEq, Nat.reduceAdd, Nat.reduceMul, Nat.reduceLT, Nat.reduceLeDiff, Int.reduceToNat, Int.reduceLE, h3, b2, b3, q596i, q596e, q596l, c606, c607]; done)); simp only [go_sem, reduceIte, Nat.reduceEqDiff, reduceCtorEq, Nat.reduceAdd, Nat.reduceMul, Nat.reduceLT, Nat.reduceLeDiff, Int.reduceToNat, Int.reduceLE, h3, b2, b3, q596i, q596e, q596l, c606, c607]; refine hK _ ?_; clear hK K) | (refine ropsD_off rfl rfl ?_ ?_; (focus (simp only [go_sem, reduceIte, Nat.reduceEqDiff, reduceCtorEq, Nat.reduceAdd, Nat.reduceMul, Nat.reduceLT, Nat.reduceLeDiff, Int.reduceToNat, Int.reduceLE, h3, b2, b3, q596i, q596e, q596l, c606, c607]; done))))
      first | refine rops_nil ?_ | refine ropsD_nil ?_
      try simp only [exs, reduceIte, Nat.reduceEqDiff]
      refine R603 _ ?_ ?_ ?_ ?_ ?_ ?_ ?_ ?_
      · simp only [upd_apply, reduceIte, Nat.reduceEqDiff, h2]
      · simp only [upd_apply, reduceIte, Nat.reduceEqDiff, h3]
      · simp only [upd_apply, reduceIte, Nat.reduceEqDiff, h43]
      · simp only [upd_apply, reduceIte, Nat.reduceEqDiff, h44]
      · simp only [upd_apply, reduceIte, Nat.reduceEqDiff, h45]
      · (first | (simp only [upd_apply, reduceIte, Nat.reduceEqDiff]; done) | (simp only [go_sem, reduceIte, Nat.reduceEqDiff, reduceCtorEq, Nat.reduceAdd, Nat.reduceMul, Nat.reduceLT, Nat.reduceLeDiff, Int.reduceToNat, Int.reduceLE, fs_all, take_length_map, h2, h3, h43, h44, h45, b2, b3, q596i, q596e, q596l, c606, c607] <;> rfl) | rfl)
      · simp only [upd_apply, reduceIte, Nat.reduceEqDiff, b2]
      · simp only [upd_apply, reduceIte, Nat.reduceEqDiff, b3]
    have c592 : (decide (p565 < (a1.props.length : Int))) = false := by first | exact hc | simpa using hc
    clear hc
    rw [c592] at h
    simp only [cond_true, cond_false] at h
    refine awp_exit ?_
    try simp only [exs, reduceIte, Nat.reduceEqDiff]
    refine J2  _ ?_ ?_ ?_ ?_ h
    · simp only [upd_apply, reduceIte, Nat.reduceEqDiff, h2]
    · simp only [upd_apply, reduceIte, Nat.reduceEqDiff, h3]
    · simp only [upd_apply, reduceIte, Nat.reduceEqDiff, b2]
    · simp only [upd_apply, reduceIte, Nat.reduceEqDiff, b3]
  first | refine rops_k ?_ | refine ropsD_k ?_
  repeat (refine rops_ng rfl fun K hK => ?_; simp only [go_sem, reduceIte, Nat.reduceEqDiff, reduceCtorEq, Nat.reduceAdd, Nat.reduceMul, Nat.reduceLT, Nat.reduceLeDiff, Int.reduceToNat, Int.reduceLE]; refine hK _ ?_; clear hK K)
  refine rops_ng rfl fun K hK => ?_
  simp only [List.head?_cons, List.head?_nil, Option.map_some, Option.map_none, rops1, ropsD1, gtmp, gate, beq_self_eq_true, beq_t, beq_f, Bool.not_true, Bool.not_false, if_true, rOp, rOpD, calleeOf, regAVsOf, regAV, List.getElem?_toArray, List.getElem?_cons_zero, List.getElem?_cons_succ, Option.bind_some, upd_apply, reduceIte, Nat.reduceEqDiff, St.ev, constReg, constCell, St.put_some, St.put_none, h0, h1]
  refine .inl ⟨_, _, rfl, _, rfl, _, (F35_does _ N a1.concept  _ q315), ?_⟩
  simp only [flRV, outK, St.take, St.takeRVs, St.takeRV, retReg, St.put_some, St.put_none, List.map_cons, List.map_nil]
  refine hK _ ?_; clear hK K
  repeat (refine rops_ng rfl fun K hK => ?_; simp only [go_sem, reduceIte, Nat.reduceEqDiff, reduceCtorEq, Nat.reduceAdd, Nat.reduceMul, Nat.reduceLT, Nat.reduceLeDiff, Int.reduceToNat, Int.reduceLE]; refine hK _ ?_; clear hK K)
  rcases c610 : (x313) with _ | _
  · repeat (first | (refine rops_ng rfl fun K hK => ?_; simp only [go_sem, reduceIte, Nat.reduceEqDiff, reduceCtorEq, Nat.reduceAdd, Nat.reduceMul, Nat.reduceLT, Nat.reduceLeDiff, Int.reduceToNat, Int.reduceLE, c610]; refine hK _ ?_; clear hK K) | (refine rops_on rfl rfl ?_ fun K hK => ?_; (focus (simp only [go_sem, reduceIte, Nat.reduceEqDiff, reduceCtorEq, Nat.reduceAdd, Nat.reduceMul, Nat.reduceLT, Nat.reduceLeDiff, Int.reduceToNat, Int.reduceLE, c610]; done)); simp only [go_sem, reduceIte, Nat.reduceEqDiff, reduceCtorEq, Nat.reduceAdd, Nat.reduceMul, Nat.reduceLT, Nat.reduceLeDiff, Int.reduceToNat, Int.reduceLE, c610]; refine hK _ ?_; clear hK K) | (refine rops_off rfl rfl ?_ ?_; (focus (simp only [go_sem, reduceIte, Nat.reduceEqDiff, reduceCtorEq, Nat.reduceAdd, Nat.reduceMul, Nat.reduceLT, Nat.reduceLeDiff, Int.reduceToNat, Int.reduceLE, c610]; done))))
    first | refine rops_nil ?_ | refine ropsD_nil ?_
    try simp only [exs, reduceIte, Nat.reduceEqDiff]
    refine R318 _ ?_ ?_ ?_ ?_ ?_
    · (first | (simp only [upd_apply, reduceIte, Nat.reduceEqDiff]; done) | (simp only [go_sem, reduceIte, Nat.reduceEqDiff, reduceCtorEq, Nat.reduceAdd, Nat.reduceMul, Nat.reduceLT, Nat.reduceLeDiff, Int.reduceToNat, Int.reduceLE, fs_all, take_length_map, h0, h1, c610] <;> rfl) | rfl)
    · (first | (simp only [upd_apply, reduceIte, Nat.reduceEqDiff]; done) | (simp only [go_sem, reduceIte, Nat.reduceEqDiff, reduceCtorEq, Nat.reduceAdd, Nat.reduceMul, Nat.reduceLT, Nat.reduceLeDiff, Int.reduceToNat, Int.reduceLE, fs_all, take_length_map, h0, h1, c610] <;> rfl) | rfl)
    · (first | (simp only [upd_apply, reduceIte, Nat.reduceEqDiff]; done) | (simp only [go_sem, reduceIte, Nat.reduceEqDiff, reduceCtorEq, Nat.reduceAdd, Nat.reduceMul, Nat.reduceLT, Nat.reduceLeDiff, Int.reduceToNat, Int.reduceLE, fs_all, take_length_map, h0, h1, c610] <;> rfl) | rfl)
    · (first | (simp only [upd_apply, reduceIte, Nat.reduceEqDiff]; done) | (simp only [go_sem, reduceIte, Nat.reduceEqDiff, reduceCtorEq, Nat.reduceAdd, Nat.reduceMul, Nat.reduceLT, Nat.reduceLeDiff, Int.reduceToNat, Int.reduceLE, fs_all, take_length_map, h0, h1, c610] <;> rfl) | rfl)
    · (first | (simp only [upd_apply, reduceIte, Nat.reduceEqDiff]; done) | (simp only [go_sem, reduceIte, Nat.reduceEqDiff, reduceCtorEq, Nat.reduceAdd, Nat.reduceMul, Nat.reduceLT, Nat.reduceLeDiff, Int.reduceToNat, Int.reduceLE, fs_all, take_length_map, h0, h1, c610] <;> rfl) | rfl)
  repeat (first | (refine rops_ng rfl fun K hK => ?_; simp only [go_sem, reduceIte, Nat.reduceEqDiff, reduceCtorEq, Nat.reduceAdd, Nat.reduceMul, Nat.reduceLT, Nat.reduceLeDiff, Int.reduceToNat, Int.reduceLE, c610]; refine hK _ ?_; clear hK K) | (refine rops_on rfl rfl ?_ fun K hK => ?_; (focus (simp only [go_sem, reduceIte, Nat.reduceEqDiff, reduceCtorEq, Nat.reduceAdd, Nat.reduceMul, Nat.reduceLT, Nat.reduceLeDiff, Int.reduceToNat, Int.reduceLE, c610]; done)); simp only [go_sem, reduceIte, Nat.reduceEqDiff, reduceCtorEq, Nat.reduceAdd, Nat.reduceMul, Nat.reduceLT, Nat.reduceLeDiff, Int.reduceToNat, Int.reduceLE, c610]; refine hK _ ?_; clear hK K) | (refine rops_off rfl rfl ?_ ?_; (focus (simp only [go_sem, reduceIte, Nat.reduceEqDiff, reduceCtorEq, Nat.reduceAdd, Nat.reduceMul, Nat.reduceLT, Nat.reduceLeDiff, Int.reduceToNat, Int.reduceLE, c610]; done))))
  rcases c611 : ((a1.parent == 0) == (a1.role == [])) with _ | _
  · repeat (first | (refine rops_ng rfl fun K hK => ?_; simp only [go_sem, reduceIte, Nat.reduceEqDiff, reduceCtorEq, Nat.reduceAdd, Nat.reduceMul, Nat.reduceLT, Nat.reduceLeDiff, Int.reduceToNat, Int.reduceLE, c610, c611]; refine hK _ ?_; clear hK K) | (refine rops_on rfl rfl ?_ fun K hK => ?_; (focus (simp only [go_sem, reduceIte, Nat.reduceEqDiff, reduceCtorEq, Nat.reduceAdd, Nat.reduceMul, Nat.reduceLT, Nat.reduceLeDiff, Int.reduceToNat, Int.reduceLE, c610, c611]; done)); simp only [go_sem, reduceIte, Nat.reduceEqDiff, reduceCtorEq, Nat.reduceAdd, Nat.reduceMul, Nat.reduceLT, Nat.reduceLeDiff, Int.reduceToNat, Int.reduceLE, c610, c611]; refine hK _ ?_; clear hK K) | (refine rops_off rfl rfl ?_ ?_; (focus (simp only [go_sem, reduceIte, Nat.reduceEqDiff, reduceCtorEq, Nat.reduceAdd, Nat.reduceMul, Nat.reduceLT, Nat.reduceLeDiff, Int.reduceToNat, Int.reduceLE, c610, c611]; done))))
    first | refine rops_nil ?_ | refine ropsD_nil ?_
    try simp only [exs, reduceIte, Nat.reduceEqDiff]
    refine R318 _ ?_ ?_ ?_ ?_ ?_
    · (first | (simp only [upd_apply, reduceIte, Nat.reduceEqDiff]; done) | (simp only [go_sem, reduceIte, Nat.reduceEqDiff, reduceCtorEq, Nat.reduceAdd, Nat.reduceMul, Nat.reduceLT, Nat.reduceLeDiff, Int.reduceToNat, Int.reduceLE, fs_all, take_length_map, h0, h1, c610, c611] <;> rfl) | rfl)
    · (first | (simp only [upd_apply, reduceIte, Nat.reduceEqDiff]; done) | (simp only [go_sem, reduceIte, Nat.reduceEqDiff, reduceCtorEq, Nat.reduceAdd, Nat.reduceMul, Nat.reduceLT, Nat.reduceLeDiff, Int.reduceToNat, Int.reduceLE, fs_all, take_length_map, h0, h1, c610, c611] <;> rfl) | rfl)
    · (first | (simp only [upd_apply, reduceIte, Nat.reduceEqDiff]; done) | (simp only [go_sem, reduceIte, Nat.reduceEqDiff, reduceCtorEq, Nat.reduceAdd, Nat.reduceMul, Nat.reduceLT, Nat.reduceLeDiff, Int.reduceToNat, Int.reduceLE, fs_all, take_length_map, h0, h1, c610, c611] <;> rfl) | rfl)
    · (first | (simp only [upd_apply, reduceIte, Nat.reduceEqDiff]; done) | (simp only [go_sem, reduceIte, Nat.reduceEqDiff, reduceCtorEq, Nat.reduceAdd, Nat.reduceMul, Nat.reduceLT, Nat.reduceLeDiff, Int.reduceToNat, Int.reduceLE, fs_all, take_length_map, h0, h1, c610, c611] <;> rfl) | rfl)
    · (first | (simp only [upd_apply, reduceIte, Nat.reduceEqDiff]; done) | (simp only [go_sem, reduceIte, Nat.reduceEqDiff, reduceCtorEq, Nat.reduceAdd, Nat.reduceMul, Nat.reduceLT, Nat.reduceLeDiff, Int.reduceToNat, Int.reduceLE, fs_all, take_length_map, h0, h1, c610, c611] <;> rfl) | rfl)
  repeat (first | (refine rops_ng rfl fun K hK => ?_; simp only [go_sem, reduceIte, Nat.reduceEqDiff, reduceCtorEq, Nat.reduceAdd, Nat.reduceMul, Nat.reduceLT, Nat.reduceLeDiff, Int.reduceToNat, Int.reduceLE, c610, c611]; refine hK _ ?_; clear hK K) | (refine rops_on rfl rfl ?_ fun K hK => ?_; (focus (simp only [go_sem, reduceIte, Nat.reduceEqDiff, reduceCtorEq, Nat.reduceAdd, Nat.reduceMul, Nat.reduceLT, Nat.reduceLeDiff, Int.reduceToNat, Int.reduceLE, c610, c611]; done)); simp only [go_sem, reduceIte, Nat.reduceEqDiff, reduceCtorEq, Nat.reduceAdd, Nat.reduceMul, Nat.reduceLT, Nat.reduceLeDiff, Int.reduceToNat, Int.reduceLE, c610, c611]; refine hK _ ?_; clear hK K) | (refine rops_off rfl rfl ?_ ?_; (focus (simp only [go_sem, reduceIte, Nat.reduceEqDiff, reduceCtorEq, Nat.reduceAdd, Nat.reduceMul, Nat.reduceLT, Nat.reduceLeDiff, Int.reduceToNat, Int.reduceLE, c610, c611]; done))))
  rcases c612 : (a1.role == []) with _ | _
  · simp only [c612, beq_t, beq_f, fs_bool] at c611
    have q613 := q316 (by simp only [c610, c611, c612, fs_bool, beq_t, beq_f, beq_self_eq_true])
    repeat (first | (refine rops_ng rfl fun K hK => ?_; simp only [go_sem, reduceIte, Nat.reduceEqDiff, reduceCtorEq, Nat.reduceAdd, Nat.reduceMul, Nat.reduceLT, Nat.reduceLeDiff, Int.reduceToNat, Int.reduceLE, c610, c611, c612]; refine hK _ ?_; clear hK K) | (refine rops_on rfl rfl ?_ fun K hK => ?_; (focus (simp only [go_sem, reduceIte, Nat.reduceEqDiff, reduceCtorEq, Nat.reduceAdd, Nat.reduceMul, Nat.reduceLT, Nat.reduceLeDiff, Int.reduceToNat, Int.reduceLE, c610, c611, c612]; done)); simp only [go_sem, reduceIte, Nat.reduceEqDiff, reduceCtorEq, Nat.reduceAdd, Nat.reduceMul, Nat.reduceLT, Nat.reduceLeDiff, Int.reduceToNat, Int.reduceLE, c610, c611, c612]; refine hK _ ?_; clear hK K) | (refine rops_off rfl rfl ?_ ?_; (focus (simp only [go_sem, reduceIte, Nat.reduceEqDiff, reduceCtorEq, Nat.reduceAdd, Nat.reduceMul, Nat.reduceLT, Nat.reduceLeDiff, Int.reduceToNat, Int.reduceLE, c610, c611, c612]; done))))
    refine rops_on rfl rfl (by simp only [gate, beq_self_eq_true, beq_t, beq_f, Bool.not_true, Bool.not_false, Bool.true_eq_false, Bool.false_eq_true, upd_apply, reduceIte, Nat.reduceEqDiff, St.put_some, St.put_none, h0, h1, c610, c611, c612]) fun K hK => ?_
    simp only [List.head?_cons, List.head?_nil, Option.map_some, Option.map_none, rops1, ropsD1, gtmp, gate, beq_self_eq_true, beq_t, beq_f, Bool.not_true, Bool.not_false, if_true, rOp, rOpD, calleeOf, regAVsOf, regAV, List.getElem?_toArray, List.getElem?_cons_zero, List.getElem?_cons_succ, Option.bind_some, upd_apply, reduceIte, Nat.reduceEqDiff, St.ev, constReg, constCell, St.put_some, St.put_none, h0, h1, c610, c611, c612]
    refine .inl ⟨_, _, rfl, _, rfl, _, (F35_does _ N a1.role  _ q613), ?_⟩
    simp only [flRV, outK, St.take, St.takeRVs, St.takeRV, retReg, St.put_some, St.put_none, List.map_cons, List.map_nil]
    refine hK _ ?_; clear hK K
    repeat (first | (refine rops_ng rfl fun K hK => ?_; simp only [go_sem, reduceIte, Nat.reduceEqDiff, reduceCtorEq, Nat.reduceAdd, Nat.reduceMul, Nat.reduceLT, Nat.reduceLeDiff, Int.reduceToNat, Int.reduceLE, c610, c611, c612]; refine hK _ ?_; clear hK K) | (refine rops_on rfl rfl ?_ fun K hK => ?_; (focus (simp only [go_sem, reduceIte, Nat.reduceEqDiff, reduceCtorEq, Nat.reduceAdd, Nat.reduceMul, Nat.reduceLT, Nat.reduceLeDiff, Int.reduceToNat, Int.reduceLE, c610, c611, c612]; done)); simp only [go_sem, reduceIte, Nat.reduceEqDiff, reduceCtorEq, Nat.reduceAdd, Nat.reduceMul, Nat.reduceLT, Nat.reduceLeDiff, Int.reduceToNat, Int.reduceLE, c610, c611, c612]; refine hK _ ?_; clear hK K) | (refine rops_off rfl rfl ?_ ?_; (focus (simp only [go_sem, reduceIte, Nat.reduceEqDiff, reduceCtorEq, Nat.reduceAdd, Nat.reduceMul, Nat.reduceLT, Nat.reduceLeDiff, Int.reduceToNat, Int.reduceLE, c610, c611, c612]; done))))
    rcases c614 : (x314) with _ | _
    · repeat (first | (refine rops_ng rfl fun K hK => ?_; simp only [go_sem, reduceIte, Nat.reduceEqDiff, reduceCtorEq, Nat.reduceAdd, Nat.reduceMul, Nat.reduceLT, Nat.reduceLeDiff, Int.reduceToNat, Int.reduceLE, c610, c611, c612, c614]; refine hK _ ?_; clear hK K) | (refine rops_on rfl rfl ?_ fun K hK => ?_; (focus (simp only [go_sem, reduceIte, Nat.reduceEqDiff, reduceCtorEq, Nat.reduceAdd, Nat.reduceMul, Nat.reduceLT, Nat.reduceLeDiff, Int.reduceToNat, Int.reduceLE, c610, c611, c612, c614]; done)); simp only [go_sem, reduceIte, Nat.reduceEqDiff, reduceCtorEq, Nat.reduceAdd, Nat.reduceMul, Nat.reduceLT, Nat.reduceLeDiff, Int.reduceToNat, Int.reduceLE, c610, c611, c612, c614]; refine hK _ ?_; clear hK K) | (refine rops_off rfl rfl ?_ ?_; (focus (simp only [go_sem, reduceIte, Nat.reduceEqDiff, reduceCtorEq, Nat.reduceAdd, Nat.reduceMul, Nat.reduceLT, Nat.reduceLeDiff, Int.reduceToNat, Int.reduceLE, c610, c611, c612, c614]; done))))
      first | refine rops_nil ?_ | refine ropsD_nil ?_
      try simp only [exs, reduceIte, Nat.reduceEqDiff]
      refine R318 _ ?_ ?_ ?_ ?_ ?_
      · (first | (simp only [upd_apply, reduceIte, Nat.reduceEqDiff]; done) | (simp only [go_sem, reduceIte, Nat.reduceEqDiff, reduceCtorEq, Nat.reduceAdd, Nat.reduceMul, Nat.reduceLT, Nat.reduceLeDiff, Int.reduceToNat, Int.reduceLE, fs_all, take_length_map, h0, h1, c610, c611, c612, c614] <;> rfl) | rfl)
      · (first | (simp only [upd_apply, reduceIte, Nat.reduceEqDiff]; done) | (simp only [go_sem, reduceIte, Nat.reduceEqDiff, reduceCtorEq, Nat.reduceAdd, Nat.reduceMul, Nat.reduceLT, Nat.reduceLeDiff, Int.reduceToNat, Int.reduceLE, fs_all, take_length_map, h0, h1, c610, c611, c612, c614] <;> rfl) | rfl)
      · (first | (simp only [upd_apply, reduceIte, Nat.reduceEqDiff]; done) | (simp only [go_sem, reduceIte, Nat.reduceEqDiff, reduceCtorEq, Nat.reduceAdd, Nat.reduceMul, Nat.reduceLT, Nat.reduceLeDiff, Int.reduceToNat, Int.reduceLE, fs_all, take_length_map, h0, h1, c610, c611, c612, c614] <;> rfl) | rfl)
      · (first | (simp only [upd_apply, reduceIte, Nat.reduceEqDiff]; done) | (simp only [go_sem, reduceIte, Nat.reduceEqDiff, reduceCtorEq, Nat.reduceAdd, Nat.reduceMul, Nat.reduceLT, Nat.reduceLeDiff, Int.reduceToNat, Int.reduceLE, fs_all, take_length_map, h0, h1, c610, c611, c612, c614] <;> rfl) | rfl)
      · (first | (simp only [upd_apply, reduceIte, Nat.reduceEqDiff]; done) | (simp only [go_sem, reduceIte, Nat.reduceEqDiff, reduceCtorEq, Nat.reduceAdd, Nat.reduceMul, Nat.reduceLT, Nat.reduceLeDiff, Int.reduceToNat, Int.reduceLE, fs_all, take_length_map, h0, h1, c610, c611, c612, c614] <;> rfl) | rfl)
    repeat (first | (refine rops_ng rfl fun K hK => ?_; simp only [go_sem, reduceIte, Nat.reduceEqDiff, reduceCtorEq, Nat.reduceAdd, Nat.reduceMul, Nat.reduceLT, Nat.reduceLeDiff, Int.reduceToNat, Int.reduceLE, c610, c611, c612, c614]; refine hK _ ?_; clear hK K) | (refine rops_on rfl rfl ?_ fun K hK => ?_; (focus (simp only [go_sem, reduceIte, Nat.reduceEqDiff, reduceCtorEq, Nat.reduceAdd, Nat.reduceMul, Nat.reduceLT, Nat.reduceLeDiff, Int.reduceToNat, Int.reduceLE, c610, c611, c612, c614]; done)); simp only [go_sem, reduceIte, Nat.reduceEqDiff, reduceCtorEq, Nat.reduceAdd, Nat.reduceMul, Nat.reduceLT, Nat.reduceLeDiff, Int.reduceToNat, Int.reduceLE, c610, c611, c612, c614]; refine hK _ ?_; clear hK K) | (refine rops_off rfl rfl ?_ ?_; (focus (simp only [go_sem, reduceIte, Nat.reduceEqDiff, reduceCtorEq, Nat.reduceAdd, Nat.reduceMul, Nat.reduceLT, Nat.reduceLeDiff, Int.reduceToNat, Int.reduceLE, c610, c611, c612, c614]; done))))
    first | refine rops_nil ?_ | refine ropsD_nil ?_
    try simp only [exs, reduceIte, Nat.reduceEqDiff]
    refine R318 _ ?_ ?_ ?_ ?_ ?_
    · (first | (simp only [upd_apply, reduceIte, Nat.reduceEqDiff]; done) | (simp only [go_sem, reduceIte, Nat.reduceEqDiff, reduceCtorEq, Nat.reduceAdd, Nat.reduceMul, Nat.reduceLT, Nat.reduceLeDiff, Int.reduceToNat, Int.reduceLE, fs_all, take_length_map, h0, h1, c610, c611, c612, c614] <;> rfl) | rfl)
    · (first | (simp only [upd_apply, reduceIte, Nat.reduceEqDiff]; done) | (simp only [go_sem, reduceIte, Nat.reduceEqDiff, reduceCtorEq, Nat.reduceAdd, Nat.reduceMul, Nat.reduceLT, Nat.reduceLeDiff, Int.reduceToNat, Int.reduceLE, fs_all, take_length_map, h0, h1, c610, c611, c612, c614] <;> rfl) | rfl)
    · (first | (simp only [upd_apply, reduceIte, Nat.reduceEqDiff]; done) | (simp only [go_sem, reduceIte, Nat.reduceEqDiff, reduceCtorEq, Nat.reduceAdd, Nat.reduceMul, Nat.reduceLT, Nat.reduceLeDiff, Int.reduceToNat, Int.reduceLE, fs_all, take_length_map, h0, h1, c610, c611, c612, c614] <;> rfl) | rfl)
    · (first | (simp only [upd_apply, reduceIte, Nat.reduceEqDiff]; done) | (simp only [go_sem, reduceIte, Nat.reduceEqDiff, reduceCtorEq, Nat.reduceAdd, Nat.reduceMul, Nat.reduceLT, Nat.reduceLeDiff, Int.reduceToNat, Int.reduceLE, fs_all, take_length_map, h0, h1, c610, c611, c612, c614] <;> rfl) | rfl)
    · (first | (simp only [upd_apply, reduceIte, Nat.reduceEqDiff]; done) | (simp only [go_sem, reduceIte, Nat.reduceEqDiff, reduceCtorEq, Nat.reduceAdd, Nat.reduceMul, Nat.reduceLT, Nat.reduceLeDiff, Int.reduceToNat, Int.reduceLE, fs_all, take_length_map, h0, h1, c610, c611, c612, c614] <;> rfl) | rfl)
  simp only [c612, beq_t, beq_f, fs_bool] at c611
  repeat (first | (refine rops_ng rfl fun K hK => ?_; simp only [go_sem, reduceIte, Nat.reduceEqDiff, reduceCtorEq, Nat.reduceAdd, Nat.reduceMul, Nat.reduceLT, Nat.reduceLeDiff, Int.reduceToNat, Int.reduceLE, c610, c611, c612]; refine hK _ ?_; clear hK K) | (refine rops_on rfl rfl ?_ fun K hK => ?_; (focus (simp only [go_sem, reduceIte, Nat.reduceEqDiff, reduceCtorEq, Nat.reduceAdd, Nat.reduceMul, Nat.reduceLT, Nat.reduceLeDiff, Int.reduceToNat, Int.reduceLE, c610, c611, c612]; done)); simp only [go_sem, reduceIte, Nat.reduceEqDiff, reduceCtorEq, Nat.reduceAdd, Nat.reduceMul, Nat.reduceLT, Nat.reduceLeDiff, Int.reduceToNat, Int.reduceLE, c610, c611, c612]; refine hK _ ?_; clear hK K) | (refine rops_off rfl rfl ?_ ?_; (focus (simp only [go_sem, reduceIte, Nat.reduceEqDiff, reduceCtorEq, Nat.reduceAdd, Nat.reduceMul, Nat.reduceLT, Nat.reduceLeDiff, Int.reduceToNat, Int.reduceLE, c610, c611, c612]; done))))
  first | refine rops_nil ?_ | refine ropsD_nil ?_
  try simp only [exs, reduceIte, Nat.reduceEqDiff]
  refine R318 _ ?_ ?_ ?_ ?_ ?_
  · (first | (simp only [upd_apply, reduceIte, Nat.reduceEqDiff]; done) | (simp only [go_sem, reduceIte, Nat.reduceEqDiff, reduceCtorEq, Nat.reduceAdd, Nat.reduceMul, Nat.reduceLT, Nat.reduceLeDiff, Int.reduceToNat, Int.reduceLE, fs_all, take_length_map, h0, h1, c610, c611, c612] <;> rfl) | rfl)
  · (first | (simp only [upd_apply, reduceIte, Nat.reduceEqDiff]; done) | (simp only [go_sem, reduceIte, Nat.reduceEqDiff, reduceCtorEq, Nat.reduceAdd, Nat.reduceMul, Nat.reduceLT, Nat.reduceLeDiff, Int.reduceToNat, Int.reduceLE, fs_all, take_length_map, h0, h1, c610, c611, c612] <;> rfl) | rfl)
  · (first | (simp only [upd_apply, reduceIte, Nat.reduceEqDiff]; done) | (simp only [go_sem, reduceIte, Nat.reduceEqDiff, reduceCtorEq, Nat.reduceAdd, Nat.reduceMul, Nat.reduceLT, Nat.reduceLeDiff, Int.reduceToNat, Int.reduceLE, fs_all, take_length_map, h0, h1, c610, c611, c612] <;> rfl) | rfl)
  · (first | (simp only [upd_apply, reduceIte, Nat.reduceEqDiff]; done) | (simp only [go_sem, reduceIte, Nat.reduceEqDiff, reduceCtorEq, Nat.reduceAdd, Nat.reduceMul, Nat.reduceLT, Nat.reduceLeDiff, Int.reduceToNat, Int.reduceLE, fs_all, take_length_map, h0, h1, c610, c611, c612] <;> rfl) | rfl)
  · (first | (simp only [upd_apply, reduceIte, Nat.reduceEqDiff]; done) | (simp only [go_sem, reduceIte, Nat.reduceEqDiff, reduceCtorEq, Nat.reduceAdd, Nat.reduceMul, Nat.reduceLT, Nat.reduceLeDiff, Int.reduceToNat, Int.reduceLE, fs_all, take_length_map, h0, h1, c610, c611, c612] <;> rfl) | rfl)

end Go.Proofs.Mm
