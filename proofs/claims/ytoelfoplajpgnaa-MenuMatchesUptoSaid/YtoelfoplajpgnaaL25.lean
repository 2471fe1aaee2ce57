import Derived.Test.YtoelfoplajpgnaaEvLift
import Derived.Test.YtoelfoplajpgnaaMmF
import Derived.Test.YtoelfoplajpgnaaL20
import Derived.Test.YtoelfoplajpgnaaL33
set_option linter.unusedVariables false
set_option linter.unusedSimpArgs false
set_option linter.unusedSectionVars false

namespace Go.Proofs.Mm
open Go Go.Ev

-- topiary/topiaryref02.plain
def F25_J1  : Option (Bool) :=
  some true

def F25_L1 (a1 : Nd) (N : Nat) (a0 : Mdl) : Nat → Int → (List Bool) → Option (Bool)
  | 0, _, _ => none
  | n776 + 1, p746, p747 =>
    bif decide (p746 < (a1.kids.length : Int)) then
      (getO a1.kids p746).bind fun x783 =>
      (F20 N a0 x783).bind fun x784 =>
      bindG (!(decide (x784 < 0))) (getO a0.nodes x784) fun x789 =>
      bindG (!((decide (x784 < 0)) || (!(x789.parent == a1.id)))) (getO p747 x784) fun x790 =>
      bif ((decide (x784 < 0)) || (!(x789.parent == a1.id))) || x790 then
        some false
      else
        (getO p747 x784).bind fun x797 =>
        (F25_L1 a1 N a0 n776) (IntKind.i64.wrap (p746 + 1)) (p747.set x784.toNat true)
    else
      F25_J1 

def F25_J2 (a0 : Mdl) (a1 : Nd) (N : Nat) : Option (Bool) :=
  (chk (decide (a0.nodes.length ≤ maxLen) && decide (a0.nodes.length * 1 ≤ 281474976710656))).bind fun _ =>
  F25_L1 a1 N a0 N 0 (List.replicate a0.nodes.length false)

def F25_L2 (a1 : Nd) (N : Nat) (a0 : Mdl) : Nat → Int → Option (Bool)
  | 0, _ => none
  | n850 + 1, p827 =>
    bif decide (p827 < (a1.refs.length : Int)) then
      (getO a1.refs p827).bind fun x857 =>
      (F33 N x857.role).bind fun x858 =>
      bindG (!(((!x858) || (decide (x857.target < 1))) || (decide (x857.target ≥ a0.next))) && (decide (p827 > 0))) (getO a1.refs (IntKind.i64.wrap (p827 - 1))) fun x859 =>
      bif (((!x858) || (decide (x857.target < 1))) || (decide (x857.target ≥ a0.next))) || ((decide (p827 > 0)) && (!Op.bytesLess x859.role x857.role)) then
        some false
      else
        (F25_L2 a1 N a0 n850) (IntKind.i64.wrap (p827 + 1))
    else
      F25_J2 a0 a1 N

def F25_J3 (a1 : Nd) (N : Nat) (a0 : Mdl) : Option (Bool) :=
  F25_L2 a1 N a0 N 0

def F25_L3 (a1 : Nd) (N : Nat) (a0 : Mdl) : Nat → Int → Option (Bool)
  | 0, _ => none
  | n917 + 1, p895 =>
    bif decide (p895 < (a1.props.length : Int)) then
      (getO a1.props p895).bind fun x924 =>
      (F33 N x924.name).bind fun x925 =>
      bindG (!((!x925) || (decide ((x924.value.length : Int) > 4096))) && (decide (p895 > 0))) (getO a1.props (IntKind.i64.wrap (p895 - 1))) fun x926 =>
      bif ((!x925) || (decide ((x924.value.length : Int) > 4096))) || ((decide (p895 > 0)) && (!Op.bytesLess x926.name x924.name)) then
        some false
      else
        (F25_L3 a1 N a0 n917) (IntKind.i64.wrap (p895 + 1))
    else
      F25_J3 a1 N a0

def F25 (N : Nat) (a0 : Mdl) (a1 : Nd) : Option (Bool) :=
  (F33 N a1.concept).bind fun x476 =>
  bif (!x476) || (decide ((a1.kids.length : Int) > (a0.nodes.length : Int))) then
    some false
  else
    F25_L3 a1 N a0 N 0

set_option maxHeartbeats 4000000 in
theorem F25_does (E : Env) (N : Nat) (a0 : Mdl) (a1 : Nd) (r : Bool) (h : F25 N a0 a1 = some r) : Does Try.prog E 25 [.agg [.fl (.int .i64 a0.next), .sl (List.map Nd.av a0.nodes)], .agg [.fl (.int .i64 a1.id), .fl (bs a1.concept), .fl (.int .i64 a1.parent), .fl (bs a1.role), .sl (List.map Prp.av a1.props), .sl (List.map intAV a1.kids), .sl (List.map Rf.av a1.refs)]] (.ret [.v (.fl (.bool r))]) := by
  refine does_run Try.func25 Try.ntmps25 rfl rfl (by simp) fun w0 I0 s hr hb => ?_
  have h0 := hr 0
  have h1 := hr 1
  simp only [List.map_cons, List.map_nil, List.getElem?_cons_zero, List.getElem?_cons_succ, Option.getD_some] at h0 h1
  unfold F25 at h
  refine awp_seq fun K473 hK473 => ?_
  refine awp_region rfl (by kernel_rfl) ?_
  first | refine rops_k ?_ | refine ropsD_k ?_
  repeat (refine rops_ng rfl fun K hK => ?_; simp only [go_sem, reduceIte, Nat.reduceEqDiff, reduceCtorEq, Nat.reduceAdd, Nat.reduceMul, Nat.reduceLT, Nat.reduceLeDiff, Int.reduceToNat, Int.reduceLE, h0, h1]; refine hK _ ?_; clear hK K)
  first | refine rops_nil ?_ | refine ropsD_nil ?_
  try simp only [exs, reduceIte, Nat.reduceEqDiff]
  refine hK473 _ ?_
  refine awp_seq fun K474 hK474 => ?_
  refine awp_seq fun K475 hK475 => ?_
  obtain ⟨x476, q477, h⟩ := bind_some h
  refine awp_region rfl (by kernel_rfl) ?_
  have R479 : ∀ s478 : St, (s478.r 2 = .loc 2 (s478.g 2) 0 0 0) → (s478.r 3 = .loc 3 (s478.g 3) 0 0 0) → (s478.r 22 = .val (.fl (.bool ((!x476) || (decide ((a1.kids.length : Int) > (a0.nodes.length : Int))))))) → (s478.b 2 = some (.cells [.val (.fl (.int .i64 a0.next)), .val (.sl (List.map Nd.av a0.nodes))])) → (s478.b 3 = some (.cells [.val (.fl (.int .i64 a1.id)), .val (.fl (bs a1.concept)), .val (.fl (.int .i64 a1.parent)), .val (.fl (bs a1.role)), .val (.sl (List.map Prp.av a1.props)), .val (.sl (List.map intAV a1.kids)), .val (.sl (List.map Rf.av a1.refs))])) → K475 s478 := by
    intro s478 h2 h3 h22 b2 b3
    refine hK475 _ ?_
    refine awp_if (by kernel_rfl) (by (simp only [upd_apply, reduceIte, Nat.reduceEqDiff, St.ev, constReg, constCell, St.put_some, St.put_none, h2, h3, h22, b2, b3] <;> rfl)) (fun hc => ?_) (fun hc => ?_)
    · have c480 : ((!x476) || (decide ((a1.kids.length : Int) > (a0.nodes.length : Int)))) = true := by first | exact hc | simpa using hc
      clear hc
      rw [c480] at h
      simp only [cond_true, cond_false] at h
      refine awp_seq fun K481 hK481 => ?_
      refine awp_region rfl (by kernel_rfl) ?_
      first | refine rops_k ?_ | refine ropsD_k ?_
      repeat (refine rops_ng rfl fun K hK => ?_; simp only [go_sem, reduceIte, Nat.reduceEqDiff, reduceCtorEq, Nat.reduceAdd, Nat.reduceMul, Nat.reduceLT, Nat.reduceLeDiff, Int.reduceToNat, Int.reduceLE, b2, b3]; refine hK _ ?_; clear hK K)
      first | refine rops_nil ?_ | refine ropsD_nil ?_
      try simp only [exs, reduceIte, Nat.reduceEqDiff]
      refine hK481 _ ?_
      have h := Option.some.inj h
      subst h
      refine awp_ret ?_
      try simp only [exs, reduceIte, Nat.reduceEqDiff]
      refine fin_ret (vs := [.tmp 4]) Try.ntmps25 rfl (by simp [List.filter_cons, isOwn]) none ?_
      (simp only [resultsAre, resCell, loadRegs, regRV, go_sem, reduceIte, Nat.reduceEqDiff, reduceCtorEq, Nat.reduceAdd, Nat.reduceMul, Nat.reduceLT, Nat.reduceLeDiff, Int.reduceToNat, Int.reduceLE, fs_all, take_length_map, h2, h3, h22, b2, b3] <;> rfl)
    have c480 : ((!x476) || (decide ((a1.kids.length : Int) > (a0.nodes.length : Int)))) = false := by first | exact hc | simpa using hc
    clear hc
    rw [c480] at h
    simp only [cond_true, cond_false] at h
    refine awp_skip ?_
    try simp only [exs, reduceIte, Nat.reduceEqDiff]
    refine hK474 _ ?_
    refine awp_seq fun K482 hK482 => ?_
    have J3 : ∀  (s550 : St), (s550.r 2 = .loc 2 (s550.g 2) 0 0 0) → (s550.r 3 = .loc 3 (s550.g 3) 0 0 0) → (s550.b 2 = some (.cells [.val (.fl (.int .i64 a0.next)), .val (.sl (List.map Nd.av a0.nodes))])) → (s550.b 3 = some (.cells [.val (.fl (.int .i64 a1.id)), .val (.fl (bs a1.concept)), .val (.fl (.int .i64 a1.parent)), .val (.fl (bs a1.role)), .val (.sl (List.map Prp.av a1.props)), .val (.sl (List.map intAV a1.kids)), .val (.sl (List.map Rf.av a1.refs))])) → F25_J3 a1 N a0 = some r → K482 s550 := by
      intro  s550 h2 h3 b2 b3 h
      unfold F25_J3 at h
      refine hK482 _ ?_
      refine awp_seq fun K551 hK551 => ?_
      have J2 : ∀  (s622 : St), (s622.r 2 = .loc 2 (s622.g 2) 0 0 0) → (s622.r 3 = .loc 3 (s622.g 3) 0 0 0) → (s622.b 2 = some (.cells [.val (.fl (.int .i64 a0.next)), .val (.sl (List.map Nd.av a0.nodes))])) → (s622.b 3 = some (.cells [.val (.fl (.int .i64 a1.id)), .val (.fl (bs a1.concept)), .val (.fl (.int .i64 a1.parent)), .val (.fl (bs a1.role)), .val (.sl (List.map Prp.av a1.props)), .val (.sl (List.map intAV a1.kids)), .val (.sl (List.map Rf.av a1.refs))])) → F25_J2 a0 a1 N = some r → K551 s622 := by
        intro  s622 h2 h3 b2 b3 h
        unfold F25_J2 at h
        refine hK551 _ ?_
        refine awp_seq fun K623 hK623 => ?_
        obtain ⟨_, q624, h⟩ := bind_some h
        have q624 := chk_some q624
        simp only [Bool.and_eq_true, decide_eq_true_eq, and_assoc] at q624
        obtain ⟨q624a, q624b⟩ := q624
        refine awp_region rfl (by kernel_rfl) ?_
        first | refine rops_k ?_ | refine ropsD_k ?_
        repeat (refine rops_ng rfl fun K hK => ?_; simp only [go_sem, reduceIte, Nat.reduceEqDiff, reduceCtorEq, Nat.reduceAdd, Nat.reduceMul, Nat.reduceLT, Nat.reduceLeDiff, Int.reduceToNat, Int.reduceLE, h2, b2, b3, q624a, q624b]; refine hK _ ?_; clear hK K)
        first | refine rops_nil ?_ | refine ropsD_nil ?_
        try simp only [exs, reduceIte, Nat.reduceEqDiff]
        refine hK623 _ ?_
        refine awp_seq fun K625 hK625 => ?_
        have J1 : ∀  (s714 : St), True → F25_J1  = some r → K625 s714 := by
          intro  s714 _ h
          unfold F25_J1 at h
          refine hK625 _ ?_
          refine awp_seq fun K715 hK715 => ?_
          refine awp_region rfl (by kernel_rfl) ?_
          first | refine rops_k ?_ | refine ropsD_k ?_
          repeat (refine rops_ng rfl fun K hK => ?_; simp only [go_sem, reduceIte, Nat.reduceEqDiff, reduceCtorEq, Nat.reduceAdd, Nat.reduceMul, Nat.reduceLT, Nat.reduceLeDiff, Int.reduceToNat, Int.reduceLE]; refine hK _ ?_; clear hK K)
          first | refine rops_nil ?_ | refine ropsD_nil ?_
          try simp only [exs, reduceIte, Nat.reduceEqDiff]
          refine hK715 _ ?_
          have h := Option.some.inj h
          subst h
          refine awp_ret ?_
          try simp only [exs, reduceIte, Nat.reduceEqDiff]
          refine fin_ret (vs := [.tmp 4]) Try.ntmps25 rfl (by simp [List.filter_cons, isOwn]) none ?_
          (simp only [resultsAre, resCell, loadRegs, regRV, go_sem, reduceIte, Nat.reduceEqDiff, reduceCtorEq, Nat.reduceAdd, Nat.reduceMul, Nat.reduceLT, Nat.reduceLeDiff, Int.reduceToNat, Int.reduceLE, fs_all, take_length_map] <;> rfl)
        refine awp_seq fun K716 hK716 => ?_
        refine awp_region rfl (by kernel_rfl) ?_
        first | refine rops_k ?_ | refine ropsD_k ?_
        repeat (refine rops_ng rfl fun K hK => ?_; simp only [go_sem, reduceIte, Nat.reduceEqDiff, reduceCtorEq, Nat.reduceAdd, Nat.reduceMul, Nat.reduceLT, Nat.reduceLeDiff, Int.reduceToNat, Int.reduceLE, b2, b3]; refine hK _ ?_; clear hK K)
        first | refine rops_nil ?_ | refine ropsD_nil ?_
        try simp only [exs, reduceIte, Nat.reduceEqDiff]
        refine hK716 _ ?_
        refine awp_block ?_
        refine awp_loopK (fun m s775 => ∃ (p746 : Int) (p747 : List Bool), s775.r 2 = .loc 2 (s775.g 2) 0 0 0 ∧ s775.r 3 = .loc 3 (s775.g 3) 0 0 0 ∧ s775.r 7 = .view 7 (s775.g 7) 0 p747.length ∧ s775.r 8 = .val (.fl (.int .i64 p746)) ∧ s775.b 2 = some (.cells [.val (.fl (.int .i64 a0.next)), .val (.sl (List.map Nd.av a0.nodes))]) ∧ s775.b 3 = some (.cells [.val (.fl (.int .i64 a1.id)), .val (.fl (bs a1.concept)), .val (.fl (.int .i64 a1.parent)), .val (.fl (bs a1.role)), .val (.sl (List.map Prp.av a1.props)), .val (.sl (List.map intAV a1.kids)), .val (.sl (List.map Rf.av a1.refs))]) ∧ s775.b 7 = some (.arr 4 (List.map boolAV p747)) ∧  F25_L1 a1 N a0 m p746 p747 = some r) N ?_ ?_
        · refine ⟨0, (List.replicate a0.nodes.length false), ?_, ?_, ?_, ?_, ?_, ?_, ?_, h⟩
          · simp only [upd_apply, reduceIte, Nat.reduceEqDiff, h2]
          · simp only [upd_apply, reduceIte, Nat.reduceEqDiff, h3]
          · (first | (simp only [upd_apply, reduceIte, Nat.reduceEqDiff]; done) | (simp only [go_sem, reduceIte, Nat.reduceEqDiff, reduceCtorEq, Nat.reduceAdd, Nat.reduceMul, Nat.reduceLT, Nat.reduceLeDiff, Int.reduceToNat, Int.reduceLE, fs_all, take_length_map, h2, h3, b2, b3, q624a, q624b] <;> rfl) | rfl)
          · (first | (simp only [upd_apply, reduceIte, Nat.reduceEqDiff]; done) | (simp only [go_sem, reduceIte, Nat.reduceEqDiff, reduceCtorEq, Nat.reduceAdd, Nat.reduceMul, Nat.reduceLT, Nat.reduceLeDiff, Int.reduceToNat, Int.reduceLE, fs_all, take_length_map, h2, h3, b2, b3, q624a, q624b] <;> rfl) | rfl)
          · simp only [upd_apply, reduceIte, Nat.reduceEqDiff, b2]
          · simp only [upd_apply, reduceIte, Nat.reduceEqDiff, b3]
          · (first | (simp only [upd_apply, reduceIte, Nat.reduceEqDiff]; done) | (simp only [go_sem, reduceIte, Nat.reduceEqDiff, reduceCtorEq, Nat.reduceAdd, Nat.reduceMul, Nat.reduceLT, Nat.reduceLeDiff, Int.reduceToNat, Int.reduceLE, fs_all, take_length_map, h2, h3, b2, b3, q624a, q624b] <;> rfl) | rfl)
        clear h
        intro m777 s775 hI K717 hK717
        obtain ⟨p746, p747, h2, h3, h7, h8, b2, b3, b7, h⟩ := hI
        rcases m777 with _ | n776
        · simp only [F25_L1, reduceCtorEq] at h
        rw [F25_L1] at h
        refine awp_seq fun K778 hK778 => ?_
        refine awp_seq fun K779 hK779 => ?_
        refine awp_region rfl (by kernel_rfl) ?_
        first | refine rops_k ?_ | refine ropsD_k ?_
        repeat (refine rops_ng rfl fun K hK => ?_; simp only [go_sem, reduceIte, Nat.reduceEqDiff, reduceCtorEq, Nat.reduceAdd, Nat.reduceMul, Nat.reduceLT, Nat.reduceLeDiff, Int.reduceToNat, Int.reduceLE, h3, h8, b2, b3, b7]; refine hK _ ?_; clear hK K)
        first | refine rops_nil ?_ | refine ropsD_nil ?_
        try simp only [exs, reduceIte, Nat.reduceEqDiff]
        refine hK779 _ ?_
        refine awp_if (by kernel_rfl) (by (simp only [upd_apply, reduceIte, Nat.reduceEqDiff, St.ev, constReg, constCell, St.put_some, St.put_none, h2, h3, h7, h8, b2, b3, b7] <;> rfl)) (fun hc => ?_) (fun hc => ?_)
        · have c780 : (decide (p746 < (a1.kids.length : Int))) = true := by first | exact hc | simpa using hc
          clear hc
          rw [c780] at h
          simp only [cond_true, cond_false] at h
          refine awp_skip ?_
          try simp only [exs, reduceIte, Nat.reduceEqDiff]
          refine hK778 _ ?_
          refine awp_seq fun K781 hK781 => ?_
          refine awp_block ?_
          refine awp_seq fun K782 hK782 => ?_
          obtain ⟨x783, q785, h⟩ := bind_some h
          obtain ⟨q785i, q785e, q785l⟩ := getO_some q785
          obtain ⟨x784, q786, h⟩ := bind_some h
          refine awp_draw (by kernel_rfl) rfl (by kernel_rfl) (by kernel_rfl) ?_
          first | refine rops_k ?_ | refine ropsD_k ?_
          repeat (refine ropsD_ng rfl fun K hK => ?_; simp only [go_sem, reduceIte, Nat.reduceEqDiff, reduceCtorEq, Nat.reduceAdd, Nat.reduceMul, Nat.reduceLT, Nat.reduceLeDiff, Int.reduceToNat, Int.reduceLE, h2, h3, h8, b2, b3, b7, q785i, q785e, q785l]; refine hK _ ?_; clear hK K)
          refine ropsD_ng rfl fun K hK => ?_
          simp only [List.head?_cons, List.head?_nil, Option.map_some, Option.map_none, rops1, ropsD1, gtmp, gate, beq_self_eq_true, beq_t, beq_f, Bool.not_true, Bool.not_false, if_true, rOp, rOpD, calleeOf, regAVsOf, regAV, List.getElem?_toArray, List.getElem?_cons_zero, List.getElem?_cons_succ, Option.bind_some, upd_apply, reduceIte, Nat.reduceEqDiff, St.ev, constReg, constCell, St.put_some, St.put_none, h2, h3, h7, h8, b2, b3, b7, q785i, q785e, q785l]
          refine ⟨_, _, rfl, _, rfl, _, (F20_does _ N a0 x783  _ q786), _, rfl, ?_⟩
          simp only [flRV, outK, St.take, St.takeRVs, St.takeRV, retReg, St.put_some, St.put_none, List.map_cons, List.map_nil]
          refine hK _ ?_; clear hK K
          repeat (refine ropsD_ng rfl fun K hK => ?_; simp only [go_sem, reduceIte, Nat.reduceEqDiff, reduceCtorEq, Nat.reduceAdd, Nat.reduceMul, Nat.reduceLT, Nat.reduceLeDiff, Int.reduceToNat, Int.reduceLE, h2, h3, h8, b2, b3, b7, q785i, q785e, q785l]; refine hK _ ?_; clear hK K)
          first | refine rops_nil ?_ | refine ropsD_nil ?_
          try simp only [exs, reduceIte, Nat.reduceEqDiff]
          refine hK782 _ ?_
          refine awp_seq fun K787 hK787 => ?_
          refine awp_seq fun K788 hK788 => ?_
          obtain ⟨x789, q791, h⟩ := bindG_some h
          obtain ⟨x790, q792, h⟩ := bindG_some h
          refine awp_draw (by kernel_rfl) rfl (by kernel_rfl) (by kernel_rfl) ?_
          have R794 : ∀ s793 : St, (s793.r 2 = .loc 2 (s793.g 2) 0 0 0) → (s793.r 3 = .loc 3 (s793.g 3) 0 0 0) → (s793.r 7 = .view 7 (s793.g 7) 0 p747.length) → (s793.r 8 = .val (.fl (.int .i64 p746))) → (s793.r 9 = .val (.fl (.int .i64 x784))) → (s793.r 159 = .val (.fl (.bool (((decide (x784 < 0)) || (!(x789.parent == a1.id))) || x790)))) → (s793.b 2 = some (.cells [.val (.fl (.int .i64 a0.next)), .val (.sl (List.map Nd.av a0.nodes))])) → (s793.b 3 = some (.cells [.val (.fl (.int .i64 a1.id)), .val (.fl (bs a1.concept)), .val (.fl (.int .i64 a1.parent)), .val (.fl (bs a1.role)), .val (.sl (List.map Prp.av a1.props)), .val (.sl (List.map intAV a1.kids)), .val (.sl (List.map Rf.av a1.refs))])) → (s793.b 7 = some (.arr 4 (List.map boolAV p747))) → K788 s793 := by
            intro s793 h2 h3 h7 h8 h9 h159 b2 b3 b7
            refine hK788 _ ?_
            refine awp_if (by kernel_rfl) (by (simp only [upd_apply, reduceIte, Nat.reduceEqDiff, St.ev, constReg, constCell, St.put_some, St.put_none, h2, h3, h7, h8, h9, h159, b2, b3, b7, q785i, q785e, q785l] <;> rfl)) (fun hc => ?_) (fun hc => ?_)
            · have c795 : (((decide (x784 < 0)) || (!(x789.parent == a1.id))) || x790) = true := by first | exact hc | simpa using hc
              clear hc
              rw [c795] at h
              simp only [cond_true, cond_false] at h
              refine awp_seq fun K796 hK796 => ?_
              refine awp_region rfl (by kernel_rfl) ?_
              first | refine rops_k ?_ | refine ropsD_k ?_
              repeat (refine rops_ng rfl fun K hK => ?_; simp only [go_sem, reduceIte, Nat.reduceEqDiff, reduceCtorEq, Nat.reduceAdd, Nat.reduceMul, Nat.reduceLT, Nat.reduceLeDiff, Int.reduceToNat, Int.reduceLE, b2, b3, b7]; refine hK _ ?_; clear hK K)
              first | refine rops_nil ?_ | refine ropsD_nil ?_
              try simp only [exs, reduceIte, Nat.reduceEqDiff]
              refine hK796 _ ?_
              have h := Option.some.inj h
              subst h
              refine awp_ret ?_
              try simp only [exs, reduceIte, Nat.reduceEqDiff]
              refine fin_ret (vs := [.tmp 4]) Try.ntmps25 rfl (by simp [List.filter_cons, isOwn]) none ?_
              (simp only [resultsAre, resCell, loadRegs, regRV, go_sem, reduceIte, Nat.reduceEqDiff, reduceCtorEq, Nat.reduceAdd, Nat.reduceMul, Nat.reduceLT, Nat.reduceLeDiff, Int.reduceToNat, Int.reduceLE, fs_all, take_length_map, h2, h3, h7, h8, h9, h159, b2, b3, b7, q785i, q785e, q785l] <;> rfl)
            have c795 : (((decide (x784 < 0)) || (!(x789.parent == a1.id))) || x790) = false := by first | exact hc | simpa using hc
            clear hc
            rw [c795] at h
            simp only [cond_true, cond_false] at h
            refine awp_skip ?_
            try simp only [exs, reduceIte, Nat.reduceEqDiff]
            refine hK787 _ ?_
            obtain ⟨x797, q798, h⟩ := bind_some h
            obtain ⟨q798i, q798e, q798l⟩ := getO_some q798
            refine awp_region rfl (by kernel_rfl) ?_
            first | refine rops_k ?_ | refine ropsD_k ?_
            repeat (refine rops_ng rfl fun K hK => ?_; simp only [go_sem, reduceIte, Nat.reduceEqDiff, reduceCtorEq, Nat.reduceAdd, Nat.reduceMul, Nat.reduceLT, Nat.reduceLeDiff, Int.reduceToNat, Int.reduceLE, h7, h9, b2, b3, b7, q785i, q785e, q785l, q798i, q798e, q798l]; refine hK _ ?_; clear hK K)
            first | refine rops_nil ?_ | refine ropsD_nil ?_
            try simp only [exs, reduceIte, Nat.reduceEqDiff]
            refine hK781 _ ?_
            refine awp_region rfl (by kernel_rfl) ?_
            first | refine rops_k ?_ | refine ropsD_k ?_
            repeat (refine rops_ng rfl fun K hK => ?_; simp only [go_sem, reduceIte, Nat.reduceEqDiff, reduceCtorEq, Nat.reduceAdd, Nat.reduceMul, Nat.reduceLT, Nat.reduceLeDiff, Int.reduceToNat, Int.reduceLE, h8, b2, b3, b7, q785i, q785e, q785l, q798i, q798e, q798l]; refine hK _ ?_; clear hK K)
            first | refine rops_nil ?_ | refine ropsD_nil ?_
            try simp only [exs, reduceIte, Nat.reduceEqDiff]
            refine hK717 _ ⟨n776, Nat.lt_succ_self _, (IntKind.i64.wrap (p746 + 1)), (p747.set x784.toNat true), ?_, ?_, ?_, ?_, ?_, ?_, ?_, h⟩
            · simp only [upd_apply, reduceIte, Nat.reduceEqDiff, h2]
            · simp only [upd_apply, reduceIte, Nat.reduceEqDiff, h3]
            · (first | (simp only [upd_apply, reduceIte, Nat.reduceEqDiff, h7]; done) | (simp only [go_sem, reduceIte, Nat.reduceEqDiff, reduceCtorEq, Nat.reduceAdd, Nat.reduceMul, Nat.reduceLT, Nat.reduceLeDiff, Int.reduceToNat, Int.reduceLE, fs_all, take_length_map, h2, h3, h7, h8, h9, h159, b2, b3, b7, q785i, q785e, q785l, q798i, q798e, q798l] <;> rfl) | rfl)
            · (first | (simp only [upd_apply, reduceIte, Nat.reduceEqDiff, h8]; done) | (simp only [go_sem, reduceIte, Nat.reduceEqDiff, reduceCtorEq, Nat.reduceAdd, Nat.reduceMul, Nat.reduceLT, Nat.reduceLeDiff, Int.reduceToNat, Int.reduceLE, fs_all, take_length_map, h2, h3, h7, h8, h9, h159, b2, b3, b7, q785i, q785e, q785l, q798i, q798e, q798l] <;> rfl) | rfl)
            · simp only [upd_apply, reduceIte, Nat.reduceEqDiff, b2]
            · simp only [upd_apply, reduceIte, Nat.reduceEqDiff, b3]
            · (first | (simp only [upd_apply, reduceIte, Nat.reduceEqDiff, b7]; done) | (simp only [go_sem, reduceIte, Nat.reduceEqDiff, reduceCtorEq, Nat.reduceAdd, Nat.reduceMul, Nat.reduceLT, Nat.reduceLeDiff, Int.reduceToNat, Int.reduceLE, fs_all, take_length_map, h2, h3, h7, h8, h9, h159, b2, b3, b7, q785i, q785e, q785l, q798i, q798e, q798l] <;> rfl) | rfl)
          first | refine rops_k ?_ | refine ropsD_k ?_
          repeat (refine ropsD_ng rfl fun K hK => ?_; simp only [go_sem, reduceIte, Nat.reduceEqDiff, reduceCtorEq, Nat.reduceAdd, Nat.reduceMul, Nat.reduceLT, Nat.reduceLeDiff, Int.reduceToNat, Int.reduceLE, h2, h3, h7, b2, b3, b7, q785i, q785e, q785l]; refine hK _ ?_; clear hK K)
          rcases c799 : (decide (x784 < 0)) with _ | _
          · have q800 := q791 (by simp only [c799, fs_bool, beq_t, beq_f, beq_self_eq_true])
            obtain ⟨q800i, q800e, q800l⟩ := getO_some q800
            repeat (first | (refine ropsD_ng rfl fun K hK => ?_; simp only [go_sem, reduceIte, Nat.reduceEqDiff, reduceCtorEq, Nat.reduceAdd, Nat.reduceMul, Nat.reduceLT, Nat.reduceLeDiff, Int.reduceToNat, Int.reduceLE, h2, h3, h7, b2, b3, b7, q785i, q785e, q785l, q800i, q800e, q800l, c799]; refine hK _ ?_; clear hK K) | (refine ropsD_on rfl rfl ?_ fun K hK => ?_; (focus (simp only [go_sem, reduceIte, Nat.reduceEqDiff, reduceCtorEq, Nat.reduceAdd, Nat.reduceMul, Nat.reduceLT, Nat.reduceLeDiff, Int.reduceToNat, Int.reduceLE, h2, h3, h7, b2, b3, b7, q785i, q785e, q785l, q800i, q800e, q800l, c799]; done)); simp only [go_sem, reduceIte, Nat.reduceEqDiff, reduceCtorEq, Nat.reduceAdd, Nat.reduceMul, Nat.reduceLT, Nat.reduceLeDiff, Int.reduceToNat, Int.reduceLE, h2, h3, h7, b2, b3, b7, q785i, q785e, q785l, q800i, q800e, q800l, c799]; refine hK _ ?_; clear hK K) | (refine ropsD_off rfl rfl ?_ ?_; (focus (simp only [go_sem, reduceIte, Nat.reduceEqDiff, reduceCtorEq, Nat.reduceAdd, Nat.reduceMul, Nat.reduceLT, Nat.reduceLeDiff, Int.reduceToNat, Int.reduceLE, h2, h3, h7, b2, b3, b7, q785i, q785e, q785l, q800i, q800e, q800l, c799]; done))))
            rcases c801 : (x789.parent == a1.id) with _ | _
            · repeat (first | (refine ropsD_ng rfl fun K hK => ?_; simp only [go_sem, reduceIte, Nat.reduceEqDiff, reduceCtorEq, Nat.reduceAdd, Nat.reduceMul, Nat.reduceLT, Nat.reduceLeDiff, Int.reduceToNat, Int.reduceLE, h2, h3, h7, b2, b3, b7, q785i, q785e, q785l, q800i, q800e, q800l, c799, c801]; refine hK _ ?_; clear hK K) | (refine ropsD_on rfl rfl ?_ fun K hK => ?_; (focus (simp only [go_sem, reduceIte, Nat.reduceEqDiff, reduceCtorEq, Nat.reduceAdd, Nat.reduceMul, Nat.reduceLT, Nat.reduceLeDiff, Int.reduceToNat, Int.reduceLE, h2, h3, h7, b2, b3, b7, q785i, q785e, q785l, q800i, q800e, q800l, c799, c801]; done)); simp only [go_sem, reduceIte, Nat.reduceEqDiff, reduceCtorEq, Nat.reduceAdd, Nat.reduceMul, Nat.reduceLT, Nat.reduceLeDiff, Int.reduceToNat, Int.reduceLE, h2, h3, h7, b2, b3, b7, q785i, q785e, q785l, q800i, q800e, q800l, c799, c801]; refine hK _ ?_; clear hK K) | (refine ropsD_off rfl rfl ?_ ?_; (focus (simp only [go_sem, reduceIte, Nat.reduceEqDiff, reduceCtorEq, Nat.reduceAdd, Nat.reduceMul, Nat.reduceLT, Nat.reduceLeDiff, Int.reduceToNat, Int.reduceLE, h2, h3, h7, b2, b3, b7, q785i, q785e, q785l, q800i, q800e, q800l, c799, c801]; done))))
              first | refine rops_nil ?_ | refine ropsD_nil ?_
              try simp only [exs, reduceIte, Nat.reduceEqDiff]
              refine R794 _ ?_ ?_ ?_ ?_ ?_ ?_ ?_ ?_ ?_
              · simp only [upd_apply, reduceIte, Nat.reduceEqDiff, h2]
              · simp only [upd_apply, reduceIte, Nat.reduceEqDiff, h3]
              · (first | (simp only [upd_apply, reduceIte, Nat.reduceEqDiff, h7]; done) | (simp only [go_sem, reduceIte, Nat.reduceEqDiff, reduceCtorEq, Nat.reduceAdd, Nat.reduceMul, Nat.reduceLT, Nat.reduceLeDiff, Int.reduceToNat, Int.reduceLE, fs_all, take_length_map, h2, h3, h7, h8, b2, b3, b7, q785i, q785e, q785l, q800i, q800e, q800l, c799, c801] <;> rfl) | rfl)
              · simp only [upd_apply, reduceIte, Nat.reduceEqDiff, h8]
              · (first | (simp only [upd_apply, reduceIte, Nat.reduceEqDiff]; done) | (simp only [go_sem, reduceIte, Nat.reduceEqDiff, reduceCtorEq, Nat.reduceAdd, Nat.reduceMul, Nat.reduceLT, Nat.reduceLeDiff, Int.reduceToNat, Int.reduceLE, fs_all, take_length_map, h2, h3, h7, h8, b2, b3, b7, q785i, q785e, q785l, q800i, q800e, q800l, c799, c801] <;> rfl) | rfl)
              · (first | (simp only [upd_apply, reduceIte, Nat.reduceEqDiff]; done) | (simp only [go_sem, reduceIte, Nat.reduceEqDiff, reduceCtorEq, Nat.reduceAdd, Nat.reduceMul, Nat.reduceLT, Nat.reduceLeDiff, Int.reduceToNat, Int.reduceLE, fs_all, take_length_map, h2, h3, h7, h8, b2, b3, b7, q785i, q785e, q785l, q800i, q800e, q800l, c799, c801] <;> rfl) | rfl)
              · simp only [upd_apply, reduceIte, Nat.reduceEqDiff, b2]
              · simp only [upd_apply, reduceIte, Nat.reduceEqDiff, b3]
              · simp only [upd_apply, reduceIte, Nat.reduceEqDiff, b7]
            have q802 := q792 (by simp only [c799, c801, fs_bool, beq_t, beq_f, beq_self_eq_true])
            obtain ⟨q802i, q802e, q802l⟩ := getO_some q802
            repeat (first | (refine ropsD_ng rfl fun K hK => ?_; simp only [go_sem, reduceIte, Nat.reduceEqDiff, reduceCtorEq, Nat.reduceAdd, Nat.reduceMul, Nat.reduceLT, Nat.reduceLeDiff, Int.reduceToNat, Int.reduceLE, h2, h3, h7, b2, b3, b7, q785i, q785e, q785l, q800i, q800e, q800l, q802i, q802e, q802l, c799, c801]; refine hK _ ?_; clear hK K) | (refine ropsD_on rfl rfl ?_ fun K hK => ?_; (focus (simp only [go_sem, reduceIte, Nat.reduceEqDiff, reduceCtorEq, Nat.reduceAdd, Nat.reduceMul, Nat.reduceLT, Nat.reduceLeDiff, Int.reduceToNat, Int.reduceLE, h2, h3, h7, b2, b3, b7, q785i, q785e, q785l, q800i, q800e, q800l, q802i, q802e, q802l, c799, c801]; done)); simp only [go_sem, reduceIte, Nat.reduceEqDiff, reduceCtorEq, Nat.reduceAdd, Nat.reduceMul, Nat.reduceLT, Nat.reduceLeDiff, Int.reduceToNat, Int.reduceLE, h2, h3, h7, b2, b3, b7, q785i, q785e, q785l, q800i, q800e, q800l, q802i, q802e, q802l, c799, c801]; refine hK _ ?_; clear hK K) | (refine ropsD_off rfl rfl ?_ ?_; (focus (simp only [go_sem, reduceIte, Nat.reduceEqDiff, reduceCtorEq, Nat.reduceAdd, Nat.reduceMul, Nat.reduceLT, Nat.reduceLeDiff, Int.reduceToNat, Int.reduceLE, h2, h3, h7, b2, b3, b7, q785i, q785e, q785l, q800i, q800e, q800l, q802i, q802e, q802l, c799, c801]; done))))
            first | refine rops_nil ?_ | refine ropsD_nil ?_
            try simp only [exs, reduceIte, Nat.reduceEqDiff]
            refine R794 _ ?_ ?_ ?_ ?_ ?_ ?_ ?_ ?_ ?_
            · simp only [upd_apply, reduceIte, Nat.reduceEqDiff, h2]
            · simp only [upd_apply, reduceIte, Nat.reduceEqDiff, h3]
            · (first | (simp only [upd_apply, reduceIte, Nat.reduceEqDiff, h7]; done) | (simp only [go_sem, reduceIte, Nat.reduceEqDiff, reduceCtorEq, Nat.reduceAdd, Nat.reduceMul, Nat.reduceLT, Nat.reduceLeDiff, Int.reduceToNat, Int.reduceLE, fs_all, take_length_map, h2, h3, h7, h8, b2, b3, b7, q785i, q785e, q785l, q800i, q800e, q800l, q802i, q802e, q802l, c799, c801] <;> rfl) | rfl)
            · simp only [upd_apply, reduceIte, Nat.reduceEqDiff, h8]
            · (first | (simp only [upd_apply, reduceIte, Nat.reduceEqDiff]; done) | (simp only [go_sem, reduceIte, Nat.reduceEqDiff, reduceCtorEq, Nat.reduceAdd, Nat.reduceMul, Nat.reduceLT, Nat.reduceLeDiff, Int.reduceToNat, Int.reduceLE, fs_all, take_length_map, h2, h3, h7, h8, b2, b3, b7, q785i, q785e, q785l, q800i, q800e, q800l, q802i, q802e, q802l, c799, c801] <;> rfl) | rfl)
            · (first | (simp only [upd_apply, reduceIte, Nat.reduceEqDiff]; done) | (simp only [go_sem, reduceIte, Nat.reduceEqDiff, reduceCtorEq, Nat.reduceAdd, Nat.reduceMul, Nat.reduceLT, Nat.reduceLeDiff, Int.reduceToNat, Int.reduceLE, fs_all, take_length_map, h2, h3, h7, h8, b2, b3, b7, q785i, q785e, q785l, q800i, q800e, q800l, q802i, q802e, q802l, c799, c801] <;> rfl) | rfl)
            · simp only [upd_apply, reduceIte, Nat.reduceEqDiff, b2]
            · simp only [upd_apply, reduceIte, Nat.reduceEqDiff, b3]
            · simp only [upd_apply, reduceIte, Nat.reduceEqDiff, b7]
          repeat (first | (refine ropsD_ng rfl fun K hK => ?_; simp only [go_sem, reduceIte, Nat.reduceEqDiff, reduceCtorEq, Nat.reduceAdd, Nat.reduceMul, Nat.reduceLT, Nat.reduceLeDiff, Int.reduceToNat, Int.reduceLE, h2, h3, h7, b2, b3, b7, q785i, q785e, q785l, c799]; refine hK _ ?_; clear hK K) | (refine ropsD_on rfl rfl ?_ fun K hK => ?_; (focus (simp only [go_sem, reduceIte, Nat.reduceEqDiff, reduceCtorEq, Nat.reduceAdd, Nat.reduceMul, Nat.reduceLT, Nat.reduceLeDiff, Int.reduceToNat, Int.reduceLE, h2, h3, h7, b2, b3, b7, q785i, q785e, q785l, c799]; done)); simp only [go_sem, reduceIte, Nat.reduceEqDiff, reduceCtorEq, Nat.reduceAdd, Nat.reduceMul, Nat.reduceLT, Nat.reduceLeDiff, Int.reduceToNat, Int.reduceLE, h2, h3, h7, b2, b3, b7, q785i, q785e, q785l, c799]; refine hK _ ?_; clear hK K) | (refine ropsD_off rfl rfl ?_ ?_; (focus (simp only [go_sem, reduceIte, Nat.reduceEqDiff, reduceCtorEq, Nat.reduceAdd, Nat.reduceMul, Nat.reduceLT, Nat.reduceLeDiff, Int.reduceToNat, Int.reduceLE, h2, h3, h7, b2, b3, b7, q785i, q785e, q785l, c799]; done))))
          first | refine rops_nil ?_ | refine ropsD_nil ?_
          try simp only [exs, reduceIte, Nat.reduceEqDiff]
          refine R794 _ ?_ ?_ ?_ ?_ ?_ ?_ ?_ ?_ ?_
          · simp only [upd_apply, reduceIte, Nat.reduceEqDiff, h2]
          · simp only [upd_apply, reduceIte, Nat.reduceEqDiff, h3]
          · (first | (simp only [upd_apply, reduceIte, Nat.reduceEqDiff, h7]; done) | (simp only [go_sem, reduceIte, Nat.reduceEqDiff, reduceCtorEq, Nat.reduceAdd, Nat.reduceMul, Nat.reduceLT, Nat.reduceLeDiff, Int.reduceToNat, Int.reduceLE, fs_all, take_length_map, h2, h3, h7, h8, b2, b3, b7, q785i, q785e, q785l, c799] <;> rfl) | rfl)
          · simp only [upd_apply, reduceIte, Nat.reduceEqDiff, h8]
          · (first | (simp only [upd_apply, reduceIte, Nat.reduceEqDiff]; done) | (simp only [go_sem, reduceIte, Nat.reduceEqDiff, reduceCtorEq, Nat.reduceAdd, Nat.reduceMul, Nat.reduceLT, Nat.reduceLeDiff, Int.reduceToNat, Int.reduceLE, fs_all, take_length_map, h2, h3, h7, h8, b2, b3, b7, q785i, q785e, q785l, c799] <;> rfl) | rfl)
          · (first | (simp only [upd_apply, reduceIte, Nat.reduceEqDiff]; done) | (simp only [go_sem, reduceIte, Nat.reduceEqDiff, reduceCtorEq, Nat.reduceAdd, Nat.reduceMul, Nat.reduceLT, Nat.reduceLeDiff, Int.reduceToNat, Int.reduceLE, fs_all, take_length_map, h2, h3, h7, h8, b2, b3, b7, q785i, q785e, q785l, c799] <;> rfl) | rfl)
          · simp only [upd_apply, reduceIte, Nat.reduceEqDiff, b2]
          · simp only [upd_apply, reduceIte, Nat.reduceEqDiff, b3]
          · simp only [upd_apply, reduceIte, Nat.reduceEqDiff, b7]
        have c780 : (decide (p746 < (a1.kids.length : Int))) = false := by first | exact hc | simpa using hc
        clear hc
        rw [c780] at h
        simp only [cond_true, cond_false] at h
        refine awp_exit ?_
        try simp only [exs, reduceIte, Nat.reduceEqDiff]
        refine J1  _ trivial h
      refine awp_seq fun K803 hK803 => ?_
      refine awp_region rfl (by kernel_rfl) ?_
      first | refine rops_k ?_ | refine ropsD_k ?_
      repeat (refine rops_ng rfl fun K hK => ?_; simp only [go_sem, reduceIte, Nat.reduceEqDiff, reduceCtorEq, Nat.reduceAdd, Nat.reduceMul, Nat.reduceLT, Nat.reduceLeDiff, Int.reduceToNat, Int.reduceLE, b2, b3]; refine hK _ ?_; clear hK K)
      first | refine rops_nil ?_ | refine ropsD_nil ?_
      try simp only [exs, reduceIte, Nat.reduceEqDiff]
      refine hK803 _ ?_
      refine awp_block ?_
      refine awp_loopK (fun m s849 => ∃ (p827 : Int), s849.r 2 = .loc 2 (s849.g 2) 0 0 0 ∧ s849.r 3 = .loc 3 (s849.g 3) 0 0 0 ∧ s849.r 6 = .val (.fl (.int .i64 p827)) ∧ s849.b 2 = some (.cells [.val (.fl (.int .i64 a0.next)), .val (.sl (List.map Nd.av a0.nodes))]) ∧ s849.b 3 = some (.cells [.val (.fl (.int .i64 a1.id)), .val (.fl (bs a1.concept)), .val (.fl (.int .i64 a1.parent)), .val (.fl (bs a1.role)), .val (.sl (List.map Prp.av a1.props)), .val (.sl (List.map intAV a1.kids)), .val (.sl (List.map Rf.av a1.refs))]) ∧  F25_L2 a1 N a0 m p827 = some r) N ?_ ?_
      · refine ⟨0, ?_, ?_, ?_, ?_, ?_, h⟩
        · simp only [upd_apply, reduceIte, Nat.reduceEqDiff, h2]
        · simp only [upd_apply, reduceIte, Nat.reduceEqDiff, h3]
        · (first | (simp only [upd_apply, reduceIte, Nat.reduceEqDiff]; done) | (simp only [go_sem, reduceIte, Nat.reduceEqDiff, reduceCtorEq, Nat.reduceAdd, Nat.reduceMul, Nat.reduceLT, Nat.reduceLeDiff, Int.reduceToNat, Int.reduceLE, fs_all, take_length_map, h2, h3, b2, b3] <;> rfl) | rfl)
        · simp only [upd_apply, reduceIte, Nat.reduceEqDiff, b2]
        · simp only [upd_apply, reduceIte, Nat.reduceEqDiff, b3]
      clear h
      intro m851 s849 hI K804 hK804
      obtain ⟨p827, h2, h3, h6, b2, b3, h⟩ := hI
      rcases m851 with _ | n850
      · simp only [F25_L2, reduceCtorEq] at h
      rw [F25_L2] at h
      refine awp_seq fun K852 hK852 => ?_
      refine awp_seq fun K853 hK853 => ?_
      refine awp_region rfl (by kernel_rfl) ?_
      first | refine rops_k ?_ | refine ropsD_k ?_
      repeat (refine rops_ng rfl fun K hK => ?_; simp only [go_sem, reduceIte, Nat.reduceEqDiff, reduceCtorEq, Nat.reduceAdd, Nat.reduceMul, Nat.reduceLT, Nat.reduceLeDiff, Int.reduceToNat, Int.reduceLE, h3, h6, b2, b3]; refine hK _ ?_; clear hK K)
      first | refine rops_nil ?_ | refine ropsD_nil ?_
      try simp only [exs, reduceIte, Nat.reduceEqDiff]
      refine hK853 _ ?_
      refine awp_if (by kernel_rfl) (by (simp only [upd_apply, reduceIte, Nat.reduceEqDiff, St.ev, constReg, constCell, St.put_some, St.put_none, h2, h3, h6, b2, b3] <;> rfl)) (fun hc => ?_) (fun hc => ?_)
      · have c854 : (decide (p827 < (a1.refs.length : Int))) = true := by first | exact hc | simpa using hc
        clear hc
        rw [c854] at h
        simp only [cond_true, cond_false] at h
        refine awp_skip ?_
        try simp only [exs, reduceIte, Nat.reduceEqDiff]
        refine hK852 _ ?_
        refine awp_seq fun K855 hK855 => ?_
        refine awp_block ?_
        refine awp_seq fun K856 hK856 => ?_
        obtain ⟨x857, q860, h⟩ := bind_some h
        obtain ⟨q860i, q860e, q860l⟩ := getO_some q860
        obtain ⟨x858, q861, h⟩ := bind_some h
        obtain ⟨x859, q862, h⟩ := bindG_some h
        refine awp_draw (by kernel_rfl) rfl (by kernel_rfl) (by kernel_rfl) ?_
        have R864 : ∀ s863 : St, (s863.r 2 = .loc 2 (s863.g 2) 0 0 0) → (s863.r 3 = .loc 3 (s863.g 3) 0 0 0) → (s863.r 6 = .val (.fl (.int .i64 p827))) → (s863.r 122 = .val (.fl (.bool ((((!x858) || (decide (x857.target < 1))) || (decide (x857.target ≥ a0.next))) || ((decide (p827 > 0)) && (!Op.bytesLess x859.role x857.role)))))) → (s863.b 2 = some (.cells [.val (.fl (.int .i64 a0.next)), .val (.sl (List.map Nd.av a0.nodes))])) → (s863.b 3 = some (.cells [.val (.fl (.int .i64 a1.id)), .val (.fl (bs a1.concept)), .val (.fl (.int .i64 a1.parent)), .val (.fl (bs a1.role)), .val (.sl (List.map Prp.av a1.props)), .val (.sl (List.map intAV a1.kids)), .val (.sl (List.map Rf.av a1.refs))])) → K856 s863 := by
          intro s863 h2 h3 h6 h122 b2 b3
          refine hK856 _ ?_
          refine awp_if (by kernel_rfl) (by (simp only [upd_apply, reduceIte, Nat.reduceEqDiff, St.ev, constReg, constCell, St.put_some, St.put_none, h2, h3, h6, h122, b2, b3, q860i, q860e, q860l] <;> rfl)) (fun hc => ?_) (fun hc => ?_)
          · have c865 : ((((!x858) || (decide (x857.target < 1))) || (decide (x857.target ≥ a0.next))) || ((decide (p827 > 0)) && (!Op.bytesLess x859.role x857.role))) = true := by first | exact hc | simpa using hc
            clear hc
            rw [c865] at h
            simp only [cond_true, cond_false] at h
            refine awp_seq fun K866 hK866 => ?_
            refine awp_region rfl (by kernel_rfl) ?_
            first | refine rops_k ?_ | refine ropsD_k ?_
            repeat (refine rops_ng rfl fun K hK => ?_; simp only [go_sem, reduceIte, Nat.reduceEqDiff, reduceCtorEq, Nat.reduceAdd, Nat.reduceMul, Nat.reduceLT, Nat.reduceLeDiff, Int.reduceToNat, Int.reduceLE, b2, b3]; refine hK _ ?_; clear hK K)
            first | refine rops_nil ?_ | refine ropsD_nil ?_
            try simp only [exs, reduceIte, Nat.reduceEqDiff]
            refine hK866 _ ?_
            have h := Option.some.inj h
            subst h
            refine awp_ret ?_
            try simp only [exs, reduceIte, Nat.reduceEqDiff]
            refine fin_ret (vs := [.tmp 4]) Try.ntmps25 rfl (by simp [List.filter_cons, isOwn]) none ?_
            (simp only [resultsAre, resCell, loadRegs, regRV, go_sem, reduceIte, Nat.reduceEqDiff, reduceCtorEq, Nat.reduceAdd, Nat.reduceMul, Nat.reduceLT, Nat.reduceLeDiff, Int.reduceToNat, Int.reduceLE, fs_all, take_length_map, h2, h3, h6, h122, b2, b3, q860i, q860e, q860l] <;> rfl)
          have c865 : ((((!x858) || (decide (x857.target < 1))) || (decide (x857.target ≥ a0.next))) || ((decide (p827 > 0)) && (!Op.bytesLess x859.role x857.role))) = false := by first | exact hc | simpa using hc
          clear hc
          rw [c865] at h
          simp only [cond_true, cond_false] at h
          refine awp_skip ?_
          try simp only [exs, reduceIte, Nat.reduceEqDiff]
          refine hK855 _ ?_
          refine awp_region rfl (by kernel_rfl) ?_
          first | refine rops_k ?_ | refine ropsD_k ?_
          repeat (refine rops_ng rfl fun K hK => ?_; simp only [go_sem, reduceIte, Nat.reduceEqDiff, reduceCtorEq, Nat.reduceAdd, Nat.reduceMul, Nat.reduceLT, Nat.reduceLeDiff, Int.reduceToNat, Int.reduceLE, h6, b2, b3, q860i, q860e, q860l]; refine hK _ ?_; clear hK K)
          first | refine rops_nil ?_ | refine ropsD_nil ?_
          try simp only [exs, reduceIte, Nat.reduceEqDiff]
          refine hK804 _ ⟨n850, Nat.lt_succ_self _, (IntKind.i64.wrap (p827 + 1)), ?_, ?_, ?_, ?_, ?_, h⟩
          · simp only [upd_apply, reduceIte, Nat.reduceEqDiff, h2]
          · simp only [upd_apply, reduceIte, Nat.reduceEqDiff, h3]
          · (first | (simp only [upd_apply, reduceIte, Nat.reduceEqDiff, h6]; done) | (simp only [go_sem, reduceIte, Nat.reduceEqDiff, reduceCtorEq, Nat.reduceAdd, Nat.reduceMul, Nat.reduceLT, Nat.reduceLeDiff, Int.reduceToNat, Int.reduceLE, fs_all, take_length_map, h2, h3, h6, h122, b2, b3, q860i, q860e, q860l] <;> rfl) | rfl)
          · simp only [upd_apply, reduceIte, Nat.reduceEqDiff, b2]
          · simp only [upd_apply, reduceIte, Nat.reduceEqDiff, b3]
        first | refine rops_k ?_ | refine ropsD_k ?_
        repeat (refine ropsD_ng rfl fun K hK => ?_; simp only [go_sem, reduceIte, Nat.reduceEqDiff, reduceCtorEq, Nat.reduceAdd, Nat.reduceMul, Nat.reduceLT, Nat.reduceLeDiff, Int.reduceToNat, Int.reduceLE, h2, h3, h6, b2, b3, q860i, q860e, q860l]; refine hK _ ?_; clear hK K)
        refine ropsD_ng rfl fun K hK => ?_
        simp only [List.head?_cons, List.head?_nil, Option.map_some, Option.map_none, rops1, ropsD1, gtmp, gate, beq_self_eq_true, beq_t, beq_f, Bool.not_true, Bool.not_false, if_true, rOp, rOpD, calleeOf, regAVsOf, regAV, List.getElem?_toArray, List.getElem?_cons_zero, List.getElem?_cons_succ, Option.bind_some, upd_apply, reduceIte, Nat.reduceEqDiff, St.ev, constReg, constCell, St.put_some, St.put_none, h2, h3, h6, b2, b3, q860i, q860e, q860l]
        refine ⟨_, _, rfl, _, rfl, _, (F33_does _ N x857.role  _ q861), _, rfl, ?_⟩
        simp only [flRV, outK, St.take, St.takeRVs, St.takeRV, retReg, St.put_some, St.put_none, List.map_cons, List.map_nil]
        refine hK _ ?_; clear hK K
        repeat (refine ropsD_ng rfl fun K hK => ?_; simp only [go_sem, reduceIte, Nat.reduceEqDiff, reduceCtorEq, Nat.reduceAdd, Nat.reduceMul, Nat.reduceLT, Nat.reduceLeDiff, Int.reduceToNat, Int.reduceLE, h2, h3, h6, b2, b3, q860i, q860e, q860l]; refine hK _ ?_; clear hK K)
        rcases c867 : (x858) with _ | _
        · repeat (first | (refine ropsD_ng rfl fun K hK => ?_; simp only [go_sem, reduceIte, Nat.reduceEqDiff, reduceCtorEq, Nat.reduceAdd, Nat.reduceMul, Nat.reduceLT, Nat.reduceLeDiff, Int.reduceToNat, Int.reduceLE, h2, h3, h6, b2, b3, q860i, q860e, q860l, c867]; refine hK _ ?_; clear hK K) | (refine ropsD_on rfl rfl ?_ fun K hK => ?_; (focus (simp only [go_sem, reduceIte, Nat.reduceEqDiff, reduceCtorEq, Nat.reduceAdd, Nat.reduceMul, Nat.reduceLT, Nat.reduceLeDiff, Int.reduceToNat, Int.reduceLE, h2, h3, h6, b2, b3, q860i, q860e, q860l, c867]; done)); simp only [go_sem, reduceIte, Nat.reduceEqDiff, reduceCtorEq, Nat.reduceAdd, Nat.reduceMul, Nat.reduceLT, Nat.reduceLeDiff, Int.reduceToNat, Int.reduceLE, h2, h3, h6, b2, b3, q860i, q860e, q860l, c867]; refine hK _ ?_; clear hK K) | (refine ropsD_off rfl rfl ?_ ?_; (focus (simp only [go_sem, reduceIte, Nat.reduceEqDiff, reduceCtorEq, Nat.reduceAdd, Nat.reduceMul, Nat.reduceLT, Nat.reduceLeDiff, Int.reduceToNat, Int.reduceLE, h2, h3, h6, b2, b3, q860i, q860e, q860l, c867]; done))))
          first | refine rops_nil ?_ | refine ropsD_nil ?_
          try simp only [exs, reduceIte, Nat.reduceEqDiff]
          refine R864 _ ?_ ?_ ?_ ?_ ?_ ?_
          · simp only [upd_apply, reduceIte, Nat.reduceEqDiff, h2]
          · simp only [upd_apply, reduceIte, Nat.reduceEqDiff, h3]
          · simp only [upd_apply, reduceIte, Nat.reduceEqDiff, h6]
          · (first | (simp only [upd_apply, reduceIte, Nat.reduceEqDiff]; done) | (simp only [go_sem, reduceIte, Nat.reduceEqDiff, reduceCtorEq, Nat.reduceAdd, Nat.reduceMul, Nat.reduceLT, Nat.reduceLeDiff, Int.reduceToNat, Int.reduceLE, fs_all, take_length_map, h2, h3, h6, b2, b3, q860i, q860e, q860l, c867] <;> rfl) | rfl)
          · simp only [upd_apply, reduceIte, Nat.reduceEqDiff, b2]
          · simp only [upd_apply, reduceIte, Nat.reduceEqDiff, b3]
        repeat (first | (refine ropsD_ng rfl fun K hK => ?_; simp only [go_sem, reduceIte, Nat.reduceEqDiff, reduceCtorEq, Nat.reduceAdd, Nat.reduceMul, Nat.reduceLT, Nat.reduceLeDiff, Int.reduceToNat, Int.reduceLE, h2, h3, h6, b2, b3, q860i, q860e, q860l, c867]; refine hK _ ?_; clear hK K) | (refine ropsD_on rfl rfl ?_ fun K hK => ?_; (focus (simp only [go_sem, reduceIte, Nat.reduceEqDiff, reduceCtorEq, Nat.reduceAdd, Nat.reduceMul, Nat.reduceLT, Nat.reduceLeDiff, Int.reduceToNat, Int.reduceLE, h2, h3, h6, b2, b3, q860i, q860e, q860l, c867]; done)); simp only [go_sem, reduceIte, Nat.reduceEqDiff, reduceCtorEq, Nat.reduceAdd, Nat.reduceMul, Nat.reduceLT, Nat.reduceLeDiff, Int.reduceToNat, Int.reduceLE, h2, h3, h6, b2, b3, q860i, q860e, q860l, c867]; refine hK _ ?_; clear hK K) | (refine ropsD_off rfl rfl ?_ ?_; (focus (simp only [go_sem, reduceIte, Nat.reduceEqDiff, reduceCtorEq, Nat.reduceAdd, Nat.reduceMul, Nat.reduceLT, Nat.reduceLeDiff, Int.reduceToNat, Int.reduceLE, h2, h3, h6, b2, b3, q860i, q860e, q860l, c867]; done))))
        rcases c868 : (decide (x857.target < 1)) with _ | _
        · repeat (first | (refine ropsD_ng rfl fun K hK => ?_; simp only [go_sem, reduceIte, Nat.reduceEqDiff, reduceCtorEq, Nat.reduceAdd, Nat.reduceMul, Nat.reduceLT, Nat.reduceLeDiff, Int.reduceToNat, Int.reduceLE, h2, h3, h6, b2, b3, q860i, q860e, q860l, c867, c868]; refine hK _ ?_; clear hK K) | (refine ropsD_on rfl rfl ?_ fun K hK => ?_; (focus (simp only [go_sem, reduceIte, Nat.reduceEqDiff, reduceCtorEq, Nat.reduceAdd, Nat.reduceMul, Nat.reduceLT, Nat.reduceLeDiff, Int.reduceToNat, Int.reduceLE, h2, h3, h6, b2, b3, q860i, q860e, q860l, c867, c868]; done)); simp only [go_sem, reduceIte, Nat.reduceEqDiff, reduceCtorEq, Nat.reduceAdd, Nat.reduceMul, Nat.reduceLT, Nat.reduceLeDiff, Int.reduceToNat, Int.reduceLE, h2, h3, h6, b2, b3, q860i, q860e, q860l, c867, c868]; refine hK _ ?_; clear hK K) | (refine ropsD_off rfl rfl ?_ ?_; (focus (simp only [go_sem, reduceIte, Nat.reduceEqDiff, reduceCtorEq, Nat.reduceAdd, Nat.reduceMul, Nat.reduceLT, Nat.reduceLeDiff, Int.reduceToNat, Int.reduceLE, h2, h3, h6, b2, b3, q860i, q860e, q860l, c867, c868]; done))))
          rcases c869 : (decide (x857.target ≥ a0.next)) with _ | _
          · repeat (first | (refine ropsD_ng rfl fun K hK => ?_; simp only [go_sem, reduceIte, Nat.reduceEqDiff, reduceCtorEq, Nat.reduceAdd, Nat.reduceMul, Nat.reduceLT, Nat.reduceLeDiff, Int.reduceToNat, Int.reduceLE, h2, h3, h6, b2, b3, q860i, q860e, q860l, c867, c868, c869]; refine hK _ ?_; clear hK K) | (refine ropsD_on rfl rfl ?_ fun K hK => ?_; (focus (simp only [go_sem, reduceIte, Nat.reduceEqDiff, reduceCtorEq, Nat.reduceAdd, Nat.reduceMul, Nat.reduceLT, Nat.reduceLeDiff, Int.reduceToNat, Int.reduceLE, h2, h3, h6, b2, b3, q860i, q860e, q860l, c867, c868, c869]; done)); simp only [go_sem, reduceIte, Nat.reduceEqDiff, reduceCtorEq, Nat.reduceAdd, Nat.reduceMul, Nat.reduceLT, Nat.reduceLeDiff, Int.reduceToNat, Int.reduceLE, h2, h3, h6, b2, b3, q860i, q860e, q860l, c867, c868, c869]; refine hK _ ?_; clear hK K) | (refine ropsD_off rfl rfl ?_ ?_; (focus (simp only [go_sem, reduceIte, Nat.reduceEqDiff, reduceCtorEq, Nat.reduceAdd, Nat.reduceMul, Nat.reduceLT, Nat.reduceLeDiff, Int.reduceToNat, Int.reduceLE, h2, h3, h6, b2, b3, q860i, q860e, q860l, c867, c868, c869]; done))))
            rcases c870 : (decide (p827 > 0)) with _ | _
            · repeat (first | (refine ropsD_ng rfl fun K hK => ?_; simp only [go_sem, reduceIte, Nat.reduceEqDiff, reduceCtorEq, Nat.reduceAdd, Nat.reduceMul, Nat.reduceLT, Nat.reduceLeDiff, Int.reduceToNat, Int.reduceLE, h2, h3, h6, b2, b3, q860i, q860e, q860l, c867, c868, c869, c870]; refine hK _ ?_; clear hK K) | (refine ropsD_on rfl rfl ?_ fun K hK => ?_; (focus (simp only [go_sem, reduceIte, Nat.reduceEqDiff, reduceCtorEq, Nat.reduceAdd, Nat.reduceMul, Nat.reduceLT, Nat.reduceLeDiff, Int.reduceToNat, Int.reduceLE, h2, h3, h6, b2, b3, q860i, q860e, q860l, c867, c868, c869, c870]; done)); simp only [go_sem, reduceIte, Nat.reduceEqDiff, reduceCtorEq, Nat.reduceAdd, Nat.reduceMul, Nat.reduceLT, Nat.reduceLeDiff, Int.reduceToNat, Int.reduceLE, h2, h3, h6, b2, b3, q860i, q860e, q860l, c867, c868, c869, c870]; refine hK _ ?_; clear hK K) | (refine ropsD_off rfl rfl ?_ ?_; (focus (simp only [go_sem, reduceIte, Nat.reduceEqDiff, reduceCtorEq, Nat.reduceAdd, Nat.reduceMul, Nat.reduceLT, Nat.reduceLeDiff, Int.reduceToNat, Int.reduceLE, h2, h3, h6, b2, b3, q860i, q860e, q860l, c867, c868, c869, c870]; done))))
              first | refine rops_nil ?_ | refine ropsD_nil ?_
              try simp only [exs, reduceIte, Nat.reduceEqDiff]
              refine R864 _ ?_ ?_ ?_ ?_ ?_ ?_
              · simp only [upd_apply, reduceIte, Nat.reduceEqDiff, h2]
              · simp only [upd_apply, reduceIte, Nat.reduceEqDiff, h3]
              · simp only [upd_apply, reduceIte, Nat.reduceEqDiff, h6]
              · (first | (simp only [upd_apply, reduceIte, Nat.reduceEqDiff]; done) | (simp only [go_sem, reduceIte, Nat.reduceEqDiff, reduceCtorEq, Nat.reduceAdd, Nat.reduceMul, Nat.reduceLT, Nat.reduceLeDiff, Int.reduceToNat, Int.reduceLE, fs_all, take_length_map, h2, h3, h6, b2, b3, q860i, q860e, q860l, c867, c868, c869, c870] <;> rfl) | rfl)
              · simp only [upd_apply, reduceIte, Nat.reduceEqDiff, b2]
              · simp only [upd_apply, reduceIte, Nat.reduceEqDiff, b3]
            have q871 := q862 (by simp only [c867, c868, c869, c870, fs_bool, beq_t, beq_f, beq_self_eq_true])
            obtain ⟨q871i, q871e, q871l⟩ := getO_some q871
            repeat (first | (refine ropsD_ng rfl fun K hK => ?_; simp only [go_sem, reduceIte, Nat.reduceEqDiff, reduceCtorEq, Nat.reduceAdd, Nat.reduceMul, Nat.reduceLT, Nat.reduceLeDiff, Int.reduceToNat, Int.reduceLE, h2, h3, h6, b2, b3, q860i, q860e, q860l, q871i, q871e, q871l, c867, c868, c869, c870]; refine hK _ ?_; clear hK K) | (refine ropsD_on rfl rfl ?_ fun K hK => ?_; (focus (simp only [go_sem, reduceIte, Nat.reduceEqDiff, reduceCtorEq, Nat.reduceAdd, Nat.reduceMul, Nat.reduceLT, Nat.reduceLeDiff, Int.reduceToNat, Int.reduceLE, h2, h3, h6, b2, b3, q860i, q860e, q860l, q871i, q871e, q871l, c867, c868, c869, c870]; done)); simp only [go_sem, reduceIte, Nat.reduceEqDiff, reduceCtorEq, Nat.reduceAdd, Nat.reduceMul, Nat.reduceLT, Nat.reduceLeDiff, Int.reduceToNat, Int.reduceLE, h2, h3, h6, b2, b3, q860i, q860e, q860l, q871i, q871e, q871l, c867, c868, c869, c870]; refine hK _ ?_; clear hK K) | (refine ropsD_off rfl rfl ?_ ?_; (focus (simp only [go_sem, reduceIte, Nat.reduceEqDiff, reduceCtorEq, Nat.reduceAdd, Nat.reduceMul, Nat.reduceLT, Nat.reduceLeDiff, Int.reduceToNat, Int.reduceLE, h2, h3, h6, b2, b3, q860i, q860e, q860l, q871i, q871e, q871l, c867, c868, c869, c870]; done))))
            first | refine rops_nil ?_ | refine ropsD_nil ?_
            try simp only [exs, reduceIte, Nat.reduceEqDiff]
            refine R864 _ ?_ ?_ ?_ ?_ ?_ ?_
            · simp only [upd_apply, reduceIte, Nat.reduceEqDiff, h2]
            · simp only [upd_apply, reduceIte, Nat.reduceEqDiff, h3]
            · simp only [upd_apply, reduceIte, Nat.reduceEqDiff, h6]
            · (first | (simp only [upd_apply, reduceIte, Nat.reduceEqDiff]; done) | (simp only [go_sem, reduceIte, Nat.reduceEqDiff, reduceCtorEq, Nat.reduceAdd, Nat.reduceMul, Nat.reduceLT, Nat.reduceLeDiff, Int.reduceToNat, Int.reduceLE, fs_all, take_length_map, h2, h3, h6, b2, b3, q860i, q860e, q860l, q871i, q871e, q871l, c867, c868, c869, c870] <;> rfl) | rfl)
            · simp only [upd_apply, reduceIte, Nat.reduceEqDiff, b2]
            · simp only [upd_apply, reduceIte, Nat.reduceEqDiff, b3]
          repeat (first | (refine ropsD_ng rfl fun K hK => ?_; simp only [go_sem, reduceIte, Nat.reduceEqDiff, reduceCtorEq, Nat.reduceAdd, Nat.reduceMul, Nat.reduceLT, Nat.reduceLeDiff, Int.reduceToNat, Int.reduceLE, h2, h3, h6, b2, b3, q860i, q860e, q860l, c867, c868, c869]; refine hK _ ?_; clear hK K) | (refine ropsD_on rfl rfl ?_ fun K hK => ?_; (focus (simp only [go_sem, reduceIte, Nat.reduceEqDiff, reduceCtorEq, Nat.reduceAdd, Nat.reduceMul, Nat.reduceLT, Nat.reduceLeDiff, Int.reduceToNat, Int.reduceLE, h2, h3, h6, b2, b3, q860i, q860e, q860l, c867, c868, c869]; done)); simp only [go_sem, reduceIte, Nat.reduceEqDiff, reduceCtorEq, Nat.reduceAdd, Nat.reduceMul, Nat.reduceLT, Nat.reduceLeDiff, Int.reduceToNat, Int.reduceLE, h2, h3, h6, b2, b3, q860i, q860e, q860l, c867, c868, c869]; refine hK _ ?_; clear hK K) | (refine ropsD_off rfl rfl ?_ ?_; (focus (simp only [go_sem, reduceIte, Nat.reduceEqDiff, reduceCtorEq, Nat.reduceAdd, Nat.reduceMul, Nat.reduceLT, Nat.reduceLeDiff, Int.reduceToNat, Int.reduceLE, h2, h3, h6, b2, b3, q860i, q860e, q860l, c867, c868, c869]; done))))
          first | refine rops_nil ?_ | refine ropsD_nil ?_
          try simp only [exs, reduceIte, Nat.reduceEqDiff]
          refine R864 _ ?_ ?_ ?_ ?_ ?_ ?_
          · simp only [upd_apply, reduceIte, Nat.reduceEqDiff, h2]
          · simp only [upd_apply, reduceIte, Nat.reduceEqDiff, h3]
          · simp only [upd_apply, reduceIte, Nat.reduceEqDiff, h6]
          · (first | (simp only [upd_apply, reduceIte, Nat.reduceEqDiff]; done) | (simp only [go_sem, reduceIte, Nat.reduceEqDiff, reduceCtorEq, Nat.reduceAdd, Nat.reduceMul, Nat.reduceLT, Nat.reduceLeDiff, Int.reduceToNat, Int.reduceLE, fs_all, take_length_map, h2, h3, h6, b2, b3, q860i, q860e, q860l, c867, c868, c869] <;> rfl) | rfl)
          · simp only [upd_apply, reduceIte, Nat.reduceEqDiff, b2]
          · simp only [upd_apply, reduceIte, Nat.reduceEqDiff, b3]
        repeat (first | (refine ropsD_ng rfl fun K hK => ?_; simp only [go_sem, reduceIte, Nat.reduceEqDiff, reduceCtorEq, Nat.reduceAdd, Nat.reduceMul, Nat.reduceLT, Nat.reduceLeDiff, Int.reduceToNat, Int.reduceLE, h2, h3, h6, b2, b3, q860i, q860e, q860l, c867, c868]; refine hK _ ?_; clear hK K) | (refine ropsD_on rfl rfl ?_ fun K hK => ?_; (focus (simp only [go_sem, reduceIte, Nat.reduceEqDiff, reduceCtorEq, Nat.reduceAdd, Nat.reduceMul, Nat.reduceLT, Nat.reduceLeDiff, Int.reduceToNat, Int.reduceLE, h2, h3, h6, b2, b3, q860i, q860e, q860l, c867, c868]; done)); simp only [go_sem, reduceIte, Nat.reduceEqDiff, reduceCtorEq, Nat.reduceAdd, Nat.reduceMul, Nat.reduceLT, Nat.reduceLeDiff, Int.reduceToNat, Int.reduceLE, h2, h3, h6, b2, b3, q860i, q860e, q860l, c867, c868]; refine hK _ ?_; clear hK K) | (refine ropsD_off rfl rfl ?_ ?_; (focus (simp only [go_sem, reduceIte, Nat.reduceEqDiff, reduceCtorEq, Nat.reduceAdd, Nat.reduceMul, Nat.reduceLT, Nat.reduceLeDiff, Int.reduceToNat, Int.reduceLE, h2, h3, h6, b2, b3, q860i, q860e, q860l, c867, c868]; done))))
        first | refine rops_nil ?_ | refine ropsD_nil ?_
        try simp only [exs, reduceIte, Nat.reduceEqDiff]
        refine R864 _ ?_ ?_ ?_ ?_ ?_ ?_
        · simp only [upd_apply, reduceIte, Nat.reduceEqDiff, h2]
        · simp only [upd_apply, reduceIte, Nat.reduceEqDiff, h3]
        · simp only [upd_apply, reduceIte, Nat.reduceEqDiff, h6]
        · (first | (simp only [upd_apply, reduceIte, Nat.reduceEqDiff]; done) | (simp only [go_sem, reduceIte, Nat.reduceEqDiff, reduceCtorEq, Nat.reduceAdd, Nat.reduceMul, Nat.reduceLT, Nat.reduceLeDiff, Int.reduceToNat, Int.reduceLE, fs_all, take_length_map, h2, h3, h6, b2, b3, q860i, q860e, q860l, c867, c868] <;> rfl) | rfl)
        · simp only [upd_apply, reduceIte, Nat.reduceEqDiff, b2]
        · simp only [upd_apply, reduceIte, Nat.reduceEqDiff, b3]
      have c854 : (decide (p827 < (a1.refs.length : Int))) = false := by first | exact hc | simpa using hc
      clear hc
      rw [c854] at h
      simp only [cond_true, cond_false] at h
      refine awp_exit ?_
      try simp only [exs, reduceIte, Nat.reduceEqDiff]
      refine J2  _ ?_ ?_ ?_ ?_ h
      · simp only [upd_apply, reduceIte, Nat.reduceEqDiff, h2]
      · simp only [upd_apply, reduceIte, Nat.reduceEqDiff, h3]
      · simp only [upd_apply, reduceIte, Nat.reduceEqDiff, b2]
      · simp only [upd_apply, reduceIte, Nat.reduceEqDiff, b3]
    refine awp_seq fun K872 hK872 => ?_
    refine awp_region rfl (by kernel_rfl) ?_
    first | refine rops_k ?_ | refine ropsD_k ?_
    repeat (refine rops_ng rfl fun K hK => ?_; simp only [go_sem, reduceIte, Nat.reduceEqDiff, reduceCtorEq, Nat.reduceAdd, Nat.reduceMul, Nat.reduceLT, Nat.reduceLeDiff, Int.reduceToNat, Int.reduceLE, b2, b3]; refine hK _ ?_; clear hK K)
    first | refine rops_nil ?_ | refine ropsD_nil ?_
    try simp only [exs, reduceIte, Nat.reduceEqDiff]
    refine hK872 _ ?_
    refine awp_block ?_
    refine awp_loopK (fun m s916 => ∃ (p895 : Int), s916.r 2 = .loc 2 (s916.g 2) 0 0 0 ∧ s916.r 3 = .loc 3 (s916.g 3) 0 0 0 ∧ s916.r 5 = .val (.fl (.int .i64 p895)) ∧ s916.b 2 = some (.cells [.val (.fl (.int .i64 a0.next)), .val (.sl (List.map Nd.av a0.nodes))]) ∧ s916.b 3 = some (.cells [.val (.fl (.int .i64 a1.id)), .val (.fl (bs a1.concept)), .val (.fl (.int .i64 a1.parent)), .val (.fl (bs a1.role)), .val (.sl (List.map Prp.av a1.props)), .val (.sl (List.map intAV a1.kids)), .val (.sl (List.map Rf.av a1.refs))]) ∧  F25_L3 a1 N a0 m p895 = some r) N ?_ ?_
    · refine ⟨0, ?_, ?_, ?_, ?_, ?_, h⟩
      · simp only [upd_apply, reduceIte, Nat.reduceEqDiff, h2]
      · simp only [upd_apply, reduceIte, Nat.reduceEqDiff, h3]
      · (first | (simp only [upd_apply, reduceIte, Nat.reduceEqDiff]; done) | (simp only [go_sem, reduceIte, Nat.reduceEqDiff, reduceCtorEq, Nat.reduceAdd, Nat.reduceMul, Nat.reduceLT, Nat.reduceLeDiff, Int.reduceToNat, Int.reduceLE, fs_all, take_length_map, h2, h3, h22, b2, b3] <;> rfl) | rfl)
      · simp only [upd_apply, reduceIte, Nat.reduceEqDiff, b2]
      · simp only [upd_apply, reduceIte, Nat.reduceEqDiff, b3]
    clear h
    intro m918 s916 hI K873 hK873
    obtain ⟨p895, h2, h3, h5, b2, b3, h⟩ := hI
    rcases m918 with _ | n917
    · simp only [F25_L3, reduceCtorEq] at h
    rw [F25_L3] at h
    refine awp_seq fun K919 hK919 => ?_
    refine awp_seq fun K920 hK920 => ?_
    refine awp_region rfl (by kernel_rfl) ?_
    first | refine rops_k ?_ | refine ropsD_k ?_
    repeat (refine rops_ng rfl fun K hK => ?_; simp only [go_sem, reduceIte, Nat.reduceEqDiff, reduceCtorEq, Nat.reduceAdd, Nat.reduceMul, Nat.reduceLT, Nat.reduceLeDiff, Int.reduceToNat, Int.reduceLE, h3, h5, b2, b3]; refine hK _ ?_; clear hK K)
    first | refine rops_nil ?_ | refine ropsD_nil ?_
    try simp only [exs, reduceIte, Nat.reduceEqDiff]
    refine hK920 _ ?_
    refine awp_if (by kernel_rfl) (by (simp only [upd_apply, reduceIte, Nat.reduceEqDiff, St.ev, constReg, constCell, St.put_some, St.put_none, h2, h3, h5, b2, b3] <;> rfl)) (fun hc => ?_) (fun hc => ?_)
    · have c921 : (decide (p895 < (a1.props.length : Int))) = true := by first | exact hc | simpa using hc
      clear hc
      rw [c921] at h
      simp only [cond_true, cond_false] at h
      refine awp_skip ?_
      try simp only [exs, reduceIte, Nat.reduceEqDiff]
      refine hK919 _ ?_
      refine awp_seq fun K922 hK922 => ?_
      refine awp_block ?_
      refine awp_seq fun K923 hK923 => ?_
      obtain ⟨x924, q927, h⟩ := bind_some h
      obtain ⟨q927i, q927e, q927l⟩ := getO_some q927
      obtain ⟨x925, q928, h⟩ := bind_some h
      obtain ⟨x926, q929, h⟩ := bindG_some h
      refine awp_draw (by kernel_rfl) rfl (by kernel_rfl) (by kernel_rfl) ?_
      have R931 : ∀ s930 : St, (s930.r 2 = .loc 2 (s930.g 2) 0 0 0) → (s930.r 3 = .loc 3 (s930.g 3) 0 0 0) → (s930.r 5 = .val (.fl (.int .i64 p895))) → (s930.r 67 = .val (.fl (.bool (((!x925) || (decide ((x924.value.length : Int) > 4096))) || ((decide (p895 > 0)) && (!Op.bytesLess x926.name x924.name)))))) → (s930.b 2 = some (.cells [.val (.fl (.int .i64 a0.next)), .val (.sl (List.map Nd.av a0.nodes))])) → (s930.b 3 = some (.cells [.val (.fl (.int .i64 a1.id)), .val (.fl (bs a1.concept)), .val (.fl (.int .i64 a1.parent)), .val (.fl (bs a1.role)), .val (.sl (List.map Prp.av a1.props)), .val (.sl (List.map intAV a1.kids)), .val (.sl (List.map Rf.av a1.refs))])) → K923 s930 := by
        intro s930 h2 h3 h5 h67 b2 b3
        refine hK923 _ ?_
        refine awp_if (by kernel_rfl) (by (simp only [upd_apply, reduceIte, Nat.reduceEqDiff, St.ev, constReg, constCell, St.put_some, St.put_none, h2, h3, h5, h67, b2, b3, q927i, q927e, q927l] <;> rfl)) (fun hc => ?_) (fun hc => ?_)
        · have c932 : (((!x925) || (decide ((x924.value.length : Int) > 4096))) || ((decide (p895 > 0)) && (!Op.bytesLess x926.name x924.name))) = true := by first | exact hc | simpa using hc
          clear hc
          rw [c932] at h
          simp only [cond_true, cond_false] at h
          refine awp_seq fun K933 hK933 => ?_
          refine awp_region rfl (by kernel_rfl) ?_
          first | refine rops_k ?_ | refine ropsD_k ?_
          repeat (refine rops_ng rfl fun K hK => ?_; simp only [go_sem, reduceIte, Nat.reduceEqDiff, reduceCtorEq, Nat.reduceAdd, Nat.reduceMul, Nat.reduceLT, Nat.reduceLeDiff, Int.reduceToNat, Int.reduceLE, b2, b3]; refine hK _ ?_; clear hK K)
          first | refine rops_nil ?_ | refine ropsD_nil ?_
          try simp only [exs, reduceIte, Nat.reduceEqDiff]
          refine hK933 _ ?_
          have h := Option.some.inj h
          subst h
          refine awp_ret ?_
          try simp only [exs, reduceIte, Nat.reduceEqDiff]
          refine fin_ret (vs := [.tmp 4]) Try.ntmps25 rfl (by simp [List.filter_cons, isOwn]) none ?_
          (simp only [resultsAre, resCell, loadRegs, regRV, go_sem, reduceIte, Nat.reduceEqDiff, reduceCtorEq, Nat.reduceAdd, Nat.reduceMul, Nat.reduceLT, Nat.reduceLeDiff, Int.reduceToNat, Int.reduceLE, fs_all, take_length_map, h2, h3, h5, h67, b2, b3, q927i, q927e, q927l] <;> rfl)
        have c932 : (((!x925) || (decide ((x924.value.length : Int) > 4096))) || ((decide (p895 > 0)) && (!Op.bytesLess x926.name x924.name))) = false := by first | exact hc | simpa using hc
        clear hc
        rw [c932] at h
        simp only [cond_true, cond_false] at h
        refine awp_skip ?_
        try simp only [exs, reduceIte, Nat.reduceEqDiff]
        refine hK922 _ ?_
        refine awp_region rfl (by kernel_rfl) ?_
        first | refine rops_k ?_ | refine ropsD_k ?_
        repeat (refine rops_ng rfl fun K hK => ?_; simp only [go_sem, reduceIte, Nat.reduceEqDiff, reduceCtorEq, Nat.reduceAdd, Nat.reduceMul, Nat.reduceLT, Nat.reduceLeDiff, Int.reduceToNat, Int.reduceLE, h5, b2, b3, q927i, q927e, q927l]; refine hK _ ?_; clear hK K)
        first | refine rops_nil ?_ | refine ropsD_nil ?_
        try simp only [exs, reduceIte, Nat.reduceEqDiff]
        refine hK873 _ ⟨n917, Nat.lt_succ_self _, (IntKind.i64.wrap (p895 + 1)), ?_, ?_, ?_, ?_, ?_, h⟩
        · simp only [upd_apply, reduceIte, Nat.reduceEqDiff, h2]
        · simp only [upd_apply, reduceIte, Nat.reduceEqDiff, h3]
        · (first | (simp only [upd_apply, reduceIte, Nat.reduceEqDiff, h5]; done) | (simp only [go_sem, reduceIte, Nat.reduceEqDiff, reduceCtorEq, Nat.reduceAdd, Nat.reduceMul, Nat.reduceLT, Nat.reduceLeDiff, Int.reduceToNat, Int.reduceLE, fs_all, take_length_map, h2, h3, h5, h67, b2, b3, q927i, q927e, q927l] <;> rfl) | rfl)
        · simp only [upd_apply, reduceIte, Nat.reduceEqDiff, b2]
        · simp only [upd_apply, reduceIte, Nat.reduceEqDiff, b3]
      first | refine rops_k ?_ | refine ropsD_k ?_
      repeat (refine ropsD_ng rfl fun K hK => ?_; simp only [go_sem, reduceIte, Nat.reduceEqDiff, reduceCtorEq, Nat.reduceAdd, Nat.reduceMul, Nat.reduceLT, Nat.reduceLeDiff, Int.reduceToNat, Int.reduceLE, h3, h5, b2, b3, q927i, q927e, q927l]; refine hK _ ?_; clear hK K)
      refine ropsD_ng rfl fun K hK => ?_
      simp only [List.head?_cons, List.head?_nil, Option.map_some, Option.map_none, rops1, ropsD1, gtmp, gate, beq_self_eq_true, beq_t, beq_f, Bool.not_true, Bool.not_false, if_true, rOp, rOpD, calleeOf, regAVsOf, regAV, List.getElem?_toArray, List.getElem?_cons_zero, List.getElem?_cons_succ, Option.bind_some, upd_apply, reduceIte, Nat.reduceEqDiff, St.ev, constReg, constCell, St.put_some, St.put_none, h2, h3, h5, b2, b3, q927i, q927e, q927l]
      refine ⟨_, _, rfl, _, rfl, _, (F33_does _ N x924.name  _ q928), _, rfl, ?_⟩
      simp only [flRV, outK, St.take, St.takeRVs, St.takeRV, retReg, St.put_some, St.put_none, List.map_cons, List.map_nil]
      refine hK _ ?_; clear hK K
      repeat (refine ropsD_ng rfl fun K hK => ?_; simp only [go_sem, reduceIte, Nat.reduceEqDiff, reduceCtorEq, Nat.reduceAdd, Nat.reduceMul, Nat.reduceLT, Nat.reduceLeDiff, Int.reduceToNat, Int.reduceLE, h3, h5, b2, b3, q927i, q927e, q927l]; refine hK _ ?_; clear hK K)
      rcases c934 : (x925) with _ | _
      · repeat (first | (refine ropsD_ng rfl fun K hK => ?_; simp only [go_sem, reduceIte, Nat.reduceEqDiff, reduceCtorEq, Nat.reduceAdd, Nat.reduceMul, Nat.reduceLT, Nat.reduceLeDiff, Int.reduceToNat, Int.reduceLE, h3, h5, b2, b3, q927i, q927e, q927l, c934]; refine hK _ ?_; clear hK K) | (refine ropsD_on rfl rfl ?_ fun K hK => ?_; (focus (simp only [go_sem, reduceIte, Nat.reduceEqDiff, reduceCtorEq, Nat.reduceAdd, Nat.reduceMul, Nat.reduceLT, Nat.reduceLeDiff, Int.reduceToNat, Int.reduceLE, h3, h5, b2, b3, q927i, q927e, q927l, c934]; done)); simp only [go_sem, reduceIte, Nat.reduceEqDiff, reduceCtorEq, Nat.reduceAdd, Nat.reduceMul, Nat.reduceLT, Nat.reduceLeDiff, Int.reduceToNat, Int.reduceLE, h3, h5, b2, b3, q927i, q927e, q927l, c934]; refine hK _ ?_; clear hK K) | (refine ropsD_off rfl rfl ?_ ?_; (focus (simp only [go_sem, reduceIte, Nat.reduceEqDiff, reduceCtorEq, Nat.reduceAdd, Nat.reduceMul, Nat.reduceLT, Nat.reduceLeDiff, Int.reduceToNat, Int.reduceLE, h3, h5, b2, b3, q927i, q927e, q927l, c934]; done))))
        first | refine rops_nil ?_ | refine ropsD_nil ?_
        try simp only [exs, reduceIte, Nat.reduceEqDiff]
        refine R931 _ ?_ ?_ ?_ ?_ ?_ ?_
        · simp only [upd_apply, reduceIte, Nat.reduceEqDiff, h2]
        · simp only [upd_apply, reduceIte, Nat.reduceEqDiff, h3]
        · simp only [upd_apply, reduceIte, Nat.reduceEqDiff, h5]
        · (first | (simp only [upd_apply, reduceIte, Nat.reduceEqDiff]; done) | (simp only [go_sem, reduceIte, Nat.reduceEqDiff, reduceCtorEq, Nat.reduceAdd, Nat.reduceMul, Nat.reduceLT, Nat.reduceLeDiff, Int.reduceToNat, Int.reduceLE, fs_all, take_length_map, h2, h3, h5, b2, b3, q927i, q927e, q927l, c934] <;> rfl) | rfl)
        · simp only [upd_apply, reduceIte, Nat.reduceEqDiff, b2]
        · simp only [upd_apply, reduceIte, Nat.reduceEqDiff, b3]
      repeat (first | (refine ropsD_ng rfl fun K hK => ?_; simp only [go_sem, reduceIte, Nat.reduceEqDiff, reduceCtorEq, Nat.reduceAdd, Nat.reduceMul, Nat.reduceLT, Nat.reduceLeDiff, Int.reduceToNat, Int.reduceLE, h3, h5, b2, b3, q927i, q927e, q927l, c934]; refine hK _ ?_; clear hK K) | (refine ropsD_on rfl rfl ?_ fun K hK => ?_; (focus (simp only [go_sem, reduceIte, Nat.reduceEqDiff, reduceCtorEq, Nat.reduceAdd, Nat.reduceMul, Nat.reduceLT, Nat.reduceLeDiff, Int.reduceToNat, Int.reduceLE, h3, h5, b2, b3, q927i, q927e, q927l, c934]; done)); simp only [go_sem, reduceIte, Nat.reduceEqDiff, reduceCtorEq, Nat.reduceAdd, Nat.reduceMul, Nat.reduceLT, Nat.reduceLeDiff, Int.reduceToNat, Int.reduceLE, h3, h5, b2, b3, q927i, q927e, q927l, c934]; refine hK _ ?_; clear hK K) | (refine ropsD_off rfl rfl ?_ ?_; (focus (simp only [go_sem, reduceIte, Nat.reduceEqDiff, reduceCtorEq, Nat.reduceAdd, Nat.reduceMul, Nat.reduceLT, Nat.reduceLeDiff, Int.reduceToNat, Int.reduceLE, h3, h5, b2, b3, q927i, q927e, q927l, c934]; done))))
      rcases c935 : (decide ((x924.value.length : Int) > 4096)) with _ | _
      · repeat (first | (refine ropsD_ng rfl fun K hK => ?_; simp only [go_sem, reduceIte, Nat.reduceEqDiff, reduceCtorEq, Nat.reduceAdd, Nat.reduceMul, Nat.reduceLT, Nat.reduceLeDiff, Int.reduceToNat, Int.reduceLE, h3, h5, b2, b3, q927i, q927e, q927l, c934, c935]; refine hK _ ?_; clear hK K) | (refine ropsD_on rfl rfl ?_ fun K hK => ?_; (focus (simp only [go_sem, reduceIte, Nat.reduceEqDiff, reduceCtorEq, Nat.reduceAdd, Nat.reduceMul, Nat.reduceLT, Nat.reduceLeDiff, Int.reduceToNat, Int.reduceLE, h3, h5, b2, b3, q927i, q927e, q927l, c934, c935]; done)); simp only [go_sem, reduceIte, Nat.reduceEqDiff, reduceCtorEq, Nat.reduceAdd, Nat.reduceMul, Nat.reduceLT, Nat.reduceLeDiff, Int.reduceToNat, Int.reduceLE, h3, h5, b2, b3, q927i, q927e, q927l, c934, c935]; refine hK _ ?_; clear hK K) | (refine ropsD_off rfl rfl ?_ ?_; (focus (simp only [go_sem, reduceIte, Nat.reduceEqDiff, reduceCtorEq, Nat.reduceAdd, Nat.reduceMul, Nat.reduceLT, Nat.reduceLeDiff, Int.reduceToNat, Int.reduceLE, h3, h5, b2, b3, q927i, q927e, q927l, c934, c935]; done))))
        rcases c936 : (decide (p895 > 0)) with _ | _
        · repeat (first | (refine ropsD_ng rfl fun K hK => ?_; simp only [go_sem, reduceIte, Nat.reduceEqDiff, reduceCtorEq, Nat.reduceAdd, Nat.reduceMul, Nat.reduceLT, Nat.reduceLeDiff, Int.reduceToNat, Int.reduceLE, h3, h5, b2, b3, q927i, q927e, q927l, c934, c935, c936]; refine hK _ ?_; clear hK K) | (refine ropsD_on rfl rfl ?_ fun K hK => ?_; (focus (simp only [go_sem, reduceIte, Nat.reduceEqDiff, reduceCtorEq, Nat.reduceAdd, Nat.reduceMul, Nat.reduceLT, Nat.reduceLeDiff, Int.reduceToNat, Int.reduceLE, h3, h5, b2, b3, q927i, q927e, q927l, c934, c935, c936]; done)); simp only [go_sem, reduceIte, Nat.reduceEqDiff, reduceCtorEq, Nat.reduceAdd, Nat.reduceMul, Nat.reduceLT, Nat.reduceLeDiff, Int.reduceToNat, Int.reduceLE, h3, h5, b2, b3, q927i, q927e, q927l, c934, c935, c936]; refine hK _ ?_; clear hK K) | (refine ropsD_off rfl rfl ?_ ?_; (focus (simp only [go_sem, reduceIte, Nat.reduceEqDiff, reduceCtorEq, Nat.reduceAdd, Nat.reduceMul, Nat.reduceLT, Nat.reduceLeDiff, Int.reduceToNat, Int.reduceLE, h3, h5, b2, b3, q927i, q927e, q927l, c934, c935, c936]; done))))
          first | refine rops_nil ?_ | refine ropsD_nil ?_
          try simp only [exs, reduceIte, Nat.reduceEqDiff]
          refine R931 _ ?_ ?_ ?_ ?_ ?_ ?_
          · simp only [upd_apply, reduceIte, Nat.reduceEqDiff, h2]
          · simp only [upd_apply, reduceIte, Nat.reduceEqDiff, h3]
          · simp only [upd_apply, reduceIte, Nat.reduceEqDiff, h5]
          · (first | (simp only [upd_apply, reduceIte, Nat.reduceEqDiff]; done) | (simp only [go_sem, reduceIte, Nat.reduceEqDiff, reduceCtorEq, Nat.reduceAdd, Nat.reduceMul, Nat.reduceLT, Nat.reduceLeDiff, Int.reduceToNat, Int.reduceLE, fs_all, take_length_map, h2, h3, h5, b2, b3, q927i, q927e, q927l, c934, c935, c936] <;> rfl) | rfl)
          · simp only [upd_apply, reduceIte, Nat.reduceEqDiff, b2]
          · simp only [upd_apply, reduceIte, Nat.reduceEqDiff, b3]
        have q937 := q929 (by simp only [c934, c935, c936, fs_bool, beq_t, beq_f, beq_self_eq_true])
        obtain ⟨q937i, q937e, q937l⟩ := getO_some q937
        repeat (first | (refine ropsD_ng rfl fun K hK => ?_; simp only [go_sem, reduceIte, Nat.reduceEqDiff, reduceCtorEq, Nat.reduceAdd, Nat.reduceMul, Nat.reduceLT, Nat.reduceLeDiff, Int.reduceToNat, Int.reduceLE, h3, h5, b2, b3, q927i, q927e, q927l, q937i, q937e, q937l, c934, c935, c936]; refine hK _ ?_; clear hK K) | (refine ropsD_on rfl rfl ?_ fun K hK => ?_; (focus (simp only [go_sem, reduceIte, Nat.reduceEqDiff, reduceCtorEq, Nat.reduceAdd, Nat.reduceMul, Nat.reduceLT, Nat.reduceLeDiff, Int.reduceToNat, Int.reduceLE, h3, h5, b2, b3, q927i, q927e, q927l, q937i, q937e, q937l, c934, c935, c936]; done)); simp only [go_sem, reduceIte, Nat.reduceEqDiff, reduceCtorEq, Nat.reduceAdd, Nat.reduceMul, Nat.reduceLT, Nat.reduceLeDiff, Int.reduceToNat, Int.reduceLE, h3, h5, b2, b3, q927i, q927e, q927l, q937i, q937e, q937l, c934, c935, c936]; refine hK _ ?_; clear hK K) | (refine ropsD_off rfl rfl ?_ ?_; (focus (simp only [go_sem, reduceIte, Nat.reduceEqDiff, reduceCtorEq, Nat.reduceAdd, Nat.reduceMul, Nat.reduceLT, Nat.reduceLeDiff, Int.reduceToNat, Int.reduceLE, h3, h5, b2, b3, q927i, q927e, q927l, q937i, q937e, q937l, c934, c935, c936]; done))))
        first | refine rops_nil ?_ | refine ropsD_nil ?_
        try simp only [exs, reduceIte, Nat.reduceEqDiff]
        refine R931 _ ?_ ?_ ?_ ?_ ?_ ?_
        · simp only [upd_apply, reduceIte, Nat.reduceEqDiff, h2]
        · simp only [upd_apply, reduceIte, Nat.reduceEqDiff, h3]
        · simp only [upd_apply, reduceIte, Nat.reduceEqDiff, h5]
        · (first | (simp only [upd_apply, reduceIte, Nat.reduceEqDiff]; done) | (simp only [go_sem, reduceIte, Nat.reduceEqDiff, reduceCtorEq, Nat.reduceAdd, Nat.reduceMul, Nat.reduceLT, Nat.reduceLeDiff, Int.reduceToNat, Int.reduceLE, fs_all, take_length_map, h2, h3, h5, b2, b3, q927i, q927e, q927l, q937i, q937e, q937l, c934, c935, c936] <;> rfl) | rfl)
        · simp only [upd_apply, reduceIte, Nat.reduceEqDiff, b2]
        · simp only [upd_apply, reduceIte, Nat.reduceEqDiff, b3]
      repeat (first | (refine ropsD_ng rfl fun K hK => ?_; simp only [go_sem, reduceIte, Nat.reduceEqDiff, reduceCtorEq, Nat.reduceAdd, Nat.reduceMul, Nat.reduceLT, Nat.reduceLeDiff, Int.reduceToNat, Int.reduceLE, h3, h5, b2, b3, q927i, q927e, q927l, c934, c935]; refine hK _ ?_; clear hK K) | (refine ropsD_on rfl rfl ?_ fun K hK => ?_; (focus (simp only [go_sem, reduceIte, Nat.reduceEqDiff, reduceCtorEq, Nat.reduceAdd, Nat.reduceMul, Nat.reduceLT, Nat.reduceLeDiff, Int.reduceToNat, Int.reduceLE, h3, h5, b2, b3, q927i, q927e, q927l, c934, c935]; done)); simp only [go_sem, reduceIte, Nat.reduceEqDiff, reduceCtorEq, Nat.reduceAdd, Nat.reduceMul, Nat.reduceLT, Nat.reduceLeDiff, Int.reduceToNat, Int.reduceLE, h3, h5, b2, b3, q927i, q927e, q927l, c934, c935]; refine hK _ ?_; clear hK K) | (refine ropsD_off rfl rfl ?_ ?_; (focus (simp only [go_sem, reduceIte, Nat.reduceEqDiff, reduceCtorEq, Nat.reduceAdd, Nat.reduceMul, Nat.reduceLT, Nat.reduceLeDiff, Int.reduceToNat, Int.reduceLE, h3, h5, b2, b3, q927i, q927e, q927l, c934, c935]; done))))
      first | refine rops_nil ?_ | refine ropsD_nil ?_
      try simp only [exs, reduceIte, Nat.reduceEqDiff]
      refine R931 _ ?_ ?_ ?_ ?_ ?_ ?_
      · simp only [upd_apply, reduceIte, Nat.reduceEqDiff, h2]
      · simp only [upd_apply, reduceIte, Nat.reduceEqDiff, h3]
      · simp only [upd_apply, reduceIte, Nat.reduceEqDiff, h5]
      · (first | (simp only [upd_apply, reduceIte, Nat.reduceEqDiff]; done) | (simp only [go_sem, reduceIte, Nat.reduceEqDiff, reduceCtorEq, Nat.reduceAdd, Nat.reduceMul, Nat.reduceLT, Nat.reduceLeDiff, Int.reduceToNat, Int.reduceLE, fs_all, take_length_map, h2, h3, h5, b2, b3, q927i, q927e, q927l, c934, c935] <;> rfl) | rfl)
      · simp only [upd_apply, reduceIte, Nat.reduceEqDiff, b2]
      · simp only [upd_apply, reduceIte, Nat.reduceEqDiff, b3]
    have c921 : (decide (p895 < (a1.props.length : Int))) = false := by first | exact hc | simpa using hc
    clear hc
    rw [c921] at h
    simp only [cond_true, cond_false] at h
    refine awp_exit ?_
    try simp only [exs, reduceIte, Nat.reduceEqDiff]
    refine J3  _ ?_ ?_ ?_ ?_ h
    · simp only [upd_apply, reduceIte, Nat.reduceEqDiff, h2]
    · simp only [upd_apply, reduceIte, Nat.reduceEqDiff, h3]
    · simp only [upd_apply, reduceIte, Nat.reduceEqDiff, b2]
    · simp only [upd_apply, reduceIte, Nat.reduceEqDiff, b3]
  first | refine rops_k ?_ | refine ropsD_k ?_
  repeat (refine rops_ng rfl fun K hK => ?_; simp only [go_sem, reduceIte, Nat.reduceEqDiff, reduceCtorEq, Nat.reduceAdd, Nat.reduceMul, Nat.reduceLT, Nat.reduceLeDiff, Int.reduceToNat, Int.reduceLE]; refine hK _ ?_; clear hK K)
  refine rops_ng rfl fun K hK => ?_
  simp only [List.head?_cons, List.head?_nil, Option.map_some, Option.map_none, rops1, ropsD1, gtmp, gate, beq_self_eq_true, beq_t, beq_f, Bool.not_true, Bool.not_false, if_true, rOp, rOpD, calleeOf, regAVsOf, regAV, List.getElem?_toArray, List.getElem?_cons_zero, List.getElem?_cons_succ, Option.bind_some, upd_apply, reduceIte, Nat.reduceEqDiff, St.ev, constReg, constCell, St.put_some, St.put_none, h0, h1]
  refine .inl ⟨_, _, rfl, _, rfl, _, (F33_does _ N a1.concept  _ q477), ?_⟩
  simp only [flRV, outK, St.take, St.takeRVs, St.takeRV, retReg, St.put_some, St.put_none, List.map_cons, List.map_nil]
  refine hK _ ?_; clear hK K
  repeat (refine rops_ng rfl fun K hK => ?_; simp only [go_sem, reduceIte, Nat.reduceEqDiff, reduceCtorEq, Nat.reduceAdd, Nat.reduceMul, Nat.reduceLT, Nat.reduceLeDiff, Int.reduceToNat, Int.reduceLE]; refine hK _ ?_; clear hK K)
  rcases c938 : (x476) with _ | _
  · repeat (first | (refine rops_ng rfl fun K hK => ?_; simp only [go_sem, reduceIte, Nat.reduceEqDiff, reduceCtorEq, Nat.reduceAdd, Nat.reduceMul, Nat.reduceLT, Nat.reduceLeDiff, Int.reduceToNat, Int.reduceLE, c938]; refine hK _ ?_; clear hK K) | (refine rops_on rfl rfl ?_ fun K hK => ?_; (focus (simp only [go_sem, reduceIte, Nat.reduceEqDiff, reduceCtorEq, Nat.reduceAdd, Nat.reduceMul, Nat.reduceLT, Nat.reduceLeDiff, Int.reduceToNat, Int.reduceLE, c938]; done)); simp only [go_sem, reduceIte, Nat.reduceEqDiff, reduceCtorEq, Nat.reduceAdd, Nat.reduceMul, Nat.reduceLT, Nat.reduceLeDiff, Int.reduceToNat, Int.reduceLE, c938]; refine hK _ ?_; clear hK K) | (refine rops_off rfl rfl ?_ ?_; (focus (simp only [go_sem, reduceIte, Nat.reduceEqDiff, reduceCtorEq, Nat.reduceAdd, Nat.reduceMul, Nat.reduceLT, Nat.reduceLeDiff, Int.reduceToNat, Int.reduceLE, c938]; done))))
    first | refine rops_nil ?_ | refine ropsD_nil ?_
    try simp only [exs, reduceIte, Nat.reduceEqDiff]
    refine R479 _ ?_ ?_ ?_ ?_ ?_
    · (first | (simp only [upd_apply, reduceIte, Nat.reduceEqDiff]; done) | (simp only [go_sem, reduceIte, Nat.reduceEqDiff, reduceCtorEq, Nat.reduceAdd, Nat.reduceMul, Nat.reduceLT, Nat.reduceLeDiff, Int.reduceToNat, Int.reduceLE, fs_all, take_length_map, h0, h1, c938] <;> rfl) | rfl)
    · (first | (simp only [upd_apply, reduceIte, Nat.reduceEqDiff]; done) | (simp only [go_sem, reduceIte, Nat.reduceEqDiff, reduceCtorEq, Nat.reduceAdd, Nat.reduceMul, Nat.reduceLT, Nat.reduceLeDiff, Int.reduceToNat, Int.reduceLE, fs_all, take_length_map, h0, h1, c938] <;> rfl) | rfl)
    · (first | (simp only [upd_apply, reduceIte, Nat.reduceEqDiff]; done) | (simp only [go_sem, reduceIte, Nat.reduceEqDiff, reduceCtorEq, Nat.reduceAdd, Nat.reduceMul, Nat.reduceLT, Nat.reduceLeDiff, Int.reduceToNat, Int.reduceLE, fs_all, take_length_map, h0, h1, c938] <;> rfl) | rfl)
    · (first | (simp only [upd_apply, reduceIte, Nat.reduceEqDiff]; done) | (simp only [go_sem, reduceIte, Nat.reduceEqDiff, reduceCtorEq, Nat.reduceAdd, Nat.reduceMul, Nat.reduceLT, Nat.reduceLeDiff, Int.reduceToNat, Int.reduceLE, fs_all, take_length_map, h0, h1, c938] <;> rfl) | rfl)
    · (first | (simp only [upd_apply, reduceIte, Nat.reduceEqDiff]; done) | (simp only [go_sem, reduceIte, Nat.reduceEqDiff, reduceCtorEq, Nat.reduceAdd, Nat.reduceMul, Nat.reduceLT, Nat.reduceLeDiff, Int.reduceToNat, Int.reduceLE, fs_all, take_length_map, h0, h1, c938] <;> rfl) | rfl)
  repeat (first | (refine rops_ng rfl fun K hK => ?_; simp only [go_sem, reduceIte, Nat.reduceEqDiff, reduceCtorEq, Nat.reduceAdd, Nat.reduceMul, Nat.reduceLT, Nat.reduceLeDiff, Int.reduceToNat, Int.reduceLE, c938]; refine hK _ ?_; clear hK K) | (refine rops_on rfl rfl ?_ fun K hK => ?_; (focus (simp only [go_sem, reduceIte, Nat.reduceEqDiff, reduceCtorEq, Nat.reduceAdd, Nat.reduceMul, Nat.reduceLT, Nat.reduceLeDiff, Int.reduceToNat, Int.reduceLE, c938]; done)); simp only [go_sem, reduceIte, Nat.reduceEqDiff, reduceCtorEq, Nat.reduceAdd, Nat.reduceMul, Nat.reduceLT, Nat.reduceLeDiff, Int.reduceToNat, Int.reduceLE, c938]; refine hK _ ?_; clear hK K) | (refine rops_off rfl rfl ?_ ?_; (focus (simp only [go_sem, reduceIte, Nat.reduceEqDiff, reduceCtorEq, Nat.reduceAdd, Nat.reduceMul, Nat.reduceLT, Nat.reduceLeDiff, Int.reduceToNat, Int.reduceLE, c938]; done))))
  first | refine rops_nil ?_ | refine ropsD_nil ?_
  try simp only [exs, reduceIte, Nat.reduceEqDiff]
  refine R479 _ ?_ ?_ ?_ ?_ ?_
  · (first | (simp only [upd_apply, reduceIte, Nat.reduceEqDiff]; done) | (simp only [go_sem, reduceIte, Nat.reduceEqDiff, reduceCtorEq, Nat.reduceAdd, Nat.reduceMul, Nat.reduceLT, Nat.reduceLeDiff, Int.reduceToNat, Int.reduceLE, fs_all, take_length_map, h0, h1, c938] <;> rfl) | rfl)
  · (first | (simp only [upd_apply, reduceIte, Nat.reduceEqDiff]; done) | (simp only [go_sem, reduceIte, Nat.reduceEqDiff, reduceCtorEq, Nat.reduceAdd, Nat.reduceMul, Nat.reduceLT, Nat.reduceLeDiff, Int.reduceToNat, Int.reduceLE, fs_all, take_length_map, h0, h1, c938] <;> rfl) | rfl)
  · (first | (simp only [upd_apply, reduceIte, Nat.reduceEqDiff]; done) | (simp only [go_sem, reduceIte, Nat.reduceEqDiff, reduceCtorEq, Nat.reduceAdd, Nat.reduceMul, Nat.reduceLT, Nat.reduceLeDiff, Int.reduceToNat, Int.reduceLE, fs_all, take_length_map, h0, h1, c938] <;> rfl) | rfl)
  · (first | (simp only [upd_apply, reduceIte, Nat.reduceEqDiff]; done) | (simp only [go_sem, reduceIte, Nat.reduceEqDiff, reduceCtorEq, Nat.reduceAdd, Nat.reduceMul, Nat.reduceLT, Nat.reduceLeDiff, Int.reduceToNat, Int.reduceLE, fs_all, take_length_map, h0, h1, c938] <;> rfl) | rfl)
  · (first | (simp only [upd_apply, reduceIte, Nat.reduceEqDiff]; done) | (simp only [go_sem, reduceIte, Nat.reduceEqDiff, reduceCtorEq, Nat.reduceAdd, Nat.reduceMul, Nat.reduceLT, Nat.reduceLeDiff, Int.reduceToNat, Int.reduceLE, fs_all, take_length_map, h0, h1, c938] <;> rfl) | rfl)

end Go.Proofs.Mm
