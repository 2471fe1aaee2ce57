import Derived.Test.YtoelfoplajpgnaaEvLift
import Derived.Test.YtoelfoplajpgnaaMmF
set_option linter.unusedVariables false
set_option linter.unusedSimpArgs false
set_option linter.unusedSectionVars false

namespace Go.Proofs.Mm
open Go Go.Ev

-- topiary/topiaryref02.Word
def F33_J1  : Option (Bool) :=
  some true

def F33_L1 (p204 : Str) : Nat → Int → Option (Bool)
  | 0, _ => none
  | n347 + 1, p321 =>
    bif decide (p321 < (p204.length : Int)) then
      (getO p204 p321).bind fun x354 =>
      bif (!(((decide ((x354.toNat : Int) ≥ 97)) && (decide ((x354.toNat : Int) ≤ 122))) || ((decide ((x354.toNat : Int) ≥ 65)) && (decide ((x354.toNat : Int) ≤ 90))))) && ((p321 == 0) || ((!((x354.toNat : Int) == 95)) && ((decide ((x354.toNat : Int) < 48)) || (decide ((x354.toNat : Int) > 57))))) then
        some false
      else
        (F33_L1 p204 n347) (IntKind.i64.wrap (p321 + 1))
    else
      F33_J1 

def F33_J2 (N : Nat) (p204 : Str) : Option (Bool) :=
  bif (decide ((p204.length : Int) < 1)) || (decide ((p204.length : Int) > 32)) then
    some false
  else
    F33_L1 p204 N 0

def F33 (N : Nat) (a0 : Str) : Option (Bool) :=
  bindG ((decide ((a0.length : Int) > 0))) (getO a0 0) fun x374 =>
  bif (decide ((a0.length : Int) > 0)) && ((x374.toNat : Int) == 63) then
    (chk (decide (1 ≤ a0.length))).bind fun _ =>
    F33_J2 N ((a0.drop 1).take (a0.length - 1))
  else
    F33_J2 N a0

set_option maxHeartbeats 4000000 in
theorem F33_does (E : Env) (N : Nat) (a0 : Str) (r : Bool) (h : F33 N a0 = some r) : Does Try.prog E 33 [.fl (bs a0)] (.ret [.v (.fl (.bool r))]) := by
  refine does_run Try.func33 Try.ntmps33 rfl rfl (by simp) fun w0 I0 s hr hb => ?_
  have h0 := hr 0
  simp only [List.map_cons, List.map_nil, List.getElem?_cons_zero, List.getElem?_cons_succ, Option.getD_some] at h0
  unfold F33 at h
  refine awp_seq fun K193 hK193 => ?_
  refine awp_region rfl (by kernel_rfl) ?_
  first | refine rops_k ?_ | refine ropsD_k ?_
  repeat (refine rops_ng rfl fun K hK => ?_; simp only [go_sem, reduceIte, Nat.reduceEqDiff, reduceCtorEq, Nat.reduceAdd, Nat.reduceMul, Nat.reduceLT, Nat.reduceLeDiff, Int.reduceToNat, Int.reduceLE]; refine hK _ ?_; clear hK K)
  first | refine rops_nil ?_ | refine ropsD_nil ?_
  try simp only [exs, reduceIte, Nat.reduceEqDiff]
  refine hK193 _ ?_
  refine awp_seq fun K194 hK194 => ?_
  have J2 : ∀ (p204 : Str) (s205 : St), (s205.r 0 = .val (.fl (bs p204))) → F33_J2 N p204 = some r → K194 s205 := by
    intro p204 s205 h0 h
    unfold F33_J2 at h
    refine hK194 _ ?_
    refine awp_seq fun K206 hK206 => ?_
    refine awp_seq fun K207 hK207 => ?_
    refine awp_region rfl (by kernel_rfl) ?_
    have R209 : ∀ s208 : St, (s208.r 0 = .val (.fl (bs p204))) → (s208.r 23 = .val (.fl (.bool ((decide ((p204.length : Int) < 1)) || (decide ((p204.length : Int) > 32)))))) → K207 s208 := by
      intro s208 h0 h23
      refine hK207 _ ?_
      refine awp_if (by kernel_rfl) (by (simp only [upd_apply, reduceIte, Nat.reduceEqDiff, St.ev, constReg, constCell, St.put_some, St.put_none, h0, h23] <;> rfl)) (fun hc => ?_) (fun hc => ?_)
      · have c210 : ((decide ((p204.length : Int) < 1)) || (decide ((p204.length : Int) > 32))) = true := by first | exact hc | simpa using hc
        clear hc
        rw [c210] at h
        simp only [cond_true, cond_false] at h
        refine awp_seq fun K211 hK211 => ?_
        refine awp_region rfl (by kernel_rfl) ?_
        first | refine rops_k ?_ | refine ropsD_k ?_
        repeat (refine rops_ng rfl fun K hK => ?_; simp only [go_sem, reduceIte, Nat.reduceEqDiff, reduceCtorEq, Nat.reduceAdd, Nat.reduceMul, Nat.reduceLT, Nat.reduceLeDiff, Int.reduceToNat, Int.reduceLE]; refine hK _ ?_; clear hK K)
        first | refine rops_nil ?_ | refine ropsD_nil ?_
        try simp only [exs, reduceIte, Nat.reduceEqDiff]
        refine hK211 _ ?_
        have h := Option.some.inj h
        subst h
        refine awp_ret ?_
        try simp only [exs, reduceIte, Nat.reduceEqDiff]
        refine fin_ret (vs := [.tmp 2]) Try.ntmps33 rfl (by simp [List.filter_cons, isOwn]) none ?_
        (simp only [resultsAre, resCell, loadRegs, regRV, go_sem, reduceIte, Nat.reduceEqDiff, reduceCtorEq, Nat.reduceAdd, Nat.reduceMul, Nat.reduceLT, Nat.reduceLeDiff, Int.reduceToNat, Int.reduceLE, fs_all, take_length_map, h0, h23] <;> rfl)
      have c210 : ((decide ((p204.length : Int) < 1)) || (decide ((p204.length : Int) > 32))) = false := by first | exact hc | simpa using hc
      clear hc
      rw [c210] at h
      simp only [cond_true, cond_false] at h
      refine awp_skip ?_
      try simp only [exs, reduceIte, Nat.reduceEqDiff]
      refine hK206 _ ?_
      refine awp_seq fun K212 hK212 => ?_
      have J1 : ∀  (s292 : St), True → F33_J1  = some r → K212 s292 := by
        intro  s292 _ h
        unfold F33_J1 at h
        refine hK212 _ ?_
        refine awp_seq fun K293 hK293 => ?_
        refine awp_region rfl (by kernel_rfl) ?_
        first | refine rops_k ?_ | refine ropsD_k ?_
        repeat (refine rops_ng rfl fun K hK => ?_; simp only [go_sem, reduceIte, Nat.reduceEqDiff, reduceCtorEq, Nat.reduceAdd, Nat.reduceMul, Nat.reduceLT, Nat.reduceLeDiff, Int.reduceToNat, Int.reduceLE]; refine hK _ ?_; clear hK K)
        first | refine rops_nil ?_ | refine ropsD_nil ?_
        try simp only [exs, reduceIte, Nat.reduceEqDiff]
        refine hK293 _ ?_
        have h := Option.some.inj h
        subst h
        refine awp_ret ?_
        try simp only [exs, reduceIte, Nat.reduceEqDiff]
        refine fin_ret (vs := [.tmp 2]) Try.ntmps33 rfl (by simp [List.filter_cons, isOwn]) none ?_
        (simp only [resultsAre, resCell, loadRegs, regRV, go_sem, reduceIte, Nat.reduceEqDiff, reduceCtorEq, Nat.reduceAdd, Nat.reduceMul, Nat.reduceLT, Nat.reduceLeDiff, Int.reduceToNat, Int.reduceLE, fs_all, take_length_map] <;> rfl)
      refine awp_seq fun K294 hK294 => ?_
      refine awp_region rfl (by kernel_rfl) ?_
      first | refine rops_k ?_ | refine ropsD_k ?_
      repeat (refine rops_ng rfl fun K hK => ?_; simp only [go_sem, reduceIte, Nat.reduceEqDiff, reduceCtorEq, Nat.reduceAdd, Nat.reduceMul, Nat.reduceLT, Nat.reduceLeDiff, Int.reduceToNat, Int.reduceLE]; refine hK _ ?_; clear hK K)
      first | refine rops_nil ?_ | refine ropsD_nil ?_
      try simp only [exs, reduceIte, Nat.reduceEqDiff]
      refine hK294 _ ?_
      refine awp_block ?_
      refine awp_loopK (fun m s346 => ∃ (p321 : Int), s346.r 0 = .val (.fl (bs p204)) ∧ s346.r 3 = .val (.fl (.int .i64 p321)) ∧  F33_L1 p204 m p321 = some r) N ?_ ?_
      · refine ⟨0, ?_, ?_, h⟩
        · simp only [upd_apply, reduceIte, Nat.reduceEqDiff, h0]
        · (first | (simp only [upd_apply, reduceIte, Nat.reduceEqDiff]; done) | (simp only [go_sem, reduceIte, Nat.reduceEqDiff, reduceCtorEq, Nat.reduceAdd, Nat.reduceMul, Nat.reduceLT, Nat.reduceLeDiff, Int.reduceToNat, Int.reduceLE, fs_all, take_length_map, h0, h23] <;> rfl) | rfl)
      clear h
      intro m348 s346 hI K295 hK295
      obtain ⟨p321, h0, h3, h⟩ := hI
      rcases m348 with _ | n347
      · simp only [F33_L1, reduceCtorEq] at h
      rw [F33_L1] at h
      refine awp_seq fun K349 hK349 => ?_
      refine awp_seq fun K350 hK350 => ?_
      refine awp_region rfl (by kernel_rfl) ?_
      first | refine rops_k ?_ | refine ropsD_k ?_
      repeat (refine rops_ng rfl fun K hK => ?_; simp only [go_sem, reduceIte, Nat.reduceEqDiff, reduceCtorEq, Nat.reduceAdd, Nat.reduceMul, Nat.reduceLT, Nat.reduceLeDiff, Int.reduceToNat, Int.reduceLE, h0, h3]; refine hK _ ?_; clear hK K)
      first | refine rops_nil ?_ | refine ropsD_nil ?_
      try simp only [exs, reduceIte, Nat.reduceEqDiff]
      refine hK350 _ ?_
      refine awp_if (by kernel_rfl) (by (simp only [upd_apply, reduceIte, Nat.reduceEqDiff, St.ev, constReg, constCell, St.put_some, St.put_none, h0, h3] <;> rfl)) (fun hc => ?_) (fun hc => ?_)
      · have c351 : (decide (p321 < (p204.length : Int))) = true := by first | exact hc | simpa using hc
        clear hc
        rw [c351] at h
        simp only [cond_true, cond_false] at h
        refine awp_skip ?_
        try simp only [exs, reduceIte, Nat.reduceEqDiff]
        refine hK349 _ ?_
        refine awp_seq fun K352 hK352 => ?_
        refine awp_block ?_
        refine awp_seq fun K353 hK353 => ?_
        obtain ⟨x354, q355, h⟩ := bind_some h
        obtain ⟨q355i, q355e, q355l⟩ := getO_some q355
        refine awp_region rfl (by kernel_rfl) ?_
        first | refine rops_k ?_ | refine ropsD_k ?_
        repeat (refine rops_ng rfl fun K hK => ?_; simp only [go_sem, reduceIte, Nat.reduceEqDiff, reduceCtorEq, Nat.reduceAdd, Nat.reduceMul, Nat.reduceLT, Nat.reduceLeDiff, Int.reduceToNat, Int.reduceLE, h0, h3, q355i, q355e, q355l]; refine hK _ ?_; clear hK K)
        first | refine rops_nil ?_ | refine ropsD_nil ?_
        try simp only [exs, reduceIte, Nat.reduceEqDiff]
        refine hK353 _ ?_
        refine awp_seq fun K356 hK356 => ?_
        refine awp_region rfl (by kernel_rfl) ?_
        have R358 : ∀ s357 : St, (s357.r 0 = .val (.fl (bs p204))) → (s357.r 3 = .val (.fl (.int .i64 p321))) → (s357.r 4 = .val (.fl (.int .u8 (x354.toNat : Int)))) → (s357.r 5 = .val (.fl (.bool (((decide ((x354.toNat : Int) ≥ 97)) && (decide ((x354.toNat : Int) ≤ 122))) || ((decide ((x354.toNat : Int) ≥ 65)) && (decide ((x354.toNat : Int) ≤ 90))))))) → K356 s357 := by
          intro s357 h0 h3 h4 h5
          refine hK356 _ ?_
          refine awp_seq fun K359 hK359 => ?_
          refine awp_region rfl (by kernel_rfl) ?_
          have R361 : ∀ s360 : St, (s360.r 0 = .val (.fl (bs p204))) → (s360.r 3 = .val (.fl (.int .i64 p321))) → (s360.r 64 = .val (.fl (.bool ((!(((decide ((x354.toNat : Int) ≥ 97)) && (decide ((x354.toNat : Int) ≤ 122))) || ((decide ((x354.toNat : Int) ≥ 65)) && (decide ((x354.toNat : Int) ≤ 90))))) && ((p321 == 0) || ((!((x354.toNat : Int) == 95)) && ((decide ((x354.toNat : Int) < 48)) || (decide ((x354.toNat : Int) > 57))))))))) → K359 s360 := by
            intro s360 h0 h3 h64
            refine hK359 _ ?_
            refine awp_if (by kernel_rfl) (by (simp only [upd_apply, reduceIte, Nat.reduceEqDiff, St.ev, constReg, constCell, St.put_some, St.put_none, h0, h3, h64, q355i, q355e, q355l] <;> rfl)) (fun hc => ?_) (fun hc => ?_)
            · have c362 : ((!(((decide ((x354.toNat : Int) ≥ 97)) && (decide ((x354.toNat : Int) ≤ 122))) || ((decide ((x354.toNat : Int) ≥ 65)) && (decide ((x354.toNat : Int) ≤ 90))))) && ((p321 == 0) || ((!((x354.toNat : Int) == 95)) && ((decide ((x354.toNat : Int) < 48)) || (decide ((x354.toNat : Int) > 57)))))) = true := by first | exact hc | simpa using hc
              clear hc
              rw [c362] at h
              simp only [cond_true, cond_false] at h
              refine awp_seq fun K363 hK363 => ?_
              refine awp_region rfl (by kernel_rfl) ?_
              first | refine rops_k ?_ | refine ropsD_k ?_
              repeat (refine rops_ng rfl fun K hK => ?_; simp only [go_sem, reduceIte, Nat.reduceEqDiff, reduceCtorEq, Nat.reduceAdd, Nat.reduceMul, Nat.reduceLT, Nat.reduceLeDiff, Int.reduceToNat, Int.reduceLE]; refine hK _ ?_; clear hK K)
              first | refine rops_nil ?_ | refine ropsD_nil ?_
              try simp only [exs, reduceIte, Nat.reduceEqDiff]
              refine hK363 _ ?_
              have h := Option.some.inj h
              subst h
              refine awp_ret ?_
              try simp only [exs, reduceIte, Nat.reduceEqDiff]
              refine fin_ret (vs := [.tmp 2]) Try.ntmps33 rfl (by simp [List.filter_cons, isOwn]) none ?_
              (simp only [resultsAre, resCell, loadRegs, regRV, go_sem, reduceIte, Nat.reduceEqDiff, reduceCtorEq, Nat.reduceAdd, Nat.reduceMul, Nat.reduceLT, Nat.reduceLeDiff, Int.reduceToNat, Int.reduceLE, fs_all, take_length_map, h0, h3, h64, q355i, q355e, q355l] <;> rfl)
            have c362 : ((!(((decide ((x354.toNat : Int) ≥ 97)) && (decide ((x354.toNat : Int) ≤ 122))) || ((decide ((x354.toNat : Int) ≥ 65)) && (decide ((x354.toNat : Int) ≤ 90))))) && ((p321 == 0) || ((!((x354.toNat : Int) == 95)) && ((decide ((x354.toNat : Int) < 48)) || (decide ((x354.toNat : Int) > 57)))))) = false := by first | exact hc | simpa using hc
            clear hc
            rw [c362] at h
            simp only [cond_true, cond_false] at h
            refine awp_skip ?_
            try simp only [exs, reduceIte, Nat.reduceEqDiff]
            refine hK352 _ ?_
            refine awp_region rfl (by kernel_rfl) ?_
            first | refine rops_k ?_ | refine ropsD_k ?_
            repeat (refine rops_ng rfl fun K hK => ?_; simp only [go_sem, reduceIte, Nat.reduceEqDiff, reduceCtorEq, Nat.reduceAdd, Nat.reduceMul, Nat.reduceLT, Nat.reduceLeDiff, Int.reduceToNat, Int.reduceLE, h3, q355i, q355e, q355l]; refine hK _ ?_; clear hK K)
            first | refine rops_nil ?_ | refine ropsD_nil ?_
            try simp only [exs, reduceIte, Nat.reduceEqDiff]
            refine hK295 _ ⟨n347, Nat.lt_succ_self _, (IntKind.i64.wrap (p321 + 1)), ?_, ?_, h⟩
            · simp only [upd_apply, reduceIte, Nat.reduceEqDiff, h0]
            · (first | (simp only [upd_apply, reduceIte, Nat.reduceEqDiff, h3]; done) | (simp only [go_sem, reduceIte, Nat.reduceEqDiff, reduceCtorEq, Nat.reduceAdd, Nat.reduceMul, Nat.reduceLT, Nat.reduceLeDiff, Int.reduceToNat, Int.reduceLE, fs_all, take_length_map, h0, h3, h64, q355i, q355e, q355l] <;> rfl) | rfl)
          first | refine rops_k ?_ | refine ropsD_k ?_
          repeat (refine rops_ng rfl fun K hK => ?_; simp only [go_sem, reduceIte, Nat.reduceEqDiff, reduceCtorEq, Nat.reduceAdd, Nat.reduceMul, Nat.reduceLT, Nat.reduceLeDiff, Int.reduceToNat, Int.reduceLE, h3, h4, h5, q355i, q355e, q355l]; refine hK _ ?_; clear hK K)
          rcases c364 : (((decide ((x354.toNat : Int) ≥ 97)) && (decide ((x354.toNat : Int) ≤ 122))) || ((decide ((x354.toNat : Int) ≥ 65)) && (decide ((x354.toNat : Int) ≤ 90)))) with _ | _
          · repeat (first | (refine rops_ng rfl fun K hK => ?_; simp only [go_sem, reduceIte, Nat.reduceEqDiff, reduceCtorEq, Nat.reduceAdd, Nat.reduceMul, Nat.reduceLT, Nat.reduceLeDiff, Int.reduceToNat, Int.reduceLE, h3, h4, h5, q355i, q355e, q355l, c364]; refine hK _ ?_; clear hK K) | (refine rops_on rfl rfl ?_ fun K hK => ?_; (focus (simp only [go_sem, reduceIte, Nat.reduceEqDiff, reduceCtorEq, Nat.reduceAdd, Nat.reduceMul, Nat.reduceLT, Nat.reduceLeDiff, Int.reduceToNat, Int.reduceLE, h3, h4, h5, q355i, q355e, q355l, c364]; done)); simp only [go_sem, reduceIte, Nat.reduceEqDiff, reduceCtorEq, Nat.reduceAdd, Nat.reduceMul, Nat.reduceLT, Nat.reduceLeDiff, Int.reduceToNat, Int.reduceLE, h3, h4, h5, q355i, q355e, q355l, c364]; refine hK _ ?_; clear hK K) | (refine rops_off rfl rfl ?_ ?_; (focus (simp only [go_sem, reduceIte, Nat.reduceEqDiff, reduceCtorEq, Nat.reduceAdd, Nat.reduceMul, Nat.reduceLT, Nat.reduceLeDiff, Int.reduceToNat, Int.reduceLE, h3, h4, h5, q355i, q355e, q355l, c364]; done))))
            rcases c365 : (p321 == 0) with _ | _
            · repeat (first | (refine rops_ng rfl fun K hK => ?_; simp only [go_sem, reduceIte, Nat.reduceEqDiff, reduceCtorEq, Nat.reduceAdd, Nat.reduceMul, Nat.reduceLT, Nat.reduceLeDiff, Int.reduceToNat, Int.reduceLE, h3, h4, h5, q355i, q355e, q355l, c364, c365]; refine hK _ ?_; clear hK K) | (refine rops_on rfl rfl ?_ fun K hK => ?_; (focus (simp only [go_sem, reduceIte, Nat.reduceEqDiff, reduceCtorEq, Nat.reduceAdd, Nat.reduceMul, Nat.reduceLT, Nat.reduceLeDiff, Int.reduceToNat, Int.reduceLE, h3, h4, h5, q355i, q355e, q355l, c364, c365]; done)); simp only [go_sem, reduceIte, Nat.reduceEqDiff, reduceCtorEq, Nat.reduceAdd, Nat.reduceMul, Nat.reduceLT, Nat.reduceLeDiff, Int.reduceToNat, Int.reduceLE, h3, h4, h5, q355i, q355e, q355l, c364, c365]; refine hK _ ?_; clear hK K) | (refine rops_off rfl rfl ?_ ?_; (focus (simp only [go_sem, reduceIte, Nat.reduceEqDiff, reduceCtorEq, Nat.reduceAdd, Nat.reduceMul, Nat.reduceLT, Nat.reduceLeDiff, Int.reduceToNat, Int.reduceLE, h3, h4, h5, q355i, q355e, q355l, c364, c365]; done))))
              rcases c366 : ((x354.toNat : Int) == 95) with _ | _
              · repeat (first | (refine rops_ng rfl fun K hK => ?_; simp only [go_sem, reduceIte, Nat.reduceEqDiff, reduceCtorEq, Nat.reduceAdd, Nat.reduceMul, Nat.reduceLT, Nat.reduceLeDiff, Int.reduceToNat, Int.reduceLE, h3, h4, h5, q355i, q355e, q355l, c364, c365, c366]; refine hK _ ?_; clear hK K) | (refine rops_on rfl rfl ?_ fun K hK => ?_; (focus (simp only [go_sem, reduceIte, Nat.reduceEqDiff, reduceCtorEq, Nat.reduceAdd, Nat.reduceMul, Nat.reduceLT, Nat.reduceLeDiff, Int.reduceToNat, Int.reduceLE, h3, h4, h5, q355i, q355e, q355l, c364, c365, c366]; done)); simp only [go_sem, reduceIte, Nat.reduceEqDiff, reduceCtorEq, Nat.reduceAdd, Nat.reduceMul, Nat.reduceLT, Nat.reduceLeDiff, Int.reduceToNat, Int.reduceLE, h3, h4, h5, q355i, q355e, q355l, c364, c365, c366]; refine hK _ ?_; clear hK K) | (refine rops_off rfl rfl ?_ ?_; (focus (simp only [go_sem, reduceIte, Nat.reduceEqDiff, reduceCtorEq, Nat.reduceAdd, Nat.reduceMul, Nat.reduceLT, Nat.reduceLeDiff, Int.reduceToNat, Int.reduceLE, h3, h4, h5, q355i, q355e, q355l, c364, c365, c366]; done))))
                rcases c367 : (decide ((x354.toNat : Int) < 48)) with _ | _
                · repeat (first | (refine rops_ng rfl fun K hK => ?_; simp only [go_sem, reduceIte, Nat.reduceEqDiff, reduceCtorEq, Nat.reduceAdd, Nat.reduceMul, Nat.reduceLT, Nat.reduceLeDiff, Int.reduceToNat, Int.reduceLE, h3, h4, h5, q355i, q355e, q355l, c364, c365, c366, c367]; refine hK _ ?_; clear hK K) | (refine rops_on rfl rfl ?_ fun K hK => ?_; (focus (simp only [go_sem, reduceIte, Nat.reduceEqDiff, reduceCtorEq, Nat.reduceAdd, Nat.reduceMul, Nat.reduceLT, Nat.reduceLeDiff, Int.reduceToNat, Int.reduceLE, h3, h4, h5, q355i, q355e, q355l, c364, c365, c366, c367]; done)); simp only [go_sem, reduceIte, Nat.reduceEqDiff, reduceCtorEq, Nat.reduceAdd, Nat.reduceMul, Nat.reduceLT, Nat.reduceLeDiff, Int.reduceToNat, Int.reduceLE, h3, h4, h5, q355i, q355e, q355l, c364, c365, c366, c367]; refine hK _ ?_; clear hK K) | (refine rops_off rfl rfl ?_ ?_; (focus (simp only [go_sem, reduceIte, Nat.reduceEqDiff, reduceCtorEq, Nat.reduceAdd, Nat.reduceMul, Nat.reduceLT, Nat.reduceLeDiff, Int.reduceToNat, Int.reduceLE, h3, h4, h5, q355i, q355e, q355l, c364, c365, c366, c367]; done))))
                  first | refine rops_nil ?_ | refine ropsD_nil ?_
                  try simp only [exs, reduceIte, Nat.reduceEqDiff]
                  refine R361 _ ?_ ?_ ?_
                  · simp only [upd_apply, reduceIte, Nat.reduceEqDiff, h0]
                  · simp only [upd_apply, reduceIte, Nat.reduceEqDiff, h3]
                  · (first | (simp only [upd_apply, reduceIte, Nat.reduceEqDiff]; done) | (simp only [go_sem, reduceIte, Nat.reduceEqDiff, reduceCtorEq, Nat.reduceAdd, Nat.reduceMul, Nat.reduceLT, Nat.reduceLeDiff, Int.reduceToNat, Int.reduceLE, fs_all, take_length_map, h0, h3, h4, h5, q355i, q355e, q355l, c364, c365, c366, c367] <;> rfl) | rfl)
                repeat (first | (refine rops_ng rfl fun K hK => ?_; simp only [go_sem, reduceIte, Nat.reduceEqDiff, reduceCtorEq, Nat.reduceAdd, Nat.reduceMul, Nat.reduceLT, Nat.reduceLeDiff, Int.reduceToNat, Int.reduceLE, h3, h4, h5, q355i, q355e, q355l, c364, c365, c366, c367]; refine hK _ ?_; clear hK K) | (refine rops_on rfl rfl ?_ fun K hK => ?_; (focus (simp only [go_sem, reduceIte, Nat.reduceEqDiff, reduceCtorEq, Nat.reduceAdd, Nat.reduceMul, Nat.reduceLT, Nat.reduceLeDiff, Int.reduceToNat, Int.reduceLE, h3, h4, h5, q355i, q355e, q355l, c364, c365, c366, c367]; done)); simp only [go_sem, reduceIte, Nat.reduceEqDiff, reduceCtorEq, Nat.reduceAdd, Nat.reduceMul, Nat.reduceLT, Nat.reduceLeDiff, Int.reduceToNat, Int.reduceLE, h3, h4, h5, q355i, q355e, q355l, c364, c365, c366, c367]; refine hK _ ?_; clear hK K) | (refine rops_off rfl rfl ?_ ?_; (focus (simp only [go_sem, reduceIte, Nat.reduceEqDiff, reduceCtorEq, Nat.reduceAdd, Nat.reduceMul, Nat.reduceLT, Nat.reduceLeDiff, Int.reduceToNat, Int.reduceLE, h3, h4, h5, q355i, q355e, q355l, c364, c365, c366, c367]; done))))
                first | refine rops_nil ?_ | refine ropsD_nil ?_
                try simp only [exs, reduceIte, Nat.reduceEqDiff]
                refine R361 _ ?_ ?_ ?_
                · simp only [upd_apply, reduceIte, Nat.reduceEqDiff, h0]
                · simp only [upd_apply, reduceIte, Nat.reduceEqDiff, h3]
                · (first | (simp only [upd_apply, reduceIte, Nat.reduceEqDiff]; done) | (simp only [go_sem, reduceIte, Nat.reduceEqDiff, reduceCtorEq, Nat.reduceAdd, Nat.reduceMul, Nat.reduceLT, Nat.reduceLeDiff, Int.reduceToNat, Int.reduceLE, fs_all, take_length_map, h0, h3, h4, h5, q355i, q355e, q355l, c364, c365, c366, c367] <;> rfl) | rfl)
              repeat (first | (refine rops_ng rfl fun K hK => ?_; simp only [go_sem, reduceIte, Nat.reduceEqDiff, reduceCtorEq, Nat.reduceAdd, Nat.reduceMul, Nat.reduceLT, Nat.reduceLeDiff, Int.reduceToNat, Int.reduceLE, h3, h4, h5, q355i, q355e, q355l, c364, c365, c366]; refine hK _ ?_; clear hK K) | (refine rops_on rfl rfl ?_ fun K hK => ?_; (focus (simp only [go_sem, reduceIte, Nat.reduceEqDiff, reduceCtorEq, Nat.reduceAdd, Nat.reduceMul, Nat.reduceLT, Nat.reduceLeDiff, Int.reduceToNat, Int.reduceLE, h3, h4, h5, q355i, q355e, q355l, c364, c365, c366]; done)); simp only [go_sem, reduceIte, Nat.reduceEqDiff, reduceCtorEq, Nat.reduceAdd, Nat.reduceMul, Nat.reduceLT, Nat.reduceLeDiff, Int.reduceToNat, Int.reduceLE, h3, h4, h5, q355i, q355e, q355l, c364, c365, c366]; refine hK _ ?_; clear hK K) | (refine rops_off rfl rfl ?_ ?_; (focus (simp only [go_sem, reduceIte, Nat.reduceEqDiff, reduceCtorEq, Nat.reduceAdd, Nat.reduceMul, Nat.reduceLT, Nat.reduceLeDiff, Int.reduceToNat, Int.reduceLE, h3, h4, h5, q355i, q355e, q355l, c364, c365, c366]; done))))
              first | refine rops_nil ?_ | refine ropsD_nil ?_
              try simp only [exs, reduceIte, Nat.reduceEqDiff]
              refine R361 _ ?_ ?_ ?_
              · simp only [upd_apply, reduceIte, Nat.reduceEqDiff, h0]
              · simp only [upd_apply, reduceIte, Nat.reduceEqDiff, h3]
              · (first | (simp only [upd_apply, reduceIte, Nat.reduceEqDiff]; done) | (simp only [go_sem, reduceIte, Nat.reduceEqDiff, reduceCtorEq, Nat.reduceAdd, Nat.reduceMul, Nat.reduceLT, Nat.reduceLeDiff, Int.reduceToNat, Int.reduceLE, fs_all, take_length_map, h0, h3, h4, h5, q355i, q355e, q355l, c364, c365, c366] <;> rfl) | rfl)
            repeat (first | (refine rops_ng rfl fun K hK => ?_; simp only [go_sem, reduceIte, Nat.reduceEqDiff, reduceCtorEq, Nat.reduceAdd, Nat.reduceMul, Nat.reduceLT, Nat.reduceLeDiff, Int.reduceToNat, Int.reduceLE, h3, h4, h5, q355i, q355e, q355l, c364, c365]; refine hK _ ?_; clear hK K) | (refine rops_on rfl rfl ?_ fun K hK => ?_; (focus (simp only [go_sem, reduceIte, Nat.reduceEqDiff, reduceCtorEq, Nat.reduceAdd, Nat.reduceMul, Nat.reduceLT, Nat.reduceLeDiff, Int.reduceToNat, Int.reduceLE, h3, h4, h5, q355i, q355e, q355l, c364, c365]; done)); simp only [go_sem, reduceIte, Nat.reduceEqDiff, reduceCtorEq, Nat.reduceAdd, Nat.reduceMul, Nat.reduceLT, Nat.reduceLeDiff, Int.reduceToNat, Int.reduceLE, h3, h4, h5, q355i, q355e, q355l, c364, c365]; refine hK _ ?_; clear hK K) | (refine rops_off rfl rfl ?_ ?_; (focus (simp only [go_sem, reduceIte, Nat.reduceEqDiff, reduceCtorEq, Nat.reduceAdd, Nat.reduceMul, Nat.reduceLT, Nat.reduceLeDiff, Int.reduceToNat, Int.reduceLE, h3, h4, h5, q355i, q355e, q355l, c364, c365]; done))))
            first | refine rops_nil ?_ | refine ropsD_nil ?_
            try simp only [exs, reduceIte, Nat.reduceEqDiff]
            refine R361 _ ?_ ?_ ?_
            · simp only [upd_apply, reduceIte, Nat.reduceEqDiff, h0]
            · simp only [upd_apply, reduceIte, Nat.reduceEqDiff, h3]
            · (first | (simp only [upd_apply, reduceIte, Nat.reduceEqDiff]; done) | (simp only [go_sem, reduceIte, Nat.reduceEqDiff, reduceCtorEq, Nat.reduceAdd, Nat.reduceMul, Nat.reduceLT, Nat.reduceLeDiff, Int.reduceToNat, Int.reduceLE, fs_all, take_length_map, h0, h3, h4, h5, q355i, q355e, q355l, c364, c365] <;> rfl) | rfl)
          repeat (first | (refine rops_ng rfl fun K hK => ?_; simp only [go_sem, reduceIte, Nat.reduceEqDiff, reduceCtorEq, Nat.reduceAdd, Nat.reduceMul, Nat.reduceLT, Nat.reduceLeDiff, Int.reduceToNat, Int.reduceLE, h3, h4, h5, q355i, q355e, q355l, c364]; refine hK _ ?_; clear hK K) | (refine rops_on rfl rfl ?_ fun K hK => ?_; (focus (simp only [go_sem, reduceIte, Nat.reduceEqDiff, reduceCtorEq, Nat.reduceAdd, Nat.reduceMul, Nat.reduceLT, Nat.reduceLeDiff, Int.reduceToNat, Int.reduceLE, h3, h4, h5, q355i, q355e, q355l, c364]; done)); simp only [go_sem, reduceIte, Nat.reduceEqDiff, reduceCtorEq, Nat.reduceAdd, Nat.reduceMul, Nat.reduceLT, Nat.reduceLeDiff, Int.reduceToNat, Int.reduceLE, h3, h4, h5, q355i, q355e, q355l, c364]; refine hK _ ?_; clear hK K) | (refine rops_off rfl rfl ?_ ?_; (focus (simp only [go_sem, reduceIte, Nat.reduceEqDiff, reduceCtorEq, Nat.reduceAdd, Nat.reduceMul, Nat.reduceLT, Nat.reduceLeDiff, Int.reduceToNat, Int.reduceLE, h3, h4, h5, q355i, q355e, q355l, c364]; done))))
          first | refine rops_nil ?_ | refine ropsD_nil ?_
          try simp only [exs, reduceIte, Nat.reduceEqDiff]
          refine R361 _ ?_ ?_ ?_
          · simp only [upd_apply, reduceIte, Nat.reduceEqDiff, h0]
          · simp only [upd_apply, reduceIte, Nat.reduceEqDiff, h3]
          · (first | (simp only [upd_apply, reduceIte, Nat.reduceEqDiff]; done) | (simp only [go_sem, reduceIte, Nat.reduceEqDiff, reduceCtorEq, Nat.reduceAdd, Nat.reduceMul, Nat.reduceLT, Nat.reduceLeDiff, Int.reduceToNat, Int.reduceLE, fs_all, take_length_map, h0, h3, h4, h5, q355i, q355e, q355l, c364] <;> rfl) | rfl)
        first | refine rops_k ?_ | refine ropsD_k ?_
        repeat (refine rops_ng rfl fun K hK => ?_; simp only [go_sem, reduceIte, Nat.reduceEqDiff, reduceCtorEq, Nat.reduceAdd, Nat.reduceMul, Nat.reduceLT, Nat.reduceLeDiff, Int.reduceToNat, Int.reduceLE, q355i, q355e, q355l]; refine hK _ ?_; clear hK K)
        rcases c368 : (decide ((x354.toNat : Int) ≥ 97)) with _ | _
        · repeat (first | (refine rops_ng rfl fun K hK => ?_; simp only [go_sem, reduceIte, Nat.reduceEqDiff, reduceCtorEq, Nat.reduceAdd, Nat.reduceMul, Nat.reduceLT, Nat.reduceLeDiff, Int.reduceToNat, Int.reduceLE, q355i, q355e, q355l, c368]; refine hK _ ?_; clear hK K) | (refine rops_on rfl rfl ?_ fun K hK => ?_; (focus (simp only [go_sem, reduceIte, Nat.reduceEqDiff, reduceCtorEq, Nat.reduceAdd, Nat.reduceMul, Nat.reduceLT, Nat.reduceLeDiff, Int.reduceToNat, Int.reduceLE, q355i, q355e, q355l, c368]; done)); simp only [go_sem, reduceIte, Nat.reduceEqDiff, reduceCtorEq, Nat.reduceAdd, Nat.reduceMul, Nat.reduceLT, Nat.reduceLeDiff, Int.reduceToNat, Int.reduceLE, q355i, q355e, q355l, c368]; refine hK _ ?_; clear hK K) | (refine rops_off rfl rfl ?_ ?_; (focus (simp only [go_sem, reduceIte, Nat.reduceEqDiff, reduceCtorEq, Nat.reduceAdd, Nat.reduceMul, Nat.reduceLT, Nat.reduceLeDiff, Int.reduceToNat, Int.reduceLE, q355i, q355e, q355l, c368]; done))))
          rcases c369 : (decide ((x354.toNat : Int) ≥ 65)) with _ | _
          · repeat (first | (refine rops_ng rfl fun K hK => ?_; simp only [go_sem, reduceIte, Nat.reduceEqDiff, reduceCtorEq, Nat.reduceAdd, Nat.reduceMul, Nat.reduceLT, Nat.reduceLeDiff, Int.reduceToNat, Int.reduceLE, q355i, q355e, q355l, c368, c369]; refine hK _ ?_; clear hK K) | (refine rops_on rfl rfl ?_ fun K hK => ?_; (focus (simp only [go_sem, reduceIte, Nat.reduceEqDiff, reduceCtorEq, Nat.reduceAdd, Nat.reduceMul, Nat.reduceLT, Nat.reduceLeDiff, Int.reduceToNat, Int.reduceLE, q355i, q355e, q355l, c368, c369]; done)); simp only [go_sem, reduceIte, Nat.reduceEqDiff, reduceCtorEq, Nat.reduceAdd, Nat.reduceMul, Nat.reduceLT, Nat.reduceLeDiff, Int.reduceToNat, Int.reduceLE, q355i, q355e, q355l, c368, c369]; refine hK _ ?_; clear hK K) | (refine rops_off rfl rfl ?_ ?_; (focus (simp only [go_sem, reduceIte, Nat.reduceEqDiff, reduceCtorEq, Nat.reduceAdd, Nat.reduceMul, Nat.reduceLT, Nat.reduceLeDiff, Int.reduceToNat, Int.reduceLE, q355i, q355e, q355l, c368, c369]; done))))
            first | refine rops_nil ?_ | refine ropsD_nil ?_
            try simp only [exs, reduceIte, Nat.reduceEqDiff]
            refine R358 _ ?_ ?_ ?_ ?_
            · simp only [upd_apply, reduceIte, Nat.reduceEqDiff, h0]
            · simp only [upd_apply, reduceIte, Nat.reduceEqDiff, h3]
            · (first | (simp only [upd_apply, reduceIte, Nat.reduceEqDiff]; done) | (simp only [go_sem, reduceIte, Nat.reduceEqDiff, reduceCtorEq, Nat.reduceAdd, Nat.reduceMul, Nat.reduceLT, Nat.reduceLeDiff, Int.reduceToNat, Int.reduceLE, fs_all, take_length_map, h0, h3, q355i, q355e, q355l, c368, c369] <;> rfl) | rfl)
            · (first | (simp only [upd_apply, reduceIte, Nat.reduceEqDiff]; done) | (simp only [go_sem, reduceIte, Nat.reduceEqDiff, reduceCtorEq, Nat.reduceAdd, Nat.reduceMul, Nat.reduceLT, Nat.reduceLeDiff, Int.reduceToNat, Int.reduceLE, fs_all, take_length_map, h0, h3, q355i, q355e, q355l, c368, c369] <;> rfl) | rfl)
          repeat (first | (refine rops_ng rfl fun K hK => ?_; simp only [go_sem, reduceIte, Nat.reduceEqDiff, reduceCtorEq, Nat.reduceAdd, Nat.reduceMul, Nat.reduceLT, Nat.reduceLeDiff, Int.reduceToNat, Int.reduceLE, q355i, q355e, q355l, c368, c369]; refine hK _ ?_; clear hK K) | (refine rops_on rfl rfl ?_ fun K hK => ?_; (focus (simp only [go_sem, reduceIte, Nat.reduceEqDiff, reduceCtorEq, Nat.reduceAdd, Nat.reduceMul, Nat.reduceLT, Nat.reduceLeDiff, Int.reduceToNat, Int.reduceLE, q355i, q355e, q355l, c368, c369]; done)); simp only [go_sem, reduceIte, Nat.reduceEqDiff, reduceCtorEq, Nat.reduceAdd, Nat.reduceMul, Nat.reduceLT, Nat.reduceLeDiff, Int.reduceToNat, Int.reduceLE, q355i, q355e, q355l, c368, c369]; refine hK _ ?_; clear hK K) | (refine rops_off rfl rfl ?_ ?_; (focus (simp only [go_sem, reduceIte, Nat.reduceEqDiff, reduceCtorEq, Nat.reduceAdd, Nat.reduceMul, Nat.reduceLT, Nat.reduceLeDiff, Int.reduceToNat, Int.reduceLE, q355i, q355e, q355l, c368, c369]; done))))
          first | refine rops_nil ?_ | refine ropsD_nil ?_
          try simp only [exs, reduceIte, Nat.reduceEqDiff]
          refine R358 _ ?_ ?_ ?_ ?_
          · simp only [upd_apply, reduceIte, Nat.reduceEqDiff, h0]
          · simp only [upd_apply, reduceIte, Nat.reduceEqDiff, h3]
          · (first | (simp only [upd_apply, reduceIte, Nat.reduceEqDiff]; done) | (simp only [go_sem, reduceIte, Nat.reduceEqDiff, reduceCtorEq, Nat.reduceAdd, Nat.reduceMul, Nat.reduceLT, Nat.reduceLeDiff, Int.reduceToNat, Int.reduceLE, fs_all, take_length_map, h0, h3, q355i, q355e, q355l, c368, c369] <;> rfl) | rfl)
          · (first | (simp only [upd_apply, reduceIte, Nat.reduceEqDiff]; done) | (simp only [go_sem, reduceIte, Nat.reduceEqDiff, reduceCtorEq, Nat.reduceAdd, Nat.reduceMul, Nat.reduceLT, Nat.reduceLeDiff, Int.reduceToNat, Int.reduceLE, fs_all, take_length_map, h0, h3, q355i, q355e, q355l, c368, c369] <;> rfl) | rfl)
        repeat (first | (refine rops_ng rfl fun K hK => ?_; simp only [go_sem, reduceIte, Nat.reduceEqDiff, reduceCtorEq, Nat.reduceAdd, Nat.reduceMul, Nat.reduceLT, Nat.reduceLeDiff, Int.reduceToNat, Int.reduceLE, q355i, q355e, q355l, c368]; refine hK _ ?_; clear hK K) | (refine rops_on rfl rfl ?_ fun K hK => ?_; (focus (simp only [go_sem, reduceIte, Nat.reduceEqDiff, reduceCtorEq, Nat.reduceAdd, Nat.reduceMul, Nat.reduceLT, Nat.reduceLeDiff, Int.reduceToNat, Int.reduceLE, q355i, q355e, q355l, c368]; done)); simp only [go_sem, reduceIte, Nat.reduceEqDiff, reduceCtorEq, Nat.reduceAdd, Nat.reduceMul, Nat.reduceLT, Nat.reduceLeDiff, Int.reduceToNat, Int.reduceLE, q355i, q355e, q355l, c368]; refine hK _ ?_; clear hK K) | (refine rops_off rfl rfl ?_ ?_; (focus (simp only [go_sem, reduceIte, Nat.reduceEqDiff, reduceCtorEq, Nat.reduceAdd, Nat.reduceMul, Nat.reduceLT, Nat.reduceLeDiff, Int.reduceToNat, Int.reduceLE, q355i, q355e, q355l, c368]; done))))
        rcases c370 : (decide ((x354.toNat : Int) ≤ 122)) with _ | _
        · repeat (first | (refine rops_ng rfl fun K hK => ?_; simp only [go_sem, reduceIte, Nat.reduceEqDiff, reduceCtorEq, Nat.reduceAdd, Nat.reduceMul, Nat.reduceLT, Nat.reduceLeDiff, Int.reduceToNat, Int.reduceLE, q355i, q355e, q355l, c368, c370]; refine hK _ ?_; clear hK K) | (refine rops_on rfl rfl ?_ fun K hK => ?_; (focus (simp only [go_sem, reduceIte, Nat.reduceEqDiff, reduceCtorEq, Nat.reduceAdd, Nat.reduceMul, Nat.reduceLT, Nat.reduceLeDiff, Int.reduceToNat, Int.reduceLE, q355i, q355e, q355l, c368, c370]; done)); simp only [go_sem, reduceIte, Nat.reduceEqDiff, reduceCtorEq, Nat.reduceAdd, Nat.reduceMul, Nat.reduceLT, Nat.reduceLeDiff, Int.reduceToNat, Int.reduceLE, q355i, q355e, q355l, c368, c370]; refine hK _ ?_; clear hK K) | (refine rops_off rfl rfl ?_ ?_; (focus (simp only [go_sem, reduceIte, Nat.reduceEqDiff, reduceCtorEq, Nat.reduceAdd, Nat.reduceMul, Nat.reduceLT, Nat.reduceLeDiff, Int.reduceToNat, Int.reduceLE, q355i, q355e, q355l, c368, c370]; done))))
          rcases c371 : (decide ((x354.toNat : Int) ≥ 65)) with _ | _
          · repeat (first | (refine rops_ng rfl fun K hK => ?_; simp only [go_sem, reduceIte, Nat.reduceEqDiff, reduceCtorEq, Nat.reduceAdd, Nat.reduceMul, Nat.reduceLT, Nat.reduceLeDiff, Int.reduceToNat, Int.reduceLE, q355i, q355e, q355l, c368, c370, c371]; refine hK _ ?_; clear hK K) | (refine rops_on rfl rfl ?_ fun K hK => ?_; (focus (simp only [go_sem, reduceIte, Nat.reduceEqDiff, reduceCtorEq, Nat.reduceAdd, Nat.reduceMul, Nat.reduceLT, Nat.reduceLeDiff, Int.reduceToNat, Int.reduceLE, q355i, q355e, q355l, c368, c370, c371]; done)); simp only [go_sem, reduceIte, Nat.reduceEqDiff, reduceCtorEq, Nat.reduceAdd, Nat.reduceMul, Nat.reduceLT, Nat.reduceLeDiff, Int.reduceToNat, Int.reduceLE, q355i, q355e, q355l, c368, c370, c371]; refine hK _ ?_; clear hK K) | (refine rops_off rfl rfl ?_ ?_; (focus (simp only [go_sem, reduceIte, Nat.reduceEqDiff, reduceCtorEq, Nat.reduceAdd, Nat.reduceMul, Nat.reduceLT, Nat.reduceLeDiff, Int.reduceToNat, Int.reduceLE, q355i, q355e, q355l, c368, c370, c371]; done))))
            first | refine rops_nil ?_ | refine ropsD_nil ?_
            try simp only [exs, reduceIte, Nat.reduceEqDiff]
            refine R358 _ ?_ ?_ ?_ ?_
            · simp only [upd_apply, reduceIte, Nat.reduceEqDiff, h0]
            · simp only [upd_apply, reduceIte, Nat.reduceEqDiff, h3]
            · (first | (simp only [upd_apply, reduceIte, Nat.reduceEqDiff]; done) | (simp only [go_sem, reduceIte, Nat.reduceEqDiff, reduceCtorEq, Nat.reduceAdd, Nat.reduceMul, Nat.reduceLT, Nat.reduceLeDiff, Int.reduceToNat, Int.reduceLE, fs_all, take_length_map, h0, h3, q355i, q355e, q355l, c368, c370, c371] <;> rfl) | rfl)
            · (first | (simp only [upd_apply, reduceIte, Nat.reduceEqDiff]; done) | (simp only [go_sem, reduceIte, Nat.reduceEqDiff, reduceCtorEq, Nat.reduceAdd, Nat.reduceMul, Nat.reduceLT, Nat.reduceLeDiff, Int.reduceToNat, Int.reduceLE, fs_all, take_length_map, h0, h3, q355i, q355e, q355l, c368, c370, c371] <;> rfl) | rfl)
          repeat (first | (refine rops_ng rfl fun K hK => ?_; simp only [go_sem, reduceIte, Nat.reduceEqDiff, reduceCtorEq, Nat.reduceAdd, Nat.reduceMul, Nat.reduceLT, Nat.reduceLeDiff, Int.reduceToNat, Int.reduceLE, q355i, q355e, q355l, c368, c370, c371]; refine hK _ ?_; clear hK K) | (refine rops_on rfl rfl ?_ fun K hK => ?_; (focus (simp only [go_sem, reduceIte, Nat.reduceEqDiff, reduceCtorEq, Nat.reduceAdd, Nat.reduceMul, Nat.reduceLT, Nat.reduceLeDiff, Int.reduceToNat, Int.reduceLE, q355i, q355e, q355l, c368, c370, c371]; done)); simp only [go_sem, reduceIte, Nat.reduceEqDiff, reduceCtorEq, Nat.reduceAdd, Nat.reduceMul, Nat.reduceLT, Nat.reduceLeDiff, Int.reduceToNat, Int.reduceLE, q355i, q355e, q355l, c368, c370, c371]; refine hK _ ?_; clear hK K) | (refine rops_off rfl rfl ?_ ?_; (focus (simp only [go_sem, reduceIte, Nat.reduceEqDiff, reduceCtorEq, Nat.reduceAdd, Nat.reduceMul, Nat.reduceLT, Nat.reduceLeDiff, Int.reduceToNat, Int.reduceLE, q355i, q355e, q355l, c368, c370, c371]; done))))
          first | refine rops_nil ?_ | refine ropsD_nil ?_
          try simp only [exs, reduceIte, Nat.reduceEqDiff]
          refine R358 _ ?_ ?_ ?_ ?_
          · simp only [upd_apply, reduceIte, Nat.reduceEqDiff, h0]
          · simp only [upd_apply, reduceIte, Nat.reduceEqDiff, h3]
          · (first | (simp only [upd_apply, reduceIte, Nat.reduceEqDiff]; done) | (simp only [go_sem, reduceIte, Nat.reduceEqDiff, reduceCtorEq, Nat.reduceAdd, Nat.reduceMul, Nat.reduceLT, Nat.reduceLeDiff, Int.reduceToNat, Int.reduceLE, fs_all, take_length_map, h0, h3, q355i, q355e, q355l, c368, c370, c371] <;> rfl) | rfl)
          · (first | (simp only [upd_apply, reduceIte, Nat.reduceEqDiff]; done) | (simp only [go_sem, reduceIte, Nat.reduceEqDiff, reduceCtorEq, Nat.reduceAdd, Nat.reduceMul, Nat.reduceLT, Nat.reduceLeDiff, Int.reduceToNat, Int.reduceLE, fs_all, take_length_map, h0, h3, q355i, q355e, q355l, c368, c370, c371] <;> rfl) | rfl)
        repeat (first | (refine rops_ng rfl fun K hK => ?_; simp only [go_sem, reduceIte, Nat.reduceEqDiff, reduceCtorEq, Nat.reduceAdd, Nat.reduceMul, Nat.reduceLT, Nat.reduceLeDiff, Int.reduceToNat, Int.reduceLE, q355i, q355e, q355l, c368, c370]; refine hK _ ?_; clear hK K) | (refine rops_on rfl rfl ?_ fun K hK => ?_; (focus (simp only [go_sem, reduceIte, Nat.reduceEqDiff, reduceCtorEq, Nat.reduceAdd, Nat.reduceMul, Nat.reduceLT, Nat.reduceLeDiff, Int.reduceToNat, Int.reduceLE, q355i, q355e, q355l, c368, c370]; done)); simp only [go_sem, reduceIte, Nat.reduceEqDiff, reduceCtorEq, Nat.reduceAdd, Nat.reduceMul, Nat.reduceLT, Nat.reduceLeDiff, Int.reduceToNat, Int.reduceLE, q355i, q355e, q355l, c368, c370]; refine hK _ ?_; clear hK K) | (refine rops_off rfl rfl ?_ ?_; (focus (simp only [go_sem, reduceIte, Nat.reduceEqDiff, reduceCtorEq, Nat.reduceAdd, Nat.reduceMul, Nat.reduceLT, Nat.reduceLeDiff, Int.reduceToNat, Int.reduceLE, q355i, q355e, q355l, c368, c370]; done))))
        first | refine rops_nil ?_ | refine ropsD_nil ?_
        try simp only [exs, reduceIte, Nat.reduceEqDiff]
        refine R358 _ ?_ ?_ ?_ ?_
        · simp only [upd_apply, reduceIte, Nat.reduceEqDiff, h0]
        · simp only [upd_apply, reduceIte, Nat.reduceEqDiff, h3]
        · (first | (simp only [upd_apply, reduceIte, Nat.reduceEqDiff]; done) | (simp only [go_sem, reduceIte, Nat.reduceEqDiff, reduceCtorEq, Nat.reduceAdd, Nat.reduceMul, Nat.reduceLT, Nat.reduceLeDiff, Int.reduceToNat, Int.reduceLE, fs_all, take_length_map, h0, h3, q355i, q355e, q355l, c368, c370] <;> rfl) | rfl)
        · (first | (simp only [upd_apply, reduceIte, Nat.reduceEqDiff]; done) | (simp only [go_sem, reduceIte, Nat.reduceEqDiff, reduceCtorEq, Nat.reduceAdd, Nat.reduceMul, Nat.reduceLT, Nat.reduceLeDiff, Int.reduceToNat, Int.reduceLE, fs_all, take_length_map, h0, h3, q355i, q355e, q355l, c368, c370] <;> rfl) | rfl)
      have c351 : (decide (p321 < (p204.length : Int))) = false := by first | exact hc | simpa using hc
      clear hc
      rw [c351] at h
      simp only [cond_true, cond_false] at h
      refine awp_exit ?_
      try simp only [exs, reduceIte, Nat.reduceEqDiff]
      refine J1  _ trivial h
    first | refine rops_k ?_ | refine ropsD_k ?_
    repeat (refine rops_ng rfl fun K hK => ?_; simp only [go_sem, reduceIte, Nat.reduceEqDiff, reduceCtorEq, Nat.reduceAdd, Nat.reduceMul, Nat.reduceLT, Nat.reduceLeDiff, Int.reduceToNat, Int.reduceLE, h0]; refine hK _ ?_; clear hK K)
    rcases c372 : (decide ((p204.length : Int) < 1)) with _ | _
    · repeat (first | (refine rops_ng rfl fun K hK => ?_; simp only [go_sem, reduceIte, Nat.reduceEqDiff, reduceCtorEq, Nat.reduceAdd, Nat.reduceMul, Nat.reduceLT, Nat.reduceLeDiff, Int.reduceToNat, Int.reduceLE, h0, c372]; refine hK _ ?_; clear hK K) | (refine rops_on rfl rfl ?_ fun K hK => ?_; (focus (simp only [go_sem, reduceIte, Nat.reduceEqDiff, reduceCtorEq, Nat.reduceAdd, Nat.reduceMul, Nat.reduceLT, Nat.reduceLeDiff, Int.reduceToNat, Int.reduceLE, h0, c372]; done)); simp only [go_sem, reduceIte, Nat.reduceEqDiff, reduceCtorEq, Nat.reduceAdd, Nat.reduceMul, Nat.reduceLT, Nat.reduceLeDiff, Int.reduceToNat, Int.reduceLE, h0, c372]; refine hK _ ?_; clear hK K) | (refine rops_off rfl rfl ?_ ?_; (focus (simp only [go_sem, reduceIte, Nat.reduceEqDiff, reduceCtorEq, Nat.reduceAdd, Nat.reduceMul, Nat.reduceLT, Nat.reduceLeDiff, Int.reduceToNat, Int.reduceLE, h0, c372]; done))))
      first | refine rops_nil ?_ | refine ropsD_nil ?_
      try simp only [exs, reduceIte, Nat.reduceEqDiff]
      refine R209 _ ?_ ?_
      · simp only [upd_apply, reduceIte, Nat.reduceEqDiff, h0]
      · (first | (simp only [upd_apply, reduceIte, Nat.reduceEqDiff]; done) | (simp only [go_sem, reduceIte, Nat.reduceEqDiff, reduceCtorEq, Nat.reduceAdd, Nat.reduceMul, Nat.reduceLT, Nat.reduceLeDiff, Int.reduceToNat, Int.reduceLE, fs_all, take_length_map, h0, c372] <;> rfl) | rfl)
    repeat (first | (refine rops_ng rfl fun K hK => ?_; simp only [go_sem, reduceIte, Nat.reduceEqDiff, reduceCtorEq, Nat.reduceAdd, Nat.reduceMul, Nat.reduceLT, Nat.reduceLeDiff, Int.reduceToNat, Int.reduceLE, h0, c372]; refine hK _ ?_; clear hK K) | (refine rops_on rfl rfl ?_ fun K hK => ?_; (focus (simp only [go_sem, reduceIte, Nat.reduceEqDiff, reduceCtorEq, Nat.reduceAdd, Nat.reduceMul, Nat.reduceLT, Nat.reduceLeDiff, Int.reduceToNat, Int.reduceLE, h0, c372]; done)); simp only [go_sem, reduceIte, Nat.reduceEqDiff, reduceCtorEq, Nat.reduceAdd, Nat.reduceMul, Nat.reduceLT, Nat.reduceLeDiff, Int.reduceToNat, Int.reduceLE, h0, c372]; refine hK _ ?_; clear hK K) | (refine rops_off rfl rfl ?_ ?_; (focus (simp only [go_sem, reduceIte, Nat.reduceEqDiff, reduceCtorEq, Nat.reduceAdd, Nat.reduceMul, Nat.reduceLT, Nat.reduceLeDiff, Int.reduceToNat, Int.reduceLE, h0, c372]; done))))
    first | refine rops_nil ?_ | refine ropsD_nil ?_
    try simp only [exs, reduceIte, Nat.reduceEqDiff]
    refine R209 _ ?_ ?_
    · simp only [upd_apply, reduceIte, Nat.reduceEqDiff, h0]
    · (first | (simp only [upd_apply, reduceIte, Nat.reduceEqDiff]; done) | (simp only [go_sem, reduceIte, Nat.reduceEqDiff, reduceCtorEq, Nat.reduceAdd, Nat.reduceMul, Nat.reduceLT, Nat.reduceLeDiff, Int.reduceToNat, Int.reduceLE, fs_all, take_length_map, h0, c372] <;> rfl) | rfl)
  refine awp_seq fun K373 hK373 => ?_
  obtain ⟨x374, q375, h⟩ := bindG_some h
  refine awp_region rfl (by kernel_rfl) ?_
  have R377 : ∀ s376 : St, (s376.r 0 = .val (.fl (bs a0))) → (s376.r 13 = .val (.fl (.bool ((decide ((a0.length : Int) > 0)) && ((x374.toNat : Int) == 63))))) → K373 s376 := by
    intro s376 h0 h13
    refine hK373 _ ?_
    refine awp_if (by kernel_rfl) (by (simp only [upd_apply, reduceIte, Nat.reduceEqDiff, St.ev, constReg, constCell, St.put_some, St.put_none, h0, h13] <;> rfl)) (fun hc => ?_) (fun hc => ?_)
    · have c378 : ((decide ((a0.length : Int) > 0)) && ((x374.toNat : Int) == 63)) = true := by first | exact hc | simpa using hc
      clear hc
      rw [c378] at h
      simp only [cond_true, cond_false] at h
      obtain ⟨_, q379, h⟩ := bind_some h
      have q379a := chk_some q379
      simp only [decide_eq_true_eq] at q379a
      refine awp_region rfl (by kernel_rfl) ?_
      first | refine rops_k ?_ | refine ropsD_k ?_
      repeat (refine rops_ng rfl fun K hK => ?_; simp only [go_sem, reduceIte, Nat.reduceEqDiff, reduceCtorEq, Nat.reduceAdd, Nat.reduceMul, Nat.reduceLT, Nat.reduceLeDiff, Int.reduceToNat, Int.reduceLE, h0, q379a]; refine hK _ ?_; clear hK K)
      first | refine rops_nil ?_ | refine ropsD_nil ?_
      try simp only [exs, reduceIte, Nat.reduceEqDiff]
      refine J2 ((a0.drop 1).take (a0.length - 1)) _ ?_ h
      · (first | (simp only [upd_apply, reduceIte, Nat.reduceEqDiff, h0]; done) | (simp only [go_sem, reduceIte, Nat.reduceEqDiff, reduceCtorEq, Nat.reduceAdd, Nat.reduceMul, Nat.reduceLT, Nat.reduceLeDiff, Int.reduceToNat, Int.reduceLE, fs_all, take_length_map, h0, h13, q379a] <;> rfl) | rfl)
    have c378 : ((decide ((a0.length : Int) > 0)) && ((x374.toNat : Int) == 63)) = false := by first | exact hc | simpa using hc
    clear hc
    rw [c378] at h
    simp only [cond_true, cond_false] at h
    refine awp_skip ?_
    try simp only [exs, reduceIte, Nat.reduceEqDiff]
    refine J2 a0 _ ?_ h
    · simp only [upd_apply, reduceIte, Nat.reduceEqDiff, h0]
  first | refine rops_k ?_ | refine ropsD_k ?_
  repeat (refine rops_ng rfl fun K hK => ?_; simp only [go_sem, reduceIte, Nat.reduceEqDiff, reduceCtorEq, Nat.reduceAdd, Nat.reduceMul, Nat.reduceLT, Nat.reduceLeDiff, Int.reduceToNat, Int.reduceLE, h0]; refine hK _ ?_; clear hK K)
  rcases c380 : (decide ((a0.length : Int) > 0)) with _ | _
  · repeat (first | (refine rops_ng rfl fun K hK => ?_; simp only [go_sem, reduceIte, Nat.reduceEqDiff, reduceCtorEq, Nat.reduceAdd, Nat.reduceMul, Nat.reduceLT, Nat.reduceLeDiff, Int.reduceToNat, Int.reduceLE, h0, c380]; refine hK _ ?_; clear hK K) | (refine rops_on rfl rfl ?_ fun K hK => ?_; (focus (simp only [go_sem, reduceIte, Nat.reduceEqDiff, reduceCtorEq, Nat.reduceAdd, Nat.reduceMul, Nat.reduceLT, Nat.reduceLeDiff, Int.reduceToNat, Int.reduceLE, h0, c380]; done)); simp only [go_sem, reduceIte, Nat.reduceEqDiff, reduceCtorEq, Nat.reduceAdd, Nat.reduceMul, Nat.reduceLT, Nat.reduceLeDiff, Int.reduceToNat, Int.reduceLE, h0, c380]; refine hK _ ?_; clear hK K) | (refine rops_off rfl rfl ?_ ?_; (focus (simp only [go_sem, reduceIte, Nat.reduceEqDiff, reduceCtorEq, Nat.reduceAdd, Nat.reduceMul, Nat.reduceLT, Nat.reduceLeDiff, Int.reduceToNat, Int.reduceLE, h0, c380]; done))))
    first | refine rops_nil ?_ | refine ropsD_nil ?_
    try simp only [exs, reduceIte, Nat.reduceEqDiff]
    refine R377 _ ?_ ?_
    · simp only [upd_apply, reduceIte, Nat.reduceEqDiff, h0]
    · (first | (simp only [upd_apply, reduceIte, Nat.reduceEqDiff]; done) | (simp only [go_sem, reduceIte, Nat.reduceEqDiff, reduceCtorEq, Nat.reduceAdd, Nat.reduceMul, Nat.reduceLT, Nat.reduceLeDiff, Int.reduceToNat, Int.reduceLE, fs_all, take_length_map, h0, c380] <;> rfl) | rfl)
  have q381 := q375 (by simp only [c380, fs_bool, beq_t, beq_f, beq_self_eq_true])
  obtain ⟨q381i, q381e, q381l⟩ := getO_some q381
  simp only [Int.toNat_zero, Int.reduceToNat] at q381e
  repeat (first | (refine rops_ng rfl fun K hK => ?_; simp only [go_sem, reduceIte, Nat.reduceEqDiff, reduceCtorEq, Nat.reduceAdd, Nat.reduceMul, Nat.reduceLT, Nat.reduceLeDiff, Int.reduceToNat, Int.reduceLE, h0, q381e, q381l, c380]; refine hK _ ?_; clear hK K) | (refine rops_on rfl rfl ?_ fun K hK => ?_; (focus (simp only [go_sem, reduceIte, Nat.reduceEqDiff, reduceCtorEq, Nat.reduceAdd, Nat.reduceMul, Nat.reduceLT, Nat.reduceLeDiff, Int.reduceToNat, Int.reduceLE, h0, q381e, q381l, c380]; done)); simp only [go_sem, reduceIte, Nat.reduceEqDiff, reduceCtorEq, Nat.reduceAdd, Nat.reduceMul, Nat.reduceLT, Nat.reduceLeDiff, Int.reduceToNat, Int.reduceLE, h0, q381e, q381l, c380]; refine hK _ ?_; clear hK K) | (refine rops_off rfl rfl ?_ ?_; (focus (simp only [go_sem, reduceIte, Nat.reduceEqDiff, reduceCtorEq, Nat.reduceAdd, Nat.reduceMul, Nat.reduceLT, Nat.reduceLeDiff, Int.reduceToNat, Int.reduceLE, h0, q381e, q381l, c380]; done))))
  first | refine rops_nil ?_ | refine ropsD_nil ?_
  try simp only [exs, reduceIte, Nat.reduceEqDiff]
  refine R377 _ ?_ ?_
  · simp only [upd_apply, reduceIte, Nat.reduceEqDiff, h0]
  · (first | (simp only [upd_apply, reduceIte, Nat.reduceEqDiff]; done) | (simp only [go_sem, reduceIte, Nat.reduceEqDiff, reduceCtorEq, Nat.reduceAdd, Nat.reduceMul, Nat.reduceLT, Nat.reduceLeDiff, Int.reduceToNat, Int.reduceLE, fs_all, take_length_map, h0, q381e, q381l, c380] <;> rfl) | rfl)

end Go.Proofs.Mm
