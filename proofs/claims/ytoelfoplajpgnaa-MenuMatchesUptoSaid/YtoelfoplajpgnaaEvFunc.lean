import Derived.Test.YtoelfoplajpgnaaEvCode
set_option linter.unusedVariables false
set_option linter.unusedSimpArgs false
set_option linter.unusedSectionVars false

namespace Go.Ev
open Go

/-- the state in which a call begins -/
def entry (args : List AV) : St := { r := fun t => ((args.map Reg.val)[t]?).getD .none, b := fun _ => none, g := fun _ => 0 }

/-- a register is that result; 'ob': the box that is handed out -/
def regRV (P : Program) (s : St) (ob : Option Nat) : Reg → RV → Prop
  | .val x, .v y => y = x
  | .full xs, .v y => y = .sl xs
  | .view d gg off len, .v y => some d ≠ ob ∧ gg = s.g d ∧ ∃ e xs, s.b d = some (.arr e xs) ∧ y = .sl ((xs.drop off).take len)
  | .view d gg off len, .own e ys => some d = ob ∧ gg = s.g d ∧ off = 0 ∧ ∃ xs, s.b d = some (.arr e xs) ∧ ys = xs.take len
  | .full xs, .own e ys => xs = [] ∧ ys = [] ∧ 0 < P.cellsOf e
  | _, _ => False

def isOwn : RV → Bool
  | .own _ _ => true
  | _ => false

/-- a result that stands in a box -/
def resCell (P : Program) (s : St) (t : TypeId) (r : Reg) (K : Reg → Prop) : Prop :=
  match r with
  | .loc d gg sz i k => match s.b d with
    | some (.cells cs) => gg = s.g d ∧ loadRegs P t (cs.drop (i * sz + k)) K
    | _ => False
  | _ => False

/-- the results stand in these temporaries and boxes -/
def resultsAre (P : Program) (n : Nat) (s : St) (ob : Option Nat) : List ResultVar → List RV → Prop
  | [], [] => True
  | .tmp t :: vars, r :: rs => t < n ∧ regRV P s ob (s.r t) r ∧ resultsAre P n s ob vars rs
  | .cell c t :: vars, r :: rs => c < n ∧ resCell P s t (s.r c) (fun x => regRV P s ob x r) ∧ resultsAre P n s ob vars rs
  | _, _ => False

/-- what a function's body must come to -/
def finQ (P : Program) (fn : Func) (out : Out) : AExit → St → Prop
  | .normal, s | .ret, s =>
    match out with
    | .ret rs => (rs.filter isOwn).length ≤ 1 ∧ ∃ ob, resultsAre P fn.ntmps s ob fn.results.toList rs
    | .pan _ => False
  | _, _ => False
def finX : Out → AV → Prop
  | .ret _, _ => False
  | .pan x, y => y = x

section
variable {P : Program} {E : Env} {w0 : World} {I0 : Cells} {n : Nat} {s : St} {a : Act} {w : World} {I : Cells} {be : Nat → Option Nat}

/-- every box but one is given to what stays -/
def handed (I : Cells) (s : St) (be : Nat → Option Nat) (ob : Option Nat) : Cells := fun p => I p ∨ ∃ d B, some d ≠ ob ∧ s.b d ≠ none ∧ be d = some B ∧ p.block = B

theorem since_handed (h : RelAt P E w0 I0 n s a w I be) (ob : Option Nat) : Since E w0 I0 w (handed I s be ob) :=
  h.since.step (w' := w) (I' := handed I s be ob) rfl rfl rfl (Nat.le_refl _) (fun _ => False) (fun _ _ _ => rfl) (fun _ hk => hk.elim) (fun _ h => .inl h)
    (by
      rintro p (hp | ⟨d, B, _, hd, hB, rfl⟩)
      · exact .inl hp
      · obtain ⟨q1, q2, q3, q4⟩ := h.own d _ hd hB
        exact .inr ⟨q1, q2, q4⟩)

/-- the block of a result -/
def resBlock (be : Nat → Option Nat) : Reg → RV → Option Nat
  | .view d _ _ _, .own _ _ => be d
  | _, _ => none

theorem regRV_rep (h : RelAt P E w0 I0 n s a w I be) {ob : Option Nat} {v : Value} {r : Reg} {rv : RV} (hE : (∀ B, ¬ E.lent B) ∨ isOwn rv = false) (hr : regRep P w I be s.b s.g v r) (hrv : regRV P s ob r rv) : rvRep P E w (handed I s be ob) w0.heap.size (resBlock be r rv) v rv := by
  have hmono : ∀ {v : Value} {x : AV}, Rep w I v x → Rep w (handed I s be ob) v x := fun h => h.mono (fun _ h => .inl h) (fun _ _ _ h => h)
  cases r with
  | val x =>
    cases rv with
    | v y => have e : y = x := hrv; subst e; exact hmono hr
    | own e ys => exact hrv.elim
  | full xs =>
    cases rv with
    | v y => have e : y = .sl xs := hrv; subst e; exact hmono hr.1
    | own e ys =>
      obtain ⟨rfl, rfl, h0⟩ := hrv
      obtain ⟨A, rfl⟩ := hr.2
      exact ⟨h0, by simp, fun x hx => by simp at hx, rfl, A, rfl⟩
  | view d gg off len =>
    cases rv with
    | v y =>
      obtain ⟨h1, h2, e, xs, h3, rfl⟩ := hrv
      have hb := h.boxes d _ h3
      exact view_rep h3 hb (hr.2 h2) (fun _ h => .inl h) (fun B hB p hp => .inr ⟨d, B, h1, by simp [h3], hB, hp⟩)
    | own e ys =>
      obtain ⟨h1, h2, rfl, xs, h3, rfl⟩ := hrv
      obtain ⟨hs0, hxm, hxel, hbB⟩ := h.boxes d _ h3
      obtain ⟨hl, hv⟩ := view_at hr h2 h3
      have hlen : (xs.take len).length = len := by simp; omega
      have hel : Elems P e (xs.take len) := fun x hx => by
        obtain ⟨i, hi⟩ := List.mem_iff_getElem?.1 (List.mem_of_mem_take hx)
        exact hxel i x hi
      refine ⟨hs0, by rw [hlen]; omega, hel, ?_⟩
      simp only [resBlock]
      cases hB : be d with
      | none =>
        simp only [hB] at hv hbB
        subst hbB
        obtain ⟨A, rfl⟩ := hv
        have : len = 0 := by simp at hl; omega
        subst this
        exact ⟨rfl, A, rfl⟩
      | some B =>
        simp only [hB] at hv hbB
        obtain ⟨cur, cap, A, hw, hcs, e1, hA⟩ := hv
        obtain ⟨cur', cap', hw', hcs', hcm, hlc, hrep⟩ := hbB
        rw [hw] at hw'
        injection hw' with hw'
        injection hw' with q1 q2
        subst q1
        have hcap : cap' = cap := (Nat.eq_of_mul_eq_mul_right hs0 (hcs.symm.trans hcs')).symm
        subst hcap
        obtain ⟨o1, o2, o3, o4⟩ := h.own d B (by simp [h3]) hB
        have o1 := o1.resolve_right (hE.resolve_right (by simp [isOwn]) B)
        refine ⟨o1, o2, ?_, o4, cur, cap', hw, hcs, hcm, by rw [hlen]; omega, ⟨A, by rw [hlen]; simpa using e1, fun hc => by simpa using hA hc⟩, fun i j x c hi hj => ?_⟩
        · rintro p (hp | ⟨d', B', hd1, hd2, hd3, rfl⟩)
          · exact o3 p hp
          · intro e2
            exact hd1 (by rw [← h1, h.inj d' d B hd2 (by simp [h3]) (by rw [hd3, e2]) hB])
        · rw [List.getElem?_take] at hi
          split at hi
          · exact hmono (hrep i j x c hi hj)
          · cases hi
  | none => cases rv <;> exact hrv.elim
  | loc d gg sz i k => cases rv <;> exact hrv.elim
  | tup rs => cases rv <;> exact hrv.elim

theorem own_unique : ∀ {rs : List RV}, (rs.filter isOwn).length ≤ 1 → ∀ (j j' : Nat) (r r' : RV), rs[j]? = some r → rs[j']? = some r' → isOwn r = true → isOwn r' = true → j = j'
  | [], _, j, j', r, r', h, _, _, _ => by simp at h
  | x :: rs, hl, j, j', r, r', h1, h2, h3, h4 => by
    by_cases hx : isOwn x = true
    · have h0 : (rs.filter isOwn) = [] := by
        simp only [List.filter_cons, hx, if_true, List.length_cons] at hl
        exact List.eq_nil_of_length_eq_zero (by omega)
      have no : ∀ (k : Nat) (y : RV), rs[k]? = some y → isOwn y = true → False := fun k y hk hy => by
        have : y ∈ rs.filter isOwn := List.mem_filter.2 ⟨List.mem_of_getElem? hk, hy⟩
        rw [h0] at this
        cases this
      cases j with
      | zero => cases j' with
        | zero => rfl
        | succ j' => exact (no j' r' (by simpa using h2) h4).elim
      | succ j => exact (no j r (by simpa using h1) h3).elim
    · have hl' : (rs.filter isOwn).length ≤ 1 := by simpa [List.filter_cons, hx] using hl
      cases j with
      | zero => simp at h1; subst h1; exact absurd h3 hx
      | succ j => cases j' with
        | zero => simp at h2; subst h2; exact absurd h4 hx
        | succ j' => rw [own_unique hl' j j' r r' (by simpa using h1) (by simpa using h2) h3 h4]

def resSem (tmps : Array Value) : ResultVar → Sem Value
  | .tmp t => pure (tmps.getD t undef)
  | .cell a t => do loadVar t (← asAddr (tmps.getD a undef))

/-- a result's register, and what it says -/
theorem resultsAre_spec (h : RelAt P E w0 I0 n s a w I be) {ob : Option Nat} : ∀ {vars : List ResultVar} {rs : List RV}, resultsAre P n s ob vars rs →
    ∃ (vs : List Value) (xs : List Reg), (vars.mapM (resSem a.tmps)).run P w = .ok vs w ∧ vs.length = rs.length ∧ xs.length = rs.length ∧
      ∀ (j : Nat) (rv : RV), rs[j]? = some rv → ∃ v x, vs[j]? = some v ∧ xs[j]? = some x ∧ regRep P w I be s.b s.g v x ∧ regRV P s ob x rv
  | [], [], _ => ⟨[], [], rfl, rfl, rfl, fun j rv h => by simp at h⟩
  | .tmp t :: vars, r :: rs, hr => by
    obtain ⟨h1, h2, h3⟩ := hr
    obtain ⟨vs, xs, g1, g2, g3, g4⟩ := resultsAre_spec h h3
    refine ⟨a.tmps.getD t undef :: vs, s.r t :: xs, ?_, by simp [g2], by simp [g3], fun j rv hj => ?_⟩
    · simp only [List.mapM_cons, resSem, Sem.run_bind, Sem.run_pure, Result.andThen_ok, g1]
    · cases j with
      | zero => simp at hj; subst hj; exact ⟨_, _, rfl, rfl, h.regs t h1, h2⟩
      | succ j => exact g4 j rv (by simpa using hj)
  | .cell c t :: vars, r :: rs, hr => by
    obtain ⟨h1, h2, h3⟩ := hr
    obtain ⟨vs, xs, g1, g2, g3, g4⟩ := resultsAre_spec h h3
    unfold resCell at h2
    split at h2
    · rename_i d gg sz i k hq
      split at h2
      · rename_i cs hb
        obtain ⟨hg, hK⟩ := h2
        obtain ⟨y, hy, hy'⟩ := loadRegs_fun hK
        have h4 := h.regs c h1
        rw [hq] at h4
        obtain ⟨B, hB, e1⟩ := h4.2 hg (by simp [hb])
        obtain ⟨cur, t', hw, hs, hat⟩ := regsAt_box (h.boxes d _ hb) hB (i * sz + k)
        obtain ⟨v, x, hrun, hrep, rfl⟩ := loadRegs_sound hat hy'
        refine ⟨v :: vs, x :: xs, ?_, by simp [g2], by simp [g3], fun j rv hj => ?_⟩
        · simp only [List.mapM_cons, resSem, Sem.run_bind, Sem.run_pure, Result.andThen_ok, e1, asAddr, hrun, g1]
        · cases j with
          | zero => simp at hj; subst hj; exact ⟨_, _, rfl, rfl, hrep, hy⟩
          | succ j => exact g4 j rv (by simpa using hj)
      · exact h2.elim
    · exact h2.elim
  | [], _ :: _, h => by cases h
  | .tmp _ :: _, [], h => by cases h
  | .cell _ _ :: _, [], h => by cases h

theorem run_results {fn : Func} {tmps : Array Value} {vs : List Value} (hm : (fn.results.toList.mapM (resSem tmps)).run P w = .ok vs w) : (results fn tmps).run P w = .ok (if h : vs.toArray.size = 1 then vs.toArray[0] else .tuple vs.toArray) w := by
  have e : results fn tmps = (do
    let vs ← fn.results.mapM (resSem tmps)
    pure (if h : vs.size = 1 then vs[0] else .tuple vs)) := rfl
  rw [e, Array.mapM_eq_mapM_toList]
  simp only [Sem.run_bind, Sem.run_map]
  rw [hm]
  rfl

theorem fin_post {fn : Func} {rs : List RV} (hE : (∀ B, ¬ E.lent B) ∨ ∀ r ∈ rs, isOwn r = false) (h : RelAt P E w0 I0 fn.ntmps s a w I be) (hown : (rs.filter isOwn).length ≤ 1) {ob : Option Nat} (hr : resultsAre P fn.ntmps s ob fn.results.toList rs) :
    ∃ v, (results fn a.tmps).run P w = .ok v w ∧ Post P E w0 I0 w (.ret rs) (.returned v) := by
  obtain ⟨vs, xs, hm, hl, hlx, hj⟩ := resultsAre_spec h hr
  have hrun := run_results hm
  let bo : Nat → Option Nat := fun j => match xs[j]?, rs[j]? with
    | some x, some rv => resBlock be x rv
    | _, _ => none
  have hrep : ∀ (j : Nat) (rv : RV), rs[j]? = some rv → ∃ v, vs[j]? = some v ∧ rvRep P E w (handed I s be ob) w0.heap.size (bo j) v rv := by
    intro j rv hrv
    obtain ⟨v, x, hv, hx, hreg, hrr⟩ := hj j rv hrv
    refine ⟨v, hv, ?_⟩
    simp only [bo, hx, hrv]
    exact regRV_rep h (hE.imp id fun h => h rv (List.mem_of_getElem? hrv)) hreg hrr
  have hinj : ∀ j j' B, bo j = some B → bo j' = some B → j = j' := by
    intro j j' B h1 h2
    have own : ∀ j, bo j = some B → ∃ rv, rs[j]? = some rv ∧ isOwn rv = true := by
      intro j hb
      simp only [bo] at hb
      split at hb
      · rename_i x rv hx hrv
        refine ⟨rv, hrv, ?_⟩
        cases x <;> cases rv <;> simp [resBlock] at hb <;> rfl
      · cases hb
    obtain ⟨r1, q1, q2⟩ := own j h1
    obtain ⟨r2, q3, q4⟩ := own j' h2
    exact own_unique hown j j' r1 r2 q1 q3 q2 q4
  have hlow : ∀ j B, bo j = some B → w0.heap.size ≤ B := by
    intro j B hb
    simp only [bo] at hb
    split at hb
    · rename_i x rv hx hrv
      obtain ⟨v, x', hv, hx', hreg, hrr⟩ := hj j rv hrv
      rw [hx] at hx'
      injection hx' with hx'
      subst hx'
      cases x <;> cases rv <;> simp [resBlock] at hb
      rename_i d gg off len e ys
      obtain ⟨_, _, _, xs, h3, _⟩ := hrr
      exact (h.own d B (by simp [h3]) hb).1.resolve_right (hE.resolve_right (fun hn => by have := hn _ (List.mem_of_getElem? hrv); simp [isOwn] at this) B)
    · cases hb
  refine ⟨_, hrun, ⟨_, handed I s be ob, bo, rfl, since_handed h ob, ?_, hinj, hlow⟩⟩
  have many : rs.length ≠ 1 → ∃ us : Array Value, (if h : vs.toArray.size = 1 then vs.toArray[0] else .tuple vs.toArray) = .tuple us ∧ us.size = rs.length ∧ ∀ (j : Nat) (r : RV), rs[j]? = some r → rvRep P E w (handed I s be ob) w0.heap.size (bo j) (us.getD j undef) r := by
    intro hne
    rw [dif_neg (by simp; omega)]
    refine ⟨_, rfl, by simp [hl], fun j r hr => ?_⟩
    obtain ⟨v, hv, hrv⟩ := hrep j r hr
    have : vs.toArray.getD j undef = v := by
      simp only [Array.getD_eq_getD_getElem?, List.getElem?_toArray, hv, Option.getD_some]
    rw [this]; exact hrv
  match rs, hrep, many with
  | [r], hrep, _ =>
    obtain ⟨v, hv, hrv⟩ := hrep 0 r rfl
    have h1 : vs.length = 1 := by rw [hl]; rfl
    have h2 : vs = [v] := by
      match vs, h1, hv with
      | [x], _, ht => simp at ht; rw [ht]
    rw [dif_pos (by simp [h1])]
    have e : vs.toArray[0]'(by simp [h1]) = v := by
      simp [h2]
    rw [e]
    exact hrv
  | [], _, many => exact many (by simp)
  | r1 :: r2 :: rs, _, many => exact many (by simp)

/-- A FUNCTION: its body's abstract walk is what its call does -/
theorem does_of_awp {f : FuncId} {fn : Func} {c : Code} {args : List AV} {out : Out} (hf : P.funcs[f]? = some fn) (hname : (fn.name == "runtime.NumGoroutine") = false) (hb : fn.body = some c) (hn : args.length ≤ fn.ntmps)
    (h : ∀ w0 I0, awp P E.plain w0 I0 fn.ntmps c (finQ P fn out) (finX out) (entry args)) : Does P E f args out := by
  refine ⟨Go.Proofs.enters_of hf hname hb, fun w0 I0 vs hinv hI hargs => ?_⟩
  have hvs : vs.size = args.length := by simpa using hargs.1
  refine calls_of_wp hf hb (wp_mono (h w0 I0 { tmps := vs ++ Array.replicate (fn.ntmps - vs.size) undef, defers := [] } w0 ⟨I0, fun _ => none, ?_⟩) fun e a w he => ?_)
  · refine ⟨Since.refl hinv hI, by simp; omega, rfl, fun t ht => ?_, fun d x hx => by simp [entry] at hx, fun d d' B hd => by simp [entry] at hd, fun d B hd => by simp [entry] at hd, fun d B h => by cases h⟩
    simp only [entry]
    by_cases hta : t < args.length
    · have h1 : (args.map Reg.val)[t]? = some (.val args[t]) := by simp [hta]
      rw [h1]
      have h2 : vs.toList[t]? = some vs[t] := by simp [hvs, hta]
      have h3 := hargs.2 t vs[t] args[t] h2 (by simp [hta])
      have h4 : (vs ++ Array.replicate (fn.ntmps - vs.size) undef).getD t undef = vs[t] := by
        simp only [Array.getD_eq_getD_getElem?]
        rw [Array.getElem?_append_left (by omega), Array.getElem?_eq_getElem (by omega)]
        rfl
      rw [h4]
      exact h3
    · have h1 : (args.map Reg.val)[t]? = none := by simp; omega
      rw [h1]
      trivial
  · cases e with
    | normal =>
      obtain ⟨s, ⟨I, be, hR⟩, hq⟩ := he
      cases out with
      | pan x => exact hq.elim
      | ret rs =>
        obtain ⟨hown, ob, hres⟩ := hq
        obtain ⟨v, h1, h2⟩ := fin_post (.inl E.plain_lent) hR hown hres
        exact ⟨hR.defers, v, h1, h2⟩
    | ret =>
      obtain ⟨s, ⟨I, be, hR⟩, hq⟩ := he
      cases out with
      | pan x => exact hq.elim
      | ret rs =>
        obtain ⟨hown, ob, hres⟩ := hq
        obtain ⟨v, h1, h2⟩ := fin_post (.inl E.plain_lent) hR hown hres
        exact ⟨hR.defers, v, h1, h2⟩
    | panic chain =>
      obtain ⟨x, v, I, rfl, h1, h2, h3, h4⟩ := he
      cases out with
      | ret rs => exact h1.elim
      | pan y =>
        have e : x = y := h1
        subst e
        exact ⟨h4, v, I, rfl, h2, h3⟩
    | exit id => obtain ⟨s, _, hq⟩ := he; exact hq.elim
    | goto l => obtain ⟨s, _, hq⟩ := he; exact hq.elim
    | outgrown => exact he.elim


theorem resRep_v {E' : Env} {base base' : Nat} {bo bo' : Nat → Option Nat} {v : Value} : ∀ {rs : List AV}, resRep P E w I base bo v (rs.map .v) → resRep P E' w I base' bo' v (rs.map .v)
  | [_], h => h
  | [], ⟨vs, h1, h2, h3⟩ => ⟨vs, h1, h2, fun j r hr => by simp at hr⟩
  | a :: b :: rs, ⟨vs, h1, h2, h3⟩ => ⟨vs, h1, h2, fun j r hr => by
      have h4 := h3 j r hr
      have hm := List.mem_of_getElem? hr
      have hm' : r ∈ (a :: b :: rs).map RV.v := hm
      obtain ⟨x, _, rfl⟩ := List.mem_map.1 hm'
      exact h4⟩

/-- A FUNCTION that is given an array for good -/
theorem takes_of_awp {f : FuncId} {fn : Func} {c : Code} {r0 : Reg} {x : Bx} {xs : List AV} {rs : List AV} (hf : P.funcs[f]? = some fn) (hname : (fn.name == "runtime.NumGoroutine") = false) (hb : fn.body = some c) (hn : xs.length + 1 ≤ fn.ntmps)
    (h : ∀ bo w0 I0, awp P (E.lend bo) w0 I0 fn.ntmps c (finQ P fn (.ret (rs.map .v))) (fun _ => False) { r := fun t => (((r0 :: xs.map Reg.val))[t]?).getD .none, b := box0 x, g := fun _ => 0 }) : Takes P E f r0 x xs rs := by
  refine ⟨Go.Proofs.enters_of hf hname hb, fun w0 I0 bo v0 vs hinv hI hv0 hbx hbo hargs => ?_⟩
  have hvs : vs.size = xs.length := by simpa using hargs.1
  have hsz : (#[v0] ++ vs).size = xs.length + 1 := by simp; omega
  have hno : ∀ r ∈ rs.map RV.v, isOwn r = false := fun r hr => by
    obtain ⟨y, _, rfl⟩ := List.mem_map.1 hr
    rfl
  have key : ∀ (s : St) (a : Act) (w : World), Rel P (E.lend bo) w0 I0 fn.ntmps s a w → (((rs.map RV.v).filter isOwn).length ≤ 1 ∧ ∃ ob, resultsAre P fn.ntmps s ob fn.results.toList (rs.map .v)) →
      a.defers = [] ∧ ∃ v, (results fn a.tmps).run P w = .ok v w ∧ ∃ v' I, Ending.returned v = .returned v' ∧ Since (E.lend bo) w0 I0 w I ∧ resRep P E w I w0.heap.size (fun _ => none) v' (rs.map .v) := by
    rintro s a w ⟨I, be, hR⟩ ⟨hown, ob, hres⟩
    obtain ⟨v, h1, v', I', bo', h2, h3, h4, _⟩ := fin_post (.inr hno) hR hown hres
    exact ⟨hR.defers, v, h1, v', I', h2, h3, resRep_v h4⟩
  refine calls_of_wp hf hb (wp_mono (h bo w0 I0 { tmps := (#[v0] ++ vs) ++ Array.replicate (fn.ntmps - (#[v0] ++ vs).size) undef, defers := [] } w0 ⟨I0, fun _ => bo, ?_⟩) fun e a w he => ?_)
  · have hs : Since (E.lend bo) w0 I0 w0 I0 := Since.refl (E := E.lend bo) hinv hI
    have one : ∀ d, box0 x d ≠ none → d = 0 := fun d hd => by
      unfold box0 at hd
      split at hd
      · assumption
      · exact (hd rfl).elim
    refine ⟨hs, by simp; omega, rfl, fun t ht => ?_, fun d y hd => ?_, fun d d' B hd hd' _ _ => (one d hd).trans (one d' hd').symm, fun d B hd hB => ?_, fun d B hl _ hd => ?_⟩
    · cases t with
      | zero =>
        have h2 : ((#[v0] ++ vs) ++ Array.replicate (fn.ntmps - (#[v0] ++ vs).size) undef).getD 0 undef = v0 := by
          simp only [Array.getD_eq_getD_getElem?]
          rw [Array.getElem?_append_left (by omega), Array.getElem?_append_left (by simp)]
          rfl
        rw [h2]
        simpa using hv0
      | succ t =>
        simp only [List.getElem?_cons_succ]
        by_cases hta : t < xs.length
        · have h1 : (xs.map Reg.val)[t]? = some (.val xs[t]) := by simp [hta]
          rw [h1]
          have h2 : vs.toList[t]? = some vs[t] := by simp [hvs, hta]
          have h3 := hargs.2 t vs[t] xs[t] h2 (by simp [hta])
          have h4 : ((#[v0] ++ vs) ++ Array.replicate (fn.ntmps - (#[v0] ++ vs).size) undef).getD (t + 1) undef = vs[t] := by
            simp only [Array.getD_eq_getD_getElem?]
            rw [Array.getElem?_append_left (by omega), Array.getElem?_append_right (by simp)]
            simp [hvs, hta]
          rw [h4]
          exact h3
        · have h1 : (xs.map Reg.val)[t]? = none := by simp; omega
          rw [h1]
          trivial
    · have hd0 : d = 0 := one d (by show box0 x d ≠ none; rw [show box0 x d = some y from hd]; exact fun h => by cases h)
      subst hd0
      have : x = y := by simpa [box0] using hd
      subst this
      exact hbx
    · have hd0 := one d hd
      subst hd0
      obtain ⟨q1, q2, q3⟩ := hbo B hB
      exact ⟨.inr ⟨0, by simp [Env.lend]; exact hB⟩, q1, q2, q3⟩
    · have hd0 := one d hd
      subst hd0
      simpa [Env.lend] using hl
  · cases e with
    | normal => obtain ⟨s, hR, hq⟩ := he; exact key s a w hR hq
    | ret => obtain ⟨s, hR, hq⟩ := he; exact key s a w hR hq
    | panic chain =>
      obtain ⟨y, v, I, rfl, h1, h2, h3, h4⟩ := he
      exact h1.elim
    | exit id => obtain ⟨s, _, hq⟩ := he; exact hq.elim
    | goto l => obtain ⟨s, _, hq⟩ := he; exact hq.elim
    | outgrown => exact he.elim

end
end Go.Ev
