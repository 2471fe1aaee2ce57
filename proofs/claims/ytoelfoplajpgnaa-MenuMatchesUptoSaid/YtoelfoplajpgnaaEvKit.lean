import Derived.Test.YtoelfoplajpgnaaEvDraw5
set_option linter.unusedVariables false
set_option linter.unusedSimpArgs false
set_option linter.unusedSectionVars false

namespace Go.Ev
open Go

section
variable {P : Program} {E : Env} {w0 : World} {I0 : Cells} {n : Nat} {s : St} {fn : Func}

/-- a function is walked from these registers on -/
theorem does_run {f : FuncId} {c : Code} {args : List AV} {out : Out} (hf : P.funcs[f]? = some fn) (hn : fn.ntmps = n) (hname : (fn.name == "runtime.NumGoroutine") = false) (hb : fn.body = some c) (hl : args.length ≤ n)
    (h : ∀ w0 I0 s, (∀ t, s.r t = ((args.map Reg.val)[t]?).getD .none) → (∀ d, s.b d = none) → awp P E.plain w0 I0 n c (finQ P fn out) (finX out) s) : Does P E f args out := by
  subst hn
  exact does_of_awp hf hname hb hl fun w0 I0 => h w0 I0 (entry args) (fun _ => rfl) (fun _ => rfl)

/-- likewise of one that is given an array for good -/
theorem take_run {f : FuncId} {c : Code} {r0 : Reg} {x : Bx} {xs : List AV} {rs : List AV} (hf : P.funcs[f]? = some fn) (hn : fn.ntmps = n) (hname : (fn.name == "runtime.NumGoroutine") = false) (hb : fn.body = some c) (hl : xs.length + 1 ≤ n)
    (h : ∀ bo w0 I0 s, (∀ t, s.r t = ((r0 :: xs.map Reg.val)[t]?).getD .none) → (∀ d, s.b d = box0 x d) → (∀ d, s.g d = 0) → awp P (E.lend bo) w0 I0 n c (finQ P fn (.ret (rs.map .v))) (fun _ => False) s) : Takes P E f r0 x xs rs := by
  subst hn
  exact takes_of_awp hf hname hb hl fun bo w0 I0 => h bo w0 I0 _ (fun _ => rfl) (fun _ => rfl) (fun _ => rfl)

/-- its results -/
theorem fin_ret {vs : List ResultVar} {rs : List RV} (hn : fn.ntmps = n) (hv : fn.results.toList = vs) (h1 : (rs.filter isOwn).length ≤ 1) (ob : Option Nat) (h : resultsAre P n s ob vs rs) : finQ P fn (.ret rs) .ret s := by
  subst hn hv
  exact ⟨h1, ob, h⟩
theorem fin_normal {vs : List ResultVar} {rs : List RV} (hn : fn.ntmps = n) (hv : fn.results.toList = vs) (h1 : (rs.filter isOwn).length ≤ 1) (ob : Option Nat) (h : resultsAre P n s ob vs rs) : finQ P fn (.ret rs) .normal s := by
  subst hn hv
  exact ⟨h1, ob, h⟩
end

section
variable {P : Program} {E : Env} {s : St} {ops : Array Oper} {X : AV → Prop} {K : St → Prop}

/-- a region in two parts -/
theorem aops_append : ∀ (l1 l2 : List Oper) (s : St), aops P E ops X (aops P E ops X K l2) l1 s → aops P E ops X K (l1 ++ l2) s
  | [], l2, s, h => h
  | o :: l1, l2, s, h => by
    have mono : ∀ s, aops P E ops X (aops P E ops X K l2) l1 s → aops P E ops X K (l1 ++ l2) s := fun s => aops_append l1 l2 s
    have e : (aops P E ops X (aops P E ops X K l2) l1) = (aops P E ops X K (l1 ++ l2)) := by
      funext s
      exact propext ⟨mono s, aops_back l1 l2 s⟩
    simp only [List.cons_append]
    unfold aops at h ⊢
    rw [e] at h
    exact h
  where aops_back : ∀ (l1 l2 : List Oper) (s : St), aops P E ops X K (l1 ++ l2) s → aops P E ops X (aops P E ops X K l2) l1 s
  | [], l2, s, h => h
  | o :: l1, l2, s, h => by
    have e : (aops P E ops X (aops P E ops X K l2) l1) = (aops P E ops X K (l1 ++ l2)) := by
      funext s
      exact propext ⟨aops_append l1 l2 s, aops_back l1 l2 s⟩
    simp only [List.cons_append] at h
    unfold aops at h ⊢
    rw [e]
    exact h

theorem aops_split {l : List Oper} (k : Nat) (h : ∀ K' : St → Prop, (∀ s, aops P E ops X K (l.drop k) s → K' s) → aops P E ops X K' (l.take k) s) : aops P E ops X K l s := by
  have := aops_append (l.take k) (l.drop k) s (h _ fun _ h => h)
  rwa [List.take_append_drop] at this

theorem dops_append : ∀ (l1 l2 : List Oper) (s : St), dops P E ops (dops P E ops K l2) l1 s → dops P E ops K (l1 ++ l2) s
  | [], l2, s, h => h
  | o :: l1, l2, s, h => by
    have mono : ∀ s, dops P E ops (dops P E ops K l2) l1 s → dops P E ops K (l1 ++ l2) s := fun s => dops_append l1 l2 s
    have e : (dops P E ops (dops P E ops K l2) l1) = (dops P E ops K (l1 ++ l2)) := by
      funext s
      exact propext ⟨mono s, dops_back l1 l2 s⟩
    simp only [List.cons_append]
    unfold dops at h ⊢
    rw [e] at h
    exact h
  where dops_back : ∀ (l1 l2 : List Oper) (s : St), dops P E ops K (l1 ++ l2) s → dops P E ops (dops P E ops K l2) l1 s
  | [], l2, s, h => h
  | o :: l1, l2, s, h => by
    have e : (dops P E ops (dops P E ops K l2) l1) = (dops P E ops K (l1 ++ l2)) := by
      funext s
      exact propext ⟨dops_append l1 l2 s, dops_back l1 l2 s⟩
    simp only [List.cons_append] at h
    unfold dops at h ⊢
    rw [e]
    exact h

theorem dops_split {l : List Oper} (k : Nat) (h : ∀ K' : St → Prop, (∀ s, dops P E ops K (l.drop k) s → K' s) → dops P E ops K' (l.take k) s) : dops P E ops K l s := by
  have := dops_append (l.take k) (l.drop k) s (h _ fun _ h => h)
  rwa [List.take_append_drop] at this
end

def condOk (n : Nat) (c : Operand) : Bool := operandOk c && match c with
  | .tmp t => decide (t < n)
  | _ => true

theorem awp_if {P : Program} {E : Env} {w0 : World} {I0 : Cells} {n : Nat} {s : St} {Q : AExit → St → Prop} {X : AV → Prop} {c : Operand} {x y : Code} (hc : condOk n c = true) {b : Bool} (hb : s.ev c = .val (.fl (.bool b))) (h1 : b = true → awp P E w0 I0 n x Q X s) (h2 : b = false → awp P E w0 I0 n y Q X s) :
    awp P E w0 I0 n (.cond c x y) Q X s := by
  simp only [condOk, Bool.and_eq_true] at hc
  exact awp_cond ⟨hc.1, fun t ht => by subst ht; simpa using hc.2⟩ hb h1 h2

theorem cells_agg (cs : List AV) : (AV.agg cs).cells = cs := rfl
theorem cells_fl (v : Value) : (AV.fl v).cells = [.fl v] := rfl
theorem cells_sl (xs : List AV) : (AV.sl xs).cells = [.sl xs] := rfl
theorem cells_ref (xs : List AV) : (AV.ref xs).cells = [.ref xs] := rfl
theorem cells_fn (f : FuncId) (xs : List AV) : (AV.fn f xs).cells = [.fn f xs] := rfl
theorem cells_ifc (t : TypeId) (x : AV) : (AV.ifc t x).cells = [.ifc t x] := rfl
theorem isAgg_agg (cs : List AV) : (AV.agg cs).isAgg = true := rfl
theorem isAgg_fl (v : Value) : (AV.fl v).isAgg = false := rfl
theorem isAgg_sl (xs : List AV) : (AV.sl xs).isAgg = false := rfl
theorem isAgg_ref (xs : List AV) : (AV.ref xs).isAgg = false := rfl
theorem isAgg_fn (f : FuncId) (xs : List AV) : (AV.fn f xs).isAgg = false := rfl
theorem isAgg_ifc (t : TypeId) (x : AV) : (AV.ifc t x).isAgg = false := rfl

theorem wrap64_of {x : Int} (h1 : -9223372036854775808 ≤ x) (h2 : x ≤ 9223372036854775807) : IntKind.i64.wrap x = x := by
  simp only [IntKind.wrap, IntKind.bits, IntKind.signed]
  simp
  omega

theorem map_get {α : Type} {f : α → AV} {l : List α} {i : Nat} (h : i < l.length) : (l.map f)[i]? = some (f l[i]) := by simp [h]

end Go.Ev
