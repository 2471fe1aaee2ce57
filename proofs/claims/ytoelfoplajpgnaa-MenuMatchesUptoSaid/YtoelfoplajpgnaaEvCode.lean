import Derived.Test.YtoelfoplajpgnaaEvConv
set_option linter.unusedVariables false
set_option linter.unusedSimpArgs false
set_option linter.unusedSectionVars false

namespace Go.Ev
open Go

def avReg : AV → Reg
  | .sl [] => .full []
  | v => .val v

theorem constReg_eq {v : Value} (h : v.oneCell' = true) : constReg v = avReg (constCell v) := by
  cases v <;> first
    | rfl
    | (simp [Value.oneCell'] at h; done)
    | (rename_i A l c
       cases A <;> cases l <;> cases c <;> rfl)

/-- a slice that stays, held against nil: one of no elements may be nil or not -/
def kNil (P : Program) (o : Oper) (s : St) (op : BinOp) (t : TypeId) (r : Reg) (y : Operand) (K : St → Prop) : Prop :=
  (op = .eql ∨ op = .neq) ∧ y = .const (.slice none 0 0) ∧ ∃ xs, r = .val (.sl xs) ∧ (∃ e, P.underlying t = some (.slice e)) ∧ ∀ b : Bool, (b = true → xs = []) → K (s.put o.dst (.val (.fl (.bool (if op = .eql then b else !b)))))

/-- a call that is given an array of the caller's for good -/
def kTake (P : Program) (E : Env) (o : Oper) (s : St) (x : Operand) (args : List Operand) (K : St → Prop) : Prop :=
  ∃ f a0 rest xs d r0 e ys rs, calleeOf s x = some (f, []) ∧ args = a0 :: rest ∧ regAVsOf s rest = some xs ∧ takeArg s (s.ev a0) = some (d, r0, .arr e ys) ∧ Takes P E f r0 (.arr e ys) xs rs ∧ K ((({ s with b := upd s.b d none } : St)).take o.dst (rs.map .v))

/-- a call that looks at arrays of the caller's, and gives back plain values alone -/
def kPeek (P : Program) (E : Env) (o : Oper) (s : St) (x : Operand) (args : List Operand) (K : St → Prop) : Prop :=
  ∃ f xs, ∃ rs : List Value, calleeOf s x = some (f, []) ∧ peekAVs s args = some xs ∧ Does P E f xs (.ret (rs.map flRV)) ∧ K (s.take o.dst (rs.map flRV))

/-- what is asked of an operation; K: of the state behind it; X: of what it throws -/
def opK (P : Program) (E : Env) (o : Oper) (s : St) (K : St → Prop) (X : AV → Prop) : Prop :=
  match o.op with
  | .assign x =>
    match s.ev x with
    | .view d' gg off len => off = 0 ∧ gg = s.g d' ∧ ∃ d, o.dst = some d ∧ ∃ e xs, s.b d' = some (.arr e xs) ∧ K (s.adopt d d' e xs len)
    | r => K (s.put o.dst r)
  | .alloc t => ∃ d, o.dst = some d ∧ ∃ z, zeroOf P t = some z ∧ K (s.newCells d (z.cells.map avReg))
  | .box t x => ∃ d, o.dst = some d ∧ ∃ cs, regCells (s.ev x) = some cs ∧ alive s (s.ev x) ∧ K (s.newCells d cs)
  | .store t p x => o.dst = none ∧ kStore P s t (s.ev p) (s.ev x) K
  | .makeSlice t x y => ∃ d, o.dst = some d ∧ ∃ e, sliceOf P t = some e ∧ ∃ z, zeroOf P e = some z ∧ ∃ k m, s.ev x = .val (.fl (.int k m)) ∧ ∃ k', s.ev y = .val (.fl (.int k' m)) ∧ (0 < P.cellsOf e ∧ 0 ≤ m ∧ m.toNat ≤ maxLen ∧ m.toNat * P.bytesOf e ≤ 281474976710656) ∧ K (s.newArr d e (List.replicate m.toNat z))
  | .buildSlice t len parts => ∃ d, o.dst = some d ∧ ∃ e, sliceOf P t = some e ∧ ∃ xs, regAVsOf s (parts.toList.map (·.2)) = some xs ∧ (elemOk P e = true ∧ parts.toList.map (·.1) = List.range len ∧ len * P.cellsOf e ≤ 16777216 ∧ Elems P e xs) ∧ K (s.newArr d e xs)
  | .call { callee := .builtin b, args, argTypes } => kBuiltin P o s b args.toList argTypes.toList K
  | .call { callee := .value x, args, argTypes } => (∃ f caps, calleeOf s x = some (f, caps) ∧ ∃ xs, regAVsOf s args.toList = some xs ∧ ∃ out, Does P E f (xs ++ caps) out ∧ outK out (fun rs => K (s.take o.dst rs)) X) ∨ kTake P E o s x args.toList K ∨ kPeek P E o s x args.toList K
  | .panic x => ∃ t v, s.ev x = .val (.ifc t v) ∧ X (.ifc t v)
  | .convert src dst x => (bytesT P src dst = true ∧ ∃ l, s.ev x = .val (.fl (bs l)) ∧ l.length ≤ maxLen ∧ K (s.put o.dst (.val (.sl (byteAVs l))))) ∨ kValue P o s fun r => K (s.put o.dst r)
  | .binOp op t x y t' => kNil P o s op t (s.ev x) y K ∨ kValue P o s fun r => K (s.put o.dst r)
  | _ => kValue P o s fun r => K (s.put o.dst r)

section
variable {P : Program} {E : Env} {w0 : World} {I0 : Cells} {n : Nat} {o : Oper} {s : St}

theorem run_equal_nil {t e : TypeId} (ht : P.underlying t = some (.slice e)) (A : Option Addr) (n c : Nat) (w : World) : (Op.equal t (.slice A n c) (.slice none 0 0)).run P w = .ok A.isNone w := by
  have h : ∀ d : Nat, (Op.equalIn (d + 1) t (.slice A n c) (.slice none 0 0)).run P w = .ok A.isNone w := fun d => by
    cases A <;> simp [Op.equalIn, run_underlying ht]
  exact h 9999

theorem kNil_sound {op : BinOp} {t t' : TypeId} {x y : Operand} (ho : o.op = .binOp op t x y t') (hok : okOper n o = true) {K : St → Prop} (h : kNil P o s op t (s.ev x) y K) : Sound P E w0 I0 n o s K := by
  obtain ⟨hop, rfl, xs, hx, ⟨e, ht⟩, hK⟩ := h
  rintro a w ⟨I, be, hR⟩ Qc
  have h1 := okOper_ev hok (x := x) (by simp [ho, Op.operands]) hR
  rw [hx] at h1
  have sl : ∃ (A : Option Addr) (m c : Nat), a.eval x = .slice A m c ∧ (A.isNone = true → xs = []) := by
    generalize a.eval x = v at h1
    cases h1 with
    | slNone c => exact ⟨none, 0, c, rfl, fun _ => rfl⟩
    | sl p m cap sz xs cv hn hcap hmax hsz hc hI hr => exact ⟨some p, m, cap, rfl, fun h => by cases h⟩
  obtain ⟨A, m, c, hv, hA⟩ := sl
  have hg : ∀ z, (eqGuard op t x z (.slice A m c) (.slice none 0 0)).run P w = .ok () w := fun z => by
    rcases hop with rfl | rfl <;> rfl
  have hrun : (execOp a.eval o).run P w = .ok (.value (.bool (if op = .eql then A.isNone else !A.isNone))) w := by
    have he := run_equal_nil ht A m c w
    have h2 : a.eval (.const (.slice none 0 0)) = .slice none 0 0 := rfl
    rcases hop with rfl | rfl
    · have hb : (binOp .eql t (.slice A m c) (.slice none 0 0)).run P w = .ok (.bool A.isNone) w := by
        simp only [binOp, Sem.run_bind, he, Result.andThen_ok, Sem.run_pure]
      simp only [execOp, ho, hv, h2, Sem.run_bind, hg, Result.andThen_ok, hb, Sem.run_pure, if_true]
    · have hb : (binOp .neq t (.slice A m c) (.slice none 0 0)).run P w = .ok (.bool (!A.isNone)) w := by
        simp only [binOp, Sem.run_bind, he, Result.andThen_ok, Sem.run_pure]
      simp only [execOp, ho, hv, h2, Sem.run_bind, hg, Result.andThen_ok, hb, Sem.run_pure, reduceCtorEq, if_false]
  exact wp_value hrun ⟨_, ⟨I, be, hR.put o.dst (r := .val (.fl (.bool (if op = .eql then A.isNone else !A.isNone)))) (Rep.fl _ rfl)⟩, hK _ hA⟩

theorem list1 {α : Type} {l : Array α} {x : α} (h : l.toList = [x]) : l = #[x] := by apply Array.ext'; simpa using h
theorem list2 {α : Type} {l : Array α} {x y : α} (h : l.toList = [x, y]) : l = #[x, y] := by apply Array.ext'; simpa using h

theorem kBuiltin_sound {b : Builtin} {args : Array Operand} {types : Array TypeId} (ho : o.op = .call { callee := .builtin b, args := args, argTypes := types }) (hok : okOper n o = true) {K : St → Prop} (h : kBuiltin P o s b args.toList types.toList K) : Sound P E w0 I0 n o s K := by
  unfold kBuiltin at h
  split at h
  · rename_i x t ha ht
    have ha' := list1 ha
    have ht' := list1 ht
    subst ha' ht'
    obtain ⟨m, h1, ⟨h2, h3⟩, h4⟩ := h
    exact sound_value _ h4 (yield_len ho hok h2 h1 h3)
  · rename_i x y t u ha ht
    have ha' := list2 ha
    have ht' := list2 ht
    subst ha' ht'
    obtain ⟨d, hd, e, h1, ys, h2, ⟨h3, h4, h5⟩, h6⟩ := h
    split at h6
    · rename_i d' gg off k hx
      obtain ⟨rfl, h7, xs, h8, ⟨h9, h10⟩, h11⟩ := h6
      exact sound_append_view ho hok hd (sliceOf_spec h1) h3 (elemOk_spec h4) hx h7 h8 h2 h5 h9 h10 h11
    · rename_i xs hx
      obtain ⟨⟨h7, h8, h9, h10⟩, h11⟩ := h6
      exact sound_append_full ho hok hd (sliceOf_spec h1) h3 (elemOk_spec h4) hx h7 h2 h5 h8 h9 h10 h11
    · exact h6.elim
  · rename_i x y t u ha ht
    have ha' := list2 ha
    have ht' := list2 ht
    subst ha' ht'
    obtain ⟨e, h1, ys, h2, h3, h4⟩ := h
    split at h4
    · rename_i d gg off len hx
      obtain ⟨h5, xs, h6, h7⟩ := h4
      exact sound_copy ho hok h1 hx h5 h6 h2 h3 h7
    · exact h4.elim
  · exact h.elim

theorem kStore_sound {t : TypeId} {p x : Operand} (ho : o.op = .store t p x) (hok : okOper n o = true) (hd : o.dst = none) {K : St → Prop} (h : kStore P s t (s.ev p) (s.ev x) K) : Sound P E w0 I0 n o s K := by
  unfold kStore at h
  split at h
  · rename_i d gg sz i k hp
    obtain ⟨hg, h0, h⟩ := h
    split at h
    · rename_i cs hb
      obtain ⟨vs, h1, ⟨h2, h3, h4, h5⟩, h6⟩ := h
      exact sound_store_cells ho hok hd hp hg hb h1 h2 h3 h0 h4 h5 h6
    · rename_i e xs hb
      obtain ⟨v, y, h1, h2, ⟨h3, h4, h5, h6, h7⟩, h8⟩ := h
      exact sound_store_arr ho hok hd hp hg hb h3 h1 h4 h0 h5 h2 h6 h7 h8
    · exact h.elim
  · exact h.elim

theorem sound_panic {x : Operand} (ho : o.op = .panic x) (hok : okOper n o = true) {K : St → Prop} {X : AV → Prop} {t : TypeId} {v : AV} (hx : s.ev x = .val (.ifc t v)) (hX : X (.ifc t v)) : SoundX P E w0 I0 n o s K X := by
  rintro a w ⟨I, be, hR⟩ Qc hQ
  have h1 := okOper_ev hok (x := x) (by simp [ho, Op.operands]) hR
  rw [hx] at h1
  have h1' : Rep w I (a.eval x) (.ifc t v) := h1
  unfold Oper.wp
  generalize hv : a.eval x = u at *
  cases h1' with
  | ifc t u y hr =>
    have hrun : (execOp a.eval o).run P w = .halt (.panic (.iface t u)) w := by simp [execOp, ho, hv, Instr.panic]
    rw [hrun]
    exact hQ _ _ a w I hX hR.since (.ifc t u _ hr) hR.defers

theorem opK_sound (hok : okOper n o = true) {K : St → Prop} {X : AV → Prop} (h : opK P E o s K X) : SoundX P E w0 I0 n o s K X := by
  have value : (kValue P o s fun r => K (s.put o.dst r)) → SoundX P E w0 I0 n o s K X := fun h => by
    obtain ⟨r, h1, h2⟩ := kValue_yield (E := E) (w0 := w0) (I0 := I0) hok h
    exact (sound_value r h1 h2).x X
  unfold opK at h
  split at h
  · rename_i x ho
    split at h
    · rename_i d' gg off len hx
      obtain ⟨rfl, h1, d, h2, e, xs, h3, h4⟩ := h
      exact (sound_assign_view ho hok h2 hx h1 h3 h4).x X
    · exact (sound_value _ h (yield_assign ho hok)).x X
  · rename_i t ho
    obtain ⟨d, hd, z, hz, hK⟩ := h
    obtain ⟨i, zv, hi, hzv, hz1, hzs, rfl⟩ := zeroOf_spec hz
    refine (sound_alloc ho hd hi hzv hz1 ?_).x X
    have e : zv.cells.toList.map constReg = (zeroAV zv).cells.map avReg := by
      rw [(zeroAV_cells hz1).1, List.map_map]
      refine List.map_congr_left fun v hv => constReg_eq ?_
      exact Array.all_eq_true'.1 hz1 v (by simpa using hv)
    rw [e]; exact hK
  · rename_i t x ho
    obtain ⟨d, hd, cs, h1, h2, h3⟩ := h
    exact (sound_box ho hok hd h1 h2 h3).x X
  · rename_i t p x ho
    exact (kStore_sound ho hok h.1 h.2).x X
  · rename_i t x y ho
    obtain ⟨d, hd, e, he, z, hz, k, m, hx, k', hy, ⟨h1, h2, h3, h4⟩, hK⟩ := h
    obtain ⟨i, zv, hi, hzv, hz1, hzs, rfl⟩ := zeroOf_spec hz
    exact (sound_makeSlice ho hok hd (sliceOf_spec he) hi hzv hzs hz1 h1 hx hy h2 h3 h4 hK).x X
  · rename_i t len parts ho
    obtain ⟨d, hd, e, he, xs, hx, ⟨h1, h2, h3, h4⟩, hK⟩ := h
    exact (sound_buildSlice ho hok hd he h1 h2 h3 hx h4 hK).x X
  · rename_i b args types ho
    exact (kBuiltin_sound ho hok h).x X
  · rename_i x args types ho
    rcases h with ⟨f, caps, h1, xs, h2, out, h3, h4⟩ | ⟨f, a0, rest, xs, d, r0, e, ys, rs, h1, h2, h3, h4, h5, h6⟩ | ⟨f, xs, rs, h1, h2, h3, h4⟩
    · exact sound_call ho hok h1 h2 h3 h4
    · exact (sound_take ho hok h2 h1 h3 h4 h5 h6).x X
    · exact (sound_peek ho hok h1 h2 h3 h4).x X
  · rename_i x ho
    obtain ⟨t, v, h1, h2⟩ := h
    exact sound_panic ho hok h1 h2
  · rename_i src dst x ho
    rcases h with ⟨h1, l, h2, h3, h4⟩ | h
    · obtain ⟨q1, e, q2, q3⟩ := bytesT_spec h1
      exact (sound_bytes ho hok q1 q2 q3 h2 h3 h4).x X
    · exact value h
  · rename_i op t x y t' ho
    rcases h with h | h
    · exact (kNil_sound ho hok h).x X
    · exact value h
  · exact value h

/-! ### Regions and code -/

inductive AExit where
  | normal
  | exit (id : Nat)
  | goto (l : Nat)
  | ret

/-- what is asked at an exit, of the abstract state -/
def lift (P : Program) (E : Env) (w0 : World) (I0 : Cells) (n : Nat) (Q : AExit → St → Prop) (X : AV → Prop) : Exit → Act → World → Prop
  | .normal, a, w => ∃ s, Rel P E w0 I0 n s a w ∧ Q .normal s
  | .exit id, a, w => ∃ s, Rel P E w0 I0 n s a w ∧ Q (.exit id) s
  | .goto l, a, w => ∃ s, Rel P E w0 I0 n s a w ∧ Q (.goto l) s
  | .ret, a, w => ∃ s, Rel P E w0 I0 n s a w ∧ Q .ret s
  | .panic chain, a, w => ∃ x v I, chain = [{ v := v, recovered := false }] ∧ X x ∧ Since E w0 I0 w I ∧ Rep w I v x ∧ a.defers = []
  | .outgrown, _, _ => False

/-- THE ABSTRACT WALK -/
def awp (P : Program) (E : Env) (w0 : World) (I0 : Cells) (n : Nat) (c : Code) (Q : AExit → St → Prop) (X : AV → Prop) (s : St) : Prop :=
  ∀ a w, Rel P E w0 I0 n s a w → c.wp P (lift P E w0 I0 n Q X) a w

/-- is an operation wanted whose guard is temporary t? ('.tup': one that was passed over) -/
def gate (s : St) (t : Nat) (want : Bool) : Option Bool :=
  match s.r t with
  | .val (.fl (.bool b)) => some (b == want)
  | .tup _ => some false
  | _ => none

theorem gate_sound {a : Act} {w : World} {I : Cells} {be : Nat → Option Nat} (hR : RelAt P E w0 I0 n s a w I be) {ops : Array Oper} {j t : Nat} {want b : Bool} (hlt : t < n) (hj : (ops[j]?).bind (·.dst) = some t) (hg : gate s t want = some b) : (yielded ops a.tmps j == some want) = b := by
  have hts : t < a.tmps.size := by rw [hR.size]; exact hlt
  have hr := hR.regs t hlt
  have e0 : a.tmps.getD t undef = a.tmps[t] := by simp [hts]
  rw [e0] at hr
  unfold gate at hg
  unfold yielded
  rw [hj, Option.bind_some, Array.getElem?_eq_getElem hts]
  split at hg
  · rename_i b' hb
    rw [hb] at hr
    rw [rep_fl hr]
    simp only [Option.some.injEq] at hg
    subst hg
    cases b' <;> cases want <;> rfl
  · rename_i rs hb
    rw [hb] at hr
    obtain ⟨vs, hv, _⟩ := hr
    rw [hv]
    simp only [Option.some.injEq] at hg
    subst hg
    rfl
  · cases hg

/-- the operations of a region, one behind the other -/
def aops (P : Program) (E : Env) (ops : Array Oper) (X : AV → Prop) (K : St → Prop) : List Oper → St → Prop
  | [], s => K s
  | o :: rest, s =>
    match o.guard with
    | none => opK P E o s (aops P E ops X K rest) X
    | some (j, want) => ∃ t, (ops[j]?).bind (·.dst) = some t ∧ ∃ b, gate s t want = some b ∧ if b = true then opK P E o s (aops P E ops X K rest) X else aops P E ops X K rest (s.put o.dst (.tup []))

theorem aops_nil {ops : Array Oper} {X : AV → Prop} {K : St → Prop} (h : K s) : aops P E ops X K [] s := h
theorem aops_cons {ops : Array Oper} {X : AV → Prop} {K : St → Prop} {rest : List Oper} (hg : o.guard = none) (h : ∀ K' : St → Prop, (∀ s, aops P E ops X K rest s → K' s) → opK P E o s K' X) : aops P E ops X K (o :: rest) s := by
  unfold aops
  simp only [hg]
  exact h _ fun _ h => h
/-- the region's operands, and its guards' places, are the frame's -/
def okRegion (n : Nat) (ops : Array Oper) : Bool := ops.all fun o => okOper n o && match o.guard with
  | some (j, _) => match (ops[j]?).bind (·.dst) with
    | some t => decide (t < n)
    | none => true
  | none => true

theorem aops_sound {ops : Array Oper} {X : AV → Prop} {Q : AExit → St → Prop} (hok : okRegion n ops = true) : ∀ (l : List Oper) (i : Nat) (s : St) (a : Act) (w : World), (∀ j, l[j]? = ops[i + j]?) → aops P E ops X (Q .normal) l s → Rel P E w0 I0 n s a w →
    wpOps P ops (lift P E w0 I0 n Q X) (List.range' i l.length) a w
  | [], i, s, a, w, _, h, hR => ⟨s, hR, h⟩
  | o :: l, i, s, a, w, hl, h, hR => by
    have ho : ops[i]? = some o := by simpa using (hl 0).symm
    have hl' : ∀ j, l[j]? = ops[(i + 1) + j]? := fun j => by have := hl (j + 1); simpa [Nat.add_assoc, Nat.add_comm 1] using this
    have hoko := Array.all_eq_true'.1 hok o (Array.mem_of_getElem? ho)
    simp only [Bool.and_eq_true] at hoko
    simp only [List.length_cons, List.range'_succ, wpOps, ho]
    have run : opK P E o s (aops P E ops X (Q .normal) l) X → o.wp P a w (wpOps P ops (lift P E w0 I0 n Q X) (List.range' (i + 1) l.length)) (lift P E w0 I0 n Q X) := fun h => by
      have := opK_sound (E := E) (w0 := w0) (I0 := I0) hoko.1 h a w hR (lift P E w0 I0 n Q X) (fun x v a' w' I' h1 h2 h3 h4 => ⟨x, v, I', rfl, h1, h2, h3, h4⟩)
      exact Oper.wp_mono (fun a' w' ⟨s', h1, h2⟩ => aops_sound hok l (i + 1) s' a' w' hl' h2 h1) this
    unfold aops at h
    cases hg : o.guard with
    | none =>
      simp only [hg] at h
      simp only [Region.wanted, hg, if_true]
      exact .inl (run h)
    | some p =>
      obtain ⟨j, want⟩ := p
      simp only [hg] at h
      obtain ⟨t, hj, b, hb, h⟩ := h
      have hlt : t < n := by
        have := hoko.2
        simp only [hg, hj] at this
        simpa using this
      obtain ⟨I, be, hR'⟩ := hR
      have hw := gate_sound hR' hlt hj hb
      simp only [Region.wanted, hg, hw]
      cases b with
      | true =>
        simp only [if_true] at h ⊢
        exact .inl (run h)
      | false =>
        simp only [Bool.false_eq_true, if_false] at h ⊢
        exact aops_sound hok l (i + 1) _ _ w hl' h ⟨I, be, hR'.put o.dst (r := .tup []) ⟨#[], rfl, rfl, fun j r hr => by simp at hr⟩⟩

variable {Q : AExit → St → Prop} {X : AV → Prop}

theorem awp_region {id : Nat} {ops : Array Oper} {l : List Oper} (hl : ops.toList = l) (hok : okRegion n ops = true) (h : aops P E ops X (Q .normal) l s) : awp P E w0 I0 n (.region id ops false) Q X s := by
  intro a w hR
  subst hl
  refine wp_region ?_
  have := aops_sound (w0 := w0) (I0 := I0) hok ops.toList 0 s a w (fun j => by simp) h hR
  simpa [List.range_eq_range'] using this

def AExit.then (next : St → Prop) (Q : AExit → St → Prop) : AExit → St → Prop
  | .normal, s => next s
  | e, s => Q e s
@[simp] theorem AExit.then_normal (next : St → Prop) : AExit.then next Q .normal s = next s := rfl
@[simp] theorem AExit.then_exit (next : St → Prop) (id : Nat) : AExit.then next Q (.exit id) s = Q (.exit id) s := rfl
@[simp] theorem AExit.then_goto (next : St → Prop) (id : Nat) : AExit.then next Q (.goto id) s = Q (.goto id) s := rfl
@[simp] theorem AExit.then_ret (next : St → Prop) : AExit.then next Q .ret s = Q .ret s := rfl

theorem awp_seq {x y : Code} (h : ∀ K : St → Prop, (∀ s, awp P E w0 I0 n y Q X s → K s) → awp P E w0 I0 n x (AExit.then K Q) X s) : awp P E w0 I0 n (.seq x y) Q X s := by
  intro a w hR
  refine wp_seq (wp_mono (h _ (fun _ h => h) a w hR) fun e a' w' he => ?_)
  cases e with
  | normal => obtain ⟨s', h1, h2⟩ := he; exact h2 a' w' h1
  | exit id => exact he
  | goto l => exact he
  | ret => exact he
  | panic ch => exact he
  | outgrown => exact he

theorem awp_skip (h : Q .normal s) : awp P E w0 I0 n .skip Q X s := fun a w hR => wp_skip ⟨s, hR, h⟩
theorem awp_label {l : Nat} (h : Q .normal s) : awp P E w0 I0 n (.label l) Q X s := fun a w hR => wp_label ⟨s, hR, h⟩
theorem awp_exit {id : Nat} (h : Q (.exit id) s) : awp P E w0 I0 n (.exit id) Q X s := fun a w hR => wp_exit ⟨s, hR, h⟩
theorem awp_ret (h : Q .ret s) : awp P E w0 I0 n .ret Q X s := fun a w hR => wp_ret ⟨s, hR, h⟩

theorem awp_cond {c : Operand} {x y : Code} (hc : operandOk c = true ∧ ∀ t, c = .tmp t → t < n) {b : Bool} (hb : s.ev c = .val (.fl (.bool b))) (h1 : b = true → awp P E w0 I0 n x Q X s) (h2 : b = false → awp P E w0 I0 n y Q X s) : awp P E w0 I0 n (.cond c x y) Q X s := by
  rintro a w ⟨I, be, hR⟩
  have hr := hR.ev c hc.1 hc.2
  rw [hb] at hr
  exact wp_cond_split (rep_fl hr) (fun h => h1 h a w ⟨I, be, hR⟩) (fun h => h2 h a w ⟨I, be, hR⟩)

def AExit.inBlock (id : Nat) (Q : AExit → St → Prop) : AExit → St → Prop
  | .exit id', s => if id' = id then Q .normal s else Q (.exit id') s
  | e, s => Q e s
@[simp] theorem AExit.inBlock_normal (id : Nat) : AExit.inBlock id Q .normal s = Q .normal s := rfl
@[simp] theorem AExit.inBlock_exit (id id' : Nat) : AExit.inBlock id Q (.exit id') s = if id' = id then Q .normal s else Q (.exit id') s := rfl
@[simp] theorem AExit.inBlock_goto (id l : Nat) : AExit.inBlock id Q (.goto l) s = Q (.goto l) s := rfl
@[simp] theorem AExit.inBlock_ret (id : Nat) : AExit.inBlock id Q .ret s = Q .ret s := rfl

theorem awp_block {id : Nat} {c : Code} (h : awp P E w0 I0 n c (AExit.inBlock id Q) X s) : awp P E w0 I0 n (.block id c) Q X s := by
  intro a w hR
  refine wp_block (wp_mono (h a w hR) fun e a' w' he => ?_)
  cases e with
  | normal => exact he
  | exit id' =>
    obtain ⟨s', h1, h2⟩ := he
    simp only [AExit.inBlock_exit] at h2
    simp only [Exit.inBlock]
    split
    · rename_i hq; rw [if_pos hq] at h2; exact ⟨s', h1, h2⟩
    · rename_i hq; rw [if_neg hq] at h2; exact ⟨s', h1, h2⟩
  | goto l => exact he
  | ret => exact he
  | panic ch => exact he
  | outgrown => exact he

theorem awp_mono {c : Code} {Q' : AExit → St → Prop} (h : awp P E w0 I0 n c Q X s) (hq : ∀ e s, Q e s → Q' e s) : awp P E w0 I0 n c Q' X s := by
  intro a w hR
  refine wp_mono (h a w hR) fun e a' w' he => ?_
  cases e with
  | normal => obtain ⟨s', h1, h2⟩ := he; exact ⟨s', h1, hq _ _ h2⟩
  | exit id => obtain ⟨s', h1, h2⟩ := he; exact ⟨s', h1, hq _ _ h2⟩
  | goto l => obtain ⟨s', h1, h2⟩ := he; exact ⟨s', h1, hq _ _ h2⟩
  | ret => obtain ⟨s', h1, h2⟩ := he; exact ⟨s', h1, hq _ _ h2⟩
  | panic ch => exact he
  | outgrown => exact he

/-- a scope without jumps to its labels -/
theorem awp_scope {c : Code} (h : awp P E w0 I0 n c (fun e s => match e with | .goto _ => False | e => Q e s) X s) : awp P E w0 I0 n (.scope c) Q X s := by
  intro a w hR
  refine wp_scope_straight (wp_mono (h a w hR) fun e a' w' he => ?_)
  cases e with
  | normal => exact he
  | exit id => exact he
  | goto l => obtain ⟨s', h1, h2⟩ := he; exact h2.elim
  | ret => exact he
  | panic ch => exact he
  | outgrown => exact he

/-- A LOOP: the state at the head of each round, by how many rounds are still to come at the most -/
theorem awp_loop {c : Code} (I : Nat → St → Prop) (m : Nat) (h0 : I m s) (round : ∀ m s, I m s → awp P E w0 I0 n c (AExit.then (fun s' => ∃ m', m' < m ∧ I m' s') Q) X s) : awp P E w0 I0 n (.loop c) Q X s := by
  intro a w hR b k cs
  have key : ∀ m s a w, I m s → Rel P E w0 I0 n s a w →
      ∃ e a' w', lift P E w0 I0 n Q X e a' w' ∧ Arrives P (lone (b.at a (.code c :: .inLoop c :: k)) cs w) b k cs e a' w' := by
    intro m
    induction m using Nat.strongRecOn with
    | _ m ih =>
      intro s a w hI hR
      obtain ⟨e, a₁, w₁, hq, harr⟩ := round m s hI a w hR b (.inLoop c :: k) cs
      cases e with
      | normal =>
        obtain ⟨s₁, hR₁, m', hlt, hI₁⟩ := hq
        obtain ⟨e₂, a₂, w₂, hq₂, harr₂⟩ := ih m' hlt s₁ a₁ w₁ hI₁ hR₁
        exact ⟨e₂, a₂, w₂, hq₂, .of_steps (Steps.trans harr (.one step_inLoop)) harr₂⟩
      | exit id => exact ⟨.exit id, a₁, w₁, hq, .pass (x := .inLoop c) rfl (fun _ _ => .inl (by simp)) harr⟩
      | goto l => exact ⟨.goto l, a₁, w₁, hq, .pass (x := .inLoop c) rfl (fun _ _ => .inl (by simp)) harr⟩
      | ret => exact ⟨.ret, a₁, w₁, hq, .pass (x := .inLoop c) rfl (fun _ _ => .inl (by simp)) harr⟩
      | panic ch => exact ⟨.panic ch, a₁, w₁, hq, .pass (x := .inLoop c) rfl (fun _ _ => .inl (by simp)) harr⟩
      | outgrown => exact hq.elim
  obtain ⟨e, a', w', hq, harr⟩ := key m s a w h0 hR
  exact ⟨e, a', w', hq, .of_steps (.one step_loop) harr⟩

/-- the state is weakened -/
theorem awp_weak {c : Code} {s' : St} (h : ∀ a w, Rel P E w0 I0 n s a w → Rel P E w0 I0 n s' a w) (h' : awp P E w0 I0 n c Q X s') : awp P E w0 I0 n c Q X s := fun a w hR => h' a w (h a w hR)

end
end Go.Ev
