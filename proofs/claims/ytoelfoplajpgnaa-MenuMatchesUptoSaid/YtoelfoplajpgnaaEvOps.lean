import Derived.Test.YtoelfoplajpgnaaEvCore
set_option linter.unusedVariables false
set_option linter.unusedSimpArgs false
set_option linter.unusedSectionVars false

namespace Go.Ev
open Go

def agg? (P : Program) (t : TypeId) : Option Bool :=
  match P.underlying t with
  | some (.struct _) | some (.array _ _) => some true
  | some _ => some false
  | none => none

theorem run_isAgg {P : Program} {t : TypeId} {b : Bool} (h : agg? P t = some b) (w : World) : (isAgg t).run P w = .ok b w := by
  unfold agg? at h
  cases hu : P.underlying t with
  | none => simp [hu] at h
  | some d =>
    unfold isAgg
    rw [Sem.run_bind, run_underlying hu w]
    cases d <;> simp_all

theorem run_sizeOf {P : Program} {t : TypeId} {k : Nat} (h : P.cellsOf t = k) (hk : 0 < k) (w : World) : (sizeOf t).run P w = .ok k w := by
  unfold Program.cellsOf at h
  cases hi : P.info? t with
  | none => simp [hi] at h; omega
  | some i =>
    simp [hi] at h
    simp [sizeOf, typeInfo, hi, h]

theorem add_add (a : Addr) (i j : Nat) : (a.add i).add j = a.add (i + j) := by
  unfold Addr.add
  by_cases hi : i = 0 <;> by_cases hj : j = 0 <;> simp [hi, hj, Nat.add_assoc]

theorem add_zero (a : Addr) : a.add 0 = a := by simp [Addr.add]

/-- a variable of type t is read, its cells being these -/
theorem run_loadVar {P : Program} {w : World} {t : TypeId} {p : Addr} {vs : List Value} (hc : ∀ (j : Nat) (v : Value), vs[j]? = some v → w.cell? (p.add j) = some v)
    {b : Bool} (hb : agg? P t = some b) (hs : 0 < P.cellsOf t) (hl : P.cellsOf t ≤ vs.length) :
    (loadVar t p).run P w = .ok (if b then .agg (vs.take (P.cellsOf t)).toArray else vs.headD undef) w := by
  unfold loadVar
  rw [Sem.run_bind, run_isAgg hb]
  simp only [Result.andThen_ok]
  cases b with
  | true =>
    simp only [if_true]
    have hload : (loadCells p (vs.take (P.cellsOf t)).length).run P w = .ok (vs.take (P.cellsOf t)).toArray w :=
      run_loadCells_list (P := P) w p (vs.take (P.cellsOf t)) (fun j v hv => by
        rw [List.getElem?_take] at hv
        split at hv
        · exact hc j v hv
        · cases hv)
    have hlen : (vs.take (P.cellsOf t)).length = P.cellsOf t := by simp; omega
    rw [hlen] at hload
    rw [Sem.run_bind, run_sizeOf rfl hs]
    simp only [Result.andThen_ok]
    rw [Sem.run_bind, hload]
    rfl
  | false =>
    cases vs with
    | nil => simp at hl; omega
    | cons v rest =>
      have := hc 0 v rfl
      rw [add_zero] at this
      simp [this]

/-- the cells from p on hold these -/
def CellsAt (w : World) (I : Cells) (p : Addr) (cs : List AV) (vs : List Value) : Prop :=
  vs.length = cs.length ∧ (∀ (j : Nat) (v : Value), vs[j]? = some v → w.cell? (p.add j) = some v) ∧ ∀ (j : Nat) (v : Value) (c : AV), vs[j]? = some v → cs[j]? = some c → Rep w I v c

theorem CellsAt.drop {w : World} {I : Cells} {p : Addr} {cs : List AV} {vs : List Value} (h : CellsAt w I p cs vs) (k : Nat) : CellsAt w I (p.add k) (cs.drop k) (vs.drop k) := by
  refine ⟨by simp [h.1], fun j v hv => ?_, fun j v c hv hc => ?_⟩
  · rw [List.getElem?_drop] at hv
    rw [add_add]; exact h.2.1 _ _ hv
  · rw [List.getElem?_drop] at hv hc
    exact h.2.2 _ _ _ hv hc

theorem cellsAt_of {w : World} {I : Cells} {p : Addr} {cs : List AV} (f : Nat → Value) (h1 : ∀ (j : Nat) (c : AV), cs[j]? = some c → w.cell? (p.add j) = some (f j)) (h2 : ∀ (j : Nat) (c : AV), cs[j]? = some c → Rep w I (f j) c) :
    CellsAt w I p cs ((List.range cs.length).map f) := by
  refine ⟨by simp, fun j v hv => ?_, fun j v c hv hc => ?_⟩
  · simp only [List.getElem?_map, Option.map_eq_some_iff] at hv
    obtain ⟨k, hk, rfl⟩ := hv
    have hj : j < cs.length := by
      have := (List.getElem?_eq_some_iff.1 hk).1; simpa using this
    rw [List.getElem?_range hj] at hk
    injection hk with hk; subst hk
    exact h1 j cs[j] (List.getElem?_eq_getElem hj)
  · simp only [List.getElem?_map, Option.map_eq_some_iff] at hv
    obtain ⟨k, hk, rfl⟩ := hv
    have hj := (List.getElem?_eq_some_iff.1 hc).1
    rw [List.getElem?_range hj] at hk
    injection hk with hk; subst hk
    exact h2 j c hc

theorem Rep.ref_cells {w : World} {I : Cells} {v : Value} {cs : List AV} (h : Rep w I v (.ref cs)) : ∃ p vs, v = .pointer (some p) ∧ CellsAt w I p cs vs := by
  cases h with
  | ref p cs cv hc hI hr => exact ⟨p, _, rfl, cellsAt_of cv hc hr⟩

theorem getD_range_map {n : Nat} (f : Nat → Value) {j : Nat} (hj : j < n) : ((List.range n).map f)[j]? = some (f j) := by simp [hj]

def loadAV (P : Program) (t : TypeId) (cs : List AV) (K : AV → Prop) : Prop :=
  0 < P.cellsOf t ∧ P.cellsOf t ≤ cs.length ∧
  match agg? P t with
  | some true => K (.agg (cs.take (P.cellsOf t)))
  | some false => K (cs.headD (.fl undef))
  | none => False

theorem loadAV_fun {P : Program} {t : TypeId} {cs : List AV} {K : AV → Prop} (h : loadAV P t cs K) : ∃ y, K y ∧ loadAV P t cs (· = y) := by
  obtain ⟨h1, h2, h3⟩ := h
  cases hb : agg? P t with
  | none => simp [hb] at h3
  | some b => cases b with
    | true => simp only [hb] at h3; exact ⟨_, h3, h1, h2, by simp only [hb]⟩
    | false => simp only [hb] at h3; exact ⟨_, h3, h1, h2, by simp only [hb]⟩

theorem loadAV_sound {P : Program} {w : World} {I : Cells} {t : TypeId} {p : Addr} {cs : List AV} {vs : List Value} {K : AV → Prop} (hc : CellsAt w I p cs vs) (h : loadAV P t cs K) :
    ∃ v x, (loadVar t p).run P w = .ok v w ∧ Rep w I v x ∧ K x := by
  obtain ⟨h1, h2, h3⟩ := h
  cases hb : agg? P t with
  | none => simp [hb] at h3
  | some b =>
    have hr := run_loadVar hc.2.1 hb h1 (by rw [hc.1]; exact h2)
    cases b with
    | true =>
      simp only [hb] at h3
      refine ⟨_, _, hr, ?_, h3⟩
      simp only [if_true]
      refine .agg _ _ (by simp [hc.1]) fun j c hj => ?_
      rw [List.getElem?_take] at hj
      split at hj
      · rename_i hlt
        have hjv : j < vs.length := by rw [hc.1]; exact (List.getElem?_eq_some_iff.1 hj).1
        have := hc.2.2 j vs[j] c (List.getElem?_eq_getElem hjv) hj
        simpa [List.getElem?_take, hlt, hjv] using this
      · cases hj
    | false =>
      simp only [hb] at h3
      refine ⟨_, _, hr, ?_, h3⟩
      cases cs with
      | nil => simp at h2; omega
      | cons c rest =>
        cases vs with
        | nil => simp [CellsAt] at hc
        | cons v vrest => exact hc.2.2 0 v c rfl rfl

/-! ### Operations -/

/-- what is asked of an operation at an abstract state: K of the state behind it; X: what is thrown -/
def Sound (P : Program) (E : Env) (w0 : World) (I0 : Cells) (n : Nat) (o : Oper) (s : St) (K : St → Prop) : Prop :=
  ∀ a w, Rel P E w0 I0 n s a w → ∀ Qc, o.wp P a w (fun a' w' => ∃ s', Rel P E w0 I0 n s' a' w' ∧ K s') Qc

/-- an operation that hands back a value -/
theorem wp_value {P : Program} {o : Oper} {a : Act} {w w' : World} {v : Value} {next : Act → World → Prop} {Q : Exit → Act → World → Prop} (h : (execOp a.eval o).run P w = .ok (.value v) w') (hn : next (a.put o.dst v) w') : o.wp P a w next Q := by
  unfold Oper.wp
  rw [h]
  exact hn

section
variable {P : Program} {E : Env} {w0 : World} {I0 : Cells} {n : Nat} {o : Oper} {s : St} {K : St → Prop}

/-- the operation's operands are temporaries of the frame, or constants of one cell (or structs of such) -/
def okOper (n : Nat) (o : Oper) : Bool := o.op.operands.all fun x => operandOk x && match x with | .tmp t => decide (t < n) | _ => true

theorem okOper_ev (hok : okOper n o = true) {x : Operand} (hx : x ∈ o.op.operands) {a : Act} {w : World} {I : Cells} {be : Nat → Option Nat} (h : RelAt P E w0 I0 n s a w I be) : regRep P w I be s.b s.g (a.eval x) (s.ev x) := by
  have := Array.all_eq_true'.1 hok x hx
  simp only [Bool.and_eq_true] at this
  refine h.ev x this.1 fun t ht => ?_
  subst ht
  simpa using this.2

/-- whatever the frame and the world, the operation yields a value that this word fits, in that very world -/
def Yield (P : Program) (E : Env) (w0 : World) (I0 : Cells) (n : Nat) (o : Oper) (s : St) (r : Reg) : Prop :=
  ∀ a w I be, RelAt P E w0 I0 n s a w I be → ∃ v, (execOp a.eval o).run P w = .ok (.value v) w ∧ regRep P w I be s.b s.g v r

theorem sound_value (r : Reg) (hK : K (s.put o.dst r)) (h : ∀ a w I be, RelAt P E w0 I0 n s a w I be → ∃ v, (execOp a.eval o).run P w = .ok (.value v) w ∧ regRep P w I be s.b s.g v r) : Sound P E w0 I0 n o s K := by
  rintro a w ⟨I, be, hR⟩ Qc
  obtain ⟨v, hr, hv⟩ := h a w I be hR
  exact wp_value hr ⟨_, ⟨I, be, hR.put o.dst hv⟩, hK⟩

theorem yield_move {x : Operand} (ho : o.op = .move x) (hok : okOper n o = true) : Yield P E w0 I0 n o s (s.ev x) :=
  fun a w I be hR => ⟨a.eval x, by simp [execOp, ho], okOper_ev hok (by simp [ho, Op.operands]) hR⟩

/-- a plain assignment (of what is no view) -/
theorem yield_assign {x : Operand} (ho : o.op = .assign x) (hok : okOper n o = true) : Yield P E w0 I0 n o s (s.ev x) :=
  fun a w I be hR => ⟨a.eval x, by simp [execOp, ho], okOper_ev hok (by simp [ho, Op.operands]) hR⟩

theorem rep_fl {w : World} {I : Cells} {v u : Value} (h : Rep w I v (.fl u)) : v = u := by cases h; rfl

theorem yield_pick {c x y : Operand} (ho : o.op = .pick c x y) (hok : okOper n o = true) {b : Bool} (hc : s.ev c = .val (.fl (.bool b))) : Yield P E w0 I0 n o s (if b then s.ev x else s.ev y) :=
  fun a w I be hR => by
    have h1 := okOper_ev hok (x := c) (by simp [ho, Op.operands]) hR
    have h2 := okOper_ev hok (x := x) (by simp [ho, Op.operands]) hR
    have h3 := okOper_ev hok (x := y) (by simp [ho, Op.operands]) hR
    rw [hc] at h1
    have h4 := rep_fl h1
    cases b with
    | true => exact ⟨a.eval x, by simp [execOp, ho, h4, asBool], h2⟩
    | false => exact ⟨a.eval y, by simp [execOp, ho, h4, asBool], h3⟩

theorem yield_extract {x : Operand} {k : Nat} (ho : o.op = .extract x k) (hok : okOper n o = true) {rs : List Reg} {r : Reg} (hx : s.ev x = .tup rs) (hr : rs[k]? = some r) : Yield P E w0 I0 n o s r :=
  fun a w I be hR => by
    have h1 := okOper_ev hok (x := x) (by simp [ho, Op.operands]) hR
    rw [hx] at h1
    obtain ⟨vs, e1, e2, e3⟩ := h1
    have hk : k < vs.size := by rw [e2]; exact (List.getElem?_eq_some_iff.1 hr).1
    have h3 := e3 k r hr
    refine ⟨vs.getD k undef, ?_, ?_⟩
    · simp [execOp, ho, e1, Instr.extract, hk]
    · cases r <;> first | exact h3 | trivial | exact h3.elim

/-- an address among those that stay is read -/
theorem yield_load_ref {t : TypeId} {x : Operand} (ho : o.op = .load t x) (hok : okOper n o = true) {cs : List AV} (hx : s.ev x = .val (.ref cs)) {K : AV → Prop} (hK : loadAV P t cs K) : ∃ v, K v ∧ Yield P E w0 I0 n o s (.val v) := by
  have key : ∀ (a : Act) (w : World) (I : Cells) (be : Nat → Option Nat), RelAt P E w0 I0 n s a w I be → ∀ K : AV → Prop, loadAV P t cs K → ∃ v y, (execOp a.eval o).run P w = .ok (.value v) w ∧ Rep w I v y ∧ K y := by
    intro a w I be hR K hK
    have h1 := okOper_ev hok (x := x) (by simp [ho, Op.operands]) hR
    rw [hx] at h1
    obtain ⟨p, vs, e1, hc⟩ := Rep.ref_cells h1
    obtain ⟨v, y, hrun, hrep, hk⟩ := loadAV_sound hc hK
    exact ⟨v, y, by simp [execOp, ho, e1, Instr.loadAt, Instr.sureAddr, hrun], hrep, hk⟩
  obtain ⟨y, hy, hy'⟩ := loadAV_fun hK
  refine ⟨y, hy, fun a w I be hR => ?_⟩
  obtain ⟨v, y', h1, h2, rfl⟩ := key a w I be hR _ hy'
  exact ⟨v, h1, h2⟩

end

def regAV : Reg → Option AV
  | .val v => some v
  | .full xs => some (.sl xs)
  | _ => none
def regAVs : List Reg → Option (List AV)
  | [] => some []
  | r :: rs => match regAV r, regAVs rs with
    | some x, some xs => some (x :: xs)
    | _, _ => none

theorem regAV_rep {P : Program} {w : World} {I : Cells} {be : Nat → Option Nat} {b : Nat → Option Bx} {g : Nat → Nat} {v : Value} {r : Reg} {x : AV} (h : regRep P w I be b g v r) (hr : regAV r = some x) : Rep w I v x := by
  cases r <;> simp [regAV] at hr
  · subst hr; exact h
  · subst hr; exact h.1

theorem regAVs_spec : ∀ {rs : List Reg} {xs : List AV}, regAVs rs = some xs → xs.length = rs.length ∧ ∀ (j : Nat) (r : Reg) (x : AV), rs[j]? = some r → xs[j]? = some x → regAV r = some x
  | [], xs, h => by simp [regAVs] at h; subst h; simp
  | r :: rs, xs, h => by
    simp only [regAVs] at h
    cases h1 : regAV r with
    | none => simp [h1] at h
    | some y =>
      cases h2 : regAVs rs with
      | none => simp [h1, h2] at h
      | some ys =>
        simp only [h1, h2, Option.some.injEq] at h
        subst h
        obtain ⟨hl, hj⟩ := regAVs_spec h2
        refine ⟨by simp [hl], fun j r' x' hr hx => ?_⟩
        cases j with
        | zero => simp at hr hx; subst hr hx; exact h1
        | succ j => exact hj j r' x' (by simpa using hr) (by simpa using hx)

def loadRegs (P : Program) (t : TypeId) (cs : List Reg) (K : Reg → Prop) : Prop :=
  0 < P.cellsOf t ∧ P.cellsOf t ≤ cs.length ∧
  match agg? P t with
  | some true => ∃ xs, regAVs (cs.take (P.cellsOf t)) = some xs ∧ K (.val (.agg xs))
  | some false => K (cs.headD .none)
  | none => False

/-- the cells from p on hold what these registers say -/
def RegsAt (P : Program) (w : World) (I : Cells) (be : Nat → Option Nat) (b : Nat → Option Bx) (g : Nat → Nat) (p : Addr) (cs : List Reg) (vs : List Value) : Prop :=
  vs.length = cs.length ∧ (∀ (j : Nat) (v : Value), vs[j]? = some v → w.cell? (p.add j) = some v) ∧ ∀ (j : Nat) (v : Value) (c : Reg), vs[j]? = some v → cs[j]? = some c → regRep P w I be b g v c

section
variable {P : Program} {E : Env} {w0 : World} {I0 : Cells} {n : Nat} {o : Oper} {s : St} {K : St → Prop} {w : World} {I : Cells} {be : Nat → Option Nat} {b : Nat → Option Bx} {g : Nat → Nat}

theorem loadRegs_sound {t : TypeId} {p : Addr} {cs : List Reg} {vs : List Value} {K : Reg → Prop} (hc : RegsAt P w I be b g p cs vs) (h : loadRegs P t cs K) :
    ∃ v r, (loadVar t p).run P w = .ok v w ∧ regRep P w I be b g v r ∧ K r := by
  obtain ⟨h1, h2, h3⟩ := h
  cases hb : agg? P t with
  | none => simp [hb] at h3
  | some q =>
    have hr := run_loadVar hc.2.1 hb h1 (by rw [hc.1]; exact h2)
    cases q with
    | true =>
      simp only [hb] at h3
      obtain ⟨xs, hxs, hK⟩ := h3
      obtain ⟨hl, hsp⟩ := regAVs_spec hxs
      refine ⟨_, _, hr, ?_, hK⟩
      simp only [if_true]
      refine Rep.agg _ _ (by simp [hc.1, hl]) fun j c hj => ?_
      have hjl : j < (cs.take (P.cellsOf t)).length := by rw [← hl]; exact (List.getElem?_eq_some_iff.1 hj).1
      have hjn : j < P.cellsOf t := by simp at hjl; omega
      have hjc : j < cs.length := by simp at hjl; omega
      have hjv : j < vs.length := by rw [hc.1]; exact hjc
      have hcs : (cs.take (P.cellsOf t))[j]? = some cs[j] := by simp [hjn, hjc]
      have h4 := hc.2.2 j vs[j] cs[j] (List.getElem?_eq_getElem hjv) (List.getElem?_eq_getElem hjc)
      have h5 := regAV_rep h4 (hsp j _ _ hcs hj)
      simpa [List.getElem?_take, hjn, hjv] using h5
    | false =>
      simp only [hb] at h3
      refine ⟨_, _, hr, ?_, h3⟩
      cases cs with
      | nil => simp at h2; omega
      | cons c rest =>
        cases vs with
        | nil => simp [RegsAt] at hc
        | cons v vrest => exact hc.2.2 0 v c rfl rfl

theorem regsAt_box {d : Nat} {cs : List Reg} {B : Nat} (h : boxRep P w I be b g d (.cells cs)) (hB : be d = some B) (k : Nat) : ∃ cur t, w.heap[B]? = some (.cells cur t (0, 0)) ∧ cur.size = cs.length ∧ RegsAt P w I be b g ⟨B, k, none⟩ (cs.drop k) (cur.toList.drop k) := by
  obtain ⟨B', cur, t, h1, h2, h3, h4⟩ := h
  rw [hB] at h1
  injection h1 with h1
  subst h1
  refine ⟨cur, t, h2, h3, by simp [h3], fun j v hv => ?_, fun j v c hv hc => ?_⟩
  · rw [addr_add, cell_at h2]
    simpa [List.getElem?_drop] using hv
  · rw [List.getElem?_drop] at hv hc
    have := h4 _ _ hc
    rw [Array.getElem?_toList] at hv
    simpa [hv] using this

theorem cellsAt_arr {d : Nat} {e : TypeId} {xs : List AV} {B : Nat} (h : boxRep P w I be b g d (.arr e xs)) (hB : be d = some B) {i : Nat} {x : AV} (hx : xs[i]? = some x) :
    ∃ vs, CellsAt w I ⟨B, i * P.cellsOf e, none⟩ x.cells vs := by
  obtain ⟨h1, h2, h3, h4⟩ := h
  simp only [hB] at h4
  obtain ⟨cur, cap, hw, hs, hm, hl, hel⟩ := h4
  refine ⟨_, cellsAt_of (fun j => cur.getD (i * P.cellsOf e + j) undef) (fun j c hc => ?_) (fun j c hc => hel i j x c hx hc)⟩
  have hjl : j < P.cellsOf e := by rw [← (h3 _ _ hx).1]; exact (List.getElem?_eq_some_iff.1 hc).1
  have hil : i < xs.length := (List.getElem?_eq_some_iff.1 hx).1
  rw [addr_add, cell_at hw, getD_some]
  rw [hs]
  exact slot_lt hil hl hjl

theorem loadRegs_fun {t : TypeId} {cs : List Reg} {K : Reg → Prop} (h : loadRegs P t cs K) : ∃ y, K y ∧ loadRegs P t cs (· = y) := by
  obtain ⟨h1, h2, h3⟩ := h
  cases hb : agg? P t with
  | none => simp [hb] at h3
  | some b => cases b with
    | true =>
      simp only [hb] at h3
      obtain ⟨xs, hx, hk⟩ := h3
      exact ⟨_, hk, h1, h2, by simp only [hb]; exact ⟨xs, hx, rfl⟩⟩
    | false => simp only [hb] at h3; exact ⟨_, h3, h1, h2, by simp only [hb]⟩

/-- a box's cell is read -/
theorem yield_load_cells {t : TypeId} {x : Operand} (ho : o.op = .load t x) (hok : okOper n o = true) {d gg sz i k : Nat} (hx : s.ev x = .loc d gg sz i k) (hg : gg = s.g d) {cs : List Reg} (hb : s.b d = some (.cells cs)) {K : Reg → Prop} (hK : loadRegs P t (cs.drop (i * sz + k)) K) :
    ∃ r, K r ∧ Yield P E w0 I0 n o s r := by
  obtain ⟨y, hy, hy'⟩ := loadRegs_fun hK
  refine ⟨y, hy, fun a w I be hR => ?_⟩
  have h1 := okOper_ev hok (x := x) (by simp [ho, Op.operands]) hR
  rw [hx] at h1
  obtain ⟨B, hB, e1⟩ := h1.2 hg (by simp [hb])
  obtain ⟨cur, t', hw, hs, hat⟩ := regsAt_box (hR.boxes d _ hb) hB (i * sz + k)
  obtain ⟨v, r, hrun, hrep, rfl⟩ := loadRegs_sound hat hy'
  exact ⟨v, by simp [execOp, ho, e1, Instr.loadAt, Instr.sureAddr, hrun], hrep⟩

theorem yield_load_arr {t : TypeId} {x : Operand} (ho : o.op = .load t x) (hok : okOper n o = true) {d gg sz i k : Nat} (hx : s.ev x = .loc d gg sz i k) (hg : gg = s.g d) {e : TypeId} {xs : List AV} (hb : s.b d = some (.arr e xs)) (hsz : sz = P.cellsOf e) {y : AV} (hy : xs[i]? = some y) {K : AV → Prop} (hK : loadAV P t (y.cells.drop k) K) :
    ∃ r, K r ∧ Yield P E w0 I0 n o s (.val r) := by
  obtain ⟨z, hz, hz'⟩ := loadAV_fun hK
  refine ⟨z, hz, fun a w I be hR => ?_⟩
  have h1 := okOper_ev hok (x := x) (by simp [ho, Op.operands]) hR
  rw [hx] at h1
  obtain ⟨B, hB, e1⟩ := h1.2 hg (by simp [hb])
  subst hsz
  obtain ⟨vs, hat⟩ := cellsAt_arr (hR.boxes d _ hb) hB hy
  have hat' := hat.drop k
  rw [addr_add] at hat'
  obtain ⟨v, z', hrun, hrep, rfl⟩ := loadAV_sound hat' hz'
  exact ⟨v, by simp [execOp, ho, e1, Instr.loadAt, Instr.sureAddr, hrun], hrep⟩

theorem run_fieldAt {t : TypeId} {fs : Array Field} {f : Nat} {fd : Field} (ht : P.underlying t = some (.struct fs)) (hf : fs[f]? = some fd) (hs : 0 < P.cellsOf fd.type) (p : Addr) (w : World) :
    (Instr.fieldAt t (.pointer (some p)) f).run P w = .ok (.pointer (some (p.add fd.offset))) w := by
  have h0 : ¬ P.cellsOf fd.type = 0 := by omega
  simp [Instr.fieldAt, run_underlying ht, hf, Instr.sureAddr, fieldPlace, run_sizeOf rfl hs, h0]

theorem Rep.ref_at {w : World} {I : Cells} {v : Value} {cs : List AV} (h : Rep w I v (.ref cs)) : ∃ p, v = .pointer (some p) ∧ ∀ k, Rep w I (.pointer (some (p.add k))) (.ref (cs.drop k)) := by
  cases h with
  | ref p cs cv hc hI hr =>
    refine ⟨p, rfl, fun k => .ref _ _ (fun j => cv (k + j)) (fun j c h => ?_) (fun j c h => ?_) (fun j c h => ?_)⟩ <;> rw [List.getElem?_drop] at h
    · rw [add_add]; exact hc _ _ h
    · rw [add_add]; exact hI _ _ h
    · exact hr _ _ h

theorem loc_at {d gg sz i k : Nat} {v : Value} (h : regRep P w I be b g v (.loc d gg sz i k)) (hg : gg = g d) (hb : b d ≠ none) : ∃ B, be d = some B ∧ v = .pointer (some ⟨B, i * sz + k, none⟩) := h.2 hg hb

theorem yield_fieldAddr_ref {t : TypeId} {x : Operand} {f : Nat} (ho : o.op = .fieldAddr t x f) (hok : okOper n o = true) {fs : Array Field} {fd : Field} (ht : P.underlying t = some (.struct fs)) (hf : fs[f]? = some fd) (hs : 0 < P.cellsOf fd.type)
    {cs : List AV} (hx : s.ev x = .val (.ref cs)) : Yield P E w0 I0 n o s (.val (.ref (cs.drop fd.offset))) :=
  fun a w I be hR => by
    have h1 := okOper_ev hok (x := x) (by simp [ho, Op.operands]) hR
    rw [hx] at h1
    obtain ⟨p, e1, hp⟩ := Rep.ref_at h1
    exact ⟨.pointer (some (p.add fd.offset)), by simp [execOp, ho, e1, run_fieldAt ht hf hs], hp _⟩

theorem yield_fieldAddr_loc {t : TypeId} {x : Operand} {f : Nat} (ho : o.op = .fieldAddr t x f) (hok : okOper n o = true) {fs : Array Field} {fd : Field} (ht : P.underlying t = some (.struct fs)) (hf : fs[f]? = some fd) (hs : 0 < P.cellsOf fd.type)
    {d gg sz i k : Nat} (hx : s.ev x = .loc d gg sz i k) (hg : gg = s.g d) (hb : s.b d ≠ none) : Yield P E w0 I0 n o s (.loc d gg sz i (k + fd.offset)) :=
  fun a w I be hR => by
    have h1 := okOper_ev hok (x := x) (by simp [ho, Op.operands]) hR
    rw [hx] at h1
    obtain ⟨B, hB, e1⟩ := loc_at h1 hg hb
    refine ⟨.pointer (some ((⟨B, i * sz + k, none⟩ : Addr).add fd.offset)), by simp [execOp, ho, e1, run_fieldAt ht hf hs], h1.1, fun _ _ => ⟨B, hB, ?_⟩⟩
    rw [addr_add, Nat.add_assoc]

theorem run_indexAt_slice {t e : TypeId} (ht : P.underlying t = some (.slice e)) (hs : 0 < P.cellsOf e) (p : Addr) (len cap : Nat) (k : IntKind) (m : Int) (h0 : 0 ≤ m) (h1 : m < len) (w : World) :
    (Instr.indexAt t (.slice (some p) len cap) (.int k m)).run P w = .ok (.pointer (some (p.add (m.toNat * P.cellsOf e)))) w := by
  simp [Instr.indexAt, asIntOf, run_underlying ht, run_sizeOf rfl hs, h0, h1]

theorem yield_indexAddr_sl {t e : TypeId} {x y : Operand} (ho : o.op = .indexAddr t x y) (hok : okOper n o = true) (ht : P.underlying t = some (.slice e)) {xs : List AV} {k : IntKind} {m : Int}
    (hx : regAV (s.ev x) = some (.sl xs)) (hy : s.ev y = .val (.fl (.int k m))) (h0 : 0 ≤ m) {z : AV} (hz : xs[m.toNat]? = some z) (hs : 0 < P.cellsOf e) (hsz : z.cells.length = P.cellsOf e) : Yield P E w0 I0 n o s (.val (.ref z.cells)) :=
  fun a w I be hR => by
    have h1 := regAV_rep (okOper_ev hok (x := x) (by simp [ho, Op.operands]) hR) hx
    have h2 := okOper_ev hok (x := y) (by simp [ho, Op.operands]) hR
    rw [hy] at h2
    have e2 := rep_fl h2
    have hl : m.toNat < xs.length := (List.getElem?_eq_some_iff.1 hz).1
    generalize hv : a.eval x = v at *
    cases h1 with
    | slNone c => simp at hl
    | sl p n' cap sz xs cv hn hcap hmax hsz' hc hI hr =>
      have hq := (hsz' _ _ hz).1
      have : sz = P.cellsOf e := by rw [← hsz, hq]
      subst this
      refine ⟨.pointer (some (p.add (m.toNat * P.cellsOf e))), ?_, .ref _ _ (fun j => cv m.toNat j) (fun j c h => ?_) (fun j c h => ?_) (fun j c h => ?_)⟩
      · simp [execOp, ho, hv, e2, run_indexAt_slice ht hs p n' cap k m h0 (by omega)]
      · rw [add_add]; exact hc _ _ _ _ hz h
      · rw [add_add]; exact hI _ _ _ _ hz h
      · exact hr _ _ _ _ hz h

theorem view_at {d gg off len : Nat} {v : Value} (h : regRep P w I be b g v (.view d gg off len)) (hg : gg = g d) {e : TypeId} {xs : List AV} (hb : b d = some (.arr e xs)) :
    off + len ≤ xs.length ∧ match be d with
      | none => ∃ A, v = .slice A len 0
      | some B => ∃ cur cap A, w.heap[B]? = some (.cells cur e (0, 0)) ∧ cur.size = cap * P.cellsOf e ∧ v = .slice A len (cap - off) ∧ (off < cap → A = some ⟨B, off * P.cellsOf e, none⟩) := by
  have := h.2 hg
  unfold viewAt at this
  rw [hb] at this
  exact this

theorem yield_indexAddr_view {t e : TypeId} {x y : Operand} (ho : o.op = .indexAddr t x y) (hok : okOper n o = true) (ht : P.underlying t = some (.slice e)) {d gg off len : Nat} {k : IntKind} {m : Int} {xs : List AV}
    (hx : s.ev x = .view d gg off len) (hg : gg = s.g d) (hb : s.b d = some (.arr e xs)) (hy : s.ev y = .val (.fl (.int k m))) (h0 : 0 ≤ m) (h1 : m < len) : Yield P E w0 I0 n o s (.loc d gg (P.cellsOf e) (off + m.toNat) 0) :=
  fun a w I be hR => by
    have h3 := okOper_ev hok (x := x) (by simp [ho, Op.operands]) hR
    rw [hx] at h3
    have h2 := okOper_ev hok (x := y) (by simp [ho, Op.operands]) hR
    rw [hy] at h2
    have e2 := rep_fl h2
    have hbox := hR.boxes d _ hb
    obtain ⟨hl, hv⟩ := view_at h3 hg hb
    obtain ⟨hs, hmx, hel, hbB⟩ := hbox
    cases hB : be d with
    | none =>
      simp only [hB] at hbB
      subst hbB
      simp at hl; omega
    | some B =>
      simp only [hB] at hv hbB
      obtain ⟨cur, cap, A, hw, hcs, e1, hA⟩ := hv
      obtain ⟨cur', cap', hw', hcs', hcm, hlc, _⟩ := hbB
      rw [hw] at hw'
      injection hw' with hw'
      injection hw' with q1 q2
      subst q1
      have hcap : cap' = cap := (Nat.eq_of_mul_eq_mul_right hs (hcs.symm.trans hcs')).symm
      subst hcap
      have hoc : off < cap' := by omega
      obtain rfl := hA hoc
      refine ⟨.pointer (some ((⟨B, off * P.cellsOf e, none⟩ : Addr).add (m.toNat * P.cellsOf e))), ?_, h3.1, fun _ _ => ⟨B, hB, ?_⟩⟩
      · simp [execOp, ho, e1, e2, run_indexAt_slice ht hs _ len (cap' - off) k m h0 h1]
      · rw [addr_add, Nat.add_mul, Nat.add_zero]

end
end Go.Ev
