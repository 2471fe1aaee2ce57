import Derived.Test.YtoelfoplajpgnaaEvCall
set_option linter.unusedVariables false
set_option linter.unusedSimpArgs false
set_option linter.unusedSectionVars false

namespace Go.Ev
open Go

/-- a result: plain data; or a slice whose array is the caller's alone -/
inductive RV where
  | v (x : AV)
  | own (e : TypeId) (xs : List AV)
  deriving Inhabited

/-- how a call ends: it returns these, or throws that -/
inductive Out where
  | ret (rs : List RV)
  | pan (x : AV)
  deriving Inhabited

def rvRep (P : Program) (E : Env) (w : World) (I : Cells) (base : Nat) (bo : Option Nat) (v : Value) : RV → Prop
  | .v x => Rep w I v x
  | .own e xs => 0 < P.cellsOf e ∧ xs.length ≤ maxLen ∧ Elems P e xs ∧
    match bo with
    | none => xs = [] ∧ ∃ A, v = .slice A 0 0
    | some B => base ≤ B ∧ B < w.heap.size ∧ (∀ p, I p → p.block ≠ B) ∧ ¬ E.foot w B ∧ ∃ cur cap, w.heap[B]? = some (.cells cur e (0, 0)) ∧ cur.size = cap * P.cellsOf e ∧ cap ≤ maxLen ∧ xs.length ≤ cap ∧
      (∃ A, v = .slice A xs.length cap ∧ (0 < cap → A = some ⟨B, 0, none⟩)) ∧ ∀ (i j : Nat) (x c : AV), xs[i]? = some x → x.cells[j]? = some c → Rep w I (cur.getD (i * P.cellsOf e + j) undef) c

def resRep (P : Program) (E : Env) (w : World) (I : Cells) (base : Nat) (bo : Nat → Option Nat) (v : Value) : List RV → Prop
  | [r] => rvRep P E w I base (bo 0) v r
  | rs => ∃ vs : Array Value, v = .tuple vs ∧ vs.size = rs.length ∧ ∀ (j : Nat) (r : RV), rs[j]? = some r → rvRep P E w I base (bo j) (vs.getD j undef) r

def Post (P : Program) (E : Env) (w0 : World) (I0 : Cells) (w : World) : Out → Ending → Prop
  | .ret rs, e => ∃ v I bo, e = .returned v ∧ Since E w0 I0 w I ∧ resRep P E w I w0.heap.size bo v rs ∧ (∀ j j' B, bo j = some B → bo j' = some B → j = j') ∧ ∀ j B, bo j = some B → w0.heap.size ≤ B
  | .pan x, e => ∃ v I, e = .panicked [{ v := v, recovered := false }] ∧ Since E w0 I0 w I ∧ Rep w I v x

/-- WHAT A CALL DOES: of arguments that stand for these, in any world, it comes to that; of what there was nothing has turned but the environment's. -/
def Does (P : Program) (E : Env) (f : FuncId) (args : List AV) (out : Out) : Prop :=
  Go.Proofs.Enters P f ∧ ∀ (w0 : World) (I0 : Cells) (vs : Array Value), E.inv w0 → (∀ p, I0 p → p.block < w0.heap.size ∧ ¬ E.foot w0 p.block) → RepL w0 I0 vs.toList args → Calls P f vs w0 fun e w => Post P E.plain w0 I0 w out e

theorem Since.trans {E : Env} {w0 w w' : World} {I0 I I' : Cells} (h : Since E w0 I0 w I) (h' : Since E w I w' I') : Since E w0 I0 w' I' := by
  refine ⟨h'.os.trans h.os, h'.tape.trans h.tape, h'.output.trans h.output, Nat.le_trans h.size h'.size, fun k hk hf hl => ?_, fun b hb => ?_, h'.inv, fun p hp => h'.more p (h.more p hp), fun p hp => ?_, h'.lt, h'.off⟩
  · rw [h'.block k (Nat.lt_of_lt_of_le hk h.size) (fun hf' => by rcases h.foot k hf' with h1 | h1; exact hf h1; omega) hl]
    exact h.block k hk hf hl
  · rcases h'.foot b hb with h1 | h1
    · exact h.foot b h1
    · exact .inr (Nat.le_trans h.size h1)
  · rcases h'.new p hp with h1 | h1 | h1
    · exact h.new p h1
    · exact .inr (.inl (Nat.le_trans h.size h1))
    · exact .inr (.inr h1)

/-- what changes nothing that is lent -/
theorem Since.unplain {E : Env} {w w' : World} {I I' : Cells} (h : Since E.plain w I w' I') : Since E w I w' I' :=
  ⟨h.os, h.tape, h.output, h.size, fun k hk hf _ => h.block k hk hf (E.plain_lent k), h.foot, h.inv, h.more, fun p hp => (h.new p hp).imp id (fun h => h.imp id (fun h => (E.plain_lent _ h).elim)), h.lt, h.off⟩

theorem Since.refl {E : Env} {w : World} {I : Cells} (hinv : E.inv w) (hI : ∀ p, I p → p.block < w.heap.size ∧ ¬ E.foot w p.block) : Since E w I w I :=
  ⟨rfl, rfl, rfl, Nat.le_refl _, fun _ _ _ _ => rfl, fun _ h => .inl h, hinv, fun _ h => h, fun _ h => .inl h, fun p h => (hI p h).1, fun p h => (hI p h).2⟩

section
variable {P : Program} {E : Env} {w0 : World} {I0 : Cells} {n : Nat} {o : Oper} {s : St} {K : St → Prop} {a : Act} {w w' : World} {I I' : Cells} {be : Nat → Option Nat} {b : Nat → Option Bx} {g : Nat → Nat}

/-- a callee has run -/
theorem RelAt.called (h : RelAt P E w0 I0 n s a w I be) (h' : Since E.plain w I w' I') : RelAt P E w0 I0 n s a w' I' be := by
  have hB : ∀ d B, s.b d ≠ none → be d = some B → w'.heap[B]? = w.heap[B]? := fun d B hd hB => by
    obtain ⟨_, h2, _, h4⟩ := h.own d B hd hB
    exact h'.block B h2 h4 (E.plain_lent B)
  have hc : ∀ p v, I p → w.cell? p = some v → w'.cell? p = some v := fun p v hp hv => by
    rw [cell?_of_heap (h'.block p.block (h.since.lt p hp) (h.since.off p hp) (E.plain_lent _))]; exact hv
  have hd : ∀ d, s.g d < s.g d ∨ (s.g d = s.g d ∧ BoxKept P w w' be be s.b s.b d) := fun d => .inr ⟨rfl, .of_block rfl rfl (fun B hn => hB d B hn)⟩
  refine ⟨h.since.trans h'.unplain, h.size, h.defers, fun t ht => (h.regs t ht).keep h'.more hc hd, fun d x hx => (h.boxes d x hx).keep h'.more hc hd rfl (fun B => hB d B (by simp [hx])), h.inj, fun d B hd hBd => ?_, h.tie⟩
  obtain ⟨h1, h2, h3, h4⟩ := h.own d B hd hBd
  refine ⟨h1, Nat.lt_of_lt_of_le h2 h'.size, fun p hp e => ?_, fun hf => ?_⟩
  · rcases h'.new p hp with h5 | h5 | h5
    · exact h3 p h5 e
    · omega
    · exact (E.plain_lent _ h5).elim
  · rcases h'.foot B hf with h5 | h5
    · exact h4 h5
    · omega

def St.takeRV (s : St) (id : Nat) : RV → Reg × St
  | .v x => (.val x, s)
  | .own e xs => (.view id (s.g id + 1) 0 xs.length, { s with b := upd s.b id (some (.arr e xs)), g := upd s.g id (s.g id + 1) })

theorem RelAt.takeRV (h : RelAt P E w0 I0 n s a w I be) (id : Nat) {base : Nat} {bo : Option Nat} {v : Value} {r : RV} (hr : rvRep P E w I base bo v r) (hbase : w0.heap.size ≤ base)
    (hfree : ∀ B, bo = some B → ∀ d', d' ≠ id → s.b d' ≠ none → be d' ≠ some B) :
    ∃ be', RelAt P E w0 I0 n (s.takeRV id r).2 a w I be' ∧ regRep P w I be' (s.takeRV id r).2.b (s.takeRV id r).2.g v (s.takeRV id r).1 ∧
      (∀ d', d' ≠ id → be' d' = be d' ∧ (s.takeRV id r).2.b d' = s.b d') ∧ (∀ v r', regRep P w I be s.b s.g v r' → regRep P w I be' (s.takeRV id r).2.b (s.takeRV id r).2.g v r') ∧ ((s.takeRV id r).2.b id = s.b id ∧ be' id = be id ∨ be' id = bo) := by
  cases r with
  | v x => exact ⟨be, h, hr, fun _ _ => ⟨rfl, rfl⟩, fun _ _ h => h, .inl ⟨rfl, rfl⟩⟩
  | own e xs =>
    obtain ⟨h1, h2, h3, h4⟩ := hr
    have hx : boxRep P w I (upd be id bo) (upd s.b id (some (.arr e xs))) (upd s.g id (s.g id + 1)) id (.arr e xs) := by
      refine ⟨h1, h2, fun i x hi => h3 x (List.mem_of_getElem? hi), ?_⟩
      rw [upd_same]
      cases bo with
      | none => exact h4.1
      | some B =>
        obtain ⟨_, _, _, _, cur, cap, q1, q2, q3, q4, _, q6⟩ := h4
        exact ⟨cur, cap, q1, q2, q3, q4, q6⟩
    have hrc := h.recreate id (.arr e xs) bo hx (fun B hB => by
      subst hB
      obtain ⟨q1, q2, q3, q4, _⟩ := h4
      exact ⟨.inl (by omega), q2, q3, q4, fun d' hd hn => hfree B rfl d' hd hn⟩)
    refine ⟨upd be id bo, hrc, ⟨by simp [St.takeRV], fun _ => ?_⟩, fun d' hd => ⟨upd_ne _ _ hd, upd_ne _ _ hd⟩, fun v r' hr' => hr'.keep (fun _ h => h) (fun _ _ _ h => h) (bump_kept id _ _), .inr (upd_same _ _ _)⟩
    simp only [St.takeRV]
    unfold viewAt
    simp only [upd_same]
    cases bo with
    | none =>
      obtain ⟨rfl, A, rfl⟩ := h4
      exact ⟨by simp, A, rfl⟩
    | some B =>
      obtain ⟨_, _, _, _, cur, cap, q1, q2, q3, q4, ⟨A, q5, q6⟩, _⟩ := h4
      exact ⟨by omega, cur, cap, A, q1, q2, by simpa using q5, fun hc => by simpa using q6 hc⟩

/-- the boxes of a tuple's parts -/
def fid (d j : Nat) : Nat := 1000 * (d + 1) + j

def St.takeRVs (s : St) (d : Nat) : Nat → List RV → List Reg × St
  | _, [] => ([], s)
  | j, r :: rs => ((s.takeRV (fid d j) r).1 :: ((s.takeRV (fid d j) r).2.takeRVs d (j + 1) rs).1, ((s.takeRV (fid d j) r).2.takeRVs d (j + 1) rs).2)

/-- what a tuple's part may be -/
def partReg : Reg → Prop
  | .val _ => True
  | .view _ _ _ _ => True
  | _ => False

theorem takeRV_part (s : St) (id : Nat) (r : RV) : partReg (s.takeRV id r).1 := by cases r <;> trivial

theorem RelAt.takeRVs {base : Nat} {bo : Nat → Option Nat} (hbase : w0.heap.size ≤ base) (hinj : ∀ j j' B, bo j = some B → bo j' = some B → j = j') (d : Nat) : ∀ (rs : List RV) (j : Nat) (s : St) (be : Nat → Option Nat) (vs : List Value), RelAt P E w0 I0 n s a w I be →
    vs.length = rs.length → (∀ (k : Nat) (v : Value) (r : RV), vs[k]? = some v → rs[k]? = some r → rvRep P E w I base (bo (j + k)) v r) → (∀ k, j ≤ k → ∀ B, bo k = some B → ∀ d', s.b d' ≠ none → be d' = some B → ∃ k', j ≤ k' ∧ d' = fid d k') →
    (∀ k, j ≤ k → ∀ B, bo k = some B → ∀ k', j ≤ k' → s.b (fid d k') ≠ none → be (fid d k') ≠ some B) →
    ∃ be', RelAt P E w0 I0 n (s.takeRVs d j rs).2 a w I be' ∧ (s.takeRVs d j rs).1.length = rs.length ∧ (∀ (k : Nat) (v : Value) (r : Reg), vs[k]? = some v → (s.takeRVs d j rs).1[k]? = some r → regRep P w I be' (s.takeRVs d j rs).2.b (s.takeRVs d j rs).2.g v r ∧ partReg r) ∧
      (∀ v r', regRep P w I be s.b s.g v r' → regRep P w I be' (s.takeRVs d j rs).2.b (s.takeRVs d j rs).2.g v r')
  | [], j, s, be, vs, h, hl, hr, hf, hf2 => ⟨be, h, rfl, fun k v r hk hr' => by simp [St.takeRVs] at hr', fun _ _ h => h⟩
  | r :: rs, j, s, be, [], h, hl, hr, hf, hf2 => by simp at hl
  | r :: rs, j, s, be, v :: vs, h, hl, hr, hf, hf2 => by
    obtain ⟨be1, h1, h2, h3, h4, h5⟩ := h.takeRV (fid d j) (bo := bo j) (hr 0 v r rfl rfl) hbase (fun B hB d' hd hn he => by
      obtain ⟨k', hk', rfl⟩ := hf j (Nat.le_refl _) B hB d' hn he
      exact hf2 j (Nat.le_refl _) B hB k' hk' hn he)
    have hfidne : ∀ k k', k ≠ k' → fid d k ≠ fid d k' := fun k k' h e => by simp only [fid] at e; omega
    obtain ⟨be2, g1, g2, g3, g4⟩ := RelAt.takeRVs hbase hinj d rs (j + 1) (s.takeRV (fid d j) r).2 be1 vs h1 (by simpa using hl)
      (fun k v' r' hv hr' => by have := hr (k + 1) v' r' (by simpa using hv) (by simpa using hr'); simpa [Nat.add_assoc, Nat.add_comm 1] using this)
      (fun k hk B hB d' hn he => by
        by_cases e : d' = fid d j
        · subst e
          rcases h5 with ⟨q1, q2⟩ | q
          · rw [q1] at hn; rw [q2] at he
            exact absurd he (hf2 k (by omega) B hB j (Nat.le_refl _) hn)
          · rw [q] at he
            have := hinj k j B hB he
            omega
        · obtain ⟨q1, q2⟩ := h3 d' e
          rw [q1] at he; rw [q2] at hn
          obtain ⟨k', hk', rfl⟩ := hf k (by omega) B hB d' hn he
          exact absurd he (hf2 k (by omega) B hB k' hk' hn))
      (fun k hk B hB k' hk' hn he => by
        obtain ⟨q1, q2⟩ := h3 (fid d k') (hfidne _ _ (by omega))
        rw [q1] at he; rw [q2] at hn
        exact hf2 k (by omega) B hB k' (by omega) hn he)
    refine ⟨be2, g1, by simp [St.takeRVs, g2], fun k v' r' hv hr' => ?_, fun v r' h' => g4 _ _ (h4 _ _ h')⟩
    cases k with
    | zero =>
      simp [St.takeRVs] at hv hr'
      subst hv hr'
      exact ⟨g4 _ _ h2, takeRV_part _ _ _⟩
    | succ k => exact g3 k v' r' (by simpa using hv) (by simpa [St.takeRVs] using hr')

/-- the state behind a call -/
def St.take (s : St) (dst : Option Nat) : List RV → St
  | [r] => match dst with
    | some d => ((s.takeRV d r).2).put (some d) (s.takeRV d r).1
    | none => s
  | rs => match dst with
    | some d => ((s.takeRVs d 0 rs).2).put (some d) (.tup (s.takeRVs d 0 rs).1)
    | none => s

theorem RelAt.take (h : RelAt P E w0 I0 n s a w I be) {bo : Nat → Option Nat} {base : Nat} {v : Value} {rs : List RV} (hr : resRep P E w I base bo v rs) (hinj : ∀ j j' B, bo j = some B → bo j' = some B → j = j')
    (hbase : w0.heap.size ≤ base) (hfresh : ∀ k B, bo k = some B → ∀ d', s.b d' ≠ none → be d' ≠ some B) (dst : Option Nat) : ∃ be', RelAt P E w0 I0 n (s.take dst rs) (a.put dst v) w I be' := by
  have many : ∀ rs : List RV, (∃ vs : Array Value, v = .tuple vs ∧ vs.size = rs.length ∧ ∀ (j : Nat) (r : RV), rs[j]? = some r → rvRep P E w I base (bo j) (vs.getD j undef) r) → ∀ d, ∃ be', RelAt P E w0 I0 n (((s.takeRVs d 0 rs).2).put (some d) (.tup (s.takeRVs d 0 rs).1)) (a.put (some d) v) w I be' := by
    rintro rs ⟨vs, rfl, hl, hj⟩ d
    obtain ⟨be', g1, g2, g3, _⟩ := RelAt.takeRVs hbase hinj d rs 0 s be vs.toList h (by simpa using hl) (fun k v' r hv hr' => by
        have := hj k r hr'
        rw [Array.getElem?_toList] at hv
        simpa [hv] using this)
      (fun k _ B hB d' hn he => absurd he (hfresh k B hB d' hn)) (fun k _ B hB k' _ hn => hfresh k B hB _ hn)
    refine ⟨be', g1.put (some d) ⟨vs, rfl, by rw [g2]; exact hl, fun j r hr' => ?_⟩⟩
    have hjl : j < vs.size := by rw [hl, ← g2]; exact (List.getElem?_eq_some_iff.1 hr').1
    have := g3 j vs[j] r (by simp [hjl]) hr'
    have e : vs.getD j undef = vs[j] := by simp [hjl]
    rw [e]
    cases r with
    | val x => exact this.1
    | view d gg off len => exact this.1
    | none => exact this.2.elim
    | full xs => exact this.2.elim
    | loc d gg sz i k => exact this.2.elim
    | tup rs => exact this.2.elim
  match rs, hr with
  | [r], hr =>
    cases dst with
    | none => exact ⟨be, h⟩
    | some d =>
      obtain ⟨be', h1, h2, _⟩ := h.takeRV d (bo := bo 0) hr hbase (fun B hB d' _ hn => hfresh 0 B hB d' hn)
      exact ⟨be', h1.put (some d) h2⟩
  | [], hr =>
    cases dst with
    | none => exact ⟨be, h⟩
    | some d => exact many [] hr d
  | r :: r2 :: rs, hr =>
    cases dst with
    | none => exact ⟨be, h⟩
    | some d => exact many (r :: r2 :: rs) hr d

/-- what is asked of an operation, of what it may throw too -/
def SoundX (P : Program) (E : Env) (w0 : World) (I0 : Cells) (n : Nat) (o : Oper) (s : St) (K : St → Prop) (X : AV → Prop) : Prop :=
  ∀ a w, Rel P E w0 I0 n s a w → ∀ Qc : Exit → Act → World → Prop,
    (∀ (x : AV) (v : Value) (a' : Act) (w' : World) (I' : Cells), X x → Since E w0 I0 w' I' → Rep w' I' v x → a'.defers = [] → Qc (.panic [{ v := v, recovered := false }]) a' w') →
    o.wp P a w (fun a' w' => ∃ s', Rel P E w0 I0 n s' a' w' ∧ K s') Qc

theorem Sound.x (h : Sound P E w0 I0 n o s K) (X : AV → Prop) : SoundX P E w0 I0 n o s K X := fun a w hr Qc _ => h a w hr Qc

def outK (out : Out) (K : List RV → Prop) (X : AV → Prop) : Prop :=
  match out with
  | .ret rs => K rs
  | .pan y => X y

/-- the function that an operand is, and what it has captured -/
def calleeOf (s : St) (x : Operand) : Option (FuncId × List AV) :=
  match s.ev x with
  | .val (.fn f caps) => some (f, caps)
  | _ => none

theorem sound_call {x : Operand} {args : Array Operand} {argTypes : Array TypeId} (ho : o.op = .call { callee := .value x, args := args, argTypes := argTypes }) (hok : okOper n o = true) {f : FuncId} {caps xs : List AV} (hf : calleeOf s x = some (f, caps)) (hx : regAVsOf s args.toList = some xs)
    {out : Out} (hs : Does P E f (xs ++ caps) out) {X : AV → Prop} (hK : outK out (fun rs => K (s.take o.dst rs)) X) : SoundX P E w0 I0 n o s K X := by
  rintro a w ⟨I, be, hR⟩ Qc hQ
  obtain ⟨hent, hcall⟩ := hs
  have h1 := okOper_ev hok (x := x) (by simp [ho, Op.operands, Call.operands]) hR
  have hxr : s.ev x = .val (.fn f caps) := by
    unfold calleeOf at hf
    split at hf
    · rename_i f' c' h; simp only [Option.some.injEq, Prod.mk.injEq] at hf; rw [h, hf.1, hf.2]
    · cases hf
  rw [hxr] at h1
  obtain ⟨vs, e1, hcl, hcr⟩ : ∃ vs : Array Value, a.eval x = .func (.func f) #[] vs ∧ vs.size = caps.length ∧ ∀ (j : Nat) (c : AV), caps[j]? = some c → Rep w I (vs.getD j undef) c := by
    have h1' : Rep w I (a.eval x) (.fn f caps) := h1
    generalize a.eval x = u at *
    cases h1' with
    | fn f vs caps hl hr => exact ⟨vs, rfl, hl, hr⟩
  have hargs := regAVsOf_rep hok hR (ps := args.toList) (fun y hy => by simp [ho, Op.operands, Call.operands]; exact .inr (by simpa using hy)) hx
  have hall : RepL w I ((args.map a.eval) ++ vs).toList (xs ++ caps) := by
    refine ⟨by have := hargs.1; simp at this ⊢; omega, fun j v c hv hc => ?_⟩
    have hal : (args.map a.eval).toList.length = xs.length := by have := hargs.1; simpa using this
    simp only [Array.toList_append] at hv
    by_cases hj : j < xs.length
    · rw [List.getElem?_append_left (by omega)] at hv
      rw [List.getElem?_append_left hj] at hc
      exact hargs.2 j v c (by simpa using hv) hc
    · rw [List.getElem?_append_right (by omega)] at hv
      rw [List.getElem?_append_right (by omega)] at hc
      have := hcr _ c hc
      rw [hal, Array.getElem?_toList] at hv
      simpa [hv] using this
  have hc := hcall w I ((args.map a.eval) ++ vs) hR.since.inv (fun p hp => ⟨hR.since.lt p hp, hR.since.off p hp⟩) hall
  have hrun : (execOp a.eval o).run P w = .ok (.enter f ((args.map a.eval) ++ vs)) w := by
    simp only [execOp, ho, resolve, e1, Deferred.ofValue, Sem.run_bind, Sem.run_pure, Result.andThen_ok, invoke, Array.empty_append, hent ((args.map a.eval) ++ vs) w]
  unfold Oper.wp
  rw [hrun]
  simp only [Oper.upon_enter]
  refine hc.mono fun e w' hp => ?_
  cases out with
  | ret rs =>
    obtain ⟨v, I', bo, rfl, hs', hres, hinj, hlow⟩ := hp
    have hR' := hR.called hs'
    have hfresh : ∀ k B, bo k = some B → ∀ d', s.b d' ≠ none → be d' ≠ some B := fun k B hB d' hn he => by
      have h5 := (hR.own d' B hn he).2.1
      have := hlow k B hB
      omega
    obtain ⟨be', h6⟩ := hR'.take hres hinj hR.since.size hfresh o.dst
    exact ⟨_, ⟨I', be', h6⟩, hK⟩
  | pan y =>
    obtain ⟨v, I', rfl, hs', hrep⟩ := hp
    exact hQ y v a w' I' hK (hR.since.trans hs'.unplain) hrep hR.defers

end

/-! ### A callee that is given an array for good: it may write into it -/

def Env.lend (E : Env) (bo : Option Nat) : Env := { inv := E.inv, foot := E.foot, stays := E.stays, lt := E.lt, lentAt := fun d => if d = 0 then some bo else none }

/-- box 0 alone -/
def box0 (x : Bx) : Nat → Option Bx := fun d => if d = 0 then some x else none

/-- WHAT A CALL DOES that is given a box of its caller's: nothing is said of that box any more -/
def Takes (P : Program) (E : Env) (f : FuncId) (r0 : Reg) (x : Bx) (xs : List AV) (rs : List AV) : Prop :=
  Go.Proofs.Enters P f ∧ ∀ (w0 : World) (I0 : Cells) (bo : Option Nat) (v0 : Value) (vs : Array Value), E.inv w0 → (∀ p, I0 p → p.block < w0.heap.size ∧ ¬ E.foot w0 p.block) →
    regRep P w0 I0 (fun _ => bo) (box0 x) (fun _ => 0) v0 r0 → boxRep P w0 I0 (fun _ => bo) (box0 x) (fun _ => 0) 0 x → (∀ B, bo = some B → B < w0.heap.size ∧ (∀ p, I0 p → p.block ≠ B) ∧ ¬ E.foot w0 B) →
    RepL w0 I0 vs.toList xs → Calls P f (#[v0] ++ vs) w0 fun e w => ∃ v I, e = .returned v ∧ Since (E.lend bo) w0 I0 w I ∧ resRep P E w I w0.heap.size (fun _ => none) v (rs.map .v)

/-- an argument that is an array of the caller's -/
def takeArg (s : St) : Reg → Option (Nat × Reg × Bx)
  | .view d gg off len => if gg = s.g d then (s.b d).map fun x => (d, .view 0 0 off len, x) else none
  | _ => none

section
variable {P : Program} {E : Env} {w0 : World} {I0 : Cells} {n : Nat} {o : Oper} {s : St} {K : St → Prop} {a : Act} {w w' : World} {I I' : Cells} {be : Nat → Option Nat}

/-- what a box holds does not hang on the others, if it is an array -/
theorem boxRep_arr {be' : Nat → Option Nat} {b b' : Nat → Option Bx} {g g' : Nat → Nat} {d d' : Nat} {e : TypeId} {xs : List AV} (h : boxRep P w I be b g d (.arr e xs)) (hb : be' d' = be d) : boxRep P w I be' b' g' d' (.arr e xs) := by
  obtain ⟨h1, h2, h3, h4⟩ := h
  exact ⟨h1, h2, h3, by rw [hb]; exact h4⟩

/-- a callee has run that was given box d -/
theorem RelAt.took (h : RelAt P E w0 I0 n s a w I be) (d : Nat) (hd : s.b d ≠ none) (h' : Since (E.lend (be d)) w I w' I') : RelAt P E w0 I0 n { s with b := upd s.b d none } a w' I' be := by
  have hdp := h.drop d
  have hl : ∀ B, (E.lend (be d)).lent B → be d = some B := by
    rintro B ⟨d', hd'⟩
    simp only [Env.lend] at hd'
    split at hd'
    · simpa using hd'
    · cases hd'
  have hne : ∀ d' B, (upd s.b d none) d' ≠ none → be d' = some B → ¬ (E.lend (be d)).lent B := fun d' B hn hB hlB => by
    have e : d' ≠ d := fun e => hn (by subst e; simp)
    simp only [upd_ne _ _ e] at hn
    exact e (h.inj d' d B hn hd hB (hl B hlB))
  have hB : ∀ d' B, (upd s.b d none) d' ≠ none → be d' = some B → w'.heap[B]? = w.heap[B]? := fun d' B hn hB => by
    obtain ⟨_, h2, _, h4⟩ := hdp.own d' B hn hB
    exact h'.block B h2 h4 (hne d' B hn hB)
  have hc : ∀ p v, I p → w.cell? p = some v → w'.cell? p = some v := fun p v hp hv => by
    rw [cell?_of_heap (h'.block p.block (h.since.lt p hp) (h.since.off p hp) (fun hlB => (h.own d _ hd (hl _ hlB)).2.2.1 p hp rfl))]; exact hv
  have hk : ∀ d', s.g d' < s.g d' ∨ (s.g d' = s.g d' ∧ BoxKept P w w' be be (upd s.b d none) (upd s.b d none) d') := fun d' => .inr ⟨rfl, .of_block rfl rfl (fun B hn => hB d' B hn)⟩
  have hs : Since E w0 I0 w' I' := by
    refine ⟨h'.os.trans h.since.os, h'.tape.trans h.since.tape, h'.output.trans h.since.output, Nat.le_trans h.since.size h'.size, fun k hk hf hlk => ?_, fun b hb => ?_, h'.inv, fun p hp => h'.more p (h.since.more p hp), fun p hp => ?_, h'.lt, h'.off⟩
    · rw [h'.block k (Nat.lt_of_lt_of_le hk h.since.size) (fun hf' => by rcases h.since.foot k hf' with h1 | h1; exact hf h1; omega) (fun hlB => by
        rcases (h.own d k hd (hl k hlB)).1 with h1 | h1
        · omega
        · exact hlk h1)]
      exact h.since.block k hk hf hlk
    · rcases h'.foot b hb with h1 | h1
      · exact h.since.foot b h1
      · exact .inr (Nat.le_trans h.since.size h1)
    · rcases h'.new p hp with h1 | h1 | h1
      · exact h.since.new p h1
      · exact .inr (.inl (Nat.le_trans h.since.size h1))
      · exact .inr (h.own d _ hd (hl _ h1)).1
  refine ⟨hs, hdp.size, hdp.defers, fun t ht => (hdp.regs t ht).keep h'.more hc hk, fun d' x hx => (hdp.boxes d' x hx).keep h'.more hc hk rfl (fun B => hB d' B (by
    have hx' : (upd s.b d none) d' = some x := hx
    rw [hx']; exact fun h => by cases h)), hdp.inj, fun d' B hn hBd => ?_, hdp.tie⟩
  obtain ⟨h1, h2, h3, h4⟩ := hdp.own d' B hn hBd
  refine ⟨h1, Nat.lt_of_lt_of_le h2 h'.size, fun p hp e => ?_, fun hf => ?_⟩
  · rcases h'.new p hp with h5 | h5 | h5
    · exact h3 p h5 e
    · omega
    · exact hne d' B hn hBd (by rw [← e]; exact h5)
  · rcases h'.foot B hf with h5 | h5
    · exact h4 h5
    · omega

theorem sound_take {x a0 : Operand} {args : Array Operand} {rest : List Operand} {argTypes : Array TypeId} (ho : o.op = .call { callee := .value x, args := args, argTypes := argTypes }) (hok : okOper n o = true) (har : args.toList = a0 :: rest) {f : FuncId} (hf : calleeOf s x = some (f, []))
    {xs : List AV} (hx : regAVsOf s rest = some xs) {d : Nat} {r0 : Reg} {e : TypeId} {ys : List AV} (ht : takeArg s (s.ev a0) = some (d, r0, .arr e ys)) {rs : List AV} (hs : Takes P E f r0 (.arr e ys) xs rs)
    (hK : K ((({ s with b := upd s.b d none } : St)).take o.dst (rs.map .v))) : Sound P E w0 I0 n o s K := by
  rintro a w ⟨I, be, hR⟩ Qc
  obtain ⟨hent, hcall⟩ := hs
  have h1 := okOper_ev hok (x := x) (by simp [ho, Op.operands, Call.operands]) hR
  have hxr : s.ev x = .val (.fn f []) := by
    unfold calleeOf at hf
    split at hf
    · rename_i f' c' h; simp only [Option.some.injEq, Prod.mk.injEq] at hf; rw [h, hf.1, hf.2]
    · cases hf
  rw [hxr] at h1
  obtain ⟨us, e1, hcl⟩ : ∃ us : Array Value, a.eval x = .func (.func f) #[] us ∧ us.size = 0 := by
    have h1' : Rep w I (a.eval x) (.fn f []) := h1
    generalize a.eval x = u at *
    cases h1' with
    | fn f vs caps hl hr => exact ⟨vs, rfl, by simpa using hl⟩
  have hus : us = #[] := Array.eq_empty_of_size_eq_zero hcl
  subst hus
  have hmem : ∀ y ∈ args.toList, y ∈ o.op.operands := fun y hy => by simp [ho, Op.operands, Call.operands]; exact .inr (by simpa using hy)
  have h2 := okOper_ev hok (x := a0) (by simpa using hmem a0 (by rw [har]; simp)) hR
  have hargs := regAVsOf_rep hok hR (ps := rest) (fun y hy => by simpa using hmem y (by rw [har]; simp [hy])) hx
  have hav : args.map a.eval = #[a.eval a0] ++ (rest.map a.eval).toArray := by
    have : args = (a0 :: rest).toArray := by rw [← har]
    rw [this]; simp
  unfold takeArg at ht
  split at ht
  · rename_i d' gg off len hq
    split at ht
    · rename_i hg
      obtain ⟨x', hb, ht⟩ := Option.map_eq_some_iff.1 ht
      simp only [Prod.mk.injEq] at ht
      obtain ⟨rfl, rfl, rfl⟩ := ht
      rw [hq] at h2
      have hbox := hR.boxes d' _ hb
      have hdn : s.b d' ≠ none := by simp [hb]
      have hv : viewAt P w be s.b d' off len (a.eval a0) := h2.2 hg
      have hv0 : regRep P w I (fun _ => be d') (box0 (.arr e ys)) (fun _ => 0) (a.eval a0) (.view 0 0 off len) := by
        refine ⟨Nat.le_refl _, fun _ => ?_⟩
        unfold viewAt at hv ⊢
        simp only [hb] at hv
        simp only [box0, if_true]
        exact hv
      have hc := hcall w I (be d') (a.eval a0) (rest.map a.eval).toArray hR.since.inv (fun p hp => ⟨hR.since.lt p hp, hR.since.off p hp⟩) hv0 (boxRep_arr hbox rfl) (fun B hB => (hR.own d' B hdn hB).2) (by simpa using hargs)
      have hrun : (execOp a.eval o).run P w = .ok (.enter f (#[a.eval a0] ++ (rest.map a.eval).toArray)) w := by
        simp only [execOp, ho, resolve, e1, Deferred.ofValue, Sem.run_bind, Sem.run_pure, Result.andThen_ok, invoke, Array.empty_append, Array.append_empty, hav, hent _ w]
      unfold Oper.wp
      rw [hrun]
      simp only [Oper.upon_enter]
      refine hc.mono fun en w' hp => ?_
      obtain ⟨v, I', rfl, hs', hres⟩ := hp
      have hR' := hR.took d' hdn hs'
      obtain ⟨be', h6⟩ := hR'.take (bo := fun _ => none) (E := E) hres (fun _ _ _ h => by cases h) hR.since.size (fun _ _ h => by cases h) o.dst
      exact ⟨_, ⟨I', be', h6⟩, hK⟩
    · cases ht
  · cases ht

/-- an argument that may be an array of the caller's, which stays its own -/
def peekAV (s : St) : Reg → Option AV
  | .view d gg off len => if gg = s.g d then (match s.b d with
    | some (.arr _ xs) => some (.sl ((xs.drop off).take len))
    | _ => none) else none
  | r => regAV r
def peekAVs (s : St) : List Operand → Option (List AV)
  | [] => some []
  | x :: xs => match peekAV s (s.ev x), peekAVs s xs with
    | some y, some ys => some (y :: ys)
    | _, _ => none

def flRV (v : Value) : RV := .v (.fl v)

theorem peekAVs_spec : ∀ {ps : List Operand} {xs : List AV}, peekAVs s ps = some xs → xs.length = ps.length ∧ ∀ (j : Nat) (x : AV), xs[j]? = some x → ∃ p, ps[j]? = some p ∧ peekAV s (s.ev p) = some x
  | [], xs, h => by simp only [peekAVs, Option.some.injEq] at h; subst h; exact ⟨rfl, fun j x hj => by simp at hj⟩
  | p :: ps, xs, h => by
    unfold peekAVs at h
    split at h
    · rename_i y ys hy hys
      simp only [Option.some.injEq] at h
      subst h
      obtain ⟨h1, h2⟩ := peekAVs_spec hys
      refine ⟨by simp [h1], fun j x hj => ?_⟩
      cases j with
      | zero => simp at hj; subst hj; exact ⟨p, rfl, hy⟩
      | succ j => exact h2 j x (by simpa using hj)
    · cases h

theorem resRep_fl {E' : Env} {base base' : Nat} {bo bo' : Nat → Option Nat} {v : Value} : ∀ {rs : List Value}, resRep P E w I base bo v (rs.map flRV) → resRep P E' w I' base' bo' v (rs.map flRV)
  | [_], h => by
    cases (show Rep w I v (.fl _) from h) with
    | fl v hv => exact Rep.fl v hv
  | [], ⟨vs, h1, h2, h3⟩ => ⟨vs, h1, h2, fun j r hr => by simp at hr⟩
  | a :: b :: rs, ⟨vs, h1, h2, h3⟩ => ⟨vs, h1, h2, fun j r hr => by
      have h4 := h3 j r hr
      have hm' : r ∈ (a :: b :: rs).map flRV := List.mem_of_getElem? hr
      obtain ⟨x, _, rfl⟩ := List.mem_map.1 hm'
      generalize vs.getD j undef = u at h4 ⊢
      cases (show Rep w I u (.fl x) from h4) with
      | fl v hv => exact Rep.fl _ hv⟩

theorem sound_peek {x : Operand} {args : Array Operand} {argTypes : Array TypeId} (ho : o.op = .call { callee := .value x, args := args, argTypes := argTypes }) (hok : okOper n o = true) {f : FuncId} (hf : calleeOf s x = some (f, [])) {xs : List AV} (hx : peekAVs s args.toList = some xs)
    {rs : List Value} (hs : Does P E f xs (.ret (rs.map flRV))) (hK : K (s.take o.dst (rs.map flRV))) : Sound P E w0 I0 n o s K := by
  rintro a w ⟨I, be, hR⟩ Qc
  obtain ⟨hent, hcall⟩ := hs
  have h1 := okOper_ev hok (x := x) (by simp [ho, Op.operands, Call.operands]) hR
  have hxr : s.ev x = .val (.fn f []) := by
    unfold calleeOf at hf
    split at hf
    · rename_i f' c' h; simp only [Option.some.injEq, Prod.mk.injEq] at hf; rw [h, hf.1, hf.2]
    · cases hf
  rw [hxr] at h1
  obtain ⟨us, e1, hcl⟩ : ∃ us : Array Value, a.eval x = .func (.func f) #[] us ∧ us.size = 0 := by
    have h1' : Rep w I (a.eval x) (.fn f []) := h1
    generalize a.eval x = u at *
    cases h1' with
    | fn f vs caps hl hr => exact ⟨vs, rfl, by simpa using hl⟩
  have hus : us = #[] := Array.eq_empty_of_size_eq_zero hcl
  subst hus
  let I2 : Cells := fun p => I p ∨ ∃ d B, s.b d ≠ none ∧ be d = some B ∧ p.block = B
  have hI2 : ∀ p, I2 p → p.block < w.heap.size ∧ ¬ E.foot w p.block := by
    rintro p (hp | ⟨d, B, hd, hB, rfl⟩)
    · exact ⟨hR.since.lt p hp, hR.since.off p hp⟩
    · obtain ⟨q1, q2, q3, q4⟩ := hR.own d _ hd hB
      exact ⟨q2, q4⟩
  have hall : RepL w I2 (args.map a.eval).toList xs := by
    obtain ⟨hl, hj⟩ := peekAVs_spec hx
    refine ⟨by simp [hl], fun j v c hv hc => ?_⟩
    obtain ⟨p, hp, hq⟩ := hj j c hc
    simp only [Array.toList_map, List.getElem?_map, hp, Option.map_some, Option.some.injEq] at hv
    subst hv
    have h2 := okOper_ev hok (x := p) (by simp [ho, Op.operands, Call.operands]; exact .inr (by simpa using List.mem_of_getElem? hp)) hR
    unfold peekAV at hq
    split at hq
    · rename_i d gg off len hr
      rw [hr] at h2
      split at hq
      · rename_i hg
        split at hq
        · rename_i e ys hb
          simp only [Option.some.injEq] at hq
          subst hq
          exact view_rep hb (hR.boxes d _ hb) (h2.2 hg) (fun _ h => .inl h) (fun B hB p hp => .inr ⟨d, B, by simp [hb], hB, hp⟩)
        · cases hq
      · cases hq
    · exact (regAV_rep h2 hq).mono (fun _ h => .inl h) (fun _ _ _ h => h)
  have hc := hcall w I2 (args.map a.eval) hR.since.inv hI2 hall
  have hrun : (execOp a.eval o).run P w = .ok (.enter f (args.map a.eval)) w := by
    simp only [execOp, ho, resolve, e1, Deferred.ofValue, Sem.run_bind, Sem.run_pure, Result.andThen_ok, invoke, Array.empty_append, Array.append_empty, hent _ w]
  unfold Oper.wp
  rw [hrun]
  simp only [Oper.upon_enter]
  refine hc.mono fun en w' hp => ?_
  obtain ⟨v, I', bo, rfl, hs', hres, _, _⟩ := hp
  have hsI : Since E.plain w I w' I := ⟨hs'.os, hs'.tape, hs'.output, hs'.size, hs'.block, hs'.foot, hs'.inv, fun _ h => h, fun _ h => .inl h, fun p hp => Nat.lt_of_lt_of_le (hR.since.lt p hp) hs'.size, fun p hp => hs'.off p (hs'.more p (.inl hp))⟩
  have hR' := hR.called hsI
  obtain ⟨be', h6⟩ := hR'.take (bo := fun _ => none) (resRep_fl (E' := E) (base' := w.heap.size) hres) (fun _ _ _ h => by cases h) hR.since.size (fun _ _ h => by cases h) o.dst
  exact ⟨_, ⟨I, be', h6⟩, hK⟩

end
end Go.Ev
