import Derived.Test.YtoelfoplajpgnaaEvOps
set_option linter.unusedVariables false
set_option linter.unusedSimpArgs false
set_option linter.unusedSectionVars false

namespace Go.Ev
open Go

def St.newCells (s : St) (d : Nat) (cs : List Reg) : St :=
  { r := upd s.r d (.loc d (s.g d + 1) 0 0 0), b := upd s.b d (some (.cells cs)), g := upd s.g d (s.g d + 1) }
def St.newArr (s : St) (d : Nat) (e : TypeId) (xs : List AV) : St :=
  { r := upd s.r d (.view d (s.g d + 1) 0 xs.length), b := upd s.b d (some (.arr e xs)), g := upd s.g d (s.g d + 1) }

section
variable {P : Program} {E : Env} {w0 : World} {I0 : Cells} {n : Nat} {s : St} {a : Act} {w w' : World} {I : Cells} {be : Nat → Option Nat}

theorem push_old {h : Array Obj} {o : Obj} {k : Nat} (hk : k < h.size) : (h.push o)[k]? = h[k]? := by
  rw [Array.getElem?_push, if_neg (by omega)]

theorem bump_kept (d : Nat) (x : Bx) (bo : Option Nat) : ∀ d', s.g d' < upd s.g d (s.g d + 1) d' ∨ (upd s.g d (s.g d + 1) d' = s.g d' ∧ BoxKept P w w be (upd be d bo) s.b (upd s.b d (some x)) d') := by
  intro d'
  by_cases e : d' = d
  · subst e; left; simp
  · right
    exact ⟨upd_ne _ _ e, .of_block (upd_ne _ _ e) (upd_ne _ _ e) (fun _ _ _ => rfl)⟩

/-- facts on a fresh block -/
theorem RelAt.fresh (h : RelAt P E w0 I0 n s a w I be) {o : Obj} (hos : w'.os = w.os) (htape : w'.tape = w.tape) (hout : w'.output = w.output) (hheap : w'.heap = w.heap.push o) :
    RelAt P E w0 I0 n s a w' I be ∧ w'.heap[w.heap.size]? = some o ∧
    (E.fresh w0 w.heap.size ∧ w.heap.size < w'.heap.size ∧ (∀ p, I p → p.block ≠ w.heap.size) ∧ ¬ E.foot w' w.heap.size ∧ ∀ d', s.b d' ≠ none → be d' ≠ some w.heap.size) := by
  have hsz : w'.heap.size = w.heap.size + 1 := by rw [hheap]; simp
  have hblk : ∀ k, k < w.heap.size → w'.heap[k]? = w.heap[k]? := fun k hk => by rw [hheap]; exact push_old hk
  have h' := h.grow hos htape hout (by omega) hblk
  refine ⟨h', by rw [hheap]; simp, .inl h.since.size, by omega, fun p hp e => ?_, fun hf => ?_, fun d' hd he => ?_⟩
  · have := h.since.lt p hp; omega
  · have := (E.stays w w' h.since.inv (fun b hb => hblk b (E.lt w b h.since.inv hb))).2 _ hf
    have := E.lt w _ h.since.inv this
    omega
  · have := (h.own d' _ hd he).2.1
    omega

theorem RelAt.newCells (h : RelAt P E w0 I0 n s a w I be) (d : Nat) {cur : Array Value} {t : TypeId} (hos : w'.os = w.os) (htape : w'.tape = w.tape) (hout : w'.output = w.output) (hheap : w'.heap = w.heap.push (.cells cur t))
    (cs : List Reg) (hl : cur.size = cs.length) (hc : ∀ (j : Nat) (c : Reg), cs[j]? = some c → regRep P w I be s.b s.g (cur.getD j undef) c) :
    RelAt P E w0 I0 n (s.newCells d cs) (a.put (some d) (.pointer (some ⟨w.heap.size, 0, none⟩))) w' I (upd be d (some w.heap.size)) := by
  obtain ⟨h', hnew, hbo⟩ := h.fresh hos htape hout hheap
  have hcell := h.cells_stay (w' := w') (fun k hk _ => by rw [hheap]; exact push_old hk)
  have hkeep : ∀ d', s.g d' < s.g d' ∨ (s.g d' = s.g d' ∧ BoxKept P w w' be be s.b s.b d') := fun d' => .inr ⟨rfl, .of_block rfl rfl (fun B hn hB => by rw [hheap]; exact push_old (h.own d' B hn hB).2.1)⟩
  have hx : boxRep P w' I (upd be d (some w.heap.size)) (upd s.b d (some (.cells cs))) (upd s.g d (s.g d + 1)) d (.cells cs) :=
    ⟨w.heap.size, cur, t, upd_same _ _ _, hnew, hl, fun j c hj => ((hc j c hj).keep (fun _ h => h) hcell hkeep).keep (fun _ h => h) (fun _ _ _ h => h) (bump_kept d _ _)⟩
  have hr := h'.recreate d (.cells cs) (some w.heap.size) hx (fun B hB => by injection hB with hB; subst hB; exact ⟨hbo.1, hbo.2.1, hbo.2.2.1, hbo.2.2.2.1, fun d' _ hn => hbo.2.2.2.2 d' hn⟩)
  have := hr.put (some d) (v := .pointer (some ⟨w.heap.size, 0, none⟩)) (r := .loc d (s.g d + 1) 0 0 0) ⟨by simp, fun _ _ => ⟨w.heap.size, by simp, by simp⟩⟩
  exact this

/-- what is asked of the elements of an array box -/
def Elems (P : Program) (e : TypeId) (xs : List AV) : Prop := ∀ x ∈ xs, x.cells.length = P.cellsOf e ∧ x.wf

theorem RelAt.newArr (h : RelAt P E w0 I0 n s a w I be) (d : Nat) {cur : Array Value} {e : TypeId} {cap : Nat} (hos : w'.os = w.os) (htape : w'.tape = w.tape) (hout : w'.output = w.output) (hheap : w'.heap = w.heap.push (.cells cur e))
    (xs : List AV) (hs : 0 < P.cellsOf e) (hcap : cur.size = cap * P.cellsOf e) (hmax : cap ≤ maxLen) (hl : xs.length ≤ cap) (hel : Elems P e xs)
    (hc : ∀ (i j : Nat) (x c : AV), xs[i]? = some x → x.cells[j]? = some c → Rep w I (cur.getD (i * P.cellsOf e + j) undef) c) :
    RelAt P E w0 I0 n (s.newArr d e xs) (a.put (some d) (.slice (some ⟨w.heap.size, 0, none⟩) xs.length cap)) w' I (upd be d (some w.heap.size)) := by
  obtain ⟨h', hnew, hbo⟩ := h.fresh hos htape hout hheap
  have hcell := h.cells_stay (w' := w') (fun k hk _ => by rw [hheap]; exact push_old hk)
  have hx : boxRep P w' I (upd be d (some w.heap.size)) (upd s.b d (some (.arr e xs))) (upd s.g d (s.g d + 1)) d (.arr e xs) := by
    refine ⟨hs, Nat.le_trans hl hmax, fun i x hi => hel x (List.mem_of_getElem? hi), ?_⟩
    simp only [upd_same]
    exact ⟨cur, cap, hnew, hcap, hmax, hl, fun i j x c h1 h2 => (hc i j x c h1 h2).mono (fun _ h => h) hcell⟩
  have hr := h'.recreate d (.arr e xs) (some w.heap.size) hx (fun B hB => by injection hB with hB; subst hB; exact ⟨hbo.1, hbo.2.1, hbo.2.2.1, hbo.2.2.2.1, fun d' _ hn => hbo.2.2.2.2 d' hn⟩)
  have := hr.put (some d) (v := .slice (some ⟨w.heap.size, 0, none⟩) xs.length cap) (r := .view d (s.g d + 1) 0 xs.length) ⟨by simp, fun _ => by
    unfold viewAt
    simp only [upd_same]
    exact ⟨by omega, cur, cap, some ⟨w.heap.size, 0, none⟩, hnew, hcap, by simp, fun _ => by simp⟩⟩
  exact this

/-- an array box without a block: nothing in it -/
theorem RelAt.emptyArr (h : RelAt P E w0 I0 n s a w I be) (d : Nat) (e : TypeId) (hs : 0 < P.cellsOf e) (A : Option Addr) :
    RelAt P E w0 I0 n (s.newArr d e []) (a.put (some d) (.slice A 0 0)) w I (upd be d none) := by
  have hx : boxRep P w I (upd be d none) (upd s.b d (some (.arr e []))) (upd s.g d (s.g d + 1)) d (.arr e []) :=
    ⟨hs, by simp, fun i x hi => by simp at hi, by simp only [upd_same]⟩
  have hr := h.recreate d (.arr e []) none hx (fun B hB => by cases hB)
  exact hr.put (some d) (v := .slice A 0 0) (r := .view d (s.g d + 1) 0 0) ⟨by simp, fun _ => by
    unfold viewAt
    simp only [upd_same]
    exact ⟨by simp, A, rfl⟩⟩

end

section
variable {P : Program} {E : Env} {w0 : World} {I0 : Cells} {n : Nat} {o : Oper} {s : St} {K : St → Prop}

theorem sound_alloc {t : TypeId} (ho : o.op = .alloc t) {d : Nat} (hd : o.dst = some d) {i : TypeInfo} {z : Value} (hi : P.info? t = some i) (hz : i.zero = some z) (hok : (z.cells.all fun v => v.oneCell') = true)
    (hK : K (s.newCells d (z.cells.toList.map constReg))) : Sound P E w0 I0 n o s K := by
  rintro a w ⟨I, be, hR⟩ Qc
  have hrun : (execOp a.eval o).run P w = .ok (.value (.pointer (some ⟨w.heap.size, 0, none⟩))) (w.alloc (.cells z.cells t)) := by
    simp [execOp, ho, Instr.alloc, zeroValue, typeInfo, hi, hz, newVar, newRow]
  refine wp_value hrun ⟨_, ⟨I, upd be d (some w.heap.size), ?_⟩, hK⟩
  rw [hd]
  refine hR.newCells (w' := w.alloc (.cells z.cells t)) d rfl rfl rfl rfl _ (by simp) fun j c hj => ?_
  simp only [List.getElem?_map, Array.getElem?_toList, Option.map_eq_some_iff] at hj
  obtain ⟨v, hv, rfl⟩ := hj
  have hm : v ∈ z.cells := Array.mem_of_getElem? hv
  have h1 := Array.all_eq_true'.1 hok v hm
  simp only [Array.getD_eq_getD_getElem?, hv, Option.getD_some]
  refine constReg_rep ?_
  cases v <;> first | rfl | (simp [Value.oneCell'] at h1)

def regCells : Reg → Option (List Reg)
  | .val v => some (v.cells.map .val)
  | .full xs => some [.full xs]
  | .loc d g sz i k => some [.loc d g sz i k]
  | .view d g off len => some [.view d g off len]
  | _ => none

theorem regCells_rep {w : World} {I : Cells} {be : Nat → Option Nat} {b : Nat → Option Bx} {g : Nat → Nat} {v : Value} {r : Reg} {cs : List Reg} (h : regRep P w I be b g v r) (hr : regCells r = some cs)
    (hbox : ∀ d gg sz i k, r = .loc d gg sz i k → gg = g d ∧ b d ≠ none) (hview : ∀ d gg off len, r = .view d gg off len → gg = g d ∧ ∃ e xs, b d = some (.arr e xs)) :
    v.cells.size = cs.length ∧ ∀ (j : Nat) (c : Reg), cs[j]? = some c → regRep P w I be b g (v.cells.getD j undef) c := by
  have one : ∀ (r : Reg) (hv : v.cells = #[v]), regRep P w I be b g v r → v.cells.size = [r].length ∧ ∀ (j : Nat) (c : Reg), [r][j]? = some c → regRep P w I be b g (v.cells.getD j undef) c := by
    intro r hv h
    rw [hv]
    refine ⟨by simp, fun j c hj => ?_⟩
    cases j with
    | zero => simp at hj; subst hj; simpa using h
    | succ j => simp at hj
  cases r with
  | val x =>
    simp only [regCells, Option.some.injEq] at hr
    subst hr
    have h' : Rep w I v x := h
    cases h' with
    | fl v hv1 => exact one _ (by cases v <;> first | rfl | (simp [One, Value.oneCell'] at hv1)) h
    | slNone c => exact one _ rfl h
    | sl a n cap sz xs cv hn hcap hmax hsz hc hI hr => exact one _ rfl h
    | ref p cs cv hc hI hr => exact one _ rfl h
    | fn f vs caps hl hr => exact one _ rfl h
    | ifc t v x hr => exact one _ rfl h
    | agg vs cs hl hr =>
      simp only [AV.cells, Value.cells]
      refine ⟨by simp [hl], fun j c hj => ?_⟩
      simp only [List.getElem?_map, Option.map_eq_some_iff] at hj
      obtain ⟨x, hx, rfl⟩ := hj
      exact hr j x hx
  | full xs =>
    simp only [regCells, Option.some.injEq] at hr
    subst hr
    obtain ⟨A, rfl⟩ := h.2
    exact one _ rfl h
  | loc d gg sz i k =>
    simp only [regCells, Option.some.injEq] at hr
    subst hr
    obtain ⟨h1, h2⟩ := hbox _ _ _ _ _ rfl
    obtain ⟨B, _, rfl⟩ := loc_at h h1 h2
    exact one _ rfl h
  | view d gg off len =>
    simp only [regCells, Option.some.injEq] at hr
    subst hr
    obtain ⟨h1, e, xs, h2⟩ := hview _ _ _ _ rfl
    obtain ⟨_, h3⟩ := view_at h h1 h2
    have : ∃ A l c, v = .slice A l c := by
      cases hB : be d with
      | none => rw [hB] at h3; obtain ⟨A, rfl⟩ := h3; exact ⟨_, _, _, rfl⟩
      | some B => rw [hB] at h3; obtain ⟨_, _, A, _, _, rfl, _⟩ := h3; exact ⟨_, _, _, rfl⟩
    obtain ⟨A, l, c, rfl⟩ := this
    exact one _ rfl h
  | none => simp [regCells] at hr
  | tup rs => simp [regCells] at hr

/-- the register is of use: it names no box that is gone -/
def alive (s : St) : Reg → Prop
  | .loc d gg _ _ _ => gg = s.g d ∧ s.b d ≠ none
  | .view d gg _ _ => gg = s.g d ∧ ∃ e xs, s.b d = some (.arr e xs)
  | _ => True

theorem sound_box {t : TypeId} {x : Operand} (ho : o.op = .box t x) (hok : okOper n o = true) {d : Nat} (hd : o.dst = some d) {cs : List Reg} (hx : regCells (s.ev x) = some cs) (ha : alive s (s.ev x)) (hK : K (s.newCells d cs)) : Sound P E w0 I0 n o s K := by
  rintro a w ⟨I, be, hR⟩ Qc
  have h1 := okOper_ev hok (x := x) (by simp [ho, Op.operands]) hR
  have hrun : (execOp a.eval o).run P w = .ok (.value (.pointer (some ⟨w.heap.size, 0, none⟩))) (w.alloc (.cells (a.eval x).cells t)) := by
    simp [execOp, ho, Instr.box, newVar, newRow]
  refine wp_value hrun ⟨_, ⟨I, upd be d (some w.heap.size), ?_⟩, hK⟩
  rw [hd]
  obtain ⟨h2, h3⟩ := regCells_rep h1 hx (fun d gg sz i k e => by rw [e] at ha; exact ha) (fun d gg off len e => by rw [e] at ha; exact ha)
  exact hR.newCells (w' := w.alloc (.cells (a.eval x).cells t)) d rfl rfl rfl rfl _ h2 h3

end

/-! ### Sources: what copy and append read -/

def isIntDesc : TypeDesc → Bool
  | .int _ => true
  | _ => false

/-- a slice (or a string) whose cells are these, to be copied elsewhere -/
structure Src (P : Program) (w : World) (I : Cells) (sz : Nat) (v : Value) (ys : List AV) (news : List Value) : Prop where
  len : ∀ w1, (Builtin.lenOf v).run P w1 = .ok ys.length w1
  cells : ∀ w1, w1.heap = w.heap → ∀ m, m ≤ ys.length → (Builtin.firstCells sz m v).run P w1 = .ok (news.take (m * sz)).toArray w1
  size : news.length = ys.length * sz
  one : ∀ u ∈ news, u.oneCell' = true
  rep : ∀ (i j : Nat) (y c : AV), ys[i]? = some y → y.cells[j]? = some c → Rep w I (news.getD (i * sz + j) undef) c

theorem rep_one {w : World} {I : Cells} {v : Value} {c : AV} (h : Rep w I v c) (hc : c.isAgg = false) : v.oneCell' = true := by
  cases h <;> first | assumption | rfl | (simp [AV.isAgg] at hc)

section
variable {P : Program} {w : World} {I : Cells}

theorem run_firstCells_at {sz m c : Nat} {a : Addr} {vs : List Value} (hl : vs.length = m * sz) (h : ∀ (j : Nat) (v : Value), vs[j]? = some v → w.cell? (a.add j) = some v) : (Builtin.firstCells sz m (.slice (some a) m c)).run P w = .ok vs.toArray w :=
  run_firstCells_some w sz m a m c vs hl h

/-- cells in a row -/
theorem src_row {sz : Nat} {a : Addr} {n cap : Nat} {ys : List AV} (f : Nat → Value) (hn : n = ys.length) (hsz : ∀ y ∈ ys, y.cells.length = sz ∧ y.wf)
    (hc : ∀ (i j : Nat) (y c : AV), ys[i]? = some y → y.cells[j]? = some c → w.cell? (a.add (i * sz + j)) = some (f (i * sz + j)) ∧ Rep w I (f (i * sz + j)) c) :
    Src P w I sz (.slice (some a) n cap) ys ((List.range (ys.length * sz)).map f) := by
  have key : ∀ k, k < ys.length * sz → ∃ (y c : AV), ys[k / sz]? = some y ∧ y.cells[k % sz]? = some c ∧ (k / sz) * sz + k % sz = k := by
    intro k hk
    have hs0 : 0 < sz := Nat.pos_of_ne_zero (fun e => by subst e; simp at hk)
    have h1 : k / sz < ys.length := by rw [Nat.div_lt_iff_lt_mul hs0]; exact hk
    have h2 := List.getElem?_eq_getElem h1
    have h3 : k % sz < ys[k / sz].cells.length := by rw [(hsz _ (List.getElem_mem h1)).1]; exact Nat.mod_lt _ hs0
    exact ⟨_, _, h2, List.getElem?_eq_getElem h3, by rw [Nat.mul_comm]; exact Nat.div_add_mod k sz⟩
  subst hn
  refine ⟨fun w1 => rfl, fun w1 hw m hm => ?_, by simp, fun u hu => ?_, fun i j y c h1 h2 => ?_⟩
  · have hms : m * sz ≤ ys.length * sz := Nat.mul_le_mul_right _ hm
    have hl : (((List.range (ys.length * sz)).map f).take (m * sz)).length = m * sz := by rw [List.length_take, List.length_map, List.length_range]; omega
    have hcell : ∀ (j : Nat) (v : Value), (((List.range (ys.length * sz)).map f).take (m * sz))[j]? = some v → w1.cell? (a.add j) = some v := by
      intro j v hv
      rw [List.getElem?_take] at hv
      split at hv
      · rename_i hj
        have hj' : j < ys.length * sz := by omega
        rw [getD_range_map f hj'] at hv
        injection hv with hv
        subst hv
        obtain ⟨y, c, h1, h2, h3⟩ := key j hj'
        have h4 := (hc _ _ y c h1 h2).1
        rw [h3] at h4
        simpa [World.cell?, hw] using h4
      · cases hv
    have := run_loadCells_list (P := P) w1 a _ hcell
    rw [hl] at this
    simpa [Builtin.firstCells] using this
  · obtain ⟨k, hk, rfl⟩ := List.mem_map.1 hu
    have hk := List.mem_range.1 hk
    obtain ⟨y, c, h1, h2, h3⟩ := key k hk
    have h4 := (hc _ _ y c h1 h2).2
    rw [h3] at h4
    exact rep_one h4 ((hsz _ (List.mem_of_getElem? h1)).2 c (List.mem_of_getElem? h2))
  · have hil : i < ys.length := (List.getElem?_eq_some_iff.1 h1).1
    have hjl : j < sz := by rw [← (hsz _ (List.mem_of_getElem? h1)).1]; exact (List.getElem?_eq_some_iff.1 h2).1
    have hlt := slot_lt hil (Nat.le_refl _) hjl
    have := (hc i j y c h1 h2).2
    simpa [hlt] using this

theorem src_none (sz : Nat) (l c : Nat) (hl : l = 0) : Src P w I sz (.slice none l c) [] [] := by
  subst hl
  refine ⟨fun w1 => rfl, fun w1 _ m hm => ?_, by simp, by simp, fun i j y c h => by simp at h⟩
  have : m = 0 := by simpa using hm
  subst this
  simp [Builtin.firstCells]

theorem src_empty (sz : Nat) (A : Option Addr) (c : Nat) : Src P w I sz (.slice A 0 c) [] [] := by
  cases A with
  | none => exact src_none sz 0 c rfl
  | some a =>
    refine ⟨fun w1 => rfl, fun w1 _ m hm => ?_, by simp, by simp, fun i j y c h => by simp at h⟩
    have : m = 0 := by simpa using hm
    subst this
    simp [Builtin.firstCells, loadCells, loadCellsFrom]

theorem src_sl {sz : Nat} {v : Value} {ys : List AV} (h : Rep w I v (.sl ys)) (hsz : ∀ y ∈ ys, y.cells.length = sz) : ∃ news, Src P w I sz v ys news := by
  cases h with
  | slNone c => exact ⟨[], src_none sz 0 c rfl⟩
  | sl a n cap sz' xs cv hn hcap hmax hsz' hc hI hr =>
    cases ys with
    | nil =>
      simp at hn
      subst hn
      exact ⟨[], src_empty sz _ _⟩
    | cons y rest =>
      have e : sz' = sz := by
        rw [← (hsz' 0 y rfl).1]
        exact hsz y (by simp)
      subst e
      refine ⟨_, src_row (fun k => cv (k / sz') (k % sz')) hn (fun z hz => ?_) (fun i j z c h1 h2 => ?_)⟩
      · obtain ⟨i, hi, rfl⟩ := List.getElem_of_mem hz
        exact hsz' i _ (List.getElem?_eq_getElem hi)
      · have hjl : j < sz' := by rw [← (hsz' _ _ h1).1]; exact (List.getElem?_eq_some_iff.1 h2).1
        have hs0 : 0 < sz' := by omega
        have e1 : (i * sz' + j) / sz' = i := by rw [Nat.mul_comm, Nat.mul_add_div hs0, Nat.div_eq_of_lt hjl]; omega
        have e2 : (i * sz' + j) % sz' = j := by rw [Nat.mul_comm, Nat.mul_add_mod, Nat.mod_eq_of_lt hjl]
        simp only [e1, e2]
        exact ⟨hc i j z c h1 h2, hr i j z c h1 h2⟩

theorem src_view {be : Nat → Option Nat} {b : Nat → Option Bx} {g : Nat → Nat} {d gg off len : Nat} {v : Value} {e : TypeId} {xs : List AV} (h : regRep P w I be b g v (.view d gg off len)) (hg : gg = g d) (hb : b d = some (.arr e xs))
    (hbox : boxRep P w I be b g d (.arr e xs)) : ∃ news, Src P w I (P.cellsOf e) v ((xs.drop off).take len) news := by
  obtain ⟨hl, hv⟩ := view_at h hg hb
  obtain ⟨hs, hmx, hel, hbB⟩ := hbox
  have empty : ∀ A c, len = 0 → v = .slice A len c → ∃ news, Src P w I (P.cellsOf e) v ((xs.drop off).take len) news := by
    rintro A c rfl rfl
    exact ⟨[], by simpa using src_empty (P := P) (w := w) (I := I) (P.cellsOf e) A c⟩
  cases hB : be d with
  | none =>
    simp only [hB] at hv hbB
    subst hbB
    obtain ⟨A, rfl⟩ := hv
    have : len = 0 := by simp at hl; omega
    exact empty A 0 this rfl
  | some B =>
    simp only [hB] at hv hbB
    obtain ⟨cur, cap, A, hw, hcs, e1, hA⟩ := hv
    obtain ⟨cur', cap', hw', hcs', hcm, hlc, hrep⟩ := hbB
    rw [hw] at hw'
    injection hw' with hw'
    injection hw' with q1 q2
    subst q1
    have hcap : cap' = cap := (Nat.eq_of_mul_eq_mul_right hs (hcs.symm.trans hcs')).symm
    subst hcap
    by_cases hoc : off < cap'
    · obtain rfl := hA hoc
      have hlen : ((xs.drop off).take len).length = len := by simp; omega
      rw [e1]
      refine ⟨_, src_row (fun k => cur.getD (off * P.cellsOf e + k) undef) hlen.symm (fun y hy => ?_) (fun i j y c h1 h2 => ?_)⟩
      · obtain ⟨i, hi, rfl⟩ := List.getElem_of_mem hy
        have := List.getElem?_eq_getElem hi
        rw [List.getElem?_take] at this
        split at this
        · rw [List.getElem?_drop] at this
          exact hel _ _ this
        · cases this
      · rw [List.getElem?_take] at h1
        split at h1
        · rw [List.getElem?_drop] at h1
          have hxl : off + i < xs.length := (List.getElem?_eq_some_iff.1 h1).1
          have hjl : j < P.cellsOf e := by rw [← (hel _ _ h1).1]; exact (List.getElem?_eq_some_iff.1 h2).1
          have e2 : off * P.cellsOf e + (i * P.cellsOf e + j) = (off + i) * P.cellsOf e + j := by rw [Nat.add_mul]; omega
          refine ⟨?_, ?_⟩
          · rw [addr_add, cell_at hw, getD_some]
            rw [hcs, e2]
            exact slot_lt hxl hlc hjl
          · rw [e2]; exact hrep _ _ _ _ h1 h2
        · cases h1
    · have : len = 0 := by omega
      exact empty A _ this e1

end
end Go.Ev
