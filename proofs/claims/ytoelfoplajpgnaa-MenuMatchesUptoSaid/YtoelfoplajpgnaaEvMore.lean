import Derived.Test.YtoelfoplajpgnaaEvAppend
set_option linter.unusedVariables false
set_option linter.unusedSimpArgs false
set_option linter.unusedSectionVars false

namespace Go.Ev
open Go

def writeAt {α : Type} (cs : List α) (k : Nat) (vs : List α) : List α := cs.take k ++ vs ++ cs.drop (k + vs.length)

theorem length_writeAt {α : Type} {cs vs : List α} {k : Nat} (h : k + vs.length ≤ cs.length) : (writeAt cs k vs).length = cs.length := by simp [writeAt]; omega

theorem getElem?_writeAt {α : Type} {cs vs : List α} {k : Nat} (h : k + vs.length ≤ cs.length) (j : Nat) : (writeAt cs k vs)[j]? = if j < k then cs[j]? else if j < k + vs.length then vs[j - k]? else cs[j]? := by
  have hk : (cs.take k).length = k := by simp; omega
  unfold writeAt
  by_cases h1 : j < k
  · rw [if_pos h1, List.append_assoc, List.getElem?_append_left (by rw [hk]; exact h1), List.getElem?_take, if_pos h1]
  · rw [if_neg h1]
    by_cases h2 : j < k + vs.length
    · rw [if_pos h2, List.append_assoc, List.getElem?_append_right (by rw [hk]; omega), hk, List.getElem?_append_left (by omega)]
    · rw [if_neg h2, List.append_assoc, List.getElem?_append_right (by rw [hk]; omega), hk, List.getElem?_append_right (by omega), List.getElem?_drop]
      congr 1
      omega

/-- of one cell, or of cells of one: a store takes it -/
def oneReg : Reg → Prop
  | .val x => x.wf
  | .full _ => True
  | .loc _ _ _ _ _ => True
  | .view _ _ _ _ => True
  | _ => False

section
variable {P : Program} {E : Env} {w0 : World} {I0 : Cells} {n : Nat} {o : Oper} {s : St} {K : St → Prop} {a : Act} {w : World} {I : Cells} {be : Nat → Option Nat} {b : Nat → Option Bx} {g : Nat → Nat}

theorem slice_like {d gg off len : Nat} {v : Value} (h : regRep P w I be b g v (.view d gg off len)) (hg : gg = g d) {e : TypeId} {xs : List AV} (hb : b d = some (.arr e xs)) : ∃ A l c, v = .slice A l c := by
  obtain ⟨_, h3⟩ := view_at h hg hb
  cases hB : be d with
  | none => rw [hB] at h3; obtain ⟨A, rfl⟩ := h3; exact ⟨_, _, _, rfl⟩
  | some B => rw [hB] at h3; obtain ⟨_, _, A, _, _, rfl, _⟩ := h3; exact ⟨_, _, _, rfl⟩

theorem regCells_one {v : Value} {r : Reg} (h : regRep P w I be b g v r) (ho : oneReg r)
    (hbox : ∀ d gg sz i k, r = .loc d gg sz i k → gg = g d ∧ b d ≠ none) (hview : ∀ d gg off len, r = .view d gg off len → gg = g d ∧ ∃ e xs, b d = some (.arr e xs)) : ∀ u ∈ v.cells.toList, u.oneCell' = true := by
  cases r with
  | val x =>
    have h' : Rep w I v x := h
    have ho' : x.wf := ho
    cases h' with
    | fl v hv1 =>
      intro u hu
      cases v <;> first
        | (simp [One, Value.oneCell'] at hv1; done)
        | (simp [Value.cells] at hu; subst hu; rfl)
    | agg vs cs hl hr =>
      intro u hu
      simp only [Value.cells, Array.mem_toList_iff] at hu
      obtain ⟨j, hj, rfl⟩ := Array.getElem_of_mem hu
      have hjc : j < cs.length := by omega
      have h1 := hr j cs[j] (List.getElem?_eq_getElem hjc)
      have h2 := rep_one h1 (ho' _ (List.getElem_mem hjc))
      simpa [hj] using h2
    | slNone c => intro u hu; simp [Value.cells] at hu; subst hu; rfl
    | sl a n cap sz xs cv hn hcap hmax hsz hc hI hr => intro u hu; simp [Value.cells] at hu; subst hu; rfl
    | ref p cs cv hc hI hr => intro u hu; simp [Value.cells] at hu; subst hu; rfl
    | fn f vs caps hl hr => intro u hu; simp [Value.cells] at hu; subst hu; rfl
    | ifc t v x hr => intro u hu; simp [Value.cells] at hu; subst hu; rfl
  | full xs => obtain ⟨A, rfl⟩ := h.2; intro u hu; simp [Value.cells] at hu; subst hu; rfl
  | loc d gg sz i k =>
    obtain ⟨h1, h2⟩ := hbox _ _ _ _ _ rfl
    obtain ⟨B, _, rfl⟩ := loc_at h h1 h2
    intro u hu; simp [Value.cells] at hu; subst hu; rfl
  | view d gg off len =>
    obtain ⟨h1, e, xs, h2⟩ := hview _ _ _ _ rfl
    obtain ⟨A, l, c, rfl⟩ := slice_like h h1 h2
    intro u hu; simp [Value.cells] at hu; subst hu; rfl
  | none => exact ho.elim
  | tup rs => exact ho.elim

theorem run_storeVar {t : TypeId} {B k : Nat} {cur : Array Value} {T : TypeId} {v : Value} (hw : w.heap[B]? = some (.cells cur T (0, 0))) (hs : v.cells.size = P.cellsOf t) (h0 : 0 < P.cellsOf t) (hone : ∀ u ∈ v.cells.toList, u.oneCell' = true) (hfit : k + v.cells.size ≤ cur.size) :
    (storeVar t ⟨B, k, none⟩ v).run P w = .ok () (w.setRow B (writeAt cur.toList k v.cells.toList).toArray) := by
  have hst := run_storeCells_at P B k T v.cells.toList 0 cur w hw (by simpa using hfit) hone
  simp only [Nat.add_zero] at hst
  simp [storeVar, run_sizeOf hs.symm (by omega), hst, writeAt]

theorem wp_skip_op {o : Oper} {a : Act} {w w' : World} {next : Act → World → Prop} {Q : Exit → Act → World → Prop} (h : (execOp a.eval o).run P w = .ok .skip w') (hn : next (a.put o.dst undef) w') : o.wp P a w next Q := by
  unfold Oper.wp
  rw [h]
  exact hn

theorem getD_toArray_writeAt {cur : Array Value} {vs : List Value} {k : Nat} (h : k + vs.length ≤ cur.size) (j : Nat) : (writeAt cur.toList k vs).toArray.getD j undef = if j < k then cur.getD j undef else if j < k + vs.length then vs.getD (j - k) undef else cur.getD j undef := by
  simp only [Array.getD_eq_getD_getElem?, List.getElem?_toArray, List.getD_eq_getElem?_getD]
  rw [getElem?_writeAt (by simpa using h)]
  split
  · simp
  · split
    · rfl
    · simp

theorem sound_store_cells {t : TypeId} {p x : Operand} (ho : o.op = .store t p x) (hok : okOper n o = true) (hdst : o.dst = none) {d gg sz i k : Nat} {cs vs : List Reg} (hp : s.ev p = .loc d gg sz i k) (hg : gg = s.g d) (hb : s.b d = some (.cells cs))
    (hx : regCells (s.ev x) = some vs) (ha : alive s (s.ev x)) (h1 : oneReg (s.ev x)) (h0 : 0 < P.cellsOf t) (hl : vs.length = P.cellsOf t) (hfit : i * sz + k + vs.length ≤ cs.length)
    (hK : K { s with b := upd s.b d (some (.cells (writeAt cs (i * sz + k) vs))) }) : Sound P E w0 I0 n o s K := by
  rintro a w ⟨I, be, hR⟩ Qc
  have hq := okOper_ev hok (x := p) (by simp [ho, Op.operands]) hR
  have hxr := okOper_ev hok (x := x) (by simp [ho, Op.operands]) hR
  rw [hp] at hq
  obtain ⟨B, hB, e1⟩ := loc_at hq hg (by simp [hb])
  have hal1 : ∀ d gg sz i k, s.ev x = .loc d gg sz i k → gg = s.g d ∧ s.b d ≠ none := fun d gg sz i k e => by rw [e] at ha; exact ha
  have hal2 : ∀ d gg off len, s.ev x = .view d gg off len → gg = s.g d ∧ ∃ e xs, s.b d = some (.arr e xs) := fun d gg off len e => by rw [e] at ha; exact ha
  obtain ⟨hc1, hc2⟩ := regCells_rep hxr hx hal1 hal2
  have hone := regCells_one hxr h1 hal1 hal2
  obtain ⟨B', cur, T, hB', hw, hcs, hcr⟩ := hR.boxes d _ hb
  rw [hB] at hB'
  injection hB' with hB'
  subst hB'
  have hfit' : i * sz + k + (a.eval x).cells.size ≤ cur.size := by omega
  have hrun := run_storeVar (P := P) (t := t) hw (by rw [hc1, hl]) h0 hone hfit'
  have hsz : (writeAt cur.toList (i * sz + k) (a.eval x).cells.toList).toArray.size = cur.size := by
    rw [List.size_toArray, length_writeAt (by simpa using hfit')]; simp
  obtain ⟨hkc, hkd⟩ := hR.set_kept d _ (.cells (writeAt cs (i * sz + k) vs)) B hb hB cur _ T hw hsz (.inl ⟨_, _, rfl, rfl⟩)
  refine wp_skip_op (w' := w.setRow B (writeAt cur.toList (i * sz + k) (a.eval x).cells.toList).toArray) ?_ ⟨_, ⟨I, be, ?_⟩, hK⟩
  · simp [execOp, ho, e1, Instr.storeAt, Instr.sureAddr, hrun]
  · rw [hdst]
    refine hR.setBox d _ (.cells (writeAt cs (i * sz + k) vs)) B hb hB cur _ T hw hsz (.inl ⟨_, _, rfl, rfl⟩) ⟨B, _, T, hB, setRow_heap w B cur _ T (0, 0) hw, by rw [hsz, length_writeAt hfit, hcs], fun j c hj => ?_⟩
    refine regRep.keep (w := w) (I := I) (be := be) (b := s.b) (g := s.g) (fun _ h => h) hkc hkd ?_
    rw [getElem?_writeAt hfit] at hj
    rw [getD_toArray_writeAt (by simpa using hfit')]
    have hvl : (a.eval x).cells.toList.length = vs.length := by simpa using hc1
    rw [hvl]
    split at hj
    · rename_i h2; rw [if_pos h2]; exact hcr j c hj
    · rename_i h2
      rw [if_neg h2]
      split at hj
      · rename_i h3
        rw [if_pos h3]
        have := hc2 _ c hj
        simpa [List.getD_eq_getElem?_getD] using this
      · rename_i h3; rw [if_neg h3]; exact hcr j c hj

/-- an element with cells written over -/
def setElem (x : AV) (k : Nat) (vs : List AV) : AV :=
  match x with
  | .agg cs => .agg (writeAt cs k vs)
  | _ => vs.headD x

theorem sound_store_arr {t : TypeId} {p x : Operand} (ho : o.op = .store t p x) (hok : okOper n o = true) (hdst : o.dst = none) {d gg sz i k : Nat} {e : TypeId} {xs : List AV} {v y : AV} (hp : s.ev p = .loc d gg sz i k) (hg : gg = s.g d) (hb : s.b d = some (.arr e xs))
    (hsz : sz = P.cellsOf e) (hx : regAV (s.ev x) = some v) (hwf : v.wf) (h0 : 0 < P.cellsOf t) (hl : v.cells.length = P.cellsOf t) (hy : xs[i]? = some y) (hfit : k + v.cells.length ≤ y.cells.length) (hagg : y.isAgg = true ∨ (k = 0 ∧ v.isAgg = false))
    (hK : K { s with b := upd s.b d (some (.arr e (xs.set i (setElem y k v.cells)))) }) : Sound P E w0 I0 n o s K := by
  rintro a w ⟨I, be, hR⟩ Qc
  have hq := okOper_ev hok (x := p) (by simp [ho, Op.operands]) hR
  have hxr := regAV_rep (okOper_ev hok (x := x) (by simp [ho, Op.operands]) hR) hx
  rw [hp] at hq
  obtain ⟨B, hB, e1⟩ := loc_at hq hg (by simp [hb])
  have hcc : (a.eval x).cells.size = v.cells.length ∧ (∀ u ∈ (a.eval x).cells.toList, u.oneCell' = true) ∧ ∀ (j : Nat) (c : AV), v.cells[j]? = some c → Rep w I ((a.eval x).cells.getD j undef) c := by
    have h1 := regCells_rep (P := P) (be := be) (b := s.b) (g := s.g) (r := .val v) (cs := v.cells.map .val) hxr rfl (fun _ _ _ _ _ h => by cases h) (fun _ _ _ _ h => by cases h)
    have h2 := regCells_one (P := P) (be := be) (b := s.b) (g := s.g) (r := .val v) hxr hwf (fun _ _ _ _ _ h => by cases h) (fun _ _ _ _ h => by cases h)
    refine ⟨by simpa using h1.1, h2, fun j c hc => ?_⟩
    have := h1.2 j (.val c) (by simp [hc])
    exact this
  obtain ⟨hc1, hc2, hc3⟩ := hcc
  obtain ⟨hs0, hxm, hxel, hbB⟩ := hR.boxes d _ hb
  simp only [hB] at hbB
  obtain ⟨cur, cap, hw, hcs, hcm, hlc, hrep⟩ := hbB
  have hil : i < xs.length := (List.getElem?_eq_some_iff.1 hy).1
  have hyl := (hxel i y hy).1
  have hrow : (i + 1) * P.cellsOf e ≤ cap * P.cellsOf e := Nat.mul_le_mul_right _ (by omega)
  rw [Nat.add_mul, Nat.one_mul] at hrow
  subst hsz
  have hfit' : i * P.cellsOf e + k + (a.eval x).cells.size ≤ cur.size := by omega
  have hrun := run_storeVar (P := P) (t := t) hw (by rw [hc1, hl]) h0 hc2 hfit'
  have hszc : (writeAt cur.toList (i * P.cellsOf e + k) (a.eval x).cells.toList).toArray.size = cur.size := by
    rw [List.size_toArray, length_writeAt (by simpa using hfit')]; simp
  have hlen : (xs.set i (setElem y k v.cells)).length = xs.length := by simp
  obtain ⟨hkc, hkd⟩ := hR.set_kept d _ (.arr e (xs.set i (setElem y k v.cells))) B hb hB cur _ e hw hszc (.inr ⟨_, _, _, rfl, rfl, hlen⟩)
  have hset : (setElem y k v.cells).cells = writeAt y.cells k v.cells ∧ (setElem y k v.cells).wf := by
    cases hyc : y with
    | agg cs =>
      have hywf := (hxel i y hy).2
      rw [hyc] at hywf hfit
      refine ⟨rfl, fun c hc => ?_⟩
      simp only [setElem, AV.cells, writeAt, List.mem_append] at hc
      rcases hc with (hc | hc) | hc
      · exact hywf c (List.mem_of_mem_take hc)
      · exact hwf c hc
      · exact hywf c (List.mem_of_mem_drop hc)
    | _ =>
      rw [hyc] at hagg hfit
      obtain ⟨rfl, hva⟩ := hagg.resolve_left (by simp [AV.isAgg])
      have : v.cells = [v] := by cases v <;> first | rfl | (simp [AV.isAgg] at hva)
      rw [this]
      refine ⟨?_, ?_⟩
      · cases v <;> first | rfl | (simp [AV.isAgg] at hva)
      · simpa [setElem] using hwf
  refine wp_skip_op (w' := w.setRow B (writeAt cur.toList (i * P.cellsOf e + k) (a.eval x).cells.toList).toArray) ?_ ⟨_, ⟨I, be, ?_⟩, hK⟩
  · simp [execOp, ho, e1, Instr.storeAt, Instr.sureAddr, hrun]
  · rw [hdst]
    refine hR.setBox d _ (.arr e (xs.set i (setElem y k v.cells))) B hb hB cur _ e hw hszc (.inr ⟨_, _, _, rfl, rfl, hlen⟩) ⟨hs0, by rw [hlen]; exact hxm, fun i2 x2 h2 => ?_, ?_⟩
    · rw [List.getElem?_set] at h2
      split at h2
      · rename_i h3; subst h3
        try rw [if_pos hil] at h2
        injection h2 with h2
        subst h2
        refine ⟨?_, hset.2⟩
        rw [hset.1, length_writeAt hfit, hyl]
      · exact hxel _ _ h2
    · simp only [hB]
      refine ⟨_, cap, setRow_heap w B cur _ e (0, 0) hw, by rw [hszc, hcs], hcm, by rw [hlen]; exact hlc, fun i2 j x2 c h2 h3 => ?_⟩
      refine Rep.mono (w := w) (I := I) (fun _ h => h) hkc ?_
      rw [getD_toArray_writeAt (by simpa using hfit')]
      have hvl : (a.eval x).cells.toList.length = v.cells.length := by simpa using hc1
      rw [hvl]
      rw [List.getElem?_set] at h2
      split at h2
      · rename_i h4; subst h4
        try rw [if_pos hil] at h2
        injection h2 with h2
        subst h2
        rw [hset.1, getElem?_writeAt hfit] at h3
        by_cases q1 : j < k
        · rw [if_pos (by omega)]; rw [if_pos q1] at h3; exact hrep i j y c hy h3
        · rw [if_neg q1] at h3
          rw [if_neg (by omega)]
          by_cases q2 : j < k + v.cells.length
          · rw [if_pos q2] at h3
            rw [if_pos (by omega)]
            have := hc3 _ c h3
            have e2 : i * P.cellsOf e + j - (i * P.cellsOf e + k) = j - k := by omega
            rw [e2]
            simpa [List.getD_eq_getElem?_getD] using this
          · rw [if_neg q2] at h3
            rw [if_neg (by omega)]; exact hrep i j y c hy h3
      · rename_i h4
        have hjl : j < P.cellsOf e := by rw [← (hxel _ _ h2).1]; exact (List.getElem?_eq_some_iff.1 h3).1
        have hr := hrep i2 j x2 c h2 h3
        rcases Nat.lt_or_gt_of_ne h4 with h5 | h5
        · have : (i + 1) * P.cellsOf e ≤ i2 * P.cellsOf e := Nat.mul_le_mul_right _ h5
          rw [Nat.add_mul, Nat.one_mul] at this
          rw [if_neg (by omega), if_neg (by omega)]; exact hr
        · have : (i2 + 1) * P.cellsOf e ≤ i * P.cellsOf e := Nat.mul_le_mul_right _ h5
          rw [Nat.add_mul, Nat.one_mul] at this
          rw [if_pos (by omega)]; exact hr

end
end Go.Ev
