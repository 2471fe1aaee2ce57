import Derived.Test.YtoelfoplajpgnaaEvMake
set_option linter.unusedVariables false
set_option linter.unusedSimpArgs false
set_option linter.unusedSectionVars false

namespace Go.Ev
open Go

section
variable {P : Program} {E : Env} {w0 : World} {I0 : Cells} {n : Nat} {o : Oper} {s : St} {K : St → Prop} {a : Act} {w : World} {I : Cells} {be : Nat → Option Nat} {b : Nat → Option Bx} {g : Nat → Nat}

/-! ### buildSlice -/
def regAVsOf (s : St) : List Operand → Option (List AV)
  | [] => some []
  | x :: rest => match regAV (s.ev x), regAVsOf s rest with
    | some v, some r => some (v :: r)
    | _, _ => none

theorem regAVsOf_spec : ∀ {ps : List Operand} {r : List AV}, regAVsOf s ps = some r → r.length = ps.length ∧ ∀ (q : Nat) (p : Operand) (y : AV), ps[q]? = some p → r[q]? = some y → regAV (s.ev p) = some y
  | [], r, h => by simp [regAVsOf] at h; subst h; simp
  | x :: rest, r, h => by
    simp only [regAVsOf] at h
    split at h
    · rename_i v r' h1 h2
      injection h with h
      subst h
      obtain ⟨hl, hq⟩ := regAVsOf_spec h2
      refine ⟨by simp [hl], fun q p y hp hy => ?_⟩
      cases q with
      | zero => simp at hp hy; subst hp hy; exact h1
      | succ q => exact hq q p y (by simpa using hp) (by simpa using hy)
    · cases h

/-- rows written one behind the other -/
theorem write_rows {sz : Nat} : ∀ (vs : List (List Value)) (k : Nat) (cur : List Value), (∀ v ∈ vs, v.length = sz) → (k + vs.length) * sz ≤ cur.length →
    ∀ (i j : Nat) (v : List Value), vs[i]? = some v → j < sz → ((vs.zipIdx k).foldl (fun l x => writeAt l (x.2 * sz) x.1) cur)[(k + i) * sz + j]? = v[j]? := by
  have keep : ∀ (vs : List (List Value)) (k : Nat) (cur : List Value), (∀ v ∈ vs, v.length = sz) → (k + vs.length) * sz ≤ cur.length → ∀ q, q < k * sz → ((vs.zipIdx k).foldl (fun l x => writeAt l (x.2 * sz) x.1) cur)[q]? = cur[q]? := by
    intro vs
    induction vs with
    | nil => intro k cur _ _ q _; rfl
    | cons v vs ih =>
      intro k cur hv hl q hq
      have hvl := hv v (by simp)
      have h1 : (k + 1) * sz ≤ (k + (v :: vs).length) * sz := Nat.mul_le_mul_right _ (by rw [List.length_cons]; omega)
      rw [Nat.add_mul k 1, Nat.one_mul] at h1
      have hfit : k * sz + v.length ≤ cur.length := by omega
      simp only [List.zipIdx_cons, List.foldl_cons]
      rw [ih (k + 1) _ (fun u hu => hv u (by simp [hu])) (by rw [length_writeAt hfit]; simpa [Nat.add_assoc, Nat.add_comm 1] using hl) q (by rw [Nat.add_mul]; omega), getElem?_writeAt hfit, if_pos hq]
  intro vs
  induction vs with
  | nil => intro k cur _ _ i j v h; simp at h
  | cons u vs ih =>
    intro k cur hv hl i j v h hj
    have hul := hv u (by simp)
    have h1 : (k + 1) * sz ≤ (k + (u :: vs).length) * sz := Nat.mul_le_mul_right _ (by rw [List.length_cons]; omega)
    rw [Nat.add_mul k 1, Nat.one_mul] at h1
    have hfit : k * sz + u.length ≤ cur.length := by omega
    have hl' : (k + 1 + vs.length) * sz ≤ (writeAt cur (k * sz) u).length := by rw [length_writeAt hfit]; simpa [Nat.add_assoc, Nat.add_comm 1] using hl
    simp only [List.zipIdx_cons, List.foldl_cons]
    cases i with
    | zero =>
      simp at h
      subst h
      simp only [Nat.add_zero]
      rw [keep vs (k + 1) _ (fun u hu => hv u (by simp [hu])) hl' _ (by rw [Nat.add_mul]; omega), getElem?_writeAt hfit, if_neg (by omega), if_pos (by omega)]
      congr 1
      omega
    | succ i =>
      have := ih (k + 1) (writeAt cur (k * sz) u) (fun u hu => hv u (by simp [hu])) hl' i j v (by simpa using h) hj
      rw [← this]
      congr 1
      have e : k + 1 + i = k + (i + 1) := by omega
      rw [e]

theorem sound_buildSlice {t e : TypeId} {len : Nat} {parts : Array (Nat × Operand)} (ho : o.op = .buildSlice t len parts) (hok : okOper n o = true) {d : Nat} (hd : o.dst = some d) (ht : sliceOf P t = some e) (hz : elemOk P e = true)
    (hix : parts.toList.map (·.1) = List.range len) (hsmall : len * P.cellsOf e ≤ 16777216) {xs : List AV} (hx : regAVsOf s (parts.toList.map (·.2)) = some xs) (hel : Elems P e xs) (hK : K (s.newArr d e xs)) : Sound P E w0 I0 n o s K := by
  rintro a w ⟨I, be, hR⟩ Qc
  obtain ⟨hs0, i, z, hi, hzv, hzs⟩ := elemOk_spec hz
  have hu := sliceOf_spec ht
  have hsz := info_size hi
  obtain ⟨hl, hsp⟩ := regAVsOf_spec hx
  have hlen : parts.size = len := by have := congrArg List.length hix; simpa using this
  have hxl : xs.length = len := by rw [hl]; simp [hlen]
  let cparts : List (Nat × Value) := parts.toList.map fun p => (p.1, a.eval p.2)
  have hev : ∀ (q : Nat) (p : Nat × Operand) (y : AV), parts.toList[q]? = some p → xs[q]? = some y → Rep w I (a.eval p.2) y := fun q p y hp hy =>
    regAV_rep (okOper_ev hok (x := p.2) (by simp only [ho, Op.operands, List.mem_toArray, List.mem_map]; simpa using ⟨p.1, Array.mem_of_getElem? (by simpa using hp)⟩) hR) (hsp q p.2 y (by simp only [List.getElem?_map, hp, Option.map_some]) hy)
  have hcl : ∀ {v : Value} {x : AV}, Rep w I v x → v.cells.size = x.cells.length := fun h => by simpa using (rep_cells h).1
  have hidx : ∀ (q : Nat) (p : Nat × Operand), parts.toList[q]? = some p → p.1 = q ∧ q < len := by
    intro q p hp
    have h1 : (parts.toList.map (·.1))[q]? = some p.1 := by simp only [List.getElem?_map, hp, Option.map_some]
    rw [hix] at h1
    have h2 : q < len := by simpa using (List.getElem?_eq_some_iff.1 h1).1
    rw [List.getElem?_range h2] at h1
    injection h1 with h1
    exact ⟨h1.symm, h2⟩
  have hcs : ∀ (q : Nat) (p : Nat × Operand), parts.toList[q]? = some p → (a.eval p.2).cells.size = P.cellsOf e := by
    intro q p hp
    obtain ⟨_, hq⟩ := hidx q p hp
    have hy : xs[q]? = some xs[q] := List.getElem?_eq_getElem (by omega)
    rw [hcl (hev q p _ hp hy)]
    exact (hel _ (List.getElem_mem _)).1
  let cells0 : Array Value := (Array.range (len * P.cellsOf e)).map ((if len * P.cellsOf e = 0 then #[] else z.cells)[· % (if len * P.cellsOf e = 0 then (#[] : Array Value) else z.cells).size]!)
  have hc0 : cells0.size = len * P.cellsOf e := by simp [cells0]
  obtain ⟨cs, hfill, hcl2⟩ := fill_spec (fun i => some (i * P.cellsOf e, P.cellsOf e)) cparts cells0 (parts.toList.map fun p => p.1 * P.cellsOf e) (by simp [cparts]) (by
    intro q p off hp hoff
    simp only [cparts, List.getElem?_map, Option.map_eq_some_iff] at hp hoff
    obtain ⟨p0, hp0, rfl⟩ := hp
    obtain ⟨p1, hp1, rfl⟩ := hoff
    rw [hp0] at hp1
    injection hp1 with hp1
    subst hp1
    have h1 := hcs q p0 hp0
    obtain ⟨h2, h3⟩ := hidx q p0 hp0
    simp only
    rw [h1]
    refine ⟨rfl, ?_⟩
    rw [hc0, h2]
    have : (q + 1) * P.cellsOf e ≤ len * P.cellsOf e := Nat.mul_le_mul_right _ h3
    rw [Nat.add_mul, Nat.one_mul] at this
    exact this)
  have hzip : (cparts.zip (parts.toList.map fun p => p.1 * P.cellsOf e)).foldl (fun l x => writeAt l x.2 x.1.2.cells.toList) cells0.toList = ((parts.toList.map fun p => (a.eval p.2).cells.toList).zipIdx 0).foldl (fun l x => writeAt l (x.2 * P.cellsOf e) x.1) cells0.toList := by
    have gen : ∀ (ps : List (Nat × Operand)) (k : Nat) (l : List Value), (∀ (q : Nat) (p : Nat × Operand), ps[q]? = some p → p.1 = k + q) →
        ((ps.map fun p => (p.1, a.eval p.2)).zip (ps.map fun p => p.1 * P.cellsOf e)).foldl (fun l x => writeAt l x.2 x.1.2.cells.toList) l = ((ps.map fun p => (a.eval p.2).cells.toList).zipIdx k).foldl (fun l x => writeAt l (x.2 * P.cellsOf e) x.1) l := by
      intro ps
      induction ps with
      | nil => intro k l _; rfl
      | cons p ps ih =>
        intro k l h
        have h0 := h 0 p rfl
        simp only [List.map_cons, List.zip_cons_cons, List.foldl_cons, List.zipIdx_cons]
        rw [h0, Nat.add_zero]
        exact ih (k + 1) _ (fun q p' hp' => by have := h (q + 1) p' (by simpa using hp'); omega)
    exact gen parts.toList 0 cells0.toList (fun q p hp => by rw [(hidx q p hp).1]; omega)
  have hcsz : cs.size = len * P.cellsOf e := by
    have h1 : ∀ (l : List (List Value × Nat)) (c : List Value), (∀ x ∈ l, x.2 * P.cellsOf e + x.1.length ≤ c.length) → (l.foldl (fun l x => writeAt l (x.2 * P.cellsOf e) x.1) c).length = c.length := by
      intro l
      induction l with
      | nil => intro c _; rfl
      | cons x l ih =>
        intro c h
        have hx := h x (by simp)
        have hw := length_writeAt hx
        simp only [List.foldl_cons]
        rw [ih _ (fun y hy => by rw [hw]; exact h y (by simp [hy])), hw]
    have h2 := congrArg List.length hcl2
    rw [hzip, h1] at h2
    · simpa [hc0] using h2
    · intro x hx
      obtain ⟨q, hq⟩ := List.mem_iff_getElem?.1 hx
      simp only [List.getElem?_zipIdx, List.getElem?_map, Option.map_eq_some_iff] at hq
      obtain ⟨_, ⟨p, hp, rfl⟩, rfl⟩ := hq
      obtain ⟨_, h3⟩ := hidx q p hp
      simp only [Nat.zero_add, Array.length_toList, hc0, hcs q p hp]
      have : (q + 1) * P.cellsOf e ≤ len * P.cellsOf e := Nat.mul_le_mul_right _ h3
      rw [Nat.add_mul, Nat.one_mul] at this
      exact this
  refine wp_value (v := .slice (some ⟨w.heap.size, 0, none⟩) len len) (w' := w.alloc (.cells cs e)) ?_ ⟨_, ⟨I, upd be d (some w.heap.size), ?_⟩, hK⟩
  · have hsm : ¬ (len * i.size > 2 ^ 24) := by rw [← hsz]; omega
    have hpe : (parts.map fun (p : Nat × Operand) => (p.1, a.eval p.2)).toList = cparts := by simp [cparts]
    have hfill' := hfill
    simp only [hsz] at hfill'
    simp only [execOp, ho, Instr.buildSlice, Sem.run_bind, run_underlying hu, Result.andThen_ok, sizeOf, typeInfo, run_program, hi, Sem.run_pure, hsm, if_false, hpe]
    by_cases h0 : len * i.size = 0
    · have e1 : cells0 = (Array.range (len * i.size)).map ((#[] : Array Value)[· % (#[] : Array Value).size]!) := by simp only [cells0, hsz, h0, if_true]
      rw [e1] at hfill'
      simp only [h0, if_true, Sem.run_bind, Sem.run_pure, Result.andThen_ok] at hfill' ⊢
      rw [hfill']
      simp [newRow]
    · have e1 : cells0 = (Array.range (len * i.size)).map (z.cells[· % z.cells.size]!) := by simp only [cells0, hsz, h0, if_false]
      rw [e1] at hfill'
      simp only [h0, if_false, Sem.run_bind, zeroValue, typeInfo, run_program, Result.andThen_ok, hi, hzv, Sem.run_pure]
      rw [hfill']
      simp [newRow]
  · rw [hd]
    have hnew := hR.newArr (w' := w.alloc (.cells cs e)) d rfl rfl rfl rfl xs hs0 (cap := len) hcsz (by simp only [maxLen]; have : len ≤ len * P.cellsOf e := Nat.le_mul_of_pos_right _ hs0; omega) (by omega) hel (fun i2 j x c h1 h2 => by
      have hil : i2 < len := by rw [← hxl]; exact (List.getElem?_eq_some_iff.1 h1).1
      have hjl : j < P.cellsOf e := by rw [← (hel x (List.mem_of_getElem? h1)).1]; exact (List.getElem?_eq_some_iff.1 h2).1
      obtain ⟨pp, hpe⟩ : ∃ p, parts.toList[i2]? = some p := ⟨_, List.getElem?_eq_getElem (by simp [hlen, hil])⟩
      have hr := hev i2 _ x hpe h1
      have hw := write_rows (sz := P.cellsOf e) (parts.toList.map fun p => (a.eval p.2).cells.toList) 0 cells0.toList
        (fun v hv => by
          obtain ⟨p, hp, rfl⟩ := List.mem_map.1 hv
          obtain ⟨q, hq⟩ := List.mem_iff_getElem?.1 hp
          rw [Array.length_toList]; exact hcs q p hq)
        (by simp [hc0, hlen]) i2 j (a.eval pp.2).cells.toList (by simp only [List.getElem?_map, hpe, Option.map_some]) hjl
      rw [← hzip, ← hcl2, Nat.zero_add] at hw
      have hjv : j < (a.eval pp.2).cells.size := by rw [hcs i2 _ hpe]; exact hjl
      have h3 := (rep_cells hr).2 j _ c (List.getElem?_eq_getElem (by simpa using hjv)) h2
      have h4 : cs.getD (i2 * P.cellsOf e + j) undef = (a.eval pp.2).cells.toList[j]'(by simpa using hjv) := by
        rw [Array.getD_eq_getD_getElem?, ← Array.getElem?_toList, hw, List.getElem?_eq_getElem (by simpa using hjv)]
        rfl
      rw [h4]; exact h3)
    rw [hxl] at hnew
    exact hnew

end
end Go.Ev
