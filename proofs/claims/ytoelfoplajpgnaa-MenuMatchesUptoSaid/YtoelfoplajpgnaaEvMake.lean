import Derived.Test.YtoelfoplajpgnaaEvMore
set_option linter.unusedVariables false
set_option linter.unusedSimpArgs false
set_option linter.unusedSectionVars false

namespace Go.Ev
open Go

def zeroAV : Value → AV
  | .agg cs => .agg (cs.toList.map constCell)
  | v => constCell v

theorem constCell_notAgg {v : Value} (h : v.oneCell' = true) : (constCell v).isAgg = false := by
  unfold constCell; split <;> rfl

theorem constCell_cells (v : Value) : (constCell v).cells = [constCell v] := by
  unfold constCell; split <;> rfl

theorem zeroAV_cells {z : Value} (h : (z.cells.all fun v => v.oneCell') = true) : (zeroAV z).cells = z.cells.toList.map constCell ∧ (zeroAV z).wf := by
  have hh : ∀ v ∈ z.cells, v.oneCell' = true := fun v hv => Array.all_eq_true'.1 h v hv
  have key : (zeroAV z).cells = z.cells.toList.map constCell := by
    cases z <;> first
      | exact constCell_cells _
      | rfl
  refine ⟨key, fun c hc => ?_⟩
  rw [key] at hc
  obtain ⟨v, hv, rfl⟩ := List.mem_map.1 hc
  exact constCell_notAgg (hh v (by simpa using hv))

section
variable {P : Program} {E : Env} {w0 : World} {I0 : Cells} {n : Nat} {o : Oper} {s : St} {K : St → Prop} {a : Act} {w : World} {I : Cells} {be : Nat → Option Nat} {b : Nat → Option Bx} {g : Nat → Nat}

theorem zero_rep {z : Value} (h : (z.cells.all fun v => v.oneCell') = true) (j : Nat) {c : AV} (hc : (zeroAV z).cells[j]? = some c) : Rep w I (z.cells.getD j undef) c := by
  rw [(zeroAV_cells h).1, List.getElem?_map, Option.map_eq_some_iff] at hc
  obtain ⟨v, hv, rfl⟩ := hc
  rw [Array.getElem?_toList] at hv
  have hm := Array.all_eq_true'.1 h v (Array.mem_of_getElem? hv)
  simp only [Array.getD_eq_getD_getElem?, hv, Option.getD_some]
  exact constCell_rep hm

theorem sound_makeSlice {t e : TypeId} {x y : Operand} (ho : o.op = .makeSlice t x y) (hok : okOper n o = true) {d : Nat} (hd : o.dst = some d) (ht : P.underlying t = some (.slice e)) {i : TypeInfo} {z : Value} (hi : P.info? e = some i) (hz : i.zero = some z) (hzs : z.cells.size = i.size) (hz1 : (z.cells.all fun v => v.oneCell') = true) (hs : 0 < P.cellsOf e)
    {k k' : IntKind} {m : Int} (hx : s.ev x = .val (.fl (.int k m))) (hy : s.ev y = .val (.fl (.int k' m))) (h0 : 0 ≤ m) (hmx : m.toNat ≤ maxLen) (hbytes : m.toNat * P.bytesOf e ≤ 281474976710656)
    (hK : K (s.newArr d e (List.replicate m.toNat (zeroAV z)))) : Sound P E w0 I0 n o s K := by
  rintro a w ⟨I, be, hR⟩ Qc
  have h1 := okOper_ev hok (x := x) (by simp [ho, Op.operands]) hR
  have h2 := okOper_ev hok (x := y) (by simp [ho, Op.operands]) hR
  rw [hx] at h1
  rw [hy] at h2
  have e1 := rep_fl h1
  have e2 := rep_fl h2
  have hby : (i.bytes : Int) * m ≤ 281474976710656 := by
    rw [info_bytes hi] at hbytes
    have h3 : ((m.toNat * i.bytes : Nat) : Int) ≤ 281474976710656 := by omega
    rw [Int.natCast_mul, Int.toNat_of_nonneg h0] at h3
    rwa [Int.mul_comm]
  have hr := run_make (P := P) w t e i z ht hi hz k k' m m h0 (Int.le_refl _) hby (by simp only [maxLen] at hmx; omega)
  refine wp_value (v := .slice (some ⟨w.heap.size, 0, none⟩) m.toNat m.toNat) (w' := w.alloc (.cells (madeCells z.cells (m.toNat * i.size)) e)) (by simp [execOp, ho, e1, e2, hr]) ⟨_, ⟨I, upd be d (some w.heap.size), ?_⟩, hK⟩
  rw [hd]
  have hsz := info_size hi
  have hza := zeroAV_cells hz1
  have hcl : (zeroAV z).cells.length = P.cellsOf e := by rw [hza.1, hsz]; simp [hzs]
  have := hR.newArr (w' := w.alloc (.cells (madeCells z.cells (m.toNat * i.size)) e)) d rfl rfl rfl rfl (List.replicate m.toNat (zeroAV z)) hs (cap := m.toNat) (by rw [size_madeCells, hsz]) hmx (by simp)
    (fun x hx => by rw [List.eq_of_mem_replicate hx]; exact ⟨hcl, hza.2⟩)
    (fun i2 j x c h3 h4 => by
      have hx := List.eq_of_mem_replicate (List.mem_of_getElem? h3)
      subst hx
      have hil : i2 < m.toNat := by simpa using (List.getElem?_eq_some_iff.1 h3).1
      have hjl : j < P.cellsOf e := by rw [← hcl]; exact (List.getElem?_eq_some_iff.1 h4).1
      have hlt := slot_lt hil (Nat.le_refl _) hjl
      rw [hsz] at hlt hjl ⊢
      have e3 : (madeCells z.cells (m.toNat * i.size)).getD (i2 * i.size + j) undef = z.cells.getD j undef := by
        have e4 : (i2 * i.size + j) % z.cells.size = j := by rw [hzs, Nat.mul_comm, Nat.mul_add_mod, Nat.mod_eq_of_lt hjl]
        simp only [madeCells, Array.getD_eq_getD_getElem?, Array.getElem?_map, Array.getElem?_range, if_pos hlt, Option.map_some, Option.getD_some]
        rw [e4]
        have hj2 : j < z.cells.size := by omega
        simp [hj2]
      rw [e3]
      exact zero_rep hz1 j h4)
  simpa using this

/-- writing parts into a row of cells -/
theorem foldl_write (v : Array Value) (off : Nat) : ∀ (cells : Array Value) (l : List (Value × Nat)) (k : Nat), (∀ (q : Nat) (x : Value × Nat), l[q]? = some x → x.2 = k + q) → off + k + l.length ≤ cells.size →
    (l.foldl (fun cs (p : Value × Nat) => cs.setIfInBounds (off + p.2) p.1) cells).toList = writeAt cells.toList (off + k) (l.map (·.1))
  | cells, [], k, _, _ => by simp [writeAt]
  | cells, x :: l, k, h, hl => by
    have h0 : x.2 = k := by have := h 0 x rfl; omega
    have ih := foldl_write v off (cells.setIfInBounds (off + k) x.1) l (k + 1) (fun q y hy => by have := h (q + 1) y (by simpa using hy); omega) (by simp at hl ⊢; omega)
    simp only [List.foldl_cons, h0]
    rw [ih]
    simp only [List.length_cons] at hl
    apply List.ext_getElem?
    intro q
    rw [getElem?_writeAt (by simp; omega), getElem?_writeAt (by simp; omega)]
    simp only [List.map_cons, List.length_cons, List.length_map, Array.toList_setIfInBounds]
    by_cases q1 : q < off + k
    · rw [if_pos (by omega), if_pos q1, List.getElem?_set_ne (by omega)]
    · by_cases q2 : q = off + k
      · subst q2
        rw [if_pos (by omega), if_neg (by omega), if_pos (by omega)]
        rw [List.getElem?_set_self (by simp; omega)]
        simp
      · rw [if_neg (by omega), if_neg q1]
        by_cases q3 : q < off + k + (l.length + 1)
        · rw [if_pos (by omega), if_pos q3]
          obtain ⟨m, hm⟩ : ∃ m, q - (off + k) = m + 1 := ⟨q - (off + k) - 1, by omega⟩
          rw [hm, List.getElem?_cons_succ]
          congr 1
          omega
        · rw [if_neg (by omega), if_neg q3, List.getElem?_set_ne (by omega)]

theorem fill_one (cells v : Array Value) (off : Nat) (h : off + v.size ≤ cells.size) :
    (v.zipIdx.foldl (fun cs (x : Value × Nat) => cs.setIfInBounds (off + x.2) x.1) cells).toList = writeAt cells.toList off v.toList := by
  rw [← Array.foldl_toList]
  have := foldl_write v off cells v.zipIdx.toList 0 (fun q x hx => by
    simp only [Array.toList_zipIdx, List.getElem?_zipIdx, Option.map_eq_some_iff] at hx
    obtain ⟨y, _, rfl⟩ := hx
    simp) (by simpa using h)
  rw [this]
  congr 1
  simp

/-- parts and their places -/
theorem fill_spec (place : Nat → Option (Nat × Nat)) : ∀ (parts : List (Nat × Value)) (cells : Array Value) (offs : List Nat), offs.length = parts.length →
    (∀ (q : Nat) (p : Nat × Value) (off : Nat), parts[q]? = some p → offs[q]? = some off → place p.1 = some (off, p.2.cells.size) ∧ off + p.2.cells.size ≤ cells.size) →
    ∃ cs : Array Value, Instr.fill place cells parts = some cs ∧ cs.toList = (parts.zip offs).foldl (fun l x => writeAt l x.2 x.1.2.cells.toList) cells.toList
  | [], cells, offs, hl, _ => ⟨cells, rfl, by simp⟩
  | (i, v) :: parts, cells, [], hl, _ => by simp at hl
  | (i, v) :: parts, cells, off :: offs, hl, h => by
    obtain ⟨h1, h2⟩ := h 0 (i, v) off rfl rfl
    simp only at h1 h2
    have hw := fill_one cells v.cells off h2
    have hsz : (v.cells.zipIdx.foldl (fun cs (x : Value × Nat) => cs.setIfInBounds (off + x.2) x.1) cells).size = cells.size := by
      rw [← Array.length_toList, hw, length_writeAt (by simpa using h2)]; simp
    obtain ⟨cs, hcs, hl2⟩ := fill_spec place parts (v.cells.zipIdx.foldl (fun cs (x : Value × Nat) => cs.setIfInBounds (off + x.2) x.1) cells) offs (by simpa using hl) (fun q p off' hp ho => by
      have := h (q + 1) p off' (by simpa using hp) (by simpa using ho)
      rw [hsz]; exact this)
    refine ⟨cs, ?_, ?_⟩
    · unfold Instr.fill
      simp only [h1]
      rw [if_neg (by simp; omega)]
      exact hcs
    · rw [hl2, hw]
      rfl

/-! ### What is asked of the program's types -/
end

def sliceOf (P : Program) (t : TypeId) : Option TypeId :=
  match P.underlying t with
  | some (.slice e) => some e
  | _ => none
theorem sliceOf_spec {P : Program} {t e : TypeId} (h : sliceOf P t = some e) : P.underlying t = some (.slice e) := by
  unfold sliceOf at h; split at h <;> simp_all

def placesOf (P : Program) (t : TypeId) : Option (List (Nat × Nat)) :=
  match P.underlying t with
  | some (.struct fs) => fs.toList.mapM fun f => (P.info? f.type).map fun i => (f.offset, i.size)
  | _ => none

def fieldOf (P : Program) (t : TypeId) (f : Nat) : Option (Nat × TypeId) :=
  match P.underlying t with
  | some (.struct fs) => (fs[f]?).bind fun fd => if 0 < P.cellsOf fd.type then some (fd.offset, fd.type) else none
  | _ => none
theorem fieldOf_spec {P : Program} {t : TypeId} {f off : Nat} {ft : TypeId} (h : fieldOf P t f = some (off, ft)) : ∃ fs fd, P.underlying t = some (.struct fs) ∧ fs[f]? = some fd ∧ fd.offset = off ∧ fd.type = ft ∧ 0 < P.cellsOf fd.type := by
  unfold fieldOf at h
  split at h
  · rename_i fs hu
    cases hf : fs[f]? with
    | none => simp [hf] at h
    | some fd =>
      simp only [hf, Option.bind_some] at h
      split at h
      · rename_i hc
        simp only [Option.some.injEq, Prod.mk.injEq] at h
        exact ⟨fs, fd, hu, hf, h.1, h.2, hc⟩
      · cases h
  · cases h

def zeroOf (P : Program) (t : TypeId) : Option AV :=
  match P.info? t with
  | some i => match i.zero with
    | some z => if (z.cells.all fun v => v.oneCell') && z.cells.size == i.size then some (zeroAV z) else none
    | none => none
  | none => none
theorem zeroOf_spec {P : Program} {t : TypeId} {x : AV} (h : zeroOf P t = some x) : ∃ i z, P.info? t = some i ∧ i.zero = some z ∧ (z.cells.all fun v => v.oneCell') = true ∧ z.cells.size = i.size ∧ x = zeroAV z := by
  unfold zeroOf at h
  cases hi : P.info? t with
  | none => simp [hi] at h
  | some i =>
    cases hz : i.zero with
    | none => simp [hi, hz] at h
    | some z =>
      simp only [hi, hz] at h
      split at h
      · rename_i hc
        simp only [Bool.and_eq_true, beq_iff_eq] at hc
        injection h with h
        exact ⟨i, z, rfl, hz, hc.1, hc.2, h.symm⟩
      · cases h

/-- an element type as append and make want it -/
def elemOk (P : Program) (e : TypeId) : Bool := decide (0 < P.cellsOf e) && (zeroOf P e).isSome
theorem elemOk_spec {P : Program} {e : TypeId} (h : elemOk P e = true) : ElemType P e := by
  simp only [elemOk, Bool.and_eq_true, decide_eq_true_eq] at h
  obtain ⟨x, hx⟩ := Option.isSome_iff_exists.1 h.2
  obtain ⟨i, z, h1, h2, _, h3, _⟩ := zeroOf_spec hx
  exact ⟨h.1, i, z, h1, h2, h3⟩

section
variable {P : Program} {E : Env} {w0 : World} {I0 : Cells} {n : Nat} {o : Oper} {s : St} {K : St → Prop} {a : Act} {w : World} {I : Cells} {be : Nat → Option Nat} {b : Nat → Option Bx} {g : Nat → Nat}

/-- lists of values and what they stand for -/
def RepL (w : World) (I : Cells) (vs : List Value) (cs : List AV) : Prop := vs.length = cs.length ∧ ∀ (j : Nat) (v : Value) (c : AV), vs[j]? = some v → cs[j]? = some c → Rep w I v c

theorem RepL.write {vs us : List Value} {cs ds : List AV} (h : RepL w I vs cs) (h' : RepL w I us ds) {k : Nat} (hk : k + us.length ≤ vs.length) : RepL w I (writeAt vs k us) (writeAt cs k ds) := by
  have hk' : k + ds.length ≤ cs.length := by have := h.1; have := h'.1; omega
  refine ⟨by rw [length_writeAt hk, length_writeAt hk', h.1], fun j v c hv hc => ?_⟩
  rw [getElem?_writeAt hk] at hv
  rw [getElem?_writeAt hk', ← h'.1] at hc
  split at hv
  · rename_i q; rw [if_pos q] at hc; exact h.2 j v c hv hc
  · rename_i q
    rw [if_neg q] at hc
    split at hv
    · rename_i q2; rw [if_pos q2] at hc; exact h'.2 _ v c hv hc
    · rename_i q2; rw [if_neg q2] at hc; exact h.2 j v c hv hc

theorem rep_cells {v : Value} {x : AV} (h : Rep w I v x) : RepL w I v.cells.toList x.cells := by
  have h1 := regCells_rep (P := default) (be := fun _ => none) (b := fun _ => none) (g := fun _ => 0) (r := .val x) (cs := x.cells.map .val) h rfl (fun _ _ _ _ _ h => by cases h) (fun _ _ _ _ h => by cases h)
  refine ⟨by simpa using h1.1, fun j u c hu hc => ?_⟩
  have := h1.2 j (.val c) (by simp [hc])
  rw [Array.getElem?_toList] at hu
  simpa [hu, regRep] using this

theorem zip_fst_snd {α β : Type} : ∀ (ps : List (α × β)), (ps.map (·.1)).zip (ps.map (·.2)) = ps
  | [] => rfl
  | p :: ps => by simp [zip_fst_snd ps]

/-- the abstract parts, written in their places -/
def writeParts (cs : List AV) : List (Nat × AV) → List AV
  | [] => cs
  | (off, x) :: rest => writeParts (writeAt cs off x.cells) rest

theorem writeParts_rep : ∀ (parts : List (Nat × Value)) (offs : List Nat) (xs : List AV) (vs : List Value) (cs : List AV), RepL w I vs cs → offs.length = parts.length → xs.length = parts.length →
    (∀ (q : Nat) (p : Nat × Value) (x : AV), parts[q]? = some p → xs[q]? = some x → Rep w I p.2 x) → (∀ (q : Nat) (off : Nat) (p : Nat × Value), offs[q]? = some off → parts[q]? = some p → off + p.2.cells.size ≤ vs.length) →
    RepL w I ((parts.zip offs).foldl (fun l x => writeAt l x.2 x.1.2.cells.toList) vs) (writeParts cs (offs.zip xs))
  | [], [], [], vs, cs, h, _, _, _, _ => h
  | p :: parts, off :: offs, x :: xs, vs, cs, h, h1, h2, h3, h4 => by
    have hp := h3 0 p x rfl rfl
    have hf := h4 0 off p rfl rfl
    have hw := h.write (rep_cells hp) (k := off) (by rw [Array.length_toList]; exact hf)
    have hl : (writeAt vs off p.2.cells.toList).length = vs.length := length_writeAt (by rw [Array.length_toList]; exact hf)
    exact writeParts_rep parts offs xs _ _ hw (by simpa using h1) (by simpa using h2) (fun q p' x' hp' hx' => h3 (q + 1) p' x' (by simpa using hp') (by simpa using hx'))
      (fun q off' p' ho' hp' => by rw [hl]; exact h4 (q + 1) off' p' (by simpa using ho') (by simpa using hp'))
  | p :: parts, [], xs, _, _, _, h1, _, _, _ => by simp at h1
  | p :: parts, off :: offs, [], _, _, _, _, h2, _, _ => by simp at h2
  | [], off :: offs, xs, _, _, _, h1, _, _, _ => by simp at h1
  | [], [], x :: xs, _, _, _, _, h2, _, _ => by simp at h2

/-- the parts as a build lays them: places, and what stands there -/
def partsOf (s : St) (pl : List (Nat × Nat)) : List (Nat × Operand) → Option (List (Nat × AV))
  | [] => some []
  | (i, x) :: rest => match pl[i]?, regAV (s.ev x), partsOf s pl rest with
    | some (off, sz), some v, some r => if v.cells.length = sz then some ((off, v) :: r) else none
    | _, _, _ => none

theorem partsOf_spec {pl : List (Nat × Nat)} : ∀ {ps : List (Nat × Operand)} {r : List (Nat × AV)}, partsOf s pl ps = some r → r.length = ps.length ∧
    ∀ (q : Nat) (p : Nat × Operand) (y : Nat × AV), ps[q]? = some p → r[q]? = some y → pl[p.1]? = some (y.1, y.2.cells.length) ∧ regAV (s.ev p.2) = some y.2
  | [], r, h => by simp [partsOf] at h; subst h; simp
  | (i, x) :: rest, r, h => by
    simp only [partsOf] at h
    split at h
    · rename_i off sz v r' h1 h2 h3
      split at h
      · rename_i hc
        injection h with h
        subst h
        obtain ⟨hl, hq⟩ := partsOf_spec h3
        refine ⟨by simp [hl], fun q p y hp hy => ?_⟩
        cases q with
        | zero => simp at hp hy; subst hp hy; exact ⟨by rw [hc]; exact h1, h2⟩
        | succ q => exact hq q p y (by simpa using hp) (by simpa using hy)
      · cases h
    · cases h

theorem mapM_places : ∀ (fs : List Field) (w : World) (pl : List (Nat × Nat)), fs.mapM (fun f => (P.info? f.type).map fun i => (f.offset, i.size)) = some pl →
    (fs.mapM (fun f => (do pure (f.offset, ← sizeOf f.type) : Sem (Nat × Nat)))).run P w = .ok pl w := fun fs w pl h => run_places w fs pl h

theorem yield_build {t : TypeId} {parts : Array (Nat × Operand)} (ho : o.op = .build t parts) (hok : okOper n o = true) {pl : List (Nat × Nat)} (hpl : placesOf P t = some pl) {z : AV} (hz : zeroOf P t = some z) (hfits : (pl.all fun p => decide (p.1 + p.2 ≤ z.cells.length)) = true)
    {ps : List (Nat × AV)} (hps : partsOf s pl parts.toList = some ps) : Yield P E w0 I0 n o s (.val (.agg (writeParts z.cells ps))) := by
  intro a w I be hR
  obtain ⟨i, zv, hi, hzv, hz1, hzs, rfl⟩ := zeroOf_spec hz
  have hza := zeroAV_cells hz1
  unfold placesOf at hpl
  cases hu : P.underlying t with
  | none => simp [hu] at hpl
  | some du =>
    cases du <;> simp only [hu, reduceCtorEq] at hpl
    rename_i fs
    have hrp := run_places (P := P) w fs.toList pl hpl
    obtain ⟨hl, hsp⟩ := partsOf_spec hps
    let cparts : List (Nat × Value) := parts.toList.map fun p => (p.1, a.eval p.2)
    have hev : ∀ (q : Nat) (p : Nat × Operand) (y : Nat × AV), parts.toList[q]? = some p → ps[q]? = some y → Rep w I (a.eval p.2) y.2 := fun q p y hp hy =>
      regAV_rep (okOper_ev hok (x := p.2) (by simp only [ho, Op.operands, List.mem_toArray, List.mem_map]; simpa using ⟨p.1, Array.mem_of_getElem? (by simpa using hp)⟩) hR) (hsp q p y hp hy).2
    have hcl : ∀ {v : Value} {x : AV}, Rep w I v x → v.cells.size = x.cells.length := fun h => by simpa using (rep_cells h).1
    have hfit : ∀ (p : Nat × Nat), p ∈ pl → p.1 + p.2 ≤ zv.cells.size := fun p hp => by
      have := List.all_eq_true.1 hfits p hp
      have h2 : (zeroAV zv).cells.length = zv.cells.size := by rw [hza.1]; simp
      simp only [decide_eq_true_eq] at this
      omega
    have hplace : ∀ (q : Nat) (p : Nat × Value) (off : Nat), cparts[q]? = some p → (ps.map (·.1))[q]? = some off → pl[p.1]? = some (off, p.2.cells.size) ∧ off + p.2.cells.size ≤ zv.cells.size := by
      intro q p off hp hoff
      simp only [cparts, List.getElem?_map, Option.map_eq_some_iff] at hp hoff
      obtain ⟨p0, hp0, rfl⟩ := hp
      obtain ⟨y, hy, rfl⟩ := hoff
      have h1 := (hsp q p0 y hp0 hy).1
      have h2 := hcl (hev q p0 y hp0 hy)
      simp only
      rw [h2]
      exact ⟨h1, hfit _ (List.mem_of_getElem? h1)⟩
    obtain ⟨cs, hcs, hcl2⟩ := fill_spec (fun i => pl[i]?) cparts zv.cells (ps.map (·.1)) (by simp [cparts, hl]) hplace
    have hz0 : RepL w I zv.cells.toList (zeroAV zv).cells := ⟨by rw [hza.1]; simp, fun j v c hv hc => by
      have := zero_rep (w := w) (I := I) hz1 j hc
      rw [Array.getElem?_toList] at hv
      simpa [hv] using this⟩
    have hwr := writeParts_rep cparts (ps.map (·.1)) (ps.map (·.2)) zv.cells.toList (zeroAV zv).cells hz0 (by simp [cparts, hl]) (by simp [cparts, hl])
      (fun q p x hp hx => by
        simp only [cparts, List.getElem?_map, Option.map_eq_some_iff] at hp hx
        obtain ⟨p0, hp0, rfl⟩ := hp
        obtain ⟨y, hy, rfl⟩ := hx
        exact hev q p0 y hp0 hy)
      (fun q off p ho' hp => by have := (hplace q p off hp ho').2; simpa using this)
    rw [zip_fst_snd, ← hcl2] at hwr
    refine ⟨.agg cs, ?_, ?_⟩
    · have hcp : (parts.map fun (p : Nat × Operand) => (p.1, a.eval p.2)).toList = cparts := by simp [cparts]
      have hmp : (fs.mapM fun f => (do pure (f.offset, ← sizeOf f.type) : Sem (Nat × Nat))).run P w = .ok pl.toArray w := by
        rw [Array.mapM_eq_mapM_toList, Sem.run_map]
        have : (fs.toList.mapM fun f => (do pure (f.offset, ← sizeOf f.type) : Sem (Nat × Nat))).run P w = .ok pl w := hrp
        rw [this]
        rfl
      simp only [execOp, ho, Instr.build, Sem.run_bind, zeroValue, typeInfo, run_program, Result.andThen_ok, hi, hzv, run_underlying hu, Sem.run_pure]
      rw [hmp]
      simp only [Result.andThen_ok, hcp]
      have hfe : (fun x : Nat => pl.toArray[x]?) = fun i : Nat => pl[i]? := by funext i; simp
      rw [hfe, hcs]
      rfl
    · refine .agg cs _ (by simpa using hwr.1) fun j c hc => ?_
      have hj : j < cs.size := by have := hwr.1; have h3 := (List.getElem?_eq_some_iff.1 hc).1; simp at this; omega
      have := hwr.2 j cs[j] c (by simp [hj]) hc
      simpa [hj] using this

end
end Go.Ev
