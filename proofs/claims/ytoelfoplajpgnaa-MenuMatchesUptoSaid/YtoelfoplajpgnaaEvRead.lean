import Derived.DataReads
import Derived.DataElems
import Derived.ChangeArms
import Derived.Deep.Slices
import GoSem.ClaimChange
import Derived.Test.YtoelfoplajpgnaaEvRun
set_option linter.unusedVariables false
set_option linter.unusedSimpArgs false
set_option linter.unusedSectionVars false

namespace Go.Ev
open Go

/-! ### From a row's reading to abstract values -/

mutual
/-- shapes of data -/
inductive Sh where
  | bool
  | int (k : IntKind)
  | string
  | slice (e : Sh)
  | struct (fs : Shs)
inductive Shs where
  | nil
  | cons (s : Sh) (r : Shs)
end

mutual
def Sh.size : Sh → Nat
  | .struct fs => fs.size
  | _ => 1
def Shs.size : Shs → Nat
  | .nil => 0
  | .cons s r => s.size + r.size
end

def Sh.isStruct : Sh → Bool
  | .struct _ => true
  | _ => false

mutual
/-- the type is of that shape -/
def Sh.fits (P : Program) : Sh → TypeId → Bool
  | .bool, t => match P.underlying t with
    | some .bool => P.cellsOf t == 1
    | _ => false
  | .int k, t => match P.underlying t with
    | some (.int k') => k' == k && P.cellsOf t == 1
    | _ => false
  | .string, t => match P.underlying t with
    | some .string => P.cellsOf t == 1
    | _ => false
  | .slice e, t => match P.underlying t with
    | some (.slice t') => e.fits P t' && P.cellsOf t == 1
    | _ => false
  | .struct fs, t => match P.underlying t with
    | some (.struct ft) => fs.fits P 0 (ft.toList.map fun f => (f.offset, f.type)) && P.cellsOf t == fs.size
    | _ => false
def Shs.fits (P : Program) : Shs → Nat → List (Nat × TypeId) → Bool
  | .nil, _, [] => true
  | .cons s r, k, (o, t) :: l => o == k && s.fits P t && r.fits P (k + s.size) l
  | _, _, _ => false
end

mutual
theorem Sh.fits_size {P : Program} : ∀ {s : Sh} {t : TypeId}, s.fits P t = true → P.cellsOf t = s.size
  | .bool, t, h => by unfold Sh.fits at h; split at h <;> simp_all [Sh.size]
  | .int k, t, h => by unfold Sh.fits at h; split at h <;> simp_all [Sh.size]
  | .string, t, h => by unfold Sh.fits at h; split at h <;> simp_all [Sh.size]
  | .slice e, t, h => by unfold Sh.fits at h; split at h <;> simp_all [Sh.size]
  | .struct fs, t, h => by unfold Sh.fits at h; split at h <;> simp_all [Sh.size]
end

mutual
/-- abstract values of a shape; texts and slices of at most K -/
def Sh.good (K : Nat) : Sh → AV → Prop
  | .bool, x => ∃ b, x = .fl (.bool b)
  | .int k, x => ∃ n, x = .fl (.int k n) ∧ k.min ≤ n ∧ n ≤ k.max
  | .string, x => ∃ l, x = .fl (bs l) ∧ l.length ≤ K
  | .slice e, x => ∃ xs, x = .sl xs ∧ xs.length ≤ K ∧ ∀ y ∈ xs, e.good K y
  | .struct fs, x => ∃ cs, x = .agg cs ∧ fs.good K cs
def Shs.good (K : Nat) : Shs → List AV → Prop
  | .nil, cs => cs = []
  | .cons s r, cs => ∃ x ds, s.good K x ∧ r.good K ds ∧ cs = x.cells ++ ds
end

/-- what a reading's bound gives -/
structure Bounds {H : Type} (K : Nat) (Q : DataW H → Prop) : Prop where
  str : ∀ b : List UInt8, Q (.lit (.string b)) → b.length ≤ maxLen → b.length ≤ K
  len : ∀ es sp, Q (.slice es sp) → es.length ≤ maxLen → es.length ≤ K
  elem : ∀ es sp d, Q (.slice es sp) → d ∈ es → Q d
  part : ∀ ps d, Q (.agg ps) → d ∈ ps → Q d
theorem Bounds.any {H : Type} : Bounds (H := H) maxLen (fun _ => True) := ⟨fun _ _ h => h, fun _ _ _ h => h, fun _ _ _ _ _ => trivial, fun _ _ _ _ => trivial⟩

mutual
theorem Sh.good_cells {K : Nat} : ∀ {s : Sh} {x : AV}, s.good K x → x.cells.length = s.size ∧ x.wf
  | .bool, x, h => by obtain ⟨b, rfl⟩ := h; simp [AV.cells, Sh.size, AV.wf, AV.isAgg]
  | .int k, x, h => by obtain ⟨n, rfl, _⟩ := h; simp [AV.cells, Sh.size, AV.wf, AV.isAgg]
  | .string, x, h => by obtain ⟨l, rfl, _⟩ := h; simp [AV.cells, Sh.size, AV.wf, AV.isAgg]
  | .slice e, x, h => by obtain ⟨xs, rfl, _⟩ := h; simp [AV.cells, Sh.size, AV.wf, AV.isAgg]
  | .struct fs, x, h => by
    obtain ⟨cs, rfl, h⟩ := h
    obtain ⟨h1, h2⟩ := Shs.good_cells h
    exact ⟨by simpa [AV.cells, Sh.size] using h1, by simpa [AV.wf, AV.cells] using h2⟩
theorem Shs.good_cells {K : Nat} : ∀ {s : Shs} {cs : List AV}, s.good K cs → cs.length = s.size ∧ ∀ c ∈ cs, c.isAgg = false
  | .nil, cs, h => by simp only [Shs.good] at h; subst h; simp [Shs.size]
  | .cons s r, cs, h => by
    obtain ⟨x, ds, h1, h2, rfl⟩ := h
    obtain ⟨a1, a2⟩ := Sh.good_cells h1
    obtain ⟨b1, b2⟩ := Shs.good_cells h2
    refine ⟨by simp [Shs.size, a1, b1], fun c hc => ?_⟩
    rcases List.mem_append.1 hc with hc | hc
    · exact a2 c hc
    · exact b2 c hc
end

/-- a value of a shape, over its cells -/
def ofCells (s : Sh) (row : List AV) : AV := if s.isStruct then .agg row else row.headD default

/-- all the world's blocks -/
def World.all (w : World) : Cells := fun p => p.block < w.heap.size

theorem cells?_get {w : World} {base : Nat} {a : Addr} {n : Nat} {cs : List Value} (h : w.cells? base a n = some cs) : cs.length = n ∧ ∀ (i : Nat) (v : Value), cs[i]? = some v → w.cell? (a.add i) = some v := by
  unfold World.cells? at h
  split at h
  · refine ⟨by rw [mapM_some_length h]; simp, fun i v hv => ?_⟩
    have hi : i < n := by
      have h1 := mapM_some_length h
      have h2 := (List.getElem?_eq_some_iff.1 hv).1
      simp at h1; omega
    have := mapM_some_get h i i (by simp [hi])
    rw [this, hv]
  · cases h

theorem block_of_cell {w : World} {p : Addr} {v : Value} (h : w.cell? p = some v) : p.block < w.heap.size := by
  unfold World.cell? at h
  split at h
  · rename_i hb; exact (Array.getElem?_eq_some_iff.1 hb).1
  · cases h

section
variable {H : Type} {enc : TypeId × Value → H} {P : Program} {w : World} {base : Nat} {sp : Nat → Bool} {held : Bool}

/-- the cells of a row stand for these -/
def RowRep (w : World) (cs : List Value) (row : List AV) : Prop := cs.length = row.length ∧ ∀ (j : Nat) (v : Value) (c : AV), cs[j]? = some v → row[j]? = some c → Rep w (World.all w) v c

theorem take_drop_get {α : Type} {l : List α} {k n j : Nat} {x : α} (h : ((l.drop k).take n)[j]? = some x) : l[k + j]? = some x := by
  rw [List.getElem?_take] at h
  split at h
  · simpa [List.getElem?_drop] using h
  · cases h

theorem fields_rep {K : Nat} {Q : DataW H → Prop} {n : Nat} {cs : List Value} (ih : ∀ (s : Sh) (t : TypeId) (cs : List Value) (x : DataW H × List MemPlace), s.fits P t = true → DataW.trod enc P w base sp held n t cs = some x → Q x.1 → ∃ v : AV, s.good K v ∧ RowRep w cs v.cells) :
    ∀ (fs : Shs) (k : Nat) (ft : List Field), fs.fits P k (ft.map fun f => (f.offset, f.type)) = true →
      (∀ f ∈ ft, ∃ x, DataW.trod enc P w base sp held n f.type ((cs.drop f.offset).take (P.cellsOf f.type)) = some x ∧ Q x.1) → k + fs.size = cs.length →
      ∃ row, fs.good K row ∧ RowRep w (cs.drop k) row
  | .nil, k, ft, hf, hm, hk => by
    simp only [Shs.size] at hk
    exact ⟨[], rfl, by simp [RowRep, ← hk]⟩
  | .cons s r, k, [], hf, hm, hk => by simp [Shs.fits] at hf
  | .cons s r, k, f :: ft, hf, hm, hk => by
    simp only [List.map_cons, Shs.fits, Bool.and_eq_true, beq_iff_eq] at hf
    obtain ⟨⟨h1, h2⟩, h3⟩ := hf
    obtain ⟨x, hx, hxq⟩ := hm f (by simp)
    simp only [Shs.size] at hk
    obtain ⟨v, hv, hr⟩ := ih s f.type _ x h2 hx hxq
    obtain ⟨row, hg, hr2⟩ := fields_rep ih r (k + s.size) ft h3 (fun f' hf' => hm f' (by simp [hf'])) (by omega)
    have hs := Sh.fits_size h2
    have hvl := (Sh.good_cells hv).1
    refine ⟨v.cells ++ row, ⟨v, row, hv, hg, rfl⟩, ?_, fun j u c hu hc => ?_⟩
    · have := hr2.1
      simp at this ⊢; omega
    · by_cases hj : j < v.cells.length
      · rw [List.getElem?_append_left hj] at hc
        refine hr.2 j u c ?_ hc
        rw [List.getElem?_take, if_pos (by omega), List.getElem?_drop, h1]
        simpa [List.getElem?_drop] using hu
      · rw [List.getElem?_append_right (by omega)] at hc
        refine hr2.2 (j - v.cells.length) u c ?_ hc
        rw [List.getElem?_drop] at hu ⊢
        rw [← hu]
        congr 1
        omega

theorem trod_rep {K : Nat} {Q : DataW H → Prop} (hQ : Bounds K Q) : ∀ (fuel : Nat) (s : Sh) (t : TypeId) (cs : List Value) (x : DataW H × List MemPlace), s.fits P t = true → DataW.trod enc P w base sp held fuel t cs = some x → Q x.1 → ∃ v : AV, s.good K v ∧ RowRep w cs v.cells
  | 0, s, t, cs, x, hf, h, hq => by simp [DataW.trod] at h
  | fuel + 1, s, t, cs, x, hf, h, hq => by
    have one : ∀ (u : Value) (c : AV), Rep w (World.all w) u c → RowRep w [u] [c] := fun u c hr => ⟨rfl, fun j v d hv hd => by
      cases j with
      | zero => simp at hv hd; subst hv hd; exact hr
      | succ j => simp at hv⟩
    cases s with
    | bool =>
      unfold Sh.fits at hf
      split at hf
      · rename_i hu
        obtain ⟨b, rfl, _⟩ := DataW.trod_bool hu h
        exact ⟨.fl (.bool b), ⟨b, rfl⟩, one _ _ (.fl _ rfl)⟩
      · cases hf
    | int k =>
      unfold Sh.fits at hf
      split at hf
      · rename_i k' hu
        simp only [Bool.and_eq_true, beq_iff_eq] at hf
        obtain ⟨rfl, _⟩ := hf
        obtain ⟨n, rfl, _, hw⟩ := DataW.trod_int hu h
        simp only [Lit.wf, Bool.and_eq_true, decide_eq_true_eq] at hw
        exact ⟨.fl (.int k' n), ⟨n, rfl, hw⟩, one _ _ (.fl _ rfl)⟩
      · cases hf
    | string =>
      unfold Sh.fits at hf
      split at hf
      · rename_i hu
        obtain ⟨b, rfl, rfl, hl⟩ := DataW.trod_string hu h
        exact ⟨.fl (.string b), ⟨b.data.toList, by rw [bs_eq], hQ.str _ hq (by rw [Array.length_toList]; exact hl)⟩, one _ _ (.fl _ rfl)⟩
      · cases hf
    | slice e =>
      unfold Sh.fits at hf
      split at hf
      · rename_i t' hu
        simp only [Bool.and_eq_true, beq_iff_eq] at hf
        rcases DataW.trod_slice hu h with ⟨rfl, _⟩ | ⟨a, len, cap, elems, rest, n, hn, rfl, rfl, _, hl, hm, hlen, hel, _, _⟩
        · exact ⟨.sl [], ⟨[], rfl, by simp, by simp⟩, one _ _ (.slNone 0)⟩
        · obtain rfl : n = fuel := by omega
          have hsz := Sh.fits_size hf.1
          have key : ∀ i, i < len → ∃ (cs' : List Value) (v : AV), w.cells? base (a.add (i * P.cellsOf t')) (P.cellsOf t') = some cs' ∧ e.good K v ∧ RowRep w cs' v.cells := fun i hi => by
            have h1 := hel i hi
            rw [List.getElem?_eq_getElem (by omega)] at h1
            obtain ⟨cs', h2, h3⟩ := Option.bind_eq_some_iff.1 h1
            obtain ⟨v, h4, h5⟩ := trod_rep hQ n e t' cs' _ hf.1 h3 (hQ.elem _ _ _ hq (List.mem_map.2 ⟨_, List.getElem_mem _, rfl⟩))
            exact ⟨cs', v, h2, h4, h5⟩
          have hex : ∃ f : Nat → AV, ∀ i, i < len → ∃ cs' : List Value, w.cells? base (a.add (i * P.cellsOf t')) (P.cellsOf t') = some cs' ∧ e.good K (f i) ∧ RowRep w cs' (f i).cells := by
            classical
            refine ⟨fun i => if h : i < len then Classical.choose (Classical.choose_spec (key i h)) else default, fun i hi => ?_⟩
            simp only [hi, dif_pos]
            exact ⟨_, Classical.choose_spec (Classical.choose_spec (key i hi))⟩
          obtain ⟨f, hf2⟩ := hex
          have hget : ∀ (i : Nat) (x : AV), ((List.range len).map f)[i]? = some x → i < len ∧ f i = x := fun i x hx => by
            rw [List.getElem?_map, Option.map_eq_some_iff] at hx
            obtain ⟨q, hq, rfl⟩ := hx
            obtain ⟨h1, h2⟩ := List.getElem?_eq_some_iff.1 hq
            simp at h1 h2
            exact ⟨h1, by rw [← h2]⟩
          have hcell : ∀ (i j : Nat) (x c : AV), ((List.range len).map f)[i]? = some x → x.cells[j]? = some c → ∃ u, w.cell? (a.add (i * P.cellsOf t' + j)) = some u ∧ Rep w (World.all w) u c := fun i j x c hx hc => by
            obtain ⟨hi, rfl⟩ := hget i x hx
            obtain ⟨cs', h1, h2, h3⟩ := hf2 i hi
            have hj : j < cs'.length := by rw [h3.1]; exact (List.getElem?_eq_some_iff.1 hc).1
            refine ⟨cs'[j], ?_, h3.2 j _ c (by simp [hj]) hc⟩
            have := (cells?_get h1).2 j cs'[j] (by simp [hj])
            rwa [Addr.add_add] at this
          have hlenK := hQ.len _ _ hq (by simp; omega)
          refine ⟨.sl ((List.range len).map f), ⟨_, rfl, by simp at hlenK ⊢; omega, fun y hy => ?_⟩, one _ _ (.sl a len cap (P.cellsOf t') _ (fun i j => (w.cell? (a.add (i * P.cellsOf t' + j))).getD undef) (by simp) (by simpa using hl) hm (fun i x hx => ?_) (fun i j x c hx hc => ?_) (fun i j x c hx hc => ?_) (fun i j x c hx hc => ?_))⟩
          · obtain ⟨i, hi⟩ := List.getElem?_of_mem hy
            obtain ⟨hi', rfl⟩ := hget i y hi
            exact (hf2 i hi').choose_spec.2.1
          · obtain ⟨hi, rfl⟩ := hget i x hx
            have := Sh.good_cells (hf2 i hi).choose_spec.2.1
            exact ⟨this.1.trans hsz.symm, this.2⟩
          · obtain ⟨u, h1, _⟩ := hcell i j x c hx hc
            rw [h1]; rfl
          · obtain ⟨u, h1, _⟩ := hcell i j x c hx hc
            exact block_of_cell h1
          · obtain ⟨u, h1, h2⟩ := hcell i j x c hx hc
            rw [h1]; exact h2
      · cases hf
    | struct fs =>
      unfold Sh.fits at hf
      split at hf
      · rename_i ft hu
        simp only [Bool.and_eq_true, beq_iff_eq] at hf
        obtain ⟨xs, n, hn, rfl, hcs, hxs, hfl⟩ := DataW.trod_struct hu h
        obtain rfl : n = fuel := by omega
        obtain ⟨row, hg, hr⟩ := fields_rep (n := n) (cs := cs) (fun s t cs x h1 h2 h3 => trod_rep hQ n s t cs x h1 h2 h3) fs 0 ft.toList hf.1 (fun f hf' => by
          obtain ⟨i, hi⟩ := List.getElem?_of_mem hf'
          rw [Array.getElem?_toList] at hi
          have hlt : i < xs.length := by rw [hxs]; exact (Array.getElem?_eq_some_iff.1 hi).1
          exact ⟨xs[i], by rw [hfl i f hi]; simp [hlt], hQ.part _ _ hq (List.mem_map.2 ⟨_, List.getElem_mem _, rfl⟩)⟩) (by rw [hcs, hf.2]; omega)
        exact ⟨.agg row, ⟨row, rfl, hg⟩, by simpa [cells_agg] using hr⟩
      · cases hf
end
end Go.Ev
