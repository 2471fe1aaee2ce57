import Derived.Test.YtoelfoplajpgnaaEvBox
set_option linter.unusedVariables false
set_option linter.unusedSimpArgs false
set_option linter.unusedSectionVars false

namespace Go.Ev
open Go

section
variable {P : Program} {w : World} {I : Cells}

theorem run_append_in {t u ty e : TypeId} {i : TypeInfo} {du : TypeDesc} (ht : P.underlying t = some (.slice e)) (hu : P.underlying u = some du) (hdu : (∃ q, du = .slice q) ∨ du = .string) (hi : P.info? e = some i)
    {g n cap m : Nat} {cur : Array Value} (hg : w.heap[g]? = some (.cells cur e (0, 0))) {v : Value} {news : List Value} (hlen : (Builtin.lenOf v).run P w = .ok m w) (hf : (Builtin.firstCells i.size m v).run P w = .ok news.toArray w)
    (h1 : ∀ u ∈ news, u.oneCell' = true) (hroom : n + m ≤ cap) (hfit : n * i.size + news.length ≤ cur.size) :
    (Builtin.append_ #[t, u] ty #[.slice (some ⟨g, 0, none⟩) n cap, v]).run P w =
      .ok (.slice (some ⟨g, 0, none⟩) (n + m) cap) (w.setRow g (cur.toList.take (n * i.size) ++ news ++ cur.toList.drop (n * i.size + news.length)).toArray) := by
  have hst := run_storeCells_at P g (n * i.size) e news 0 cur w hg (by simpa using hfit) h1
  simp only [Nat.add_zero] at hst
  rcases hdu with ⟨q, rfl⟩ | rfl <;>
    simp [Builtin.append_, run_underlying ht, run_underlying hu, sizeOf, typeInfo, hi, hlen, hroom, hf, addr_add, hst]

theorem run_append_zero {t u ty e : TypeId} {i : TypeInfo} {du : TypeDesc} (ht : P.underlying t = some (.slice e)) (hu : P.underlying u = some du) (hdu : (∃ q, du = .slice q) ∨ du = .string) (hi : P.info? e = some i)
    {A : Option Addr} {v : Value} (hlen : (Builtin.lenOf v).run P w = .ok 0 w) (hf : (Builtin.firstCells i.size 0 v).run P w = .ok #[] w) :
    (Builtin.append_ #[t, u] ty #[.slice A 0 0, v]).run P w = .ok (.slice A 0 0) w := by
  rcases hdu with ⟨q, rfl⟩ | rfl <;> cases A <;>
    simp [Builtin.append_, run_underlying ht, run_underlying hu, sizeOf, typeInfo, hi, hlen, hf, storeCells]

theorem run_append_out {t u ty e : TypeId} {i : TypeInfo} {z : Value} {du : TypeDesc} (ht : P.underlying t = some (.slice e)) (hu : P.underlying u = some du) (hdu : (∃ q, du = .slice q) ∨ du = .string) (hi : P.info? e = some i) (hz : i.zero = some z)
    {A : Option Addr} {n cap m : Nat} {v : Value} {olds news : List Value} (hlen : (Builtin.lenOf v).run P w = .ok m w) (hf : (Builtin.firstCells i.size m v).run P w.drew = .ok news.toArray w.drew)
    (hfo : (Builtin.firstCells i.size n (.slice A n cap)).run P w.drew = .ok olds.toArray w.drew) (hg : cap < n + m) (h63 : ((n + m : Nat) : Int) ≤ 9223372036854775807) (hfit : Builtin.nextslicecap (n + m) cap * i.bytes ≤ 281474976710656) :
    (Builtin.append_ #[t, u] ty #[.slice A n cap, v]).run P w =
      .ok (.slice (some ⟨w.heap.size, 0, none⟩) (n + m) (grownCap w (n + m) cap e))
        (w.drew.alloc (.cells (olds.toArray ++ news.toArray ++ Builtin.zeroCells z.cells (grownCap w (n + m) cap e - (n + m))) e)) := by
  have hn : ¬ (n + m ≤ cap) := by omega
  have h63' : ¬ (9223372036854775807 < ((n : Int) + (m : Int))) := by omega
  have h48' : ¬ (281474976710656 < Builtin.nextslicecap (n + m) cap * i.bytes) := by omega
  rcases hdu with ⟨q, rfl⟩ | rfl <;>
    (simp [Builtin.append_, run_underlying ht, run_underlying hu, sizeOf, typeInfo, zeroValue, hi, hz, hlen, hn, h63', h48', Question.forced, hf, hfo, newRow, grownCap]
     try (congr 2; apply Array.ext'; simp [List.append_assoc]))

end

theorem info_bytes {P : Program} {e : TypeId} {i : TypeInfo} (hi : P.info? e = some i) : P.bytesOf e = i.bytes := by simp [Program.bytesOf, hi]
theorem info_size {P : Program} {e : TypeId} {i : TypeInfo} (hi : P.info? e = some i) : P.cellsOf e = i.size := by simp [Program.cellsOf, hi]

section
variable {P : Program} {E : Env} {w0 : World} {I0 : Cells} {n : Nat} {s : St} {a : Act} {w w' : World} {I : Cells} {be : Nat → Option Nat}

/-- what the cells of a row read as, behind a copy at its end -/
theorem splice_rep {sz k : Nat} {xs ys : List AV} {cur : Array Value} {news : List Value} (hcur : ∀ (i j : Nat) (x c : AV), xs[i]? = some x → x.cells[j]? = some c → Rep w I (cur.getD (i * sz + j) undef) c)
    (hxs : ∀ x ∈ xs, x.cells.length = sz) (hk : k = xs.length) (hlc : k * sz ≤ cur.size) (hn : news.length = ys.length * sz)
    (hrep : ∀ (i j : Nat) (y c : AV), ys[i]? = some y → y.cells[j]? = some c → Rep w I (news.getD (i * sz + j) undef) c) (hys : ∀ y ∈ ys, y.cells.length = sz) (tail : List Value) :
    ∀ (i j : Nat) (x c : AV), (xs ++ ys)[i]? = some x → x.cells[j]? = some c → Rep w I ((cur.toList.take (k * sz) ++ news ++ tail).toArray.getD (i * sz + j) undef) c := by
  subst hk
  intro i j x c hx hc
  have hT : (cur.toList.take (xs.length * sz)).length = xs.length * sz := by simp; omega
  by_cases hi : i < xs.length
  · rw [List.getElem?_append_left hi] at hx
    have hjl : j < sz := by rw [← hxs x (List.mem_of_getElem? hx)]; exact (List.getElem?_eq_some_iff.1 hc).1
    have hlt := slot_lt hi (Nat.le_refl _) hjl
    have h1 := hcur i j x c hx hc
    have h2 : (cur.toList.take (xs.length * sz) ++ news ++ tail).toArray.getD (i * sz + j) undef = cur.getD (i * sz + j) undef := by
      simp only [Array.getD_eq_getD_getElem?, List.getElem?_toArray, List.append_assoc]
      rw [List.getElem?_append_left (by rw [hT]; exact hlt), List.getElem?_take, if_pos hlt, Array.getElem?_toList]
    rw [h2]; exact h1
  · have hge : xs.length ≤ i := by omega
    rw [List.getElem?_append_right hge] at hx
    have hjl : j < sz := by rw [← hys x (List.mem_of_getElem? hx)]; exact (List.getElem?_eq_some_iff.1 hc).1
    have hil : i - xs.length < ys.length := (List.getElem?_eq_some_iff.1 hx).1
    have hlt := slot_lt hil (Nat.le_refl _) hjl
    have h1 := hrep _ j x c hx hc
    have e1 : i * sz + j = xs.length * sz + ((i - xs.length) * sz + j) := by
      rw [Nat.sub_mul]
      have : xs.length * sz ≤ i * sz := Nat.mul_le_mul_right _ hge
      omega
    have h2 : (cur.toList.take (xs.length * sz) ++ news ++ tail).toArray.getD (i * sz + j) undef = news.getD ((i - xs.length) * sz + j) undef := by
      simp only [Array.getD_eq_getD_getElem?, List.getElem?_toArray, List.append_assoc, List.getD_eq_getElem?_getD]
      rw [List.getElem?_append_right (by rw [hT, e1]; omega), hT, List.getElem?_append_left (by rw [hn]; omega)]
      congr 2
      omega
    rw [h2]; exact h1

theorem getD_take_lt {cur : Array Value} {k m : Nat} (hk : k < m) : (cur.toList.take m).toArray.getD k undef = cur.getD k undef := by
  simp only [Array.getD_eq_getD_getElem?, List.getElem?_toArray, List.getElem?_take, if_pos hk, Array.getElem?_toList]

theorem elems_append {e : TypeId} {xs ys : List AV} (h1 : Elems P e xs) (h2 : Elems P e ys) : Elems P e (xs ++ ys) := by
  intro x hx
  rcases List.mem_append.1 hx with h | h
  · exact h1 x h
  · exact h2 x h

/-- append to an array box: the box at d is the new one -/
theorem RelAt.append (h : RelAt P E w0 I0 n s a w I be) {t u ty e : TypeId} {i : TypeInfo} {z : Value} {du : TypeDesc} (ht : P.underlying t = some (.slice e)) (hu : P.underlying u = some du) (hdu : (∃ q, du = .slice q) ∨ du = .string) (hi : P.info? e = some i) (hz : i.zero = some z) (hzs : z.cells.size = i.size)
    (d d' k : Nat) {gg : Nat} {xs : List AV} {v v2 : Value} (hv : regRep P w I be s.b s.g v (.view d' gg 0 k)) (hg : gg = s.g d') (hb : s.b d' = some (.arr e xs))
    {ys : List AV} {news : List Value} (hsrc : Src P w I (P.cellsOf e) v2 ys news) (hel : Elems P e ys) (hmx : k + ys.length ≤ maxLen) (hbytes : (k + ys.length) * P.bytesOf e ≤ 140737488355328) :
    ∃ v' w' be', (Builtin.append_ #[t, u] ty #[v, v2]).run P w = .ok v' w' ∧
      RelAt P E w0 I0 n (({ s with b := upd s.b d' none } : St).newArr d e (xs.take k ++ ys)) (a.put (some d) v') w' I be' := by
  have hbox := h.boxes d' _ hb
  have hdn : s.b d' ≠ none := by simp [hb]
  obtain ⟨hs, hxm, hxel, hbB⟩ := hbox
  obtain ⟨hl, hvv⟩ := view_at hv hg hb
  have hdrop := h.drop d'
  have hkl : (xs.take k).length = k := by simp; omega
  have hxs : Elems P e (xs.take k) := fun x hx => by
    obtain ⟨j, hj, rfl⟩ := List.getElem_of_mem hx
    have := List.getElem?_eq_getElem hj
    rw [List.getElem?_take] at this
    split at this
    · exact hxel _ _ this
    · cases this
  have hall := elems_append hxs hel
  have hsize := info_size hi
  have hby := info_bytes hi
  have hlen : (xs.take k ++ ys).length = k + ys.length := by rw [List.length_append, hkl]
  -- a new row
  have out : ∀ (A : Option Addr) (cap : Nat) (olds : List Value), v = .slice A k cap → (∀ w1, w1.heap = w.heap → (Builtin.firstCells (P.cellsOf e) k v).run P w1 = .ok olds.toArray w1) → olds.length = k * P.cellsOf e →
      (∀ (i j : Nat) (x c : AV), (xs.take k)[i]? = some x → x.cells[j]? = some c → Rep w I (olds.getD (i * P.cellsOf e + j) undef) c) → cap < k + ys.length →
      ∃ v' w' be', (Builtin.append_ #[t, u] ty #[v, v2]).run P w = .ok v' w' ∧
        RelAt P E w0 I0 n (({ s with b := upd s.b d' none } : St).newArr d e (xs.take k ++ ys)) (a.put (some d) v') w' I be' := by
    intro A cap olds e1 hfo hol hor hcap
    have hfit := growslice_fits hcap (hby ▸ hbytes)
    have hf1 := hsrc.cells w.drew rfl ys.length (Nat.le_refl _)
    rw [List.take_of_length_le (by rw [hsrc.size]; exact Nat.le_refl _)] at hf1
    have hr := run_append_out (w := w) (ty := ty) ht hu hdu hi hz (A := A) (n := k) (cap := cap) (m := ys.length) (v := v2) (olds := olds) (news := news) (hsrc.len w) (by rw [← hsize]; exact hf1)
      (by rw [← hsize, ← e1]; exact hfo w.drew rfl) hcap (by simp only [maxLen] at hmx; omega) hfit
    have hge := grownCap_ge w (k + ys.length) cap e
    have hcm : grownCap w (k + ys.length) cap e ≤ maxLen := grownCap_le_maxLen w (k + ys.length) cap e hmx
    have hcs : (olds.toArray ++ news.toArray ++ Builtin.zeroCells z.cells (grownCap w (k + ys.length) cap e - (k + ys.length))).size = grownCap w (k + ys.length) cap e * P.cellsOf e := by
      simp only [Array.size_append, List.size_toArray, size_zeroCells, hzs, hol, hsrc.size, ← hsize, ← Nat.add_mul]
      congr 1
      omega
    have hnew := hdrop.newArr (w' := w.drew.alloc (.cells (olds.toArray ++ news.toArray ++ Builtin.zeroCells z.cells (grownCap w (k + ys.length) cap e - (k + ys.length))) e)) d rfl rfl rfl rfl (xs.take k ++ ys) hs hcs hcm (by rw [hlen]; exact hge) hall
      (fun i j x c hx hc => by
        have := splice_rep (w := w) (I := I) (sz := P.cellsOf e) (k := k) (xs := xs.take k) (ys := ys) (cur := olds.toArray) (news := news) (fun i j x c h1 h2 => by simpa using hor i j x c h1 h2) (fun x hx => (hxs x hx).1) hkl.symm (by simp [hol]) hsrc.size hsrc.rep (fun y hy => (hel y hy).1)
          (Builtin.zeroCells z.cells (grownCap w (k + ys.length) cap e - (k + ys.length))).toList i j x c hx hc
        rw [List.take_of_length_le (by simp [hol])] at this
        have e2 : (olds.toArray.toList ++ news ++ (Builtin.zeroCells z.cells (grownCap w (k + ys.length) cap e - (k + ys.length))).toList).toArray = olds.toArray ++ news.toArray ++ Builtin.zeroCells z.cells (grownCap w (k + ys.length) cap e - (k + ys.length)) := by
          apply Array.ext'; simp
        rw [e2] at this
        exact this)
    refine ⟨_, _, upd be d (some w.heap.size), by rw [e1]; exact hr, ?_⟩
    rw [hlen] at hnew
    exact hnew
  -- the old elements, read
  obtain ⟨olds, hold⟩ := src_view hv hg hb ⟨hs, hxm, hxel, hbB⟩
  simp only [List.drop_zero] at hold
  have hof : ∀ w1, w1.heap = w.heap → (Builtin.firstCells (P.cellsOf e) k v).run P w1 = .ok olds.toArray w1 := fun w1 hw1 => by
    have := hold.cells w1 hw1 k (by rw [hkl]; exact Nat.le_refl _)
    rwa [List.take_of_length_le (by rw [hold.size, hkl]; exact Nat.le_refl _)] at this
  have hos : olds.length = k * P.cellsOf e := by rw [hold.size, hkl]
  cases hB : be d' with
  | none =>
    simp only [hB] at hvv hbB
    subst hbB
    obtain ⟨A, e1⟩ := hvv
    have hk0 : k = 0 := by simp at hl; exact hl
    subst hk0
    by_cases hy : ys = []
    · subst hy
      have hn0 : news = [] := List.eq_nil_of_length_eq_zero (by rw [hsrc.size]; simp)
      subst hn0
      have hf1 := hsrc.cells w rfl 0 (Nat.le_refl _)
      have hr := run_append_zero (w := w) (ty := ty) ht hu hdu hi (A := A) (v := v2) (hsrc.len w) (by rw [← hsize]; simpa using hf1)
      exact ⟨_, _, upd be d none, by rw [e1]; exact hr, by simpa using hdrop.emptyArr d e hs A⟩
    · exact out A 0 olds e1 hof hos (fun i j x c h1 h2 => hold.rep i j x c h1 h2) (by have := List.length_pos_iff.2 hy; omega)
  | some B =>
    simp only [hB] at hvv hbB
    obtain ⟨cur, cap, A, hw, hcs, e1, hA⟩ := hvv
    obtain ⟨cur', cap', hw', hcs', hcm, hlc, hrep⟩ := hbB
    rw [hw] at hw'
    injection hw' with hw'
    injection hw' with q1 q2
    subst q1
    have hcap : cap' = cap := (Nat.eq_of_mul_eq_mul_right hs (hcs.symm.trans hcs')).symm
    subst hcap
    simp only [Nat.sub_zero] at e1
    by_cases hroom : k + ys.length ≤ cap'
    · by_cases hc0 : 0 < cap'
      · have hA' := hA hc0
        simp only [Nat.zero_mul] at hA'
        subst hA'
        obtain ⟨o1, o2, o3, o4⟩ := h.own d' B hdn hB
        have hf1 := hsrc.cells w rfl ys.length (Nat.le_refl _)
        rw [List.take_of_length_le (by rw [hsrc.size]; exact Nat.le_refl _)] at hf1
        have hfit : k * i.size + news.length ≤ cur.size := by rw [hsrc.size, hcs, ← hsize, ← Nat.add_mul]; exact Nat.mul_le_mul_right _ hroom
        have hr := run_append_in (w := w) (ty := ty) ht hu hdu hi (n := k) (cap := cap') hw (hsrc.len w) (by rw [← hsize]; exact hf1) hsrc.one hroom hfit
        have hscr := hdrop.scratch (w' := w.setRow B (cur.toList.take (k * i.size) ++ news ++ cur.toList.drop (k * i.size + news.length)).toArray) (fun b => b = B)
          (fun b hb' => by subst hb'; exact ⟨o1, o3, o4, fun d2 hd2 hB2 => by
            by_cases ed : d2 = d'
            · subst ed; simp at hd2
            · simp only [upd_ne _ _ ed] at hd2
              exact ed (h.inj d2 d' _ hd2 hdn hB2 hB)⟩) rfl rfl rfl (by simp) (fun b hb1 hb2 => setRow_other w B b _ hb2)
        have hcell : ∀ p v, I p → w.cell? p = some v → (w.setRow B (cur.toList.take (k * i.size) ++ news ++ cur.toList.drop (k * i.size + news.length)).toArray).cell? p = some v := fun p v hp hv => by
          rw [cell?_of_heap (setRow_other w B p.block _ (o3 p hp))]; exact hv
        have hself := setRow_heap w B cur (cur.toList.take (k * i.size) ++ news ++ cur.toList.drop (k * i.size + news.length)).toArray e (0, 0) hw
        have hnsz : (cur.toList.take (k * i.size) ++ news ++ cur.toList.drop (k * i.size + news.length)).toArray.size = cap' * P.cellsOf e := by
          simp only [List.size_toArray, List.length_append, List.length_take, List.length_drop, Array.length_toList]
          omega
        have hx : boxRep P (w.setRow B (cur.toList.take (k * i.size) ++ news ++ cur.toList.drop (k * i.size + news.length)).toArray) I (upd be d (some B)) (upd (upd s.b d' none) d (some (.arr e (xs.take k ++ ys)))) (upd s.g d (s.g d + 1)) d (.arr e (xs.take k ++ ys)) := by
          refine ⟨hs, by rw [hlen]; exact hmx, fun i x hi => hall x (List.mem_of_getElem? hi), ?_⟩
          simp only [upd_same]
          refine ⟨_, cap', hself, hnsz, hcm, by rw [hlen]; exact hroom, fun i2 j x c hx hc => ?_⟩
          have := splice_rep (w := w) (I := I) (sz := P.cellsOf e) (k := k) (xs := xs.take k) (ys := ys) (cur := cur) (news := news)
            (fun i j x c h1 h2 => by
              rw [List.getElem?_take] at h1
              split at h1
              · exact hrep i j x c h1 h2
              · cases h1) (fun x hx => (hxs x hx).1) hkl.symm (by rw [hcs]; exact Nat.mul_le_mul_right _ (by omega)) hsrc.size hsrc.rep (fun y hy => (hel y hy).1) (cur.toList.drop (k * i.size + news.length)) i2 j x c hx hc
          rw [hsize] at this ⊢
          exact this.mono (fun _ h => h) hcell
        have hfoot : ∀ b, E.foot (w.setRow B (cur.toList.take (k * i.size) ++ news ++ cur.toList.drop (k * i.size + news.length)).toArray) b → E.foot w b :=
          (E.stays w _ h.since.inv (fun b hb' => setRow_other w B b _ (fun e => o4 (e ▸ hb')))).2
        have hrc := hscr.recreate d (.arr e (xs.take k ++ ys)) (some B) hx (fun B' hB' => by
          injection hB' with hB'
          subst hB'
          refine ⟨o1, by simpa using o2, o3, fun hf => o4 (hfoot _ hf), fun d2 hd2 hn2 he2 => ?_⟩
          by_cases ed : d2 = d'
          · subst ed; simp at hn2
          · simp only [upd_ne _ _ ed] at hn2
            exact ed (h.inj d2 d' _ hn2 hdn he2 hB))
        have hput := hrc.put (some d) (v := .slice (some ⟨B, 0, none⟩) (k + ys.length) cap') (r := .view d (s.g d + 1) 0 (k + ys.length)) ⟨by simp, fun _ => by
          unfold viewAt
          simp only [upd_same]
          exact ⟨by rw [hlen]; omega, _, cap', some ⟨B, 0, none⟩, hself, hnsz, by simp, fun _ => by simp⟩⟩
        refine ⟨_, _, upd be d (some B), by rw [e1]; exact hr, ?_⟩
        unfold St.newArr
        rw [hlen]
        exact hput
      · have hk0 : k = 0 := by omega
        have hy0 : ys = [] := List.eq_nil_of_length_eq_zero (by omega)
        have hcap0 : cap' = 0 := by omega
        subst hk0 hy0 hcap0
        have hn0 : news = [] := List.eq_nil_of_length_eq_zero (by rw [hsrc.size]; simp)
        subst hn0
        have hf1 := hsrc.cells w rfl 0 (Nat.le_refl _)
        have hr := run_append_zero (w := w) (ty := ty) ht hu hdu hi (A := A) (v := v2) (hsrc.len w) (by rw [← hsize]; simpa using hf1)
        exact ⟨_, _, upd be d none, by rw [e1]; exact hr, by simpa using hdrop.emptyArr d e hs A⟩
    · exact out A cap' olds e1 hof hos (fun i j x c h1 h2 => hold.rep i j x c h1 h2) (by omega)

/-- append to a slice without spare room -/
theorem RelAt.appendFull (h : RelAt P E w0 I0 n s a w I be) {t u ty e : TypeId} {i : TypeInfo} {z : Value} {du : TypeDesc} (ht : P.underlying t = some (.slice e)) (hu : P.underlying u = some du) (hdu : (∃ q, du = .slice q) ∨ du = .string) (hi : P.info? e = some i) (hz : i.zero = some z) (hzs : z.cells.size = i.size)
    (d : Nat) {xs : List AV} {v v2 : Value} (hv : regRep P w I be s.b s.g v (.full xs)) (hs : 0 < P.cellsOf e) (hxs : Elems P e xs)
    {ys : List AV} {news : List Value} (hsrc : Src P w I (P.cellsOf e) v2 ys news) (hel : Elems P e ys) (hne : xs = [] ∨ ys ≠ []) (hmx : xs.length + ys.length ≤ maxLen) (hbytes : (xs.length + ys.length) * P.bytesOf e ≤ 140737488355328) :
    ∃ v' w' be', (Builtin.append_ #[t, u] ty #[v, v2]).run P w = .ok v' w' ∧ RelAt P E w0 I0 n (s.newArr d e (xs ++ ys)) (a.put (some d) v') w' I be' := by
  obtain ⟨hrep, A, e1⟩ := hv
  have hall := elems_append hxs hel
  have hsize := info_size hi
  have hby := info_bytes hi
  have hlen : (xs ++ ys).length = xs.length + ys.length := List.length_append
  by_cases hy : ys = []
  · subst hy
    have hx0 : xs = [] := by rcases hne with h | h <;> first | exact h | exact absurd rfl h
    subst hx0
    have hn0 : news = [] := List.eq_nil_of_length_eq_zero (by rw [hsrc.size]; simp)
    subst hn0
    have hf1 := hsrc.cells w rfl 0 (Nat.le_refl _)
    simp only [List.length_nil] at e1
    have hr := run_append_zero (w := w) (ty := ty) ht hu hdu hi (A := A) (v := v2) (hsrc.len w) (by rw [← hsize]; simpa using hf1)
    exact ⟨_, _, upd be d none, by rw [e1]; exact hr, by simpa using h.emptyArr d e hs A⟩
  · have hcap : xs.length < xs.length + ys.length := by have := List.length_pos_iff.2 hy; omega
    obtain ⟨olds, hold⟩ := src_sl (P := P) hrep (fun x hx => (hxs x hx).1)
    have hfit := growslice_fits hcap (hby ▸ hbytes)
    have hf1 := hsrc.cells w.drew rfl ys.length (Nat.le_refl _)
    rw [List.take_of_length_le (by rw [hsrc.size]; exact Nat.le_refl _)] at hf1
    have hf2 := hold.cells w.drew rfl xs.length (Nat.le_refl _)
    rw [List.take_of_length_le (by rw [hold.size]; exact Nat.le_refl _), e1] at hf2
    have hr := run_append_out (w := w) (ty := ty) ht hu hdu hi hz (A := A) (n := xs.length) (cap := xs.length) (m := ys.length) (v := v2) (olds := olds) (news := news) (hsrc.len w) (by rw [← hsize]; exact hf1)
      (by rw [← hsize]; exact hf2) hcap (by simp only [maxLen] at hmx; omega) hfit
    have hge := grownCap_ge w (xs.length + ys.length) xs.length e
    have hcm : grownCap w (xs.length + ys.length) xs.length e ≤ maxLen := grownCap_le_maxLen w (xs.length + ys.length) xs.length e hmx
    have hcs : (olds.toArray ++ news.toArray ++ Builtin.zeroCells z.cells (grownCap w (xs.length + ys.length) xs.length e - (xs.length + ys.length))).size = grownCap w (xs.length + ys.length) xs.length e * P.cellsOf e := by
      simp only [Array.size_append, List.size_toArray, size_zeroCells, hzs, hold.size, hsrc.size, ← hsize, ← Nat.add_mul]
      congr 1
      omega
    have hnew := h.newArr (w' := w.drew.alloc (.cells (olds.toArray ++ news.toArray ++ Builtin.zeroCells z.cells (grownCap w (xs.length + ys.length) xs.length e - (xs.length + ys.length))) e)) d rfl rfl rfl rfl (xs ++ ys) hs hcs hcm (by rw [hlen]; exact hge) hall
      (fun i j x c hx hc => by
        have := splice_rep (w := w) (I := I) (sz := P.cellsOf e) (k := xs.length) (xs := xs) (ys := ys) (cur := olds.toArray) (news := news) (fun i j x c h1 h2 => by simpa using hold.rep i j x c h1 h2) (fun x hx => (hxs x hx).1) rfl (by simp [hold.size]) hsrc.size hsrc.rep (fun y hy => (hel y hy).1)
          (Builtin.zeroCells z.cells (grownCap w (xs.length + ys.length) xs.length e - (xs.length + ys.length))).toList i j x c hx hc
        rw [List.take_of_length_le (by simp [hold.size])] at this
        have e2 : (olds.toArray.toList ++ news ++ (Builtin.zeroCells z.cells (grownCap w (xs.length + ys.length) xs.length e - (xs.length + ys.length))).toList).toArray = olds.toArray ++ news.toArray ++ Builtin.zeroCells z.cells (grownCap w (xs.length + ys.length) xs.length e - (xs.length + ys.length)) := by
          apply Array.ext'; simp
        rw [e2] at this
        exact this)
    refine ⟨_, _, upd be d (some w.heap.size), by rw [e1]; exact hr, ?_⟩
    rw [hlen] at hnew
    exact hnew

end

/-! ### The operations append, len, make, copy, store .. -/

/-- what a register offers as a source of elements of type e -/
def srcOf (P : Program) (s : St) (e : TypeId) : Reg → Option (List AV)
  | .val (.sl ys) => some ys
  | .full ys => some ys
  | .val (.fl (.string b)) => if P.cellsOf e = 1 then some (b.data.toList.map fun x => .fl (.int .u8 x.toNat)) else none
  | .view d gg off len => match s.b d with
    | some (.arr e' xs) => if e' = e ∧ gg = s.g d then some ((xs.drop off).take len) else none
    | _ => none
  | _ => none

section
variable {P : Program} {E : Env} {w0 : World} {I0 : Cells} {n : Nat} {o : Oper} {s : St} {K : St → Prop} {a : Act} {w : World} {I : Cells} {be : Nat → Option Nat}

theorem src_string {b : ByteArray} : Src P w I 1 (.string b) (b.data.toList.map fun x => .fl (.int .u8 x.toNat)) (b.data.toList.map fun x => .int .u8 x.toNat) := by
  refine ⟨fun w1 => by simp [Builtin.lenOf], fun w1 hw m hm => ?_, by simp, by simp [Value.oneCell'], fun i j y c h1 h2 => ?_⟩
  · have hm' : m ≤ b.data.size := by simpa using hm
    simp only [Builtin.firstCells, Sem.run_pure, Nat.mul_one]
    congr 1
    apply Array.ext'
    simp [ByteArray.extract, ByteArray.copySlice]
  · simp only [List.getElem?_map, Option.map_eq_some_iff] at h1
    obtain ⟨x, hx, rfl⟩ := h1
    simp only [AV.cells] at h2
    cases j with
    | succ j => simp at h2
    | zero =>
      simp at h2
      subst h2
      have e : (b.data.toList.map fun x => Value.int .u8 x.toNat).getD (i * 1 + 0) undef = .int .u8 x.toNat := by
        rw [Nat.mul_one, Nat.add_zero, List.getD_eq_getElem?_getD, List.getElem?_map, hx]
        rfl
      rw [e]
      exact .fl _ rfl

theorem srcOf_src (hR : RelAt P E w0 I0 n s a w I be) {v : Value} {r : Reg} (h : regRep P w I be s.b s.g v r) {e : TypeId} {ys : List AV} (hy : srcOf P s e r = some ys) (hel : Elems P e ys) : ∃ news, Src P w I (P.cellsOf e) v ys news := by
  cases r with
  | val x =>
    cases x with
    | sl zs =>
      simp only [srcOf, Option.some.injEq] at hy
      subst hy
      exact src_sl h (fun y hy => (hel y hy).1)
    | fl u =>
      cases u <;> simp only [srcOf, reduceCtorEq] at hy
      split at hy
      · rename_i hc
        injection hy with hy
        subst hy
        have hb := rep_fl h
        subst hb
        rw [hc]
        exact ⟨_, src_string⟩
      · cases hy
    | _ => simp [srcOf] at hy
  | full zs =>
    simp only [srcOf, Option.some.injEq] at hy
    subst hy
    exact src_sl h.1 (fun y hy => (hel y hy).1)
  | view d gg off len =>
    simp only [srcOf] at hy
    cases hb : s.b d with
    | none => simp [hb] at hy
    | some bx =>
      cases bx with
      | cells cs => simp [hb] at hy
      | arr e' xs =>
        simp only [hb] at hy
        split at hy
        · rename_i hc
          obtain ⟨rfl, hg⟩ := hc
          injection hy with hy
          subst hy
          exact src_view h hg hb (hR.boxes d _ hb)
        · cases hy
  | none => simp [srcOf] at hy
  | loc d gg sz i k => simp [srcOf] at hy
  | tup rs => simp [srcOf] at hy

/-- the type of the second operand of append and copy -/
def seqDesc (P : Program) (u : TypeId) : Bool :=
  match P.underlying u with
  | some (.slice _) | some .string => true
  | _ => false

theorem seqDesc_spec {u : TypeId} (h : seqDesc P u = true) : ∃ du, P.underlying u = some du ∧ ((∃ q, du = .slice q) ∨ du = .string) := by
  unfold seqDesc at h
  split at h
  · rename_i q hq; exact ⟨_, hq, .inl ⟨_, rfl⟩⟩
  · rename_i hq; exact ⟨_, hq, .inr rfl⟩
  · cases h

/-- an element type as append and make want it -/
def ElemType (P : Program) (e : TypeId) : Prop := 0 < P.cellsOf e ∧ ∃ i z, P.info? e = some i ∧ i.zero = some z ∧ z.cells.size = i.size

theorem run_call_builtin {b : Builtin} {args : Array Operand} {argTypes : Array TypeId} (ho : o.op = .call { callee := .builtin b, args := args, argTypes := argTypes }) (a : Act) : 
    ∃ cs, execOp a.eval o = builtin b argTypes o.type cs (args.map a.eval) := by
  exact ⟨_, by simp only [execOp, ho, resolve, invoke]; rfl⟩

theorem sound_append_view {x y : Operand} {t u e : TypeId} (ho : o.op = .call { callee := .builtin .append, args := #[x, y], argTypes := #[t, u] }) (hok : okOper n o = true) {d : Nat} (hd : o.dst = some d)
    (ht : P.underlying t = some (.slice e)) (hu : seqDesc P u = true) (he : ElemType P e) {d' gg k : Nat} {xs ys : List AV} (hx : s.ev x = .view d' gg 0 k) (hg : gg = s.g d') (hb : s.b d' = some (.arr e xs)) (hy : srcOf P s e (s.ev y) = some ys)
    (hel : Elems P e ys) (hmx : k + ys.length ≤ maxLen) (hbytes : (k + ys.length) * P.bytesOf e ≤ 140737488355328) (hK : K (({ s with b := upd s.b d' none } : St).newArr d e (xs.take k ++ ys))) : Sound P E w0 I0 n o s K := by
  rintro a w ⟨I, be, hR⟩ Qc
  obtain ⟨du, hu1, hu2⟩ := seqDesc_spec hu
  obtain ⟨he1, i, z, hi, hz, hzs⟩ := he
  have h1 := okOper_ev hok (x := x) (by simp [ho, Op.operands, Call.operands]) hR
  have h2 := okOper_ev hok (x := y) (by simp [ho, Op.operands, Call.operands]) hR
  rw [hx] at h1
  obtain ⟨news, hsrc⟩ := srcOf_src hR h2 hy hel
  obtain ⟨v', w', be', hrun, hR'⟩ := hR.append (ty := o.type) ht hu1 hu2 hi hz hzs d d' k h1 hg hb hsrc hel hmx hbytes
  refine wp_value (v := v') (w' := w') ?_ ⟨_, ⟨I, be', by rw [hd]; exact hR'⟩, hK⟩
  obtain ⟨cs, hcs⟩ := run_call_builtin ho a
  rw [hcs]
  simp [builtin, hrun]

theorem sound_append_full {x y : Operand} {t u e : TypeId} (ho : o.op = .call { callee := .builtin .append, args := #[x, y], argTypes := #[t, u] }) (hok : okOper n o = true) {d : Nat} (hd : o.dst = some d)
    (ht : P.underlying t = some (.slice e)) (hu : seqDesc P u = true) (he : ElemType P e) {xs ys : List AV} (hx : s.ev x = .full xs) (hxs : Elems P e xs) (hy : srcOf P s e (s.ev y) = some ys)
    (hel : Elems P e ys) (hne : xs = [] ∨ ys ≠ []) (hmx : xs.length + ys.length ≤ maxLen) (hbytes : (xs.length + ys.length) * P.bytesOf e ≤ 140737488355328) (hK : K (s.newArr d e (xs ++ ys))) : Sound P E w0 I0 n o s K := by
  rintro a w ⟨I, be, hR⟩ Qc
  obtain ⟨du, hu1, hu2⟩ := seqDesc_spec hu
  obtain ⟨he1, i, z, hi, hz, hzs⟩ := he
  have h1 := okOper_ev hok (x := x) (by simp [ho, Op.operands, Call.operands]) hR
  have h2 := okOper_ev hok (x := y) (by simp [ho, Op.operands, Call.operands]) hR
  rw [hx] at h1
  obtain ⟨news, hsrc⟩ := srcOf_src hR h2 hy hel
  obtain ⟨v', w', be', hrun, hR'⟩ := hR.appendFull (ty := o.type) ht hu1 hu2 hi hz hzs d h1 he1 hxs hsrc hel hne hmx hbytes
  refine wp_value (v := v') (w' := w') ?_ ⟨_, ⟨I, be', by rw [hd]; exact hR'⟩, hK⟩
  obtain ⟨cs, hcs⟩ := run_call_builtin ho a
  rw [hcs]
  simp [builtin, hrun]

/-- the length that a register tells -/
def lenOfReg (s : St) : Reg → Option Nat
  | .val (.sl xs) => some xs.length
  | .full xs => some xs.length
  | .val (.fl (.string b)) => some b.size
  | .view d gg _ len => match s.b d with
    | some (.arr _ _) => if gg = s.g d then some len else none
    | _ => none
  | _ => none

theorem yield_len {x : Operand} {t : TypeId} (ho : o.op = .call { callee := .builtin .len, args := #[x], argTypes := #[t] }) (hok : okOper n o = true) (ht : seqDesc P t = true) {m : Nat} (hx : lenOfReg s (s.ev x) = some m)
    (hfit : match s.ev x with | .val (.fl _) => P.underlying t = some .string | _ => ∃ e, P.underlying t = some (.slice e)) : Yield P E w0 I0 n o s (.val (.fl (.int .i64 m))) := by
  intro a w I be hR
  have h1 := okOper_ev hok (x := x) (by simp [ho, Op.operands, Call.operands]) hR
  refine ⟨.int .i64 m, ?_, .fl _ rfl⟩
  obtain ⟨cs, hcs⟩ := run_call_builtin ho a
  rw [hcs]
  have slice : ∀ (e : TypeId) (A : Option Addr) (c : Nat), P.underlying t = some (.slice e) → a.eval x = .slice A m c → (builtin .len #[t] o.type cs #[a.eval x]).run P w = .ok (.value (.int .i64 m)) w := by
    intro e A c h2 h3
    simp [builtin, Builtin.len_, run_underlying h2, h3, goInt]
  simp only [List.map_toArray, List.map_cons, List.map_nil]
  generalize hr : s.ev x = r at *
  cases r with
  | val y =>
    cases y with
    | sl xs =>
      simp only [lenOfReg, Option.some.injEq] at hx
      subst hx
      obtain ⟨e, h2⟩ := hfit
      have h1' : Rep w I (a.eval x) (.sl xs) := h1
      generalize hv : a.eval x = v at *
      cases h1' with
      | slNone c => exact slice e none c h2 rfl
      | sl p n' cap sz xs cv hn hcap hmax hsz hc hI hrr => subst hn; exact slice e _ _ h2 rfl
    | fl u =>
      cases u <;> simp only [lenOfReg, reduceCtorEq] at hx
      injection hx with hx
      subst hx
      have hb := rep_fl h1
      simp [builtin, Builtin.len_, run_underlying hfit, hb, goInt]
    | _ => simp [lenOfReg] at hx
  | full xs =>
    simp only [lenOfReg, Option.some.injEq] at hx
    subst hx
    obtain ⟨e, h2⟩ := hfit
    obtain ⟨A, h3⟩ := h1.2
    exact slice e A _ h2 h3
  | view d gg off len =>
    simp only [lenOfReg] at hx
    obtain ⟨e, h2⟩ := hfit
    cases hb : s.b d with
    | none => simp [hb] at hx
    | some bx =>
      cases bx with
      | cells cs => simp [hb] at hx
      | arr e' xs =>
        simp only [hb] at hx
        split at hx
        · rename_i hg
          injection hx with hx
          subst hx
          obtain ⟨_, hv⟩ := view_at h1 hg hb
          cases hB : be d with
          | none => rw [hB] at hv; obtain ⟨A, hv⟩ := hv; exact slice e A _ h2 hv
          | some B => rw [hB] at hv; obtain ⟨_, _, A, _, _, hv, _⟩ := hv; exact slice e A _ h2 hv
        · cases hx
  | none => simp [lenOfReg] at hx
  | loc d gg sz i k => simp [lenOfReg] at hx
  | tup rs => simp [lenOfReg] at hx

end
end Go.Ev
