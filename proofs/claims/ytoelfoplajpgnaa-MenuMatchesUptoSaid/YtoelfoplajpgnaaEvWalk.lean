import Derived.Scope
import Derived.Test.YtoelfoplajpgnaaEvCopy
set_option linter.unusedVariables false
set_option linter.unusedSimpArgs false
set_option linter.unusedSectionVars false

namespace Go.Ev
open Go

/-! ### What is asked of an operation, by its form -/

def kLoad (P : Program) (s : St) (t : TypeId) (r : Reg) (K : Reg → Prop) : Prop :=
  match r with
  | .val (.ref cs) => loadAV P t cs fun v => K (.val v)
  | .loc d gg sz i k => gg = s.g d ∧
    match s.b d with
    | some (.cells cs) => loadRegs P t (cs.drop (i * sz + k)) K
    | some (.arr e xs) => sz = P.cellsOf e ∧ ∃ y, xs[i]? = some y ∧ loadAV P t (y.cells.drop k) fun v => K (.val v)
    | none => False
  | _ => False

def kFieldAddr (P : Program) (s : St) (t : TypeId) (f : Nat) (r : Reg) (K : Reg → Prop) : Prop :=
  ∃ off ft, fieldOf P t f = some (off, ft) ∧
  match r with
  | .val (.ref cs) => K (.val (.ref (cs.drop off)))
  | .loc d gg sz i k => (gg = s.g d ∧ s.b d ≠ none) ∧ K (.loc d gg sz i (k + off))
  | _ => False

def kIndexAddr (P : Program) (s : St) (t : TypeId) (x y : Reg) (K : Reg → Prop) : Prop :=
  ∃ e, sliceOf P t = some e ∧ 0 < P.cellsOf e ∧
  match y with
  | .val (.fl (.int _ m)) => 0 ≤ m ∧
    match x with
    | .val (.sl xs) => ∃ z, xs[m.toNat]? = some z ∧ z.cells.length = P.cellsOf e ∧ K (.val (.ref z.cells))
    | .full xs => ∃ z, xs[m.toNat]? = some z ∧ z.cells.length = P.cellsOf e ∧ K (.val (.ref z.cells))
    | .view d gg off len => gg = s.g d ∧ (∃ xs, s.b d = some (.arr e xs)) ∧ m < len ∧ K (.loc d gg (P.cellsOf e) (off + m.toNat) 0)
    | _ => False
  | _ => False

def kStore (P : Program) (s : St) (t : TypeId) (p x : Reg) (K : St → Prop) : Prop :=
  match p with
  | .loc d gg sz i k => gg = s.g d ∧ 0 < P.cellsOf t ∧
    match s.b d with
    | some (.cells cs) => ∃ vs, regCells x = some vs ∧ (alive s x ∧ oneReg x ∧ vs.length = P.cellsOf t ∧ i * sz + k + vs.length ≤ cs.length) ∧ K { s with b := upd s.b d (some (.cells (writeAt cs (i * sz + k) vs))) }
    | some (.arr e xs) => ∃ v y, regAV x = some v ∧ xs[i]? = some y ∧ (sz = P.cellsOf e ∧ v.wf ∧ v.cells.length = P.cellsOf t ∧ k + v.cells.length ≤ y.cells.length ∧ (y.isAgg = true ∨ (k = 0 ∧ v.isAgg = false))) ∧
        K { s with b := upd s.b d (some (.arr e (xs.set i (setElem y k v.cells)))) }
    | none => False
  | _ => False

def kBin (P : Program) (op : BinOp) (t : TypeId) (x y : Reg) (K : Reg → Prop) (G : Prop) : Prop :=
  match x, y with
  | .val (.fl (.int k p)), .val (.fl (.int k' q)) => (k' = k ∨ isShift op = true) ∧ ∃ v, intBin op k p q = some v ∧ K (.val (.fl v))
  | .val (.fl (.bool p)), .val (.fl (.bool q)) => (P.underlying t = some .bool ∧ (op = .eql ∨ op = .neq)) ∧ K (.val (.fl (.bool (if op = .eql then p == q else p != q))))
  | _, _ => G

def flatVal (s : St) (x : Operand) : Value := (regFlat (s.ev x)).getD undef

/-- by the model's own word -/
def kFlat (P : Program) (o : Oper) (s : St) (K : Reg → Prop) : Prop :=
  ∃ v, (∀ w, (execOp (flatVal s) o).run P w = .ok (.value v) w) ∧ (One v ∧ ∀ x ∈ o.op.operands, (regFlat (s.ev x)).isSome = true ∧ s.ev x ≠ .full []) ∧ K (.val (.fl v))

def kSliceSl (P : Program) (s : St) (t : TypeId) (xs : List AV) (lo hi mx : Option Operand) (K : Reg → Prop) : Prop :=
  ∃ e, sliceOf P t = some e ∧ ∃ l q, bnd s 0 lo = some l ∧ bnd s xs.length hi = some q ∧ (0 < P.cellsOf e ∧ (∀ x ∈ xs, x.cells.length = P.cellsOf e) ∧ l ≤ q ∧ q ≤ xs.length) ∧
    match mx with
    | none => K (.val (.sl ((xs.drop l).take (q - l))))
    | some z => hi.isSome = true ∧ bnd s 0 (some z) = some q ∧ K (.full ((xs.drop l).take (q - l)))

def kSlice (P : Program) (s : St) (t : TypeId) (x : Reg) (lo hi mx : Option Operand) (K : Reg → Prop) (G : Prop) : Prop :=
  match x with
  | .val (.sl xs) => kSliceSl P s t xs lo hi mx K
  | .full xs => kSliceSl P s t xs lo hi mx K
  | .view d gg off len => mx = none ∧ ∃ e, sliceOf P t = some e ∧ gg = s.g d ∧ (∃ xs, s.b d = some (.arr e xs)) ∧ ∃ l q, bnd s 0 lo = some l ∧ bnd s len hi = some q ∧ (l ≤ q ∧ q ≤ len) ∧ K (.view d gg (off + l) (q - l))
  | _ => G

def kBuiltin (P : Program) (o : Oper) (s : St) (b : Builtin) (args : List Operand) (types : List TypeId) (K : St → Prop) : Prop :=
  match b, args, types with
  | .len, [x], [t] => ∃ m, lenOfReg s (s.ev x) = some m ∧ (seqDesc P t = true ∧ match s.ev x with | .val (.fl _) => P.underlying t = some .string | _ => ∃ e, P.underlying t = some (.slice e)) ∧ K (s.put o.dst (.val (.fl (.int .i64 m))))
  | .append, [x, y], [t, u] => ∃ d, o.dst = some d ∧ ∃ e, sliceOf P t = some e ∧ ∃ ys, srcOf P s e (s.ev y) = some ys ∧ (seqDesc P u = true ∧ elemOk P e = true ∧ Elems P e ys) ∧
      match s.ev x with
      | .view d' gg off k => off = 0 ∧ gg = s.g d' ∧ ∃ xs, s.b d' = some (.arr e xs) ∧ (k + ys.length ≤ maxLen ∧ (k + ys.length) * P.bytesOf e ≤ 140737488355328) ∧ K (({ s with b := upd s.b d' none } : St).newArr d e (xs.take k ++ ys))
      | .full xs => (Elems P e xs ∧ (xs = [] ∨ ys ≠ []) ∧ xs.length + ys.length ≤ maxLen ∧ (xs.length + ys.length) * P.bytesOf e ≤ 140737488355328) ∧ K (s.newArr d e (xs ++ ys))
      | _ => False
  | .copy, [x, y], [t, u] => ∃ e, sliceOf P t = some e ∧ ∃ ys, srcOf P s e (s.ev y) = some ys ∧ Elems P e ys ∧
      match s.ev x with
      | .view d gg off len => gg = s.g d ∧ ∃ xs, s.b d = some (.arr e xs) ∧ K (St.put { s with b := upd s.b d (some (.arr e (writeAt xs off (ys.take (min ys.length len))))) } o.dst (.val (.fl (.int .i64 (min ys.length len : Nat)))))
      | _ => False
  | _, _, _ => False

/-- an operation that only yields a value: of what it reads -/
def kValue (P : Program) (o : Oper) (s : St) (K : Reg → Prop) : Prop :=
  match o.op with
  | .move x => K (s.ev x)
  | .pick c x y => ∃ b, s.ev c = .val (.fl (.bool b)) ∧ K (if b then s.ev x else s.ev y)
  | .load t x => kLoad P s t (s.ev x) K
  | .fieldAddr t x f => kFieldAddr P s t f (s.ev x) K
  | .indexAddr t x y => kIndexAddr P s t (s.ev x) (s.ev y) K
  | .extract x k => ∃ rs r, s.ev x = .tup rs ∧ rs[k]? = some r ∧ K r
  | .field t x f => ∃ off ft, fieldOf P t f = some (off, ft) ∧ ∃ cs, s.ev x = .val (.agg cs) ∧ loadAV P ft (cs.drop off) fun v => K (.val v)
  | .makeFunc (.func f) first caps => first.toList = [] ∧ ∃ xs, regAVsOf s caps.toList = some xs ∧ K (.val (.fn f xs))
  | .makeInterface t x => ∃ v, regAV (s.ev x) = some v ∧ P.concrete t = true ∧ K (.val (.ifc t v))
  | .build t parts => ∃ pl, placesOf P t = some pl ∧ ∃ z, zeroOf P t = some z ∧ ∃ ps, partsOf s pl parts.toList = some ps ∧ (pl.all fun p => decide (p.1 + p.2 ≤ z.cells.length)) = true ∧ K (.val (.agg (writeParts z.cells ps)))
  | .slice t x lo hi mx => kSlice P s t (s.ev x) lo hi mx K (mx = none ∧ P.underlying t = some .string ∧ ∃ xs, s.ev x = .val (.fl (bs xs)) ∧ ∃ l h, bnd s 0 lo = some l ∧ bnd s xs.length hi = some h ∧ (l ≤ h ∧ h ≤ xs.length) ∧ K (.val (.fl (bs ((xs.drop l).take (h - l))))))
  | .index t x y => P.underlying t = some .string ∧ ∃ l, s.ev x = .val (.fl (bs l)) ∧ ∃ k m, s.ev y = .val (.fl (.int k m)) ∧ 0 ≤ m ∧ ∃ c, l[m.toNat]? = some c ∧ K (.val (.fl (.int .u8 c.toNat)))
  | .binOp op t x y _ => kBin P op t (s.ev x) (s.ev y) K ((∃ p q, s.ev x = .val (.fl (bs p)) ∧ s.ev y = .val (.fl (bs q)) ∧ ∃ v, strBin op p q = some v ∧ K (.val (.fl v))) ∨ kFlat P o s K)
  | .unOp .not _ x => ∃ p, s.ev x = .val (.fl (.bool p)) ∧ K (.val (.fl (.bool (!p))))
  | .unOp .neg _ x => ∃ k p, s.ev x = .val (.fl (.int k p)) ∧ K (.val (.fl (.int k (k.wrap (0 - p)))))
  | .convert _ _ _ => kFlat P o s K
  | _ => False

section
variable {P : Program} {E : Env} {w0 : World} {I0 : Cells} {n : Nat} {o : Oper} {s : St}

theorem flat_sound {K : Reg → Prop} (hok : okOper n o = true) (hsel : ∀ cs b, o.op ≠ .select cs b) (h : kFlat P o s K) : ∃ r, K r ∧ ∀ a w I be, RelAt P E w0 I0 n s a w I be → ∃ v, (execOp a.eval o).run P w = .ok (.value v) w ∧ regRep P w I be s.b s.g v r := by
  obtain ⟨v, h1, ⟨h2, h3⟩, h4⟩ := h
  refine ⟨_, h4, fun a w I be hR => ⟨v, ?_, .fl _ h2⟩⟩
  have he : ∀ x ∈ o.op.operands, a.eval x = flatVal s x := fun x hx => by
    have q1 := okOper_ev hok hx hR
    obtain ⟨q2, q3⟩ := h3 x hx
    obtain ⟨u, hu⟩ := Option.isSome_iff_exists.1 q2
    have q4 : flatVal s x = u := by simp [flatVal, hu]
    rw [q4]
    cases hr : s.ev x with
    | val y => rw [hr] at q1 hu; exact flatOf_rep q1 hu
    | full ys =>
      rw [hr] at hu q3
      cases ys with
      | nil => exact absurd rfl q3
      | cons y ys => simp [regFlat] at hu
    | _ => rw [hr] at hu; simp [regFlat] at hu
  rw [execOp_congr o hsel he]
  exact h1 w

theorem kSliceSl_yield {t : TypeId} {x : Operand} {lo hi mx : Option Operand} (ho : o.op = .slice t x lo hi mx) (hok : okOper n o = true) {K : Reg → Prop} {xs : List AV} (hx : regAV (s.ev x) = some (.sl xs)) (h : kSliceSl P s t xs lo hi mx K) : ∃ r, K r ∧ Yield P E w0 I0 n o s r := by
  obtain ⟨e, h1, l, h', h2, h3, ⟨h4, h5, h6, h7⟩, h8⟩ := h
  cases mx with
  | none => exact ⟨_, h8, yield_slice_sl ho hok h1 h4 hx h5 h2 h3 h6 h7⟩
  | some z =>
    obtain ⟨h9, h10, h11⟩ := h8
    cases hi with
    | none => simp at h9
    | some y => exact ⟨_, h11, yield_slice_full ho hok h1 h4 hx h5 h2 (by simpa [bnd] using h3) h10 h6 h7⟩

theorem kValue_yield {K : Reg → Prop} (hok : okOper n o = true) (h : kValue P o s K) : ∃ r, K r ∧ Yield P E w0 I0 n o s r := by
  unfold kValue at h
  cases ho : o.op <;> simp only [ho] at h
  case move x => exact ⟨_, h, yield_move ho hok⟩
  case pick c x y =>
    obtain ⟨b, h1, h2⟩ := h
    exact ⟨_, h2, yield_pick ho hok h1⟩
  case load t x =>
    unfold kLoad at h
    split at h
    · rename_i cs hx
      obtain ⟨v, h1, h2⟩ := yield_load_ref (E := E) (w0 := w0) (I0 := I0) ho hok hx h
      exact ⟨_, h1, h2⟩
    · rename_i d gg sz i k hx
      obtain ⟨hg, h⟩ := h
      split at h
      · rename_i cs hb
        exact yield_load_cells ho hok hx hg hb h
      · rename_i e xs hb
        obtain ⟨h1, y, h2, h3⟩ := h
        obtain ⟨v, h4, h5⟩ := yield_load_arr (E := E) (w0 := w0) (I0 := I0) ho hok hx hg hb h1 h2 h3
        exact ⟨_, h4, h5⟩
      · exact h.elim
    · exact h.elim
  case fieldAddr t x f =>
    obtain ⟨off, ft, h1, h2⟩ := h
    obtain ⟨fs, fd, hu, hf, rfl, rfl, hs⟩ := fieldOf_spec h1
    split at h2
    · rename_i cs hx
      exact ⟨_, h2, yield_fieldAddr_ref ho hok hu hf hs hx⟩
    · rename_i d gg sz i k hx
      exact ⟨_, h2.2, yield_fieldAddr_loc ho hok hu hf hs hx h2.1.1 h2.1.2⟩
    · exact h2.elim
  case indexAddr t x y =>
    obtain ⟨e, h1, h2, h3⟩ := h
    split at h3
    · rename_i k m hy
      obtain ⟨h4, h5⟩ := h3
      split at h5
      · rename_i xs hx
        obtain ⟨z, h6, h7, h8⟩ := h5
        exact ⟨_, h8, yield_indexAddr_sl ho hok (sliceOf_spec h1) (by rw [hx]; rfl) hy h4 h6 h2 h7⟩
      · rename_i xs hx
        obtain ⟨z, h6, h7, h8⟩ := h5
        exact ⟨_, h8, yield_indexAddr_sl ho hok (sliceOf_spec h1) (by rw [hx]; rfl) hy h4 h6 h2 h7⟩
      · rename_i d gg off len hx
        obtain ⟨h6, ⟨xs, h7⟩, h8, h9⟩ := h5
        exact ⟨_, h9, yield_indexAddr_view ho hok (sliceOf_spec h1) hx h6 h7 hy h4 h8⟩
      · exact h5.elim
    · exact h3.elim
  case extract x k =>
    obtain ⟨rs, r, h1, h2, h3⟩ := h
    exact ⟨_, h3, yield_extract ho hok h1 h2⟩
  case field t x f =>
    obtain ⟨off, ft, h1, cs, h2, h3⟩ := h
    obtain ⟨v, h4, h5⟩ := yield_field (E := E) (w0 := w0) (I0 := I0) ho hok h1 h2 h3
    exact ⟨_, h4, h5⟩
  case makeFunc fn first caps =>
    cases fn <;> simp only at h
    obtain ⟨h0, xs, h1, h2⟩ := h
    have h0' : first = #[] := by simpa using h0
    subst h0'
    exact ⟨_, h2, yield_makeFunc ho hok h1⟩
  case makeInterface t x =>
    obtain ⟨v, h1, h2, h3⟩ := h
    exact ⟨_, h3, yield_makeInterface ho hok h2 h1⟩
  case build t parts =>
    obtain ⟨pl, h1, z, h2, ps, h3, h4, h5⟩ := h
    exact ⟨_, h5, yield_build ho hok h1 h2 h4 h3⟩
  case slice t x lo hi mx =>
    unfold kSlice at h
    split at h
    · rename_i xs hx; exact kSliceSl_yield ho hok (by rw [hx]; rfl) h
    · rename_i xs hx; exact kSliceSl_yield ho hok (by rw [hx]; rfl) h
    · rename_i d gg off len hx
      obtain ⟨rfl, e, h1, h2, ⟨xs, h3⟩, l, h', h4, h5, ⟨h6, h7⟩, h8⟩ := h
      exact ⟨_, h8, yield_slice_view ho hok h1 hx h2 h3 h4 h5 h6 h7⟩
    · obtain ⟨rfl, h1, xs, h2, l, h', h3, h4, ⟨h5, h6⟩, h7⟩ := h
      exact ⟨_, h7, yield_slice_str ho hok h1 h2 h3 h4 h5 h6⟩
  case index t x y =>
    obtain ⟨h1, l, h2, k, m, h3, h4, c, h5, h6⟩ := h
    exact ⟨_, h6, yield_index_str ho hok h1 h2 h3 h4 h5⟩
  case binOp op t x y t' =>
    unfold kBin at h
    split at h
    · rename_i k p k' q hx hy
      obtain ⟨h1, v, h2, h3⟩ := h
      exact ⟨_, h3, yield_binOp_int ho hok hx hy h1 h2⟩
    · rename_i p q hx hy
      exact ⟨_, h.2, yield_binOp_bool ho hok h.1.1 h.1.2 hx hy⟩
    · rcases h with ⟨p, q, h1, h2, v, h3, h4⟩ | h
      · exact ⟨_, h4, yield_binOp_str ho hok h1 h2 h3⟩
      · exact flat_sound hok (by simp [ho]) h
  case unOp op t x =>
    cases op <;> simp only at h
    · obtain ⟨k, p, h1, h2⟩ := h
      exact ⟨_, h2, yield_unOp_neg ho hok h1⟩
    · obtain ⟨p, h1, h2⟩ := h
      exact ⟨_, h2, yield_unOp_not ho hok h1⟩
  case convert t t' x => exact flat_sound hok (by simp [ho]) h

end
end Go.Ev
