import Derived.Test.YtoelfoplajpgnaaEvEq
set_option linter.unusedVariables false
set_option linter.unusedSimpArgs false
set_option linter.unusedSectionVars false

namespace Go.Ev
open Go

theorem beq_t (b : Bool) : (b == true) = b := by cases b <;> rfl
theorem beq_f (b : Bool) : (b == false) = !b := by cases b <;> rfl

/-! ### The operations once more, as programs: what 'simp' runs (no '∃' ahead of what follows) -/

def rLoadAV (P : Program) (t : TypeId) (cs : List AV) (K : AV → Prop) : Prop :=
  match agg? P t with
  | some true => (0 < P.cellsOf t ∧ P.cellsOf t ≤ cs.length) ∧ K (.agg (cs.take (P.cellsOf t)))
  | some false => (0 < P.cellsOf t ∧ P.cellsOf t ≤ cs.length) ∧ K (cs.headD (.fl undef))
  | none => False

def rLoad (P : Program) (s : St) (t : TypeId) (r : Reg) (K : Reg → Prop) : Prop :=
  match r with
  | .val (.ref cs) => rLoadAV P t cs fun v => K (.val v)
  | .loc d gg sz i k =>
    match s.b d with
    | some (.cells cs) =>
      match agg? P t with
      | some true =>
        match regAVs ((cs.drop (i * sz + k)).take (P.cellsOf t)) with
        | some xs => (gg = s.g d ∧ 0 < P.cellsOf t ∧ P.cellsOf t ≤ (cs.drop (i * sz + k)).length) ∧ K (.val (.agg xs))
        | none => False
      | some false => (gg = s.g d ∧ 0 < P.cellsOf t ∧ P.cellsOf t ≤ (cs.drop (i * sz + k)).length) ∧ K ((cs.drop (i * sz + k)).headD .none)
      | none => False
    | some (.arr e xs) =>
      match xs[i]? with
      | some y => (gg = s.g d ∧ sz = P.cellsOf e) ∧ rLoadAV P t (y.cells.drop k) fun v => K (.val v)
      | none => False
    | none => False
  | _ => False

def rFieldAddr (P : Program) (s : St) (t : TypeId) (f : Nat) (r : Reg) (K : Reg → Prop) : Prop :=
  match fieldOf P t f with
  | some (off, _) =>
    match r with
    | .val (.ref cs) => K (.val (.ref (cs.drop off)))
    | .loc d gg sz i k => (gg = s.g d ∧ s.b d ≠ none) ∧ K (.loc d gg sz i (k + off))
    | _ => False
  | none => False

def rIndexAddr (P : Program) (s : St) (t : TypeId) (x y : Reg) (K : Reg → Prop) : Prop :=
  match sliceOf P t with
  | some e =>
    match y with
    | .val (.fl (.int _ m)) =>
      match x with
      | .val (.sl xs) =>
        match xs[m.toNat]? with
        | some z => (0 < P.cellsOf e ∧ 0 ≤ m ∧ z.cells.length = P.cellsOf e) ∧ K (.val (.ref z.cells))
        | none => False
      | .full xs =>
        match xs[m.toNat]? with
        | some z => (0 < P.cellsOf e ∧ 0 ≤ m ∧ z.cells.length = P.cellsOf e) ∧ K (.val (.ref z.cells))
        | none => False
      | .view d gg off len => (0 < P.cellsOf e ∧ 0 ≤ m ∧ gg = s.g d ∧ (∃ xs, s.b d = some (.arr e xs)) ∧ m < len) ∧ K (.loc d gg (P.cellsOf e) (off + m.toNat) 0)
      | _ => False
    | _ => False
  | none => False

def rStore (P : Program) (s : St) (t : TypeId) (p x : Reg) (K : St → Prop) : Prop :=
  match p with
  | .loc d gg sz i k =>
    match s.b d with
    | some (.cells cs) =>
      match regCells x with
      | some vs => (gg = s.g d ∧ 0 < P.cellsOf t ∧ alive s x ∧ oneReg x ∧ vs.length = P.cellsOf t ∧ i * sz + k + vs.length ≤ cs.length) ∧ K { s with b := upd s.b d (some (.cells (writeAt cs (i * sz + k) vs))) }
      | none => False
    | some (.arr e xs) =>
      match regAV x with
      | some v =>
        match xs[i]? with
        | some y => (gg = s.g d ∧ 0 < P.cellsOf t ∧ sz = P.cellsOf e ∧ v.wf ∧ v.cells.length = P.cellsOf t ∧ k + v.cells.length ≤ y.cells.length ∧ (y.isAgg = true ∨ (k = 0 ∧ v.isAgg = false))) ∧
            K { s with b := upd s.b d (some (.arr e (xs.set i (setElem y k v.cells)))) }
        | none => False
      | none => False
    | none => False
  | _ => False

def onVal (o : Option Value) (K : Reg → Prop) : Prop :=
  match o with
  | some v => K (.val (.fl v))
  | none => False

def rBin (P : Program) (op : BinOp) (t : TypeId) (x y : Reg) (K : Reg → Prop) (G : Prop) : Prop :=
  match x, y with
  | .val (.fl (.int k p)), .val (.fl (.int k' q)) => (k' = k ∨ isShift op = true) ∧ onVal (intBin op k p q) K
  | .val (.fl (.bool p)), .val (.fl (.bool q)) => (P.underlying t = some .bool ∧ (op = .eql ∨ op = .neq)) ∧ K (.val (.fl (.bool (if op = .eql then p == q else p != q))))
  | .val (.fl (.string p)), .val (.fl (.string q)) => onVal (strBin op p.data.toList q.data.toList) K
  | .val (.agg xs), .val (.agg ys) => match kindsOf P t with
    | some ks => match flatEqs ks xs ys with
      | some e => (op = .eql ∨ op = .neq) ∧ K (.val (.fl (.bool (if op = .eql then e else !e))))
      | none => False
    | none => False
  | _, _ => G

def rSliceSl (P : Program) (s : St) (t : TypeId) (xs : List AV) (lo hi mx : Option Operand) (K : Reg → Prop) : Prop :=
  match sliceOf P t with
  | some e =>
    match bnd s 0 lo with
    | some l =>
      match bnd s xs.length hi with
      | some q =>
        match mx with
        | none => (0 < P.cellsOf e ∧ (∀ x ∈ xs, x.cells.length = P.cellsOf e) ∧ l ≤ q ∧ q ≤ xs.length) ∧ K (.val (.sl ((xs.drop l).take (q - l))))
        | some z => (0 < P.cellsOf e ∧ (∀ x ∈ xs, x.cells.length = P.cellsOf e) ∧ l ≤ q ∧ q ≤ xs.length ∧ hi.isSome = true ∧ bnd s 0 (some z) = some q) ∧ K (.full ((xs.drop l).take (q - l)))
      | none => False
    | none => False
  | none => False

def rSlice (P : Program) (s : St) (t : TypeId) (x : Reg) (lo hi mx : Option Operand) (K : Reg → Prop) : Prop :=
  match x with
  | .val (.sl xs) => rSliceSl P s t xs lo hi mx K
  | .full xs => rSliceSl P s t xs lo hi mx K
  | .view d gg off len =>
    match sliceOf P t with
    | some e =>
      match bnd s 0 lo with
      | some l =>
        match bnd s len hi with
        | some q => (mx = none ∧ gg = s.g d ∧ (∃ xs, s.b d = some (.arr e xs)) ∧ l ≤ q ∧ q ≤ len) ∧ K (.view d gg (off + l) (q - l))
        | none => False
      | none => False
    | none => False
  | .val (.fl (.string xs)) =>
    match bnd s 0 lo with
    | some l =>
      match bnd s xs.data.toList.length hi with
      | some h => (mx = none ∧ P.underlying t = some .string ∧ l ≤ h ∧ h ≤ xs.data.toList.length) ∧ K (.val (.fl (bs ((xs.data.toList.drop l).take (h - l)))))
      | none => False
    | none => False
  | _ => False

def rBuiltin (P : Program) (o : Oper) (s : St) (b : Builtin) (args : List Operand) (types : List TypeId) (K : St → Prop) : Prop :=
  match b, args, types with
  | .len, [x], [t] =>
    match s.ev x with
    | .val (.sl xs) => (seqDesc P t = true ∧ ∃ e, P.underlying t = some (.slice e)) ∧ K (s.put o.dst (.val (.fl (.int .i64 (xs.length : Nat)))))
    | .full xs => (seqDesc P t = true ∧ ∃ e, P.underlying t = some (.slice e)) ∧ K (s.put o.dst (.val (.fl (.int .i64 (xs.length : Nat)))))
    | .val (.fl (.string b)) => (seqDesc P t = true ∧ P.underlying t = some .string) ∧ K (s.put o.dst (.val (.fl (.int .i64 (b.data.toList.length : Nat)))))
    | .view d gg off len => (gg = s.g d ∧ (∃ e xs, s.b d = some (.arr e xs)) ∧ seqDesc P t = true ∧ ∃ e, P.underlying t = some (.slice e)) ∧ K (s.put o.dst (.val (.fl (.int .i64 (len : Nat)))))
    | _ => False
  | .append, [x, y], [t, u] =>
    match o.dst with
    | some d =>
      match sliceOf P t with
      | some e =>
        match srcOf P s e (s.ev y) with
        | some ys =>
          match s.ev x with
          | .view d' gg off k =>
            match s.b d' with
            | some (.arr e' xs) => (e' = e ∧ seqDesc P u = true ∧ elemOk P e = true ∧ Elems P e ys ∧ off = 0 ∧ gg = s.g d' ∧ k + ys.length ≤ maxLen ∧ (k + ys.length) * P.bytesOf e ≤ 140737488355328) ∧ K (({ s with b := upd s.b d' none } : St).newArr d e (xs.take k ++ ys))
            | _ => False
          | .full xs => (seqDesc P u = true ∧ elemOk P e = true ∧ Elems P e ys ∧ Elems P e xs ∧ (xs = [] ∨ ys ≠ []) ∧ xs.length + ys.length ≤ maxLen ∧ (xs.length + ys.length) * P.bytesOf e ≤ 140737488355328) ∧ K (s.newArr d e (xs ++ ys))
          | _ => False
        | none => False
      | none => False
    | none => False
  | .copy, [x, y], [t, u] =>
    match sliceOf P t with
    | some e =>
      match srcOf P s e (s.ev y) with
      | some ys =>
        match s.ev x with
        | .view d gg off len =>
          match s.b d with
          | some (.arr e' xs) => (e' = e ∧ Elems P e ys ∧ gg = s.g d) ∧ K (St.put { s with b := upd s.b d (some (.arr e (writeAt xs off (ys.take (min ys.length len))))) } o.dst (.val (.fl (.int .i64 (min ys.length len : Nat)))))
          | _ => False
        | _ => False
      | none => False
    | none => False
  | _, _, _ => False

/-- an integer to an integer -/
def convK (P : Program) (src dst : TypeId) : Option IntKind :=
  match P.underlying src, P.underlying dst with
  | some _, some (.int k) => some k
  | _, _ => none

def rValue (P : Program) (o : Oper) (s : St) (K : Reg → Prop) : Prop :=
  match o.op with
  | .move x => K (s.ev x)
  | .pick c x y => match s.ev c with
    | .val (.fl (.bool b)) => if b = true then K (s.ev x) else K (s.ev y)
    | _ => False
  | .load t x => rLoad P s t (s.ev x) K
  | .fieldAddr t x f => rFieldAddr P s t f (s.ev x) K
  | .indexAddr t x y => rIndexAddr P s t (s.ev x) (s.ev y) K
  | .extract x k => match s.ev x with
    | .tup rs => match rs[k]? with
      | some r => K r
      | none => False
    | _ => False
  | .field t x f => match fieldOf P t f with
    | some (off, ft) => match s.ev x with
      | .val (.agg cs) => rLoadAV P ft (cs.drop off) fun v => K (.val v)
      | _ => False
    | none => False
  | .makeFunc (.func f) first caps => match regAVsOf s caps.toList with
    | some xs => first.toList = [] ∧ K (.val (.fn f xs))
    | none => False
  | .makeInterface t x => match regAV (s.ev x) with
    | some v => P.concrete t = true ∧ K (.val (.ifc t v))
    | none => False
  | .build t parts => match placesOf P t with
    | some pl => match zeroOf P t with
      | some z => match partsOf s pl parts.toList with
        | some ps => (pl.all fun p => decide (p.1 + p.2 ≤ z.cells.length)) = true ∧ K (.val (.agg (writeParts z.cells ps)))
        | none => False
      | none => False
    | none => False
  | .slice t x lo hi mx => rSlice P s t (s.ev x) lo hi mx K
  | .index t x y => match s.ev x with
    | .val (.fl (.string l)) => match s.ev y with
      | .val (.fl (.int _ m)) => match l.data.toList[m.toNat]? with
        | some c => (P.underlying t = some .string ∧ 0 ≤ m) ∧ K (.val (.fl (.int .u8 c.toNat)))
        | none => False
      | _ => False
    | _ => False
  | .binOp op t x y _ => rBin P op t (s.ev x) (s.ev y) K (kFlat P o s K)
  | .unOp .not _ x => match s.ev x with
    | .val (.fl (.bool p)) => K (.val (.fl (.bool (!p))))
    | _ => False
  | .unOp .neg _ x => match s.ev x with
    | .val (.fl (.int k p)) => K (.val (.fl (.int k (k.wrap (0 - p)))))
    | _ => False
  | .convert src dst x => match s.ev x with
    | .val (.fl (.int _ n)) => match convK P src dst with
      | some k' => K (.val (.fl (.int k' (k'.wrap n))))
      | none => kFlat P o s K
    | _ => kFlat P o s K
  | _ => False

def rOp (P : Program) (E : Env) (o : Oper) (s : St) (K : St → Prop) (X : AV → Prop) : Prop :=
  match o.op with
  | .assign x =>
    match s.ev x with
    | .view d' gg off len => match o.dst with
      | some d => match s.b d' with
        | some (.arr e xs) => (off = 0 ∧ gg = s.g d') ∧ K (s.adopt d d' e xs len)
        | _ => False
      | none => False
    | r => K (s.put o.dst r)
  | .alloc t => match o.dst with
    | some d => match zeroOf P t with
      | some z => K (s.newCells d (z.cells.map avReg))
      | none => False
    | none => False
  | .box t x => match o.dst with
    | some d => match regCells (s.ev x) with
      | some cs => alive s (s.ev x) ∧ K (s.newCells d cs)
      | none => False
    | none => False
  | .store t p x => o.dst = none ∧ rStore P s t (s.ev p) (s.ev x) K
  | .makeSlice t x y => match o.dst with
    | some d => match sliceOf P t with
      | some e => match zeroOf P e with
        | some z => match s.ev x with
          | .val (.fl (.int _ m)) => ((∃ k', s.ev y = .val (.fl (.int k' m))) ∧ 0 < P.cellsOf e ∧ 0 ≤ m ∧ m.toNat ≤ maxLen ∧ m.toNat * P.bytesOf e ≤ 281474976710656) ∧ K (s.newArr d e (List.replicate m.toNat z))
          | _ => False
        | none => False
      | none => False
    | none => False
  | .buildSlice t len parts => match o.dst with
    | some d => match sliceOf P t with
      | some e => match regAVsOf s (parts.toList.map (·.2)) with
        | some xs => (elemOk P e = true ∧ parts.toList.map (·.1) = List.range len ∧ len * P.cellsOf e ≤ 16777216 ∧ Elems P e xs) ∧ K (s.newArr d e xs)
        | none => False
      | none => False
    | none => False
  | .call { callee := .builtin b, args, argTypes } => rBuiltin P o s b args.toList argTypes.toList K
  | .call { callee := .value x, args, argTypes } => match (args.toList.head?).map s.ev with
    | some (.view _ _ _ _) => kTake P E o s x args.toList K ∨ kPeek P E o s x args.toList K
    | _ => (∃ f caps, calleeOf s x = some (f, caps) ∧ ∃ xs, regAVsOf s args.toList = some xs ∧ ∃ out, Does P E f (xs ++ caps) out ∧ outK out (fun rs => K (s.take o.dst rs)) X) ∨ kPeek P E o s x args.toList K
  | .panic x => match s.ev x with
    | .val (.ifc t v) => X (.ifc t v)
    | _ => False
  | .convert src dst x => if bytesT P src dst = true then
      match s.ev x with
      | .val (.fl (.string b)) => b.data.toList.length ≤ maxLen ∧ K (s.put o.dst (.val (.sl (byteAVs b.data.toList))))
      | _ => False
    else rValue P o s fun r => K (s.put o.dst r)
  | .binOp op t x y t' =>
    match y with
    | .const (.slice none 0 0) => match s.ev x with
      | .val (.sl xs) => ((op = .eql ∨ op = .neq) ∧ ∃ e, P.underlying t = some (.slice e)) ∧ ∀ b : Bool, (b = true → xs = []) → K (s.put o.dst (.val (.fl (.bool (if op = .eql then b else !b)))))
      | _ => rValue P o s fun r => K (s.put o.dst r)
    | _ => rValue P o s fun r => K (s.put o.dst r)
  | _ => rValue P o s fun r => K (s.put o.dst r)

section
variable {P : Program} {E : Env} {o : Oper} {s : St}

theorem rLoadAV_k {t : TypeId} {cs : List AV} {K : AV → Prop} (h : rLoadAV P t cs K) : loadAV P t cs K := by
  unfold rLoadAV at h
  unfold loadAV
  split at h
  · rename_i hq; rw [hq]; exact ⟨h.1.1, h.1.2, h.2⟩
  · rename_i hq; rw [hq]; exact ⟨h.1.1, h.1.2, h.2⟩
  · exact h.elim

theorem rLoad_k {t : TypeId} {r : Reg} {K : Reg → Prop} (h : rLoad P s t r K) : kLoad P s t r K := by
  unfold rLoad at h
  split at h
  · exact rLoadAV_k h
  · rename_i d gg sz i k
    unfold kLoad
    split at h
    · rename_i cs hb
      simp only [hb]
      unfold loadRegs
      split at h
      · rename_i hq
        rw [hq]
        split at h
        · rename_i xs hx; exact ⟨h.1.1, h.1.2.1, h.1.2.2, xs, hx, h.2⟩
        · exact h.elim
      · rename_i hq; rw [hq]; exact ⟨h.1.1, h.1.2.1, h.1.2.2, h.2⟩
      · exact h.elim
    · rename_i e xs hb
      simp only [hb]
      split at h
      · rename_i y hy; exact ⟨h.1.1, h.1.2, y, hy, rLoadAV_k h.2⟩
      · exact h.elim
    · exact h.elim
  · exact h.elim

theorem rFieldAddr_k {t : TypeId} {f : Nat} {r : Reg} {K : Reg → Prop} (h : rFieldAddr P s t f r K) : kFieldAddr P s t f r K := by
  unfold rFieldAddr at h
  split at h
  · rename_i off ft hf
    refine ⟨off, ft, hf, ?_⟩
    split at h <;> first | exact h | exact h.elim
  · exact h.elim

theorem rIndexAddr_k {t : TypeId} {x y : Reg} {K : Reg → Prop} (h : rIndexAddr P s t x y K) : kIndexAddr P s t x y K := by
  unfold rIndexAddr at h
  split at h
  · rename_i e he
    split at h
    · split at h
      · split at h
        · rename_i z hz; exact ⟨e, he, h.1.1, h.1.2.1, z, hz, h.1.2.2, h.2⟩
        · exact h.elim
      · split at h
        · rename_i z hz; exact ⟨e, he, h.1.1, h.1.2.1, z, hz, h.1.2.2, h.2⟩
        · exact h.elim
      · exact ⟨e, he, h.1.1, h.1.2.1, h.1.2.2.1, h.1.2.2.2.1, h.1.2.2.2.2, h.2⟩
      · exact h.elim
    · exact h.elim
  · exact h.elim

theorem rStore_k {t : TypeId} {p x : Reg} {K : St → Prop} (h : rStore P s t p x K) : kStore P s t p x K := by
  unfold rStore at h
  split at h
  · rename_i d gg sz i k
    unfold kStore
    split at h
    · rename_i cs hb
      simp only [hb]
      split at h
      · rename_i vs hv
        obtain ⟨⟨h1, h2, h3⟩, h4⟩ := h
        exact ⟨h1, h2, vs, hv, h3, h4⟩
      · exact h.elim
    · rename_i e xs hb
      simp only [hb]
      split at h
      · rename_i v hv
        split at h
        · rename_i y hy
          obtain ⟨⟨h1, h2, h3⟩, h4⟩ := h
          exact ⟨h1, h2, v, y, hv, hy, h3, h4⟩
        · exact h.elim
      · exact h.elim
    · exact h.elim
  · exact h.elim

theorem onVal_some {o : Option Value} {K : Reg → Prop} (h : onVal o K) : ∃ v, o = some v ∧ K (.val (.fl v)) := by
  unfold onVal at h
  split at h
  · exact ⟨_, rfl, h⟩
  · exact h.elim

theorem bs_eq (b : ByteArray) : Value.string b = bs b.data.toList := by cases b; simp [bs]

theorem rBin_k {op : BinOp} {t : TypeId} {x y : Reg} {K : Reg → Prop} {F : Prop} (hA : ∀ xs ys ks e, x = .val (.agg xs) → y = .val (.agg ys) → kindsOf P t = some ks → flatEqs ks xs ys = some e → (op = .eql ∨ op = .neq) → K (.val (.fl (.bool (if op = .eql then e else !e)))) → F) (h : rBin P op t x y K F) : kBin P op t x y K ((∃ p q, x = .val (.fl (bs p)) ∧ y = .val (.fl (bs q)) ∧ ∃ v, strBin op p q = some v ∧ K (.val (.fl v))) ∨ F) := by
  unfold rBin at h
  split at h
  · obtain ⟨v, h1, h2⟩ := onVal_some h.2; exact ⟨h.1, v, h1, h2⟩
  · exact h
  · rename_i p q
    obtain ⟨v, h1, h2⟩ := onVal_some h
    exact .inl ⟨_, _, by rw [bs_eq], by rw [bs_eq], v, h1, h2⟩
  · rename_i xs ys
    split at h
    · rename_i ks hk
      split at h
      · rename_i e he
        exact .inr (hA _ _ _ _ rfl rfl hk he h.1 h.2)
      · exact h.elim
    · exact h.elim
  · rename_i h1 h2 h3 h4
    exact kBin_else h1 h2 (.inr h)

theorem rSliceSl_k {t : TypeId} {xs : List AV} {lo hi mx : Option Operand} {K : Reg → Prop} (h : rSliceSl P s t xs lo hi mx K) : kSliceSl P s t xs lo hi mx K := by
  unfold rSliceSl at h
  split at h
  · rename_i e he
    split at h
    · rename_i l hl
      split at h
      · rename_i q hq
        split at h
        · exact ⟨e, he, l, q, hl, hq, h.1, h.2⟩
        · obtain ⟨⟨h1, h2, h3, h4, h5, h6⟩, h7⟩ := h
          exact ⟨e, he, l, q, hl, hq, ⟨h1, h2, h3, h4⟩, h5, h6, h7⟩
      · exact h.elim
    · exact h.elim
  · exact h.elim

theorem rSlice_k {t : TypeId} {x : Reg} {lo hi mx : Option Operand} {K : Reg → Prop} (h : rSlice P s t x lo hi mx K) : kSlice P s t x lo hi mx K (mx = none ∧ P.underlying t = some .string ∧ ∃ xs, x = .val (.fl (bs xs)) ∧ ∃ l h, bnd s 0 lo = some l ∧ bnd s xs.length hi = some h ∧ (l ≤ h ∧ h ≤ xs.length) ∧ K (.val (.fl (bs ((xs.drop l).take (h - l)))))) := by
  unfold rSlice at h
  split at h
  · exact rSliceSl_k h
  · exact rSliceSl_k h
  · split at h
    · rename_i e he
      split at h
      · rename_i l hl
        split at h
        · rename_i q hq
          obtain ⟨⟨h1, h2, h3, h4, h5⟩, h6⟩ := h
          exact ⟨h1, e, he, h2, h3, l, q, hl, hq, ⟨h4, h5⟩, h6⟩
        · exact h.elim
      · exact h.elim
    · exact h.elim
  · split at h
    · rename_i l hl
      split at h
      · rename_i q hq
        obtain ⟨⟨h1, h2, h3, h4⟩, h5⟩ := h
        exact ⟨h1, h2, _, by rw [bs_eq], l, q, hl, hq, ⟨h3, h4⟩, h5⟩
      · exact h.elim
    · exact h.elim
  · exact h.elim

theorem rBuiltin_k {b : Builtin} {args : List Operand} {types : List TypeId} {K : St → Prop} (h : rBuiltin P o s b args types K) : kBuiltin P o s b args types K := by
  unfold rBuiltin at h
  split at h
  · rename_i x t
    unfold kBuiltin
    split at h
    · rename_i xs hx; exact ⟨xs.length, by rw [hx]; rfl, ⟨h.1.1, by simp only [hx]; exact h.1.2⟩, h.2⟩
    · rename_i xs hx; exact ⟨xs.length, by rw [hx]; rfl, ⟨h.1.1, by simp only [hx]; exact h.1.2⟩, h.2⟩
    · rename_i b hx; exact ⟨b.data.toList.length, by rw [hx]; exact congrArg some (by cases b; rfl), ⟨h.1.1, by simp only [hx]; exact h.1.2⟩, h.2⟩
    · rename_i d gg off len hx
      obtain ⟨⟨h1, ⟨e, xs, h2⟩, h3, h4⟩, h5⟩ := h
      exact ⟨len, by rw [hx]; simp [lenOfReg, h2, h1], ⟨h3, by simp only [hx]; exact h4⟩, h5⟩
    · exact h.elim
  · rename_i x y t u
    unfold kBuiltin
    split at h
    · rename_i d hd
      split at h
      · rename_i e he
        split at h
        · rename_i ys hy
          split at h
          · rename_i d' gg off k hx
            split at h
            · rename_i e' xs hb
              obtain ⟨⟨rfl, h1, h2, h3, h4, h5, h6, h7⟩, h8⟩ := h
              exact ⟨d, hd, _, he, ys, hy, ⟨h1, h2, h3⟩, by simp only [hx]; exact ⟨h4, h5, xs, hb, ⟨h6, h7⟩, h8⟩⟩
            · exact h.elim
          · rename_i xs hx
            obtain ⟨⟨h1, h2, h3, h4, h5, h6, h7⟩, h8⟩ := h
            exact ⟨d, hd, _, he, ys, hy, ⟨h1, h2, h3⟩, by simp only [hx]; exact ⟨⟨h4, h5, h6, h7⟩, h8⟩⟩
          · exact h.elim
        · exact h.elim
      · exact h.elim
    · exact h.elim
  · rename_i x y t u
    unfold kBuiltin
    split at h
    · rename_i e he
      split at h
      · rename_i ys hy
        split at h
        · rename_i d gg off len hx
          split at h
          · rename_i e' xs hb
            obtain ⟨⟨rfl, h1, h2⟩, h3⟩ := h
            exact ⟨_, he, ys, hy, h1, by simp only [hx]; exact ⟨h2, xs, hb, h3⟩⟩
          · exact h.elim
        · exact h.elim
      · exact h.elim
    · exact h.elim
  · exact h.elim

theorem rValue_k {K : Reg → Prop} (h : rValue P o s K) : kValue P o s K := by
  unfold rValue at h
  unfold kValue
  cases ho : o.op <;> simp only [ho] at h ⊢
  case move x => exact h
  case pick c x y =>
    split at h
    · rename_i b hc
      refine ⟨b, hc, ?_⟩
      cases b <;> simpa using h
    · exact h.elim
  case load t x => exact rLoad_k h
  case fieldAddr t x f => exact rFieldAddr_k h
  case indexAddr t x y => exact rIndexAddr_k h
  case extract x k =>
    split at h
    · rename_i rs hx
      split at h
      · rename_i r hr; exact ⟨rs, r, hx, hr, h⟩
      · exact h.elim
    · exact h.elim
  case field t x f =>
    split at h
    · rename_i off ft hf
      split at h
      · rename_i cs hx; exact ⟨off, ft, hf, cs, hx, rLoadAV_k h⟩
      · exact h.elim
    · exact h.elim
  case makeFunc fn first caps =>
    cases fn <;> simp only at h ⊢
    split at h
    · rename_i xs hx; exact ⟨h.1, xs, hx, h.2⟩
    · exact h.elim
  case makeInterface t x =>
    split at h
    · rename_i v hv; exact ⟨v, hv, h.1, h.2⟩
    · exact h.elim
  case build t parts =>
    split at h
    · rename_i pl hp
      split at h
      · rename_i z hz
        split at h
        · rename_i ps hps; exact ⟨pl, hp, z, hz, ps, hps, h.1, h.2⟩
        · exact h.elim
      · exact h.elim
    · exact h.elim
  case slice t x lo hi mx => exact rSlice_k h
  case index t x y =>
    split at h
    · rename_i l hl
      split at h
      · rename_i k m hm
        split at h
        · rename_i c hc; exact ⟨h.1.1, _, by rw [hl, bs_eq], k, m, hm, h.1.2, c, hc, h.2⟩
        · exact h.elim
      · exact h.elim
    · exact h.elim
  case binOp op t x y t' => exact rBin_k (fun xs ys ks e h1 h2 h3 h4 h5 h6 => kFlat_struct ho h1 h2 h3 h4 h5 h6) h
  case unOp op t x =>
    cases op <;> simp only at h ⊢
    · split at h
      · rename_i k p hx; exact ⟨k, p, hx, h⟩
      · exact h.elim
    · split at h
      · rename_i p hx; exact ⟨p, hx, h⟩
      · exact h.elim
  case convert t t' x =>
    split at h
    · rename_i k n hx
      split at h
      · rename_i k' hk
        unfold convK at hk
        split at hk
        · rename_i d k2 h1 h2
          simp only [Option.some.injEq] at hk
          subst hk
          refine ⟨.int k2 (k2.wrap n), fun w => ?_, ⟨rfl, fun y hy => ?_⟩, h⟩
          · have hf : flatVal s x = .int k n := by simp [flatVal, hx, regFlat, flatOf]
            have hik : P.intKind t' = k2 := by simp [Program.intKind, h2]
            have hr := run_convert_int (P := P) w t t' k n (by rw [h1]; rfl) (by rw [hik]; exact h2)
            rw [hik] at hr
            simp [execOp, ho, hf, hr]
          · simp only [ho, Op.operands] at hy
            have : y = x := by simpa using hy
            subst this
            rw [hx]
            exact ⟨rfl, by simp⟩
        · cases hk
      · exact h
    · exact h

theorem rOp_k {K : St → Prop} {X : AV → Prop} (h : rOp P E o s K X) : opK P E o s K X := by
  unfold rOp at h
  unfold opK
  cases ho : o.op
  case assign x =>
    simp only [ho] at h ⊢
    split at h
    · rename_i d' gg off len hx
      split at h
      · rename_i d hd
        split at h
        · rename_i e xs hb
          simp only [hx]
          exact ⟨h.1.1, h.1.2, d, hd, e, xs, hb, h.2⟩
        · exact h.elim
      · exact h.elim
    · rename_i hn
      split
      · rename_i hx; exact (hn _ _ _ _ hx).elim
      · exact h
  case alloc t =>
    simp only [ho] at h ⊢
    split at h
    · rename_i d hd
      split at h
      · rename_i z hz; exact ⟨d, hd, z, hz, h⟩
      · exact h.elim
    · exact h.elim
  case box t x =>
    simp only [ho] at h ⊢
    split at h
    · rename_i d hd
      split at h
      · rename_i cs hc; exact ⟨d, hd, cs, hc, h.1, h.2⟩
      · exact h.elim
    · exact h.elim
  case store t p x => simp only [ho] at h ⊢; exact ⟨h.1, rStore_k h.2⟩
  case makeSlice t x y =>
    simp only [ho] at h ⊢
    split at h
    · rename_i d hd
      split at h
      · rename_i e he
        split at h
        · rename_i z hz
          split at h
          · rename_i k m hx
            obtain ⟨⟨⟨k', h1⟩, h2⟩, h3⟩ := h
            exact ⟨d, hd, e, he, z, hz, k, m, hx, k', h1, h2, h3⟩
          · exact h.elim
        · exact h.elim
      · exact h.elim
    · exact h.elim
  case buildSlice t len parts =>
    simp only [ho] at h ⊢
    split at h
    · rename_i d hd
      split at h
      · rename_i e he
        split at h
        · rename_i xs hx; exact ⟨d, hd, e, he, xs, hx, h.1, h.2⟩
        · exact h.elim
      · exact h.elim
    · exact h.elim
  case call c =>
    obtain ⟨callee, args, types⟩ := c
    cases callee
    case builtin => simp only [ho] at h ⊢; exact rBuiltin_k h
    case value =>
      simp only [ho] at h ⊢
      split at h
      · exact .inr h
      · rcases h with h | h
        · exact .inl h
        · exact .inr (.inr h)
    all_goals (simp only [ho] at h ⊢; exact rValue_k h)
  case panic x =>
    simp only [ho] at h ⊢
    split at h
    · rename_i t v hx; exact ⟨t, v, hx, h⟩
    · exact h.elim
  case convert src dst x =>
    simp only [ho] at h ⊢
    split at h
    · rename_i hb
      split at h
      · rename_i b hx; exact .inl ⟨hb, _, by rw [hx, bs_eq], h.1, h.2⟩
      · exact h.elim
    · exact .inr (rValue_k h)
  case binOp op t x y t' =>
    simp only [ho] at h ⊢
    split at h
    · split at h
      · rename_i xs hx
        exact .inl ⟨h.1.1, rfl, xs, hx, h.1.2, h.2⟩
      · exact .inr (rValue_k h)
    · exact .inr (rValue_k h)
  all_goals (simp only [ho] at h ⊢; exact rValue_k h)

theorem kStore_mono {t : TypeId} {p x : Reg} {K K' : St → Prop} (hk : ∀ s, K s → K' s) (h : kStore P s t p x K) : kStore P s t p x K' := by
  obtain ⟨e, h1, h2⟩ := storeE_of h
  exact of_storeE h1 (hk _ h2)

theorem kBuiltin_mono {b : Builtin} {args : List Operand} {types : List TypeId} {K K' : St → Prop} (hk : ∀ s, K s → K' s) (h : kBuiltin P o s b args types K) : kBuiltin P o s b args types K' := by
  unfold kBuiltin at h ⊢
  split at h
  · obtain ⟨m, h1, h2, h3⟩ := h; exact ⟨m, h1, h2, hk _ h3⟩
  · obtain ⟨d, hd, e, h1, ys, h2, h3, h4⟩ := h
    refine ⟨d, hd, e, h1, ys, h2, h3, ?_⟩
    split at h4
    · obtain ⟨q1, q2, xs, q3, q4, q5⟩ := h4; exact ⟨q1, q2, xs, q3, q4, hk _ q5⟩
    · exact ⟨h4.1, hk _ h4.2⟩
    · exact h4
  · obtain ⟨e, h1, ys, h2, h3, h4⟩ := h
    refine ⟨e, h1, ys, h2, h3, ?_⟩
    split at h4
    · obtain ⟨q1, xs, q2, q3⟩ := h4; exact ⟨q1, xs, q2, hk _ q3⟩
    · exact h4
  · exact h

theorem outK_mono {out : Out} {K K' : List RV → Prop} {X : AV → Prop} (hk : ∀ s, K s → K' s) (h : outK out K X) : outK out K' X := by
  cases out with
  | ret rs => exact hk _ h
  | pan y => exact h

theorem opK_mono {K K' : St → Prop} {X : AV → Prop} (hk : ∀ s, K s → K' s) (h : opK P E o s K X) : opK P E o s K' X := by
  unfold opK at h ⊢
  cases ho : o.op
  case assign x =>
    simp only [ho] at h ⊢
    split at h
    · obtain ⟨h1, h2, d, hd, e, xs, hb, hK⟩ := h; exact ⟨h1, h2, d, hd, e, xs, hb, hk _ hK⟩
    · exact hk _ h
  case alloc t => simp only [ho] at h ⊢; obtain ⟨d, hd, z, hz, hK⟩ := h; exact ⟨d, hd, z, hz, hk _ hK⟩
  case box t x => simp only [ho] at h ⊢; obtain ⟨d, hd, z, hz, ha, hK⟩ := h; exact ⟨d, hd, z, hz, ha, hk _ hK⟩
  case store t p x => simp only [ho] at h ⊢; exact ⟨h.1, kStore_mono hk h.2⟩
  case makeSlice t x y =>
    simp only [ho] at h ⊢
    obtain ⟨d, hd, e, he, z, hz, k, m, hx, k', hy, h1, hK⟩ := h
    exact ⟨d, hd, e, he, z, hz, k, m, hx, k', hy, h1, hk _ hK⟩
  case buildSlice t len parts =>
    simp only [ho] at h ⊢
    obtain ⟨d, hd, e, he, xs, hx, h1, hK⟩ := h
    exact ⟨d, hd, e, he, xs, hx, h1, hk _ hK⟩
  case call c =>
    obtain ⟨callee, args, types⟩ := c
    cases callee
    case builtin => simp only [ho] at h ⊢; exact kBuiltin_mono hk h
    case value =>
      simp only [ho] at h ⊢
      rcases h with ⟨f, caps, h1, xs, h2, out, h3, h4⟩ | ⟨f, a0, rest, xs, d, r0, e, ys, rs, h1, h2, h3, h4, h5, h6⟩ | ⟨f, xs, rs, h1, h2, h3, h4⟩
      · exact .inl ⟨f, caps, h1, xs, h2, out, h3, outK_mono (fun _ h => hk _ h) h4⟩
      · exact .inr (.inl ⟨f, a0, rest, xs, d, r0, e, ys, rs, h1, h2, h3, h4, h5, hk _ h6⟩)
      · exact .inr (.inr ⟨f, xs, rs, h1, h2, h3, hk _ h4⟩)
    all_goals (simp only [ho] at h ⊢; exact kValue_mono (fun _ h => hk _ h) h)
  case panic x => simp only [ho] at h ⊢; exact h
  case convert src dst x =>
    simp only [ho] at h ⊢
    rcases h with ⟨h1, l, h2, h3, h4⟩ | h
    · exact .inl ⟨h1, l, h2, h3, hk _ h4⟩
    · exact .inr (kValue_mono (fun _ h => hk _ h) h)
  case binOp op t x y t' =>
    simp only [ho] at h ⊢
    rcases h with ⟨h1, h2, xs, h3, h4, h5⟩ | h
    · exact .inl ⟨h1, h2, xs, h3, h4, fun b hb => hk _ (h5 b hb)⟩
    · exact .inr (kValue_mono (fun _ h => hk _ h) h)
  all_goals (simp only [ho] at h ⊢; exact kValue_mono (fun _ h => hk _ h) h)

theorem opD_mono {K K' : St → Prop} (hk : ∀ s, K s → K' s) (h : opD P E o s K) : opD P E o s K' := by
  obtain ⟨e, h1, h2⟩ := opE_of h
  exact of_opE h1 (hk _ h2)

/-- as 'rOp', of those that may be carried out in another order -/
def rOpD (P : Program) (E : Env) (o : Oper) (s : St) (K : St → Prop) : Prop :=
  match o.op with
  | .assign x => K (s.put o.dst (s.ev x))
  | .alloc t => match o.dst with
    | some d => match zeroOf P t with
      | some z => s.b d = none ∧ K (s.newCells d (z.cells.map avReg))
      | none => False
    | none => False
  | .box t x => match o.dst with
    | some d => match boxCells (s.ev x) with
      | some cs => s.b d = none ∧ K (s.newCells d cs)
      | none => False
    | none => False
  | .store t p x => o.dst = none ∧ rStore P s t (s.ev p) (s.ev x) K
  | .call { callee := .builtin b, args, argTypes } => b = .len ∧ rBuiltin P o s .len args.toList argTypes.toList K
  | .call { callee := .value x, args, argTypes } => ∃ f caps, calleeOf s x = some (f, caps) ∧ ∃ xs, regAVsOf s args.toList = some xs ∧ ∃ rs, Does P E f (xs ++ caps) (.ret rs) ∧ ∃ ys, plainRVs rs = some ys ∧ K (s.put o.dst (retReg ys))
  | _ => rValue P o s fun r => K (s.put o.dst r)

theorem rOpD_k {K : St → Prop} (h : rOpD P E o s K) : opD P E o s K := by
  unfold rOpD at h
  unfold opD
  cases ho : o.op
  case assign x => simp only [ho] at h ⊢; exact h
  case alloc t =>
    simp only [ho] at h ⊢
    split at h
    · rename_i d hd
      split at h
      · rename_i z hz; exact ⟨d, hd, z, hz, h⟩
      · exact h.elim
    · exact h.elim
  case box t x =>
    simp only [ho] at h ⊢
    split at h
    · rename_i d hd
      split at h
      · rename_i cs hc; exact ⟨d, hd, cs, hc, h.1, h.2⟩
      · exact h.elim
    · exact h.elim
  case store t p x => simp only [ho] at h ⊢; exact ⟨h.1, rStore_k h.2⟩
  case call c =>
    obtain ⟨callee, args, types⟩ := c
    cases callee
    case builtin => simp only [ho] at h ⊢; exact ⟨h.1, rBuiltin_k h.2⟩
    case value => simp only [ho] at h ⊢; exact h
    all_goals (simp only [ho] at h ⊢; exact rValue_k h)
  all_goals (simp only [ho] at h ⊢; exact rValue_k h)

/-! ### Regions -/

/-- the temporary that tells whether an operation is wanted -/
def gtmp (ops : Array Oper) (j : Nat) : Option Nat := (ops[j]?).bind (·.dst)

def rops (P : Program) (E : Env) (ops : Array Oper) (X : AV → Prop) (K : St → Prop) : List Oper → St → Prop
  | [], s => K s
  | o :: rest, s =>
    match o.guard with
    | none => rOp P E o s (rops P E ops X K rest) X
    | some (j, want) => match gtmp ops j with
      | some t => match gate s t want with
        | some b => if b = true then rOp P E o s (rops P E ops X K rest) X else rops P E ops X K rest (s.put o.dst (.tup []))
        | none => False
      | none => False

def ropsD (P : Program) (E : Env) (ops : Array Oper) (K : St → Prop) : List Oper → St → Prop
  | [], s => K s
  | o :: rest, s =>
    match o.guard with
    | none => rOpD P E o s (ropsD P E ops K rest)
    | some (j, want) => match gtmp ops j with
      | some t => match gate s t want with
        | some b => if b = true then rOpD P E o s (ropsD P E ops K rest) else ropsD P E ops K rest (s.put o.dst (.tup []))
        | none => False
      | none => False

theorem rops_k {ops : Array Oper} {X : AV → Prop} {K : St → Prop} : ∀ {l : List Oper} {s : St}, rops P E ops X K l s → aops P E ops X K l s
  | [], s, h => h
  | o :: l, s, h => by
    have mono : ∀ s, rops P E ops X K l s → aops P E ops X K l s := fun s h => rops_k h
    have run : ∀ s, opK P E o s (rops P E ops X K l) X → opK P E o s (aops P E ops X K l) X := fun s h => opK_mono mono h
    unfold rops at h
    unfold aops
    cases hg : o.guard with
    | none => simp only [hg] at h; exact run s (rOp_k h)
    | some p =>
      obtain ⟨j, want⟩ := p
      simp only [hg] at h
      split at h
      · rename_i t ht
        split at h
        · rename_i b hb
          refine ⟨t, ht, b, hb, ?_⟩
          cases b with
          | true => simp only [if_true] at h ⊢; exact run s (rOp_k h)
          | false => simp only [Bool.false_eq_true, if_false] at h ⊢; exact mono _ h
        · exact h.elim
      · exact h.elim

theorem ropsD_k {ops : Array Oper} {K : St → Prop} : ∀ {l : List Oper} {s : St}, ropsD P E ops K l s → dops P E ops K l s
  | [], s, h => h
  | o :: l, s, h => by
    have mono : ∀ s, ropsD P E ops K l s → dops P E ops K l s := fun s h => ropsD_k h
    have run : ∀ s, opD P E o s (ropsD P E ops K l) → opD P E o s (dops P E ops K l) := fun s h => opD_mono mono h
    unfold ropsD at h
    unfold dops
    cases hg : o.guard with
    | none => simp only [hg] at h; exact run s (rOpD_k h)
    | some p =>
      obtain ⟨j, want⟩ := p
      simp only [hg] at h
      split at h
      · rename_i t ht
        split at h
        · rename_i b hb
          refine ⟨t, ht, b, hb, ?_⟩
          cases b with
          | true => simp only [if_true] at h ⊢; exact run s (rOpD_k h)
          | false => simp only [Bool.false_eq_true, if_false] at h ⊢; exact mono _ h
        · exact h.elim
      · exact h.elim

/-- one operation of a region -/
def rops1 (P : Program) (E : Env) (ops : Array Oper) (X : AV → Prop) (K : St → Prop) (o : Oper) (s : St) : Prop :=
  match o.guard with
  | none => rOp P E o s K X
  | some (j, want) => match gtmp ops j with
    | some t => match gate s t want with
      | some b => if b = true then rOp P E o s K X else K (s.put o.dst (.tup []))
      | none => False
    | none => False
def ropsD1 (P : Program) (E : Env) (ops : Array Oper) (K : St → Prop) (o : Oper) (s : St) : Prop :=
  match o.guard with
  | none => rOpD P E o s K
  | some (j, want) => match gtmp ops j with
    | some t => match gate s t want with
      | some b => if b = true then rOpD P E o s K else K (s.put o.dst (.tup []))
      | none => False
    | none => False

theorem rops_step {ops : Array Oper} {X : AV → Prop} {K : St → Prop} {rest : List Oper} (h : ∀ K' : St → Prop, (∀ s, rops P E ops X K rest s → K' s) → rops1 P E ops X K' o s) : rops P E ops X K (o :: rest) s := h _ fun _ h => h
theorem ropsD_step {ops : Array Oper} {K : St → Prop} {rest : List Oper} (h : ∀ K' : St → Prop, (∀ s, ropsD P E ops K rest s → K' s) → ropsD1 P E ops K' o s) : ropsD P E ops K (o :: rest) s := h _ fun _ h => h
theorem rops_nil {ops : Array Oper} {X : AV → Prop} {K : St → Prop} (h : K s) : rops P E ops X K [] s := h
theorem ropsD_nil {ops : Array Oper} {K : St → Prop} (h : K s) : ropsD P E ops K [] s := h

/-- an operation whose guard lets it, one whose guard doesn't -/
theorem aops_on {ops : Array Oper} {X : AV → Prop} {K : St → Prop} {rest : List Oper} {j t : Nat} {want : Bool} (hg : o.guard = some (j, want)) (hj : gtmp ops j = some t) (hs : gate s t want = some true) (h : ∀ K' : St → Prop, (∀ s, aops P E ops X K rest s → K' s) → opK P E o s K' X) : aops P E ops X K (o :: rest) s := by
  unfold aops
  simp only [hg]
  exact ⟨t, hj, true, hs, by simp only [if_true]; exact h _ fun _ h => h⟩
theorem dops_on {ops : Array Oper} {K : St → Prop} {rest : List Oper} {j t : Nat} {want : Bool} (hg : o.guard = some (j, want)) (hj : gtmp ops j = some t) (hs : gate s t want = some true) (h : ∀ K' : St → Prop, (∀ s, dops P E ops K rest s → K' s) → opD P E o s K') : dops P E ops K (o :: rest) s := by
  unfold dops
  simp only [hg]
  exact ⟨t, hj, true, hs, by simp only [if_true]; exact h _ fun _ h => h⟩
theorem aops_off {ops : Array Oper} {X : AV → Prop} {K : St → Prop} {rest : List Oper} {j t : Nat} {want : Bool} (hg : o.guard = some (j, want)) (hj : gtmp ops j = some t) (hs : gate s t want = some false) (h : ∀ K' : St → Prop, (∀ s, aops P E ops X K rest s → K' s) → K' (s.put o.dst (.tup []))) : aops P E ops X K (o :: rest) s := by
  unfold aops
  simp only [hg]
  exact ⟨t, hj, false, hs, by simp only [Bool.false_eq_true, if_false]; exact h _ fun _ h => h⟩

theorem rops_split {ops : Array Oper} {X : AV → Prop} {K : St → Prop} {l : List Oper} (k : Nat) (h : ∀ K' : St → Prop, (∀ s, aops P E ops X K (l.drop k) s → K' s) → rops P E ops X K' (l.take k) s) : aops P E ops X K l s :=
  aops_split k fun K' hK => rops_k (h K' hK)
theorem ropsD_split {ops : Array Oper} {K : St → Prop} {l : List Oper} (k : Nat) (h : ∀ K' : St → Prop, (∀ s, dops P E ops K (l.drop k) s → K' s) → ropsD P E ops K' (l.take k) s) : dops P E ops K l s :=
  dops_split k fun K' hK => ropsD_k (h K' hK)

end
end Go.Ev
