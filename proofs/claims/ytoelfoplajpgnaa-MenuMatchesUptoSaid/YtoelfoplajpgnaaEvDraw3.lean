import Derived.Orders
import Derived.Test.YtoelfoplajpgnaaEvDraw2
set_option linter.unusedVariables false
set_option linter.unusedSimpArgs false
set_option linter.unusedSectionVars false

namespace Go.Ev
open Go

inductive Eff where
  | val (r : Reg)
  | cells (cs : List Reg)
  | box (d : Nat) (x : Bx)

def St.eff (s : St) (dst : Option Nat) : Eff → St
  | .val r => s.put dst r
  | .cells cs => match dst with
    | some d => s.newCells d cs
    | none => s
  | .box d x => { s with b := upd s.b d (some x) }

def storeE (P : Program) (s : St) (t : TypeId) (p x : Reg) (e : Eff) : Prop :=
  match p with
  | .loc d gg sz i k => gg = s.g d ∧ 0 < P.cellsOf t ∧
    match s.b d with
    | some (.cells cs) => ∃ vs, regCells x = some vs ∧ (alive s x ∧ oneReg x ∧ vs.length = P.cellsOf t ∧ i * sz + k + vs.length ≤ cs.length) ∧ e = .box d (.cells (writeAt cs (i * sz + k) vs))
    | some (.arr el xs) => ∃ v y, regAV x = some v ∧ xs[i]? = some y ∧ (sz = P.cellsOf el ∧ v.wf ∧ v.cells.length = P.cellsOf t ∧ k + v.cells.length ≤ y.cells.length ∧ (y.isAgg = true ∨ (k = 0 ∧ v.isAgg = false))) ∧
        e = .box d (.arr el (xs.set i (setElem y k v.cells)))
    | none => False
  | _ => False

def lenE (P : Program) (s : St) (args : List Operand) (types : List TypeId) (e : Eff) : Prop :=
  match args, types with
  | [x], [t] => ∃ m, lenOfReg s (s.ev x) = some m ∧ (seqDesc P t = true ∧ match s.ev x with | .val (.fl _) => P.underlying t = some .string | _ => ∃ e, P.underlying t = some (.slice e)) ∧ e = .val (.val (.fl (.int .i64 m)))
  | _, _ => False

def opE (P : Program) (E : Env) (o : Oper) (s : St) (e : Eff) : Prop :=
  match o.op with
  | .assign x => e = .val (s.ev x)
  | .alloc t => ∃ d, o.dst = some d ∧ ∃ z, zeroOf P t = some z ∧ s.b d = none ∧ e = .cells (z.cells.map avReg)
  | .box t x => ∃ d, o.dst = some d ∧ ∃ cs, boxCells (s.ev x) = some cs ∧ s.b d = none ∧ e = .cells cs
  | .store t p x => o.dst = none ∧ storeE P s t (s.ev p) (s.ev x) e
  | .call { callee := .builtin b, args, argTypes } => b = .len ∧ lenE P s args.toList argTypes.toList e
  | .call { callee := .value x, args, argTypes } => ∃ f caps, calleeOf s x = some (f, caps) ∧ ∃ xs, regAVsOf s args.toList = some xs ∧ ∃ rs, Does P E f (xs ++ caps) (.ret rs) ∧ ∃ ys, plainRVs rs = some ys ∧ e = .val (retReg ys)
  | _ => ∃ r, e = .val r ∧ kValue P o s (· = r)

section
variable {P : Program} {E : Env} {o : Oper} {s s' : St} {e : Eff}

theorem storeE_of {t : TypeId} {p x : Reg} {K : St → Prop} (h : kStore P s t p x K) : ∃ e, storeE P s t p x e ∧ K (s.eff none e) := by
  unfold kStore at h
  split at h
  · rename_i d gg sz i k
    obtain ⟨hg, h0, h⟩ := h
    split at h
    · rename_i cs hb
      obtain ⟨vs, h1, h2, h3⟩ := h
      exact ⟨.box d (.cells (writeAt cs (i * sz + k) vs)), by unfold storeE; refine ⟨hg, h0, ?_⟩; rw [hb]; exact ⟨vs, h1, h2, rfl⟩, h3⟩
    · rename_i el xs hb
      obtain ⟨v, y, h1, h2, h3, h4⟩ := h
      exact ⟨.box d (.arr el (xs.set i (setElem y k v.cells))), by unfold storeE; refine ⟨hg, h0, ?_⟩; rw [hb]; exact ⟨v, y, h1, h2, h3, rfl⟩, h4⟩
    · exact h.elim
  · exact h.elim

theorem of_storeE {t : TypeId} {p x : Reg} {K : St → Prop} (h : storeE P s t p x e) (hK : K (s.eff none e)) : kStore P s t p x K := by
  unfold storeE at h
  unfold kStore
  split at h
  · obtain ⟨hg, h0, h⟩ := h
    refine ⟨hg, h0, ?_⟩
    split at h
    · rename_i hx; rw [hx]; obtain ⟨vs, h1, h2, rfl⟩ := h; exact ⟨vs, h1, h2, hK⟩
    · rename_i hx; rw [hx]; obtain ⟨v, y, h1, h2, h3, rfl⟩ := h; exact ⟨v, y, h1, h2, h3, hK⟩
    · exact h.elim
  · exact h.elim

theorem opE_of {K : St → Prop} (h : opD P E o s K) : ∃ e, opE P E o s e ∧ K (s.eff o.dst e) := by
  have dflt : (kValue P o s fun r => K (s.put o.dst r)) → ∃ e, (∃ r, e = .val r ∧ kValue P o s (· = r)) ∧ K (s.eff o.dst e) := fun h => by
    obtain ⟨r, h1, h2⟩ := kValue_fun h
    exact ⟨.val r, ⟨r, rfl, h2⟩, h1⟩
  unfold opD at h
  unfold opE
  cases ho : o.op
  case assign => simp only [ho] at h ⊢; exact ⟨_, rfl, h⟩
  case alloc =>
    simp only [ho] at h ⊢
    obtain ⟨d, hd, z, hz, hb, hK⟩ := h
    exact ⟨_, ⟨d, hd, z, hz, hb, rfl⟩, by rw [hd]; exact hK⟩
  case box =>
    simp only [ho] at h ⊢
    obtain ⟨d, hd, z, hz, hb, hK⟩ := h
    exact ⟨_, ⟨d, hd, z, hz, hb, rfl⟩, by rw [hd]; exact hK⟩
  case store =>
    simp only [ho] at h ⊢
    obtain ⟨hd, h⟩ := h
    obtain ⟨e, h1, h2⟩ := storeE_of h
    exact ⟨e, ⟨hd, h1⟩, by rw [hd]; exact h2⟩
  case call c =>
    obtain ⟨callee, args, types⟩ := c
    cases callee
    case builtin =>
      simp only [ho] at h ⊢
      obtain ⟨rfl, h⟩ := h
      unfold kBuiltin at h
      split at h
      · rename_i hxs hts
        obtain ⟨m, h1, h2, h3⟩ := h
        exact ⟨.val (.val (.fl (.int .i64 m))), ⟨rfl, by unfold lenE; rw [hxs, hts]; exact ⟨m, h1, h2, rfl⟩⟩, h3⟩
      · rename_i hq _ _; cases hq
      · rename_i hq _ _; cases hq
      · exact h.elim
    case value =>
      simp only [ho] at h ⊢
      obtain ⟨f, caps, h1, xs, h2, rs, h3, ys, h4, h5⟩ := h
      exact ⟨_, ⟨f, caps, h1, xs, h2, rs, h3, ys, h4, rfl⟩, h5⟩
    all_goals (simp only [ho] at h ⊢; exact dflt h)
  all_goals (simp only [ho] at h ⊢; exact dflt h)

theorem kLoad_mono {t : TypeId} {r : Reg} {K K' : Reg → Prop} (hk : ∀ y, K y → K' y) (h : kLoad P s t r K) : kLoad P s t r K' := by
  unfold kLoad at h ⊢
  split at h
  · exact loadAV_mono (fun _ hy => hk _ hy) h
  · obtain ⟨hg, h⟩ := h
    refine ⟨hg, ?_⟩
    split at h
    · exact loadRegs_mono hk h
    · obtain ⟨q1, z, q2, q3⟩ := h; exact ⟨q1, z, q2, loadAV_mono (fun _ hy => hk _ hy) q3⟩
    · exact h
  · exact h

theorem kValue_mono {K K' : Reg → Prop} (hk : ∀ y, K y → K' y) (h : kValue P o s K) : kValue P o s K' := by
  unfold kValue at h ⊢
  cases ho : o.op <;> simp only [ho] at h ⊢
  case move x => exact hk _ h
  case pick c x y => obtain ⟨b, h1, h2⟩ := h; exact ⟨b, h1, hk _ h2⟩
  case load t x => exact kLoad_mono hk h
  case fieldAddr t x f =>
    unfold kFieldAddr at h ⊢
    obtain ⟨off, ft, h1, h2⟩ := h
    refine ⟨off, ft, h1, ?_⟩
    split at h2
    · exact hk _ h2
    · exact ⟨h2.1, hk _ h2.2⟩
    · exact h2
  case indexAddr t x y =>
    unfold kIndexAddr at h ⊢
    obtain ⟨e, h1, h2, h3⟩ := h
    refine ⟨e, h1, h2, ?_⟩
    split at h3
    · obtain ⟨h4, h5⟩ := h3
      refine ⟨h4, ?_⟩
      split at h5
      · obtain ⟨z, q1, q2, q3⟩ := h5; exact ⟨z, q1, q2, hk _ q3⟩
      · obtain ⟨z, q1, q2, q3⟩ := h5; exact ⟨z, q1, q2, hk _ q3⟩
      · obtain ⟨q1, q2, q3, q4⟩ := h5; exact ⟨q1, q2, q3, hk _ q4⟩
      · exact h5
    · exact h3
  case extract x k => obtain ⟨rs, r, h1, h2, h3⟩ := h; exact ⟨rs, r, h1, h2, hk _ h3⟩
  case field t x f =>
    obtain ⟨off, ft, h1, cs, h2, h3⟩ := h
    exact ⟨off, ft, h1, cs, h2, loadAV_mono (fun _ hy => hk _ hy) h3⟩
  case makeFunc fn first caps =>
    cases fn <;> simp only at h ⊢
    obtain ⟨h0, xs, h1, h2⟩ := h
    exact ⟨h0, xs, h1, hk _ h2⟩
  case makeInterface t x => obtain ⟨v, h1, h2, h3⟩ := h; exact ⟨v, h1, h2, hk _ h3⟩
  case build t parts => obtain ⟨pl, h1, z, h2, ps, h3, h4, h5⟩ := h; exact ⟨pl, h1, z, h2, ps, h3, h4, hk _ h5⟩
  case slice t x lo hi mx =>
    have sl : ∀ xs, kSliceSl P s t xs lo hi mx K → kSliceSl P s t xs lo hi mx K' := by
      rintro xs ⟨e, h1, l, q, h2, h3, h4, h5⟩
      refine ⟨e, h1, l, q, h2, h3, h4, ?_⟩
      cases mx with
      | none => exact hk _ h5
      | some z => obtain ⟨p1, p2, p3⟩ := h5; exact ⟨p1, p2, hk _ p3⟩
    unfold kSlice at h ⊢
    split at h
    · exact sl _ h
    · exact sl _ h
    · obtain ⟨h0, e, h1, h2, h3, l, q, h4, h5, h6, h7⟩ := h
      exact ⟨h0, e, h1, h2, h3, l, q, h4, h5, h6, hk _ h7⟩
    · obtain ⟨h0, h1, xs, h2, l, q, h3, h4, h5, h6⟩ := h
      exact ⟨h0, h1, xs, h2, l, q, h3, h4, h5, hk _ h6⟩
  case index t x y => obtain ⟨h1, l, h2, k, m, h3, h4, c, h5, h6⟩ := h; exact ⟨h1, l, h2, k, m, h3, h4, c, h5, hk _ h6⟩
  case binOp op t x y t' =>
    unfold kBin at h ⊢
    split at h
    · obtain ⟨h1, v, h2, h3⟩ := h; exact ⟨h1, v, h2, hk _ h3⟩
    · exact ⟨h.1, hk _ h.2⟩
    · rcases h with ⟨p, q, h1, h2, v, h3, h4⟩ | ⟨v, h1, h2, h3⟩
      · exact .inl ⟨p, q, h1, h2, v, h3, hk _ h4⟩
      · exact .inr ⟨v, h1, h2, hk _ h3⟩
  case unOp op t x =>
    cases op <;> simp only at h ⊢
    · obtain ⟨k, p, h1, h2⟩ := h; exact ⟨k, p, h1, hk _ h2⟩
    · obtain ⟨p, h1, h2⟩ := h; exact ⟨p, h1, hk _ h2⟩
  case convert t t' x => obtain ⟨v, h1, h2, h3⟩ := h; exact ⟨v, h1, h2, hk _ h3⟩

theorem of_opE {K : St → Prop} (h : opE P E o s e) (hK : K (s.eff o.dst e)) : opD P E o s K := by
  have dflt : (∃ r, e = .val r ∧ kValue P o s (· = r)) → kValue P o s fun r => K (s.put o.dst r) := by
    rintro ⟨r, rfl, h'⟩
    exact kValue_mono (fun y (hy : y = r) => by subst hy; exact hK) h'
  unfold opE at h
  unfold opD
  cases ho : o.op
  case assign => simp only [ho] at h ⊢; subst h; exact hK
  case alloc =>
    simp only [ho] at h ⊢
    obtain ⟨d, hd, z, hz, hb, rfl⟩ := h
    exact ⟨d, hd, z, hz, hb, by rw [hd] at hK; exact hK⟩
  case box =>
    simp only [ho] at h ⊢
    obtain ⟨d, hd, z, hz, hb, rfl⟩ := h
    exact ⟨d, hd, z, hz, hb, by rw [hd] at hK; exact hK⟩
  case store =>
    simp only [ho] at h ⊢
    obtain ⟨hd, h⟩ := h
    exact ⟨hd, of_storeE h (by rw [hd] at hK; exact hK)⟩
  case call c =>
    obtain ⟨callee, args, types⟩ := c
    cases callee
    case builtin =>
      simp only [ho] at h ⊢
      obtain ⟨rfl, h⟩ := h
      refine ⟨rfl, ?_⟩
      unfold lenE at h
      split at h
      · rename_i hxs hts
        obtain ⟨m, h1, h2, rfl⟩ := h
        unfold kBuiltin
        rw [hxs, hts]
        exact ⟨m, h1, h2, hK⟩
      · exact h.elim
    case value =>
      simp only [ho] at h ⊢
      obtain ⟨f, caps, h1, xs, h2, rs, h3, ys, h4, rfl⟩ := h
      exact ⟨f, caps, h1, xs, h2, rs, h3, ys, h4, hK⟩
    all_goals (simp only [ho] at h ⊢; exact dflt h)
  all_goals (simp only [ho] at h ⊢; exact dflt h)

/-- what an outcome does to memory, by the operation's kind -/
theorem opE_shape (h : opE P E o s e) : (memOf o.op = .pure ∨ memOf o.op = .read) ∧ (∃ r, e = .val r) ∨ memOf o.op = .alloc ∧ (∃ d cs, o.dst = some d ∧ s.b d = none ∧ e = .cells cs) ∨ memOf o.op = .write ∧ ∃ d x, s.b d ≠ none ∧ e = .box d x := by
  unfold opE at h
  split at h
  · rename_i ho; exact .inl ⟨.inl (by rw [ho]; rfl), _, h⟩
  · rename_i ho
    obtain ⟨d, hd, z, hz, hb, rfl⟩ := h
    exact .inr (.inl ⟨by rw [ho]; rfl, d, _, hd, hb, rfl⟩)
  · rename_i ho
    obtain ⟨d, hd, z, hz, hb, rfl⟩ := h
    exact .inr (.inl ⟨by rw [ho]; rfl, d, _, hd, hb, rfl⟩)
  · rename_i ho
    obtain ⟨hd, h⟩ := h
    refine .inr (.inr ⟨by rw [ho]; rfl, ?_⟩)
    unfold storeE at h
    split at h
    · obtain ⟨hg, h0, h⟩ := h
      split at h
      · rename_i hb; obtain ⟨vs, _, _, rfl⟩ := h; exact ⟨_, _, by rw [hb]; simp, rfl⟩
      · rename_i hb; obtain ⟨v, y, _, _, _, rfl⟩ := h; exact ⟨_, _, by rw [hb]; simp, rfl⟩
      · exact h.elim
    · exact h.elim
  · rename_i ho
    obtain ⟨rfl, h⟩ := h
    unfold lenE at h
    split at h
    · obtain ⟨m, _, _, rfl⟩ := h
      exact .inl ⟨.inr (by rw [ho]; rfl), _, rfl⟩
    · exact h.elim
  · rename_i ho
    obtain ⟨f, caps, h1, xs, h2, rs, h3, ys, h4, rfl⟩ := h
    exact .inl ⟨.inl (by rw [ho]; rfl), _, rfl⟩
  · obtain ⟨r, rfl, h⟩ := h
    refine .inl ⟨?_, _, rfl⟩
    unfold kValue at h
    cases ho : o.op <;> simp only [ho] at h <;> first
      | exact .inl rfl
      | exact .inr rfl
      | exact h.elim

theorem lenOfReg_ext (hb : Boxed s s') {r : Reg} {m : Nat} (h : lenOfReg s r = some m) : lenOfReg s' r = some m := by
  unfold lenOfReg at h ⊢
  split at h <;> try exact h
  rename_i d gg off len
  split at h
  · rename_i el xs hx
    obtain ⟨e1, e2⟩ := hb d (by rw [hx]; simp)
    rw [e1, hx, e2]
    exact h
  · cases h

theorem calleeOf_ext {x : Operand} (h : s'.ev x = s.ev x) : calleeOf s' x = calleeOf s x := by unfold calleeOf; rw [h]

theorem storeE_ext (hb : Boxed s s') {t : TypeId} {p x : Reg} (h : storeE P s t p x e) : storeE P s' t p x e := by
  unfold storeE at h ⊢
  split at h
  · rename_i d gg sz i k
    obtain ⟨hg, h0, h⟩ := h
    split at h
    · rename_i cs hx
      obtain ⟨e1, e2⟩ := hb d (by rw [hx]; simp)
      refine ⟨by rw [e2]; exact hg, h0, ?_⟩
      rw [e1, hx]
      obtain ⟨vs, h1, ⟨h2, h3⟩, h4⟩ := h
      refine ⟨vs, h1, ⟨?_, h3⟩, h4⟩
      unfold alive at h2 ⊢
      split at h2
      · obtain ⟨f1, f2⟩ := hb _ h2.2; exact ⟨by rw [f2]; exact h2.1, by rw [f1]; exact h2.2⟩
      · obtain ⟨q1, el, xs, q2⟩ := h2
        obtain ⟨f1, f2⟩ := hb _ (by rw [q2]; simp)
        exact ⟨by rw [f2]; exact q1, el, xs, by rw [f1]; exact q2⟩
      · trivial
    · rename_i el xs hx
      obtain ⟨e1, e2⟩ := hb d (by rw [hx]; simp)
      refine ⟨by rw [e2]; exact hg, h0, ?_⟩
      rw [e1, hx]
      exact h
    · exact h.elim
  · exact h.elim

theorem opE_ext (hev : ∀ x ∈ o.op.operands, s'.ev x = s.ev x) (hb : memOf o.op = .pure ∨ memOf o.op = .alloc ∨ Boxed s s') (ha : memOf o.op = .alloc → ∀ d, o.dst = some d → s.b d = none → s'.b d = none) (h : opE P E o s e) : opE P E o s' e := by
  unfold opE at h ⊢
  split at h
  · rename_i ho; simp only [ho, Op.operands] at hev; rw [hev _ (by simp)]; exact h
  · rename_i ho
    obtain ⟨d, hd, z, hz, hb, rfl⟩ := h
    exact ⟨d, hd, z, hz, ha (by rw [ho]; rfl) d hd hb, rfl⟩
  · rename_i ho
    obtain ⟨d, hd, z, hz, hb, rfl⟩ := h
    simp only [ho, Op.operands] at hev; rw [hev _ (by simp)]
    exact ⟨d, hd, z, hz, ha (by rw [ho]; rfl) d hd hb, rfl⟩
  · rename_i ho
    simp only [ho, memOf, reduceCtorEq, false_or] at hb
    simp only [ho, Op.operands] at hev; rw [hev _ (by simp), hev _ (by simp)]
    exact ⟨h.1, storeE_ext hb h.2⟩
  · rename_i b args types ho
    obtain ⟨rfl, h⟩ := h
    simp only [ho, memOf, reduceCtorEq, false_or] at hb
    refine ⟨rfl, ?_⟩
    unfold lenE at h ⊢
    split at h
    · rename_i x t hxs hts
      have hx : x ∈ o.op.operands := by
        have := list1 hxs
        subst this
        simp [ho, Op.operands, Call.operands]
      obtain ⟨m, h1, h2, h3⟩ := h
      rw [hev x hx]
      exact ⟨m, lenOfReg_ext hb h1, h2, h3⟩
    · exact h.elim
  · rename_i x args types ho
    obtain ⟨f, caps, h1, xs, h2, h3⟩ := h
    simp only [ho, Op.operands, Call.operands] at hev
    exact ⟨f, caps, by rw [calleeOf_ext (hev x (by simp))]; exact h1, xs, by rw [regAVsOf_ext fun y hy => hev y (by simp; exact .inr (by simpa using hy))]; exact h2, h3⟩
  · rename_i h1 h2 h3 h4 h5 h6
    obtain ⟨r, rfl, h⟩ := h
    refine ⟨r, rfl, kValue_ext hev ?_ h⟩
    rcases hb with hb | hb | hb
    · exact .inl hb
    · cases ho : o.op <;> simp only [ho, memOf, reduceCtorEq] at hb
      · exact (h2 _ ho).elim
      · exact (h3 _ _ ho).elim
      · rename_i c
        obtain ⟨callee, args, types⟩ := c
        split at hb <;> first
          | (rename_i heq; cases heq; done)
          | cases hb
    · exact .inr hb

end
end Go.Ev
