import Derived.Test.YtoelfoplajpgnaaEvFunc
set_option linter.unusedVariables false
set_option linter.unusedSimpArgs false
set_option linter.unusedSectionVars false

namespace Go.Ev
open Go

/-! ### Regions that draw their order -/

inductive Waits (ops : Array Oper) : Nat → Nat → Prop
  | edge (k : Nat) (o : Oper) (e : Edge) (h : ops[k]? = some o) (he : e ∈ o.after) (hb : Region.binds .any e = true) : Waits ops k e.on
  | trans (k : Nat) (o : Oper) (e : Edge) (i : Nat) (h : ops[k]? = some o) (he : e ∈ o.after) (hb : Region.binds .any e = true) (h2 : Waits ops e.on i) : Waits ops k i

theorem mask_after {ops : Array Oper} {k : Nat} {o : Oper} (ho : ops[k]? = some o) (acc : Array Nat) (hacc : ∀ (q i : Nat), (acc.getD q 0).testBit i = true → Waits ops q i) : ∀ (l : List Edge) (m : Nat), (∀ e ∈ l, e ∈ o.after) → (∀ i, m.testBit i = true → Waits ops k i) →
    ∀ i, (l.foldl (fun s e => if Region.binds .any e then s ||| 2 ^ e.on ||| acc.getD e.on 0 else s) m).testBit i = true → Waits ops k i
  | [], m, _, hm, i, h => hm i h
  | e :: l, m, hl, hm, i, h => by
    simp only [List.foldl_cons] at h
    refine mask_after ho acc hacc l _ (fun e' he' => hl e' (by simp [he'])) (fun i' hi' => ?_) i h
    split at hi'
    · rename_i hb
      simp only [Nat.testBit_or, Bool.or_eq_true] at hi'
      rcases hi' with (hi' | hi') | hi'
      · exact hm i' hi'
      · have : i' = e.on := by
          rw [Nat.testBit_two_pow] at hi'
          simpa using (of_decide_eq_true hi').symm
        subst this
        exact .edge k o e ho (hl e (by simp)) hb
      · exact .trans k o e i' ho (hl e (by simp)) hb (hacc _ _ hi')
    · exact hm i' hi'

theorem before_waits {ops : Array Oper} {k i : Nat} (h : ((Region.before ops).getD k 0).testBit i = true) : Waits ops k i := by
  have key : ∀ (l : List Oper) (acc : Array Nat), (∀ j, l[j]? = ops[acc.size + j]?) → (∀ (q i : Nat), (acc.getD q 0).testBit i = true → Waits ops q i) →
      ∀ (q i : Nat), ((l.foldl (fun acc (o : Oper) => acc.push (o.after.foldl (fun s e => if Region.binds .any e then s ||| 2 ^ e.on ||| acc.getD e.on 0 else s) 0)) acc).getD q 0).testBit i = true → Waits ops q i := by
    intro l
    induction l with
    | nil => intro acc _ hacc q i h; exact hacc q i h
    | cons o l ih =>
      intro acc hl hacc q i h
      simp only [List.foldl_cons] at h
      refine ih _ (fun j => by have := hl (j + 1); simpa [Nat.add_assoc, Nat.add_comm 1] using this) (fun q i h => ?_) q i h
      by_cases hq : q < acc.size
      · have : (acc.push (o.after.foldl (fun s e => if Region.binds .any e then s ||| 2 ^ e.on ||| acc.getD e.on 0 else s) 0)).getD q 0 = acc.getD q 0 := by
          simp only [Array.getD_eq_getD_getElem?, Array.getElem?_push, if_neg (Nat.ne_of_lt hq)]
        rw [this] at h
        exact hacc q i h
      · by_cases hq2 : q = acc.size
        · subst hq2
          have ho : ops[acc.size]? = some o := by simpa using (hl 0).symm
          have : (acc.push (o.after.foldl (fun s e => if Region.binds .any e then s ||| 2 ^ e.on ||| acc.getD e.on 0 else s) 0)).getD acc.size 0 = o.after.foldl (fun s e => if Region.binds .any e then s ||| 2 ^ e.on ||| acc.getD e.on 0 else s) 0 := by
            simp [Array.getD_eq_getD_getElem?]
          rw [this, ← Array.foldl_toList] at h
          exact mask_after ho acc hacc o.after.toList 0 (fun e he => by simpa using he) (fun i h => by simp at h) i h
        · have : (acc.push (o.after.foldl (fun s e => if Region.binds .any e then s ||| 2 ^ e.on ||| acc.getD e.on 0 else s) 0)).getD q 0 = 0 := by
            simp only [Array.getD_eq_getD_getElem?]
            rw [Array.getElem?_eq_none (by simp; omega)]
            rfl
          rw [this] at h
          simp at h
  unfold Region.before at h
  rw [← Array.foldl_toList] at h
  exact key ops.toList #[] (fun j => by simp) (fun q i h => by simp at h) k i h

/-- what of memory an operation touches -/
inductive Mem where
  | pure | read | alloc | write | other
  deriving DecidableEq

def memOf : Op → Mem
  | .move _ | .assign _ | .pick .. | .extract .. | .binOp .. | .unOp .. | .convert .. | .makeInterface .. | .makeFunc .. | .build .. | .field .. | .index .. => .pure
  | .load .. | .fieldAddr .. | .indexAddr .. | .slice .. => .read
  | .call { callee := .builtin .len, .. } => .read
  | .call { callee := .value _, .. } => .pure
  | .alloc _ | .box .. => .alloc
  | .store .. => .write
  | _ => .other

/-- may the second one be carried out ahead of the first one? -/
def memApart : Mem → Mem → Bool
  | .other, _ | _, .other => false
  | .pure, _ | _, .pure => true
  | .read, .read | .read, .alloc | .alloc, .alloc | .write, .alloc => true
  | _, _ => false

/-- the look at a region that draws its order -/
def drawOk (ops : Array Oper) : Bool :=
  let b := Region.before ops
  (List.range ops.size).all fun k => match ops[k]? with
    | some ok => (ok.after.all fun e => !Region.binds .any e || decide (e.on < k)) && memOf ok.op != .other && (match ok.op with | .select .. => false | _ => true) &&
      (List.range k).all fun i => match ops[i]? with
        | some oi => (b.getD k 0).testBit i || (oi.apart ops ok && memApart (memOf oi.op) (memOf ok.op))
        | none => true
    | none => true


/-! ### The operations, whatever comes first -/

def boxCells : Reg → Option (List Reg)
  | .val v => some (v.cells.map .val)
  | .full xs => some [.full xs]
  | _ => none

def plainRVs : List RV → Option (List AV)
  | [] => some []
  | .v x :: rs => (plainRVs rs).map (x :: ·)
  | .own _ _ :: _ => none
def retReg : List AV → Reg
  | [x] => .val x
  | xs => .tup (xs.map .val)

/-- as 'opK', of those that may be carried out in another order -/
def opD (P : Program) (E : Env) (o : Oper) (s : St) (K : St → Prop) : Prop :=
  match o.op with
  | .assign x => K (s.put o.dst (s.ev x))
  | .alloc t => ∃ d, o.dst = some d ∧ ∃ z, zeroOf P t = some z ∧ s.b d = none ∧ K (s.newCells d (z.cells.map avReg))
  | .box t x => ∃ d, o.dst = some d ∧ ∃ cs, boxCells (s.ev x) = some cs ∧ s.b d = none ∧ K (s.newCells d cs)
  | .store t p x => o.dst = none ∧ kStore P s t (s.ev p) (s.ev x) K
  | .call { callee := .builtin b, args, argTypes } => b = .len ∧ kBuiltin P o s .len args.toList argTypes.toList K
  | .call { callee := .value x, args, argTypes } => ∃ f caps, calleeOf s x = some (f, caps) ∧ ∃ xs, regAVsOf s args.toList = some xs ∧ ∃ rs, Does P E f (xs ++ caps) (.ret rs) ∧ ∃ ys, plainRVs rs = some ys ∧ K (s.put o.dst (retReg ys))
  | _ => kValue P o s fun r => K (s.put o.dst r)

theorem takeRVs_plain (d : Nat) : ∀ (rs : List RV) (j : Nat) (s : St) (ys : List AV), plainRVs rs = some ys → s.takeRVs d j rs = (ys.map .val, s)
  | [], j, s, ys, h => by simp [plainRVs] at h; subst h; rfl
  | .v x :: rs, j, s, ys, h => by
    simp only [plainRVs, Option.map_eq_some_iff] at h
    obtain ⟨ys', h1, rfl⟩ := h
    have ih := takeRVs_plain d rs (j + 1) s ys' h1
    simp [St.takeRVs, St.takeRV, ih]
  | .own _ _ :: rs, j, s, ys, h => by simp [plainRVs] at h

theorem take_plain {rs : List RV} {ys : List AV} (h : plainRVs rs = some ys) (s : St) (dst : Option Nat) : s.take dst rs = s.put dst (retReg ys) := by
  match rs, h with
  | [], h =>
    simp [plainRVs] at h; subst h
    cases dst <;> simp [St.take, St.takeRVs, retReg]
  | [.v x], h =>
    simp [plainRVs] at h; subst h
    cases dst <;> simp [St.take, St.takeRV, retReg]
  | [.own e xs], h => simp [plainRVs] at h
  | r1 :: r2 :: rs, h =>
    cases dst with
    | none => simp [St.take]
    | some d =>
      have := takeRVs_plain d (r1 :: r2 :: rs) 0 s ys h
      simp only [St.take, this]
      have hl : ∃ a b c, ys = a :: b :: c := by
        cases r1 with
        | own e xs => simp [plainRVs] at h
        | v x =>
          cases r2 with
          | own e xs => simp [plainRVs] at h
          | v y =>
            simp only [plainRVs, Option.map_eq_some_iff] at h
            obtain ⟨q, ⟨q2, _, rfl⟩, rfl⟩ := h
            exact ⟨_, _, _, rfl⟩
      obtain ⟨a, b, c, rfl⟩ := hl
      rfl

section
variable {P : Program} {E : Env} {w0 : World} {I0 : Cells} {n : Nat} {o : Oper} {s : St}

/-- what may be done in any order may be done -/
theorem opK_of_opD {K : St → Prop} {X : AV → Prop} (h : opD P E o s K) (hv : ∀ x, o.op ≠ .assign x) : opK P E o s K X := by
  unfold opD at h
  unfold opK
  split at h
  · rename_i x ho; exact absurd ho (hv x)
  · rename_i t ho
    simp only [ho]
    obtain ⟨d, hd, z, hz, _, hK⟩ := h
    exact ⟨d, hd, z, hz, hK⟩
  · rename_i t x ho
    simp only [ho]
    obtain ⟨d, hd, cs, hc, _, hK⟩ := h
    cases hr : s.ev x <;> rw [hr] at hc <;> simp only [boxCells, reduceCtorEq, Option.some.injEq] at hc
    · subst hc; exact ⟨d, hd, _, rfl, trivial, hK⟩
    · subst hc; exact ⟨d, hd, _, rfl, trivial, hK⟩
  · rename_i t p x ho; simp only [ho]; exact h
  · rename_i b args types ho
    simp only [ho]
    obtain ⟨rfl, h⟩ := h
    exact h
  · rename_i x args types ho
    simp only [ho]
    obtain ⟨f, caps, h1, xs, h2, rs, h3, ys, h4, h5⟩ := h
    exact .inl ⟨f, caps, h1, xs, h2, .ret rs, h3, by simp only [outK]; rw [take_plain h4]; exact h5⟩
  · rename_i h1 h2 h3 h4 h5 h6
    cases ho : o.op <;> first
      | exact h
      | exact .inr h
      | exact absurd ho (hv _)
      | exact (h2 _ ho).elim
      | exact (h3 _ _ ho).elim
      | exact (h4 _ _ _ ho).elim
      | (rename_i c
         obtain ⟨callee, args, types⟩ := c
         cases callee
         · exact (h6 _ _ _ ho).elim
         · simp [kValue, ho] at h
         · exact (h5 _ _ _ ho).elim)
      | (simp [kValue, ho] at h)

theorem opD_sound (hok : okOper n o = true) {K : St → Prop} (h : opD P E o s K) : SoundX P E w0 I0 n o s K (fun _ => False) := by
  by_cases hv : ∃ x, o.op = .assign x
  · obtain ⟨x, ho⟩ := hv
    have h' : K (s.put o.dst (s.ev x)) := by unfold opD at h; simpa only [ho] using h
    exact (sound_value _ h' (yield_assign ho hok)).x _
  · exact opK_sound hok (opK_of_opD h (fun x hx => hv ⟨x, hx⟩))

/-! ### Outcomes -/

theorem loadAV_mono {t : TypeId} {cs : List AV} {K K' : AV → Prop} (hk : ∀ y, K y → K' y) (h : loadAV P t cs K) : loadAV P t cs K' := by
  obtain ⟨h1, h2, h3⟩ := h
  refine ⟨h1, h2, ?_⟩
  split at h3
  · exact hk _ h3
  · exact hk _ h3
  · exact h3

theorem loadRegs_mono {t : TypeId} {cs : List Reg} {K K' : Reg → Prop} (hk : ∀ y, K y → K' y) (h : loadRegs P t cs K) : loadRegs P t cs K' := by
  obtain ⟨h1, h2, h3⟩ := h
  refine ⟨h1, h2, ?_⟩
  split at h3
  · obtain ⟨xs, q1, q2⟩ := h3; exact ⟨xs, q1, hk _ q2⟩
  · exact hk _ h3
  · exact h3

theorem loadAV_val {t : TypeId} {cs : List AV} {K : Reg → Prop} (h : loadAV P t cs fun v => K (.val v)) : ∃ r, K r ∧ loadAV P t cs fun v => Reg.val v = r := by
  obtain ⟨y, h1, h2⟩ := loadAV_fun h
  exact ⟨_, h1, loadAV_mono (fun z hz => by rw [hz]) h2⟩

theorem kLoad_fun {t : TypeId} {r : Reg} {K : Reg → Prop} (h : kLoad P s t r K) : ∃ y, K y ∧ kLoad P s t r (· = y) := by
  unfold kLoad at h ⊢
  split at h
  · exact loadAV_val h
  · obtain ⟨hg, h⟩ := h
    split at h
    · rename_i cs hb
      obtain ⟨y, h1, h2⟩ := loadRegs_fun h
      exact ⟨y, h1, hg, h2⟩
    · rename_i e xs hb
      obtain ⟨q1, z, q2, q3⟩ := h
      obtain ⟨y, h1, h2⟩ := loadAV_val q3
      exact ⟨_, h1, hg, q1, z, q2, h2⟩
    · exact h.elim
  · exact h.elim

theorem kBin_else {op : BinOp} {t : TypeId} {x y : Reg} {K : Reg → Prop} {G : Prop} (h1 : ∀ k p k' q, x = .val (.fl (.int k p)) → y = .val (.fl (.int k' q)) → False) (h2 : ∀ p q, x = .val (.fl (.bool p)) → y = .val (.fl (.bool q)) → False) (h : G) : kBin P op t x y K G := by
  unfold kBin
  split
  · exact (h1 _ _ _ _ rfl rfl).elim
  · exact (h2 _ _ rfl rfl).elim
  · exact h

theorem kValue_fun {K : Reg → Prop} (h : kValue P o s K) : ∃ r, K r ∧ kValue P o s (· = r) := by
  unfold kValue at h ⊢
  cases ho : o.op <;> simp only [ho] at h ⊢
  case move x => exact ⟨_, h, rfl⟩
  case pick c x y => obtain ⟨b, h1, h2⟩ := h; exact ⟨_, h2, b, h1, rfl⟩
  case load t x => exact kLoad_fun h
  case fieldAddr t x f =>
    unfold kFieldAddr at h ⊢
    obtain ⟨off, ft, h1, h2⟩ := h
    split at h2
    · exact ⟨_, h2, off, ft, h1, rfl⟩
    · exact ⟨_, h2.2, off, ft, h1, h2.1, rfl⟩
    · exact h2.elim
  case indexAddr t x y =>
    unfold kIndexAddr at h ⊢
    obtain ⟨e, h1, h2, h3⟩ := h
    split at h3
    · obtain ⟨h4, h5⟩ := h3
      split at h5
      · obtain ⟨z, q1, q2, q3⟩ := h5; exact ⟨_, q3, e, h1, h2, h4, z, q1, q2, rfl⟩
      · obtain ⟨z, q1, q2, q3⟩ := h5; exact ⟨_, q3, e, h1, h2, h4, z, q1, q2, rfl⟩
      · obtain ⟨q1, q2, q3, q4⟩ := h5; exact ⟨_, q4, e, h1, h2, h4, q1, q2, q3, rfl⟩
      · exact h5.elim
    · exact h3.elim
  case extract x k => obtain ⟨rs, r, h1, h2, h3⟩ := h; exact ⟨_, h3, rs, r, h1, h2, rfl⟩
  case field t x f =>
    obtain ⟨off, ft, h1, cs, h2, h3⟩ := h
    obtain ⟨y, h4, h5⟩ := loadAV_val h3
    exact ⟨_, h4, off, ft, h1, cs, h2, h5⟩
  case makeFunc fn first caps =>
    cases fn <;> simp only at h ⊢
    obtain ⟨h0, xs, h1, h2⟩ := h
    exact ⟨_, h2, h0, xs, h1, rfl⟩
  case makeInterface t x => obtain ⟨v, h1, h2, h3⟩ := h; exact ⟨_, h3, v, h1, h2, rfl⟩
  case build t parts => obtain ⟨pl, h1, z, h2, ps, h3, h4, h5⟩ := h; exact ⟨_, h5, pl, h1, z, h2, ps, h3, h4, rfl⟩
  case slice t x lo hi mx =>
    have sl : ∀ xs, kSliceSl P s t xs lo hi mx K → ∃ r, K r ∧ kSliceSl P s t xs lo hi mx (· = r) := by
      rintro xs ⟨e, h1, l, q, h2, h3, h4, h5⟩
      cases mx with
      | none => exact ⟨_, h5, e, h1, l, q, h2, h3, h4, rfl⟩
      | some z => obtain ⟨p1, p2, p3⟩ := h5; exact ⟨_, p3, e, h1, l, q, h2, h3, h4, p1, p2, rfl⟩
    unfold kSlice at h ⊢
    split at h
    · exact sl _ h
    · exact sl _ h
    · obtain ⟨h0, e, h1, h2, h3, l, q, h4, h5, h6, h7⟩ := h
      exact ⟨_, h7, h0, e, h1, h2, h3, l, q, h4, h5, h6, rfl⟩
    · rename_i hn1 hn2 hn3
      obtain ⟨h0, h1, xs, h2, l, q, h3, h4, h5, h6⟩ := h
      refine ⟨_, h6, ?_⟩
      simp only [h2]
      exact ⟨h0, h1, xs, rfl, l, q, h3, h4, h5, rfl⟩
  case index t x y => obtain ⟨h1, l, h2, k, m, h3, h4, c, h5, h6⟩ := h; exact ⟨_, h6, h1, l, h2, k, m, h3, h4, c, h5, rfl⟩
  case binOp op t x y t' =>
    unfold kBin at h ⊢
    split at h
    · obtain ⟨h1, v, h2, h3⟩ := h; exact ⟨_, h3, h1, v, h2, rfl⟩
    · exact ⟨_, h.2, h.1, rfl⟩
    · rename_i hn1 hn2
      have flat : ∃ r, K r ∧ ((∃ p q, s.ev x = .val (.fl (bs p)) ∧ s.ev y = .val (.fl (bs q)) ∧ ∃ v, strBin op p q = some v ∧ Reg.val (.fl v) = r) ∨ kFlat P o s (· = r)) := by
        rcases h with ⟨p, q, h1, h2, v, h3, h4⟩ | ⟨v, h1, h2, h3⟩
        · exact ⟨_, h4, .inl ⟨p, q, h1, h2, v, h3, rfl⟩⟩
        · exact ⟨_, h3, .inr ⟨v, h1, h2, rfl⟩⟩
      obtain ⟨r, q1, q2⟩ := flat
      exact ⟨r, q1, q2⟩
  case unOp op t x =>
    cases op <;> simp only at h ⊢
    · obtain ⟨k, p, h1, h2⟩ := h; exact ⟨_, h2, k, p, h1, rfl⟩
    · obtain ⟨p, h1, h2⟩ := h; exact ⟨_, h2, p, h1, rfl⟩
  case convert t t' x => obtain ⟨v, h1, h2, h3⟩ := h; exact ⟨_, h3, v, h1, h2, rfl⟩

end
end Go.Ev
