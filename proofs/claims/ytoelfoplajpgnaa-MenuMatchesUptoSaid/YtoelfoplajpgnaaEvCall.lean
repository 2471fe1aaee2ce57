import Derived.Test.YtoelfoplajpgnaaEvFlat2
set_option linter.unusedVariables false
set_option linter.unusedSimpArgs false
set_option linter.unusedSectionVars false

namespace Go.Ev
open Go

/-- a text -/
abbrev bs (l : List UInt8) : Value := .string ⟨l.toArray⟩

def intBin (op : BinOp) (k : IntKind) (x y : Int) : Option Value :=
  match op with
  | .add => some (.int k (k.wrap (x + y)))
  | .sub => some (.int k (k.wrap (x - y)))
  | .mul => some (.int k (k.wrap (x * y)))
  | .quo => if y = 0 then none else some (.int k (k.wrap (x.tdiv y)))
  | .rem => if y = 0 then none else some (.int k (x.tmod y))
  | .and => some (.int k (k.wrap (BitVec.ofInt k.bits x &&& BitVec.ofInt k.bits y).toNat))
  | .or => some (.int k (k.wrap (BitVec.ofInt k.bits x ||| BitVec.ofInt k.bits y).toNat))
  | .xor => some (.int k (k.wrap (BitVec.ofInt k.bits x ^^^ BitVec.ofInt k.bits y).toNat))
  | .andNot => some (.int k (k.wrap (BitVec.ofInt k.bits x &&& ~~~ BitVec.ofInt k.bits y).toNat))
  | .shl => if y < 0 then none else some (.int k (k.wrap (x * 2 ^ (min y.toNat k.bits))))
  | .shr => if y < 0 then none else some (.int k (x.fdiv (2 ^ (min y.toNat k.bits))))
  | .eql => some (.bool (x == y))
  | .neq => some (.bool (x != y))
  | .lss => some (.bool (decide (x < y)))
  | .leq => some (.bool (decide (x ≤ y)))
  | .gtr => some (.bool (decide (x > y)))
  | .geq => some (.bool (decide (x ≥ y)))

def isShift : BinOp → Bool
  | .shl | .shr => true
  | _ => false

def strBin (op : BinOp) (x y : List UInt8) : Option Value :=
  match op with
  | .add => if x.length + y.length ≤ maxLen then some (bs (x ++ y)) else none
  | .eql => some (.bool (x == y))
  | .neq => some (.bool (x != y))
  | .lss => some (.bool (Op.bytesLess x y))
  | .leq => some (.bool (Op.bytesLess x y || x == y))
  | .gtr => some (.bool (!(Op.bytesLess x y || x == y)))
  | .geq => some (.bool (!Op.bytesLess x y))
  | _ => none

section
variable {P : Program} {E : Env} {w0 : World} {I0 : Cells} {n : Nat} {o : Oper} {s : St} {K : St → Prop} {a : Act} {w : World} {I : Cells} {be : Nat → Option Nat} {b : Nat → Option Bx} {g : Nat → Nat}

theorem run_eqGuard_int {op : BinOp} {t : TypeId} {x y : Operand} {k k' : IntKind} {p q : Int} : (eqGuard op t x y (.int k p) (.int k' q)).run P w = .ok () w := by
  cases op <;> rfl

theorem run_eqGuard_str {op : BinOp} {t : TypeId} {x y : Operand} {p q : ByteArray} : (eqGuard op t x y (.string p) (.string q)).run P w = .ok () w := by
  cases op <;> rfl

theorem run_eqGuard_bool {op : BinOp} {t : TypeId} {x y : Operand} {p q : Bool} : (eqGuard op t x y (.bool p) (.bool q)).run P w = .ok () w := by
  cases op <;> rfl

theorem run_intBin {op : BinOp} {t : TypeId} {k k' : IntKind} {p q : Int} {v : Value} (hk : k' = k ∨ isShift op = true) (h : intBin op k p q = some v) : (binOp op t (.int k p) (.int k' q)).run P w = .ok v w := by
  cases op <;> simp only [intBin, Option.some.injEq] at h <;>
    first
    | (have hk' : k' = k := hk.resolve_right (by simp [isShift])
       subst hk' h
       simp [binOp, Op.intArith, Op.intBits, Op.intCmp]
       done)
    | (split at h
       · cases h
       · rename_i hq
         injection h with h
         first
         | (have hk' : k' = k := hk.resolve_right (by simp [isShift])
            subst hk' h
            simp [binOp, Op.intDiv, hq]
            done)
         | (subst h
            simp [binOp, Op.shift, hq]
            done))

theorem yield_binOp_int {op : BinOp} {t t' : TypeId} {x y : Operand} (ho : o.op = .binOp op t x y t') (hok : okOper n o = true) {k k' : IntKind} {p q : Int} (hx : s.ev x = .val (.fl (.int k p))) (hy : s.ev y = .val (.fl (.int k' q))) (hk : k' = k ∨ isShift op = true) {v : Value} (hv : intBin op k p q = some v) : Yield P E w0 I0 n o s (.val (.fl v)) :=
  fun a w I be hR => by
    have h1 := okOper_ev hok (x := x) (by simp [ho, Op.operands]) hR
    have h2 := okOper_ev hok (x := y) (by simp [ho, Op.operands]) hR
    rw [hx] at h1
    rw [hy] at h2
    refine ⟨v, ?_, .fl _ ?_⟩
    · simp only [execOp, ho, rep_fl h1, rep_fl h2, Sem.run_bind, run_eqGuard_int, Result.andThen_ok, run_intBin hk hv, Sem.run_pure]
    · cases op <;> simp only [intBin, Option.some.injEq] at hv <;> first
        | (subst hv; rfl)
        | (split at hv
           · cases hv
           · injection hv with hv; subst hv; rfl)

theorem run_strBin {op : BinOp} {t : TypeId} {p q : List UInt8} {v : Value} (h : strBin op p q = some v) : (binOp op t (bs p) (bs q)).run P w = .ok v w := by
  have e : ∀ l : List UInt8, (ByteArray.mk l.toArray).toList = l := fun l => ByteArray.toList_mk l
  have one : ∀ op, (op ≠ .add) → strBin op p q = some v → (binOp op t (bs p) (bs q)).run P w = .ok v w := by
    intro op hne h
    cases op <;> simp only [strBin, Option.some.injEq, reduceCtorEq] at h <;> first
      | (subst h; simp [bs, binOp, Op.stringOp, e]; done)
      | exact absurd rfl hne
      | (subst h; simp only [bs, binOp, Op.stringOp, e, Sem.run_pure]; simp [bne])
  cases op with
  | add =>
    simp only [strBin] at h
    split at h
    · rename_i hl
      injection h with h
      subst h
      have h2 : ¬ (((p.length + q.length : Nat) : Int) > IntKind.i64.max) := by
        simp only [maxLen] at hl
        simp [IntKind.max, IntKind.signed, IntKind.bits]
        omega
      have h3 : (ByteArray.mk p.toArray).size = p.length := by simp [ByteArray.size]
      have h4 : (ByteArray.mk q.toArray).size = q.length := by simp [ByteArray.size]
      have h5 : ByteArray.mk p.toArray ++ ByteArray.mk q.toArray = ByteArray.mk (p ++ q).toArray := by
        apply ByteArray.ext
        simp
      simp only [bs, binOp, Op.stringOp, h3, h4, h2, if_false, Sem.run_pure, h5]
    · cases h
  | _ => exact one _ (by simp) h

theorem strBin_one {op : BinOp} {p q : List UInt8} {v : Value} (h : strBin op p q = some v) : One v := by
  cases op <;> simp only [strBin, Option.some.injEq, reduceCtorEq] at h <;> first
    | (subst h; rfl)
    | (split at h
       · injection h with h; subst h; rfl
       · cases h)

theorem yield_binOp_str {op : BinOp} {t t' : TypeId} {x y : Operand} (ho : o.op = .binOp op t x y t') (hok : okOper n o = true) {p q : List UInt8} (hx : s.ev x = .val (.fl (bs p))) (hy : s.ev y = .val (.fl (bs q))) {v : Value} (hv : strBin op p q = some v) : Yield P E w0 I0 n o s (.val (.fl v)) :=
  fun a w I be hR => by
    have h1 := okOper_ev hok (x := x) (by simp [ho, Op.operands]) hR
    have h2 := okOper_ev hok (x := y) (by simp [ho, Op.operands]) hR
    rw [hx] at h1
    rw [hy] at h2
    refine ⟨v, ?_, .fl _ (strBin_one hv)⟩
    have hr := run_strBin (P := P) (w := w) (t := t) hv
    have hg : (eqGuard op t x y (bs p) (bs q)).run P w = .ok () w := run_eqGuard_str
    simp only [execOp, ho, rep_fl h1, rep_fl h2, Sem.run_bind, hg, Result.andThen_ok, hr, Sem.run_pure]

/-- the values of plain data, by themselves -/
def flOf : AV → Option Value
  | .fl v => some v
  | _ => none
def flatOf : AV → Option Value
  | .fl v => some v
  | .agg cs => (cs.mapM flOf).map fun vs => .agg vs.toArray
  | _ => none
def regFlat : Reg → Option Value
  | .val x => flatOf x
  | .full [] => some (.slice none 0 0)
  | _ => none

theorem flatOf_rep {v u : Value} {x : AV} (h : Rep w I v x) (hx : flatOf x = some u) : v = u := by
  cases h with
  | fl v hv => simpa [flatOf] using hx
  | agg vs cs hl hr =>
    simp only [flatOf, Option.map_eq_some_iff] at hx
    obtain ⟨us, hus, rfl⟩ := hx
    congr 1
    have gen : ∀ (cs : List AV) (us : List Value), cs.mapM flOf = some us → us.length = cs.length ∧ ∀ (j : Nat) (c : AV), cs[j]? = some c → ∃ u, us[j]? = some u ∧ c = .fl u := by
      intro cs
      induction cs with
      | nil => intro us h; simp at h; subst h; simp
      | cons c cs ih =>
        intro us h
        simp only [List.mapM_cons] at h
        cases c with
        | fl v =>
          simp only [flOf, Option.bind_eq_bind, Option.bind_some] at h
          cases hq : cs.mapM flOf with
          | none => simp [hq] at h
          | some us' =>
            simp only [hq, Option.bind_some, Option.pure_def, Option.some.injEq] at h
            subst h
            obtain ⟨h1, h2⟩ := ih us' hq
            refine ⟨by simp [h1], fun j c hj => ?_⟩
            cases j with
            | zero => simp at hj; subst hj; exact ⟨v, rfl, rfl⟩
            | succ j => simpa using h2 j c (by simpa using hj)
        | _ => simp [flOf] at h
    obtain ⟨h1, h2⟩ := gen cs us hus
    apply Array.ext
    · simp; omega
    · intro j hj1 hj2
      have hjc : j < cs.length := by omega
      obtain ⟨u, hu, e⟩ := h2 j cs[j] (List.getElem?_eq_getElem hjc)
      have h3 := hr j cs[j] (List.getElem?_eq_getElem hjc)
      rw [e] at h3
      have h4 := rep_fl h3
      simp only [Array.getD_eq_getD_getElem?, Array.getElem?_eq_getElem hj1, Option.getD_some] at h4
      rw [h4]
      have hju : j < us.length := by omega
      rw [List.getElem?_eq_getElem hju] at hu
      injection hu with hu
      simp [hu]
  | _ => simp [flatOf] at hx

theorem yield_unOp_not {t : TypeId} {x : Operand} (ho : o.op = .unOp .not t x) (hok : okOper n o = true) {p : Bool} (hx : s.ev x = .val (.fl (.bool p))) : Yield P E w0 I0 n o s (.val (.fl (.bool (!p)))) :=
  fun a w I be hR => by
    have h1 := okOper_ev hok (x := x) (by simp [ho, Op.operands]) hR
    rw [hx] at h1
    exact ⟨.bool (!p), by simp [execOp, ho, rep_fl h1, Op.unary], .fl _ rfl⟩

theorem yield_unOp_neg {t : TypeId} {x : Operand} (ho : o.op = .unOp .neg t x) (hok : okOper n o = true) {k : IntKind} {p : Int} (hx : s.ev x = .val (.fl (.int k p))) : Yield P E w0 I0 n o s (.val (.fl (.int k (k.wrap (0 - p))))) :=
  fun a w I be hR => by
    have h1 := okOper_ev hok (x := x) (by simp [ho, Op.operands]) hR
    rw [hx] at h1
    exact ⟨.int k (k.wrap (0 - p)), by simp [execOp, ho, rep_fl h1, Op.unary, Op.intArith], .fl _ rfl⟩

theorem yield_binOp_bool {t t' : TypeId} {x y : Operand} {op : BinOp} (ho : o.op = .binOp op t x y t') (hok : okOper n o = true) (ht : P.underlying t = some .bool) (hop : op = .eql ∨ op = .neq) {p q : Bool} (hx : s.ev x = .val (.fl (.bool p))) (hy : s.ev y = .val (.fl (.bool q))) : Yield P E w0 I0 n o s (.val (.fl (.bool (if op = .eql then p == q else p != q)))) :=
  fun a w I be hR => by
    have h1 := okOper_ev hok (x := x) (by simp [ho, Op.operands]) hR
    have h2 := okOper_ev hok (x := y) (by simp [ho, Op.operands]) hR
    rw [hx] at h1
    rw [hy] at h2
    refine ⟨_, ?_, .fl _ rfl⟩
    have he : (Op.equal t (.bool p) (.bool q)).run P w = .ok (p == q) w := run_equalIn_bool' w 9999 t p q ht
    rcases hop with rfl | rfl
    · have hb : binOp .eql t (.bool p) (.bool q) = (do pure (.bool (← Op.equal t (.bool p) (.bool q)))) := rfl
      simp only [execOp, ho, rep_fl h1, rep_fl h2, Sem.run_bind, run_eqGuard_bool, Result.andThen_ok, hb, he, Sem.run_pure, if_true]
    · have hb : binOp .neq t (.bool p) (.bool q) = (do pure (.bool (!(← Op.equal t (.bool p) (.bool q))))) := rfl
      simp only [execOp, ho, rep_fl h1, rep_fl h2, Sem.run_bind, run_eqGuard_bool, Result.andThen_ok, hb, he, Sem.run_pure]
      rfl

theorem yield_convert_int {t t' : TypeId} {x : Operand} {du : TypeDesc} {k : IntKind} (ho : o.op = .convert t t' x) (hok : okOper n o = true) (ht : P.underlying t = some du) (ht' : P.underlying t' = some (.int k)) {k' : IntKind} {p : Int} (hx : s.ev x = .val (.fl (.int k' p))) : Yield P E w0 I0 n o s (.val (.fl (.int k (k.wrap p)))) :=
  fun a w I be hR => by
    have h1 := okOper_ev hok (x := x) (by simp [ho, Op.operands]) hR
    rw [hx] at h1
    exact ⟨.int k (k.wrap p), by simp [execOp, ho, rep_fl h1, convert, run_underlying ht, run_underlying ht', Conv.intToInt], .fl _ rfl⟩

theorem yield_index_str {t : TypeId} {x y : Operand} (ho : o.op = .index t x y) (hok : okOper n o = true) (ht : P.underlying t = some .string) {l : List UInt8} {k : IntKind} {m : Int} (hx : s.ev x = .val (.fl (bs l))) (hy : s.ev y = .val (.fl (.int k m))) (h0 : 0 ≤ m) {c : UInt8} (hc : l[m.toNat]? = some c) : Yield P E w0 I0 n o s (.val (.fl (.int .u8 c.toNat))) :=
  fun a w I be hR => by
    have h1 := okOper_ev hok (x := x) (by simp [ho, Op.operands]) hR
    have h2 := okOper_ev hok (x := y) (by simp [ho, Op.operands]) hR
    rw [hx] at h1
    rw [hy] at h2
    have hl : m.toNat < l.length := (List.getElem?_eq_some_iff.1 hc).1
    have e : (ByteArray.mk l.toArray)[m.toNat]? = some c := by
      have hs : m.toNat < (ByteArray.mk l.toArray).size := by simpa [ByteArray.size] using hl
      rw [ByteArray.getElem?_lt' _ _ hs]
      congr 1
      have := (List.getElem?_eq_some_iff.1 hc).2
      simpa [ByteArray.getElem_eq_getElem_data] using this
    exact ⟨.int .u8 c.toNat, by simp [execOp, ho, rep_fl h1, rep_fl h2, bs, Instr.index, asIntOf, run_underlying ht, h0, e], .fl _ rfl⟩

theorem extract_bs (l : List UInt8) (i j : Nat) : Value.string ((ByteArray.mk l.toArray).extract i j) = bs ((l.drop i).take (j - i)) := by
  rw [ByteArray.extract_mk]

theorem yield_slice_str {t : TypeId} {x : Operand} {lo hi : Option Operand} (ho : o.op = .slice t x lo hi none) (hok : okOper n o = true) (ht : P.underlying t = some .string) {xs : List UInt8} (hx : s.ev x = .val (.fl (bs xs))) {l h : Nat} (hl : bnd s 0 lo = some l) (hh : bnd s xs.length hi = some h) (h1 : l ≤ h) (h2 : h ≤ xs.length) : Yield P E w0 I0 n o s (.val (.fl (bs ((xs.drop l).take (h - l))))) :=
  fun a w I be hR => by
    have hr := okOper_ev hok (x := x) (by simp [ho, Op.operands]) hR
    rw [hx] at hr
    have e1 := rep_fl hr
    have hsz : (ByteArray.mk xs.toArray).size = xs.length := by simp [ByteArray.size]
    have hb := run_sliceBounds (P := P) (w := w) (q := false) (len := xs.length) (cap := xs.length) (m := xs.length) (mx := none) hok hR (fun y hy => by rcases hy with h | h | h <;> simp [ho, Op.operands, h]) hl hh (by simp [bnd]) h1 h2 (Nat.le_refl _) (.inl rfl)
    refine ⟨_, ?_, .fl _ rfl⟩
    simp only [Option.map_none] at hb
    simp only [execOp, ho, e1, bs, Instr.sliceAt, Instr.slice, Sem.run_bind, run_underlying ht, Result.andThen_ok, Option.map_none, Option.isSome_none, Bool.false_eq_true, if_false, Sem.run_pure, hsz, hb, extract_bs]

end
end Go.Ev
