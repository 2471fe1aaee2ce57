import Derived.Orders
import Derived.Below
import Derived.Laws.AppendOwn
import Derived.Laws.MakeOwn
import Derived.Laws.CopyOwn
import Derived.Laws.Rows
import Derived.Laws.Tables
import Derived.Laws.StructEq
import Derived.Laws.Strings3
import Derived.Laws.BytesString
import Derived.Laws.NewBlocks
import Derived.Shelf.Abstract
set_option linter.unusedVariables false
set_option linter.unusedSimpArgs false
set_option linter.unusedSectionVars false

namespace Go.Ev
open Go

/-- Abstract values: plain data, free of addresses. 'fl': a value of one cell that names no memory that is read (ints, bools, strings, nil, opaque pointers); 'sl': a slice whose cells stay; 'ref': an address of cells that stay; 'fn': a function with what it has captured; 'agg': a struct or an array, cell by cell; 'ifc': an interface value. -/
inductive AV where
  | fl (v : Value)
  | sl (xs : List AV)
  | ref (cs : List AV)
  | fn (f : FuncId) (caps : List AV)
  | agg (cs : List AV)
  | ifc (t : TypeId) (v : AV)
  deriving Inhabited

def AV.cells : AV → List AV
  | .agg cs => cs
  | v => [v]

def AV.isAgg : AV → Bool
  | .agg _ => true
  | _ => false
/-- its cells are of one cell each -/
def AV.wf (x : AV) : Prop := ∀ c ∈ x.cells, c.isAgg = false

def One (v : Value) : Prop := v.oneCell' = true

/-- A set of cells that stay as they are. -/
abbrev Cells := Addr → Prop

inductive Rep (w : World) (I : Cells) : Value → AV → Prop
  | fl (v : Value) (h : One v) : Rep w I v (.fl v)
  | slNone (c : Nat) : Rep w I (.slice none 0 c) (.sl [])
  | sl (a : Addr) (n cap sz : Nat) (xs : List AV) (cv : Nat → Nat → Value) (hn : n = xs.length) (hcap : xs.length ≤ cap) (hmax : cap ≤ maxLen)
      (hsz : ∀ (i : Nat) (x : AV), xs[i]? = some x → x.cells.length = sz ∧ x.wf)
      (hc : ∀ (i j : Nat) (x c : AV), xs[i]? = some x → x.cells[j]? = some c → w.cell? (a.add (i * sz + j)) = some (cv i j))
      (hI : ∀ (i j : Nat) (x c : AV), xs[i]? = some x → x.cells[j]? = some c → I (a.add (i * sz + j)))
      (hr : ∀ (i j : Nat) (x c : AV), xs[i]? = some x → x.cells[j]? = some c → Rep w I (cv i j) c) : Rep w I (.slice (some a) n cap) (.sl xs)
  | ref (p : Addr) (cs : List AV) (cv : Nat → Value)
      (hc : ∀ (j : Nat) (c : AV), cs[j]? = some c → w.cell? (p.add j) = some (cv j))
      (hI : ∀ (j : Nat) (c : AV), cs[j]? = some c → I (p.add j))
      (hr : ∀ (j : Nat) (c : AV), cs[j]? = some c → Rep w I (cv j) c) : Rep w I (.pointer (some p)) (.ref cs)
  | fn (f : FuncId) (vs : Array Value) (caps : List AV) (hl : vs.size = caps.length)
      (hr : ∀ (j : Nat) (c : AV), caps[j]? = some c → Rep w I (vs.getD j undef) c) : Rep w I (.func (.func f) #[] vs) (.fn f caps)
  | agg (vs : Array Value) (cs : List AV) (hl : vs.size = cs.length)
      (hr : ∀ (j : Nat) (c : AV), cs[j]? = some c → Rep w I (vs.getD j undef) c) : Rep w I (.agg vs) (.agg cs)
  | ifc (t : TypeId) (v : Value) (x : AV) (hr : Rep w I v x) : Rep w I (.iface t v) (.ifc t x)

theorem Rep.mono {w w' : World} {I I' : Cells} (hI : ∀ p, I p → I' p) (hw : ∀ p v, I p → w.cell? p = some v → w'.cell? p = some v) {v : Value} {a : AV} (h : Rep w I v a) : Rep w' I' v a := by
  induction h with
  | fl v h => exact .fl v h
  | slNone c => exact .slNone c
  | sl a n cap sz xs cv hn hcap hmax hsz hc hI' hr ih =>
    exact .sl a n cap sz xs cv hn hcap hmax hsz (fun i j x c h1 h2 => hw _ _ (hI' i j x c h1 h2) (hc i j x c h1 h2)) (fun i j x c h1 h2 => hI _ (hI' i j x c h1 h2)) ih
  | ref p cs cv hc hI' hr ih => exact .ref p cs cv (fun j c h => hw _ _ (hI' j c h) (hc j c h)) (fun j c h => hI _ (hI' j c h)) ih
  | fn f vs caps hl hr ih => exact .fn f vs caps hl ih
  | agg vs cs hl hr ih => exact .agg vs cs hl ih
  | ifc t v x hr ih => exact .ifc t v x ih

/-- What a register holds. 'loc d g sz i k': the address of cell k of element i of box d (elements of sz cells), if g is that box's age; 'view d g off len': a slice over the array box d. -/
inductive Reg where
  | none
  | val (v : AV)
  | full (xs : List AV)
  | loc (d g sz i k : Nat)
  | view (d g off len : Nat)
  | tup (rs : List Reg)
  deriving Inhabited

inductive Bx where
  | cells (cs : List Reg)
  | arr (e : TypeId) (xs : List AV)
  deriving Inhabited

structure St where
  r : Nat → Reg
  b : Nat → Option Bx
  g : Nat → Nat

def upd {α : Type} (f : Nat → α) (d : Nat) (v : α) : Nat → α := fun t => if t = d then v else f t
theorem upd_apply {α : Type} (f : Nat → α) (d : Nat) (v : α) (t : Nat) : upd f d v t = if t = d then v else f t := rfl
@[simp] theorem upd_same {α : Type} (f : Nat → α) (d : Nat) (v : α) : upd f d v d = v := by simp [upd]
theorem upd_ne {α : Type} (f : Nat → α) {d t : Nat} (v : α) (h : t ≠ d) : upd f d v t = f t := by simp [upd, h]

def St.put (s : St) (dst : Option Nat) (v : Reg) : St :=
  match dst with
  | some d => { s with r := upd s.r d v }
  | none => s
@[simp] theorem St.put_some (s : St) (d : Nat) (v : Reg) : s.put (some d) v = { s with r := upd s.r d v } := rfl
@[simp] theorem St.put_none (s : St) (v : Reg) : s.put none v = s := rfl

def constCell : Value → AV
  | .slice none 0 0 => .sl []
  | v => .fl v
def constReg : Value → Reg
  | .slice none 0 0 => .full []
  | .agg cs => .val (.agg (cs.toList.map constCell))
  | v => .val (.fl v)

def St.ev (s : St) : Operand → Reg
  | .tmp t => s.r t
  | .const v => constReg v
  | .global g => .val (.fl (.pointer (some ⟨g, 0, none⟩)))
  | .func f => .val (.fn f [])

/-- What the walk leans on beyond the arguments: an invariant of the world, and the blocks that it speaks of (which others may change). -/
structure Env where
  inv : World → Prop
  foot : World → Nat → Prop
  stays : ∀ w w', inv w → (∀ b, foot w b → w'.heap[b]? = w.heap[b]?) → inv w' ∧ ∀ b, foot w' b → foot w b
  lt : ∀ w b, inv w → foot w b → b < w.heap.size
  /-- old blocks that are lent, by the boxes that they are: the walk may change them -/
  lentAt : Nat → Option (Option Nat) := fun _ => none

def Env.none_ : Env := { inv := fun _ => True, foot := fun _ _ => False, stays := fun _ _ _ _ => ⟨trivial, fun _ h => h⟩, lt := fun _ _ _ h => h.elim }

/-- where nothing is lent -/
def Env.plain (E : Env) : Env := { inv := E.inv, foot := E.foot, stays := E.stays, lt := E.lt }
theorem Env.plain_plain (E : Env) : E.plain.plain = E.plain := rfl
/-- is that block lent? -/
def Env.lent (E : Env) (B : Nat) : Prop := ∃ d, E.lentAt d = some (some B)
theorem Env.plain_lent (E : Env) (B : Nat) : ¬ E.plain.lent B := fun ⟨_, h⟩ => by cases h
/-- a block that came since the world w0, or that is lent -/
def Env.fresh (E : Env) (w0 : World) (B : Nat) : Prop := w0.heap.size ≤ B ∨ E.lent B

/-- From the world w0 on (with the cells I0) to the world w (with the cells I): blocks of w0 outside the environment's are as they were. -/
structure Since (E : Env) (w0 : World) (I0 : Cells) (w : World) (I : Cells) : Prop where
  os : w.os = w0.os
  tape : w.tape = w0.tape
  output : w.output = w0.output
  size : w0.heap.size ≤ w.heap.size
  block : ∀ k, k < w0.heap.size → ¬ E.foot w0 k → ¬ E.lent k → w.heap[k]? = w0.heap[k]?
  foot : ∀ b, E.foot w b → E.foot w0 b ∨ w0.heap.size ≤ b
  inv : E.inv w
  more : ∀ p, I0 p → I p
  new : ∀ p, I p → I0 p ∨ E.fresh w0 p.block
  lt : ∀ p, I p → p.block < w.heap.size
  off : ∀ p, I p → ¬ E.foot w p.block

section
variable (P : Program) (w : World) (I : Cells) (be : Nat → Option Nat) (b : Nat → Option Bx) (g : Nat → Nat)

/-- the slice value of array box d, as a whole: in block B, or in none -/
def viewAt (d off len : Nat) (v : Value) : Prop :=
  match b d with
  | some (.arr e xs) =>
    off + len ≤ xs.length ∧
    match be d with
    | none => ∃ A, v = .slice A len 0
    | some B => ∃ cur cap A, w.heap[B]? = some (.cells cur e (0, 0)) ∧ cur.size = cap * P.cellsOf e ∧ v = .slice A len (cap - off) ∧ (off < cap → A = some ⟨B, off * P.cellsOf e, none⟩)
  | _ => True

def regRep (v : Value) : Reg → Prop
  | .none => True
  | .val a => Rep w I v a
  | .full xs => Rep w I v (.sl xs) ∧ ∃ A, v = .slice A xs.length xs.length
  | .loc d gg sz i k => gg ≤ g d ∧ (gg = g d → b d ≠ none → ∃ B, be d = some B ∧ v = .pointer (some ⟨B, i * sz + k, none⟩))
  | .view d gg off len => gg ≤ g d ∧ (gg = g d → viewAt P w be b d off len v)
  | .tup rs => ∃ vs : Array Value, v = .tuple vs ∧ vs.size = rs.length ∧ ∀ (j : Nat) (r : Reg), rs[j]? = some r →
      match r with
      | .none => True
      | .val a => Rep w I (vs.getD j undef) a
      | .view d gg off len => gg ≤ g d ∧ (gg = g d → viewAt P w be b d off len (vs.getD j undef))
      | _ => False

/-- box d, in block B -/
def boxRep (d : Nat) : Bx → Prop
  | .cells cs => ∃ B cur t, be d = some B ∧ w.heap[B]? = some (.cells cur t (0, 0)) ∧ cur.size = cs.length ∧ ∀ (j : Nat) (c : Reg), cs[j]? = some c → regRep P w I be b g (cur.getD j undef) c
  | .arr e xs => 0 < P.cellsOf e ∧ xs.length ≤ maxLen ∧ (∀ (i : Nat) (x : AV), xs[i]? = some x → x.cells.length = P.cellsOf e ∧ x.wf) ∧
    match be d with
    | none => xs = []
    | some B => ∃ cur cap, w.heap[B]? = some (.cells cur e (0, 0)) ∧ cur.size = cap * P.cellsOf e ∧ cap ≤ maxLen ∧ xs.length ≤ cap ∧
        ∀ (i j : Nat) (x c : AV), xs[i]? = some x → x.cells[j]? = some c → Rep w I (cur.getD (i * P.cellsOf e + j) undef) c
end

/-- The relation between an abstract state and a frame in a world, through the cells that stay (I) and the boxes' blocks (be). -/
structure RelAt (P : Program) (E : Env) (w0 : World) (I0 : Cells) (n : Nat) (s : St) (a : Act) (w : World) (I : Cells) (be : Nat → Option Nat) : Prop where
  since : Since E w0 I0 w I
  size : a.tmps.size = n
  defers : a.defers = []
  regs : ∀ t, t < n → regRep P w I be s.b s.g (a.tmps.getD t undef) (s.r t)
  boxes : ∀ d x, s.b d = some x → boxRep P w I be s.b s.g d x
  inj : ∀ d d' B, s.b d ≠ none → s.b d' ≠ none → be d = some B → be d' = some B → d = d'
  own : ∀ d B, s.b d ≠ none → be d = some B → E.fresh w0 B ∧ B < w.heap.size ∧ (∀ p, I p → p.block ≠ B) ∧ ¬ E.foot w B
  /-- a box that is lent, and not made anew, is where it was -/
  tie : ∀ (d : Nat) (bo : Option Nat), E.lentAt d = some bo → s.g d = 0 → s.b d ≠ none → be d = bo

def Rel (P : Program) (E : Env) (w0 : World) (I0 : Cells) (n : Nat) (s : St) (a : Act) (w : World) : Prop := ∃ I be, RelAt P E w0 I0 n s a w I be

section
variable {P : Program} {E : Env} {w0 : World} {I0 : Cells} {n : Nat} {s : St} {a : Act} {w : World} {I : Cells} {be : Nat → Option Nat}

/-- a register is written -/
theorem RelAt.put (h : RelAt P E w0 I0 n s a w I be) (dst : Option Nat) {v : Value} {r : Reg} (hr : regRep P w I be s.b s.g v r) : RelAt P E w0 I0 n (s.put dst r) (a.put dst v) w I be := by
  cases dst with
  | none => exact h
  | some d =>
    refine ⟨h.since, by simpa [Act.put] using h.size, h.defers, fun t ht => ?_, h.boxes, h.inj, h.own, h.tie⟩
    simp only [Act.put, St.put, upd]
    by_cases e : t = d
    · subst e
      have hs : t < a.tmps.size := by rw [h.size]; exact ht
      simpa [hs] using hr
    · have e' : d ≠ t := fun x => e x.symm
      simpa [e, Array.getElem?_setIfInBounds_ne e'] using h.regs t ht

/-- nothing is known of a register any more -/
theorem RelAt.forget (h : RelAt P E w0 I0 n s a w I be) (r' : Nat → Reg) (hr : ∀ t, r' t = s.r t ∨ r' t = .none) : RelAt P E w0 I0 n { s with r := r' } a w I be := by
  refine ⟨h.since, h.size, h.defers, fun t ht => ?_, h.boxes, h.inj, h.own, h.tie⟩
  rcases hr t with e | e
  · simpa [e] using h.regs t ht
  · simp [e, regRep]

theorem constCell_rep {v : Value} (h : One v) : Rep w I v (constCell v) := by
  unfold constCell
  split
  · exact .slNone 0
  · exact .fl v h

/-- a constant: of one cell, or a struct whose cells are of one -/
def constOk : Value → Bool
  | .agg cs => cs.all fun v => v.oneCell'
  | .tuple _ => false
  | _ => true

theorem constReg_rep {v : Value} (h : constOk v = true) : regRep P w I be s.b s.g v (constReg v) := by
  unfold constReg
  split
  · exact ⟨.slNone 0, none, rfl⟩
  · rename_i cs
    refine .agg cs _ (by simp) fun j c hj => ?_
    simp only [constOk, Array.all_eq_true'] at h
    simp only [List.getElem?_map, Array.getElem?_toList, Option.map_eq_some_iff] at hj
    obtain ⟨v, hv, rfl⟩ := hj
    have hm : v ∈ cs := Array.mem_of_getElem? hv
    have := h v hm
    simp only [Array.getD_eq_getD_getElem?, hv, Option.getD_some]
    exact constCell_rep this
  · rename_i h1 h2
    refine .fl v ?_
    cases v <;> first | rfl | (simp [constOk] at h; done) | (exact absurd rfl (h2 _))

def operandOk : Operand → Bool
  | .const v => constOk v
  | _ => true

theorem RelAt.ev (h : RelAt P E w0 I0 n s a w I be) (x : Operand) (hx : operandOk x = true) (ht : ∀ t, x = .tmp t → t < n) : regRep P w I be s.b s.g (a.eval x) (s.ev x) := by
  cases x with
  | tmp t => exact h.regs t (ht t rfl)
  | const v => exact constReg_rep hx
  | global g => exact .fl _ rfl
  | func f => exact .fn f #[] [] rfl (fun j c hj => by simp at hj)
end

/-! ### What is kept -/
section
variable {P : Program} {w w' : World} {I I' : Cells} {be be' : Nat → Option Nat} {b b' : Nat → Option Bx} {g g' : Nat → Nat}

/-- box d is as it was, for those that name it -/
def BoxKept (P : Program) (w w' : World) (be be' : Nat → Option Nat) (b b' : Nat → Option Bx) (d : Nat) : Prop :=
  (b' d ≠ none → b d ≠ none ∧ be' d = be d) ∧ ∀ off len v, viewAt P w be b d off len v → viewAt P w' be' b' d off len v

theorem regRep.keep (hI : ∀ p, I p → I' p) (hw : ∀ p v, I p → w.cell? p = some v → w'.cell? p = some v) (hd : ∀ d, g d < g' d ∨ (g' d = g d ∧ BoxKept P w w' be be' b b' d))
    {v : Value} {r : Reg} (h : regRep P w I be b g v r) : regRep P w' I' be' b' g' v r := by
  have hv : ∀ (d gg off len : Nat) (v : Value), (gg ≤ g d ∧ (gg = g d → viewAt P w be b d off len v)) → (gg ≤ g' d ∧ (gg = g' d → viewAt P w' be' b' d off len v)) := by
    rintro d gg off len v ⟨h1, h2⟩
    rcases hd d with hlt | ⟨he, _, hk⟩
    · exact ⟨by omega, fun e => by omega⟩
    · exact ⟨by omega, fun e => hk _ _ _ (h2 (by omega))⟩
  cases r with
  | none => trivial
  | val a => exact Rep.mono hI hw h
  | full xs => exact ⟨Rep.mono hI hw h.1, h.2⟩
  | loc d gg sz i k =>
    obtain ⟨h1, h2⟩ := h
    rcases hd d with hlt | ⟨he, hb, _⟩
    · exact ⟨by omega, fun e => by omega⟩
    · refine ⟨by omega, fun e hn => ?_⟩
      obtain ⟨hb1, hb2⟩ := hb hn
      rw [hb2]
      exact h2 (by omega) hb1
  | view d gg off len => exact hv d gg off len v h
  | tup rs =>
    obtain ⟨vs, h1, h2, h3⟩ := h
    refine ⟨vs, h1, h2, fun j r hj => ?_⟩
    have := h3 j r hj
    cases r with
    | none => trivial
    | val a => exact Rep.mono hI hw this
    | view d gg off len => exact hv d gg off len _ this
    | full xs => exact this
    | loc d gg sz i k => exact this
    | tup rs => exact this

theorem boxRep.keep (hI : ∀ p, I p → I' p) (hw : ∀ p v, I p → w.cell? p = some v → w'.cell? p = some v) (hd : ∀ d, g d < g' d ∨ (g' d = g d ∧ BoxKept P w w' be be' b b' d))
    {d : Nat} {x : Bx} (hbe : be' d = be d) (hB : ∀ B, be d = some B → w'.heap[B]? = w.heap[B]?) (h : boxRep P w I be b g d x) : boxRep P w' I' be' b' g' d x := by
  cases x with
  | cells cs =>
    obtain ⟨B, cur, t, h1, h2, h3, h4⟩ := h
    exact ⟨B, cur, t, by rw [hbe]; exact h1, (hB B h1).trans h2, h3, fun j c hc => regRep.keep hI hw hd (h4 j c hc)⟩
  | arr e xs =>
    obtain ⟨h1, h2, h3, h4⟩ := h
    refine ⟨h1, h2, h3, ?_⟩
    rw [hbe]
    cases hq : be d with
    | none => simpa [hq] using h4
    | some B =>
      simp only [hq] at h4
      obtain ⟨cur, cap, h5, h6, h7, h8, h9⟩ := h4
      exact ⟨cur, cap, (hB B hq).trans h5, h6, h7, h8, fun i j x c hx hc => Rep.mono hI hw (h9 i j x c hx hc)⟩

/-- a box whose block is as it was -/
theorem BoxKept.of_block {d : Nat} (hb : b' d = b d) (hbe : be' d = be d) (hB : ∀ B, b d ≠ none → be d = some B → w'.heap[B]? = w.heap[B]?) : BoxKept P w w' be be' b b' d := by
  refine ⟨fun h => ⟨by rwa [← hb], hbe⟩, fun off len v h => ?_⟩
  unfold viewAt at h ⊢
  rw [hb, hbe]
  cases hq : b d with
  | none => simp
  | some x =>
    cases x with
    | cells cs => simp
    | arr e xs =>
      simp only [hq] at h ⊢
      refine ⟨h.1, ?_⟩
      have h2 := h.2
      cases hr : be d with
      | none => simpa [hr] using h2
      | some B =>
        simp only [hr] at h2 ⊢
        obtain ⟨cur, cap, A, h3, h4⟩ := h2
        exact ⟨cur, cap, A, (hB B (by simp [hq]) hr).trans h3, h4⟩

theorem cell?_of_heap {p : Addr} (h : w'.heap[p.block]? = w.heap[p.block]?) : w'.cell? p = w.cell? p := by simp [World.cell?, h]
end

section
variable {P : Program} {E : Env} {w0 : World} {I0 : Cells} {n : Nat} {s : St} {a : Act} {w w' : World} {I I' : Cells} {be be' : Nat → Option Nat}

/-- the world grows; a box's block may have turned ('M') -/
theorem Since.step (h : Since E w0 I0 w I) (hos : w'.os = w.os) (htape : w'.tape = w.tape) (hout : w'.output = w.output) (hsz : w.heap.size ≤ w'.heap.size) (M : Nat → Prop)
    (hblk : ∀ k, k < w.heap.size → ¬ M k → w'.heap[k]? = w.heap[k]?) (hM : ∀ k, M k → E.fresh w0 k ∧ ¬ E.foot w k) (hII : ∀ p, I p → I' p) (hnew : ∀ p, I' p → I p ∨ (E.fresh w0 p.block ∧ p.block < w'.heap.size ∧ ¬ E.foot w p.block)) : Since E w0 I0 w' I' := by
  have hst := E.stays w w' h.inv (fun b hb => hblk b (E.lt w b h.inv hb) (fun hm => (hM b hm).2 hb))
  refine ⟨hos.trans h.os, htape.trans h.tape, hout.trans h.output, Nat.le_trans h.size hsz, fun k hk hf hl => ?_, fun b hb => h.foot b (hst.2 b hb), hst.1, fun p hp => hII p (h.more p hp), fun p hp => ?_, fun p hp => ?_, fun p hp hf => ?_⟩
  · rw [hblk k (Nat.lt_of_lt_of_le hk h.size) (fun hm => by
      rcases (hM k hm).1 with h1 | h1
      · omega
      · exact hl h1)]
    exact h.block k hk hf hl
  · rcases hnew p hp with h1 | ⟨h1, _⟩
    · exact h.new p h1
    · exact .inr h1
  · rcases hnew p hp with h1 | ⟨_, h1, _⟩
    · exact Nat.lt_of_lt_of_le (h.lt p h1) hsz
    · exact h1
  · rcases hnew p hp with h1 | ⟨_, _, h1⟩
    · exact h.off p h1 (hst.2 _ hf)
    · exact h1 (hst.2 _ hf)

/-- what stays is read as it was -/
theorem RelAt.cells_stay (h : RelAt P E w0 I0 n s a w I be) (hblk : ∀ k, k < w.heap.size → (∀ d, s.b d ≠ none → be d ≠ some k) → w'.heap[k]? = w.heap[k]?) : ∀ p v, I p → w.cell? p = some v → w'.cell? p = some v := by
  intro p v hp hv
  rw [cell?_of_heap (hblk p.block (h.since.lt p hp) (fun d hd he => (h.own d p.block hd he).2.2.1 p hp rfl))]
  exact hv

/-- the world grows, nothing else -/
theorem RelAt.grow (h : RelAt P E w0 I0 n s a w I be) (hos : w'.os = w.os) (htape : w'.tape = w.tape) (hout : w'.output = w.output) (hsz : w.heap.size ≤ w'.heap.size)
    (hblk : ∀ k, k < w.heap.size → w'.heap[k]? = w.heap[k]?) : RelAt P E w0 I0 n s a w' I be := by
  have hs := h.since.step (I' := I) hos htape hout hsz (fun _ => False) (fun k hk _ => hblk k hk) (fun k hk => hk.elim) (fun _ h => h) (fun _ h => .inl h)
  have hc := h.cells_stay (w' := w') (fun k hk _ => hblk k hk)
  have hB : ∀ d B, s.b d ≠ none → be d = some B → w'.heap[B]? = w.heap[B]? := fun d B hd hB => hblk B (h.own d B hd hB).2.1
  have hd : ∀ d, s.g d < s.g d ∨ (s.g d = s.g d ∧ BoxKept P w w' be be s.b s.b d) := fun d => .inr ⟨rfl, .of_block rfl rfl (fun B hn => hB d B hn)⟩
  refine ⟨hs, h.size, h.defers, fun t ht => (h.regs t ht).keep (fun _ h => h) hc hd, fun d x hx => (h.boxes d x hx).keep (fun _ h => h) hc hd rfl (fun B => hB d B (by simp [hx])), h.inj, fun d B hd hB => ?_, h.tie⟩
  obtain ⟨h1, h2, h3, h4⟩ := h.own d B hd hB
  refine ⟨h1, by omega, h3, fun hf => h4 ?_⟩
  exact (E.stays w w' h.since.inv (fun b hb => hblk b (E.lt w b h.since.inv hb))).2 B hf

/-- box d is made anew, in a block that nobody has ('bo'), or in none -/
theorem RelAt.recreate (h : RelAt P E w0 I0 n s a w I be) (d : Nat) (x : Bx) (bo : Option Nat)
    (hx : boxRep P w I (upd be d bo) (upd s.b d (some x)) (upd s.g d (s.g d + 1)) d x)
    (hbo : ∀ B, bo = some B → E.fresh w0 B ∧ B < w.heap.size ∧ (∀ p, I p → p.block ≠ B) ∧ ¬ E.foot w B ∧ ∀ d', d' ≠ d → s.b d' ≠ none → be d' ≠ some B) :
    RelAt P E w0 I0 n { s with b := upd s.b d (some x), g := upd s.g d (s.g d + 1) } a w I (upd be d bo) := by
  have hd : ∀ d', s.g d' < upd s.g d (s.g d + 1) d' ∨ (upd s.g d (s.g d + 1) d' = s.g d' ∧ BoxKept P w w be (upd be d bo) s.b (upd s.b d (some x)) d') := by
    intro d'
    by_cases e : d' = d
    · subst e; left; simp
    · right
      exact ⟨upd_ne _ _ e, .of_block (upd_ne _ _ e) (upd_ne _ _ e) (fun _ _ _ => rfl)⟩
  refine ⟨h.since, h.size, h.defers, fun t ht => (h.regs t ht).keep (fun _ h => h) (fun _ _ _ h => h) hd, fun d' x' hx' => ?_, fun d1 d2 B h1 h2 h3 h4 => ?_, fun d' B hn hB => ?_, fun d' B h1 h2 h3 => by
    by_cases e : d' = d
    · subst e; simp at h2
    · simp only [upd_ne _ _ e] at h2 h3 ⊢; exact h.tie d' B h1 h2 h3⟩
  · by_cases e : d' = d
    · subst e
      simp only [upd_same, Option.some.injEq] at hx'
      subst hx'
      exact hx
    · simp only [upd_ne _ _ e] at hx'
      exact (h.boxes d' x' hx').keep (fun _ h => h) (fun _ _ _ h => h) hd (upd_ne _ _ e) (fun _ _ => rfl)
  · by_cases e1 : d1 = d
    · by_cases e2 : d2 = d
      · rw [e1, e2]
      · subst e1
        simp only [upd_same] at h3
        simp only [upd_ne _ _ e2] at h2 h4
        exact absurd h4 ((hbo B h3).2.2.2.2 d2 e2 h2)
    · by_cases e2 : d2 = d
      · subst e2
        simp only [upd_same] at h4
        simp only [upd_ne _ _ e1] at h1 h3
        exact absurd h3 ((hbo B h4).2.2.2.2 d1 e1 h1)
      · simp only [upd_ne _ _ e1] at h1 h3
        simp only [upd_ne _ _ e2] at h2 h4
        exact h.inj d1 d2 B h1 h2 h3 h4
  · by_cases e : d' = d
    · subst e
      simp only [upd_same] at hB
      obtain ⟨h1, h2, h3, h4, _⟩ := hbo B hB
      exact ⟨h1, h2, h3, h4⟩
    · simp only [upd_ne _ _ e] at hn hB
      exact h.own d' B hn hB

/-- box d is given up -/
theorem RelAt.drop (h : RelAt P E w0 I0 n s a w I be) (d : Nat) : RelAt P E w0 I0 n { s with b := upd s.b d none } a w I be := by
  have hd : ∀ d', s.g d' < s.g d' ∨ (s.g d' = s.g d' ∧ BoxKept P w w be be s.b (upd s.b d none) d') := by
    intro d'
    refine .inr ⟨rfl, ?_⟩
    by_cases e : d' = d
    · subst e
      exact ⟨fun h => by simp at h, fun off len v _ => by simp [viewAt]⟩
    · exact .of_block (upd_ne _ _ e) rfl (fun _ _ _ => rfl)
  refine ⟨h.since, h.size, h.defers, fun t ht => (h.regs t ht).keep (fun _ h => h) (fun _ _ _ h => h) hd, fun d' x' hx' => ?_, fun d1 d2 B h1 h2 h3 h4 => ?_, fun d' B hn hB => ?_, fun d' B h1 h2 h3 => by
    by_cases e : d' = d
    · subst e; simp at h3
    · simp only [upd_ne _ _ e] at h3; exact h.tie d' B h1 h2 h3⟩
  · by_cases e : d' = d
    · subst e; simp at hx'
    · simp only [upd_ne _ _ e] at hx'
      exact (h.boxes d' x' hx').keep (fun _ h => h) (fun _ _ _ h => h) hd rfl (fun _ _ => rfl)
  · have e1 : d1 ≠ d := fun e => by subst e; simp at h1
    have e2 : d2 ≠ d := fun e => by subst e; simp at h2
    simp only [upd_ne _ _ e1] at h1
    simp only [upd_ne _ _ e2] at h2
    exact h.inj d1 d2 B h1 h2 h3 h4
  · have e : d' ≠ d := fun e => by subst e; simp at hn
    simp only [upd_ne _ _ e] at hn
    exact h.own d' B hn hB

/-- the cells of box d turn, as many as there were: what is kept -/
theorem RelAt.set_kept (h : RelAt P E w0 I0 n s a w I be) (d : Nat) (x x' : Bx) (B : Nat) (hx : s.b d = some x) (hB : be d = some B) (cur cur' : Array Value) (t : TypeId)
    (hw : w.heap[B]? = some (.cells cur t (0, 0))) (hsz : cur'.size = cur.size) (hk : (∃ cs cs', x = .cells cs ∧ x' = .cells cs') ∨ (∃ e xs xs', x = .arr e xs ∧ x' = .arr e xs' ∧ xs'.length = xs.length)) :
    (∀ p v, I p → w.cell? p = some v → (w.setRow B cur').cell? p = some v) ∧ ∀ d', s.g d' < s.g d' ∨ (s.g d' = s.g d' ∧ BoxKept P w (w.setRow B cur') be be s.b (upd s.b d (some x')) d') := by
  have hdn : s.b d ≠ none := by simp [hx]
  obtain ⟨ho1, ho2, ho3, ho4⟩ := h.own d B hdn hB
  have hoth : ∀ k, k ≠ B → (w.setRow B cur').heap[k]? = w.heap[k]? := fun k hk => setRow_other w B k cur' hk
  have hself := setRow_heap w B cur cur' t (0, 0) hw
  refine ⟨fun p v hp hv => by rw [cell?_of_heap (hoth p.block (ho3 p hp))]; exact hv, fun d' => .inr ⟨rfl, ?_⟩⟩
  by_cases e : d' = d
  · subst e
    refine ⟨fun _ => ⟨hdn, rfl⟩, fun off len v hv => ?_⟩
    unfold viewAt at hv ⊢
    simp only [upd_same, hx, hB] at hv ⊢
    rcases hk with ⟨cs, cs', rfl, rfl⟩ | ⟨e, xs, xs', rfl, rfl, hl⟩
    · trivial
    · simp only at hv ⊢
      obtain ⟨h1, cur0, cap, A, h2, h3, h4⟩ := hv
      rw [hw] at h2
      injection h2 with h2
      injection h2 with h5 h6
      subst h5 h6
      exact ⟨by omega, cur', cap, A, hself, by omega, h4⟩
  · exact .of_block (upd_ne _ _ e) rfl (fun B' hn hB' => hoth B' (fun eB => e (h.inj d' d B hn hdn (by rw [hB', eB]) hB)))

/-- the cells of box d turn: as many as there were -/
theorem RelAt.setBox (h : RelAt P E w0 I0 n s a w I be) (d : Nat) (x x' : Bx) (B : Nat) (hx : s.b d = some x) (hB : be d = some B) (cur cur' : Array Value) (t : TypeId)
    (hw : w.heap[B]? = some (.cells cur t (0, 0))) (hsz : cur'.size = cur.size) (hk : (∃ cs cs', x = .cells cs ∧ x' = .cells cs') ∨ (∃ e xs xs', x = .arr e xs ∧ x' = .arr e xs' ∧ xs'.length = xs.length))
    (hx' : boxRep P (w.setRow B cur') I be (upd s.b d (some x')) s.g d x') :
    RelAt P E w0 I0 n { s with b := upd s.b d (some x') } a (w.setRow B cur') I be := by
  have hdn : s.b d ≠ none := by simp [hx]
  obtain ⟨ho1, ho2, ho3, ho4⟩ := h.own d B hdn hB
  have hoth : ∀ k, k ≠ B → (w.setRow B cur').heap[k]? = w.heap[k]? := fun k hk => setRow_other w B k cur' hk
  obtain ⟨hc, hd⟩ := h.set_kept d x x' B hx hB cur cur' t hw hsz hk
  have hs := h.since.step (w' := w.setRow B cur') (I' := I) rfl rfl rfl (by simp) (fun k => k = B) (fun k _ hk => hoth k hk) (fun k hk => by subst hk; exact ⟨ho1, ho4⟩) (fun _ h => h) (fun _ h => .inl h)
  have hfoot : ∀ b, E.foot (w.setRow B cur') b → E.foot w b := (E.stays w _ h.since.inv (fun b hb => hoth b (fun e => ho4 (e ▸ hb)))).2
  refine ⟨hs, h.size, h.defers, fun t ht => (h.regs t ht).keep (fun _ h => h) hc hd, fun d' y hy => ?_, fun d1 d2 B' h1 h2 h3 h4 => ?_, fun d' B' hn hB' => ?_, fun d' B' h1 h2 h3 => h.tie d' B' h1 h2 (by
    by_cases e : d' = d
    · subst e; simp [hx]
    · simpa only [upd_ne _ _ e] using h3)⟩
  · by_cases e : d' = d
    · subst e
      simp only [upd_same, Option.some.injEq] at hy
      subst hy
      exact hx'
    · simp only [upd_ne _ _ e] at hy
      exact (h.boxes d' y hy).keep (fun _ h => h) hc hd rfl (fun B' hB' => hoth B' (fun eB => e (h.inj d' d B (by simp [hy]) hdn (by rw [hB', eB]) hB)))
  · have hn : ∀ d', upd s.b d (some x') d' ≠ none → s.b d' ≠ none := fun d' hh => by
      by_cases e : d' = d
      · subst e; exact hdn
      · simpa only [upd_ne _ _ e] using hh
    exact h.inj d1 d2 B' (hn d1 h1) (hn d2 h2) h3 h4
  · have hn' : s.b d' ≠ none := by
      by_cases e : d' = d
      · subst e; exact hdn
      · simpa only [upd_ne _ _ e] using hn
    obtain ⟨q1, q2, q3, q4⟩ := h.own d' B' hn' hB'
    exact ⟨q1, by simpa using q2, q3, fun hf => q4 (hfoot _ hf)⟩

/-- the world grows; blocks of the call's own that no box has, and that hold no cell that stays ('M'), may have turned -/
theorem RelAt.scratch (h : RelAt P E w0 I0 n s a w I be) (M : Nat → Prop) (hM : ∀ B, M B → E.fresh w0 B ∧ (∀ p, I p → p.block ≠ B) ∧ ¬ E.foot w B ∧ ∀ d, s.b d ≠ none → be d ≠ some B)
    (hos : w'.os = w.os) (htape : w'.tape = w.tape) (hout : w'.output = w.output) (hsz : w.heap.size ≤ w'.heap.size)
    (hblk : ∀ k, k < w.heap.size → ¬ M k → w'.heap[k]? = w.heap[k]?) : RelAt P E w0 I0 n s a w' I be := by
  have hs := h.since.step (I' := I) hos htape hout hsz M hblk (fun k hk => ⟨(hM k hk).1, (hM k hk).2.2.1⟩) (fun _ h => h) (fun _ h => .inl h)
  have hc : ∀ p v, I p → w.cell? p = some v → w'.cell? p = some v := fun p v hp hv => by
    rw [cell?_of_heap (hblk p.block (h.since.lt p hp) (fun hm => (hM _ hm).2.1 p hp rfl))]; exact hv
  have hB : ∀ d B, s.b d ≠ none → be d = some B → w'.heap[B]? = w.heap[B]? := fun d B hd hB => hblk B (h.own d B hd hB).2.1 (fun hm => (hM _ hm).2.2.2 d hd hB)
  have hd : ∀ d, s.g d < s.g d ∨ (s.g d = s.g d ∧ BoxKept P w w' be be s.b s.b d) := fun d => .inr ⟨rfl, .of_block rfl rfl (fun B hn => hB d B hn)⟩
  refine ⟨hs, h.size, h.defers, fun t ht => (h.regs t ht).keep (fun _ h => h) hc hd, fun d x hx => (h.boxes d x hx).keep (fun _ h => h) hc hd rfl (fun B => hB d B (by simp [hx])), h.inj, fun d B hd hB => ?_, h.tie⟩
  obtain ⟨h1, h2, h3, h4⟩ := h.own d B hd hB
  refine ⟨h1, by omega, h3, fun hf => h4 ?_⟩
  exact (E.stays w w' h.since.inv (fun b hb => hblk b (E.lt w b h.since.inv hb) (fun hm => (hM b hm).2.2.1 hb))).2 B hf

/-- more cells stay: those of a block of the call's own that no box has -/
theorem RelAt.stay (h : RelAt P E w0 I0 n s a w I be) (B : Nat) (hB : E.fresh w0 B ∧ B < w.heap.size ∧ ¬ E.foot w B ∧ ∀ d, s.b d ≠ none → be d ≠ some B) :
    RelAt P E w0 I0 n s a w (fun p => I p ∨ p.block = B) be := by
  have hs := h.since.step (w' := w) (I' := fun p => I p ∨ p.block = B) rfl rfl rfl (Nat.le_refl _) (fun _ => False) (fun _ _ _ => rfl) (fun _ hk => hk.elim) (fun _ h => .inl h)
    (by
      rintro p (hp | rfl)
      · exact .inl hp
      · exact .inr ⟨hB.1, hB.2.1, hB.2.2.1⟩)
  have hd : ∀ d, s.g d < s.g d ∨ (s.g d = s.g d ∧ BoxKept P w w be be s.b s.b d) := fun d => .inr ⟨rfl, .of_block rfl rfl (fun _ _ _ => rfl)⟩
  refine ⟨hs, h.size, h.defers, fun t ht => (h.regs t ht).keep (fun _ h => .inl h) (fun _ _ _ h => h) hd, fun d x hx => (h.boxes d x hx).keep (fun _ h => .inl h) (fun _ _ _ h => h) hd rfl (fun B _ => rfl), h.inj, fun d B' hd hB' => ?_, h.tie⟩
  obtain ⟨h1, h2, h3, h4⟩ := h.own d B' hd hB'
  refine ⟨h1, h2, fun p hp => ?_, h4⟩
  rcases hp with hp | hp
  · exact h3 p hp
  · intro e
    exact hB.2.2.2 d hd (by rw [hB', ← e, hp])

theorem cell_at {w : World} {B : Nat} {cur : Array Value} {t : TypeId} {fr : Nat × Nat} (hw : w.heap[B]? = some (.cells cur t fr)) (k : Nat) : w.cell? ⟨B, k, none⟩ = cur[k]? := cell_of_row w B k cur t fr hw

theorem addr_add (B o k : Nat) : (⟨B, o, none⟩ : Addr).add k = ⟨B, o + k, none⟩ := by
  unfold Addr.add
  split
  · subst_vars; rfl
  · rfl

theorem getD_some {cur : Array Value} {k : Nat} (h : k < cur.size) : cur[k]? = some (cur.getD k undef) := by
  simp [h]

theorem slot_lt {i j sz cap len : Nat} (hi : i < len) (hl : len ≤ cap) (hj : j < sz) : i * sz + j < cap * sz := by
  have h1 : (i + 1) * sz ≤ cap * sz := Nat.mul_le_mul_right _ (by omega)
  rw [Nat.add_mul] at h1
  omega

/-- what a view shows, its block's cells staying -/
theorem view_rep {e : TypeId} {xs : List AV} {d off len : Nat} {v : Value} {I' : Cells} (hb : s.b d = some (.arr e xs)) (hx : boxRep P w I be s.b s.g d (.arr e xs)) (hv : viewAt P w be s.b d off len v)
    (hII : ∀ p, I p → I' p) (hIB : ∀ B, be d = some B → ∀ p : Addr, p.block = B → I' p) : Rep w I' v (.sl ((xs.drop off).take len)) := by
  obtain ⟨h1, h2, h3, h4⟩ := hx
  unfold viewAt at hv
  simp only [hb] at hv
  obtain ⟨hl, hv⟩ := hv
  cases hq : be d with
  | none =>
    simp only [hq] at hv h4
    subst h4
    obtain ⟨A, rfl⟩ := hv
    have hl0 : len = 0 := by simp at hl; omega
    subst hl0
    cases A with
    | none => exact .slNone 0
    | some a => exact .sl a 0 0 0 _ (fun _ _ => undef) (by simp) (by simp) (by simp [maxLen]) (fun i x hx => by simp at hx) (fun i j x c hx => by simp at hx) (fun i j x c hx => by simp at hx) (fun i j x c hx => by simp at hx)
  | some B =>
    simp only [hq] at hv h4
    obtain ⟨cur, cap, A, hw, hs, rfl, hA⟩ := hv
    obtain ⟨cur', cap', hw', hs', hm, hlc, hel⟩ := h4
    rw [hw] at hw'
    injection hw' with hw'
    injection hw' with e1 e2
    subst e1
    have hcap : cap' = cap := by
      have := hs.symm.trans hs'
      exact (Nat.eq_of_mul_eq_mul_right h1 this).symm
    subst hcap
    by_cases hoc : off < cap'
    · obtain rfl := hA hoc
      have hlen : ((xs.drop off).take len).length = len := by simp; omega
      have key : ∀ (i j : Nat) (x c : AV), ((xs.drop off).take len)[i]? = some x → x.cells[j]? = some c → xs[off + i]? = some x ∧ off * P.cellsOf e + (i * P.cellsOf e + j) = (off + i) * P.cellsOf e + j ∧ (off + i) * P.cellsOf e + j < cur.size := by
        intro i j x c hx hc
        rw [List.getElem?_take] at hx
        split at hx
        · rw [List.getElem?_drop] at hx
          have hxl : off + i < xs.length := (List.getElem?_eq_some_iff.1 hx).1
          have hjl : j < P.cellsOf e := by rw [← (h3 _ _ hx).1]; exact (List.getElem?_eq_some_iff.1 hc).1
          refine ⟨hx, by rw [Nat.add_mul]; omega, ?_⟩
          rw [hs]
          exact slot_lt hxl hlc hjl
        · cases hx
      refine .sl _ len (cap' - off) (P.cellsOf e) _ (fun i j => cur.getD ((off + i) * P.cellsOf e + j) undef) hlen.symm (by omega) (by omega) (fun i x hx => ?_) (fun i j x c hx hc => ?_) (fun i j x c hx hc => ?_) (fun i j x c hx hc => ?_)
      · rw [List.getElem?_take] at hx
        split at hx
        · rw [List.getElem?_drop] at hx; exact h3 _ _ hx
        · cases hx
      · obtain ⟨k1, k2, k3⟩ := key i j x c hx hc
        rw [addr_add, k2, cell_at hw, getD_some k3]
      · rw [addr_add]
        exact hIB B hq _ rfl
      · obtain ⟨k1, k2, k3⟩ := key i j x c hx hc
        exact (hel _ _ x c k1 hc).mono hII (fun _ _ _ h => h)
    · have hl0 : len = 0 := by omega
      subst hl0
      have hz : cap' - off = 0 := by omega
      rw [hz]
      cases A with
      | none => exact .slNone 0
      | some a => exact .sl a 0 0 0 _ (fun _ _ => undef) (by simp) (by simp) (by simp [maxLen]) (fun i x hx => by simp at hx) (fun i j x c hx => by simp at hx) (fun i j x c hx => by simp at hx) (fun i j x c hx => by simp at hx)

/-- what a register becomes where array box d is given to what stays -/
def frz (d gd : Nat) (xs : List AV) : Reg → Reg
  | .view d' gg off len => if d' = d ∧ gg = gd then .val (.sl ((xs.drop off).take len)) else .view d' gg off len
  | r => r
def frzBx (d gd : Nat) (xs : List AV) : Bx → Bx
  | .cells cs => .cells (cs.map (frz d gd xs))
  | x => x
def St.freeze (s : St) (d : Nat) (xs : List AV) : St :=
  { r := fun t => frz d (s.g d) xs (s.r t), b := upd (fun d' => (s.b d').map (frzBx d (s.g d) xs)) d none, g := s.g }

theorem frz_rep {d : Nat} {xs : List AV} {I' : Cells} {b' : Nat → Option Bx} (hd : ∀ d', s.g d' < s.g d' ∨ (s.g d' = s.g d' ∧ BoxKept P w w be be s.b b' d')) (hII : ∀ p, I p → I' p)
    (hv : ∀ off len v, viewAt P w be s.b d off len v → Rep w I' v (.sl ((xs.drop off).take len))) {v : Value} {r : Reg} (h : regRep P w I be s.b s.g v r) :
    regRep P w I' be b' s.g v (frz d (s.g d) xs r) := by
  have h' := regRep.keep hII (fun _ _ _ h => h) hd h
  cases r with
  | view d' gg off len =>
    simp only [frz]
    by_cases e : d' = d ∧ gg = s.g d
    · rw [if_pos e]
      obtain ⟨rfl, rfl⟩ := e
      exact hv off len v (h.2 rfl)
    · rw [if_neg e]; exact h'
  | none => exact h'
  | val a => exact h'
  | full xs => exact h'
  | loc d gg sz i k => exact h'
  | tup rs => exact h'

/-- array box d is given to what stays -/
theorem RelAt.freeze (h : RelAt P E w0 I0 n s a w I be) (d : Nat) (e : TypeId) (xs : List AV) (hx : s.b d = some (.arr e xs)) :
    ∃ I', RelAt P E w0 I0 n (s.freeze d xs) a w I' be := by
  have hdn : s.b d ≠ none := by simp [hx]
  have hbox := h.boxes d _ hx
  let I' : Cells := fun p => I p ∨ ∃ B, be d = some B ∧ p.block = B
  have hs : Since E w0 I0 w I' := h.since.step (w' := w) (I' := I') rfl rfl rfl (Nat.le_refl _) (fun _ => False) (fun _ _ _ => rfl) (fun _ hk => hk.elim) (fun _ h => .inl h)
    (by
      rintro p (hp | ⟨B, hB, rfl⟩)
      · exact .inl hp
      · obtain ⟨q1, q2, q3, q4⟩ := h.own d _ hdn hB
        exact .inr ⟨q1, q2, q4⟩)
  have hd : ∀ d', s.g d' < s.g d' ∨ (s.g d' = s.g d' ∧ BoxKept P w w be be s.b (s.freeze d xs).b d') := by
    intro d'
    refine .inr ⟨rfl, ?_⟩
    simp only [St.freeze]
    by_cases e' : d' = d
    · subst e'
      exact ⟨fun h => by simp at h, fun off len v _ => by simp [viewAt]⟩
    · refine ⟨fun hh => ⟨fun hn => by simp [upd_ne _ _ e', hn] at hh, rfl⟩, fun off len v hv => ?_⟩
      unfold viewAt at hv ⊢
      rw [upd_ne _ _ e']
      cases hq : s.b d' with
      | none => simp
      | some x => cases x with
        | cells cs => simp [frzBx]
        | arr e2 ys => simpa [hq, frzBx] using hv
  have hv : ∀ off len v, viewAt P w be s.b d off len v → Rep w I' v (.sl ((xs.drop off).take len)) := fun off len v hv =>
    view_rep hx hbox hv (fun _ h => .inl h) (fun B hB p hp => .inr ⟨B, hB, hp⟩)
  refine ⟨I', hs, h.size, h.defers, fun t ht => frz_rep hd (fun _ h => .inl h) hv (h.regs t ht), fun d' x' hx' => ?_, fun d1 d2 B h1 h2 h3 h4 => ?_, fun d' B hn hB => ?_, fun d' B h1 h2 h3 => h.tie d' B h1 h2 (by
    simp only [St.freeze] at h3
    by_cases e : d' = d
    · subst e; simp at h3
    · simp only [upd_ne _ _ e] at h3
      intro hn; simp [hn] at h3)⟩
  · simp only [St.freeze] at hx'
    by_cases e' : d' = d
    · subst e'; simp at hx'
    · rw [upd_ne _ _ e'] at hx'
      cases hq : s.b d' with
      | none => simp [hq] at hx'
      | some y =>
        simp only [hq, Option.map_some, Option.some.injEq] at hx'
        subst hx'
        have hy := h.boxes d' y hq
        cases y with
        | cells cs =>
          obtain ⟨B, cur, t, k1, k2, k3, k4⟩ := hy
          refine ⟨B, cur, t, k1, k2, by simpa using k3, fun j c hc => ?_⟩
          simp only [List.getElem?_map, Option.map_eq_some_iff] at hc
          obtain ⟨c0, hc0, rfl⟩ := hc
          exact frz_rep hd (fun _ h => .inl h) hv (k4 j c0 hc0)
        | arr e2 ys => exact hy.keep (fun _ h => .inl h) (fun _ _ _ h => h) hd rfl (fun B _ => rfl)
  · have hn : ∀ d', (s.freeze d xs).b d' ≠ none → s.b d' ≠ none := fun d' hh hn => by
      simp only [St.freeze] at hh
      by_cases e' : d' = d
      · subst e'; simp at hh
      · simp [upd_ne _ _ e', hn] at hh
    exact h.inj d1 d2 B (hn d1 h1) (hn d2 h2) h3 h4
  · have e' : d' ≠ d := fun e' => by subst e'; simp [St.freeze] at hn
    have hn' : s.b d' ≠ none := fun hh => by simp [St.freeze, upd_ne _ _ e', hh] at hn
    obtain ⟨q1, q2, q3, q4⟩ := h.own d' B hn' hB
    refine ⟨q1, q2, fun p hp => ?_, q4⟩
    rcases hp with hp | ⟨B', hB', e2⟩
    · exact q3 p hp
    · intro e3
      exact e' (h.inj d' d B hn' hdn hB (by rw [hB', ← e2, e3]))

end

end Go.Ev
