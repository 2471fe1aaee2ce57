import Derived.Laws.IdiomStrings
import Derived.Test.YtoelfoplajpgnaaEvWalk
set_option linter.unusedVariables false
set_option linter.unusedSimpArgs false
set_option linter.unusedSectionVars false

namespace Go.Ev
open Go

section
variable {P : Program} {E : Env} {w0 : World} {I0 : Cells} {n : Nat} {o : Oper} {s : St} {K : St → Prop} {a : Act} {w w' : World} {I I' : Cells} {be : Nat → Option Nat}

/-- a new block that no box has is given to what stays -/
theorem RelAt.keepNew (h : RelAt P E w0 I0 n s a w I be) {B : Nat} (h1 : E.fresh w0 B) (h2 : B < w.heap.size) (h3 : ¬ E.foot w B) (h4 : ∀ d, s.b d ≠ none → be d ≠ some B) : RelAt P E w0 I0 n s a w (fun p => I p ∨ p.block = B) be := by
  have hs : Since E w0 I0 w (fun p => I p ∨ p.block = B) := h.since.step (w' := w) rfl rfl rfl (Nat.le_refl _) (fun _ => False) (fun _ _ _ => rfl) (fun _ hk => hk.elim) (fun _ h => .inl h) (by
    rintro p (hp | rfl)
    · exact .inl hp
    · exact .inr ⟨h1, h2, h3⟩)
  have hd : ∀ d, s.g d < s.g d ∨ (s.g d = s.g d ∧ BoxKept P w w be be s.b s.b d) := fun d => .inr ⟨rfl, .of_block rfl rfl (fun B hn => fun _ => rfl)⟩
  refine ⟨hs, h.size, h.defers, fun t ht => (h.regs t ht).keep (fun _ h => .inl h) (fun _ _ _ h => h) hd, fun d x hx => (h.boxes d x hx).keep (fun _ h => .inl h) (fun _ _ _ h => h) hd rfl (fun B _ => rfl), h.inj, fun d B' hd hB => ?_, h.tie⟩
  obtain ⟨q1, q2, q3, q4⟩ := h.own d B' hd hB
  refine ⟨q1, q2, ?_, q4⟩
  rintro p (hp | rfl)
  · exact q3 p hp
  · intro e; exact h4 d hd (by rw [hB, e])

/-- text to bytes? -/
def bytesT (P : Program) (src dst : TypeId) : Bool :=
  match P.underlying src, P.underlying dst with
  | some .string, some (.slice e) => match P.underlying e with
    | some (.int .u8) => true
    | _ => false
  | _, _ => false
theorem bytesT_spec {src dst : TypeId} (h : bytesT P src dst = true) : P.underlying src = some .string ∧ ∃ e, P.underlying dst = some (.slice e) ∧ P.underlying e = some (.int .u8) := by
  unfold bytesT at h
  split at h
  · rename_i e h1 h2
    split at h
    · rename_i h3; exact ⟨h1, e, h2, h3⟩
    · cases h
  · cases h

def byteAVs (l : List UInt8) : List AV := l.map fun c => .fl (.int .u8 c.toNat)

/-- '[]byte(s)': cells that stay -/
theorem sound_bytes {src dst e : TypeId} {x : Operand} (ho : o.op = .convert src dst x) (hok : okOper n o = true) (hs : P.underlying src = some .string) (hd : P.underlying dst = some (.slice e)) (he : P.underlying e = some (.int .u8)) {l : List UInt8} (hx : s.ev x = .val (.fl (bs l))) (hl : l.length ≤ maxLen)
    (hK : K (s.put o.dst (.val (.sl (byteAVs l))))) : Sound P E w0 I0 n o s K := by
  rintro a w ⟨I, be, hR⟩ Qc
  have h1 := okOper_ev hok (x := x) (by simp [ho, Op.operands]) hR
  rw [hx] at h1
  have e1 := rep_fl h1
  have hsz : (ByteArray.mk l.toArray).size = l.length := by simp [ByteArray.size]
  have hr := run_bytes_of_string w src dst e ⟨l.toArray⟩ hs hd he
  rw [hsz] at hr
  obtain ⟨cap, hcap⟩ : ∃ cap, grownCap w l.length 0 e = cap := ⟨_, rfl⟩
  have hge := grownCap_ge w l.length 0 e
  have hle := grownCap_le_maxLen w l.length 0 e hl
  rw [hcap] at hr hge hle
  obtain ⟨row, hrow⟩ : ∃ row, bytesRow ⟨l.toArray⟩ cap = row := ⟨_, rfl⟩
  have hcell : ∀ (i : Nat) (c : UInt8), l[i]? = some c → row[i]? = some (Value.int .u8 c.toNat) := fun i c hi => by
    have hlt := (List.getElem?_eq_some_iff.1 hi).1
    rw [← hrow, bytesRow, Array.getElem?_append_left (by simpa using hlt)]
    simp [hi]
  rw [hrow] at hr
  refine wp_value (v := .slice (some ⟨w.heap.size, 0, none⟩) l.length cap) (w' := w.drew.alloc (.cells row e (row.size, row.size + 1))) (by simp [execOp, ho, e1, hr]) ⟨_, ?_, hK⟩
  obtain ⟨hR', hnew, q1, q2, q3, q4, q5⟩ := hR.fresh (w' := w.drew.alloc (.cells row e (row.size, row.size + 1))) (o := .cells row e (row.size, row.size + 1)) rfl rfl rfl rfl
  have hR2 := hR'.keepNew (B := w.heap.size) q1 q2 q4 q5
  refine ⟨_, be, hR2.put o.dst ?_⟩
  refine Rep.sl ⟨w.heap.size, 0, none⟩ l.length cap 1 (byteAVs l) (fun i _ => row.getD i undef) (by simp [byteAVs]) (by simpa [byteAVs] using hge) hle (fun i x hx => ?_) (fun i j x c hx hc => ?_) (fun i j x c hx hc => ?_) (fun i j x c hx hc => ?_)
  · simp only [byteAVs, List.getElem?_map, Option.map_eq_some_iff] at hx
    obtain ⟨c, _, rfl⟩ := hx
    simp [AV.cells, AV.wf, AV.isAgg]
  · simp only [byteAVs, List.getElem?_map, Option.map_eq_some_iff] at hx
    obtain ⟨q, hq, rfl⟩ := hx
    have hj : j = 0 := by have := (List.getElem?_eq_some_iff.1 hc).1; simp [AV.cells] at this; exact this
    subst hj
    have h3 := hcell i q hq
    have e2 : (Addr.mk w.heap.size 0 none).add (i * 1 + 0) = ⟨w.heap.size, i, none⟩ := by
      unfold Addr.add
      split
      · rename_i h0; have : i = 0 := by omega
        subst this; rfl
      · simp
    rw [e2]
    simp only [World.cell?, hnew]
    simp [h3]
  · right
    unfold Addr.add
    split <;> rfl
  · simp only [byteAVs, List.getElem?_map, Option.map_eq_some_iff] at hx
    obtain ⟨q, hq, rfl⟩ := hx
    have hj : j = 0 := by have := (List.getElem?_eq_some_iff.1 hc).1; simp [AV.cells] at this; exact this
    subst hj
    simp [AV.cells] at hc
    subst hc
    have h3 := hcell i q hq
    simp only [Array.getD_eq_getD_getElem?, h3, Option.getD_some]
    exact .fl _ rfl
end
end Go.Ev
