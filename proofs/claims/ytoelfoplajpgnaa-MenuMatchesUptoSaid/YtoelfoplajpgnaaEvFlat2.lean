import Derived.Laws.Build
import Derived.Test.YtoelfoplajpgnaaEvFlat
set_option linter.unusedVariables false
set_option linter.unusedSimpArgs false
set_option linter.unusedSectionVars false

namespace Go.Ev
open Go

section
variable {P : Program} {E : Env} {w0 : World} {I0 : Cells} {n : Nat} {o : Oper} {s : St} {K : St → Prop} {a : Act} {w : World} {I : Cells} {be : Nat → Option Nat} {b : Nat → Option Bx} {g : Nat → Nat}

theorem regAVsOf_rep (hok : okOper n o = true) (hR : RelAt P E w0 I0 n s a w I be) {ps : List Operand} (hin : ∀ x ∈ ps, x ∈ o.op.operands) {r : List AV} (h : regAVsOf s ps = some r) : RepL w I (ps.map a.eval) r := by
  obtain ⟨hl, hq⟩ := regAVsOf_spec h
  refine ⟨by simp [hl], fun j v c hv hc => ?_⟩
  simp only [List.getElem?_map, Option.map_eq_some_iff] at hv
  obtain ⟨p, hp, rfl⟩ := hv
  exact regAV_rep (okOper_ev hok (hin p (List.mem_of_getElem? hp)) hR) (hq j p c hp hc)

theorem yield_makeFunc {f : FuncId} {caps : Array Operand} (ho : o.op = .makeFunc (.func f) #[] caps) (hok : okOper n o = true) {xs : List AV} (hx : regAVsOf s caps.toList = some xs) : Yield P E w0 I0 n o s (.val (.fn f xs)) :=
  fun a w I be hR => by
    have h1 := regAVsOf_rep hok hR (ps := caps.toList) (fun x hx => by simp [ho, Op.operands]; simpa using hx) hx
    refine ⟨.func (.func f) #[] (caps.map a.eval), by simp [execOp, ho, Instr.makeFunc], .fn f _ _ (by simpa using h1.1) fun j c hc => ?_⟩
    have hj : j < caps.size := by have := h1.1; have h3 := (List.getElem?_eq_some_iff.1 hc).1; simp at this; omega
    have := h1.2 j (a.eval caps[j]) c (by simp [hj]) hc
    simpa [hj] using this

theorem yield_makeInterface {t : TypeId} {x : Operand} (ho : o.op = .makeInterface t x) (hok : okOper n o = true) (ht : P.concrete t = true) {v : AV} (hx : regAV (s.ev x) = some v) : Yield P E w0 I0 n o s (.val (.ifc t v)) :=
  fun a w I be hR => by
    have h1 := regAV_rep (okOper_ev hok (x := x) (by simp [ho, Op.operands]) hR) hx
    exact ⟨.iface t (a.eval x), by simp [execOp, ho, run_makeInterface _ t _ ht], .ifc t _ _ h1⟩

theorem yield_field {t : TypeId} {x : Operand} {f off : Nat} {ft : TypeId} (ho : o.op = .field t x f) (hok : okOper n o = true) (hf : fieldOf P t f = some (off, ft)) {cs : List AV} (hx : s.ev x = .val (.agg cs))
    {K : AV → Prop} (hK : loadAV P ft (cs.drop off) K) : ∃ v, K v ∧ Yield P E w0 I0 n o s (.val v) := by
  obtain ⟨fs, fd, hu, hfd, rfl, rfl, hs⟩ := fieldOf_spec hf
  obtain ⟨h1, h2, h3⟩ := hK
  cases hb : agg? P fd.type with
  | none => simp [hb] at h3
  | some q =>
    cases q with
    | true =>
      simp only [hb] at h3
      refine ⟨_, h3, fun a w I be hR => ?_⟩
      have hx1 := okOper_ev hok (x := x) (by simp [ho, Op.operands]) hR
      rw [hx] at hx1
      generalize hv : a.eval x = v at *
      cases hx1 with
      | agg vs cs hl hr =>
        have hdl : fd.offset + P.cellsOf fd.type ≤ vs.size := by simp at h2; omega
        refine ⟨.agg (vs.extract fd.offset (fd.offset + P.cellsOf fd.type)), ?_, .agg _ _ (by simp; omega) fun j c hc => ?_⟩
        · simp [execOp, ho, hv, Instr.field, run_underlying hu, hfd, part, run_isAgg hb, run_sizeOf rfl h1, asAgg]
        · rw [List.getElem?_take] at hc
          split at hc
          · rename_i hj
            rw [List.getElem?_drop] at hc
            have := hr _ c hc
            have hj2 : fd.offset + j < vs.size := by omega
            have e : (vs.extract fd.offset (fd.offset + P.cellsOf fd.type)).getD j undef = vs.getD (fd.offset + j) undef := by
              simp only [Array.getD_eq_getD_getElem?, Array.getElem?_extract]
              rw [if_pos (by omega)]
            rw [e]; exact this
          · cases hc
    | false =>
      simp only [hb] at h3
      refine ⟨_, h3, fun a w I be hR => ?_⟩
      have hx1 := okOper_ev hok (x := x) (by simp [ho, Op.operands]) hR
      rw [hx] at hx1
      generalize hv : a.eval x = v at *
      cases hx1 with
      | agg vs cs hl hr =>
        have hdl : fd.offset < vs.size := by simp at h2; omega
        refine ⟨vs[fd.offset], ?_, ?_⟩
        · simp [execOp, ho, hv, Instr.field, run_underlying hu, hfd, part, run_isAgg hb, hdl, asAgg]
        · have hc : cs[fd.offset]? = some cs[fd.offset] := List.getElem?_eq_getElem (by omega)
          have e : (cs.drop fd.offset).headD (.fl undef) = cs[fd.offset] := by
            rw [List.drop_eq_getElem_cons (by omega)]; rfl
          rw [e]
          have := hr _ _ hc
          simpa [hdl, regRep] using this

/-! ### slices of slices -/

/-- a bound of a slice expression -/
def bnd (s : St) (dflt : Nat) : Option Operand → Option Nat
  | none => some dflt
  | some x => match s.ev x with
    | .val (.fl (.int _ m)) => if 0 ≤ m then some m.toNat else none
    | _ => none

theorem bnd_none {dflt : Nat} {l : Nat} (h : bnd s dflt none = some l) : l = dflt := by simp [bnd] at h; exact h.symm

theorem bnd_some (hok : okOper n o = true) (hR : RelAt P E w0 I0 n s a w I be) {x : Operand} (hin : x ∈ o.op.operands) {dflt l : Nat} (h : bnd s dflt (some x) = some l) : ∃ k, a.eval x = .int k l := by
  unfold bnd at h
  simp only at h
  cases hr : s.ev x with
  | val y =>
    cases y with
    | fl v =>
      cases v with
      | int k m =>
        simp only [hr] at h
        split at h
        · rename_i h0
          injection h with h
          have h1 := okOper_ev hok hin hR
          rw [hr] at h1
          exact ⟨k, by rw [rep_fl h1]; congr 1; omega⟩
        · cases h
      | _ => simp [hr] at h
    | _ => simp [hr] at h
  | _ => simp [hr] at h

theorem run_sliceBound {k : IntKind} {l y : Nat} {code : BoundsCode} (h : l ≤ y) : (Instr.sliceBound (.int k l) y code).run P w = .ok l w := by
  have h1 : (0 : Int) ≤ l ∧ (l : Int) ≤ y := by omega
  simp [Instr.sliceBound, asIntOf, h1]

/-- the bounds as the model reckons them -/
theorem run_sliceBounds (hok : okOper n o = true) (hR : RelAt P E w0 I0 n s a w I be) {lo hi mx : Option Operand} (hin : ∀ x, lo = some x ∨ hi = some x ∨ mx = some x → x ∈ o.op.operands) {len cap l h m : Nat} {q : Bool}
    (hl : bnd s 0 lo = some l) (hh : bnd s len hi = some h) (hm : bnd s cap mx = some m) (h1 : l ≤ h) (h2 : h ≤ m) (h3 : m ≤ cap) (h4 : mx = none ∨ hi ≠ none) :
    (Instr.sliceBounds q len cap (lo.map a.eval) (hi.map a.eval) (mx.map a.eval)).run P w = .ok (l, h, m) w := by
  have hlo : lo = none ∧ l = 0 ∨ ∃ x k, lo = some x ∧ a.eval x = .int k l := by
    cases lo with
    | none => exact .inl ⟨rfl, bnd_none hl⟩
    | some x => obtain ⟨k, e⟩ := bnd_some hok hR (hin x (.inl rfl)) hl; exact .inr ⟨x, k, rfl, e⟩
  have hhi : hi = none ∧ h = len ∨ ∃ x k, hi = some x ∧ a.eval x = .int k h := by
    cases hi with
    | none => exact .inl ⟨rfl, bnd_none hh⟩
    | some x => obtain ⟨k, e⟩ := bnd_some hok hR (hin x (.inr (.inl rfl))) hh; exact .inr ⟨x, k, rfl, e⟩
  have hmx : mx = none ∧ m = cap ∨ ∃ x k, mx = some x ∧ a.eval x = .int k m := by
    cases mx with
    | none => exact .inl ⟨rfl, bnd_none hm⟩
    | some x => obtain ⟨k, e⟩ := bnd_some hok hR (hin x (.inr (.inr rfl))) hm; exact .inr ⟨x, k, rfl, e⟩
  clear hl hh hm hin
  have b1 : ∀ (k : IntKind) (code : BoundsCode), (Instr.sliceBound (.int k l) h code).run P w = .ok l w := fun k code => run_sliceBound h1
  have b2 : ∀ (k : IntKind) (code : BoundsCode), (Instr.sliceBound (.int k h) m code).run P w = .ok h w := fun k code => run_sliceBound h2
  have b3 : ∀ (k : IntKind) (code : BoundsCode), (Instr.sliceBound (.int k m) cap code).run P w = .ok m w := fun k code => run_sliceBound h3
  rcases hmx with ⟨rfl, rfl⟩ | ⟨z, kz, rfl, ez⟩ <;> rcases hhi with ⟨rfl, rfl⟩ | ⟨y, ky, rfl, ey⟩ <;> rcases hlo with ⟨rfl, rfl⟩ | ⟨x, kx, rfl, ex⟩ <;>
    first
    | (exfalso; rcases h4 with h | h <;> simp at h; done)
    | simp [Instr.sliceBounds, *]

theorem run_sliceAt (hok : okOper n o = true) (hR : RelAt P E w0 I0 n s a w I be) {t e : TypeId} (ht : P.underlying t = some (.slice e)) (hs : 0 < P.cellsOf e) {lo hi mx : Option Operand} (hin : ∀ x, lo = some x ∨ hi = some x ∨ mx = some x → x ∈ o.op.operands) {A : Option Addr} {len cap l h m : Nat}
    (hl : bnd s 0 lo = some l) (hh : bnd s len hi = some h) (hm : bnd s cap mx = some m) (h1 : l ≤ h) (h2 : h ≤ m) (h3 : m ≤ cap) (h4 : mx = none ∨ hi ≠ none) :
    (Instr.sliceAt t (.slice A len cap) (lo.map a.eval) (hi.map a.eval) (mx.map a.eval)).run P w = .ok (.slice (if m = l then A else A.map (·.add (l * P.cellsOf e))) (h - l) (m - l)) w := by
  have hb := run_sliceBounds (q := true) hok hR hin hl hh hm h1 h2 h3 h4
  simp only [Instr.sliceAt, Instr.slice, Sem.run_bind, run_underlying ht, Result.andThen_ok, hb, run_sizeOf rfl hs, Sem.run_pure]

theorem rep_empty_slice (A : Option Addr) (c : Nat) (hc : c ≤ maxLen) : Rep w I (.slice A 0 c) (.sl []) := by
  cases A with
  | none => exact .slNone c
  | some a => exact .sl a 0 c 0 _ (fun _ _ => undef) rfl (by simp) hc (fun i x hx => by simp at hx) (fun i j x c hx => by simp at hx) (fun i j x c hx => by simp at hx) (fun i j x c hx => by simp at hx)

theorem rep_sub {a : Addr} {len cap : Nat} {xs : List AV} {e : TypeId} (hr : Rep w I (.slice (some a) len cap) (.sl xs)) (hsz : ∀ x ∈ xs, x.cells.length = P.cellsOf e) {l h m : Nat} (h1 : l ≤ h) (hx : h ≤ xs.length) (h2 : h ≤ m) (h3 : m ≤ cap) (hc : cap ≤ maxLen) :
    Rep w I (.slice (if m = l then some a else (some a).map (·.add (l * P.cellsOf e))) (h - l) (m - l)) (.sl ((xs.drop l).take (h - l))) := by
  by_cases h0 : h = l
  · subst h0
    simp only [Nat.sub_self, List.take_zero]
    exact rep_empty_slice _ _ (by omega)
  · have hml : ¬ m = l := by omega
    simp only [hml, if_false, Option.map_some]
    cases hr with
    | sl a' n cap' sz _ cv hn hcap hmax hszz hcc hI hrr =>
      have hsz' : sz = P.cellsOf e := by
        have h5 : xs[0]? = some xs[0] := List.getElem?_eq_getElem (by omega)
        rw [← (hszz 0 _ h5).1]
        exact hsz _ (List.getElem_mem _)
      subst hsz'
      have key : ∀ (i : Nat) (x : AV), ((xs.drop l).take (h - l))[i]? = some x → xs[l + i]? = some x := by
        intro i x hi
        rw [List.getElem?_take] at hi
        split at hi
        · rwa [List.getElem?_drop] at hi
        · cases hi
      have hadd : ∀ i j, (a.add (l * P.cellsOf e)).add (i * P.cellsOf e + j) = a.add ((l + i) * P.cellsOf e + j) := fun i j => by
        rw [add_add, Nat.add_mul]; congr 1; omega
      refine .sl _ _ _ (P.cellsOf e) _ (fun i j => cv (l + i) j) (by simp; omega) (by simp; omega) (by omega) (fun i x hi => hszz _ _ (key i x hi)) (fun i j x c hi hj => ?_) (fun i j x c hi hj => ?_) (fun i j x c hi hj => ?_)
      · rw [hadd]; exact hcc _ _ _ _ (key i x hi) hj
      · rw [hadd]; exact hI _ _ _ _ (key i x hi) hj
      · exact hrr _ _ _ _ (key i x hi) hj

theorem rep_slice_form {v : Value} {xs : List AV} (h : Rep w I v (.sl xs)) : ∃ A cap, v = .slice A xs.length cap ∧ xs.length ≤ cap ∧ (A = none → xs = []) := by
  cases h with
  | slNone c => exact ⟨none, c, rfl, by simp, fun _ => rfl⟩
  | sl a n cap sz xs cv hn hcap hmax hsz hc hI hr => subst hn; exact ⟨some a, cap, rfl, hcap, fun h => by cases h⟩

/-- of a slice whose cells stay (no third bound) -/
theorem yield_slice_sl {t e : TypeId} {x : Operand} {lo hi : Option Operand} (ho : o.op = .slice t x lo hi none) (hok : okOper n o = true) (ht : sliceOf P t = some e) (hs : 0 < P.cellsOf e) {xs : List AV} (hx : regAV (s.ev x) = some (.sl xs)) (hsz : ∀ x ∈ xs, x.cells.length = P.cellsOf e)
    {l h : Nat} (hl : bnd s 0 lo = some l) (hh : bnd s xs.length hi = some h) (h1 : l ≤ h) (h2 : h ≤ xs.length) : Yield P E w0 I0 n o s (.val (.sl ((xs.drop l).take (h - l)))) :=
  fun a w I be hR => by
    have hr := regAV_rep (okOper_ev hok (x := x) (by simp [ho, Op.operands]) hR) hx
    obtain ⟨A, cap, e1, hcap, hnil⟩ := rep_slice_form hr
    have hrun := run_sliceAt (P := P) hok hR (w := w) (A := A) (cap := cap) (mx := none) (sliceOf_spec ht) hs (fun y hy => by rcases hy with h | h | h <;> simp [ho, Op.operands, h]) hl hh (by simp [bnd]) h1 (by omega) (Nat.le_refl _) (.inl rfl)
    refine ⟨_, by simp only [execOp, ho, e1, Sem.run_bind, Option.map_none] at hrun ⊢; rw [hrun]; rfl, ?_⟩
    rw [e1] at hr
    cases A with
    | none =>
      have := hnil rfl
      subst this
      have h5 : h = 0 := by simpa using h2
      have h6 : l = 0 := by omega
      subst h5 h6
      simp only [List.drop_nil, List.take_nil, Option.map_none, ite_self]
      exact .slNone _
    | some ad => 
      have hm : cap ≤ maxLen := by cases hr; assumption
      exact rep_sub hr hsz h1 h2 (by omega) (Nat.le_refl _) hm

/-- .. with a third bound, the second one's: no spare room -/
theorem yield_slice_full {t e : TypeId} {x y z : Operand} {lo : Option Operand} (ho : o.op = .slice t x lo (some y) (some z)) (hok : okOper n o = true) (ht : sliceOf P t = some e) (hs : 0 < P.cellsOf e) {xs : List AV} (hx : regAV (s.ev x) = some (.sl xs)) (hsz : ∀ x ∈ xs, x.cells.length = P.cellsOf e)
    {l h : Nat} (hl : bnd s 0 lo = some l) (hh : bnd s 0 (some y) = some h) (hm : bnd s 0 (some z) = some h) (h1 : l ≤ h) (h2 : h ≤ xs.length) : Yield P E w0 I0 n o s (.full ((xs.drop l).take (h - l))) :=
  fun a w I be hR => by
    have hr := regAV_rep (okOper_ev hok (x := x) (by simp [ho, Op.operands]) hR) hx
    obtain ⟨A, cap, e1, hcap, hnil⟩ := rep_slice_form hr
    have hrun := run_sliceAt (P := P) hok hR (w := w) (A := A) (len := xs.length) (cap := cap) (hi := some y) (mx := some z) (sliceOf_spec ht) hs (fun y hy => by rcases hy with h | h | h <;> simp [ho, Op.operands, h]) hl hh hm h1 (Nat.le_refl _) (by omega) (.inr (by simp))
    have hlen : ((xs.drop l).take (h - l)).length = h - l := by simp; omega
    refine ⟨_, by simp only [execOp, ho, e1, Sem.run_bind, Option.map_some] at hrun ⊢; rw [hrun]; rfl, ?_, by rw [hlen]; exact ⟨_, rfl⟩⟩
    rw [e1] at hr
    cases A with
    | none =>
      have := hnil rfl
      subst this
      have h5 : h = 0 := by simpa using h2
      have h6 : l = 0 := by omega
      subst h5 h6
      simp only [List.drop_nil, List.take_nil, Option.map_none, ite_self]
      exact .slNone _
    | some ad => 
      have hm : cap ≤ maxLen := by cases hr; assumption
      exact rep_sub hr hsz h1 h2 (Nat.le_refl _) (by omega) hm

/-- of a box's slice -/
theorem yield_slice_view {t e : TypeId} {x : Operand} {lo hi : Option Operand} (ho : o.op = .slice t x lo hi none) (hok : okOper n o = true) (ht : sliceOf P t = some e) {d gg off len : Nat} {xs : List AV} (hx : s.ev x = .view d gg off len) (hg : gg = s.g d) (hb : s.b d = some (.arr e xs))
    {l h : Nat} (hl : bnd s 0 lo = some l) (hh : bnd s len hi = some h) (h1 : l ≤ h) (h2 : h ≤ len) : Yield P E w0 I0 n o s (.view d gg (off + l) (h - l)) :=
  fun a w I be hR => by
    have hr := okOper_ev hok (x := x) (by simp [ho, Op.operands]) hR
    rw [hx] at hr
    obtain ⟨hs0, hxm, hxel, hbB⟩ := hR.boxes d _ hb
    obtain ⟨hll, hv⟩ := view_at hr hg hb
    have hin : ∀ y, lo = some y ∨ hi = some y ∨ (none : Option Operand) = some y → y ∈ o.op.operands := fun y hy => by rcases hy with h | h | h <;> simp [ho, Op.operands, h]
    cases hB : be d with
    | none =>
      simp only [hB] at hv hbB
      obtain ⟨A, e1⟩ := hv
      subst hbB
      have hl0 : len = 0 := by simp at hll; omega
      have hh0 : h = 0 := by omega
      have hll0 : l = 0 := by omega
      subst hl0 hh0 hll0
      have hrun := run_sliceAt (P := P) hok hR (w := w) (A := A) (cap := 0) (mx := none) (sliceOf_spec ht) hs0 hin hl hh (by simp [bnd]) h1 (Nat.le_refl _) (Nat.le_refl _) (.inl rfl)
      refine ⟨_, by simp only [execOp, ho, e1, Sem.run_bind, Option.map_none] at hrun ⊢; rw [hrun]; rfl, hr.1, fun _ => ?_⟩
      unfold viewAt
      simp only [hb, hB]
      exact ⟨by simp at hll ⊢; omega, A, by simp⟩
    | some B =>
      simp only [hB] at hv hbB
      obtain ⟨cur, cap, A, hw, hcs, e1, hA⟩ := hv
      obtain ⟨cur', cap', hw', hcs', hcm, hlc, _⟩ := hbB
      rw [hw] at hw'
      injection hw' with hw'
      injection hw' with q1 q2
      subst q1
      have hcap : cap' = cap := (Nat.eq_of_mul_eq_mul_right hs0 (hcs.symm.trans hcs')).symm
      subst hcap
      have hrun := run_sliceAt (P := P) hok hR (w := w) (A := A) (cap := cap' - off) (mx := none) (sliceOf_spec ht) hs0 hin hl hh (by simp [bnd]) h1 (by omega) (Nat.le_refl _) (.inl rfl)
      refine ⟨_, by simp only [execOp, ho, e1, Sem.run_bind, Option.map_none] at hrun ⊢; rw [hrun]; rfl, hr.1, fun _ => ?_⟩
      unfold viewAt
      simp only [hb, hB]
      refine ⟨by omega, cur, cap', (if cap' - off = l then A else A.map (·.add (l * P.cellsOf e))), hw, hcs, ?_, ?_⟩
      · congr 1
        omega
      · intro hlt
        have h5 : ¬ cap' - off = l := by omega
        rw [if_neg h5, hA (by omega)]
        simp only [Option.map_some, addr_add, Nat.add_mul]

end
end Go.Ev
