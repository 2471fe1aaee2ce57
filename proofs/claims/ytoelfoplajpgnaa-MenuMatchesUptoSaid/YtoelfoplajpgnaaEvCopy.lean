import Derived.Test.YtoelfoplajpgnaaEvSpec
set_option linter.unusedVariables false
set_option linter.unusedSimpArgs false
set_option linter.unusedSectionVars false

namespace Go.Ev
open Go

section
variable {P : Program} {E : Env} {w0 : World} {I0 : Cells} {n : Nat} {o : Oper} {s : St} {K : St → Prop} {a : Act} {w w' : World} {I I' : Cells} {be : Nat → Option Nat} {b : Nat → Option Bx} {g : Nat → Nat}

theorem run_copy_at {t u ty e : TypeId} {B q m : Nat} {cur : Array Value} {T : TypeId} {len cap : Nat} {v : Value} {news : List Value} (ht : P.underlying t = some (.slice e)) (hs : 0 < P.cellsOf e) (hw : w.heap[B]? = some (.cells cur T (0, 0)))
    {k : Nat} (hlen : (Builtin.lenOf v).run P w = .ok k w) (hm : m = min k len) (hf : (Builtin.firstCells (P.cellsOf e) m v).run P w = .ok news.toArray w) (h1 : ∀ u ∈ news, u.oneCell' = true) (hfit : q + news.length ≤ cur.size) :
    (Builtin.copy_ #[t, u] ty #[.slice (some ⟨B, q, none⟩) len cap, v]).run P w = .ok (.int .i64 m) (w.setRow B (writeAt cur.toList q news).toArray) := by
  have hst := run_storeCells_at P B q T news 0 cur w hw (by simpa using hfit) h1
  simp only [Nat.add_zero] at hst
  have hm' : Nat.min k len = m := hm.symm
  simp [Builtin.copy_, run_underlying ht, hlen, hm', run_sizeOf rfl hs, hf, hst, goInt, writeAt]

theorem run_copy_none {t u ty e : TypeId} {A : Option Addr} {cap : Nat} {v : Value} (ht : P.underlying t = some (.slice e)) (hs : 0 < P.cellsOf e)
    {k : Nat} (hlen : (Builtin.lenOf v).run P w = .ok k w) (hf : (Builtin.firstCells (P.cellsOf e) 0 v).run P w = .ok #[] w) :
    (Builtin.copy_ #[t, u] ty #[.slice A 0 cap, v]).run P w = .ok (.int .i64 0) w := by
  have hm' : Nat.min k 0 = 0 := Nat.min_eq_right (Nat.zero_le _)
  cases A <;> simp [Builtin.copy_, run_underlying ht, hlen, run_sizeOf rfl hs, hf, goInt, storeCells]

theorem sound_copy {x y : Operand} {t u e : TypeId} (ho : o.op = .call { callee := .builtin .copy, args := #[x, y], argTypes := #[t, u] }) (hok : okOper n o = true) (ht : sliceOf P t = some e) {d gg off len : Nat} {xs ys : List AV} (hx : s.ev x = .view d gg off len) (hg : gg = s.g d) (hb : s.b d = some (.arr e xs))
    (hy : srcOf P s e (s.ev y) = some ys) (hel : Elems P e ys)
    (hK : K (St.put { s with b := upd s.b d (some (.arr e (writeAt xs off (ys.take (min ys.length len))))) } o.dst (.val (.fl (.int .i64 (min ys.length len : Nat)))))) : Sound P E w0 I0 n o s K := by
  rintro a w ⟨I, be, hR⟩ Qc
  have h1 := okOper_ev hok (x := x) (by simp [ho, Op.operands, Call.operands]) hR
  have h2 := okOper_ev hok (x := y) (by simp [ho, Op.operands, Call.operands]) hR
  rw [hx] at h1
  obtain ⟨news, hsrc⟩ := srcOf_src hR h2 hy hel
  have hu := sliceOf_spec ht
  have hbox := hR.boxes d _ hb
  obtain ⟨hs0, hxm, hxel, hbB⟩ := hbox
  obtain ⟨hl, hv⟩ := view_at h1 hg hb
  obtain ⟨cs, hcs0⟩ := run_call_builtin ho a
  have nothing : ∀ A c, len = 0 → a.eval x = .slice A len c → o.wp P a w (fun a' w' => ∃ s', Rel P E w0 I0 n s' a' w' ∧ K s') Qc := by
    rintro A c rfl e1
    have hf := hsrc.cells w rfl 0 (Nat.zero_le _)
    simp only [Nat.zero_mul, List.take_zero] at hf
    have hr := run_copy_none (P := P) (w := w) (t := t) (u := u) (ty := o.type) (A := A) (cap := c) hu hs0 (hsrc.len w) hf
    refine wp_value (v := .int .i64 0) (w' := w) (by rw [hcs0]; simp [builtin, e1, hr]) ⟨_, ?_, hK⟩
    have e2 : writeAt xs off (ys.take (min ys.length 0)) = xs := by simp [writeAt]
    have e3 : ({ s with b := upd s.b d (some (.arr e xs)) } : St) = s := by
      have : upd s.b d (some (.arr e xs)) = s.b := by funext t; by_cases h : t = d <;> simp [upd, h, hb]
      rw [this]
    rw [e2, e3]
    exact ⟨I, be, hR.put o.dst (v := .int .i64 0) (r := .val (.fl (.int .i64 ((min ys.length 0 : Nat) : Int)))) (by rw [Nat.min_zero]; exact .fl _ rfl)⟩
  cases hB : be d with
  | none =>
    simp only [hB] at hv hbB
    obtain ⟨A, e1⟩ := hv
    subst hbB
    exact nothing A 0 (by simp at hl; omega) e1
  | some B =>
    simp only [hB] at hv hbB
    obtain ⟨cur, cap, A, hw, hcs, e1, hA⟩ := hv
    obtain ⟨cur', cap', hw', hcs', hcm, hlc, hrep⟩ := hbB
    rw [hw] at hw'
    injection hw' with hw'
    injection hw' with q1 q2
    subst q1
    have hcap : cap' = cap := (Nat.eq_of_mul_eq_mul_right hs0 (hcs.symm.trans hcs')).symm
    subst hcap
    by_cases hoc : off < cap'
    · obtain rfl := hA hoc
      have hmle : min ys.length len ≤ ys.length := Nat.min_le_left _ _
      have hf := hsrc.cells w rfl (min ys.length len) hmle
      have hnl : (news.take (min ys.length len * P.cellsOf e)).length = min ys.length len * P.cellsOf e := by
        rw [List.length_take, hsrc.size]; have := Nat.mul_le_mul_right (P.cellsOf e) hmle; omega
      have hlim : (off + min ys.length len) * P.cellsOf e ≤ cap' * P.cellsOf e := Nat.mul_le_mul_right _ (by omega)
      have hfit : off * P.cellsOf e + (news.take (min ys.length len * P.cellsOf e)).length ≤ cur.size := by rw [hnl, hcs, ← Nat.add_mul]; exact hlim
      have hr := run_copy_at (P := P) (w := w) (t := t) (u := u) (ty := o.type) (len := len) (cap := cap' - off) hu hs0 hw (hsrc.len w) rfl hf (fun u hu => hsrc.one u (List.mem_of_mem_take hu)) hfit
      have hsz : (writeAt cur.toList (off * P.cellsOf e) (news.take (min ys.length len * P.cellsOf e))).toArray.size = cur.size := by
        rw [List.size_toArray, length_writeAt (by simpa using hfit)]; simp
      have htl : (ys.take (min ys.length len)).length = min ys.length len := by simp
      have hfx : off + (ys.take (min ys.length len)).length ≤ xs.length := by rw [htl]; omega
      have hlen : (writeAt xs off (ys.take (min ys.length len))).length = xs.length := length_writeAt hfx
      obtain ⟨hkc, hkd⟩ := hR.set_kept d _ (.arr e (writeAt xs off (ys.take (min ys.length len)))) B hb hB cur _ e hw hsz (.inr ⟨_, _, _, rfl, rfl, hlen⟩)
      have hset := hR.setBox d _ (.arr e (writeAt xs off (ys.take (min ys.length len)))) B hb hB cur _ e hw hsz (.inr ⟨_, _, _, rfl, rfl, hlen⟩) ⟨hs0, by rw [hlen]; exact hxm, fun i2 x2 h2 => ?_, ?_⟩
      · refine wp_value (v := .int .i64 (min ys.length len : Nat)) (w' := w.setRow B (writeAt cur.toList (off * P.cellsOf e) (news.take (min ys.length len * P.cellsOf e))).toArray) (by rw [hcs0]; simp [builtin, e1]; rw [hr]; rfl) ⟨_, ⟨I, be, hset.put o.dst (r := .val (.fl (.int .i64 (min ys.length len : Nat)))) (.fl _ rfl)⟩, hK⟩
      · rw [getElem?_writeAt hfx] at h2
        split at h2
        · exact hxel _ _ h2
        · split at h2
          · rw [List.getElem?_take] at h2
            split at h2
            · exact hel x2 (List.mem_of_getElem? h2)
            · cases h2
          · exact hxel _ _ h2
      · simp only [hB]
        refine ⟨_, cap', setRow_heap w B cur _ e (0, 0) hw, by rw [hsz, hcs], hcm, by rw [hlen]; exact hlc, fun i2 j x2 c h2 h3 => ?_⟩
        refine Rep.mono (w := w) (I := I) (fun _ h => h) hkc ?_
        rw [getD_toArray_writeAt (by simpa using hfit), hnl]
        rw [getElem?_writeAt hfx, htl] at h2
        have hjl : j < P.cellsOf e := by
          have : x2.cells.length = P.cellsOf e := by
            split at h2
            · exact (hxel _ _ h2).1
            · split at h2
              · rw [List.getElem?_take] at h2
                split at h2
                · exact (hel x2 (List.mem_of_getElem? h2)).1
                · cases h2
              · exact (hxel _ _ h2).1
          rw [← this]; exact (List.getElem?_eq_some_iff.1 h3).1
        by_cases c1 : i2 < off
        · rw [if_pos c1] at h2
          have h4 : (i2 + 1) * P.cellsOf e ≤ off * P.cellsOf e := Nat.mul_le_mul_right _ c1
          rw [Nat.add_mul, Nat.one_mul] at h4
          rw [if_pos (by omega)]
          exact hrep _ _ _ _ h2 h3
        · rw [if_neg c1] at h2
          have h4 : off * P.cellsOf e ≤ i2 * P.cellsOf e := Nat.mul_le_mul_right _ (by omega)
          rw [if_neg (by omega)]
          by_cases c2 : i2 < off + min ys.length len
          · rw [if_pos c2, List.getElem?_take, if_pos (by omega)] at h2
            have h5 : (i2 + 1) * P.cellsOf e ≤ (off + min ys.length len) * P.cellsOf e := Nat.mul_le_mul_right _ c2
            rw [Nat.add_mul, Nat.one_mul, Nat.add_mul] at h5
            rw [if_pos (by omega)]
            have h6 := hsrc.rep _ j x2 c h2 h3
            have e5 : i2 * P.cellsOf e + j - off * P.cellsOf e = (i2 - off) * P.cellsOf e + j := by rw [Nat.sub_mul]; omega
            rw [e5, List.getD_eq_getElem?_getD, List.getElem?_take, if_pos (by rw [Nat.sub_mul]; omega), ← List.getD_eq_getElem?_getD]
            exact h6
          · rw [if_neg c2] at h2
            have h5 : (off + min ys.length len) * P.cellsOf e ≤ i2 * P.cellsOf e := Nat.mul_le_mul_right _ (by omega)
            rw [Nat.add_mul] at h5
            rw [if_neg (by omega)]
            exact hrep _ _ _ _ h2 h3
    · exact nothing A _ (by omega) e1

/-- an assignment of a box's slice: the box takes the variable's name -/
def St.adopt (s : St) (d d' : Nat) (e : TypeId) (xs : List AV) (len : Nat) : St := (({ s with b := upd s.b d' none } : St)).newArr d e (xs.take len)

theorem RelAt.adopt (h : RelAt P E w0 I0 n s a w I be) (d d' : Nat) {gg len : Nat} {e : TypeId} {xs : List AV} {v : Value} (hv : regRep P w I be s.b s.g v (.view d' gg 0 len)) (hg : gg = s.g d') (hb : s.b d' = some (.arr e xs)) :
    ∃ be', RelAt P E w0 I0 n (s.adopt d d' e xs len) (a.put (some d) v) w I be' := by
  have hdn : s.b d' ≠ none := by simp [hb]
  obtain ⟨hs0, hxm, hxel, hbB⟩ := h.boxes d' _ hb
  obtain ⟨hl, hvv⟩ := view_at hv hg hb
  have hdrop := h.drop d'
  have hlen : (xs.take len).length = len := by simp; omega
  have hx : boxRep P w I (upd be d (be d')) (upd (upd s.b d' none) d (some (.arr e (xs.take len)))) (upd s.g d (s.g d + 1)) d (.arr e (xs.take len)) := by
    refine ⟨hs0, by rw [hlen]; omega, fun i x hi => ?_, ?_⟩
    · rw [List.getElem?_take] at hi
      split at hi
      · exact hxel _ _ hi
      · cases hi
    · rw [upd_same]
      cases hB : be d' with
      | none => simp only [hB] at hbB; subst hbB; simp
      | some B =>
        simp only [hB] at hbB
        obtain ⟨cur, cap, q1, q2, q3, q4, q5⟩ := hbB
        refine ⟨cur, cap, q1, q2, q3, by rw [hlen]; omega, fun i j x c hi hc => ?_⟩
        rw [List.getElem?_take] at hi
        split at hi
        · exact q5 _ _ _ _ hi hc
        · cases hi
  have hrc := hdrop.recreate d (.arr e (xs.take len)) (be d') hx (fun B hB => by
    obtain ⟨q1, q2, q3, q4⟩ := h.own d' B hdn hB
    refine ⟨q1, q2, q3, q4, fun d2 hd2 hn2 he2 => ?_⟩
    by_cases ed : d2 = d'
    · subst ed; simp at hn2
    · simp only [upd_ne _ _ ed] at hn2
      exact ed (h.inj d2 d' _ hn2 hdn he2 hB))
  refine ⟨upd be d (be d'), ?_⟩
  have hp := hrc.put (some d) (v := v) (r := .view d (s.g d + 1) 0 len) ⟨by simp, fun _ => by
    unfold viewAt
    simp only [upd_same]
    refine ⟨by rw [hlen]; omega, ?_⟩
    cases hB : be d' with
    | none => simp only [hB] at hvv; exact hvv
    | some B =>
      simp only [hB] at hvv
      obtain ⟨cur, cap, A, q1, q2, q3, q4⟩ := hvv
      exact ⟨cur, cap, A, q1, q2, q3, q4⟩⟩
  unfold St.adopt St.newArr
  rw [hlen]
  exact hp

theorem sound_assign_view {x : Operand} (ho : o.op = .assign x) (hok : okOper n o = true) {d : Nat} (hd : o.dst = some d) {d' gg len : Nat} {e : TypeId} {xs : List AV} (hx : s.ev x = .view d' gg 0 len) (hg : gg = s.g d') (hb : s.b d' = some (.arr e xs)) (hK : K (s.adopt d d' e xs len)) : Sound P E w0 I0 n o s K := by
  rintro a w ⟨I, be, hR⟩ Qc
  have h1 := okOper_ev hok (x := x) (by simp [ho, Op.operands]) hR
  rw [hx] at h1
  obtain ⟨be', h2⟩ := hR.adopt d d' h1 hg hb
  exact wp_value (v := a.eval x) (w' := w) (by simp [execOp, ho]) ⟨_, ⟨I, be', by rw [hd]; exact h2⟩, hK⟩

end
end Go.Ev
