import Derived.Test.YtoelfoplajpgnaaEvDraw4
set_option linter.unusedVariables false
set_option linter.unusedSimpArgs false
set_option linter.unusedSectionVars false

namespace Go.Ev
open Go

/-- whatever order is picked from here on -/
def anyS (P : Program) (E : Env) (ops : Array Oper) (K : St → Prop) : Nat → Array Bool → St → Prop
  | 0, listed, s => Region.ready .any ops listed = [] ∧ K s
  | fuel + 1, listed, s => (Region.ready .any ops listed = [] → K s) ∧
    ∀ i ∈ Region.ready .any ops listed, ∃ o e, ops[i]? = some o ∧ Yl P E ops o s e ∧ anyS P E ops K fuel (listed.setIfInBounds i true) (s.eff o.dst e)

/-- in text order -/
def textS (P : Program) (E : Env) (ops : Array Oper) (K : St → Prop) : List Oper → St → Prop
  | [], s => K s
  | o :: l, s => ∃ e, Yl P E ops o s e ∧ textS P E ops K l (s.eff o.dst e)

def Closed (ops : Array Oper) (listed : Array Bool) : Prop := ∀ k o, ops[k]? = some o → listed.getD k true = true → ∀ e ∈ o.after, Region.binds .any e = true → listed.getD e.on false = true

section
variable {P : Program} {E : Env} {ops : Array Oper} {K : St → Prop}

theorem getD_lt {listed : Array Bool} {i : Nat} (h : listed.getD i true = false) : listed.getD i false = false := by
  rcases Nat.lt_or_ge i listed.size with h' | h'
  · simp [h'] at h ⊢; exact h
  · simp [Array.getElem?_eq_none h'] at h
theorem getD_ft {listed : Array Bool} {i : Nat} (h : listed.getD i false = true) : listed.getD i true = true := by
  rcases Nat.lt_or_ge i listed.size with h' | h'
  · simp [h'] at h ⊢; exact h
  · simp [Array.getElem?_eq_none h'] at h

theorem closed_waits {listed : Array Bool} (hc : Closed ops listed) {q i : Nat} (h : Waits ops q i) : listed.getD q true = true → listed.getD i false = true := by
  induction h with
  | edge k o e h he hb => intro hl; exact hc k o h hl e he hb
  | trans k o e i h he hb h2 ih => intro hl; exact ih (getD_ft (hc k o h hl e he hb))

theorem ready_waits {listed : Array Bool} (hc : Closed ops listed) {q i : Nat} (h : Waits ops q i) (hq : q ∈ Region.ready .any ops listed) : listed.getD i false = true := by
  obtain ⟨_, o', ho', hall⟩ := mem_ready.1 hq
  cases h with
  | edge _ o e h he hb =>
    rw [ho'] at h; cases h
    exact hall e he hb
  | trans _ o e i h he hb h2 =>
    rw [ho'] at h; cases h
    exact closed_waits hc h2 (getD_ft (hall e he hb))

theorem getD_set_tt {listed : Array Bool} {i j : Nat} (h : listed.getD j true = true) : (listed.setIfInBounds i true).getD j true = true := by
  by_cases hij : i = j
  · subst hij
    rcases Nat.lt_or_ge i listed.size with h' | h'
    · simp [h']
    · simp [Array.getElem?_eq_none, h']
  · rw [getD_set_ne true hij]; exact h

theorem Closed.set {listed : Array Bool} (hc : Closed ops listed) {j : Nat} (hj : j ∈ Region.ready .any ops listed) : Closed ops (listed.setIfInBounds j true) := by
  intro k o hk hl e he hb
  by_cases hkj : j = k
  · subst hkj
    obtain ⟨_, o', ho', hall⟩ := mem_ready.1 hj
    rw [ho'] at hk; cases hk
    exact getD_set_true (hall e he hb)
  · rw [getD_set_ne true hkj] at hl
    exact getD_set_true (hc k o hk hl e he hb)

theorem anyS_first {i : Nat} {oi : Oper} {ei : Eff} (hi : ops[i]? = some oi) : ∀ (fuel : Nat) (listed : Array Bool) (s : St), Closed ops listed →
    (∀ j oj, ops[j]? = some oj → j ≠ i → listed.getD j true = false → Waits ops j i ∨ (oi.apart ops oj = true ∧ memApart (memOf oi.op) (memOf oj.op) = true)) →
    i ∈ Region.ready .any ops listed → Yl P E ops oi s ei → anyS P E ops K fuel (listed.setIfInBounds i true) (s.eff oi.dst ei) → anyS P E ops K (fuel + 1) listed s
  | 0, listed, s, hc, hfree, hr, hy, H => by
    refine ⟨fun h => (by rw [h] at hr; cases hr), fun j hj => ?_⟩
    by_cases hji : j = i
    · subst hji; exact ⟨oi, ei, hi, hy, H⟩
    · have := ready_mono hj hji
      rw [H.1] at this
      cases this
  | fuel + 1, listed, s, hc, hfree, hr, hy, H => by
    refine ⟨fun h => (by rw [h] at hr; cases hr), fun j hj => ?_⟩
    by_cases hji : j = i
    · subst hji; exact ⟨oi, ei, hi, hy, H⟩
    · obtain ⟨oj, ej, hoj, hyj, hK⟩ := H.2 j (ready_mono hj hji)
      have hjun := (mem_ready.1 hj).1
      rcases hfree j oj hoj hji hjun with hw | ⟨hap, hm⟩
      · have h1 := ready_waits hc hw hj
        have h2 := getD_lt (mem_ready.1 hr).1
        rw [h1] at h2; cases h2
      · obtain ⟨y1, y2, y3⟩ := Yl.swap hap hm hy hyj
        refine ⟨oj, ej, hoj, y1, ?_⟩
        refine anyS_first hi fuel _ _ (hc.set hj) (fun k ok hk hki hun => hfree k ok hk hki ?_) (ready_mono hr (Ne.symm hji)) y2 ?_
        · by_cases hjk : j = k
          · subst hjk; exact hjun
          · rw [getD_set_ne true hjk] at hun; exact hun
        · rw [Array.setIfInBounds_comm _ _ hji, y3]
          exact hK

theorem drawOk_spec (h : drawOk ops = true) {k : Nat} {ok : Oper} (hk : ops[k]? = some ok) :
    (∀ e ∈ ok.after, Region.binds .any e = true → e.on < k) ∧ ∀ i oi, i < k → ops[i]? = some oi → Waits ops k i ∨ (oi.apart ops ok = true ∧ memApart (memOf oi.op) (memOf ok.op) = true) := by
  have hlt : k < ops.size := (Array.getElem?_eq_some_iff.1 hk).1
  unfold drawOk at h
  have := List.all_eq_true.1 h k (List.mem_range.2 hlt)
  simp only [hk, Bool.and_eq_true] at this
  obtain ⟨⟨⟨h1, _⟩, _⟩, h4⟩ := this
  refine ⟨fun e he hb => ?_, fun i oi hik hoi => ?_⟩
  · have := Array.all_eq_true_iff_forall_mem.1 h1 e he
    simpa [hb] using this
  · have := List.all_eq_true.1 h4 i (List.mem_range.2 hik)
    simp only [hoi, Bool.or_eq_true, Bool.and_eq_true] at this
    rcases this with h5 | h5
    · exact .inl (before_waits h5)
    · exact .inr h5

theorem anyS_text (hd : drawOk ops = true) : ∀ (l : List Oper) (k : Nat) (listed : Array Bool) (s : St), (∀ j, l[j]? = ops[k + j]?) → listed.size = ops.size → (∀ j, j < ops.size → (listed.getD j true = true ↔ j < k)) →
    textS P E ops K l s → anyS P E ops K l.length listed s
  | [], k, listed, s, hl, hsz, hli, h => by
    refine ⟨?_, h⟩
    apply List.eq_nil_iff_forall_not_mem.2
    intro i hi
    obtain ⟨h1, o, ho, _⟩ := mem_ready.1 hi
    have hlt : i < ops.size := (Array.getElem?_eq_some_iff.1 ho).1
    have hk : ops.size ≤ k := by
      have := hl 0
      simp at this
      exact this
    have := (hli i hlt).2 (by omega)
    rw [h1] at this; cases this
  | o :: l, k, listed, s, hl, hsz, hli, h => by
    have h0 : ops[k]? = some o := by simpa using (hl 0).symm
    have hlt : k < ops.size := (Array.getElem?_eq_some_iff.1 h0).1
    obtain ⟨e, hy, hK⟩ := h
    obtain ⟨hedge, _⟩ := drawOk_spec hd h0
    have hun : ∀ j, j < ops.size → listed.getD j true = false → k ≤ j := fun j hj hu => by
      rcases Nat.lt_or_ge j k with hlt' | hge
      · have := (hli j hj).2 hlt'; rw [hu] at this; cases this
      · exact hge
    have hset : ∀ j, j < k → listed.getD j false = true := fun j hj => by
      have h1 := (hli j (by omega)).2 hj
      have : j < listed.size := by rw [hsz]; omega
      simp [this] at h1 ⊢; exact h1
    refine anyS_first h0 l.length listed s ?_ ?_ ?_ hy ?_
    · intro q oq hq hlq e' he' hb'
      have hqlt : q < ops.size := (Array.getElem?_eq_some_iff.1 hq).1
      have h2 := (drawOk_spec hd hq).1 e' he' hb'
      have h3 := (hli q hqlt).1 hlq
      exact hset _ (by omega)
    · intro j oj hj hjk hu
      have hjlt : j < ops.size := (Array.getElem?_eq_some_iff.1 hj).1
      have := hun j hjlt hu
      exact (drawOk_spec hd hj).2 k o (by omega) h0
    · refine mem_ready.2 ⟨?_, o, h0, fun e' he' hb' => hset _ (hedge e' he' hb')⟩
      cases hv : listed.getD k true with
      | false => rfl
      | true => have := (hli k hlt).1 hv; omega
    · refine anyS_text hd l (k + 1) _ _ (fun j => by have := hl (j + 1); simpa [Nat.add_assoc, Nat.add_comm 1 j] using this) (by simpa using hsz) (fun j hj => ?_) hK
      by_cases hjk : k = j
      · subst hjk
        have : k < listed.size := by rw [hsz]; exact hlt
        simp [this]
      · rw [getD_set_ne true hjk, hli j hj]
        omega

end

section
variable {P : Program} {E : Env} {w0 : World} {I0 : Cells} {n : Nat} {o : Oper} {s : St} {ops : Array Oper}

theorem wanted_sound {b : Bool} {a : Act} {w : World} (hok : okRegion n ops = true) (ho : o ∈ ops) (hw : wantedS ops o s = some b) (hR : Rel P E w0 I0 n s a w) : Region.wanted o (yielded ops a.tmps) = b := by
  have hoko := Array.all_eq_true'.1 hok o ho
  simp only [Bool.and_eq_true] at hoko
  unfold wantedS at hw
  cases hg : o.guard with
  | none => simp only [hg, Option.some.injEq] at hw; simp [Region.wanted, hg, hw]
  | some p =>
    obtain ⟨j, want⟩ := p
    simp only [hg] at hw
    cases hj : (ops[j]?).bind (·.dst) with
    | none => simp only [hj] at hw; cases hw
    | some t =>
      simp only [hj] at hw
      have hlt : t < n := by
        have := hoko.2
        simp only [hg, hj] at this
        simpa using this
      obtain ⟨I, be, hR'⟩ := hR
      simp only [Region.wanted, hg]
      exact gate_sound hR' hlt hj hw

theorem any_sound (hok : okRegion n ops = true) {Q : AExit → St → Prop} {X : AV → Prop} : ∀ (fuel : Nat) (listed : Array Bool) (s : St) (a : Act) (w : World), anyS P E ops (Q .normal) fuel listed s → Rel P E w0 I0 n s a w →
    wpAny P .any ops (lift P E w0 I0 n Q X) fuel listed a w
  | 0, listed, s, a, w, h, hR => ⟨h.1, s, hR, h.2⟩
  | fuel + 1, listed, s, a, w, h, hR => by
    refine ⟨fun h0 => ⟨s, hR, h.1 h0⟩, fun i hi => ?_⟩
    obtain ⟨o, e, ho, hy, hK⟩ := h.2 i hi
    have hmem := Array.mem_of_getElem? ho
    have hoko := Array.all_eq_true'.1 hok o hmem
    simp only [Bool.and_eq_true] at hoko
    unfold wpOp
    simp only [ho]
    rcases hy with ⟨hw, hop⟩ | ⟨hw, rfl⟩
    · rw [wanted_sound hok hmem hw hR]
      simp only [if_true]
      refine .inl ?_
      have := opD_sound (E := E) (w0 := w0) (I0 := I0) hoko.1 (of_opE (K := fun s' => anyS P E ops (Q .normal) fuel (listed.setIfInBounds i true) s') hop hK) a w hR (lift P E w0 I0 n Q X) (fun x v a' w' I' hx => hx.elim)
      exact Oper.wp_mono (fun a' w' ⟨s', h1, h2⟩ => any_sound hok fuel _ s' a' w' h2 h1) this
    · rw [wanted_sound hok hmem hw hR]
      simp only [Bool.false_eq_true, if_false]
      obtain ⟨I, be, hR'⟩ := hR
      exact any_sound hok fuel _ _ _ w hK ⟨I, be, hR'.put o.dst (r := .tup []) ⟨#[], rfl, rfl, fun j r hr => by simp at hr⟩⟩

/-- the operations of a region that draws its order, in text order -/
def dops (P : Program) (E : Env) (ops : Array Oper) (K : St → Prop) : List Oper → St → Prop
  | [], s => K s
  | o :: rest, s =>
    match o.guard with
    | none => opD P E o s (dops P E ops K rest)
    | some (j, want) => ∃ t, (ops[j]?).bind (·.dst) = some t ∧ ∃ b, gate s t want = some b ∧ if b = true then opD P E o s (dops P E ops K rest) else dops P E ops K rest (s.put o.dst (.tup []))

theorem dops_nil {K : St → Prop} (h : K s) : dops P E ops K [] s := h
theorem dops_cons {K : St → Prop} {rest : List Oper} (hg : o.guard = none) (h : ∀ K' : St → Prop, (∀ s, dops P E ops K rest s → K' s) → opD P E o s K') : dops P E ops K (o :: rest) s := by
  unfold dops
  simp only [hg]
  exact h _ fun _ h => h
theorem textS_of_dops {K : St → Prop} : ∀ {l : List Oper} {s : St}, dops P E ops K l s → textS P E ops K l s
  | [], s, h => h
  | o :: l, s, h => by
    have run : wantedS ops o s = some true → opD P E o s (dops P E ops K l) → textS P E ops K (o :: l) s := fun hw h => by
      obtain ⟨e, h1, h2⟩ := opE_of h
      exact ⟨e, .inl ⟨hw, h1⟩, textS_of_dops h2⟩
    unfold dops at h
    cases hg : o.guard with
    | none =>
      simp only [hg] at h
      exact run (by simp [wantedS, hg]) h
    | some p =>
      obtain ⟨j, want⟩ := p
      simp only [hg] at h
      obtain ⟨t, hj, b, hb, h⟩ := h
      cases b with
      | true => simp only [if_true] at h; exact run (by simp [wantedS, hg, hj, hb]) h
      | false => simp only [Bool.false_eq_true, if_false] at h; exact ⟨.val (.tup []), .inr ⟨by simp [wantedS, hg, hj, hb], rfl⟩, textS_of_dops h⟩

variable {Q : AExit → St → Prop} {X : AV → Prop}

/-- A REGION THAT DRAWS ITS ORDER: text order serves. -/
theorem awp_draw {id : Nat} {l : List Oper} (hm : P.follows .mixedOrders = true) (hl : ops.toList = l) (hok : okRegion n ops = true) (hd : drawOk ops = true) (h : dops P E ops (Q .normal) l s) : awp P E w0 I0 n (.region id ops true) Q X s := by
  intro a w hR
  subst hl
  refine wp_region_any hm ?_
  have hR' : Rel P E w0 I0 n s a { w with drawn := w.drawn + 1 } := by
    obtain ⟨I, be, hR⟩ := hR
    exact ⟨I, be, hR.grow rfl rfl rfl (Nat.le_refl _) (fun _ _ => rfl)⟩
  have := anyS_text (P := P) (E := E) hd ops.toList 0 (Array.replicate ops.size false) s (by simp) (by simp) (fun j hj => by simp [hj]) (textS_of_dops h)
  exact any_sound hok _ _ _ _ _ (by simpa using this) hR'

/-- a box is let go -/
theorem awp_drop {c : Code} (d : Nat) (h : awp P E w0 I0 n c Q X { s with b := upd s.b d none }) : awp P E w0 I0 n c Q X s :=
  awp_weak (fun a w ⟨I, be, hR⟩ => ⟨I, be, hR.drop d⟩) h

end
end Go.Ev
