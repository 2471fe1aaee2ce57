import Derived.Test.YtoelfoplajpgnaaEvDraw3
set_option linter.unusedVariables false
set_option linter.unusedSimpArgs false
set_option linter.unusedSectionVars false

namespace Go.Ev
open Go

theorem upd_comm {α : Type} (f : Nat → α) {d d' : Nat} (x y : α) (h : d ≠ d') : upd (upd f d x) d' y = upd (upd f d' y) d x := by
  funext t
  simp only [upd]
  by_cases h1 : t = d
  · subst h1; simp [h]
  · simp [h1]

/-- is the operation wanted? -/
def wantedS (ops : Array Oper) (o : Oper) (s : St) : Option Bool :=
  match o.guard with
  | none => some true
  | some (j, want) => match (ops[j]?).bind (·.dst) with
    | some t => gate s t want
    | none => none

/-- what comes of it, here -/
def Yl (P : Program) (E : Env) (ops : Array Oper) (o : Oper) (s : St) (e : Eff) : Prop :=
  (wantedS ops o s = some true ∧ opE P E o s e) ∨ (wantedS ops o s = some false ∧ e = .val (.tup []))

section
variable {P : Program} {E : Env} {ops : Array Oper} {o oi oj : Oper} {s s' : St} {e ei ej : Eff}

theorem eff_r (s : St) (dst : Option Nat) (e : Eff) {t : Nat} (h : dst ≠ some t) : (s.eff dst e).r t = s.r t := by
  cases e with
  | val r =>
    cases dst with
    | none => rfl
    | some d => exact upd_ne _ _ (by simpa [eq_comm] using h)
  | cells cs =>
    cases dst with
    | none => rfl
    | some d => exact upd_ne _ _ (by simpa [eq_comm] using h)
  | box d x => rfl

theorem eff_ev (s : St) (o : Oper) (dst : Option Nat) (e : Eff) (h : ∀ d, dst = some d → d ∉ o.looksAt ops) {x : Operand} (hx : x ∈ o.op.operands) : (s.eff dst e).ev x = s.ev x := by
  cases x with
  | tmp t =>
    exact eff_r s dst e (fun hd => h t hd (List.mem_append_left _ (List.mem_filterMap.2 ⟨.tmp t, by simpa using hx, rfl⟩)))
  | const v => rfl
  | global g => rfl
  | func f => rfl

theorem eff_wanted (s : St) (o : Oper) (dst : Option Nat) (e : Eff) (h : ∀ d, dst = some d → d ∉ o.looksAt ops) : wantedS ops o (s.eff dst e) = wantedS ops o s := by
  unfold wantedS
  cases hg : o.guard with
  | none => rfl
  | some p =>
    obtain ⟨j, want⟩ := p
    simp only
    cases hj : (ops[j]?).bind (·.dst) with
    | none => rfl
    | some t =>
      simp only [gate]
      rw [eff_r s dst e fun hd => h t hd (List.mem_append_right _ (by simp only [hg, hj]; simp))]

/-- what an outcome does to memory -/
theorem Yl.shape (h : Yl P E ops o s e) : (∃ r, e = .val r) ∨ (memOf o.op = .alloc ∧ ∃ d cs, o.dst = some d ∧ s.b d = none ∧ e = .cells cs) ∨ (memOf o.op = .write ∧ ∃ d x, s.b d ≠ none ∧ e = .box d x) := by
  rcases h with ⟨_, h⟩ | ⟨_, rfl⟩
  · rcases opE_shape h with ⟨_, h⟩ | h | h
    · exact .inl h
    · exact .inr (.inl h)
    · exact .inr (.inr h)
  · exact .inl ⟨_, rfl⟩

theorem Yl.ext (hw : wantedS ops o s' = wantedS ops o s) (hev : ∀ x ∈ o.op.operands, s'.ev x = s.ev x) (hb : memOf o.op = .pure ∨ memOf o.op = .alloc ∨ Boxed s s') (ha : memOf o.op = .alloc → ∀ d, o.dst = some d → s.b d = none → s'.b d = none) (h : Yl P E ops o s e) : Yl P E ops o s' e := by
  rcases h with ⟨h1, h2⟩ | ⟨h1, h2⟩
  · exact .inl ⟨hw.trans h1, opE_ext hev hb ha h2⟩
  · exact .inr ⟨hw.trans h1, h2⟩

/-- the second one may be carried out ahead of the first one: both yield what they yield in text order -/
theorem Yl.swap (hap : oi.apart ops oj = true) (hm : memApart (memOf oi.op) (memOf oj.op) = true) (h1 : Yl P E ops oi s ei) (h2 : Yl P E ops oj (s.eff oi.dst ei) ej) :
    Yl P E ops oj s ej ∧ Yl P E ops oi (s.eff oj.dst ej) ei ∧ (s.eff oj.dst ej).eff oi.dst ei = (s.eff oi.dst ei).eff oj.dst ej := by
  obtain ⟨a1, a2, a3⟩ := Oper.apart_spec hap
  have s1 := h1.shape
  have s2 := h2.shape
  have y2 : Yl P E ops oj s ej := by
    refine h2.ext (eff_wanted s oj oi.dst ei a1).symm (fun x hx => (eff_ev s oj oi.dst ei a1 hx).symm) ?_ fun ha d hd hn => ?_
    · rcases s1 with ⟨r, rfl⟩ | ⟨q1, d, cs, q2, q3, rfl⟩ | ⟨q1, d, x, q2, rfl⟩
      · refine .inr (.inr fun d _ => ?_)
        cases hd : oi.dst <;> exact ⟨rfl, rfl⟩
      · rw [q1] at hm
        cases hmj : memOf oj.op <;> simp [hmj, memApart] at hm <;> simp
      · rw [q1] at hm
        cases hmj : memOf oj.op <;> simp [hmj, memApart] at hm <;> simp
    · rcases s1 with ⟨r, rfl⟩ | ⟨q1, d', cs, q2, q3, rfl⟩ | ⟨q1, d', x, q2, rfl⟩
      · cases hdd : oi.dst <;> (rw [hdd] at hn; exact hn)
      · rw [q2] at hn
        simp only [St.eff, St.newCells, upd] at hn
        split at hn
        · cases hn
        · exact hn
      · simp only [St.eff, upd] at hn
        split at hn
        · cases hn
        · exact hn
  have s2' := y2.shape
  refine ⟨y2, ?_, ?_⟩
  · refine h1.ext (eff_wanted s oi oj.dst ej a3) (fun x hx => eff_ev s oi oj.dst ej a3 hx) ?_ fun ha d hd hn => ?_
    · rcases s2' with ⟨r, rfl⟩ | ⟨q1, d, cs, q2, q3, rfl⟩ | ⟨q1, d, x, q2, rfl⟩
      · refine .inr (.inr fun d _ => ?_)
        cases hd : oj.dst <;> exact ⟨rfl, rfl⟩
      · refine .inr (.inr fun d' hd' => ?_)
        have hne : d' ≠ d := fun he => hd' (he ▸ q3)
        rw [q2]
        exact ⟨upd_ne _ _ hne, upd_ne _ _ hne⟩
      · rw [q1] at hm
        cases hmi : memOf oi.op <;> simp [hmi, memApart] at hm <;> simp
    · rcases s2' with ⟨r, rfl⟩ | ⟨q1, d', cs, q2, q3, rfl⟩ | ⟨q1, d', x, q2, rfl⟩
      · cases hdd : oj.dst <;> exact hn
      · have hne : d ≠ d' := fun he => a2 d hd (by rw [he]; exact q2)
        rw [q2]
        exact (upd_ne _ _ hne).trans hn
      · rw [q1, ha] at hm; simp [memApart] at hm
  · rcases s1 with ⟨r, rfl⟩ | ⟨p1, d, cs, p2, p3, rfl⟩ | ⟨p1, d, x, p2, rfl⟩
    · rcases s2' with ⟨r', rfl⟩ | ⟨q1, d', cs', q2, q3, rfl⟩ | ⟨q1, d', x', q2, rfl⟩
      · cases hdi : oi.dst with
        | none => rfl
        | some di =>
          cases hdj : oj.dst with
          | none => rfl
          | some dj =>
            have hne : dj ≠ di := fun he => a2 di hdi (by rw [hdj, he])
            simp only [St.eff, St.put_some]
            rw [upd_comm _ _ _ hne]
      · cases hdi : oi.dst with
        | none => rfl
        | some di =>
          have hne : d' ≠ di := fun he => a2 di hdi (by rw [q2, he])
          rw [q2]
          simp only [St.eff, St.put_some, St.newCells]
          rw [upd_comm _ _ _ hne]
      · cases hdi : oi.dst <;> rfl
    · rcases s2' with ⟨r', rfl⟩ | ⟨q1, d', cs', q2, q3, rfl⟩ | ⟨q1, d', x', q2, rfl⟩
      · cases hdj : oj.dst with
        | none => rfl
        | some dj =>
          have hne : dj ≠ d := fun he => a2 d p2 (by rw [hdj, he])
          rw [p2]
          simp only [St.eff, St.put_some, St.newCells]
          rw [upd_comm _ _ _ hne]
      · have hne : d' ≠ d := fun he => a2 d p2 (by rw [q2, he])
        rw [p2, q2]
        simp only [St.eff, St.newCells]
        rw [upd_comm _ _ _ hne, upd_comm _ _ _ hne, upd_comm _ _ _ hne, upd_ne _ _ hne, upd_ne _ _ hne.symm]
      · rw [p1, q1] at hm; simp [memApart] at hm
    · rcases s2' with ⟨r', rfl⟩ | ⟨q1, d', cs', q2, q3, rfl⟩ | ⟨q1, d', x', q2, rfl⟩
      · cases hdj : oj.dst <;> rfl
      · have hne : d' ≠ d := fun he => p2 (he ▸ q3)
        rw [q2]
        simp only [St.eff, St.newCells]
        rw [upd_comm _ _ _ hne]
      · rw [p1, q1] at hm; simp [memApart] at hm

end
end Go.Ev
