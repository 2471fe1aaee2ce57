import Derived.Test.YtoelfoplajpgnaaEvKit
set_option linter.unusedVariables false
set_option linter.unusedSimpArgs false
set_option linter.unusedSectionVars false

namespace Go.Ev
open Go

/-! ### Structs held against each other: of ints, bools and strings -/

def kindOf1 (P : Program) (t : TypeId) : Option Nat :=
  match P.underlying t with
  | some (.int _) => some 0
  | some .bool => some 1
  | some .string => some 2
  | _ => none

def kindsFrom (P : Program) : Nat → List Field → Option (List Nat)
  | _, [] => some []
  | i, f :: fs => if (f.name != "_" && f.offset == i) = true then
      match kindOf1 P f.type, kindsFrom P (i + 1) fs with
      | some k, some ks => some (k :: ks)
      | _, _ => none
    else none

/-- the kinds of a struct's cells; of one that may be held against another without more -/
def kindsOf (P : Program) (t : TypeId) : Option (List Nat) :=
  match P.underlying t with
  | some (.struct fs) => if (P.eqGuardType P.depth t || P.stoodInHeld t) = true then none else kindsFrom P 0 fs.toList
  | _ => none

def flatEqs : List Nat → List AV → List AV → Option Bool
  | [], [], [] => some true
  | 0 :: ks, .fl (.int k a) :: xs, .fl (.int k' b) :: ys => if k = k' then (flatEqs ks xs ys).map fun r => (a == b) && r else none
  | 1 :: ks, .fl (.bool a) :: xs, .fl (.bool b) :: ys => (flatEqs ks xs ys).map fun r => (a == b) && r
  | 2 :: ks, .fl (.string a) :: xs, .fl (.string b) :: ys => (flatEqs ks xs ys).map fun r => (a.data.toList == b.data.toList) && r
  | _, _, _ => none

section
variable {P : Program}

theorem run_part_one {t : TypeId} {k : Nat} (hk : kindOf1 P t = some k) {xs : Array Value} {off : Nat} {v : Value} (hx : xs[off]? = some v) (w : World) : (part t xs off).run P w = .ok v w := by
  have ha : agg? P t = some false := by
    unfold kindOf1 at hk
    unfold agg?
    cases hu : P.underlying t with
    | none => simp [hu] at hk
    | some d => cases d <;> simp [hu] at hk ⊢
  simp only [part, Sem.run_bind, run_isAgg ha, Result.andThen_ok, Bool.false_eq_true, if_false, hx, Sem.run_pure]

theorem flatEqs_flat : ∀ {ks : List Nat} {xs ys : List AV} {e : Bool}, flatEqs ks xs ys = some e → ∃ us vs : List Value, xs = us.map .fl ∧ ys = vs.map .fl
  | [], [], [], e, h => ⟨[], [], rfl, rfl⟩
  | 0 :: ks, .fl (.int k a) :: xs, .fl (.int k' b) :: ys, e, h => by
    simp only [flatEqs] at h
    split at h
    · obtain ⟨r, hr, _⟩ := Option.map_eq_some_iff.1 h
      obtain ⟨us, vs, h1, h2⟩ := flatEqs_flat hr
      exact ⟨.int k a :: us, .int k' b :: vs, by simp [h1], by simp [h2]⟩
    · cases h
  | 1 :: ks, .fl (.bool a) :: xs, .fl (.bool b) :: ys, e, h => by
    simp only [flatEqs] at h
    obtain ⟨r, hr, _⟩ := Option.map_eq_some_iff.1 h
    obtain ⟨us, vs, h1, h2⟩ := flatEqs_flat hr
    exact ⟨.bool a :: us, .bool b :: vs, by simp [h1], by simp [h2]⟩
  | 2 :: ks, .fl (.string a) :: xs, .fl (.string b) :: ys, e, h => by
    simp only [flatEqs] at h
    obtain ⟨r, hr, _⟩ := Option.map_eq_some_iff.1 h
    obtain ⟨us, vs, h1, h2⟩ := flatEqs_flat hr
    exact ⟨.string a :: us, .string b :: vs, by simp [h1], by simp [h2]⟩

theorem kind0 {t : TypeId} (h : kindOf1 P t = some 0) : ∃ k, P.underlying t = some (.int k) := by
  unfold kindOf1 at h
  split at h <;> simp at h
  rename_i k hk; exact ⟨k, hk⟩
theorem kind1 {t : TypeId} (h : kindOf1 P t = some 1) : P.underlying t = some .bool := by
  unfold kindOf1 at h
  split at h <;> simp at h
  assumption
theorem kind2 {t : TypeId} (h : kindOf1 P t = some 2) : P.underlying t = some .string := by
  unfold kindOf1 at h
  split at h <;> simp at h
  assumption

theorem run_eqFields (d : Nat) (w : World) (X Y : Array Value) : ∀ (fs : List Field) (ks : List Nat) (i : Nat) (xs ys : List AV) (e : Bool), kindsFrom P i fs = some ks →
    (∀ (j : Nat) (v : Value), xs[j]? = some (.fl v) → X[i + j]? = some v) → (∀ (j : Nat) (v : Value), ys[j]? = some (.fl v) → Y[i + j]? = some v) → flatEqs ks xs ys = some e → (Op.eqFields (d + 1) X Y fs).run P w = .ok e w
  | [], ks, i, xs, ys, e, hk, hx, hy, h => by
    simp only [kindsFrom, Option.some.injEq] at hk
    subst hk
    cases xs <;> cases ys <;> simp [flatEqs] at h
    subst h
    rfl
  | f :: fs, ks, i, xs, ys, e, hk, hx, hy, h => by
    simp only [kindsFrom] at hk
    split at hk
    · rename_i hf
      simp only [Bool.and_eq_true, bne_iff_ne, beq_iff_eq] at hf
      split at hk
      · rename_i k ks' hk1 hks
        simp only [Option.some.injEq] at hk
        subst hk
        have step : ∀ (a b : Value) (xs' ys' : List AV) (c r : Bool), xs = .fl a :: xs' → ys = .fl b :: ys' → (Op.equalIn (d + 1) f.type a b).run P w = .ok c w → flatEqs ks' xs' ys' = some r → e = (c && r) → (Op.eqFields (d + 1) X Y (f :: fs)).run P w = .ok e w := by
          intro a b xs' ys' c r e1 e2 hc hr he
          subst e1 e2
          have h1 := run_part_one hk1 (xs := X) (off := f.offset) (v := a) (by rw [hf.2]; exact hx 0 a (by simp)) w
          have h2 := run_part_one hk1 (xs := Y) (off := f.offset) (v := b) (by rw [hf.2]; exact hy 0 b (by simp)) w
          have ih := run_eqFields d w X Y fs ks' (i + 1) xs' ys' r hks (fun j v hj => by rw [Nat.add_assoc, Nat.add_comm 1 j]; exact hx (j + 1) v (by simpa using hj)) (fun j v hj => by rw [Nat.add_assoc, Nat.add_comm 1 j]; exact hy (j + 1) v (by simpa using hj)) hr
          simp only [Op.eqFields, if_pos hf.1, Sem.run_bind, h1, h2, hc, Result.andThen_ok, Sem.run_ite]
          cases c with
          | false => simp only [Bool.not_false, if_true, Sem.run_pure]; rw [he]; rfl
          | true => simp only [Bool.not_true, Bool.false_eq_true, if_false, ih]; rw [he]; rfl
        unfold flatEqs at h
        split at h
        · rename_i heq; cases heq
        · rename_i heq
          injection heq with e1 e2
          subst e1 e2
          split at h
          · rename_i hkk
            obtain ⟨r, hr, he⟩ := Option.map_eq_some_iff.1 h
            obtain ⟨k0, hu⟩ := kind0 hk1
            subst hkk
            exact step _ _ _ _ _ _ rfl rfl (run_equalIn_int w d f.type _ k0 _ _ hu) hr he.symm
          · cases h
        · rename_i heq
          injection heq with e1 e2
          subst e1 e2
          obtain ⟨r, hr, he⟩ := Option.map_eq_some_iff.1 h
          exact step _ _ _ _ _ _ rfl rfl (run_equalIn_bool' w d f.type _ _ (kind1 hk1)) hr he.symm
        · rename_i heq
          injection heq with e1 e2
          subst e1 e2
          obtain ⟨r, hr, he⟩ := Option.map_eq_some_iff.1 h
          refine step _ _ _ _ _ _ rfl rfl (run_equalIn_string w d f.type _ _ (kind2 hk1)) hr ?_
          rw [ByteArray.toList_eq, ByteArray.toList_eq]
          exact he.symm
        · cases h
      · cases hk
    · cases hk

theorem mapM_flOf : ∀ us : List Value, (us.map AV.fl).mapM flOf = some us
  | [] => rfl
  | u :: us => by simp [flOf, mapM_flOf us]

/-- by the model's own word -/
theorem kFlat_struct {o : Oper} {s : St} {K : Reg → Prop} {op : BinOp} {t t' : TypeId} {x y : Operand} (ho : o.op = .binOp op t x y t') {xs ys : List AV} (hx : s.ev x = .val (.agg xs)) (hy : s.ev y = .val (.agg ys)) {ks : List Nat} (hk : kindsOf P t = some ks)
    {e : Bool} (he : flatEqs ks xs ys = some e) (hop : op = .eql ∨ op = .neq) (hK : K (.val (.fl (.bool (if op = .eql then e else !e))))) : kFlat P o s K := by
  obtain ⟨us, vs, rfl, rfl⟩ := flatEqs_flat he
  unfold kindsOf at hk
  split at hk
  · rename_i fs hu
    split at hk
    · cases hk
    · rename_i hg
      simp only [Bool.or_eq_true, not_or, Bool.not_eq_true] at hg
      have hf : P.underlying t = some (.struct (P.fieldsOf t)) := by simp [Program.fieldsOf, hu]
      have hfs : P.fieldsOf t = fs := by simp [Program.fieldsOf, hu]
      have hX : flatVal s x = .agg us.toArray := by simp only [flatVal, hx, regFlat, flatOf, mapM_flOf, Option.map_some, Option.getD_some]
      have hY : flatVal s y = .agg vs.toArray := by simp only [flatVal, hy, regFlat, flatOf, mapM_flOf, Option.map_some, Option.getD_some]
      have hrun : ∀ w, (Op.equalIn 10000 t (.agg us.toArray) (.agg vs.toArray)).run P w = .ok e w := fun w => by
        rw [run_equalIn_agg w 9999 t _ _ hf hg.2, hfs]
        exact run_eqFields 9998 w _ _ fs.toList ks 0 _ _ e hk (fun j v hj => by simpa using hj) (fun j v hj => by simpa using hj) he
      refine ⟨.bool (if op = .eql then e else !e), fun w => ?_, ⟨rfl, fun z hz => ?_⟩, hK⟩
      · rcases hop with rfl | rfl
        · simp only [execOp, ho, hX, hY, Sem.run_bind, run_eqGuard_agg w _ _ _ _ _ _ hg.1, Result.andThen_ok, run_eql_struct, hrun, Sem.run_pure, if_true]
        · simp only [execOp, ho, hX, hY, Sem.run_bind, run_eqGuard_agg w _ _ _ _ _ _ hg.1, Result.andThen_ok, run_neq_struct, hrun, Sem.run_pure, reduceCtorEq, if_false]
      · simp only [ho, Op.operands] at hz
        have : z = x ∨ z = y := by simpa using hz
        rcases this with rfl | rfl
        · rw [hx]; simp only [regFlat, flatOf, mapM_flOf, Option.map_some, Option.isSome_some, true_and]; exact fun h => by cases h
        · rw [hy]; simp only [regFlat, flatOf, mapM_flOf, Option.map_some, Option.isSome_some, true_and]; exact fun h => by cases h
  · cases hk

end
end Go.Ev
