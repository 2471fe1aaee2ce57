import Derived.Test.YtoelfoplajpgnaaEvDraw
set_option linter.unusedVariables false
set_option linter.unusedSimpArgs false
set_option linter.unusedSectionVars false

namespace Go.Ev
open Go

/-- the boxes that are alive are as they were -/
def Boxed (s s' : St) : Prop := ∀ d, s.b d ≠ none → s'.b d = s.b d ∧ s'.g d = s.g d

section
variable {P : Program} {E : Env} {o : Oper} {s s' : St}

theorem regAVsOf_ext : ∀ {l : List Operand}, (∀ x ∈ l, s'.ev x = s.ev x) → regAVsOf s' l = regAVsOf s l
  | [], _ => rfl
  | x :: l, h => by simp only [regAVsOf]; rw [h x (by simp), regAVsOf_ext (l := l) fun y hy => h y (by simp [hy])]

theorem bnd_ext {d : Nat} {x : Option Operand} (h : ∀ y, x = some y → s'.ev y = s.ev y) : bnd s' d x = bnd s d x := by
  cases x with
  | none => rfl
  | some y => simp only [bnd, h y rfl]

theorem partsOf_ext {pl : List (Nat × Nat)} : ∀ {l : List (Nat × Operand)}, (∀ p ∈ l, s'.ev p.2 = s.ev p.2) → partsOf s' pl l = partsOf s pl l
  | [], _ => rfl
  | (i, x) :: l, h => by simp only [partsOf]; rw [h (i, x) (by simp), partsOf_ext (l := l) fun y hy => h y (by simp [hy])]

theorem kFlat_ext {K : Reg → Prop} (hsel : ∀ cs b, o.op ≠ .select cs b) (hev : ∀ x ∈ o.op.operands, s'.ev x = s.ev x) (h : kFlat P o s K) : kFlat P o s' K := by
  obtain ⟨v, h1, ⟨h2, h3⟩, h4⟩ := h
  refine ⟨v, fun w => ?_, ⟨h2, fun x hx => by rw [hev x hx]; exact h3 x hx⟩, h4⟩
  rw [execOp_congr (ρ := flatVal s') (ρ' := flatVal s) o hsel fun x hx => by simp only [flatVal, hev x hx]]
  exact h1 w

theorem kLoad_ext {t : TypeId} {r : Reg} {K : Reg → Prop} (hb : Boxed s s') (h : kLoad P s t r K) : kLoad P s' t r K := by
  unfold kLoad at h ⊢
  split at h
  · exact h
  · rename_i d gg sz i k
    obtain ⟨hg, h⟩ := h
    split at h
    · rename_i cs hx
      obtain ⟨e1, e2⟩ := hb d (by simp [hx])
      refine ⟨by rw [e2]; exact hg, ?_⟩
      rw [e1, hx]; exact h
    · rename_i e xs hx
      obtain ⟨e1, e2⟩ := hb d (by simp [hx])
      refine ⟨by rw [e2]; exact hg, ?_⟩
      rw [e1, hx]; exact h
    · exact h.elim
  · exact h.elim

theorem kFieldAddr_ext {t : TypeId} {f : Nat} {r : Reg} {K : Reg → Prop} (hb : Boxed s s') (h : kFieldAddr P s t f r K) : kFieldAddr P s' t f r K := by
  unfold kFieldAddr at h ⊢
  obtain ⟨off, ft, h1, h2⟩ := h
  refine ⟨off, ft, h1, ?_⟩
  split at h2
  · exact h2
  · obtain ⟨⟨q1, q2⟩, q3⟩ := h2
    obtain ⟨e1, e2⟩ := hb _ q2
    exact ⟨⟨by rw [e2]; exact q1, by rw [e1]; exact q2⟩, q3⟩
  · exact h2.elim

theorem kIndexAddr_ext {t : TypeId} {x y : Reg} {K : Reg → Prop} (hb : Boxed s s') (h : kIndexAddr P s t x y K) : kIndexAddr P s' t x y K := by
  unfold kIndexAddr at h ⊢
  obtain ⟨e, h1, h2, h3⟩ := h
  refine ⟨e, h1, h2, ?_⟩
  split at h3
  · obtain ⟨h4, h5⟩ := h3
    refine ⟨h4, ?_⟩
    split at h5
    · exact h5
    · exact h5
    · obtain ⟨q1, ⟨xs, q2⟩, q3⟩ := h5
      obtain ⟨e1, e2⟩ := hb _ (by rw [q2]; simp)
      exact ⟨by rw [e2]; exact q1, ⟨xs, by rw [e1]; exact q2⟩, q3⟩
    · exact h5.elim
  · exact h3.elim

theorem kSlice_ext {t : TypeId} {r : Reg} {lo hi mx : Option Operand} {K : Reg → Prop} {G G' : Prop} (hb : Boxed s s') (hbd : ∀ y, lo = some y ∨ hi = some y ∨ mx = some y → s'.ev y = s.ev y) (hG : G → G') (h : kSlice P s t r lo hi mx K G) : kSlice P s' t r lo hi mx K G' := by
  have el : ∀ d, bnd s' d lo = bnd s d lo := fun d => bnd_ext fun y hy => hbd y (.inl hy)
  have eh : ∀ d, bnd s' d hi = bnd s d hi := fun d => bnd_ext fun y hy => hbd y (.inr (.inl hy))
  have sl : ∀ xs, kSliceSl P s t xs lo hi mx K → kSliceSl P s' t xs lo hi mx K := by
    rintro xs ⟨e, h1, l, q, h2, h3, h4, h5⟩
    refine ⟨e, h1, l, q, by rw [el]; exact h2, by rw [eh]; exact h3, h4, ?_⟩
    cases mx with
    | none => exact h5
    | some z =>
      obtain ⟨q1, q2, q3⟩ := h5
      exact ⟨q1, by rw [bnd_ext fun y hy => hbd y (.inr (.inr hy))]; exact q2, q3⟩
  unfold kSlice at h ⊢
  split at h
  · exact sl _ h
  · exact sl _ h
  · obtain ⟨h0, e, h1, h2, ⟨xs, h3⟩, l, q, h4, h5, h6, h7⟩ := h
    obtain ⟨e1, e2⟩ := hb _ (by rw [h3]; simp)
    exact ⟨h0, e, h1, by rw [e2]; exact h2, ⟨xs, by rw [e1]; exact h3⟩, l, q, by rw [el]; exact h4, by rw [eh]; exact h5, h6, h7⟩
  · exact hG h

theorem kBin_imp {op : BinOp} {t : TypeId} {x y : Reg} {K : Reg → Prop} {G G' : Prop} (hG : G → G') (h : kBin P op t x y K G) : kBin P op t x y K G' := by
  unfold kBin at h ⊢
  split at h
  · exact h
  · exact h
  · exact hG h

theorem kValue_ext {K : Reg → Prop} (hev : ∀ x ∈ o.op.operands, s'.ev x = s.ev x) (hb : memOf o.op = .pure ∨ Boxed s s') (h : kValue P o s K) : kValue P o s' K := by
  unfold kValue at h ⊢
  cases ho : o.op <;> simp only [ho] at h ⊢ <;> simp only [ho, Op.operands] at hev <;> (try simp only [ho, memOf, reduceCtorEq, false_or] at hb)
  case move x => rw [hev x (by simp)]; exact h
  case pick c x y => rw [hev c (by simp), hev x (by simp), hev y (by simp)]; exact h
  case load t x => rw [hev x (by simp)]; exact kLoad_ext hb h
  case fieldAddr t x f => rw [hev x (by simp)]; exact kFieldAddr_ext hb h
  case indexAddr t x y => rw [hev x (by simp), hev y (by simp)]; exact kIndexAddr_ext hb h
  case extract x k => rw [hev x (by simp)]; exact h
  case field t x f => rw [hev x (by simp)]; exact h
  case makeFunc fn first caps =>
    cases fn <;> simp only at h ⊢
    obtain ⟨h0, xs, h1, h2⟩ := h
    exact ⟨h0, xs, by rw [regAVsOf_ext fun x hx => hev x (by simp; exact .inr (by simpa using hx))]; exact h1, h2⟩
  case makeInterface t x => rw [hev x (by simp)]; exact h
  case build t parts =>
    obtain ⟨pl, h1, z, h2, ps, h3, h4, h5⟩ := h
    exact ⟨pl, h1, z, h2, ps, by rw [partsOf_ext fun p hp => hev p.2 (by simp; exact ⟨p.1, by simpa using hp⟩)]; exact h3, h4, h5⟩
  case slice t x lo hi mx =>
    have hbd : ∀ y, lo = some y ∨ hi = some y ∨ mx = some y → s'.ev y = s.ev y := fun y hy => hev y (by rcases hy with rfl | rfl | rfl <;> simp)
    rw [hev x (by simp)]
    refine kSlice_ext hb hbd (fun hG => ?_) h
    obtain ⟨h0, h1, xs, h2, l, q, h3, h4, h5⟩ := hG
    exact ⟨h0, h1, xs, h2, l, q, by rw [bnd_ext fun y hy => hbd y (.inl hy)]; exact h3, by rw [bnd_ext fun y hy => hbd y (.inr (.inl hy))]; exact h4, h5⟩
  case index t x y => rw [hev x (by simp), hev y (by simp)]; exact h
  case binOp op t x y t' =>
    rw [hev x (by simp), hev y (by simp)]
    exact kBin_imp (fun h => h.imp id (kFlat_ext (by simp [ho]) (by simpa [ho, Op.operands] using hev))) h
  case unOp op t x =>
    cases op <;> simp only at h ⊢ <;> rw [hev x (by simp)] <;> exact h
  case convert t t' x => exact kFlat_ext (by simp [ho]) (by simpa [ho, Op.operands] using hev) h

end
end Go.Ev
