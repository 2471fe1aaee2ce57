import Derived.Test.YtoelfoplajpgnaaEvRun
set_option linter.unusedVariables false
set_option linter.unusedSimpArgs false
set_option linter.unusedSectionVars false

namespace Go.Ev
open Go

/-! ### Plain forms: what may be lacking is an option -/

theorem bind_some {α β : Type} {o : Option α} {k : α → Option β} {r : β} (h : o.bind k = some r) : ∃ x, o = some x ∧ k x = some r := by
  cases o with
  | none => cases h
  | some x => exact ⟨x, rfl, h⟩

/-- what is asked under a guard alone -/
def bindG {α β : Type} [Inhabited α] (g : Bool) (o : Option α) (k : α → Option β) : Option β := if g = true then o.bind k else k default

theorem bindG_some {α β : Type} [Inhabited α] {g : Bool} {o : Option α} {k : α → Option β} {r : β} (h : bindG g o k = some r) : ∃ x, (g = true → o = some x) ∧ k x = some r := by
  unfold bindG at h
  split at h
  · obtain ⟨x, h1, h2⟩ := bind_some h; exact ⟨x, fun _ => h1, h2⟩
  · rename_i hg; exact ⟨default, fun h => (hg h).elim, h⟩

theorem bindG_true {α β : Type} [Inhabited α] (o : Option α) (k : α → Option β) : bindG true o k = o.bind k := rfl
theorem bindG_false {α β : Type} [Inhabited α] (o : Option α) (k : α → Option β) : bindG false o k = k default := rfl

def getO {α : Type} (l : List α) (i : Int) : Option α := if 0 ≤ i then l[i.toNat]? else none

theorem getO_some {α : Type} {l : List α} {i : Int} {x : α} (h : getO l i = some x) : 0 ≤ i ∧ l[i.toNat]? = some x ∧ i < (l.length : Int) := by
  unfold getO at h
  split at h
  · rename_i hi
    refine ⟨hi, h, ?_⟩
    have := (List.getElem?_eq_some_iff.1 h).1
    omega
  · cases h

def chk (b : Bool) : Option Unit := if b = true then some () else none
theorem chk_some {b : Bool} {u : Unit} (h : chk b = some u) : b = true := by
  unfold chk at h
  split at h
  · assumption
  · cases h

/-- a loop, its rounds ending in what is not looked into -/
theorem awp_loopK {P : Program} {E : Env} {w0 : World} {I0 : Cells} {n : Nat} {s : St} {Q : AExit → St → Prop} {X : AV → Prop} {c : Code} (I : Nat → St → Prop) (m : Nat) (h0 : I m s)
    (round : ∀ m s, I m s → ∀ K : St → Prop, (∀ s', (∃ m', m' < m ∧ I m' s') → K s') → awp P E w0 I0 n c (AExit.then K Q) X s) : awp P E w0 I0 n (.loop c) Q X s :=
  awp_loop I m h0 fun m s h => round m s h _ fun _ h => h

/-- a slice that is nil is one over an array of nothing -/
theorem rel_ofNil {P : Program} {E : Env} {w0 : World} {I0 : Cells} {n : Nat} {s : St} {a : Act} {w : World} (d e : Nat) (hs : s.r d = .full []) (he : 0 < P.cellsOf e) (h : Rel P E w0 I0 n s a w) : Rel P E w0 I0 n (s.newArr d e []) a w := by
  obtain ⟨I, be, h⟩ := h
  have hx : boxRep P w I (upd be d none) (upd s.b d (some (.arr e []))) (upd s.g d (s.g d + 1)) d (.arr e []) := by
    refine ⟨he, Nat.zero_le _, fun i x hi => by simp at hi, ?_⟩
    rw [upd_same]
  have hrc := h.recreate d (.arr e []) none hx (fun B hB => by cases hB)
  refine ⟨I, upd be d none, hrc.since, hrc.size, hrc.defers, fun t ht => ?_, hrc.boxes, hrc.inj, hrc.own, hrc.tie⟩
  by_cases hd : t = d
  · subst hd
    have h1 := h.regs t ht
    rw [hs] at h1
    obtain ⟨_, A, hv⟩ := h1
    simp only [St.newArr, upd_same, List.length_nil]
    refine ⟨by rw [upd_same]; exact Nat.le_refl _, fun _ => ?_⟩
    unfold viewAt
    simp only [upd_same]
    exact ⟨Nat.le_refl _, A, hv⟩
  · have h1 := hrc.regs t ht
    simpa only [St.newArr, upd_ne _ _ hd] using h1

theorem awp_ofNil {P : Program} {E : Env} {w0 : World} {I0 : Cells} {n : Nat} {s : St} {Q : AExit → St → Prop} {X : AV → Prop} {c : Code} (d e : Nat) (hs : s.r d = .full []) (he : 0 < P.cellsOf e) (h : awp P E w0 I0 n c Q X (s.newArr d e [])) : awp P E w0 I0 n c Q X s :=
  awp_weak (fun a w hR => rel_ofNil d e hs he hR) h

/-- a box is given to what stays -/
theorem RelAt.give {P : Program} {E : Env} {w0 : World} {I0 : Cells} {n : Nat} {s : St} {a : Act} {w : World} {I : Cells} {be : Nat → Option Nat} (h : RelAt P E w0 I0 n s a w I be) (d : Nat) :
    RelAt P E w0 I0 n { s with b := upd s.b d none } a w (fun p => I p ∨ ∃ B, s.b d ≠ none ∧ be d = some B ∧ p.block = B) be := by
  have hdp := h.drop d
  have hsame : ∀ d', s.g d' < s.g d' ∨ (s.g d' = s.g d' ∧ BoxKept P w w be be (upd s.b d none) (upd s.b d none) d') := fun d' => .inr ⟨rfl, fun h => ⟨h, rfl⟩, fun _ _ _ h => h⟩
  refine ⟨h.since.step (w' := w) rfl rfl rfl (Nat.le_refl _) (fun _ => False) (fun _ _ _ => rfl) (fun _ hk => hk.elim) (fun _ h => .inl h) ?_, hdp.size, hdp.defers,
    fun t ht => (hdp.regs t ht).keep (fun _ h => .inl h) (fun _ _ _ h => h) hsame, fun d' x hx => (hdp.boxes d' x hx).keep (fun _ h => .inl h) (fun _ _ _ h => h) hsame rfl (fun _ _ => rfl), hdp.inj, fun d' B hn hB => ?_, hdp.tie⟩
  · rintro p (hp | ⟨B, hd, hB, rfl⟩)
    · exact .inl hp
    · obtain ⟨q1, q2, q3, q4⟩ := h.own d _ hd hB
      exact .inr ⟨q1, q2, q4⟩
  · obtain ⟨q1, q2, q3, q4⟩ := hdp.own d' B hn hB
    refine ⟨q1, q2, fun p hp e => ?_, q4⟩
    rcases hp with hp | ⟨B', hd, hB', e'⟩
    · exact q3 p hp e
    · have hne : d' ≠ d := fun e => hn (by subst e; simp)
      have hn' : s.b d' ≠ none := by simpa only [upd_ne _ _ hne] using hn
      have e2 : B' = B := e'.symm.trans e
      subst e2
      exact hne (h.inj d' d B' hn' hd hB hB')

theorem rel_give {P : Program} {E : Env} {w0 : World} {I0 : Cells} {n : Nat} {s : St} {a : Act} {w : World} (t d : Nat) {gg off len e : Nat} {xs : List AV} (hr : s.r t = .view d gg off len) (hg : gg = s.g d) (hb : s.b d = some (.arr e xs)) (h : Rel P E w0 I0 n s a w) :
    Rel P E w0 I0 n { s with r := upd s.r t (.val (.sl ((xs.drop off).take len))), b := upd s.b d none } a w := by
  obtain ⟨I, be, h⟩ := h
  have hf := h.give d
  refine ⟨_, be, hf.since, hf.size, hf.defers, fun t' ht => ?_, hf.boxes, hf.inj, hf.own, hf.tie⟩
  by_cases ht' : t' = t
  · subst ht'
    have h1 := h.regs t' ht
    rw [hr] at h1
    simp only [upd_same]
    exact view_rep hb (h.boxes d _ hb) (h1.2 hg) (fun _ h => .inl h) (fun B hB p hp => .inr ⟨B, by simp [hb], hB, hp⟩)
  · have h1 := hf.regs t' ht
    simpa only [upd_ne _ _ ht'] using h1

theorem awp_give {P : Program} {E : Env} {w0 : World} {I0 : Cells} {n : Nat} {s : St} {Q : AExit → St → Prop} {X : AV → Prop} {c : Code} (t d : Nat) {gg off len e : Nat} {xs : List AV} (hr : s.r t = .view d gg off len) (hg : gg = s.g d) (hb : s.b d = some (.arr e xs))
    (h : awp P E w0 I0 n c Q X { s with r := upd s.r t (.val (.sl ((xs.drop off).take len))), b := upd s.b d none }) : awp P E w0 I0 n c Q X s :=
  awp_weak (fun a w hR => rel_give t d hr hg hb hR) h

/-- what is the caller's alone may as well stay -/
theorem own_rep {P : Program} {E : Env} {w : World} {I : Cells} {base : Nat} {bo : Option Nat} {v : Value} {e : TypeId} {xs : List AV} (h : rvRep P E w I base bo v (.own e xs)) : Rep w (fun p => I p ∨ ∃ B, bo = some B ∧ p.block = B) v (.sl xs) := by
  obtain ⟨h1, h2, h3, h4⟩ := h
  let s : St := { r := fun _ => .none, b := fun _ => some (.arr e xs), g := fun _ => 0 }
  have hb : boxRep P w I (fun _ => bo) s.b s.g 0 (.arr e xs) := by
    refine ⟨h1, h2, fun i x hi => h3 x (List.mem_of_getElem? hi), ?_⟩
    cases bo with
    | none => exact h4.1
    | some B =>
      obtain ⟨_, _, _, _, cur, cap, q1, q2, q3, q4, _, q6⟩ := h4
      exact ⟨cur, cap, q1, q2, q3, q4, q6⟩
  have hv : viewAt P w (fun _ => bo) s.b 0 0 xs.length v := by
    unfold viewAt
    cases bo with
    | none =>
      obtain ⟨rfl, A, rfl⟩ := h4
      exact ⟨Nat.le_refl _, A, rfl⟩
    | some B =>
      obtain ⟨_, _, _, _, cur, cap, q1, q2, q3, q4, ⟨A, q5, q6⟩, _⟩ := h4
      exact ⟨by omega, cur, cap, A, q1, q2, by simpa using q5, fun hc => by simpa using q6 hc⟩
  have := view_rep (s := s) (I' := fun p => I p ∨ ∃ B, bo = some B ∧ p.block = B) rfl hb hv (fun _ h => .inl h) (fun B hB p hp => .inr ⟨B, hB, hp⟩)
  simpa using this

theorem does_v {P : Program} {E : Env} {f : FuncId} {args : List AV} {e : TypeId} {xs : List AV} (h : Does P E f args (.ret [.own e xs])) : Does P E f args (.ret [.v (.sl xs)]) := by
  refine ⟨h.1, fun w0 I0 vs h1 h2 h3 => ?_⟩
  have h4 := h.2 w0 I0 vs h1 h2 h3
  refine h4.mono fun en w hp => ?_
  obtain ⟨v, I, bo, q1, q2, q3, q4, q5⟩ := hp
  have q3 : rvRep P E w I w0.heap.size (bo 0) v (.own e xs) := q3
  refine ⟨v, fun p => I p ∨ ∃ B, bo 0 = some B ∧ p.block = B, fun _ => none, q1, ?_, own_rep q3, fun _ _ _ hB _ => by simp at hB, fun _ _ hB => by simp at hB⟩
  refine q2.step (w' := w) rfl rfl rfl (Nat.le_refl _) (fun _ => False) (fun _ _ _ => rfl) (fun _ hk => hk.elim) (fun _ h => .inl h) ?_
  rintro p (hp | ⟨B, hB, rfl⟩)
  · exact .inl hp
  · obtain ⟨_, _, _, h4⟩ := q3
    rw [hB] at h4
    obtain ⟨a1, a2, a3, a4, _⟩ := h4
    exact .inr ⟨.inl a1, a2, a4⟩

theorem awp_giveAs {P : Program} {E : Env} {w0 : World} {I0 : Cells} {n : Nat} {s : St} {Q : AExit → St → Prop} {X : AV → Prop} {c : Code} (t d : Nat) (ys : List AV) {gg off len e : Nat} {xs : List AV} (hr : s.r t = .view d gg off len) (hg : gg = s.g d) (hb : s.b d = some (.arr e xs))
    (hy : (xs.drop off).take len = ys) (h : awp P E w0 I0 n c Q X { s with r := upd s.r t (.val (.sl ys)), b := upd s.b d none }) : awp P E w0 I0 n c Q X s :=
  awp_give t d hr hg hb (by rw [hy]; exact h)

section
variable {P : Program} {E : Env} {o : Oper} {s : St} {ops : Array Oper} {X : AV → Prop} {K : St → Prop} {rest : List Oper}

theorem rops_ng (hg : o.guard = none) (h : ∀ K' : St → Prop, (∀ s, rops P E ops X K rest s → K' s) → rOp P E o s K' X) : rops P E ops X K (o :: rest) s := by
  unfold rops; simp only [hg]; exact h _ fun _ h => h
theorem ropsD_ng (hg : o.guard = none) (h : ∀ K' : St → Prop, (∀ s, ropsD P E ops K rest s → K' s) → rOpD P E o s K') : ropsD P E ops K (o :: rest) s := by
  unfold ropsD; simp only [hg]; exact h _ fun _ h => h
theorem rops_on {j t : Nat} {w : Bool} (hg : o.guard = some (j, w)) (hj : gtmp ops j = some t) (hs : gate s t w = some true) (h : ∀ K' : St → Prop, (∀ s, rops P E ops X K rest s → K' s) → rOp P E o s K' X) : rops P E ops X K (o :: rest) s := by
  unfold rops; simp only [hg, hj, hs, if_true]; exact h _ fun _ h => h
theorem ropsD_on {j t : Nat} {w : Bool} (hg : o.guard = some (j, w)) (hj : gtmp ops j = some t) (hs : gate s t w = some true) (h : ∀ K' : St → Prop, (∀ s, ropsD P E ops K rest s → K' s) → rOpD P E o s K') : ropsD P E ops K (o :: rest) s := by
  unfold ropsD; simp only [hg, hj, hs, if_true]; exact h _ fun _ h => h
theorem rops_off {j t : Nat} {w : Bool} (hg : o.guard = some (j, w)) (hj : gtmp ops j = some t) (hs : gate s t w = some false) (h : rops P E ops X K rest (s.put o.dst (.tup []))) : rops P E ops X K (o :: rest) s := by
  unfold rops; simp only [hg, hj, hs, Bool.false_eq_true, if_false]; exact h
theorem ropsD_off {j t : Nat} {w : Bool} (hg : o.guard = some (j, w)) (hj : gtmp ops j = some t) (hs : gate s t w = some false) (h : ropsD P E ops K rest (s.put o.dst (.tup []))) : ropsD P E ops K (o :: rest) s := by
  unfold ropsD; simp only [hg, hj, hs, Bool.false_eq_true, if_false]; exact h
end

/-- lists, turned one way -/
theorem fs_map {α β : Type} (f : α → β) : (∀ a b : List α, List.map f (a ++ b) = List.map f a ++ List.map f b) ∧ (∀ (l : List α) (n : Nat), List.map f (l.drop n) = (List.map f l).drop n) ∧ (∀ (l : List α) (n : Nat), List.map f (l.take n) = (List.map f l).take n) ∧
    (∀ (l : List α) (n : Nat) (x : α), List.map f (l.set n x) = (List.map f l).set n (f x)) ∧ (∀ (n : Nat) (x : α), List.map f (List.replicate n x) = List.replicate n (f x)) :=
  ⟨fun a b => by simp, fun l n => by simp [List.map_drop], fun l n => by simp [List.map_take], fun l n x => by simp, fun n x => by simp⟩
theorem fs_len {α : Type} : (∀ a b : List α, (a ++ b).length = a.length + b.length) ∧ (∀ (l : List α) (n : Nat), (l.take n).length = min n l.length) ∧ (∀ (l : List α) (n : Nat), (l.drop n).length = l.length - n) ∧ (∀ (l : List α) (n : Nat) (x : α), (l.set n x).length = l.length) ∧
    (∀ (n : Nat) (x : α), (List.replicate n x).length = n) ∧ (∀ (m n : Nat) (x : α), (List.replicate n x).take m = List.replicate (min m n) x) ∧ (∀ l : List α, l ++ [] = l) :=
  ⟨fun a b => by simp, fun l n => by simp, fun l n => by simp, fun l n x => by simp, fun n x => by simp, fun m n x => by simp, fun l => by simp⟩
theorem fs_bool : (∀ b : Bool, (b && true) = b) ∧ (∀ b : Bool, (true && b) = b) ∧ (∀ b : Bool, (b && false) = false) ∧ (∀ b : Bool, (false && b) = false) ∧ (∀ b : Bool, (b || true) = true) ∧ (∀ b : Bool, (true || b) = true) ∧ (∀ b : Bool, (b || false) = b) ∧ (∀ b : Bool, (false || b) = b) ∧ (!true) = false ∧ (!false) = true := by
  refine ⟨?_, ?_, ?_, ?_, ?_, ?_, ?_, ?_, rfl, rfl⟩ <;> intro b <;> cases b <;> rfl
theorem fs_box : (∀ (e e' : TypeId) (xs xs' : List AV), (Bx.arr e xs = Bx.arr e' xs') = (e = e' ∧ xs = xs')) ∧ (∀ xs xs' : List Reg, (Bx.cells xs = Bx.cells xs') = (xs = xs')) :=
  ⟨fun e e' xs xs' => by simp, fun xs xs' => by simp⟩

/-- exits, one by one -/
theorem exs : (∀ (next : St → Prop) (Q : AExit → St → Prop) (s : St), AExit.then next Q .normal s = next s) ∧ (∀ (next : St → Prop) (Q : AExit → St → Prop) (s : St) (id : Nat), AExit.then next Q (.exit id) s = Q (.exit id) s) ∧ (∀ (next : St → Prop) (Q : AExit → St → Prop) (s : St), AExit.then next Q .ret s = Q .ret s) ∧
    (∀ (id : Nat) (Q : AExit → St → Prop) (s : St), AExit.inBlock id Q .normal s = Q .normal s) ∧ (∀ (id id' : Nat) (Q : AExit → St → Prop) (s : St), AExit.inBlock id Q (.exit id') s = if id' = id then Q .normal s else Q (.exit id') s) ∧ (∀ (id : Nat) (Q : AExit → St → Prop) (s : St), AExit.inBlock id Q .ret s = Q .ret s) :=
  ⟨fun _ _ _ => rfl, fun _ _ _ _ => rfl, fun _ _ _ => rfl, fun _ _ _ => rfl, fun _ _ _ _ => rfl, fun _ _ _ => rfl⟩

theorem min3 (a b : Nat) : min (min a b) a = min a b := by omega
theorem min4 (a b : Nat) : min a b + (b - min a b) = b := by omega

theorem take_length_map {α : Type} (f : α → AV) (l : List α) : (l.map f).take l.length = l.map f := by
  apply List.take_of_length_le; simp

end Go.Ev
