import Derived.Carry
import Derived.ChangeSame
import Derived.OpenShut
import Derived.RowKit
import Derived.ProofKit
import Derived.Test.YtoelfoplajpgnaaEvRead
set_option linter.unusedVariables false
set_option linter.unusedSimpArgs false
set_option linter.unusedSectionVars false

namespace Go.Ev
open Go Go.ChangeShapes Go.WideShapes Go.RowKit

section
variable {H : Type} {enc : TypeId × Value → H} {P : Program}

theorem trodAll_stays (hl : laidOutB P = true) {W W' : World} (hb : Below W.heap.size W W') {sp : Nat → Bool} : ∀ {ts : List TypeId} {vs : List Value} {ds : List (DataW H)} {ps : List MemPlace},
    (ts.all fun t => P.readableRec t && decide (t < P.types.size)) = true → DataW.TrodAll enc P W 0 (fun _ => true) true ts vs ds ps → (∀ x ∈ ps, x.block < W.heap.size) → (∀ x ∈ ps, sp x.block = true) → DataW.TrodAll enc P W' 0 sp true ts vs ds ps
  | [], vs, ds, ps, hp, h, hlt, hs => by
    obtain ⟨rfl, rfl, rfl⟩ := trodAll_nil h
    exact trodAll_mk0
  | t :: ts, vs, ds, ps, hp, h, hlt, hs => by
    obtain ⟨v, vs, d, ds, p, q, rfl, rfl, rfl, h1, h2⟩ := trodAll_cons h
    simp only [List.all_cons, Bool.and_eq_true, decide_eq_true_eq] at hp
    exact trodAll_cons_mk (WideElems.Trod_stays hl hp.1.1 hp.1.2 h1 (fun x hx => hb.same (hlt x (by simp [hx]))) (fun x hx => hs x (by simp [hx])))
      (trodAll_stays hl hb hp.2 h2 (fun x hx => hlt x (by simp [hx])) (fun x hx => hs x (by simp [hx])))

/-- WHAT A LAW'S ROW ASKS BEHIND THE CALL: true; the arguments read as they did. -/
theorem post_true {f : Func} {s : ChangeSpec} {fresh handsOn again : Bool} {W W' : World} {args : Array Value} {ds gs : List (DataW H)} {before : List MemPlace} {tb : TypeId} (hl : laidOutB P = true) (hp : (f.params.toList.all fun t => P.readableRec t && decide (t < P.types.size)) = true)
    (hr : f.resultTypes = #[tb]) (htb : P.underlying tb = some .bool) (hv : s.vars = []) (hs : s.fn H (ds ++ gs) = { results := [.lit (.bool true)], args := ds })
    (hW : DataW.Whole enc P f.params.toList s.vars false W args.toList ds gs before) (hb : Below W.heap.size W W') : s.post enc P f false fresh handsOn again W args (.bool true) W' := by
  have hWl := hW
  have hlt : ∀ x ∈ before, x.block < W.heap.size := fun x hx => by simpa using hW.lt x hx
  obtain ⟨p, q, hA, hV, rfl, hz, hn⟩ := hW
  rw [hv] at hV
  obtain ⟨rfl, rfl⟩ := trodVars_none hV
  have hargs : ∀ sp : Nat → Bool, (∀ x ∈ p ++ [], sp x.block = true) → DataW.TrodAll enc P W' 0 sp true f.params.toList args.toList (s.fn H (ds ++ [])).args p := fun sp hsp => by
    rw [hs]
    exact trodAll_stays hl hb hp hA (fun x hx => hlt x (by simp [hx])) (fun x hx => hsp x (by simp [hx]))
  have hres : ∀ (b : Nat) (sp : Nat → Bool) (hd : Bool), DataW.TrodAll enc P W' b sp hd f.resultTypes.toList ((Value.bool true).resultList f.resultTypes.size) (s.fn H (ds ++ [])).results [] := fun b sp hd => by
    rw [hs, hr]
    exact trodAll_cons_mk (shut_bool htb _) trodAll_mk0
  have hvars : ∀ sp : Nat → Bool, DataW.TrodVars enc P W' sp s.vars (s.fn H (ds ++ [])).vars [] := fun sp => by
    rw [hs, hv]
    rfl
  have hok : ∀ (j : Nat) (t : TypeId) (r : Value), f.resultTypes[j]? = some t → ((Value.bool true).resultList f.resultTypes.size)[j]? = some r → Value.okWide P W' .any 0 t r := ok_one hr rfl (okWide_bool_mk htb true)
  refine ⟨ds, [], p ++ [], [], p, [], hWl, hres _ _ _, hargs _ (fun x hx => by simpa using hlt x hx), hvars _, World.keptBut_mono (fun x hx => ⟨hx, ?_⟩) (hb.frame (· ∈ p ++ [])), fun _ => ?_⟩
  · exact Or.inr (List.mem_append.1 hx)
  · refine ⟨hok, _, _, ([] ++ p) ++ [], ⟨[] ++ p, [], trodAll_append (hargs _ (fun _ _ => rfl)) (hres _ _ _), hvars _, rfl, ?_, ?_⟩, ?_⟩
    · intro b off hx
      have hx' : MemPlace.cell b off ∈ p ++ [] := by simpa using hx
      rw [hb.frozen (p := ⟨b, off, none⟩) (hlt _ hx')]
      exact hz b off hx'
    · intro ha; cases ha
    · intro x hx _
      simpa using hx

theorem notAgg {s : Sh} {t : TypeId} {W : World} {r : Reach} {base : Nat} {cs : Array Value} (hs : s.isStruct = false) (hf : s.fits P t = true) (h : Value.okWide P W r base t (.agg cs)) : False := by
  cases s with
  | bool =>
    unfold Sh.fits at hf
    split at hf
    · rename_i hu; simp [Value.okWide, hu, Cell.okWide, Cell.ok] at h
    · cases hf
  | int k =>
    unfold Sh.fits at hf
    split at hf
    · rename_i hu; simp [Value.okWide, hu, Cell.okWide, Cell.ok] at h
    · cases hf
  | string =>
    unfold Sh.fits at hf
    split at hf
    · rename_i hu; simp [Value.okWide, hu, Cell.okWide, Cell.ok] at h
    · cases hf
  | slice e =>
    unfold Sh.fits at hf
    split at hf
    · rename_i hu; simp [Value.okWide, hu, Cell.okWide, Cell.ok] at h
    · cases hf
  | struct fs => cases hs

theorem cells_of_notAgg {v : Value} (h : ∀ cs, v ≠ .agg cs) : v.cells = #[v] := by
  cases v <;> first | rfl | exact (h _ rfl).elim

theorem arg_rep {K : Nat} {Q : DataW H → Prop} (hQ : Bounds K Q) {s : Sh} {t : TypeId} {W : World} {r : Reach} {base : Nat} {v : Value} {d : DataW H} {ps : List MemPlace} {sp : Nat → Bool} (hf : s.fits P t = true) (hok : Value.okWide P W r base t v) (h : DataW.Trod enc P W 0 sp true t v d ps) (hq : Q d) : ∃ x : AV, s.good K x ∧ Rep W (World.all W) v x := by
  obtain ⟨fuel, h⟩ := h
  obtain ⟨x, hx, hr⟩ := trod_rep hQ fuel s t _ _ hf h hq
  refine ⟨x, hx, ?_⟩
  by_cases hs : s.isStruct = true
  · cases s with
    | struct fs =>
      obtain ⟨cs, rfl, _⟩ := hx
      unfold Sh.fits at hf
      split at hf
      · rename_i ft hu
        simp only [Value.okWide, hu] at hok
        obtain ⟨vs, rfl, _, _⟩ := hok
        refine .agg vs cs (by simpa [Value.cells, cells_agg] using hr.1) (fun j c hc => ?_)
        have hj : j < vs.size := by have := hr.1; simp [Value.cells, cells_agg] at this; have := (List.getElem?_eq_some_iff.1 hc).1; omega
        exact hr.2 j _ c (by simp [Value.cells, hj]) (by simpa [cells_agg] using hc)
      · cases hf
    | _ => cases hs
  · have hs' : s.isStruct = false := by simpa using hs
    have hv : ∀ cs, v ≠ .agg cs := fun cs e => notAgg hs' hf (e ▸ hok)
    have hc := cells_of_notAgg hv
    rw [hc] at hr
    have hxa : x.cells = [x] := by
      cases s with
      | struct fs => cases hs'
      | bool => obtain ⟨b, rfl⟩ := hx; rfl
      | int k => obtain ⟨b, rfl, _⟩ := hx; rfl
      | string => obtain ⟨b, rfl, _⟩ := hx; rfl
      | slice e => obtain ⟨b, rfl, _⟩ := hx; rfl
    rw [hxa] at hr
    exact hr.2 0 v x rfl rfl

/-- the values of these shapes -/
def Goods (K : Nat) : List Sh → List AV → Prop
  | [], [] => True
  | s :: ss, x :: xs => s.good K x ∧ Goods K ss xs
  | _, _ => False

theorem goods_cons {K : Nat} {s : Sh} {ss : List Sh} {xs : List AV} (h : Goods K (s :: ss) xs) : ∃ x ys, xs = x :: ys ∧ s.good K x ∧ Goods K ss ys := by
  cases xs with
  | nil => exact h.elim
  | cons x ys => exact ⟨x, ys, rfl, h.1, h.2⟩
theorem goods_nil {K : Nat} {xs : List AV} (h : Goods K [] xs) : xs = [] := by
  cases xs with
  | nil => rfl
  | cons x ys => exact h.elim

def fitsAll (P : Program) : List Sh → List TypeId → Bool
  | [], [] => true
  | s :: ss, t :: ts => s.fits P t && fitsAll P ss ts
  | _, _ => false

theorem args_rep {K : Nat} {Q : DataW H → Prop} (hQ : Bounds K Q) {W : World} {base : Nat} {sp : Nat → Bool} : ∀ {ss : List Sh} {ts : List TypeId} {vs : List Value} {ds : List (DataW H)} {ps : List MemPlace}, fitsAll P ss ts = true → (∀ (j : Nat) t v, ts[j]? = some t → vs[j]? = some v → Value.okWide P W .any base t v) →
    DataW.TrodAll enc P W 0 sp true ts vs ds ps → (∀ d ∈ ds, Q d) → ∃ xs : List AV, Goods K ss xs ∧ RepL W (World.all W) vs xs
  | [], [], vs, ds, ps, hf, hok, h, hq => by
    obtain ⟨rfl, rfl, rfl⟩ := trodAll_nil h
    exact ⟨[], trivial, rfl, fun j v c hv => by simp at hv⟩
  | [], _ :: _, vs, ds, ps, hf, hok, h, hq => by simp [fitsAll] at hf
  | _ :: _, [], vs, ds, ps, hf, hok, h, hq => by simp [fitsAll] at hf
  | s :: ss, t :: ts, vs, ds, ps, hf, hok, h, hq => by
    obtain ⟨v, vs, d, ds, p, q, rfl, rfl, rfl, h1, h2⟩ := trodAll_cons h
    simp only [fitsAll, Bool.and_eq_true] at hf
    obtain ⟨x, hx, hr⟩ := arg_rep hQ hf.1 (hok 0 t v rfl rfl) h1 (hq _ (by simp))
    obtain ⟨xs, hxs, hrs⟩ := args_rep hQ hf.2 (fun j t v ht hv => hok (j + 1) t v (by simpa using ht) (by simpa using hv)) h2 (fun d hd => hq d (by simp [hd]))
    refine ⟨x :: xs, ⟨hx, hxs⟩, by simp [hrs.1], fun j v c hv hc => ?_⟩
    cases j with
    | zero => simp at hv hc; subst hv hc; exact hr
    | succ j => exact hrs.2 j v c (by simpa using hv) (by simpa using hc)

/-- A LAW, BY WHAT IT DOES. -/
theorem law_calls {K : Nat} {Q : DataW H → Prop} (hQ : Bounds K Q) {fid : FuncId} {f : Func} {s : ChangeSpec} {fresh handsOn again : Bool} {W : World} {base : Nat} {args : Array Value} {ds gs : List (DataW H)} {before : List MemPlace} {tb : TypeId} {ss : List Sh} (hl : laidOutB P = true) (hp : (f.params.toList.all fun t => P.readableRec t && decide (t < P.types.size)) = true)
    (hr : f.resultTypes = #[tb]) (htb : P.underlying tb = some .bool) (hv : s.vars = []) (hs : s.fn H (ds ++ gs) = { results := [.lit (.bool true)], args := ds }) (hf : fitsAll P ss f.params.toList = true)
    (hok : ∀ (j : Nat) t v, f.params[j]? = some t → args[j]? = some v → Value.okWide P W .any base t v) (hW : DataW.Whole enc P f.params.toList s.vars false W args.toList ds gs before)
    (hq : ∀ d ∈ ds, Q d) (hd : ∀ xs, Goods K ss xs → Does P Env.none_ fid xs (.ret [.v (.fl (.bool true))])) : Calls P fid args W fun e W' => ∃ v, e = .returned v ∧ s.post enc P f false fresh handsOn again W args v W' := by
  have hW' := hW
  obtain ⟨p, q, hA, _⟩ := hW'
  obtain ⟨xs, hx, hrep⟩ := args_rep hQ (ss := ss) hf (fun j t v ht hv => hok j t v (by simpa using ht) (by simpa using hv)) hA hq
  refine ((hd xs hx).2 W (World.all W) args trivial (fun p hp => ⟨hp, fun h => h⟩) hrep).mono fun e W' h => ?_
  obtain ⟨v, I, bo, rfl, hsince, hres, _⟩ := h
  have hv' : v = .bool true := rep_fl hres
  subst hv'
  exact ⟨_, rfl, post_true hl hp hr htb hv hs hW ⟨hsince.os, hsince.tape, hsince.output, hsince.size, fun k hk => hsince.block k hk (fun h => h) (Env.plain_lent _ k)⟩⟩
end
end Go.Ev
