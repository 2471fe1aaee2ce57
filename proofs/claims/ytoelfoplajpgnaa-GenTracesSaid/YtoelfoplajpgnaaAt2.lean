import Derived.Test.YtoelfoplajpgnaaAt1
set_option linter.unusedSimpArgs false
set_option linter.unusedVariables false
namespace Go.Proofs
open Go.RowKit Go.Shelf Go Go.Ev

theorem since_below {E : Env} {w0 w : World} {I0 : Cells} (hinv : E.inv w0) (hI : ∀ p, I0 p → p.block < w0.heap.size ∧ ¬ E.foot w0 p.block) (h : Below w0.heap.size w0 w) : Since E w0 I0 w I0 := by
  obtain ⟨h1, h2⟩ := E.stays w0 w hinv fun b hb => h.block b (E.lt w0 b hinv hb)
  exact ⟨h.os, h.tape, h.output, h.size, fun k hk _ => h.block k hk, fun b hb => .inl (h2 b hb), h1, fun _ h => h, fun _ h => .inl h, fun p hp => Nat.lt_of_lt_of_le (hI p hp).1 h.size, fun p hp hf => (hI p hp).2 (h2 _ hf)⟩

theorem foldr_find {α β : Type} (c : α → Bool) (f : α → β) (a0 : β) : ∀ r : List α, r.foldr (fun x a => if c x = true then f x else a) a0 = ((r.find? c).map f).getD a0
  | [] => rfl
  | x :: r => by
    simp only [List.foldr_cons, List.find?_cons]
    cases hc : c x
    · simp only [Bool.false_eq_true, if_false]; exact foldr_find c f a0 r
    · simp

theorem atF_find (l : List Span) (p : Int) : atF l p = ((l.reverse.find? (fun x => decide (x.b ≤ p ∧ p < x.e))).map Span.node).getD 0 := by
  have h := foldr_find (fun x : Span => decide (x.b ≤ p ∧ p < x.e)) Span.node 0 l.reverse
  simp only [decide_eq_true_eq, List.foldr_reverse] at h
  exact h

theorem dn_snd {l : List Span} {k : Nat} (hk : k ≤ l.length) : (dn l k).map (·.2) = l.reverse.take k := by
  apply List.ext_getElem
  · simp [dn, hk]
  · intro i h1 h2
    have hi : i < k := by simpa [dn] using h1
    simp only [dn, List.map_map, List.getElem_map, List.getElem_range, Function.comp_apply, List.getElem_take, List.getElem_reverse]
    have : l.length - 1 - i < l.length := by omega
    simp [this]

theorem atF_of {l : List Span} {p v : Int} (h : ((∀ y ∈ dn l l.length, ¬ over p y) ∧ v = 0) ∨ ∃ k, k ≤ l.length ∧ ∃ pre x, dn l k = pre ++ [x] ∧ (∀ y ∈ pre, ¬ over p y) ∧ over p x ∧ v = x.2.node) : v = atF l p := by
  rw [atF_find]
  rcases h with ⟨h, rfl⟩ | ⟨k, hk, pre, x, h1, h2, h3, rfl⟩
  · have hf : l.reverse.find? (fun x => decide (x.b ≤ p ∧ p < x.e)) = none := by
      rw [List.find?_eq_none]
      intro y hy
      have e := dn_snd (Nat.le_refl l.length)
      rw [List.take_of_length_le (by simp)] at e
      rw [← e, List.mem_map] at hy
      obtain ⟨z, hz, rfl⟩ := hy
      simpa [over] using h z hz
    rw [hf]; rfl
  · have hf : l.reverse.find? (fun x => decide (x.b ≤ p ∧ p < x.e)) = some x.2 := by
      rw [List.find?_eq_some_iff_append]
      refine ⟨by simpa [over] using h3, pre.map (·.2), l.reverse.drop k, ?_, fun y hy => ?_⟩
      · have e := dn_snd hk
        rw [h1, List.map_append] at e
        have := List.take_append_drop k l.reverse
        rw [← e] at this
        simpa using this.symm
      · rw [List.mem_map] at hy
        obtain ⟨z, hz, rfl⟩ := hy
        have h4 := h2 z hz
        simp only [over] at h4
        simp
        omega
    rw [hf]; rfl

theorem spot_none {w : World} {a : Addr} {v : Value} (h : w.cell? a = some v) : a.spot = none := by
  unfold World.cell? at h
  split at h
  · split at h
    · cases h
    · rename_i hs; simpa using hs
  · cases h

theorem addr_eq {a : Addr} (h : a.spot = none) (k : Nat) : a.add k = ⟨a.block, a.off + k, none⟩ := by
  obtain ⟨b, o, sp⟩ := a
  simp only at h
  subst h
  unfold Addr.add
  split
  · rename_i hk; subst hk; rfl
  · rfl

theorem At_does (E : Env) (l : List Span) (p : Int) (hl : l.length ≤ 4611686018427387904) : Does Try.prog E 7 [.sl (l.map Span.av), .fl (.int .i64 p)] (.ret [.v (.fl (.int .i64 (atF l p)))]) := by
  refine ⟨enters_of Try.func7 (by kernel_rfl) rfl, fun w0 I0 vs hinv hI hargs => ?_⟩
  obtain ⟨v0, v1, hvs⟩ : ∃ v0 v1, vs = #[v0, v1] := by
    have hs : vs.size = 2 := by simpa using hargs.1
    obtain ⟨vl⟩ := vs
    match vl, hs with
    | [x, y], _ => exact ⟨x, y, rfl⟩
  subst hvs
  have r0 : Rep w0 I0 v0 (.sl (l.map Span.av)) := hargs.2 0 v0 _ rfl rfl
  have r1 : Rep w0 I0 v1 (.fl (.int .i64 p)) := hargs.2 1 v1 _ rfl rfl
  obtain rfl := rep_fl r1
  obtain ⟨a, cap, rfl, hS⟩ : ∃ a cap, v0 = .slice a l.length cap ∧ Spans w0.heap.size w0 a l := by
    generalize hx : AV.sl (l.map Span.av) = y at r0
    cases r0 with
    | slNone c =>
      simp only [AV.sl.injEq, List.map_eq_nil_iff] at hx
      subst hx
      exact ⟨none, c, rfl, .inl rfl⟩
    | sl a n cap sz xs cv hn hcap hmax hsz hc hI' hr =>
      simp only [AV.sl.injEq] at hx
      subst hx
      refine ⟨some a, cap, by rw [hn, List.length_map], ?_⟩
      rcases Nat.eq_zero_or_pos l.length with h0 | hpos
      · exact .inl (List.length_eq_zero_iff.1 h0)
      · have hg0 := map_get (f := Span.av) hpos
        have hsz3 : sz = 3 := by simpa using (hsz 0 _ hg0).1.symm
        subst hsz3
        have hca := hc 0 0 _ _ hg0 (by rw [Span.av_cells]; rfl)
        have hsp : a.spot = none := by simpa [Addr.add] using spot_none hca
        refine .inr ⟨a.block, a.off, by cases a; simp_all, (hI _ (by simpa [Addr.add] using hI' 0 0 _ _ hg0 (by rw [Span.av_cells]; rfl))).1, fun j hj => ?_⟩
        have hgj := map_get (f := Span.av) hj
        have key : ∀ q c, l[j].av.cells[q]? = some (.fl c) → w0.cell? ⟨a.block, a.off + (j * 3 + q), none⟩ = some c := fun q c hq => by
          have h1 := hc j q _ _ hgj hq
          have h2 := rep_fl (hr j q _ _ hgj hq)
          rw [addr_eq hsp, h2] at h1
          exact h1
        have hg : l[j]?.getD ⟨0, 0, 0⟩ = l[j] := by simp [hj]
        rw [hg]
        exact ⟨key 0 _ rfl, key 1 _ rfl, key 2 _ rfl⟩
    | _ => cases hx
  refine (callsIn_wide.1 (At_in Fence.wide 6 trivial trivial trivial rfl (by omega) a cap l hl p w0 hS)).mono fun e w' hp => ?_
  obtain ⟨⟨v, rfl, hv⟩, hB⟩ := hp
  refine ⟨_, I0, fun _ => none, rfl, since_below hinv hI hB, ?_, by simp, by simp⟩
  rw [atF_of hv]
  exact .fl _ rfl
end Go.Proofs
