import Derived.Test.YtoelfoplajpgnaaGenT
import Derived.RangeFuncNested
import Derived.RangeFuncLeaves
import Derived.RangeFuncBound
import Derived.RangeFuncCalls
import Derived.Shelf.Abstract
import Derived.Shelf.RegionOpen
import Derived.WalkKit
import Derived.OwnWalkIn
import Derived.TacticsInMore
import Derived.LoopNIn
import Derived.LoopIn
set_option linter.unusedSimpArgs false
set_option linter.unusedVariables false
namespace Go.Proofs
open Go.RowKit Go.Shelf Go Go.Ev

attribute [local go_sem] Oper.semAt_some

def Span.val (x : Span) : Value := .agg #[.int .i64 x.node, .int .i64 x.b, .int .i64 x.e]

/-- what has come when k rounds are over -/
def dn (l : List Span) (k : Nat) : List (Nat × Span) := (List.range k).map fun j => (l.length - 1 - j, l[l.length - 1 - j]?.getD ⟨0, 0, 0⟩)
theorem dn_succ (l : List Span) (k : Nat) : dn l (k + 1) = dn l k ++ [(l.length - 1 - k, l[l.length - 1 - k]?.getD ⟨0, 0, 0⟩)] := by simp [dn, List.range_succ]
theorem dn_length (l : List Span) (k : Nat) : (dn l k).length = k := by simp [dn]

set_option maxRecDepth 100000 in
set_option maxHeartbeats 2000000 in
theorem back1_in (F : Fence) (n : Nat) (h18 : F.fn 18) (hro : F.round = none) (hn : 1 ≤ n) (l Bs n₀ b off cap : Nat) (zs : List Span) (hlen : zs.length ≤ 4611686018427387904) (hb : b < n₀) (J Jx : List (Nat × Span) → World → Prop)
    (hY : ∀ pre x W, J pre W → pre.length < zs.length → YieldAt F (n - 1) Try.prog l #[.int .i64 (x.1 : Int), x.2.val] W fun e W' =>
      (e = .returned (.bool true) ∧ J (pre ++ [x]) W' ∧ Below n₀ W W') ∨ (e = .returned (.bool false) ∧ Jx (pre ++ [x]) W'))
    (W : World) (hBs : W.cell? ⟨Bs, 0, none⟩ = some (.slice (some ⟨b, off, none⟩) zs.length cap)) (hBn : Bs < n₀)
    (hc0 : ∀ j, j < zs.length → W.cell? ⟨b, off + j * 3, none⟩ = some (.int .i64 (zs[j]?.getD ⟨0, 0, 0⟩).node))
    (hc1 : ∀ j, j < zs.length → W.cell? ⟨b, off + j * 3 + 1, none⟩ = some (.int .i64 (zs[j]?.getD ⟨0, 0, 0⟩).b))
    (hc2 : ∀ j, j < zs.length → W.cell? ⟨b, off + j * 3 + 2, none⟩ = some (.int .i64 (zs[j]?.getD ⟨0, 0, 0⟩).e)) (h0 : J [] W) :
    CallsIn F n Try.prog 18 #[.func (.yield l) #[] #[], .pointer (some ⟨Bs, 0, none⟩)] W fun e W' => (∃ v, e = .returned v) ∧
      ((∃ ys, ys = dn zs zs.length ∧ J ys W') ∨ (∃ pre, (∃ k, k ≤ zs.length ∧ pre = dn zs k) ∧ Jx pre W')) := by
  refine callsIn_of_wp Try.func18 rfl h18 ?_ hro
  simp only [Try.ntmps18, List.size_toArray, List.length_cons, List.length_nil, Nat.reduceAdd, Nat.reduceSub, Array.replicate_succ, Array.replicate_zero, List.push_toArray, List.append_toArray, List.nil_append, List.cons_append]
  gi_wp2
  have hw1 : wrap64 ((zs.length : Int) - 1) = (zs.length : Int) - 1 := by simp [wrap64]; omega
  gi_loopw [3] (fun i wr => ∃ k : Nat, k ≤ zs.length ∧ i = .int .i64 ((zs.length : Int) - 1 - k) ∧ J (dn zs k) wr ∧ Below n₀ W wr)
    (fun i _ => (intOf i + 1).toNat)
  case atStart => exact ⟨0, Nat.zero_le _, by simp [hw1], h0, Below.refl _ _⟩
  case round =>
    obtain ⟨k, hk, rfl, hJs, hnx⟩ := hrel
    have hbs : wr.cell? ⟨Bs, 0, none⟩ = some (.slice (some ⟨b, off, none⟩) zs.length cap) := (hnx.cell (p := ⟨Bs, 0, none⟩) hBn).trans hBs
    by_cases hlt : k < zs.length
    · obtain ⟨i, hi⟩ : ∃ i, zs.length - 1 - k = i := ⟨_, rfl⟩
      have hik : (zs.length : Int) - 1 - k = (i : Int) := by omega
      have hil : i < zs.length := by omega
      have hg : zs[i]?.getD ⟨0, 0, 0⟩ = zs[i] := by simp [hil]
      have hd0 : wr.cell? ⟨b, off + i * 3, none⟩ = some (.int .i64 (zs[i]?.getD ⟨0, 0, 0⟩).node) := (hnx.cell (p := ⟨b, off + i * 3, none⟩) hb).trans (hc0 i hil)
      have hd1 : wr.cell? ⟨b, off + i * 3 + 1, none⟩ = some (.int .i64 (zs[i]?.getD ⟨0, 0, 0⟩).b) := (hnx.cell (p := ⟨b, off + i * 3 + 1, none⟩) hb).trans (hc1 i hil)
      have hd2 : wr.cell? ⟨b, off + i * 3 + 2, none⟩ = some (.int .i64 (zs[i]?.getD ⟨0, 0, 0⟩).e) := (hnx.cell (p := ⟨b, off + i * 3 + 2, none⟩) hb).trans (hc2 i hil)
      obtain ⟨fn, tmps, assign, body, hy, hR⟩ := hY _ (i, zs[i]) wr hJs (by rw [dn_length]; exact hlt)
      dsimp only [Span.val] at hy
      rw [hik]
      gi_wp2
      refine hR.mono ?_
      rintro e W3 (⟨rfl, hJ3, hk3⟩ | ⟨rfl, hJx3⟩)
      · gi_wp2
        go_roundw
        case rel => exact ⟨k + 1, by omega, by simp; omega, by rw [dn_succ, hi, hg]; exact hJ3, hnx.trans hk3⟩
        case measure => simp [intOf]
      · gi_wp2
        refine bodyPost_ret (results_none rfl _ _ _) rfl ?_
        exact ⟨⟨_, rfl⟩, .inr ⟨_, ⟨k + 1, by omega, by rw [dn_succ, hi, hg]⟩, hJx3⟩⟩
    · obtain rfl : k = zs.length := by omega
      gi_wp2
      go_end0
      exact ⟨⟨_, rfl⟩, .inl ⟨_, rfl, hJs⟩⟩
set_option maxRecDepth 100000 in
set_option maxHeartbeats 1000000 in
theorem back1_nil_in (F : Fence) (n : Nat) (h18 : F.fn 18) (hro : F.round = none) (l Bs cap : Nat) (A : Option Addr) (J : List (Nat × Span) → World → Prop) (W : World) (hBs : W.cell? ⟨Bs, 0, none⟩ = some (.slice A 0 cap)) (h0 : J [] W) :
    CallsIn F n Try.prog 18 #[.func (.yield l) #[] #[], .pointer (some ⟨Bs, 0, none⟩)] W fun e W' => (∃ v, e = .returned v) ∧ J [] W' := by
  refine callsIn_of_wp Try.func18 rfl h18 ?_ hro
  simp only [Try.ntmps18, List.size_toArray, List.length_cons, List.length_nil, Nat.reduceAdd, Nat.reduceSub, Array.replicate_succ, Array.replicate_zero, List.push_toArray, List.append_toArray, List.nil_append, List.cons_append]
  gi_wp2
  gi_loopw [3] (fun i wr => i = .int .i64 (-1) ∧ J [] wr) (fun _ _ => 0)
  case atStart => exact ⟨by simp [wrap64], h0⟩
  case round =>
    obtain ⟨rfl, hJs⟩ := hrel
    gi_wp2
    go_end0
    exact ⟨⟨_, rfl⟩, hJs⟩

set_option maxHeartbeats 1000000 in
theorem back_in (F : Fence) (n : Nat) (h13 : F.fn 13) (hro : F.round = none) (a : Option Addr) (len cap : Nat) (w : World) :
    CallsIn F n Try.prog 13 #[.slice a len cap] w fun e w' => e = .returned (.func (.func 18) #[] #[.pointer (some ⟨w.heap.size, 0, none⟩)]) ∧ w' = w.alloc (.cells #[.slice a len cap] 22) := by
  refine callsIn_of_wp Try.func13 rfl h13 ?_ hro
  simp only [Try.ntmps13, List.size_toArray, List.length_cons, List.length_nil, Nat.reduceAdd, Nat.reduceSub, Array.replicate_succ, Array.replicate_zero, List.push_toArray, List.append_toArray, List.nil_append, List.cons_append]
  gi_wp2
  go_ret
  exact ⟨rfl, rfl⟩

/-- the slice value sv holds these, in a block below n₀; or there are none -/
def Spans (n₀ : Nat) (W : World) (a : Option Addr) (zs : List Span) : Prop :=
  zs = [] ∨ ∃ b off, a = some ⟨b, off, none⟩ ∧ b < n₀ ∧ ∀ j, j < zs.length → W.cell? ⟨b, off + j * 3, none⟩ = some (.int .i64 (zs[j]?.getD ⟨0, 0, 0⟩).node) ∧
    W.cell? ⟨b, off + j * 3 + 1, none⟩ = some (.int .i64 (zs[j]?.getD ⟨0, 0, 0⟩).b) ∧ W.cell? ⟨b, off + j * 3 + 2, none⟩ = some (.int .i64 (zs[j]?.getD ⟨0, 0, 0⟩).e)
theorem Spans.below {n₀ : Nat} {A B : World} (h : Below n₀ A B) {a : Option Addr} {zs : List Span} : Spans n₀ A a zs → Spans n₀ B a zs
  | .inl e => .inl e
  | .inr ⟨b, off, e, hb, hc⟩ => .inr ⟨b, off, e, hb, fun j hj => ⟨(h.cell (p := ⟨b, off + j * 3, none⟩) hb).trans (hc j hj).1, (h.cell (p := ⟨b, off + j * 3 + 1, none⟩) hb).trans (hc j hj).2.1, (h.cell (p := ⟨b, off + j * 3 + 2, none⟩) hb).trans (hc j hj).2.2⟩⟩

theorem back_stops (F : Fence) (n : Nat) (h18 : F.fn 18) (hro : F.round = none) (hn : 1 ≤ n) (Bs n₀ : Nat) (a : Option Addr) (cap : Nat) (zs : List Span) (hlen : zs.length ≤ 4611686018427387904) (w : World) (hBs : Bs < n₀) (hn₀ : n₀ ≤ w.heap.size)
    (hc : w.cell? ⟨Bs, 0, none⟩ = some (.slice a zs.length cap)) (hI : Spans n₀ w a zs) :
    SeqStopsK F n Try.prog 18 #[.pointer (some ⟨Bs, 0, none⟩)] (fun x : Nat × Span => #[Value.int .i64 (x.1 : Int), x.2.val]) (Below n₀) (fun ys => ys = dn zs zs.length)
      (fun pre => ∃ k, k ≤ zs.length ∧ pre = dn zs k) zs.length w := fun l J Jx W hW _ _ hY h0 => by
  have hc' := (hW.cell (p := ⟨Bs, 0, none⟩) (by show Bs < _; omega)).trans hc
  rcases hI.below (hW.mono hn₀) with rfl | ⟨b, off, rfl, hb, hcs⟩
  · exact (back1_nil_in F n h18 hro l Bs cap a J W hc' h0).mono fun e W' ⟨he, hj⟩ => ⟨he, .inl ⟨_, rfl, hj⟩⟩
  · exact back1_in F n h18 hro hn l Bs n₀ b off cap zs hlen hb J Jx hY W hc' hBs (fun j hj => (hcs j hj).1) (fun j hj => (hcs j hj).2.1) (fun j hj => (hcs j hj).2.2) h0
/-- does a stretch lie over a place? -/
def over (p : Int) (x : Nat × Span) : Prop := x.2.b ≤ p ∧ p < x.2.e

set_option maxRecDepth 100000 in
set_option maxHeartbeats 4000000 in
theorem At_in (F : Fence) (n : Nat) (h7 : F.fn 7) (h13 : F.fn 13) (h18 : F.fn 18) (hro : F.round = none) (hn : 6 ≤ n) (a : Option Addr) (cap : Nat) (zs : List Span) (hlen : zs.length ≤ 4611686018427387904) (p : Int) (w : World) (hI : Spans w.heap.size w a zs) :
    CallsIn F n Try.prog 7 #[.slice a zs.length cap, .int .i64 p] w fun e W' => (∃ v, e = .returned (.int .i64 v) ∧ (((∀ y ∈ dn zs zs.length, ¬ over p y) ∧ v = 0) ∨ ∃ k, k ≤ zs.length ∧ ∃ pre x, dn zs k = pre ++ [x] ∧ (∀ y ∈ pre, ¬ over p y) ∧ over p x ∧ v = x.2.node)) ∧ Below w.heap.size w W' := by
  have h1 : 1 ≤ n := by omega
  refine callsIn_of_wp_marks Try.func7 rfl h7 ?_ hro
  simp only [Try.ntmps7, List.size_toArray, List.length_cons, List.length_nil, Nat.reduceAdd, Nat.reduceSub, Array.replicate_succ, Array.replicate_zero, List.push_toArray, List.append_toArray, List.nil_append, List.cons_append]
  gi_wp2_with (gi_at_call 13; refine (back_in F (n - 1) h13 hro _ _ _ _).mono ?_; rintro e w' ⟨rfl, rfl⟩)
  have bP := ((Boxed.new w 3 (.int .i64 p)).alloc (.cells #[.int .i64 0] 3)).alloc (.cells #[.slice a zs.length cap] 22)
  have bR := (Boxed.new (w.alloc (.cells #[.int .i64 p] 3)) 3 (.int .i64 0)).alloc (.cells #[.slice a zs.length cap] 22)
  have bS := Boxed.new ((w.alloc (.cells #[.int .i64 p] 3)).alloc (.cells #[.int .i64 0] 3)) 22 (.slice a zs.length cap)
  simp only [World.size_alloc] at bR bS
  have hB0 : Below w.heap.size w (((w.alloc (.cells #[.int .i64 p] 3)).alloc (.cells #[.int .i64 0] 3)).alloc (.cells #[.slice a zs.length cap] 22)) := (((Below.refl _ w).alloc (Nat.le_refl _) _).alloc (by simp) _).alloc (by simp; omega) _
  have hsz : (((w.alloc (.cells #[.int .i64 p] 3)).alloc (.cells #[.int .i64 0] 3)).alloc (.cells #[.slice a zs.length cap] 22)).heap.size = w.heap.size + 3 := by simp
  obtain ⟨W0, hW0⟩ : ∃ W0, ((w.alloc (.cells #[.int .i64 p] 3)).alloc (.cells #[.int .i64 0] 3)).alloc (.cells #[.slice a zs.length cap] 22) = W0 := ⟨_, rfl⟩
  rw [hW0] at bP bR bS hB0 hsz ⊢
  clear hW0
  have hI0 : Spans (w.heap.size + 3) W0 a zs := by
    rcases hI.below hB0 with h | ⟨b, off, h1, h2, h3⟩
    · exact .inl h
    · exact .inr ⟨b, off, h1, by omega, h3⟩
  refine wpIn_rangeFunc_ownH hro h1 (gf := 18) (lb := #[.pointer (some ⟨w.heap.size + 1 + 1, 0, none⟩)]) rfl h18 (enters_of Try.func18 (by kernel_rfl) rfl)
    (back_stops F (n - 1) h18 hro (by omega) (w.heap.size + 1 + 1) (w.heap.size + 3) a cap zs hlen W0 (by omega) (by omega) bS.cell hI0) belowK_t (belowK_b (by omega)) (Below.refl _ _) (fun _ => rfl)
    (fun pre W => ((∀ y ∈ pre, ¬ over p y) ∧ Boxed W w.heap.size 3 (.int .i64 p) ∧ Boxed W (w.heap.size + 1) 3 (.int .i64 0) ∧ Boxed W (w.heap.size + 1 + 1) 22 (.slice a zs.length cap)) ∧ Below w.heap.size w W)
    (fun c pre W => (c = .ret ∧ ∃ pre' x, pre = pre' ++ [x] ∧ (∀ y ∈ pre', ¬ over p y) ∧ over p x ∧ Boxed W (w.heap.size + 1) 3 (.int .i64 x.2.node)) ∧ Below w.heap.size w W)
    (OwnFrom.and (Own.from (fun s A B row hs hg hr => ⟨hs.1, boxed_own w.heap.size 3 (fun (_ : Unit) => Value.int .i64 p) () A B row hs.2.1 hg hr, boxed_own (w.heap.size + 1) 3 (fun (_ : Unit) => Value.int .i64 0) () A B row hs.2.2.1 hg hr, boxed_own (w.heap.size + 1 + 1) 22 (fun (_ : Unit) => Value.slice a zs.length cap) () A B row hs.2.2.2 hg hr⟩) _) (ownFrom_below (Nat.le_refl _) (by omega)))
    (fun c => OwnFrom.and (Own.from (fun s A B row hs hg hr => by
      obtain ⟨e, pre', x, h1, h2, h3, h4⟩ := hs
      exact ⟨e, pre', x, h1, h2, h3, boxed_own (w.heap.size + 1) 3 (fun (_ : Unit) => Value.int .i64 x.2.node) () A B row h4 hg hr⟩) _) (ownFrom_below (Nat.le_refl _) (by omega)))
    ⟨⟨by simp, bP, bR, bS⟩, hB0⟩
    (fun x a' W => ∃ Bx, w.heap.size + 1 < Bx ∧ W.heap[Bx]? = some (.cells #[.int .i64 x.2.node, .int .i64 x.2.b, .int .i64 x.2.e] 36 (0, 0)) ∧ a' = { tmps := #[.slice a zs.length cap, .int .i64 p, undef, .pointer (some ⟨w.heap.size, 0, none⟩), .pointer (some ⟨w.heap.size + 1, 0, none⟩), undef, .pointer (some ⟨Bx, 0, none⟩), .slice a zs.length cap, .func (.func 18) #[] #[.pointer (some ⟨w.heap.size + 1 + 1, 0, none⟩)], .int .i64 (x.1 : Int), .agg #[.int .i64 x.2.node, .int .i64 x.2.b, .int .i64 x.2.e], undef, undef, undef, undef, undef, undef, undef, undef, undef, undef, undef, undef], defers := [] })
    (fun x a' _ X Y row hs hg hr => by
      obtain ⟨Bx, h1, h2, h3⟩ := hs
      refine ⟨Bx, h1, (hg.block Bx (Array.getElem?_eq_some_iff.1 h2).1 ?_).trans h2, h3⟩
      intro e
      obtain ⟨_, o, ho, hc⟩ := hr Bx e.symm
      rw [h2] at ho; cases ho; cases hc)
    ?assign ?body ?done ?stop
  case assign =>
    rintro l pre x W K ⟨⟨hp, bP1, bR1, bS1⟩, hB1⟩ hK
    dsimp only [Span.val]
    gi_wp2
    have hlt := bS1.lt
    exact hK _ _ ((KeepsOthers.alloc _ _).from _) ((Below.refl _ W).alloc (by omega) _) ⟨⟨hp, bP1.alloc _, bR1.alloc _, bS1.alloc _⟩, hB1.alloc hB1.size _⟩ ⟨W.heap.size, by omega, World.alloc_heap_new W _, rfl⟩
  case body =>
    rintro l pre x a' W hl ⟨r, hr⟩ ⟨⟨hp, bP1, bR1, bS1⟩, hB1⟩ ⟨Bx, hBx, bX, rfl⟩ hlt
    have cP := bP1.cell
    have cR := bR1.cell
    have fR := bR1.frozen
    have cx0 : W.cell? ⟨Bx, 0, none⟩ = some (.int .i64 x.2.node) := by simp [World.cell?, bX]
    have cx1 : W.cell? ⟨Bx, 1, none⟩ = some (.int .i64 x.2.b) := by simp [World.cell?, bX]
    have cx2 : W.cell? ⟨Bx, 2, none⟩ = some (.int .i64 x.2.e) := by simp [World.cell?, bX]
    gi_wp2
    · rename_i hx1 hx2
      exact ⟨(KeepsOthers.setCell _ _ _).from _, ⟨rfl, pre, x, rfl, hp, ⟨hx1, hx2⟩, bR1.set _⟩, hB1.setCell (p := ⟨w.heap.size + 1, 0, none⟩) (by simp) _⟩
    · rename_i hx1 hx2
      exact ⟨KeepsFrom.refl _ _, Below.refl _ _, ⟨fun y hy => (List.mem_append.1 hy).elim (hp y) (fun e ho => by simp at e; subst e; have := ho.2; omega), bP1, bR1, bS1⟩, hB1⟩
    · rename_i hx1
      have hnew : ∀ y ∈ pre ++ [x], ¬ over p y := fun y hy => (List.mem_append.1 hy).elim (hp y) (fun e ho => by
        have e' : y = x := by simpa using e
        subst e'
        have := ho.1
        omega)
      refine ⟨KeepsFrom.refl _ _, Below.refl _ _, ⟨?_, bP1, bR1, bS1⟩, hB1⟩
      first | exact hnew | exact (fun y1 y2 hy => hnew (y1, y2) hy)
  case done =>
    rintro D ys W hD rfl ⟨⟨hne, _, bR1, _⟩, hB⟩ hK
    have cR := bR1.cell
    have fR := bR1.frozen
    gi_wp2
    have hK' := (KeepsOthers.setCell W ⟨w.heap.size + 1, 0, none⟩ (.int .i64 0)).same D _ hK rfl
    refine ⟨by simp, .inl ⟨_, _, rfl, run_takeDeferred hK', ?_⟩⟩
    have hc5 := cell_kept (World.cell?_setCell_same' W ⟨w.heap.size + 1, 0, none⟩ (.int .i64 0) (by rw [cR]; rfl)) (grownBy_putObj' _ D (.deferred none)) (fun r e => by cases e; exact ⟨_, hK', rfl⟩)
    refine ⟨.int .i64 0, ?_, ⟨0, rfl, .inl ⟨hne, rfl⟩⟩, (hB.setCell (p := ⟨w.heap.size + 1, 0, none⟩) (by simp) _).trans (belowK_b (w := w) (Nat.le_refl _) _ D _ _ (by omega) hK' rfl rfl)⟩
    simp [results, Try.f7, go_sem, hc5]
  case stop =>
    rintro D c pre W hD ⟨k, hk, rfl⟩ ⟨⟨rfl, pre', x, h1, h2, h3, h4⟩, hB⟩ hK
    have cR := h4.cell
    gi_wp2
    refine ⟨by simp, .inl ⟨_, _, rfl, run_takeDeferred hK, ?_⟩⟩
    have hc5 := cell_kept cR (grownBy_putObj' _ D (.deferred none)) (fun r e => by cases e; exact ⟨_, hK, rfl⟩)
    refine ⟨.int .i64 x.2.node, ?_, ⟨_, rfl, .inr ⟨k, hk, pre', x, h1, h2, h3, rfl⟩⟩, hB.trans (belowK_b (w := w) (Nat.le_refl _) W D _ _ (by omega) hK rfl rfl)⟩
    simp [results, Try.f7, go_sem, hc5]
end Go.Proofs
