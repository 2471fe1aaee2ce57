/- The law GenTraces (layer 21) holds: for every list of spans, every place and every node it returns true and leaves its arguments as they were. No condition. -/
import Derived.Test.YtoelfoplajpgnaaLaw3
import Derived.Test.YtoelfoplajpgnaaEvLaw
import Derived.Test.YtoelfoplajpgnaaRows
import Derived.WalkKit
import Derived.ProofKit
import Derived.OpenShut
set_option linter.unusedSimpArgs false
set_option linter.unusedVariables false
namespace Go.Proofs.Ytoelfoplajpgnaa.genTraces
open Go Go.Ev Go.ChangeShapes Go.WideShapes Go.ChangeAt Go.RowKit

theorem own : ownKnob Try.prog.godebug = none := by kernel_rfl

def shSpan : Sh := .struct (.cons (.int .i64) (.cons (.int .i64) (.cons (.int .i64) .nil)))
def shapes : List Sh := [.slice shSpan, .int .i64, .int .i64]

theorem span_good {x : AV} (h : shSpan.good x) : ∃ y : Span, x = y.av := by
  obtain ⟨cs, rfl, a, ds, ⟨n, rfl, _⟩, ⟨b, ds', ⟨m, rfl, _⟩, ⟨c, ds'', ⟨k, rfl, _⟩, rfl, rfl⟩, rfl⟩, rfl⟩ := h
  exact ⟨⟨n, m, k⟩, rfl⟩

theorem list_of {α : Type} {f : α → AV} : ∀ {xs : List AV}, (∀ x ∈ xs, ∃ y, x = f y) → ∃ l : List α, xs = l.map f
  | [], _ => ⟨[], rfl⟩
  | x :: xs, h => by
    obtain ⟨y, rfl⟩ := h x (by simp)
    obtain ⟨l, rfl⟩ := list_of (xs := xs) fun z hz => h z (by simp [hz])
    exact ⟨y :: l, rfl⟩

theorem does (xs : List AV) (h : Goods shapes xs) : Does Try.prog Env.none_ 3 xs (.ret [.v (.fl (.bool true))]) := by
  obtain ⟨a, xs1, rfl, ⟨ys, rfl, _, h2⟩, k1⟩ := goods_cons h
  obtain ⟨b, xs2, rfl, ⟨p, rfl, _⟩, k2⟩ := goods_cons k1
  obtain ⟨c, xs3, rfl, ⟨n, rfl, _⟩, k3⟩ := goods_cons k2
  obtain rfl := goods_nil k3
  obtain ⟨l, rfl⟩ := list_of fun y hy => span_good (h2 y hy)
  exact GenTraces_does _ l p n

theorem contract (H : Type) (enc : TypeId × Value → H) (W : World) (base : Nat) (args : Array Value) (ds gs : List (DataW H)) (before : List MemPlace)
    (hval : ∀ (j : Nat) t v, Try.f3.params[j]? = some t → args[j]? = some v → Value.okWide Try.prog W .any base t v)
    (hW : DataW.Whole enc Try.prog Try.f3.params.toList Rows.genTracesSpec.vars false W args.toList ds gs before) :
    Calls Try.prog 3 args W fun e W' => ∃ v, e = .returned v ∧ Rows.genTracesSpec.post enc Try.prog Try.f3 false true false false W args v W' := by
  have hs : Rows.genTracesSpec.fn H (ds ++ gs) = { results := [.lit (.bool true)], args := ds } := by
    obtain ⟨p, q, hA, hV, _⟩ := hW
    obtain ⟨rfl, rfl⟩ := trodVars_none hV
    rw [Try.params3] at hA
    obtain ⟨_, _, _, _, _, _, _, rfl, _, _, r0⟩ := trodAll_cons hA
    obtain ⟨_, _, _, _, _, _, _, rfl, _, _, r1⟩ := trodAll_cons r0
    obtain ⟨_, _, _, _, _, _, _, rfl, _, _, r2⟩ := trodAll_cons r1
    obtain ⟨_, rfl, _⟩ := trodAll_nil r2
    rfl
  exact law_calls (ss := shapes) (by kernel_rfl) (by kernel_rfl) rfl (by kernel_rfl) rfl hs (by kernel_rfl) hval hW does

set_option maxRecDepth 100000 in
theorem lifted (os : Os) (started : os.Started) (H : Type) (enc : TypeId × Value → H) :
    ReturnsInHanded {} Try.checked os 3 .any (Rows.genTracesSpec.pre6 enc Try.prog Try.f3 Rows.genTracesRow.domain false) (Rows.genTracesSpec.post enc Try.prog Try.f3 false true false false) := by
  refine returnsInHanded_of_change (C := Try.checked) own started (by kernel_rfl) Try.func3
    (ChangeSpec.witness6 (enc := enc) (C := Try.checked) false ⟨#[], #[.slice none 0 0, .int .i64 0, .int .i64 0], []⟩ 8 (by kernel_rfl) (by kernel_rfl) (by kernel_rfl) (by kernel_rfl)) ?_
  intro W base args ds gs before hval hW _ _
  exact contract H enc W base args ds gs before hval hW
theorem over : Rows.genTracesRow.holds Try.pinned (OpenSpec.ofChange Rows.genTracesSpec) :=
  OpenClaim.holds_of_wide 3 Try.f3 rfl rfl rfl rfl rfl rfl rfl ⟨rfl, rfl, rfl, rfl, rfl⟩ rfl rfl rfl rfl rfl (by kernel_rfl) Try.func3 (by kernel_rfl)
    (of_decide_eq_true (by kernel_rfl)) (by unfold Func.isWrapper; first | (rw [if_pos (by decide +kernel)]; kernel_rfl) | (rw [if_neg (by decide +kernel)]; exact ⟨rfl, rfl⟩))
    (fun os started H enc _ => lifted os started H enc)

theorem proved : Rows.GenTracesSaid := over
#print axioms proved
end Go.Proofs.Ytoelfoplajpgnaa.genTraces
