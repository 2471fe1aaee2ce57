/- The law MenuMatches (layer 14) holds: for every model, list of items, name and text, of bulk at most 1048576 together, it returns true and leaves its arguments as they were. -/
import Derived.Test.YtoelfoplajpgnaaRows
import Derived.WalkKit
import Derived.ProofKit
import Derived.OpenShut
import Derived.JoinedCond
import Derived.Test.YtoelfoplajpgnaaPB
import Derived.Test.YtoelfoplajpgnaaEvLaw
set_option linter.unusedVariables false
set_option linter.unusedSimpArgs false
set_option linter.unusedSectionVars false

namespace Go.Proofs.Ytoelfoplajpgnaa.menuMatches
open Go Go.Ev Go.ChangeShapes Go.WideShapes Go.ChangeAt Go.RowKit Go.Proofs.Mm

theorem own : ownKnob Try.prog.godebug = none := by kernel_rfl

def shProp : Sh := .struct (.cons .string (.cons .string .nil))
def shRef : Sh := .struct (.cons .string (.cons (.int .i64) .nil))
def shNode : Sh := .struct (.cons (.int .i64) (.cons .string (.cons (.int .i64) (.cons .string (.cons (.slice shProp) (.cons (.slice (.int .i64)) (.cons (.slice shRef) .nil)))))))
def shModel : Sh := .struct (.cons (.int .i64) (.cons (.slice shNode) .nil))
def shItem : Sh := .struct (.cons .string (.cons (.int .i64) .nil))
def shapes : List Sh := [shModel, .slice shItem, .string, .string]

theorem i64_of {n : Int} (h1 : IntKind.i64.min ≤ n) (h2 : n ≤ IntKind.i64.max) : I64 n := by
  have a : IntKind.i64.min = -9223372036854775808 := by decide
  have b : IntKind.i64.max = 9223372036854775807 := by decide
  rw [a] at h1
  rw [b] at h2
  exact ⟨h1, h2⟩

theorem list_of {α : Type} {f : α → AV} {p : α → Prop} : ∀ {xs : List AV}, (∀ x ∈ xs, ∃ y, x = f y ∧ p y) → ∃ l : List α, xs = l.map f ∧ (∀ y ∈ l, p y)
  | [], _ => ⟨[], rfl, fun y hy => by cases hy⟩
  | x :: xs, h => by
    obtain ⟨y, rfl, hp⟩ := h x (by simp)
    obtain ⟨l, rfl, hl⟩ := list_of (xs := xs) fun z hz => h z (by simp [hz])
    exact ⟨y :: l, rfl, fun z hz => by
      rcases List.mem_cons.1 hz with e | e
      · rw [e]; exact hp
      · exact hl z e⟩

section
variable {K : Nat}
theorem prop_good {x : AV} (h : shProp.good K x) : ∃ y : Prp, x = y.av ∧ y.name.length ≤ K := by
  obtain ⟨cs, rfl, a, ds, ⟨n, rfl, h1⟩, ⟨b, ds', ⟨v, rfl, _⟩, rfl, rfl⟩, rfl⟩ := h
  exact ⟨⟨n, v⟩, rfl, h1⟩
theorem ref_good {x : AV} (h : shRef.good K x) : ∃ y : Rf, x = y.av ∧ y.role.length ≤ K := by
  obtain ⟨cs, rfl, a, ds, ⟨n, rfl, h1⟩, ⟨b, ds', ⟨v, rfl, _⟩, rfl, rfl⟩, rfl⟩ := h
  exact ⟨⟨n, v⟩, rfl, h1⟩
theorem item_good {x : AV} (h : shItem.good K x) : ∃ y : Itm, x = y.av ∧ I64 y.target := by
  obtain ⟨cs, rfl, a, ds, ⟨n, rfl, h1⟩, ⟨b, ds', ⟨v, rfl, h2, h3⟩, rfl, rfl⟩, rfl⟩ := h
  exact ⟨⟨n, v⟩, rfl, i64_of h2 h3⟩
theorem kid_good {x : AV} (h : (Sh.int .i64).good K x) : ∃ n : Int, x = intAV n ∧ I64 n := by
  obtain ⟨n, rfl, h1, h2⟩ := h
  exact ⟨n, rfl, i64_of h1 h2⟩
end

theorem node_good {x : AV} (h : shNode.good 1048576 x) : ∃ y : Nd, x = y.av ∧ NdOk y := by
  obtain ⟨cs, rfl, a1, d1, ⟨id, rfl, _⟩, ⟨a2, d2, ⟨con, rfl, hc⟩, ⟨a3, d3, ⟨par, rfl, hp1, hp2⟩, ⟨a4, d4, ⟨role, rfl, hr⟩, ⟨a5, d5, ⟨ps, rfl, hps1, hps⟩, ⟨a6, d6, ⟨ks, rfl, hks1, hks⟩, ⟨a7, d7, ⟨rs, rfl, hrs1, hrs⟩, rfl, rfl⟩, rfl⟩, rfl⟩, rfl⟩, rfl⟩, rfl⟩, rfl⟩ := h
  obtain ⟨props, rfl, hprops⟩ := list_of fun y hy => prop_good (hps y hy)
  obtain ⟨kids, rfl, hkids⟩ := list_of fun y hy => kid_good (hks y hy)
  obtain ⟨refs, rfl, hrefs⟩ := list_of fun y hy => ref_good (hrs y hy)
  rw [List.length_map] at hps1 hks1 hrs1
  exact ⟨⟨id, con, par, role, props, kids, refs⟩, rfl, ⟨hc, hr, hps1, hprops, hks1, hkids, hrs1, hrefs, i64_of hp1 hp2⟩⟩

theorem does (xs : List AV) (h : Goods 1048576 shapes xs) : Does Try.prog Env.none_ 4 xs (.ret [.v (.fl (.bool true))]) := by
  obtain ⟨a, xs1, rfl, ⟨cs, rfl, a1, d1, ⟨next, rfl, _⟩, ⟨a2, d2, ⟨ns, rfl, _, hns⟩, rfl, rfl⟩, rfl⟩, k1⟩ := goods_cons h
  obtain ⟨b, xs2, rfl, ⟨is, rfl, _, his⟩, k2⟩ := goods_cons k1
  obtain ⟨c, xs3, rfl, ⟨name, rfl, _⟩, k3⟩ := goods_cons k2
  obtain ⟨d, xs4, rfl, ⟨typed, rfl, _⟩, k4⟩ := goods_cons k3
  obtain rfl := goods_nil k4
  obtain ⟨nodes, rfl, hnodes⟩ := list_of fun y hy => node_good (hns y hy)
  obtain ⟨items, rfl, hitems⟩ := list_of fun y hy => item_good (his y hy)
  obtain ⟨N, hN⟩ : ∃ N : Nat, 1073741824 ≤ N := ⟨_, Nat.le_refl _⟩
  exact F4_does _ N ⟨next, nodes⟩ items name typed true (law hN name typed hnodes hitems)

/-! ### What the bound gives -/

theorem part_le {H : Type} {d : DataW H} : ∀ {l : List (DataW H)}, d ∈ l → Rows.uptoBulk d ≤ Rows.uptoBulkAll l
  | x :: r, h => by
    simp only [Rows.uptoBulkAll]
    rcases List.mem_cons.1 h with e | e
    · subst e; omega
    · have := part_le e; omega
theorem one_le {H : Type} (d : DataW H) : 1 ≤ Rows.uptoBulk d := by
  cases d with
  | lit l => cases l <;> simp [Rows.uptoBulk]
  | nil => simp [Rows.uptoBulk]
  | ptr d => simp [Rows.uptoBulk]
  | slice elems spare => simp [Rows.uptoBulk]
  | agg parts => simp [Rows.uptoBulk]
  | iface t d => simp [Rows.uptoBulk]
  | map entries => simp [Rows.uptoBulk]
  | held h => simp [Rows.uptoBulk]
theorem length_le {H : Type} : ∀ l : List (DataW H), l.length ≤ Rows.uptoBulkAll l
  | [] => by simp
  | x :: r => by
    have := one_le x
    have := length_le r
    simp only [Rows.uptoBulkAll, List.length_cons]
    omega

theorem bounds (H : Type) : Bounds (H := H) 1048576 (fun d => Rows.uptoBulk d ≤ 1048576) where
  str b h _ := by simp only [Rows.uptoBulk] at h; omega
  len es sp h _ := by have := length_le es; simp only [Rows.uptoBulk] at h; omega
  elem es sp d h hd := by have := part_le hd; simp only [Rows.uptoBulk] at h; omega
  part ps d h hd := by have := part_le hd; simp only [Rows.uptoBulk] at h; omega

theorem contract (H : Type) (enc : TypeId × Value → H) (W : World) (base : Nat) (args : Array Value) (ds gs : List (DataW H)) (before : List MemPlace)
    (hval : ∀ (j : Nat) t v, Try.f4.params[j]? = some t → args[j]? = some v → Value.okWide Try.prog W .any base t v)
    (hW : DataW.Whole enc Try.prog Try.f4.params.toList Rows.menuMatchesSpec.vars false W args.toList ds gs before) (hk : Rows.uptoSmall H (ds ++ gs) = true) :
    Calls Try.prog 4 args W fun e W' => ∃ v, e = .returned v ∧ Rows.menuMatchesSpec.post enc Try.prog Try.f4 false true false false W args v W' := by
  have hs : Rows.menuMatchesSpec.fn H (ds ++ gs) = { results := [.lit (.bool true)], args := ds } := by
    obtain ⟨p, q, hA, hV, _⟩ := hW
    obtain ⟨rfl, rfl⟩ := trodVars_none hV
    rw [Try.params4] at hA
    obtain ⟨_, _, _, _, _, _, _, rfl, _, _, r0⟩ := trodAll_cons hA
    obtain ⟨_, _, _, _, _, _, _, rfl, _, _, r1⟩ := trodAll_cons r0
    obtain ⟨_, _, _, _, _, _, _, rfl, _, _, r2⟩ := trodAll_cons r1
    obtain ⟨_, _, _, _, _, _, _, rfl, _, _, r3⟩ := trodAll_cons r2
    obtain ⟨_, rfl, _⟩ := trodAll_nil r3
    rfl
  have hb : ∀ d ∈ ds, Rows.uptoBulk d ≤ 1048576 := fun d hd => by
    have h1 : Rows.uptoBulkAll (ds ++ gs) ≤ 1048576 := of_decide_eq_true hk
    have h2 : Rows.uptoBulk d ≤ Rows.uptoBulkAll (ds ++ gs) := part_le (List.mem_append.2 (.inl hd))
    omega
  exact law_calls (bounds H) (ss := shapes) (by kernel_rfl) (by kernel_rfl) rfl (by kernel_rfl) rfl hs (by kernel_rfl) hval hW hb does

set_option maxRecDepth 100000 in
theorem lifted (os : Os) (started : os.Started) (H : Type) (enc : TypeId × Value → H) (F : Stop.Interp) :
    ReturnsInHanded {} Try.checked os 4 .any ((Rows.OpenSpec.upto Rows.menuMatchesSpec).pre6 enc Try.prog Try.f4 Rows.menuMatchesUptoRow.domain false) (((Rows.OpenSpec.upto Rows.menuMatchesSpec).at F).post enc Try.prog Try.f4 false true false false) := by
  refine returnsInHanded_of_cond (C := Try.checked) (s := Rows.OpenSpec.upto Rows.menuMatchesSpec) (k := Rows.uptoSmall) rfl own started (by kernel_rfl) Try.func4
    (OpenSpec.witness (enc := enc) (C := Try.checked) (s := Rows.OpenSpec.upto Rows.menuMatchesSpec) (k := Rows.uptoSmall) rfl false ⟨#[], #[.agg #[.int .i64 0, .slice none 0 0], .slice none 0 0, .string .empty, .string .empty], []⟩ 8 (by kernel_rfl) (by kernel_rfl) (by kernel_rfl)
      (x := ([.agg [.lit (.int .i64 0), .nil], .nil, .lit (.string []), .lit (.string [])], [], [])) (by kernel_rfl) rfl (by kernel_rfl)) ?_
  intro W base args ds gs before hval hW _ hk _
  exact contract H enc W base args ds gs before hval hW hk

theorem proved : Rows.MenuMatchesUptoSaid :=
  OpenClaim.holds_of_cond 4 Try.f4 rfl rfl rfl rfl rfl rfl rfl ⟨rfl, rfl, rfl, rfl, rfl⟩ rfl rfl rfl rfl rfl (by kernel_rfl) Try.func4 (by kernel_rfl)
    (of_decide_eq_true (by kernel_rfl)) (by unfold Func.isWrapper; first | (rw [if_pos (by decide +kernel)]; kernel_rfl) | (rw [if_neg (by decide +kernel)]; exact ⟨rfl, rfl⟩))
    (fun os started H enc _ F => lifted os started H enc F)
#print axioms proved
end Go.Proofs.Ytoelfoplajpgnaa.menuMatches
