import Derived.Test.YtoelfoplajpgnaaEvLift
set_option linter.unusedVariables false
set_option linter.unusedSimpArgs false
set_option linter.unusedSectionVars false

namespace Go.Ev
open Go

/-! ### What the walks are run by -/

attribute [go_sem] rops1 ropsD1 rOp rOpD rValue rLoad rFieldAddr rIndexAddr
attribute [go_sem] rStore rBin onVal rSlice rSliceSl rBuiltin rLoadAV gtmp
attribute [go_sem] gate beq_self_eq_true beq_t beq_f Bool.not_true Bool.not_false bnd boxCells
attribute [go_sem] regCells regAV regAVs regAVsOf partsOf alive oneReg lenOfReg
attribute [go_sem] srcOf intBin strBin St.newCells St.newArr writeAt setElem avReg
attribute [go_sem] AV.wf cells_agg cells_fl cells_sl cells_ref cells_fn cells_ifc isAgg_agg
attribute [go_sem] isAgg_fl isAgg_sl isAgg_ref isAgg_fn isAgg_ifc List.mem_cons forall_eq_or_imp List.not_mem_nil
attribute [go_sem] List.nil_append List.cons_append List.append_nil forall_eq AExit.then_normal upd_apply St.ev constReg
attribute [go_sem] constCell St.put_some St.put_none Option.some.injEq Option.bind_some Option.map_some Prod.mk.injEq exists_eq_left'
attribute [go_sem] exists_eq_left exists_eq' exists_eq exists_and_left and_assoc true_and and_true true_or
attribute [go_sem] or_true and_self ne_eq not_false_eq_true not_true_eq_false false_and and_false or_false
attribute [go_sem] false_or TypeDesc.slice.injEq List.map_cons List.map_nil List.length_map List.length_cons List.length_nil List.drop_zero
attribute [go_sem] List.drop_succ_cons List.take_zero List.take_succ_cons List.take_nil List.drop_nil List.headD_cons List.getElem?_toArray List.getElem?_cons_zero
attribute [go_sem] List.getElem?_cons_succ List.size_toArray List.toList_toArray Nat.zero_le Nat.le_refl Nat.sub_zero List.set_cons_zero List.set_cons_succ
attribute [go_sem] Nat.zero_lt_succ Nat.zero_mul Nat.zero_add Nat.add_zero Int.toNat_natCast Int.toNat_zero Int.le_refl Int.natCast_nonneg
attribute [go_sem] Reg.val.injEq AV.fl.injEq Value.bool.injEq decide_true decide_false Bool.true_eq_false Bool.false_eq_true implies_true
attribute [go_sem] forall_const false_implies true_implies List.getElem?_map if_true flatEqs Value.int.injEq Elems
attribute [go_sem] List.mem_map forall_exists_index and_imp forall_apply_eq_imp_iff₂ List.range_zero List.range_succ St.adopt bne
attribute [go_sem] Bx.arr.injEq
attribute [go_sem] List.take_length take_length_map Bool.and_true writeParts List.all_cons List.all_nil

/-- what an end of a walk is tidied by -/
theorem fs_all : (∀ (α β : Type) (f : α → β) (a b : List α), List.map f (a ++ b) = List.map f a ++ List.map f b) ∧ (∀ (α β : Type) (f : α → β) (l : List α) (n : Nat), List.map f (l.drop n) = (List.map f l).drop n) ∧ (∀ (α β : Type) (f : α → β) (l : List α) (n : Nat), List.map f (l.take n) = (List.map f l).take n) ∧
    (∀ (α β : Type) (f : α → β) (l : List α) (n : Nat) (x : α), List.map f (l.set n x) = (List.map f l).set n (f x)) ∧ (∀ (α β : Type) (f : α → β) (n : Nat) (x : α), List.map f (List.replicate n x) = List.replicate n (f x)) ∧
    (∀ (α : Type) (a b : List α), (a ++ b).length = a.length + b.length) ∧ (∀ (α : Type) (l : List α) (n : Nat), (l.take n).length = min n l.length) ∧ (∀ (α : Type) (l : List α) (n : Nat), (l.drop n).length = l.length - n) ∧ (∀ (α : Type) (l : List α) (n : Nat) (x : α), (l.set n x).length = l.length) ∧
    (∀ (α : Type) (n : Nat) (x : α), (List.replicate n x).length = n) ∧ (∀ (α : Type) (m n : Nat) (x : α), (List.replicate n x).take m = List.replicate (min m n) x) ∧ (∀ (α : Type) (l : List α), l ++ [] = l) ∧
    (∀ b : Bool, (b && true) = b) ∧ (∀ b : Bool, (true && b) = b) ∧ (∀ b : Bool, (b && false) = false) ∧ (∀ b : Bool, (false && b) = false) ∧ (∀ b : Bool, (b || true) = true) ∧ (∀ b : Bool, (true || b) = true) ∧ (∀ b : Bool, (b || false) = b) ∧ (∀ b : Bool, (false || b) = b) ∧ (!true) = false ∧ (!false) = true ∧
    (∀ (e e' : TypeId) (xs xs' : List AV), (Bx.arr e xs = Bx.arr e' xs') = (e = e' ∧ xs = xs')) ∧ (∀ xs xs' : List Reg, (Bx.cells xs = Bx.cells xs') = (xs = xs')) ∧ (∀ (α : Type) (x y : α), cond true x y = x) ∧ (∀ (α : Type) (x y : α), cond false x y = y) ∧ (∀ n : Nat, min n n = n) ∧ (∀ a b : Nat, min (min a b) a = min a b) ∧ (∀ a b : Nat, min a b + (b - min a b) = b) :=
  ⟨fun _ _ f => (fs_map f).1, fun _ _ f => (fs_map f).2.1, fun _ _ f => (fs_map f).2.2.1, fun _ _ f => (fs_map f).2.2.2.1, fun _ _ f => (fs_map f).2.2.2.2, fun _ => fs_len.1, fun _ => fs_len.2.1, fun _ => fs_len.2.2.1, fun _ => fs_len.2.2.2.1, fun _ => fs_len.2.2.2.2.1, fun _ => fs_len.2.2.2.2.2.1, fun _ => fs_len.2.2.2.2.2.2,
    fs_bool.1, fs_bool.2.1, fs_bool.2.2.1, fs_bool.2.2.2.1, fs_bool.2.2.2.2.1, fs_bool.2.2.2.2.2.1, fs_bool.2.2.2.2.2.2.1, fs_bool.2.2.2.2.2.2.2.1, rfl, rfl, fs_box.1, fs_box.2, fun _ _ _ => rfl, fun _ _ _ => rfl, Nat.min_self, min3, min4⟩

end Go.Ev
