import Derived.Test.YtoelfoplajpgnaaPA
import Derived.Test.YtoelfoplajpgnaaL22
import Derived.Test.YtoelfoplajpgnaaLS3
import Derived.Test.YtoelfoplajpgnaaL9
import Derived.Test.YtoelfoplajpgnaaL10
import Derived.Test.YtoelfoplajpgnaaL4
set_option linter.unusedVariables false
set_option linter.unusedSimpArgs false
set_option linter.unusedSectionVars false

namespace Go.Proofs.Mm
open Go Go.Ev

/-! ### Plain laws: what the program checks -/

/-- how often each node is among these -/
def metL (m : Mdl) (ks : List Int) : List Int := m.nodes.map fun n => ((ks.count n.id : Nat) : Int)

theorem metL_len (m : Mdl) (ks : List Int) : (metL m ks).length = m.nodes.length := by simp [metL]
theorem metL_get {m : Mdl} (ks : List Int) {j : Nat} (hj : j < m.nodes.length) : (metL m ks)[j]? = some ((ks.count m.nodes[j].id : Nat) : Int) := by simp [metL, hj]

theorem metL_set {m : Mdl} (hs : Sorted m) (ks : List Int) {j : Nat} (hj : j < m.nodes.length) : (metL m ks).set j (((ks.count m.nodes[j].id + 1 : Nat)) : Int) = metL m (ks ++ [m.nodes[j].id]) := by
  apply List.ext_getElem
  · simp [metL]
  · intro i h1 h2
    have hi : i < m.nodes.length := by simpa [metL] using h1
    rw [List.getElem_set]
    split
    · rename_i e; subst e; simp [metL]
    · rename_i e
      have : m.nodes[j].id ≠ m.nodes[i].id := fun h => e (sorted_inj hs hj hi h)
      simp [metL, List.count_cons, this]

def climbB (m : Mdl) : Nat → Nd → Bool
  | 0, _ => false
  | f + 1, n => if n.parent = 0 then true else match nodeAt m n.parent with
    | none => false
    | some p => climbB m f p

structure Ready (m : Mdl) : Prop where
  ok : MdOk m
  sorted : Sorted m
  ids : ∀ n ∈ m.nodes, 1 ≤ n.id ∧ n.id ≤ 1048576

section
variable {N : Nat} (hN : 1048576 < N)
include hN

theorem F28_L5_eq {m : Mdl} (hm : Ready m) {x : Nd} (hx : NdOk x) (kk : Int → List Int → Option Int) (p : Nat) : ∀ (rest pre done : List Int) (fuel : Nat), x.kids = pre ++ rest → rest.length < fuel → done.length + rest.length ≤ 1099511627776 →
    F28_L5 x N m kk (p : Int) fuel (pre.length : Int) (metL m done) = if (∀ k ∈ rest, kidIn m x k) then kk (IntKind.i64.wrap ((p : Int) + 1)) (metL m (done ++ rest)) else some 29
  | [], pre, done, fuel, e, hf, hd => by
    obtain ⟨fuel, rfl⟩ := Nat.exists_eq_succ_of_ne_zero (by omega : fuel ≠ 0)
    have : pre.length = x.kids.length := by rw [e]; simp
    rw [F28_L5, decide_eq_false (by omega), cond_false]
    simp [F28_J6]
  | k :: rest, pre, done, fuel, e, hf, hd => by
    obtain ⟨fuel, rfl⟩ := Nat.exists_eq_succ_of_ne_zero (by omega : fuel ≠ 0)
    have hlt : pre.length < x.kids.length := by rw [e]; simp
    have hg : x.kids[pre.length] = k := by simp [e]
    have hkl := hx.kids
    have hl := hm.ok.len
    rw [F28_L5, decide_eq_true (by omega), cond_true, getO_lt hlt, Option.bind_some, hg, F23_eq hm.sorted hm.ids (by omega) hN (hx.kid k (by rw [e]; simp)), Option.bind_some, wsucc (by omega)]
    rcases at_cases hm.sorted k with ⟨h1, h2⟩ | ⟨j, hj, h1, h2⟩
    · have hnot : ¬ kidIn m x k := fun ⟨y, hy, hy1, _⟩ => h2 y hy hy1
      rw [h1, if_neg (fun h => hnot (h k (by simp)))]
      rfl
    · have hd0 : decide ((j : Int) < 0) = false := decide_eq_false (by omega)
      rw [h1, hd0, Bool.not_false, bindG_true, getO_lt hj, Option.bind_some, Bool.false_or]
      by_cases hp : m.nodes[j].parent = x.id
      · have e1 : (m.nodes[j].parent == x.id) = true := by simpa using hp
        have hkid : kidIn m x k := ⟨_, List.getElem_mem hj, h2, hp⟩
        have hc : done.count m.nodes[j].id ≤ done.length := List.count_le_length
        rw [e1, Bool.not_true, cond_false, getO_nat, metL_get done hj, Option.bind_some, Int.toNat_natCast, wsucc (by simp at hd; omega), metL_set hm.sorted done hj, h2]
        have hpl : (pre ++ [k]).length = pre.length + 1 := by simp
        rw [← hpl, F28_L5_eq hm hx kk p rest (pre ++ [k]) (done ++ [k]) fuel (by simp [e]) (by simp at hf; omega) (by simp at hd ⊢; omega)]
        simp only [List.append_assoc, List.singleton_append]
        by_cases hall : ∀ k ∈ rest, kidIn m x k
        · rw [if_pos hall, if_pos (fun y hy => by
            rcases List.mem_cons.1 hy with h | h
            · rw [h]; exact hkid
            · exact hall y h)]
        · rw [if_neg hall, if_neg (fun h => hall fun y hy => h y (by simp [hy]))]
      · have e1 : (m.nodes[j].parent == x.id) = false := by simpa using hp
        have hnot : ¬ kidIn m x k := fun ⟨y, hy, hy1, hy2⟩ => hp (by
          have := sorted_one hm.sorted hy (List.getElem_mem hj) (by rw [hy1, h2])
          rw [← this]; exact hy2)
        rw [e1, Bool.not_false, cond_true, if_neg (fun h => hnot (h k (by simp)))]

omit hN in
theorem flat_take {m : Mdl} {i : Nat} (hi : i < m.nodes.length) : (m.nodes.take (i + 1)).flatMap Nd.kids = (m.nodes.take i).flatMap Nd.kids ++ m.nodes[i].kids := by
  rw [List.take_succ_eq_append_getElem hi, List.flatMap_append]
  simp only [List.flatMap_cons, List.flatMap_nil, List.append_nil]

omit hN in
theorem flat_len' {m : Mdl} {c : Nat} (hm : ∀ n ∈ m.nodes, n.kids.length ≤ c) : ∀ i : Nat, ((m.nodes.take i).flatMap Nd.kids).length ≤ i * c
  | 0 => by rw [List.take_zero]; simp only [List.flatMap_nil, List.length_nil]; omega
  | i + 1 => by
    have h1 := flat_len' hm i
    by_cases hi : i < m.nodes.length
    · have hk := hm _ (List.getElem_mem hi)
      rw [flat_take hi, List.length_append, Nat.succ_mul]
      omega
    · rw [List.take_of_length_le (by omega : m.nodes.length ≤ i)] at h1
      rw [List.take_of_length_le (by omega : m.nodes.length ≤ i + 1), Nat.succ_mul]
      omega
omit hN in
theorem flat_len {m : Mdl} (hm : MdOk m) (i : Nat) : ((m.nodes.take i).flatMap Nd.kids).length ≤ i * 1048576 := flat_len' (fun n hn => (hm.node n hn).kids) i

theorem F28_L4_eq {m : Mdl} (hm : Ready m) : ∀ (k i fuel : Nat), i + k = m.nodes.length → k < fuel →
    F28_L4 m N fuel (i : Int) (metL m ((m.nodes.take i).flatMap Nd.kids)) = if (∀ n ∈ m.nodes.drop i, ∀ k ∈ n.kids, kidIn m n k) then F28_J5 m N (metL m (m.nodes.flatMap Nd.kids)) else some 29
  | 0, i, fuel, h1, h2 => by
    obtain ⟨fuel, rfl⟩ := Nat.exists_eq_succ_of_ne_zero (by omega : fuel ≠ 0)
    rw [F28_L4, decide_eq_false (by omega), cond_false, List.drop_eq_nil_of_le (by omega), List.take_of_length_le (by omega)]
    simp
  | k + 1, i, fuel, h1, h2 => by
    obtain ⟨fuel, rfl⟩ := Nat.exists_eq_succ_of_ne_zero (by omega : fuel ≠ 0)
    have hi : i < m.nodes.length := by omega
    have hok := hm.ok.node _ (List.getElem_mem hi)
    have hl := hm.ok.len
    have hfl := flat_len hm.ok i
    have hkl := hok.kids
    rw [F28_L4, decide_eq_true (by omega), cond_true, getO_lt hi, Option.bind_some]
    have h5 := F28_L5_eq hN hm hok (F28_L4 m N fuel) i m.nodes[i].kids [] ((m.nodes.take i).flatMap Nd.kids) N rfl (by omega) (by
      have : i * 1048576 ≤ 4096 * 1048576 := Nat.mul_le_mul_right _ (by omega)
      omega)
    have h5' : F28_L5 m.nodes[i] N m (F28_L4 m N fuel) (i : Int) N 0 (metL m ((m.nodes.take i).flatMap Nd.kids)) = _ := h5
    rw [h5', wsucc (by omega)]
    have ht := (flat_take hi).symm
    rw [ht, F28_L4_eq hm k (i + 1) fuel (by omega) (by omega), List.drop_eq_getElem_cons hi]
    by_cases ha : ∀ k ∈ m.nodes[i].kids, kidIn m m.nodes[i] k
    · rw [if_pos ha]
      by_cases hb : ∀ n ∈ m.nodes.drop (i + 1), ∀ k ∈ n.kids, kidIn m n k
      · rw [if_pos hb, if_pos (fun n hn => by
          rcases List.mem_cons.1 hn with h | h
          · rw [h]; exact ha
          · exact hb n h)]
      · rw [if_neg hb, if_neg (fun h => hb fun n hn => h n (List.mem_cons_of_mem _ hn))]
    · rw [if_neg ha, if_neg (fun h => ha (h _ List.mem_cons_self))]

theorem F28_L2_eq {m : Mdl} (hm : Ready m) (hpar : ∀ n ∈ m.nodes, n.parent ≠ 0 → ∃ x, nodeAt m n.parent = some x) (kk : Int → Option Int) (p : Nat) : ∀ (f fuel : Nat) (n : Nd), n ∈ m.nodes → f ≤ 64 → f < fuel →
    F28_L2 kk (p : Int) N m fuel (65 - (f : Int)) n = if climbB m f n = true then kk (IntKind.i64.wrap ((p : Int) + 1)) else some 29
  | 0, fuel, n, hn, h1, h2 => by
    obtain ⟨fuel, rfl⟩ := Nat.exists_eq_succ_of_ne_zero (by omega : fuel ≠ 0)
    rw [F28_L2, decide_eq_false (by omega), cond_false]; rfl
  | f + 1, fuel, n, hn, h1, h2 => by
    obtain ⟨fuel, rfl⟩ := Nat.exists_eq_succ_of_ne_zero (by omega : fuel ≠ 0)
    have hw : IntKind.i64.wrap (65 - ((f + 1 : Nat) : Int) + 1) = 65 - (f : Int) := by rw [wrap64_of (by omega) (by omega)]; omega
    have hl := hm.ok.len
    rw [F28_L2, decide_eq_true (by omega), cond_true, hw]
    unfold climbB
    by_cases hp : n.parent = 0
    · have e1 : (n.parent == 0) = true := by simpa using hp
      rw [e1, cond_true, if_pos hp]
      rfl
    · have e1 : (n.parent == 0) = false := by simpa using hp
      obtain ⟨x, hx⟩ := hpar n hn hp
      obtain ⟨hx1, hx2⟩ := nodeAt_mem hx
      rw [e1, cond_false, if_neg hp, F23_eq hm.sorted hm.ids (by omega) hN (hm.ok.node n hn).parent, Option.bind_some, hx]
      rcases at_cases hm.sorted n.parent with ⟨h3, h4⟩ | ⟨j, hj, h3, h4⟩
      · exact (h4 x hx1 hx2).elim
      · have : m.nodes[j] = x := sorted_one hm.sorted (List.getElem_mem hj) hx1 (by rw [h4, hx2])
        rw [h3, getO_lt hj, Option.bind_some, this]
        exact F28_L2_eq hm hpar kk p f fuel x hx1 (by omega) (by omega)

/-- the counts are right -/
def countB (m : Mdl) (n : Nd) : Bool := if n.parent = 0 then decide ((m.nodes.flatMap Nd.kids).count n.id = 0) else decide ((m.nodes.flatMap Nd.kids).count n.id = 1)

theorem F28_L3_eq {m : Mdl} (hm : Ready m) : F28_L3 m (metL m (m.nodes.flatMap Nd.kids)) N N 0 = if (m.nodes.all (countB m)) = true then F28_J4 m N else some 29 := by
  have hl := hm.ok.len
  have h := scan0 (F28_L3 m (metL m (m.nodes.flatMap Nd.kids)) N) m.nodes.length (fun i => if h : i < m.nodes.length then !countB m m.nodes[i] else false) (some 29) (F28_J4 m N) (fun k i hi => by
      rw [F28_L3, decide_eq_true (by omega), cond_true, getO_lt hi, Option.bind_some, wsucc (by omega), getO_nat, metL_get _ hi]
      simp only [hi, dif_pos]
      unfold countB
      by_cases hp : m.nodes[i].parent = 0
      · have e1 : (m.nodes[i].parent == 0) = true := by simpa using hp
        rw [e1, bindG_true, Option.bind_some, if_pos hp]
        simp only [Bool.true_and, Bool.not_true, Bool.and_false, bindG_false, Bool.false_and, Bool.or_false]
        by_cases hc : (m.nodes.flatMap Nd.kids).count m.nodes[i].id = 0
        · simp [hc]
        · have : (((m.nodes.flatMap Nd.kids).count m.nodes[i].id : Nat) : Int) ≠ 0 := by omega
          have hb : ((((m.nodes.flatMap Nd.kids).count m.nodes[i].id : Nat) : Int) == 0) = false := by rw [beq_eq_false_iff_ne]; exact this
          rw [hb]
          simp [hc]
      · have e1 : (m.nodes[i].parent == 0) = false := by simpa using hp
        rw [e1, bindG_false, if_neg hp]
        simp only [Bool.false_and, Bool.not_false, Bool.true_and, bindG_true, Option.bind_some, Bool.false_or]
        by_cases hc : (m.nodes.flatMap Nd.kids).count m.nodes[i].id = 1
        · simp [hc]
        · have : (((m.nodes.flatMap Nd.kids).count m.nodes[i].id : Nat) : Int) ≠ 1 := by omega
          have hb : ((((m.nodes.flatMap Nd.kids).count m.nodes[i].id : Nat) : Int) == 1) = false := by rw [beq_eq_false_iff_ne]; exact this
          rw [hb]
          simp [hc])
    (fun k => by rw [F28_L3, decide_eq_false (by omega), cond_false]) (n := N) (by omega)
  rw [h, any_not m.nodes (countB m) _ (fun i hi => by simp only [hi, dif_pos])]
  cases m.nodes.all (countB m) <;> rfl

theorem F28_J4_eq {m : Mdl} (hm : Ready m) (hpar : ∀ n ∈ m.nodes, n.parent ≠ 0 → ∃ x, nodeAt m n.parent = some x) : F28_J4 m N = if (m.nodes.all (climbB m 64)) = true then some 0 else some 29 := by
  have hl := hm.ok.len
  unfold F28_J4
  have h := scan0 (F28_L1 m N) m.nodes.length (fun i => if h : i < m.nodes.length then !climbB m 64 m.nodes[i] else false) (some 29) (some 0) (fun k i hi => by
      rw [F28_L1, decide_eq_true (by omega), cond_true, getO_lt hi, Option.bind_some]
      have h2 := F28_L2_eq hN hm hpar (F28_L1 m N k) i 64 N m.nodes[i] (List.getElem_mem hi) (Nat.le_refl _) (by omega)
      have h2' : F28_L2 (F28_L1 m N k) (i : Int) N m N 1 m.nodes[i] = _ := h2
      rw [h2', wsucc (by omega)]
      simp only [hi, dif_pos]
      cases climbB m 64 m.nodes[i] <;> rfl)
    (fun k => by rw [F28_L1, decide_eq_false (by omega), cond_false]; rfl) (n := N) (by omega)
  rw [h, any_not m.nodes (climbB m 64) _ (fun i hi => by simp only [hi, dif_pos])]
  cases m.nodes.all (climbB m 64) <;> rfl

def kidsIn (m : Mdl) : Prop := ∀ n ∈ m.nodes, ∀ k ∈ n.kids, kidIn m n k
instance (m : Mdl) : Decidable (kidsIn m) := by unfold kidsIn; infer_instance

omit hN in
theorem parent_there {m : Mdl} (hs : Sorted m) (hk : kidsIn m) (hc : m.nodes.all (countB m) = true) : ∀ n ∈ m.nodes, n.parent ≠ 0 → ∃ x, nodeAt m n.parent = some x ∧ n.id ∈ x.kids := fun n hn hp => by
  have h1 := List.all_eq_true.1 hc n hn
  unfold countB at h1
  rw [if_neg hp, decide_eq_true_eq] at h1
  have h2 : n.id ∈ m.nodes.flatMap Nd.kids := List.count_pos_iff.1 (by omega)
  obtain ⟨x, hx, hxk⟩ := List.mem_flatMap.1 h2
  obtain ⟨y, hy, hy1, hy2⟩ := hk x hx _ hxk
  have e := sorted_one hs hy hn hy1
  subst e
  obtain ⟨i, hi, rfl⟩ := List.getElem_of_mem hx
  exact ⟨_, by rw [hy2]; exact nodeAt_some hs hi, hxk⟩

def hangsB (m : Mdl) : Bool := decide (kidsIn m) && (m.nodes.all (countB m) && m.nodes.all (climbB m 64))

theorem F28_eq {m : Mdl} (hm : Ready m) : F28 N m = some (if hangsB m = true then 0 else 29) := by
  have hl := hm.ok.len
  unfold F28 hangsB
  rw [chk_true (by rw [Bool.and_eq_true, decide_eq_true_eq, decide_eq_true_eq]; unfold maxLen; omega), Option.bind_some]
  have h0 : List.replicate m.nodes.length (0 : Int) = metL m ((m.nodes.take 0).flatMap Nd.kids) := by
    apply List.ext_getElem
    · simp [metL]
    · intro i h1 h2; simp [metL]
  rw [h0]
  have h4 := F28_L4_eq hN hm m.nodes.length 0 N (by omega) (by omega)
  have h4' : F28_L4 m N N 0 (metL m ((m.nodes.take 0).flatMap Nd.kids)) = _ := h4
  rw [h4', List.drop_zero]
  by_cases hk : kidsIn m
  · rw [if_pos (show ∀ n ∈ m.nodes, ∀ k ∈ n.kids, kidIn m n k from hk), decide_eq_true hk, Bool.true_and]
    unfold F28_J5
    rw [F28_L3_eq hN hm]
    cases hc : m.nodes.all (countB m) with
    | false => rfl
    | true =>
      rw [if_pos rfl, F28_J4_eq hN hm (fun n hn hp => (parent_there hm.sorted hk hc n hn hp).imp fun _ h => h.1)]
      cases m.nodes.all (climbB m 64) <;> rfl
  · rw [if_neg (show ¬ ∀ n ∈ m.nodes, ∀ k ∈ n.kids, kidIn m n k from hk), decide_eq_false hk]
    rfl
end
end Go.Proofs.Mm

namespace Go.Proofs.Mm
open Go Go.Ev

/-! ### Plain laws: the program's check is the document's -/

theorem count_flat {k : Int} : ∀ {l : List Nd}, (∀ x ∈ l, k ∉ x.kids) → (l.flatMap Nd.kids).count k = 0
  | [], _ => rfl
  | x :: l, h => by
    rw [List.flatMap_cons, List.count_append, List.count_eq_zero.2 (h x (by simp)), count_flat fun y hy => h y (by simp [hy])]

theorem nodes_nodup {m : Mdl} (hs : Sorted m) : m.nodes.Nodup := by
  rw [List.nodup_iff_pairwise_ne, List.pairwise_iff_getElem]
  intro i j hi hj hij h
  have h1 := hs i j hij hj
  rw [h] at h1
  omega

theorem count_one {m : Mdl} (hs : Sorted m) {p : Nd} (hp : p ∈ m.nodes) {k : Int} (h : ∀ x ∈ m.nodes, x ≠ p → k ∉ x.kids) : (m.nodes.flatMap Nd.kids).count k = p.kids.count k := by
  obtain ⟨l1, l2, e⟩ := List.append_of_mem hp
  have hn := nodes_nodup hs
  rw [e] at hn
  have hn' := List.nodup_append.1 hn
  have hc := List.nodup_cons.1 hn'.2.1
  rw [e, List.flatMap_append, List.flatMap_cons, List.count_append, List.count_append, count_flat (fun x hx => h x (by rw [e]; simp [hx]) (fun e2 => hn'.2.2 x hx p (by simp) e2)), count_flat (fun x hx => h x (by rw [e]; simp [hx]) (fun e2 => hc.1 (e2 ▸ hx)))]
  omega

theorem count_le {m : Mdl} {p : Nd} (hp : p ∈ m.nodes) (k : Int) : p.kids.count k ≤ (m.nodes.flatMap Nd.kids).count k := by
  obtain ⟨l1, l2, e⟩ := List.append_of_mem hp
  rw [e, List.flatMap_append, List.flatMap_cons, List.count_append, List.count_append]
  omega

theorem word_nil : wordF [] = false := rfl

theorem alone_iff (m : Mdl) (n : Nd) : aloneB m n = true ↔ ownB m n = true ∧ ((n.parent = 0 ∧ n.role = []) ∨ (n.parent ≠ 0 ∧ n.role ≠ [] ∧ wordF n.role = true)) := by
  unfold aloneB ownB
  by_cases h1 : n.parent = 0 <;> by_cases h2 : n.role = [] <;> simp [h1, h2]
  constructor
  · rintro ⟨⟨a, b⟩, c⟩; exact ⟨⟨a, c⟩, b⟩
  · rintro ⟨⟨a, c⟩, b⟩; exact ⟨⟨a, b⟩, c⟩

theorem below_climb (m : Mdl) : ∀ (f : Nat) (n : Nd), belowB m f n = true → climbB m f n = true
  | 0, n, h => by cases h
  | f + 1, n, h => by
    unfold belowB at h
    unfold climbB
    split
    · rfl
    · rename_i hp
      rw [if_neg hp] at h
      split at h
      · cases h
      · rename_i p hpn
        rw [hpn]
        simp only [Bool.and_eq_true] at h
        exact below_climb m f p h.2

theorem check_right {m : Mdl} (hm : Ready m) : (m.nodes.all (aloneB m) && hangsB m) = m.nodes.all fun n => (ownB m n && kidsB m n) && belowB m 64 n := by
  have hs := hm.sorted
  rw [Bool.eq_iff_iff]
  simp only [Bool.and_eq_true, List.all_eq_true]
  constructor
  · rintro ⟨ha, hh⟩
    unfold hangsB at hh
    simp only [Bool.and_eq_true, decide_eq_true_eq] at hh
    obtain ⟨hk, hc, hcl⟩ := hh
    have hpar := parent_there hs hk hc
    have hb : ∀ (f : Nat) (n : Nd), n ∈ m.nodes → climbB m f n = true → belowB m f n = true := by
      intro f
      induction f with
      | zero => intro n hn h; cases h
      | succ f ih =>
        intro n hn h
        have h1 := ((alone_iff m n).1 (ha n hn)).2
        unfold climbB at h
        unfold belowB
        split
        · rename_i hp
          rcases h1 with ⟨_, h1⟩ | ⟨h1, _⟩
          · simp [h1]
          · exact (h1 hp).elim
        · rename_i hp
          rw [if_neg hp] at h
          obtain ⟨x, hx1, hx2⟩ := hpar n hn hp
          rw [hx1] at h ⊢
          rcases h1 with ⟨h1, _⟩ | ⟨_, _, h1⟩
          · exact (hp h1).elim
          · simp only [h1, hx2, decide_true, Bool.and_self, Bool.true_and]
            exact ih x (nodeAt_mem hx1).1 h
    intro n hn
    refine ⟨⟨((alone_iff m n).1 (ha n hn)).1, ?_⟩, hb 64 n hn (List.all_eq_true.1 hcl n hn)⟩
    unfold kidsB
    rw [decide_eq_true_eq]
    refine ⟨hk n hn, List.nodup_iff_count.2 fun k => ?_⟩
    by_cases hkm : k ∈ n.kids
    · obtain ⟨y, hy, hy1, hy2⟩ := hk n hn k hkm
      have hcy := List.all_eq_true.1 hc y hy
      have hid := hm.ids n hn
      unfold countB at hcy
      rw [if_neg (by omega), decide_eq_true_eq, hy1] at hcy
      have := count_le hn k
      omega
    · rw [List.count_eq_zero.2 hkm]; omega
  · intro h
    have hk : kidsIn m := fun n hn => by
      have := (h n hn).1.2
      unfold kidsB at this
      exact (of_decide_eq_true this).1
    refine ⟨fun n hn => (alone_iff m n).2 ⟨(h n hn).1.1, ?_⟩, ?_⟩
    · have hb := (h n hn).2
      unfold belowB at hb
      by_cases hp : n.parent = 0
      · rw [if_pos hp, decide_eq_true_eq] at hb
        exact .inl ⟨hp, hb⟩
      · rw [if_neg hp] at hb
        split at hb
        · cases hb
        · simp only [Bool.and_eq_true] at hb
          refine .inr ⟨hp, fun e => ?_, hb.1.1⟩
          rw [e, word_nil] at hb
          exact absurd hb.1.1 (by simp)
    · unfold hangsB
      simp only [Bool.and_eq_true, decide_eq_true_eq, List.all_eq_true]
      refine ⟨hk, fun n hn => ?_, fun n hn => below_climb m 64 n (h n hn).2⟩
      unfold countB
      by_cases hp : n.parent = 0
      · rw [if_pos hp, decide_eq_true_eq]
        refine count_flat fun x hx hmem => ?_
        obtain ⟨y, hy, hy1, hy2⟩ := hk x hx _ hmem
        have e := sorted_one hs hy hn hy1
        subst e
        have := hm.ids x hx
        omega
      · rw [if_neg hp, decide_eq_true_eq]
        have hb := (h n hn).2
        unfold belowB at hb
        rw [if_neg hp] at hb
        split at hb
        · cases hb
        · rename_i p hpn
          simp only [Bool.and_eq_true, decide_eq_true_eq] at hb
          obtain ⟨hp1, hp2⟩ := nodeAt_mem hpn
          have hnd : p.kids.Nodup := by
            have := (h p hp1).1.2
            unfold kidsB at this
            exact (of_decide_eq_true this).2
          rw [count_one hs hp1 (fun x hx hxp hmem => by
            obtain ⟨y, hy, hy1, hy2⟩ := hk x hx _ hmem
            have e := sorted_one hs hy hn hy1
            subst e
            exact hxp (sorted_one hs hx hp1 (by rw [hp2, hy2])))]
          have h1 := List.nodup_iff_count.1 hnd n.id
          have h2 := List.count_pos_iff.2 hb.1.2
          omega

def lastAt (m : Mdl) (i : Nat) : Int := if h : 0 < i ∧ i ≤ m.nodes.length then (m.nodes[i - 1]'(by omega)).id else 0

section
variable {N : Nat} (hN : 1048576 < N)
include hN

theorem F22_eq {m : Mdl} (hm : MdOk m) : F22 N m = some (if rightB m = true then 0 else 29) := by
  have hl := hm.len
  unfold F22 rightB headB
  rw [bif_if]
  cases hh : ((decide (m.next < 1) || decide (m.next > 1048577)) || decide ((m.nodes.length : Int) > 4096)) with
  | true => simp
  | false =>
    rw [if_neg (by simp), Bool.not_false, Bool.true_and]
    simp only [Bool.or_eq_false_iff, decide_eq_false_iff_not] at hh
    have h1 := scan0 (fun n z => F22_L1 m N n (lastAt m z.toNat) z) m.nodes.length (fun i => if h : i < m.nodes.length then ((decide (m.nodes[i].id ≤ lastAt m i) || decide (m.nodes[i].id ≥ m.next)) || !aloneB m m.nodes[i]) else false) (some 29) (F22_J1 N m) (fun k i hi => by
        have hok := hm.node _ (List.getElem_mem hi)
        have hla : lastAt m (i + 1) = m.nodes[i].id := by
          unfold lastAt
          rw [dif_pos ⟨by omega, by omega⟩]
          simp
        simp only [Int.toNat_natCast, hla]
        rw [F22_L1, decide_eq_true (by omega), cond_true, getO_lt hi, Option.bind_some, wsucc (by omega), F27_eq hN hok]
        simp only [hi, dif_pos]
        cases decide (m.nodes[i].id ≤ lastAt m i) || decide (m.nodes[i].id ≥ m.next) <;> cases aloneB m m.nodes[i] <;> rfl)
      (fun k => by simp only [Int.toNat_natCast]; rw [F22_L1, decide_eq_false (by omega), cond_false]) (n := N) (by omega)
    have h1' : F22_L1 m N N 0 0 = _ := h1
    rw [h1']
    generalize hbad : (fun i => if h : i < m.nodes.length then ((decide (m.nodes[i].id ≤ lastAt m i) || decide (m.nodes[i].id ≥ m.next)) || !aloneB m m.nodes[i]) else false) = bad
    have hb : ∀ i (hi : i < m.nodes.length), bad i = ((decide (m.nodes[i].id ≤ lastAt m i) || decide (m.nodes[i].id ≥ m.next)) || !aloneB m m.nodes[i]) := fun i hi => by
      rw [← hbad]; simp only [hi, dif_pos]
    have hla : ∀ i (hi : i < m.nodes.length) (h : 0 < i), lastAt m i = (m.nodes[i - 1]'(by omega)).id := fun i hi h => by
      unfold lastAt
      rw [dif_pos ⟨h, by omega⟩]
    have hl0 : lastAt m 0 = 0 := by unfold lastAt; rw [dif_neg (by omega)]
    cases hany : (List.range m.nodes.length).any bad with
    | true =>
      rw [if_pos rfl]
      have : ¬ (idsB m && m.nodes.all fun n => (ownB m n && kidsB m n) && belowB m 64 n) = true := fun h => by
        rw [Bool.and_eq_true] at h
        obtain ⟨hs, hr⟩ := ids_ok h.1
        have hrd : Ready m := ⟨hm, hs, fun n hn => by have := hr n hn; omega⟩
        have hc := check_right hrd
        rw [h.2, Bool.and_eq_true] at hc
        obtain ⟨i, hi, hbi⟩ := List.any_eq_true.1 hany
        have hi := List.mem_range.1 hi
        rw [hb i hi] at hbi
        have ha := List.all_eq_true.1 hc.1 _ (List.getElem_mem hi)
        have hri := hr _ (List.getElem_mem hi)
        rw [ha] at hbi
        simp only [Bool.not_true, Bool.or_false, Bool.or_eq_true, decide_eq_true_eq] at hbi
        rcases hbi with h1 | h1
        · by_cases h0 : 0 < i
          · rw [hla i hi h0] at h1
            have := hs (i - 1) i (by omega) hi
            omega
          · have : i = 0 := by omega
            subst this
            rw [hl0] at h1
            omega
        · omega
      rw [if_neg this]
    | false =>
      rw [if_neg (by simp)]
      have hgood : ∀ i (hi : i < m.nodes.length), lastAt m i < m.nodes[i].id ∧ m.nodes[i].id < m.next ∧ aloneB m m.nodes[i] = true := fun i hi => by
        have := List.any_eq_false.1 hany i (List.mem_range.2 hi)
        rw [hb i hi] at this
        simp only [Bool.or_eq_true, decide_eq_true_eq, Bool.not_eq_true', not_or, Bool.not_eq_false] at this
        exact ⟨by omega, by omega, this.2⟩
      have hpos : ∀ i (hi : i < m.nodes.length), 1 ≤ m.nodes[i].id := by
        intro i
        induction i with
        | zero => intro hi; have := (hgood 0 hi).1; rw [hl0] at this; omega
        | succ i ih =>
          intro hi
          have h1 := (hgood (i + 1) hi).1
          rw [hla (i + 1) hi (by omega)] at h1
          have h2 := ih (by omega)
          simp only [Nat.add_sub_cancel] at h1
          omega
      have hids : idsB m = true := by
        unfold idsB
        rw [Bool.not_eq_true', List.any_eq_false]
        intro i hi
        have hi := List.mem_range.1 hi
        obtain ⟨g1, g2, _⟩ := hgood i hi
        have := hpos i hi
        unfold badId
        simp only [hi, dif_pos, Bool.or_eq_true, decide_eq_true_eq, not_or]
        refine ⟨⟨by omega, by omega⟩, ?_⟩
        by_cases h0 : 0 < i
        · rw [hla i hi h0] at g1
          simp only [h0, dif_pos, decide_eq_true_eq]
          omega
        · simp [h0]
      obtain ⟨hs, hr⟩ := ids_ok hids
      have hrd : Ready m := ⟨hm, hs, fun n hn => by have := hr n hn; omega⟩
      have hc := check_right hrd
      have hall : m.nodes.all (aloneB m) = true := List.all_eq_true.2 fun n hn => by
        obtain ⟨i, hi, rfl⟩ := List.getElem_of_mem hn
        exact (hgood i hi).2.2
      rw [hall, Bool.true_and] at hc
      unfold F22_J1
      rw [F28_eq hN hrd, hids, Bool.true_and, ← hc]
      rfl

/-- a node is found -/
def noNode : Nd := ⟨0, [], 0, [], [], [], []⟩
def findF (m : Mdl) (id : Int) : Nd × Bool := if rightB m = true then (match nodeAt m id with
  | some x => (x, true)
  | none => (noNode, false)) else (noNode, false)

theorem right_ready {m : Mdl} (hm : MdOk m) (h : rightB m = true) : Ready m := by
  unfold rightB at h
  rw [Bool.and_eq_true, Bool.and_eq_true] at h
  obtain ⟨h1, h2, h3⟩ := h
  obtain ⟨hs, hr⟩ := ids_ok h2
  unfold headB at h1
  simp only [Bool.not_eq_true', Bool.or_eq_false_iff, decide_eq_false_iff_not] at h1
  exact ⟨hm, hs, fun n hn => by have := hr n hn; omega⟩

theorem F15_eq {m : Mdl} (hm : MdOk m) (id : Int) : F15 N m id = some (findF m id) := by
  have hl := hm.len
  unfold F15 findF
  rw [F19_eq hN hm, Option.bind_some]
  cases h : rightB m with
  | false => rfl
  | true =>
    have hr := right_ready hN hm h
    have h20 := F20_eq hr.sorted (by omega) hN id
    rw [if_pos rfl, Bool.not_true, Bool.not_false, bindG_true, h20, Option.bind_some, Option.bind_some, Bool.false_or]
    rcases at_cases hr.sorted id with ⟨h1, h2⟩ | ⟨j, hj, h1, h2⟩
    · rw [h1, nodeAt_none h2]; rfl
    · have : nodeAt m id = some m.nodes[j] := by rw [← h2]; exact nodeAt_some hr.sorted hj
      rw [h1, this, decide_eq_false (by omega), cond_false, getO_lt hj]
      rfl

theorem F24_eq {n : Nd} (hn : NdOk n) : F24 N n = some n := by
  have h1 := hn.props
  have h2 := hn.refs
  have h3 := hn.kids
  unfold F24 F31 F32
  rw [chk_true (by rw [Bool.and_eq_true, decide_eq_true_eq, decide_eq_true_eq]; unfold maxLen; omega), Option.bind_some, Option.bind_some, chk_true (by rw [Bool.and_eq_true, decide_eq_true_eq, decide_eq_true_eq]; unfold maxLen; omega), Option.bind_some, Option.bind_some, chk_true (by rw [Bool.and_eq_true, decide_eq_true_eq, decide_eq_true_eq]; unfold maxLen; omega), Option.bind_some]
  simp

theorem F17_eq {m : Mdl} (hm : MdOk m) {id : Int} (hid : I64 id) : F17 N m id = some (findF m id) := by
  have hl := hm.len
  unfold F17 findF
  rw [F22_eq hN hm, Option.bind_some]
  cases h : rightB m with
  | false => rfl
  | true =>
    have hr := right_ready hN hm h
    have h23 := F23_eq hr.sorted hr.ids (by omega) hN hid
    rw [if_pos rfl, if_pos rfl]
    have e0 : ((0 : Int) == 0) = true := rfl
    rw [e0, Bool.not_true, cond_false, h23, Option.bind_some]
    rcases at_cases hr.sorted id with ⟨h1, h2⟩ | ⟨j, hj, h1, h2⟩
    · rw [h1, nodeAt_none h2]; rfl
    · have : nodeAt m id = some m.nodes[j] := by rw [← h2]; exact nodeAt_some hr.sorted hj
      rw [h1, this, decide_eq_true (by omega), cond_true, getO_lt hj, Option.bind_some, F24_eq hN (hm.node _ (List.getElem_mem hj))]
      rfl
end
end Go.Proofs.Mm

namespace Go.Proofs.Mm
open Go Go.Ev

/-! ### Plain laws: the items, and the law -/

def hitP (name typed : Str) (p : Prp) : Bool := (p.name == name) && prefixF p.value typed
def itemF (m : Mdl) (name typed : Str) (x : Itm) : List Itm := if x.target = 0 then (if prefixF x.concept typed = true then [x] else []) else ((findF m x.target).1.props.filter (hitP name typed)).map fun _ => x

theorem find_props {m : Mdl} (hm : MdOk m) (id : Int) : (findF m id).1.props.length ≤ 1048576 := by
  unfold findF
  split
  · split
    · rename_i x hx
      exact (hm.node x (nodeAt_mem hx).1).props
    · simp [noNode]
  · simp [noNode]

theorem item_len {m : Mdl} (hm : MdOk m) (name typed : Str) (x : Itm) : (itemF m name typed x).length ≤ 1048576 := by
  unfold itemF
  split
  · split <;> simp
  · rw [List.length_map]
    exact Nat.le_trans (List.length_filter_le _ _) (find_props hm _)

section
variable {N : Nat} (hN : 1048576 < N)
include hN

theorem F10_L2_eq (nd : Nd × Bool) (hnd : nd.1.props.length ≤ 1048576) (name typed : Str) (x : Itm) (k : Int → List Itm → Option (List Itm)) (p : Int) : ∀ (rest pre : List Prp) (fuel : Nat) (acc : List Itm), nd.1.props = pre ++ rest → rest.length < fuel → acc.length + rest.length ≤ 1073741824 →
    F10_L2 nd name N typed x k p fuel (pre.length : Int) acc = F10_J2 k p (acc ++ (rest.filter (hitP name typed)).map fun _ => x)
  | [], pre, fuel, acc, e, hf, ha => by
    obtain ⟨fuel, rfl⟩ := Nat.exists_eq_succ_of_ne_zero (by omega : fuel ≠ 0)
    have : pre.length = nd.1.props.length := by rw [e]; simp
    rw [F10_L2, decide_eq_false (by omega), cond_false]
    simp
  | y :: rest, pre, fuel, acc, e, hf, ha => by
    obtain ⟨fuel, rfl⟩ := Nat.exists_eq_succ_of_ne_zero (by omega : fuel ≠ 0)
    have hlt : pre.length < nd.1.props.length := by rw [e]; simp
    have hg : nd.1.props[pre.length] = y := by simp [e]
    have hpl : (pre ++ [y]).length = pre.length + 1 := by simp
    simp only [List.length_cons] at hf ha
    rw [F10_L2, decide_eq_true (by omega), cond_true, getO_lt hlt, Option.bind_some, hg, F16_eq]
    have ih := fun acc' h => F10_L2_eq nd hnd name typed x k p rest (pre ++ [y]) fuel acc' (by simp [e]) (by omega) h
    rw [List.filter_cons]
    unfold hitP
    cases h1 : (y.name == name) with
    | false =>
      rw [bindG_false, Bool.false_and, cond_false]
      unfold F10_J4
      rw [wsucc (by omega), ← hpl, ih acc (by omega)]
      simp only [Bool.false_and, Bool.false_eq_true, if_false]
      rfl
    | true =>
      rw [bindG_true, Option.bind_some, Bool.true_and]
      cases h2 : prefixF y.value typed with
      | false =>
        rw [cond_false]
        unfold F10_J4
        rw [wsucc (by omega), ← hpl, ih acc (by omega)]
        simp only [Bool.and_false, Bool.false_eq_true, if_false]
        rfl
      | true =>
        rw [cond_true, chk_true (by rw [Bool.and_eq_true, decide_eq_true_eq, decide_eq_true_eq]; unfold maxLen; omega), Option.bind_some]
        unfold F10_J4
        rw [wsucc (by omega), ← hpl, ih (acc ++ [x]) (by simp; omega)]
        simp only [Bool.and_self, if_true, List.map_cons, List.append_assoc, List.singleton_append]
        rfl

theorem F10_L1_eq {m : Mdl} (hm : MdOk m) (l : List Itm) (hl : l.length ≤ 300) (hi : ∀ x ∈ l, I64 x.target) (name typed : Str) : ∀ (k i fuel : Nat) (acc : List Itm), i + k = l.length → k < fuel → acc.length ≤ i * 1048576 →
    F10_L1 l N typed m name fuel (i : Int) acc = some (acc ++ (l.drop i).flatMap (itemF m name typed))
  | 0, i, fuel, acc, h1, h2, h3 => by
    obtain ⟨fuel, rfl⟩ := Nat.exists_eq_succ_of_ne_zero (by omega : fuel ≠ 0)
    rw [F10_L1, decide_eq_false (by omega), cond_false, List.drop_eq_nil_of_le (by omega)]
    simp [F10_J1]
  | k + 1, i, fuel, acc, h1, h2, h3 => by
    obtain ⟨fuel, rfl⟩ := Nat.exists_eq_succ_of_ne_zero (by omega : fuel ≠ 0)
    have hil : i < l.length := by omega
    have hbig : i * 1048576 ≤ 299 * 1048576 := Nat.mul_le_mul_right _ (by omega)
    rw [F10_L1, decide_eq_true (by omega), cond_true, getO_lt hil, Option.bind_some, List.drop_eq_getElem_cons hil, List.flatMap_cons]
    have ih := fun acc' h => F10_L1_eq hm l hl hi name typed k (i + 1) fuel acc' (by omega) (by omega) h
    have hlen := item_len hm name typed l[i]
    have hA : acc.length ≤ (i + 1) * 1048576 := Nat.le_trans h3 (Nat.mul_le_mul_right _ (Nat.le_succ i))
    have hA1 : (acc ++ [l[i]]).length ≤ (i + 1) * 1048576 := by rw [List.length_append, Nat.succ_mul]; exact Nat.add_le_add h3 (by rw [List.length_singleton]; decide)
    by_cases ht : l[i].target = 0
    · have e1 : (l[i].target == 0) = true := by simpa using ht
      rw [e1, cond_true, F16_eq, Option.bind_some]
      have hit : itemF m name typed l[i] = if prefixF l[i].concept typed = true then [l[i]] else [] := by unfold itemF; rw [if_pos ht]
      rw [hit]
      cases prefixF l[i].concept typed with
      | false =>
        rw [cond_false]
        unfold F10_J3 F10_J2
        rw [wsucc (by omega), ih acc hA]
        simp
      | true =>
        rw [cond_true, chk_true (by rw [Bool.and_eq_true, decide_eq_true_eq, decide_eq_true_eq]; unfold maxLen; omega), Option.bind_some]
        unfold F10_J3 F10_J2
        rw [wsucc (by omega), ih (acc ++ [l[i]]) hA1]
        simp
    · have e1 : (l[i].target == 0) = false := by simpa using ht
      rw [e1, cond_false, F17_eq hN hm (hi _ (List.getElem_mem hil)), Option.bind_some]
      have hp := find_props hm l[i].target
      have h5 := F10_L2_eq hN (findF m l[i].target) hp name typed l[i] (F10_L1 l N typed m name fuel) (i : Int) (findF m l[i].target).1.props [] N acc rfl (by omega) (by omega)
      have h5' : F10_L2 (findF m l[i].target) name N typed l[i] (F10_L1 l N typed m name fuel) (i : Int) N 0 acc = _ := h5
      rw [h5']
      unfold F10_J2
      have hit : itemF m name typed l[i] = ((findF m l[i].target).1.props.filter (hitP name typed)).map fun _ => l[i] := by unfold itemF; rw [if_neg ht]
      have hlen2 : (acc ++ itemF m name typed l[i]).length ≤ (i + 1) * 1048576 := by rw [List.length_append, Nat.succ_mul]; omega
      rw [← hit, wsucc (by omega), ih _ hlen2, List.append_assoc]

theorem F10_eq {m : Mdl} (hm : MdOk m) (l : List Itm) (hl : l.length ≤ 300) (hi : ∀ x ∈ l, I64 x.target) (name typed : Str) : F10 N m l name typed = some (l.flatMap (itemF m name typed)) := by
  have h := F10_L1_eq hN hm l hl hi name typed l.length 0 N [] (by omega) (by omega) (by simp)
  exact h

theorem F9_L2_eq (nd : Nd × Bool) (hnd : nd.1.props.length ≤ 1048576) (name typed : Str) (l : List Itm) (i : Nat) (hi : i < l.length) (k : Int → List Itm → Option (List Itm)) : ∀ (rest pre : List Prp) (fuel : Nat) (acc : List Itm), nd.1.props = pre ++ rest → rest.length < fuel → acc.length + rest.length ≤ 1073741824 →
    F9_L2 nd name N typed l (i : Int) k fuel (pre.length : Int) acc = F9_J2 k (i : Int) (acc ++ (rest.filter (hitP name typed)).map fun _ => l[i])
  | [], pre, fuel, acc, e, hf, ha => by
    obtain ⟨fuel, rfl⟩ := Nat.exists_eq_succ_of_ne_zero (by omega : fuel ≠ 0)
    have : pre.length = nd.1.props.length := by rw [e]; simp
    rw [F9_L2, decide_eq_false (by omega), cond_false]
    simp
  | y :: rest, pre, fuel, acc, e, hf, ha => by
    obtain ⟨fuel, rfl⟩ := Nat.exists_eq_succ_of_ne_zero (by omega : fuel ≠ 0)
    have hlt : pre.length < nd.1.props.length := by rw [e]; simp
    have hg : nd.1.props[pre.length] = y := by simp [e]
    have hpl : (pre ++ [y]).length = pre.length + 1 := by simp
    simp only [List.length_cons] at hf ha
    rw [F9_L2, decide_eq_true (by omega), cond_true, getO_lt hlt, Option.bind_some, hg, F14_eq]
    have ih := fun acc' h => F9_L2_eq nd hnd name typed l i hi k rest (pre ++ [y]) fuel acc' (by simp [e]) (by omega) h
    rw [List.filter_cons]
    unfold hitP
    cases h1 : (y.name == name) with
    | false =>
      rw [bindG_false, Bool.false_and, cond_false]
      unfold F9_J4
      rw [wsucc (by omega), ← hpl, ih acc (by omega)]
      simp only [Bool.false_and, Bool.false_eq_true, if_false]
      rfl
    | true =>
      rw [bindG_true, Option.bind_some, Bool.true_and]
      cases h2 : prefixF y.value typed with
      | false =>
        rw [cond_false]
        unfold F9_J4
        rw [wsucc (by omega), ← hpl, ih acc (by omega)]
        simp only [Bool.and_false, Bool.false_eq_true, if_false]
        rfl
      | true =>
        rw [cond_true, getO_lt hi, Option.bind_some, chk_true (by rw [Bool.and_eq_true, decide_eq_true_eq, decide_eq_true_eq]; unfold maxLen; omega), Option.bind_some]
        unfold F9_J4
        rw [wsucc (by omega), ← hpl, ih (acc ++ [l[i]]) (by simp; omega)]
        simp only [Bool.and_self, if_true, List.map_cons, List.append_assoc, List.singleton_append]
        rfl

theorem F9_L1_eq {m : Mdl} (hm : MdOk m) (l : List Itm) (hl : l.length ≤ 300) (name typed : Str) : ∀ (k i fuel : Nat) (acc : List Itm), i + k = l.length → k < fuel → acc.length ≤ i * 1048576 →
    F9_L1 l N typed m name fuel (i : Int) acc = some (acc ++ (l.drop i).flatMap (itemF m name typed))
  | 0, i, fuel, acc, h1, h2, h3 => by
    obtain ⟨fuel, rfl⟩ := Nat.exists_eq_succ_of_ne_zero (by omega : fuel ≠ 0)
    rw [F9_L1, decide_eq_false (by omega), cond_false, List.drop_eq_nil_of_le (by omega)]
    simp [F9_J1]
  | k + 1, i, fuel, acc, h1, h2, h3 => by
    obtain ⟨fuel, rfl⟩ := Nat.exists_eq_succ_of_ne_zero (by omega : fuel ≠ 0)
    have hil : i < l.length := by omega
    have hbig : i * 1048576 ≤ 299 * 1048576 := Nat.mul_le_mul_right _ (by omega)
    rw [F9_L1, decide_eq_true (by omega), cond_true, getO_lt hil, Option.bind_some, List.drop_eq_getElem_cons hil, List.flatMap_cons]
    have ih := fun acc' h => F9_L1_eq hm l hl name typed k (i + 1) fuel acc' (by omega) (by omega) h
    have hlen := item_len hm name typed l[i]
    have hA : acc.length ≤ (i + 1) * 1048576 := Nat.le_trans h3 (Nat.mul_le_mul_right _ (Nat.le_succ i))
    have hA1 : (acc ++ [l[i]]).length ≤ (i + 1) * 1048576 := by rw [List.length_append, Nat.succ_mul]; exact Nat.add_le_add h3 (by rw [List.length_singleton]; decide)
    by_cases ht : l[i].target = 0
    · have e1 : (l[i].target == 0) = true := by simpa using ht
      rw [e1, cond_true, F14_eq, Option.bind_some]
      have hit : itemF m name typed l[i] = if prefixF l[i].concept typed = true then [l[i]] else [] := by unfold itemF; rw [if_pos ht]
      rw [hit]
      cases prefixF l[i].concept typed with
      | false =>
        rw [cond_false]
        unfold F9_J3 F9_J2
        rw [wsucc (by omega), ih acc hA]
        simp
      | true =>
        rw [cond_true, chk_true (by rw [Bool.and_eq_true, decide_eq_true_eq, decide_eq_true_eq]; unfold maxLen; omega), Option.bind_some]
        unfold F9_J3 F9_J2
        rw [wsucc (by omega), ih (acc ++ [l[i]]) hA1]
        simp
    · have e1 : (l[i].target == 0) = false := by simpa using ht
      rw [e1, cond_false, F15_eq hN hm, Option.bind_some]
      have hp := find_props hm l[i].target
      have h5 := F9_L2_eq hN (findF m l[i].target) hp name typed l i hil (F9_L1 l N typed m name fuel) (findF m l[i].target).1.props [] N acc rfl (by omega) (by omega)
      have h5' : F9_L2 (findF m l[i].target) name N typed l (i : Int) (F9_L1 l N typed m name fuel) N 0 acc = _ := h5
      rw [h5']
      unfold F9_J2
      have hit : itemF m name typed l[i] = ((findF m l[i].target).1.props.filter (hitP name typed)).map fun _ => l[i] := by unfold itemF; rw [if_neg ht]
      have hlen2 : (acc ++ itemF m name typed l[i]).length ≤ (i + 1) * 1048576 := by rw [List.length_append, Nat.succ_mul]; omega
      rw [← hit, wsucc (by omega), ih _ hlen2, List.append_assoc]

theorem F9_eq {m : Mdl} (hm : MdOk m) (l : List Itm) (hl : l.length ≤ 300) (name typed : Str) : F9 N m l name typed = some (l.flatMap (itemF m name typed)) := by
  have h := F9_L1_eq hN hm l hl name typed l.length 0 N [] (by omega) (by omega) (by simp)
  exact h

omit hN in
theorem F11_refl (l : List Itm) {N : Nat} (hl : l.length < 4611686018427387904) (hn : l.length < N) : F11 N l l = some true := by
  unfold F11
  have e : (((l.length : Int) == (l.length : Int))) = true := by simp
  rw [e, Bool.not_true, cond_false]
  have h := scan0 (F11_L1 l l) l.length (fun _ => false) (some false) (some true) (fun k i hi => by
      rw [F11_L1, decide_eq_true (by omega), cond_true, getO_lt hi, Option.bind_some, Option.bind_some, wsucc (by omega)]
      simp)
    (fun k => by rw [F11_L1, decide_eq_false (by omega), cond_false]; rfl) hn
  rw [h]
  have : (List.range l.length).any (fun _ => false) = false := by simp
  rw [this]
  rfl

omit hN in
theorem F12_L1_eq : ∀ (k i fuel : Nat) (l : List Itm), l.length < 4611686018427387904 → i + k = l.length → k < fuel → F12_L1 fuel (i : Int) l = some ()
  | 0, i, fuel, l, h0, h1, h2 => by
    obtain ⟨fuel, rfl⟩ := Nat.exists_eq_succ_of_ne_zero (by omega : fuel ≠ 0)
    rw [F12_L1, decide_eq_false (by omega), cond_false]
  | k + 1, i, fuel, l, h0, h1, h2 => by
    obtain ⟨fuel, rfl⟩ := Nat.exists_eq_succ_of_ne_zero (by omega : fuel ≠ 0)
    have hi : i < l.length := by omega
    rw [F12_L1, decide_eq_true (by omega), cond_true, getO_lt hi, Option.bind_some, wsucc (by omega)]
    exact F12_L1_eq k (i + 1) fuel _ (by simpa using h0) (by simp; omega) (by omega)

omit hN in
theorem F12_eq (l : List Itm) {N : Nat} (hl : l.length < 4611686018427387904) (hn : l.length < N) : F12 N l = some () := F12_L1_eq l.length 0 N l hl (by omega) hn

omit hN in
theorem flat_items {f : Itm → List Itm} {c : Nat} (h : ∀ x, (f x).length ≤ c) : ∀ l : List Itm, (l.flatMap f).length ≤ l.length * c
  | [] => by simp
  | x :: l => by
    have := flat_items h l
    have h1 := h x
    rw [List.flatMap_cons, List.length_append, List.length_cons, Nat.succ_mul]
    omega
end

/-- THE LAW -/
theorem law {N : Nat} (hN : 1073741824 ≤ N) {m : Mdl} {l : List Itm} (name typed : Str) (hnode : ∀ n ∈ m.nodes, NdOk n) (hi : ∀ x ∈ l, I64 x.target) : F4 N m l name typed = some true := by
  unfold F4
  cases hbig : (decide ((m.nodes.length : Int) > 300)) || (decide ((l.length : Int) > 300)) with
  | true => rfl
  | false =>
    simp only [Bool.or_eq_false_iff, decide_eq_false_iff_not] at hbig
    have hm : MdOk m := ⟨by omega, hnode⟩
    have hl : l.length ≤ 300 := by omega
    have hflat := flat_items (c := 1048576) (fun x => item_len hm name typed x) l
    have hflat2 : l.length * 1048576 ≤ 300 * 1048576 := Nat.mul_le_mul_right _ hl
    rw [cond_false, chk_true (by rw [Bool.and_eq_true, decide_eq_true_eq, decide_eq_true_eq]; unfold maxLen; omega), Option.bind_some, F9_eq (by omega) hm l hl, Option.bind_some, F10_eq (by omega) hm l hl hi, Option.bind_some,
      F11_refl _ (by omega) (by omega), Option.bind_some, F11_refl l (by omega) (by omega)]
    simp only [Bool.not_true, Bool.not_false, bindG_true, Option.bind_some, Bool.or_self, cond_false]
    rw [F12_eq _ (by omega) (by omega), Option.bind_some, F11_refl _ (by omega) (by omega), Option.bind_some]
    rfl

end Go.Proofs.Mm
