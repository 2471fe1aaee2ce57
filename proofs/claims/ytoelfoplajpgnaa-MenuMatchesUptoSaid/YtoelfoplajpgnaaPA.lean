import Derived.Test.YtoelfoplajpgnaaL33
import Derived.Test.YtoelfoplajpgnaaL35
import Derived.Test.YtoelfoplajpgnaaLS1
import Derived.Test.YtoelfoplajpgnaaL20
import Derived.Test.YtoelfoplajpgnaaLS2
import Derived.Test.YtoelfoplajpgnaaL19
import Derived.Test.YtoelfoplajpgnaaL27
set_option linter.unusedVariables false
set_option linter.unusedSimpArgs false
set_option linter.unusedSectionVars false

namespace Go.Proofs.Mm
open Go Go.Ev

/-! ### Plain laws: texts -/

theorem getO_nat {α : Type} (l : List α) (i : Nat) : getO l (i : Int) = l[i]? := by
  simp [getO]
theorem getO_lt {α : Type} {l : List α} {i : Nat} (h : i < l.length) : getO l (i : Int) = some l[i] := by
  rw [getO_nat]; simp [h]
theorem getO_zero {α : Type} (l : List α) : getO l 0 = l[0]? := getO_nat l 0
theorem wsucc {i : Nat} (h : i < 4611686018427387904) : IntKind.i64.wrap ((i : Int) + 1) = ((i + 1 : Nat) : Int) := by
  rw [wrap64_of (by omega) (by omega)]; rfl
theorem wpred {i : Nat} (h : 0 < i) (h2 : i < 4611686018427387904) : IntKind.i64.wrap ((i : Int) - 1) = ((i - 1 : Nat) : Int) := by
  rw [wrap64_of (by omega) (by omega)]; omega
theorem chk_true {b : Bool} (h : b = true) : chk b = some () := by simp [chk, h]

/-- a loop over a list's places that ends at the first bad one -/
theorem scan {β : Type} (L : Nat → Int → Option β) (len : Nat) (bad : Nat → Bool) (r0 J : Option β)
    (hstep : ∀ n i, i < len → L (n + 1) (i : Int) = if bad i = true then r0 else L n ((i + 1 : Nat) : Int)) (hend : ∀ n, L (n + 1) (len : Int) = J) :
    ∀ k i n, i + k = len → k < n → L n (i : Int) = if ((List.range' i k).any bad) = true then r0 else J
  | 0, i, n, h1, h2 => by
    obtain ⟨n, rfl⟩ := Nat.exists_eq_succ_of_ne_zero (by omega : n ≠ 0)
    have : i = len := by omega
    subst this
    simp [hend]
  | k + 1, i, n, h1, h2 => by
    obtain ⟨n, rfl⟩ := Nat.exists_eq_succ_of_ne_zero (by omega : n ≠ 0)
    rw [hstep n i (by omega), scan L len bad r0 J hstep hend k (i + 1) n (by omega) (by omega)]
    simp only [List.range'_succ, List.any_cons]
    cases bad i with
    | true => simp
    | false => rw [Bool.false_or]; simp only [Bool.false_eq_true, if_false]

theorem scan0 {β : Type} (L : Nat → Int → Option β) (len : Nat) (bad : Nat → Bool) (r0 J : Option β)
    (hstep : ∀ n i, i < len → L (n + 1) (i : Int) = if bad i = true then r0 else L n ((i + 1 : Nat) : Int)) (hend : ∀ n, L (n + 1) (len : Int) = J) {n : Nat} (h : len < n) :
    L n 0 = if ((List.range len).any bad) = true then r0 else J := by
  have := scan L len bad r0 J hstep hend len 0 n (by omega) h
  rw [List.range_eq_range']
  exact this

theorem bif_if {α : Type} (b : Bool) (x y : α) : (bif b then x else y) = if b = true then x else y := by cases b <;> rfl

theorem F21_eq (N : Nat) (s p : Str) : F21 N s p = some (prefixF s p) := by
  unfold F21 prefixF
  by_cases h : p.length ≤ s.length
  · have h1 : decide ((s.length : Int) ≥ (p.length : Int)) = true := by simpa using h
    rw [h1, bindG_true, chk_true (by simpa using h)]
    simp [h]
  · have h1 : decide ((s.length : Int) ≥ (p.length : Int)) = false := by simpa using h
    rw [h1, bindG_false]
    simp [h]
theorem F14_eq (N : Nat) (s p : Str) : F14 N s p = some (prefixF s p) := F21_eq N s p
theorem F16_eq (N : Nat) (s p : Str) : F16 N s p = some (prefixF s p) := by simp [F16, F21_eq]

theorem F37_eq (N : Nat) (s p : Str) : F37 N s p = some (trimF s p) := by
  unfold F37 F39 trimF
  rw [F21_eq]
  simp only [Option.bind_some]
  cases h : prefixF s p with
  | false => simp
  | true =>
    have h1 : p.length ≤ s.length := by
      unfold prefixF at h
      simp only [Bool.and_eq_true, decide_eq_true_eq] at h
      exact h.1
    rw [cond_true, chk_true (by simp [h1])]
    simp only [Option.bind_some, if_true, Option.some.injEq]
    exact List.take_of_length_le (by simp)

theorem F38_eq (N : Nat) (c : Int) : F38 N c = some (letterF c) := rfl

theorem any_not {α : Type} (l : List α) (p : α → Bool) (bad : Nat → Bool) (h : ∀ i (hi : i < l.length), bad i = !p l[i]) : (List.range l.length).any bad = !(l.all p) := by
  rw [Bool.eq_iff_iff]
  simp only [List.any_eq_true, List.mem_range, Bool.not_eq_true', List.all_eq_false]
  constructor
  · rintro ⟨i, hi, hb⟩
    rw [h i hi] at hb
    exact ⟨l[i], List.getElem_mem hi, by simpa using hb⟩
  · rintro ⟨x, hx, hp⟩
    obtain ⟨i, hi, rfl⟩ := List.getElem_of_mem hx
    exact ⟨i, hi, by rw [h i hi]; simpa using hp⟩

theorem F35_L1_eq (s : Str) (N n : Nat) (hs : s.length < 4611686018427387904) (hn : s.length < n) : F35_L1 s N n 0 = some (s.all fun c => okCh c.toNat) := by
  have h := scan0 (F35_L1 s N) s.length (fun i => if h : i < s.length then !okCh (s[i].toNat) else false) (some false) (some true)
    (fun n i hi => by
      rw [F35_L1]
      have h1 : decide ((i : Int) < ((s.map (fun c => (c.toNat : Int))).length : Int)) = true := by simpa using hi
      rw [h1, cond_true, getO_lt (by simpa using hi), Option.bind_some, F38_eq, Option.bind_some, bif_if, wsucc (by omega)]
      simp only [hi, dif_pos, List.getElem_map]
      have : ((!letterF (s[i].toNat : Int)) && (decide ((s[i].toNat : Int) < 48) || decide ((s[i].toNat : Int) > 57)) && !((s[i].toNat : Int) == 95)) = !okCh (s[i].toNat) := by
        unfold okCh
        cases letterF (s[i].toNat : Int) <;> simp
        rw [Bool.eq_iff_iff]; simp
      rw [this])
    (fun n => by
      rw [F35_L1]
      have h1 : decide ((s.length : Int) < ((s.map (fun c => (c.toNat : Int))).length : Int)) = false := by simp
      rw [h1, cond_false]; rfl) hn
  rw [h, any_not s (fun c => okCh c.toNat) _ (fun i hi => by simp [hi])]
  cases s.all fun c => okCh c.toNat <;> rfl

theorem trim_len (s p : Str) : (trimF s p).length ≤ s.length := by
  unfold trimF
  split
  · simp
  · exact Nat.le_refl _

theorem F35_eq (N : Nat) (s : Str) (hs : s.length ≤ 1048576) (hN : 1048576 < N) : F35 N s = some (wordF s) := by
  unfold F35 wordF
  rw [F37_eq, Option.bind_some]
  generalize hy : trimF s [63] = y
  have hyl : y.length ≤ 1048576 := by rw [← hy]; exact Nat.le_trans (trim_len _ _) hs
  cases y with
  | nil => simp [bindG, wordBody]
  | cons c r =>
    have e1 : ((c :: r : Str) == []) = false := rfl
    rw [e1, Bool.false_or]
    by_cases h : (c :: r : Str).length ≤ 32
    · have h1 : decide (((c :: r : Str).length : Int) > 32) = false := decide_eq_false (by omega)
      rw [h1, Bool.not_false, bindG_true, getO_zero]
      simp only [List.getElem?_cons_zero, Option.bind_some, bindG_true, F38_eq, Bool.false_or]
      have hb : wordBody (c :: r) = (letterF c.toNat && (c :: r).all fun c => okCh c.toNat) := by
        unfold wordBody
        simp only [h, decide_true, Bool.true_and]
      rw [hb]
      cases hl : letterF c.toNat with
      | false => simp
      | true =>
        simp only [Bool.not_true, cond_false]
        rw [chk_true (by simp [maxLen]; simp at h; omega), Option.bind_some, F35_L1_eq _ N N (by simp at h ⊢; omega) (by simp at h ⊢; omega), Bool.true_and]
    · have h1 : decide (((c :: r : Str).length : Int) > 32) = true := decide_eq_true (by omega)
      rw [h1, Bool.not_true, bindG_false, bindG_false, Bool.true_or, cond_true]
      unfold wordBody
      simp only [h, decide_false, Bool.false_and]

theorem F33_L1_eq (s : Str) (n : Nat) (hs : s.length < 4611686018427387904) (hn : s.length < n) : F33_L1 s n 0 = some ((match s with
    | [] => true
    | c :: _ => letterF c.toNat) && s.all fun c => okCh c.toNat) := by
  have h := scan0 (F33_L1 s) s.length (fun i => if h : i < s.length then !letterF s[i].toNat && (decide (i = 0) || !okCh s[i].toNat) else false) (some false) (some true)
    (fun n i hi => by
      rw [F33_L1]
      have h1 : decide ((i : Int) < (s.length : Int)) = true := by simpa using hi
      rw [h1, cond_true, getO_lt hi, Option.bind_some, bif_if, wsucc (by omega)]
      simp only [hi, dif_pos]
      have : ((!(decide ((s[i].toNat : Int) ≥ 97) && decide ((s[i].toNat : Int) ≤ 122) || decide ((s[i].toNat : Int) ≥ 65) && decide ((s[i].toNat : Int) ≤ 90))) && ((i : Int) == 0 || !((s[i].toNat : Int) == 95) && (decide ((s[i].toNat : Int) < 48) || decide ((s[i].toNat : Int) > 57)))) = (!letterF s[i].toNat && (decide (i = 0) || !okCh s[i].toNat)) := by
        unfold okCh letterF
        rw [Bool.eq_iff_iff]; simp; omega
      rw [this])
    (fun n => by
      rw [F33_L1]
      have h1 : decide ((s.length : Int) < (s.length : Int)) = false := by simp
      rw [h1, cond_false]; rfl) hn
  rw [h]
  cases s with
  | nil => rfl
  | cons c r =>
    have : (List.range (c :: r).length).any (fun i => if h : i < (c :: r).length then !letterF (c :: r)[i].toNat && (decide (i = 0) || !okCh (c :: r)[i].toNat) else false) = !(letterF c.toNat && (c :: r).all fun c => okCh c.toNat) := by
      rw [Bool.eq_iff_iff]
      simp only [List.any_eq_true, List.mem_range, Bool.not_eq_true', Bool.and_eq_false_iff, List.all_eq_false]
      constructor
      · rintro ⟨i, hi, hb⟩
        simp only [hi, dif_pos, Bool.and_eq_true, Bool.not_eq_true', Bool.or_eq_true, decide_eq_true_eq] at hb
        rcases hb.2 with rfl | h2
        · exact .inl hb.1
        · exact .inr ⟨_, List.getElem_mem hi, by simp [h2]⟩
      · rintro (h | ⟨x, hx, hp⟩)
        · exact ⟨0, by simp, by simp [h]⟩
        · obtain ⟨i, hi, rfl⟩ := List.getElem_of_mem hx
          have h2 : okCh ((c :: r)[i].toNat : Int) = false := by simpa using hp
          have h3 : letterF ((c :: r)[i].toNat : Int) = false := by
            unfold okCh at h2
            simp only [Bool.or_eq_false_iff] at h2
            exact h2.1.1
          exact ⟨i, hi, by simp only [hi, dif_pos]; simp [h2, h3]⟩
    rw [this]
    cases letterF c.toNat && (c :: r).all fun c => okCh c.toNat <;> rfl

theorem F33_J2_eq (N : Nat) (y : Str) (hs : y.length ≤ 1048576) (hN : 1048576 < N) : F33_J2 N y = some (wordBody y) := by
  unfold F33_J2 wordBody
  cases y with
  | nil => rfl
  | cons c r =>
    have h0 : decide (((c :: r : Str).length : Int) < 1) = false := decide_eq_false (by simp only [List.length_cons]; omega)
    rw [h0, Bool.false_or]
    by_cases h : (c :: r : Str).length ≤ 32
    · have h1 : decide (((c :: r : Str).length : Int) > 32) = false := decide_eq_false (by omega)
      rw [h1, cond_false, F33_L1_eq _ N (by simp at h ⊢; omega) (by simp at h ⊢; omega)]
      simp only [h, decide_true, Bool.true_and]
    · have h1 : decide (((c :: r : Str).length : Int) > 32) = true := decide_eq_true (by omega)
      rw [h1, cond_true]
      simp only [h, decide_false, Bool.false_and]

theorem F33_eq (N : Nat) (s : Str) (hs : s.length ≤ 1048576) (hN : 1048576 < N) : F33 N s = some (wordF s) := by
  unfold F33 wordF
  rw [trim63]
  cases s with
  | nil => rw [show decide ((([] : Str).length : Int) > 0) = false from rfl, bindG_false, Bool.false_and, cond_false]; exact F33_J2_eq N [] (by simp) hN
  | cons c r =>
    have h0 : decide (((c :: r : Str).length : Int) > 0) = true := decide_eq_true (by simp only [List.length_cons]; omega)
    rw [h0, bindG_true, getO_zero]
    simp only [List.getElem?_cons_zero, Option.bind_some, Bool.true_and]
    by_cases hc : c = 63
    · subst hc
      have h1 : (((63 : UInt8).toNat : Int) == 63) = true := rfl
      rw [h1, cond_true, chk_true (by simp), Option.bind_some]
      have : ((63 :: r : Str).drop 1).take ((63 :: r : Str).length - 1) = r := by simp
      rw [this]
      exact F33_J2_eq N r (by simp at hs; omega) hN
    · have h1 : ((c.toNat : Int) == 63) = false := by
        rw [beq_eq_false_iff_ne]
        intro h
        exact hc (UInt8.toNat_inj.1 (by show c.toNat = 63; omega))
      rw [h1, cond_false, F33_J2_eq N _ hs hN]
      split
      · rename_i r' h; simp at h; exact (hc h.1).elim
      · rfl

end Go.Proofs.Mm

namespace Go.Proofs.Mm
open Go Go.Ev

/-! ### Plain laws: the place of a number -/

theorem wrapu64_of {x : Int} (h1 : 0 ≤ x) (h2 : x ≤ 18446744073709551615) : IntKind.u64.wrap x = x := by
  simp only [IntKind.wrap, IntKind.bits, IntKind.signed]
  simp
  omega

theorem bsearch {β : Type} (L : Nat → Int → Int → Option β) (J : Int → Option β) (lt : Nat → Bool) (len : Nat)
    (hstep : ∀ (n lo hi : Nat), lo < hi → hi ≤ len → L (n + 1) (lo : Int) (hi : Int) = if lt ((lo + hi) / 2) = true then L n (((lo + hi) / 2 + 1 : Nat) : Int) (hi : Int) else L n (lo : Int) (((lo + hi) / 2 : Nat) : Int))
    (hend : ∀ (n lo : Nat), L (n + 1) (lo : Int) (lo : Int) = J (lo : Int)) :
    ∀ (k n lo hi : Nat), hi - lo ≤ k → k < n → lo ≤ hi → hi ≤ len → ∃ q : Nat, lo ≤ q ∧ q ≤ hi ∧ L n (lo : Int) (hi : Int) = J (q : Int) ∧
      ((∀ i j, i ≤ j → j < len → lt j = true → lt i = true) → (∀ i, i < lo → lt i = true) → (∀ i, hi ≤ i → i < len → lt i = false) → (∀ i, i < q → lt i = true) ∧ ∀ i, q ≤ i → i < len → lt i = false)
  | k, n, lo, hi, h1, h2, h3, h4 => by
    obtain ⟨n, rfl⟩ := Nat.exists_eq_succ_of_ne_zero (by omega : n ≠ 0)
    by_cases hlt : lo < hi
    · obtain ⟨k, rfl⟩ := Nat.exists_eq_succ_of_ne_zero (by omega : k ≠ 0)
      rw [hstep n lo hi hlt h4]
      cases hl : lt ((lo + hi) / 2) with
      | true =>
        obtain ⟨q, q1, q2, q3, q4⟩ := bsearch L J lt len hstep hend k n ((lo + hi) / 2 + 1) hi (by omega) (by omega) (by omega) h4
        exact ⟨q, by omega, q2, by simpa using q3, fun m a b => q4 m (fun i hi' => m i ((lo + hi) / 2) (by omega) (by omega) hl) b⟩
      | false =>
        obtain ⟨q, q1, q2, q3, q4⟩ := bsearch L J lt len hstep hend k n lo ((lo + hi) / 2) (by omega) (by omega) (by omega) (by omega)
        refine ⟨q, q1, by omega, by simpa using q3, fun m a b => q4 m a (fun i hi' hlen => ?_)⟩
        cases hi2 : lt i with
        | false => rfl
        | true => rw [m ((lo + hi) / 2) i hi' hlen hi2] at hl; cases hl
    · have e : lo = hi := by omega
      subst e
      exact ⟨lo, Nat.le_refl _, Nat.le_refl _, hend n lo, fun _ a b => ⟨a, b⟩⟩

/-- the nodes' numbers go up -/
def Sorted (m : Mdl) : Prop := ∀ (i j : Nat) (hi : i < j) (hj : j < m.nodes.length), (m.nodes[i]'(by omega)).id < m.nodes[j].id
def atF (m : Mdl) (id : Int) : Int := match m.nodes.findIdx? (·.id == id) with
  | some i => i
  | none => -1

theorem atF_some {m : Mdl} (hs : Sorted m) {i : Nat} (hi : i < m.nodes.length) : atF m m.nodes[i].id = i := by
  have : m.nodes.findIdx? (·.id == m.nodes[i].id) = some i := by
    rw [List.findIdx?_eq_some_iff_getElem]
    refine ⟨hi, by simp, fun j hj => ?_⟩
    have := hs j i hj hi
    simp; omega
  unfold atF
  rw [this]

theorem atF_none {m : Mdl} {id : Int} (h : ∀ n ∈ m.nodes, n.id ≠ id) : atF m id = -1 := by
  have : m.nodes.findIdx? (·.id == id) = none := by
    rw [List.findIdx?_eq_none_iff]
    intro n hn
    simpa using h n hn
  unfold atF
  rw [this]

theorem at_end {m : Mdl} (hs : Sorted m) {id : Int} {q : Nat} (hq : q ≤ m.nodes.length) (h1 : ∀ i (hi : i < m.nodes.length), i < q → m.nodes[i].id < id) (h2 : ∀ i (hi : i < m.nodes.length), q ≤ i → ¬ m.nodes[i].id < id) :
    (if h : q < m.nodes.length then (if m.nodes[q].id = id then (q : Int) else -1) else -1) = atF m id := by
  have none : (∀ (h : q < m.nodes.length), m.nodes[q].id ≠ id) → atF m id = -1 := fun h => atF_none fun n hn e => by
    obtain ⟨i, hi, rfl⟩ := List.getElem_of_mem hn
    by_cases hiq : i < q
    · have := h1 i hi hiq; omega
    · have hq' : q < m.nodes.length := by omega
      have h3 := h hq'
      have h4 := h2 q hq' (Nat.le_refl _)
      by_cases e2 : q = i
      · subst e2; exact h3 e
      · have := hs q i (by omega) hi; omega
  split
  · rename_i hq'
    split
    · rename_i he
      rw [← he, atF_some hs hq']
    · rename_i he; exact (none fun _ => he).symm
  · rename_i hq'; exact (none fun h => (hq' h).elim).symm

theorem half {lo hi : Nat} (h : hi ≤ 1048576) (h2 : lo ≤ hi) : IntKind.i64.wrap (Int.tdiv (IntKind.i64.wrap ((lo : Int) + (hi : Int))) 2) = (((lo + hi) / 2 : Nat) : Int) := by
  rw [wrap64_of (x := (lo : Int) + hi) (by omega) (by omega)]
  have : Int.tdiv ((lo : Int) + hi) 2 = (((lo + hi) / 2 : Nat) : Int) := by
    rw [Int.tdiv_eq_ediv_of_nonneg (by omega)]
    omega
  rw [this, wrap64_of (by omega) (by omega)]

theorem half' {lo hi : Nat} (h : hi ≤ 1048576) (h2 : lo ≤ hi) : IntKind.i64.wrap (Int.fdiv (IntKind.u64.wrap (IntKind.i64.wrap ((lo : Int) + (hi : Int)))) (2 ^ min 1 64)) = (((lo + hi) / 2 : Nat) : Int) := by
  rw [wrap64_of (x := (lo : Int) + hi) (by omega) (by omega), wrapu64_of (by omega) (by omega)]
  have e : (2 ^ min 1 64 : Int) = 2 := by decide
  rw [e]
  have : Int.fdiv ((lo : Int) + hi) 2 = (((lo + hi) / 2 : Nat) : Int) := by
    rw [Int.fdiv_eq_ediv_of_nonneg _ (by omega)]
    omega
  rw [this, wrap64_of (by omega) (by omega)]

theorem F20_eq {m : Mdl} (hs : Sorted m) (hl : m.nodes.length ≤ 1048576) {N : Nat} (hN : 1048576 < N) (id : Int) : F20 N m id = some (atF m id) := by
  obtain ⟨q, _, q2, q3, q4⟩ := bsearch (F20_L1 m id) (F20_J1 m id) (fun i => if h : i < m.nodes.length then decide (m.nodes[i].id < id) else false) m.nodes.length
    (fun n lo hi h1 h2 => by
      rw [F20_L1]
      have hd : decide ((lo : Int) < (hi : Int)) = true := decide_eq_true (by omega)
      have hm : (lo + hi) / 2 < m.nodes.length := by omega
      rw [hd, cond_true, half (by omega) (by omega), getO_lt hm, Option.bind_some, bif_if]
      simp only [hm, dif_pos]
      rw [wsucc (by omega)])
    (fun n lo => by
      rw [F20_L1]
      have hd : decide ((lo : Int) < (lo : Int)) = false := decide_eq_false (by omega)
      rw [hd, cond_false])
    m.nodes.length N 0 m.nodes.length (by omega) (by omega) (by omega) (Nat.le_refl _)
  obtain ⟨h1, h2⟩ := q4 (fun i j hij hj h => by
      have hi : i < m.nodes.length := by omega
      simp only [hi, hj, dif_pos, decide_eq_true_eq] at h ⊢
      by_cases e : i = j
      · subst e; exact h
      · have := hs i j (by omega) hj; omega) (fun i hi => by omega) (fun i hi hi2 => by omega)
  unfold F20
  have q3' : F20_L1 m id N 0 (m.nodes.length : Int) = F20_J1 m id (q : Int) := q3
  rw [q3']
  rw [← at_end hs q2 (fun i hi hiq => by have := h1 i hiq; simpa [hi] using this) (fun i hi hiq => by have := h2 i hiq hi; simpa [hi] using this)]
  unfold F20_J1
  by_cases hq : q < m.nodes.length
  · have hd : decide ((q : Int) < (m.nodes.length : Int)) = true := decide_eq_true (by omega)
    rw [hd, bindG_true, getO_lt hq, Option.bind_some, Bool.true_and, bif_if]
    simp only [hq, dif_pos, beq_iff_eq]
    split <;> rfl
  · have hd : decide ((q : Int) < (m.nodes.length : Int)) = false := decide_eq_false (by omega)
    rw [hd, bindG_false, Bool.false_and, cond_false]
    simp only [hq, dif_neg, not_false_eq_true]

theorem wrap_zero {x : Int} (h1 : -18446744073709551616 < x) (h2 : x < 18446744073709551616) (h : IntKind.i64.wrap x = 0) : x = 0 := by
  simp only [IntKind.wrap, IntKind.bits, IntKind.signed] at h
  simp at h
  omega

theorem F23_eq {m : Mdl} (hs : Sorted m) (hr : ∀ n ∈ m.nodes, 1 ≤ n.id ∧ n.id ≤ 1048576) (hl : m.nodes.length ≤ 1048576) {N : Nat} (hN : 1048576 < N) {id : Int} (hid : -9223372036854775808 ≤ id ∧ id ≤ 9223372036854775807) : F23 N m id = some (atF m id) := by
  obtain ⟨q, _, q2, q3, q4⟩ := bsearch (F29_L1 m.nodes (F30 N) id) (F29_J1 m.nodes (F30 N) id) (fun i => if h : i < m.nodes.length then decide (IntKind.i64.wrap (m.nodes[i].id - id) < 0) else false) m.nodes.length
    (fun n lo hi h1 h2 => by
      rw [F29_L1]
      have hd : decide ((lo : Int) < (hi : Int)) = true := decide_eq_true (by omega)
      have hm : (lo + hi) / 2 < m.nodes.length := by omega
      rw [hd, cond_true, half' (by omega) (by omega), getO_lt hm, Option.bind_some]
      unfold F30
      rw [Option.bind_some, bif_if]
      simp only [hm, dif_pos]
      rw [wsucc (by omega)])
    (fun n lo => by
      rw [F29_L1]
      have hd : decide ((lo : Int) < (lo : Int)) = false := decide_eq_false (by omega)
      rw [hd, cond_false])
    m.nodes.length N 0 m.nodes.length (by omega) (by omega) (by omega) (Nat.le_refl _)
  have q3' : F29_L1 m.nodes (F30 N) id N 0 (m.nodes.length : Int) = F29_J1 m.nodes (F30 N) id (q : Int) := q3
  have hcmp : ∀ i (hi : i < m.nodes.length), IntKind.i64.wrap (m.nodes[i].id - id) = 0 ↔ m.nodes[i].id = id := fun i hi => by
    have := hr _ (List.getElem_mem hi)
    constructor
    · intro h
      have := wrap_zero (by omega) (by omega) h
      omega
    · intro h
      rw [wrap64_of (by omega) (by omega)]; omega
  have res : F23 N m id = some (if h : q < m.nodes.length then (if m.nodes[q].id = id then (q : Int) else -1) else -1) := by
    unfold F23 F29
    rw [q3']
    unfold F29_J1 F30
    by_cases hq : q < m.nodes.length
    · have hd : decide ((q : Int) < (m.nodes.length : Int)) = true := decide_eq_true (by omega)
      rw [hd, bindG_true, getO_lt hq, Option.bind_some, bindG_true, Option.bind_some, Option.bind_some]
      simp only [hq, dif_pos, Bool.true_and, bif_if]
      have := hcmp q hq
      by_cases he : m.nodes[q].id = id
      · rw [this.2 he]; simp [he]
      · have h0 : (IntKind.i64.wrap (m.nodes[q].id - id) == 0) = false := by rw [beq_eq_false_iff_ne]; exact fun h => he (this.1 h)
        rw [h0]; simp [he]
    · have hd : decide ((q : Int) < (m.nodes.length : Int)) = false := decide_eq_false (by omega)
      rw [hd, bindG_false, bindG_false]
      simp [hq]
  rw [res]
  by_cases hsmall : -4611686018427387904 ≤ id ∧ id ≤ 4611686018427387904
  · have hlt : ∀ i (hi : i < m.nodes.length), IntKind.i64.wrap (m.nodes[i].id - id) < 0 ↔ m.nodes[i].id < id := fun i hi => by
      have := hr _ (List.getElem_mem hi)
      rw [wrap64_of (by omega) (by omega)]; omega
    obtain ⟨h1, h2⟩ := q4 (fun i j hij hj h => by
        have hi : i < m.nodes.length := by omega
        simp only [hi, hj, dif_pos, decide_eq_true_eq] at h ⊢
        rw [hlt i hi]
        rw [hlt j hj] at h
        by_cases e : i = j
        · subst e; exact h
        · have := hs i j (by omega) hj; omega) (fun i hi => by omega) (fun i hi hi2 => by omega)
    rw [at_end hs q2 (fun i hi hiq => by have := h1 i hiq; simp only [hi, dif_pos, decide_eq_true_eq] at this; exact (hlt i hi).1 this) (fun i hi hiq => by have := h2 i hiq hi; simp only [hi, dif_pos, decide_eq_false_iff_not] at this; exact fun h => this ((hlt i hi).2 h))]
  · have hne : ∀ n ∈ m.nodes, n.id ≠ id := fun n hn e => by have := hr n hn; omega
    rw [atF_none hne]
    split
    · rename_i hq
      rw [if_neg (hne _ (List.getElem_mem hq))]
    · rfl

end Go.Proofs.Mm

namespace Go.Proofs.Mm
open Go Go.Ev

/-! ### Plain laws: a model is right -/

def I64 (n : Int) : Prop := -9223372036854775808 ≤ n ∧ n ≤ 9223372036854775807

structure NdOk (n : Nd) : Prop where
  concept : n.concept.length ≤ 1048576
  role : n.role.length ≤ 1048576
  props : n.props.length ≤ 1048576
  name : ∀ p ∈ n.props, p.name.length ≤ 1048576
  kids : n.kids.length ≤ 1048576
  kid : ∀ k ∈ n.kids, I64 k
  refs : n.refs.length ≤ 1048576
  rrole : ∀ r ∈ n.refs, r.role.length ≤ 1048576
  parent : I64 n.parent

structure MdOk (m : Mdl) : Prop where
  len : m.nodes.length ≤ 4096
  node : ∀ n ∈ m.nodes, NdOk n

theorem gt0 (i : Nat) : decide ((i : Int) > 0) = decide (i > 0) := by
  rw [Bool.eq_iff_iff]; simp

/-- the element ahead is asked for behind other questions -/
theorem prevG {α β : Type} [Inhabited α] (l : List α) (i : Nat) (hi : i < l.length) (hl : l.length ≤ 1048576) (b : Bool) (c : α → Bool) (k : Bool → Option β) :
    (bindG (!b && decide ((i : Int) > 0)) (getO l (IntKind.i64.wrap ((i : Int) - 1))) fun x => k (b || (decide ((i : Int) > 0) && c x))) = k (b || (if h : 0 < i then c l[i - 1] else false)) := by
  rw [gt0]
  cases b with
  | true => rw [Bool.not_true, Bool.false_and, bindG_false]; simp
  | false =>
    rw [Bool.not_false, Bool.true_and]
    by_cases h : 0 < i
    · have hd : decide (i > 0) = true := decide_eq_true h
      rw [hd, bindG_true, wpred h (by omega), getO_lt (by omega : i - 1 < l.length), Option.bind_some]
      simp [h]
    · have hd : decide (i > 0) = false := decide_eq_false h
      rw [hd, bindG_false]
      simp [h]

def badProp (ps : List Prp) (i : Nat) : Bool := if h : i < ps.length then ((!wordF ps[i].name) || decide ((ps[i].value.length : Int) > 4096)) || (if h : 0 < i then !Op.bytesLess ps[i - 1].name ps[i].name else false) else false
def badRef (next : Int) (rs : List Rf) (i : Nat) : Bool := if h : i < rs.length then (((!wordF rs[i].role) || decide (rs[i].target < 1)) || decide (rs[i].target ≥ next)) || (if h : 0 < i then !Op.bytesLess rs[i - 1].role rs[i].role else false) else false
def propsBad (ps : List Prp) : Bool := (List.range ps.length).any (badProp ps)
def refsBad (next : Int) (rs : List Rf) : Bool := (List.range rs.length).any (badRef next rs)

section
variable {N : Nat} (hN : 1048576 < N)
include hN

theorem F27_L2_eq {n : Nd} (hn : NdOk n) (m : Mdl) : F27_L2 n N m N 0 = if propsBad n.props = true then some false else F27_J2 n N m := by
  refine scan0 (F27_L2 n N m) n.props.length (badProp n.props) _ _ (fun k i hi => ?_) (fun k => ?_) (by have := hn.props; omega)
  · rw [F27_L2, decide_eq_true (by omega), cond_true, getO_lt hi, Option.bind_some, F35_eq N _ (hn.name _ (List.getElem_mem hi)) hN, Option.bind_some, wsucc (by have := hn.props; omega)]
    refine (prevG n.props i hi hn.props ((!wordF n.props[i].name) || decide ((n.props[i].value.length : Int) > 4096)) (fun x => !Op.bytesLess x.name n.props[i].name) (fun b => bif b then some false else F27_L2 n N m k ((i + 1 : Nat) : Int))).trans ?_
    rw [bif_if]; simp only [badProp, hi, dif_pos]
  · rw [F27_L2, decide_eq_false (by omega), cond_false]
theorem F25_L3_eq {n : Nd} (hn : NdOk n) (m : Mdl) : F25_L3 n N m N 0 = if propsBad n.props = true then some false else F25_J3 n N m := by
  refine scan0 (F25_L3 n N m) n.props.length (badProp n.props) _ _ (fun k i hi => ?_) (fun k => ?_) (by have := hn.props; omega)
  · rw [F25_L3, decide_eq_true (by omega), cond_true, getO_lt hi, Option.bind_some, F33_eq N _ (hn.name _ (List.getElem_mem hi)) hN, Option.bind_some, wsucc (by have := hn.props; omega)]
    refine (prevG n.props i hi hn.props ((!wordF n.props[i].name) || decide ((n.props[i].value.length : Int) > 4096)) (fun x => !Op.bytesLess x.name n.props[i].name) (fun b => bif b then some false else F25_L3 n N m k ((i + 1 : Nat) : Int))).trans ?_
    rw [bif_if]; simp only [badProp, hi, dif_pos]
  · rw [F25_L3, decide_eq_false (by omega), cond_false]
theorem F27_L1_eq {n : Nd} (hn : NdOk n) (m : Mdl) : F27_L1 n N m N 0 = if refsBad m.next n.refs = true then some false else some true := by
  refine scan0 (F27_L1 n N m) n.refs.length (badRef m.next n.refs) _ _ (fun k i hi => ?_) (fun k => ?_) (by have := hn.refs; omega)
  · rw [F27_L1, decide_eq_true (by omega), cond_true, getO_lt hi, Option.bind_some, F35_eq N _ (hn.rrole _ (List.getElem_mem hi)) hN, Option.bind_some, wsucc (by have := hn.refs; omega)]
    refine (prevG n.refs i hi hn.refs (((!wordF n.refs[i].role) || decide (n.refs[i].target < 1)) || decide (n.refs[i].target ≥ m.next)) (fun x => !Op.bytesLess x.role n.refs[i].role) (fun b => bif b then some false else F27_L1 n N m k ((i + 1 : Nat) : Int))).trans ?_
    rw [bif_if]; simp only [badRef, hi, dif_pos]
  · rw [F27_L1, decide_eq_false (by omega), cond_false]; rfl
theorem F25_L2_eq {n : Nd} (hn : NdOk n) (m : Mdl) : F25_L2 n N m N 0 = if refsBad m.next n.refs = true then some false else F25_J2 m n N := by
  refine scan0 (F25_L2 n N m) n.refs.length (badRef m.next n.refs) _ _ (fun k i hi => ?_) (fun k => ?_) (by have := hn.refs; omega)
  · rw [F25_L2, decide_eq_true (by omega), cond_true, getO_lt hi, Option.bind_some, F33_eq N _ (hn.rrole _ (List.getElem_mem hi)) hN, Option.bind_some, wsucc (by have := hn.refs; omega)]
    refine (prevG n.refs i hi hn.refs (((!wordF n.refs[i].role) || decide (n.refs[i].target < 1)) || decide (n.refs[i].target ≥ m.next)) (fun x => !Op.bytesLess x.role n.refs[i].role) (fun b => bif b then some false else F25_L2 n N m k ((i + 1 : Nat) : Int))).trans ?_
    rw [bif_if]; simp only [badRef, hi, dif_pos]
  · rw [F25_L2, decide_eq_false (by omega), cond_false]

/-- a node by itself -/
def aloneB (m : Mdl) (n : Nd) : Bool := (wordF n.concept && ((decide (n.parent = 0) == decide (n.role = [])) && (decide (n.role = []) || wordF n.role))) && (decide (n.kids.length ≤ m.nodes.length) && (!propsBad n.props && !refsBad m.next n.refs))
def ownB (m : Mdl) (n : Nd) : Bool := wordF n.concept && (decide (n.kids.length ≤ m.nodes.length) && (!propsBad n.props && !refsBad m.next n.refs))

theorem F27_eq {n : Nd} (hn : NdOk n) (m : Mdl) : F27 N m n = some (aloneB m n) := by
  unfold F27 aloneB
  rw [F35_eq N _ hn.concept hN, Option.bind_some]
  have e1 : (n.parent == 0) = decide (n.parent = 0) := rfl
  have e2 : (n.role == []) = decide (n.role = []) := by
    rw [Bool.eq_iff_iff]; simp
  have e3 : decide ((n.kids.length : Int) > (m.nodes.length : Int)) = !decide (n.kids.length ≤ m.nodes.length) := by
    rw [Bool.eq_iff_iff]; simp
  rw [e1, e2, e3, F35_eq N _ hn.role hN]
  cases wordF n.concept <;> cases decide (n.parent = 0) <;> cases decide (n.role = []) <;> cases wordF n.role <;> cases decide (n.kids.length ≤ m.nodes.length) <;> first | rfl | (show F27_L2 n N m N 0 = _; rw [F27_L2_eq hN hn]; unfold F27_J2; rw [F27_L1_eq hN hn]; cases propsBad n.props <;> cases refsBad m.next n.refs <;> rfl)

theorem F36_L1_eq (l : List Int) (x : Int) (hl : l.length ≤ 1048576) : ∀ (k i n : Nat), i + k = l.length → k < n → ∃ j : Int, F36_L1 l x n (i : Int) = some j ∧ (0 ≤ j ↔ x ∈ l.drop i)
  | 0, i, n, h1, h2 => by
    obtain ⟨n, rfl⟩ := Nat.exists_eq_succ_of_ne_zero (by omega : n ≠ 0)
    refine ⟨-1, by rw [F36_L1, decide_eq_false (by omega), cond_false]; rfl, ?_⟩
    rw [List.drop_eq_nil_of_le (by omega)]
    simp
  | k + 1, i, n, h1, h2 => by
    obtain ⟨n, rfl⟩ := Nat.exists_eq_succ_of_ne_zero (by omega : n ≠ 0)
    have hi : i < l.length := by omega
    rw [F36_L1, decide_eq_true (by omega), cond_true, getO_lt hi, Option.bind_some, wsucc (by omega)]
    rw [List.drop_eq_getElem_cons hi]
    by_cases he : l[i] = x
    · refine ⟨(i : Int), by simp [he], ?_⟩
      simp [he]
    · obtain ⟨j, h3, h4⟩ := F36_L1_eq l x hl k (i + 1) n (by omega) (by omega)
      refine ⟨j, ?_, ?_⟩
      · have : (l[i] == x) = false := by simpa using he
        rw [this, cond_false]; exact h3
      · rw [h4, List.mem_cons]
        constructor
        · exact .inr
        · rintro (h | h)
          · exact (he h.symm).elim
          · exact h

theorem F34_eq (l : List Int) (x : Int) (hl : l.length ≤ 1048576) : F34 N l x = some (decide (x ∈ l)) := by
  obtain ⟨j, h1, h2⟩ := F36_L1_eq (N := N) hN l x hl l.length 0 N (by omega) (by omega)
  have h1' : F36_L1 l x N 0 = some j := h1
  unfold F34 F36
  rw [h1', Option.bind_some]
  have : decide (j ≥ 0) = decide (x ∈ l) := by
    rw [Bool.eq_iff_iff]
    simp only [decide_eq_true_eq]
    simpa using h2
  rw [this]
end
end Go.Proofs.Mm

namespace Go.Proofs.Mm
open Go Go.Ev

/-! ### Plain laws: what the document calls right -/

theorem at_cases {m : Mdl} (hs : Sorted m) (id : Int) : (atF m id = -1 ∧ ∀ n ∈ m.nodes, n.id ≠ id) ∨ ∃ i, ∃ hi : i < m.nodes.length, atF m id = (i : Int) ∧ m.nodes[i].id = id := by
  by_cases h : ∃ n ∈ m.nodes, n.id = id
  · obtain ⟨n, hn, rfl⟩ := h
    obtain ⟨i, hi, rfl⟩ := List.getElem_of_mem hn
    exact .inr ⟨i, hi, atF_some hs hi, rfl⟩
  · have h' : ∀ n ∈ m.nodes, n.id ≠ id := fun n hn e => h ⟨n, hn, e⟩
    exact .inl ⟨atF_none h', h'⟩

theorem sorted_inj {m : Mdl} (hs : Sorted m) {i j : Nat} (hi : i < m.nodes.length) (hj : j < m.nodes.length) (h : m.nodes[i].id = m.nodes[j].id) : i = j := by
  rcases Nat.lt_trichotomy i j with h1 | h1 | h1
  · have := hs i j h1 hj; omega
  · exact h1
  · have := hs j i h1 hi; omega

theorem sorted_one {m : Mdl} (hs : Sorted m) {x y : Nd} (hx : x ∈ m.nodes) (hy : y ∈ m.nodes) (h : x.id = y.id) : x = y := by
  obtain ⟨i, hi, rfl⟩ := List.getElem_of_mem hx
  obtain ⟨j, hj, rfl⟩ := List.getElem_of_mem hy
  have := sorted_inj hs hi hj h
  subst this
  rfl

def kidIn (m : Mdl) (n : Nd) (k : Int) : Prop := ∃ x ∈ m.nodes, x.id = k ∧ x.parent = n.id
instance (m : Mdl) (n : Nd) (k : Int) : Decidable (kidIn m n k) := by unfold kidIn; infer_instance
def kidsB (m : Mdl) (n : Nd) : Bool := decide ((∀ k ∈ n.kids, kidIn m n k) ∧ n.kids.Nodup)

section
variable {N : Nat} (hN : 1048576 < N)
include hN

theorem F25_L1_eq {m : Mdl} (hs : Sorted m) (hl : m.nodes.length ≤ 1048576) {n : Nd} (hk : n.kids.length ≤ 1048576) : ∀ (rest pre : List Int) (fuel : Nat) (met : List Bool), n.kids = pre ++ rest → rest.length < fuel → met.length = m.nodes.length →
    (∀ j (hj : j < m.nodes.length), met[j]? = some (decide (m.nodes[j].id ∈ pre))) → F25_L1 n N m fuel (pre.length : Int) met = some (decide ((∀ k ∈ rest, kidIn m n k) ∧ rest.Nodup ∧ ∀ k ∈ rest, k ∉ pre))
  | [], pre, fuel, met, e, hf, hlen, hmet => by
    obtain ⟨fuel, rfl⟩ := Nat.exists_eq_succ_of_ne_zero (by omega : fuel ≠ 0)
    have : pre.length = n.kids.length := by rw [e]; simp
    rw [F25_L1, decide_eq_false (by omega), cond_false]
    simp [F25_J1]
  | k :: rest, pre, fuel, met, e, hf, hlen, hmet => by
    obtain ⟨fuel, rfl⟩ := Nat.exists_eq_succ_of_ne_zero (by omega : fuel ≠ 0)
    have hlt : pre.length < n.kids.length := by rw [e]; simp
    have hg : n.kids[pre.length] = k := by simp [e]
    rw [F25_L1, decide_eq_true (by omega), cond_true, getO_lt hlt, Option.bind_some, hg, F20_eq hs hl hN, Option.bind_some, wsucc (by omega)]
    rcases at_cases hs k with ⟨h1, h2⟩ | ⟨j, hj, h1, h2⟩
    · have hnot : ¬ kidIn m n k := fun ⟨x, hx, hx1, _⟩ => h2 x hx hx1
      rw [h1]
      have : decide ((-1 : Int) < 0) = true := rfl
      rw [this, Bool.not_true, bindG_false, Bool.true_or, Bool.not_true, bindG_false, Bool.true_or, cond_true]
      simp [hnot]
    · rw [h1]
      have hd : decide ((j : Int) < 0) = false := decide_eq_false (by omega)
      rw [hd, Bool.not_false, bindG_true, getO_lt hj, Option.bind_some, Bool.false_or]
      by_cases hp : m.nodes[j].parent = n.id
      · have e1 : (m.nodes[j].parent == n.id) = true := by simpa using hp
        have hkid : kidIn m n k := ⟨_, List.getElem_mem hj, h2, hp⟩
        have hmj := hmet j hj
        rw [h2] at hmj
        rw [e1, Bool.not_true, Bool.not_false, bindG_true, getO_nat, hmj, Option.bind_some, Bool.false_or]
        by_cases hin : k ∈ pre
        · simp [hin]
        · rw [decide_eq_false hin, cond_false, Option.bind_some]
          have hpl : (pre ++ [k]).length = pre.length + 1 := by simp
          rw [← hpl]
          rw [F25_L1_eq hs hl hk rest (pre ++ [k]) fuel _ (by simp [e]) (by simp at hf; omega) (by simpa using hlen) (fun i hi => by
            simp only [Int.toNat_natCast, List.getElem?_set]
            by_cases hij : j = i
            · subst hij; simp [hlen, hj, h2]
            · have hne : m.nodes[i].id ≠ k := fun h => hij (sorted_inj hs hj hi (by rw [h2, h]))
              rw [if_neg hij, hmet i hi]
              simp [hne])]
          congr 1
          rw [Bool.eq_iff_iff]
          simp only [decide_eq_true_eq, List.mem_cons, forall_eq_or_imp, List.nodup_cons, List.mem_append, List.mem_singleton, not_or]
          constructor
          · rintro ⟨a, b, c⟩
            exact ⟨⟨hkid, a⟩, ⟨fun h => by have := (c k h).2; simp at this, b⟩, hin, fun x hx => (c x hx).1⟩
          · rintro ⟨⟨_, a⟩, ⟨b, c⟩, _, d⟩
            exact ⟨a, c, fun x hx => ⟨d x hx, fun h => b (h ▸ hx), by simp⟩⟩
      · have e1 : (m.nodes[j].parent == n.id) = false := by simpa using hp
        have hnot : ¬ kidIn m n k := fun ⟨x, hx, hx1, hx2⟩ => hp (by
          have := sorted_one hs hx (List.getElem_mem hj) (by rw [hx1, h2])
          rw [← this]; exact hx2)
        rw [e1, Bool.not_false, Bool.not_true, bindG_false, Bool.true_or, cond_true]
        simp [hnot]

theorem F25_eq {m : Mdl} (hm : MdOk m) (hs : Sorted m) {n : Nd} (hn : NdOk n) : F25 N m n = some (ownB m n && kidsB m n) := by
  have hl := hm.len
  unfold F25 ownB
  rw [F33_eq N _ hn.concept hN, Option.bind_some]
  have e3 : decide ((n.kids.length : Int) > (m.nodes.length : Int)) = !decide (n.kids.length ≤ m.nodes.length) := by
    rw [Bool.eq_iff_iff]; simp
  rw [e3, F25_L3_eq hN hn]
  unfold F25_J3
  rw [F25_L2_eq hN hn]
  unfold F25_J2
  rw [chk_true (by rw [Bool.and_eq_true, decide_eq_true_eq, decide_eq_true_eq]; unfold maxLen; omega), Option.bind_some]
  have hk := F25_L1_eq hN hs (by omega) hn.kids n.kids [] N (List.replicate m.nodes.length false) rfl (by have := hn.kids; omega) (by simp) (fun j hj => by simp [hj])
  have hk' : F25_L1 n N m N 0 (List.replicate m.nodes.length false) = some (kidsB m n) := by
    rw [show (0 : Int) = (([] : List Int).length : Int) from rfl, hk]
    congr 1
    unfold kidsB
    simp
  rw [hk']
  cases wordF n.concept <;> cases decide (n.kids.length ≤ m.nodes.length) <;> cases propsBad n.props <;> cases refsBad m.next n.refs <;> simp

end

def nodeAt (m : Mdl) (id : Int) : Option Nd := m.nodes.find? (·.id == id)

theorem nodeAt_some {m : Mdl} (hs : Sorted m) {i : Nat} (hi : i < m.nodes.length) : nodeAt m m.nodes[i].id = some m.nodes[i] := by
  unfold nodeAt
  rw [List.find?_eq_some_iff_getElem]
  refine ⟨by simp, i, hi, rfl, fun j hj => ?_⟩
  have := hs j i hj hi
  simp; omega
theorem nodeAt_none {m : Mdl} {id : Int} (h : ∀ n ∈ m.nodes, n.id ≠ id) : nodeAt m id = none := by
  unfold nodeAt
  rw [List.find?_eq_none]
  intro n hn
  simpa using h n hn
theorem nodeAt_mem {m : Mdl} {id : Int} {x : Nd} (h : nodeAt m id = some x) : x ∈ m.nodes ∧ x.id = id := by
  unfold nodeAt at h
  exact ⟨List.mem_of_find?_eq_some h, by have := List.find?_some h; simpa using this⟩

def belowB (m : Mdl) : Nat → Nd → Bool
  | 0, _ => false
  | f + 1, n => if n.parent = 0 then decide (n.role = []) else match nodeAt m n.parent with
    | none => false
    | some p => (wordF n.role && decide (n.id ∈ p.kids)) && belowB m f p

section
variable {N : Nat} (hN : 1048576 < N)
include hN

theorem F26_L1_eq {m : Mdl} (hm : MdOk m) (hs : Sorted m) : ∀ (f fuel : Nat) (n : Nd), NdOk n → f ≤ 64 → f < fuel → F26_L1 N m fuel (65 - (f : Int)) n = some (belowB m f n)
  | 0, fuel, n, hn, h1, h2 => by
    obtain ⟨fuel, rfl⟩ := Nat.exists_eq_succ_of_ne_zero (by omega : fuel ≠ 0)
    rw [F26_L1, decide_eq_false (by omega), cond_false]; rfl
  | f + 1, fuel, n, hn, h1, h2 => by
    obtain ⟨fuel, rfl⟩ := Nat.exists_eq_succ_of_ne_zero (by omega : fuel ≠ 0)
    rw [F26_L1, decide_eq_true (by omega), cond_true]
    have hw : IntKind.i64.wrap (65 - ((f + 1 : Nat) : Int) + 1) = 65 - (f : Int) := by rw [wrap64_of (by omega) (by omega)]; omega
    rw [hw]
    unfold belowB
    by_cases hp : n.parent = 0
    · have e1 : (n.parent == 0) = true := by simpa using hp
      rw [e1, cond_true, if_pos hp]
      congr 1
      rw [Bool.eq_iff_iff]; simp
    · have e1 : (n.parent == 0) = false := by simpa using hp
      rw [e1, cond_false, if_neg hp, F20_eq hs (by have := hm.len; omega) hN, Option.bind_some]
      rcases at_cases hs n.parent with ⟨h3, h4⟩ | ⟨j, hj, h3, h4⟩
      · rw [h3, nodeAt_none h4]
        rfl
      · have hno : nodeAt m n.parent = some m.nodes[j] := by rw [← h4]; exact nodeAt_some hs hj
        have hd : decide ((j : Int) < 0) = false := decide_eq_false (by omega)
        have hok := hm.node _ (List.getElem_mem hj)
        rw [h3, hno, hd, Bool.not_false, bindG_true, F33_eq N _ hn.role hN, Option.bind_some, Bool.false_or]
        simp only []
        cases hwr : wordF n.role with
        | false => rfl
        | true =>
          rw [Bool.not_true, Bool.not_false, bindG_true, getO_lt hj, Option.bind_some, bindG_true, F34_eq hN _ _ hok.kids, Option.bind_some, Bool.false_or, Bool.true_and]
          cases decide (n.id ∈ m.nodes[j].kids) with
          | false => rfl
          | true => rw [Bool.not_true, cond_false, Bool.true_and, Option.bind_some]; exact F26_L1_eq hm hs f fuel _ hok (by omega) (by omega)

theorem F26_eq {m : Mdl} (hm : MdOk m) (hs : Sorted m) {n : Nd} (hn : NdOk n) : F26 N m n = some (belowB m 64 n) :=
  F26_L1_eq hN hm hs 64 N n hn (Nat.le_refl _) (by omega)

end

def headB (m : Mdl) : Bool := !((decide (m.next < 1) || decide (m.next > 1048577)) || decide ((m.nodes.length : Int) > 4096))
def badId (m : Mdl) (i : Nat) : Bool := if h : i < m.nodes.length then (decide (m.nodes[i].id < 1) || decide (m.nodes[i].id ≥ m.next)) || (if h : 0 < i then decide (m.nodes[i].id ≤ m.nodes[i - 1].id) else false) else false
def idsB (m : Mdl) : Bool := !(List.range m.nodes.length).any (badId m)
def rightB (m : Mdl) : Bool := headB m && (idsB m && m.nodes.all fun n => (ownB m n && kidsB m n) && belowB m 64 n)

theorem ids_ok {m : Mdl} (h : idsB m = true) : Sorted m ∧ ∀ n ∈ m.nodes, 1 ≤ n.id ∧ n.id < m.next := by
  unfold idsB at h
  simp only [Bool.not_eq_true', List.any_eq_false, List.mem_range] at h
  have h' : ∀ i (hi : i < m.nodes.length), 1 ≤ m.nodes[i].id ∧ m.nodes[i].id < m.next ∧ ∀ h : 0 < i, m.nodes[i - 1].id < m.nodes[i].id := fun i hi => by
    have := h i hi
    unfold badId at this
    simp only [hi, dif_pos, Bool.or_eq_true, decide_eq_true_eq, not_or] at this
    obtain ⟨⟨a, b⟩, c⟩ := this
    refine ⟨by omega, by omega, fun h => ?_⟩
    simp only [h, dif_pos, decide_eq_true_eq] at c
    omega
  have up : ∀ (d i : Nat) (hj : i + d + 1 < m.nodes.length), (m.nodes[i]'(by omega)).id < m.nodes[i + d + 1].id := by
    intro d
    induction d with
    | zero => intro i hj; exact (h' (i + 1) hj).2.2 (by omega)
    | succ d ih =>
      intro i hj
      have h1 := ih i (by omega)
      have h2 := (h' (i + (d + 1) + 1) hj).2.2 (by omega)
      have e : i + (d + 1) + 1 - 1 = i + d + 1 := by omega
      simp only [e] at h2
      omega
  refine ⟨fun i j hij hj => ?_, fun n hn => ?_⟩
  · obtain ⟨d, rfl⟩ : ∃ d, j = i + d + 1 := ⟨j - i - 1, by omega⟩
    exact up d i hj
  · obtain ⟨i, hi, rfl⟩ := List.getElem_of_mem hn
    exact ⟨(h' i hi).1, (h' i hi).2.1⟩

section
variable {N : Nat} (hN : 1048576 < N)
include hN

theorem F19_eq {m : Mdl} (hm : MdOk m) : F19 N m = some (rightB m) := by
  have hl := hm.len
  unfold F19 rightB headB
  rw [bif_if]
  cases hh : ((decide (m.next < 1) || decide (m.next > 1048577)) || decide ((m.nodes.length : Int) > 4096)) with
  | true => simp
  | false =>
    rw [if_neg (by simp), Bool.not_false, Bool.true_and]
    have h1 : F19_L2 m N N 0 = if ((List.range m.nodes.length).any (badId m)) = true then some false else F19_J2 m N := by
      refine scan0 (F19_L2 m N) m.nodes.length (badId m) _ _ (fun k i hi => ?_) (fun k => ?_) (by omega)
      · rw [F19_L2, decide_eq_true (by omega), cond_true, getO_lt hi, Option.bind_some, wsucc (by omega)]
        refine (prevG m.nodes i hi (by omega) (decide (m.nodes[i].id < 1) || decide (m.nodes[i].id ≥ m.next)) (fun x => decide (m.nodes[i].id ≤ x.id)) (fun b => bif b then some false else F19_L2 m N k ((i + 1 : Nat) : Int))).trans ?_
        rw [bif_if]; simp only [badId, hi, dif_pos]
      · rw [F19_L2, decide_eq_false (by omega), cond_false]
    rw [h1]
    cases hi : idsB m with
    | false =>
      have : (List.range m.nodes.length).any (badId m) = true := by unfold idsB at hi; simpa using hi
      rw [if_pos this]; rfl
    | true =>
      have hb : ¬ (List.range m.nodes.length).any (badId m) = true := by unfold idsB at hi; simpa using hi
      rw [if_neg hb, Bool.true_and]
      obtain ⟨hs, _⟩ := ids_ok hi
      unfold F19_J2
      have h2 := scan0 (F19_L1 m N) m.nodes.length (fun i => if h : i < m.nodes.length then !((ownB m m.nodes[i] && kidsB m m.nodes[i]) && belowB m 64 m.nodes[i]) else false) (some false) (some true) (fun k i hi => by
        have hok := hm.node _ (List.getElem_mem hi)
        rw [F19_L1, decide_eq_true (by omega), cond_true, getO_lt hi, Option.bind_some, wsucc (by omega), F25_eq hN hm hs hok, Option.bind_some, F26_eq hN hm hs hok]
        simp only [hi, dif_pos]
        cases ownB m m.nodes[i] && kidsB m m.nodes[i] <;> cases belowB m 64 m.nodes[i] <;> rfl)
        (fun k => by rw [F19_L1, decide_eq_false (by omega), cond_false]; rfl) (n := N) (by omega)
      rw [h2, any_not m.nodes (fun n => (ownB m n && kidsB m n) && belowB m 64 n) _ (fun i hi => by simp only [hi, dif_pos])]
      cases m.nodes.all fun n => (ownB m n && kidsB m n) && belowB m 64 n <;> rfl
end
end Go.Proofs.Mm
