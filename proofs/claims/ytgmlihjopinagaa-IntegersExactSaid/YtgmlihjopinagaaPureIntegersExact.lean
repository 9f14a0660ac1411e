/-
For every input the law IntegersExact answers true: quotients, signs and differences keep their identities wherever nothing overflows, and an overflow is told. No condition is added to the given statement.
-/
import Derived.Test.YtgmlihjopinagaaPIntegersExactx9
namespace Go.Proofs.Ytgmlihjopinagaa.Pure
open Go.RowKit Go.Proofs.Ytgmlihjopinagaa.PIntegersExact Go.Proofs.YtgmlihjopinagaaW.PrintWords Go.Proofs.YtgmlihjopinagaaW.PrintLast
set_option linter.unusedVariables false
set_option linter.unusedSimpArgs false

/-! ### what all of chapter 7 needs: numbers -/
def isI (n : Int) : Bool := decide (-2147483648 ≤ n) && decide (n ≤ 2147483647)
theorem isI_iff {n : Int} : isI n = true ↔ -2147483648 ≤ n ∧ n ≤ 2147483647 := by simp [isI]
theorem isI_not {n : Int} : isI n = false ↔ ¬ (-2147483648 ≤ n ∧ n ≤ 2147483647) := by
  rw [← Bool.not_eq_true, isI_iff]
theorem w64 {x : Int} (h1 : -9223372036854775808 ≤ x) (h2 : x ≤ 9223372036854775807) : wrap64 x = x := by unfold wrap64; omega
theorem num_int (n : Int) : integers_number_integer.f n = some (isI n) := by
  unfold integers_number_integer.f isI
  split
  · rename_i h; simp [h]
  · rename_i h; simp; omega
theorem within_eq (a b c : Int) : formularybase_Within.f a b c = some (decide (b ≤ a) && decide (a ≤ c)) := by
  unfold formularybase_Within.f
  split
  · rename_i h; simp; omega
  · rename_i h
    have : b ≤ a := by omega
    simp only [this, decide_true, Bool.true_and, Option.some.injEq]
    by_cases h2 : a ≤ c
    · simp [h2]
    · simp [h2]; omega
theorem ref_int (n : Int) : formularyref07_IsInteger.f n = some (isI n) := by
  unfold formularyref07_IsInteger.f; rw [within_eq]; rfl
theorem want_eq (c : Int) (b : Bool) (e : Int) : integers_check_want.f c b e = some (if c = 0 then (if b = true then c else e) else c) := by
  unfold integers_check_want.f; split
  · split <;> rfl
  · rfl
theorem err_eq (c : Int) : integers_check_err.f c = some c := rfl
/-- the error of numbers that should be INTEGERs -/
def numE (c : Int) (b : Bool) : Int := if c = 0 then (if b = true then c else 2) else c
theorem ints1 (k : Nat) (c a : Int) : integers_check_integers.f (k + 3) c [a] = some (numE c (isI a)) := by
  unfold integers_check_integers.f
  simp only [List.length_cons, List.length_nil]
  rw [show ((0 + 1 : Nat) : Int) = 1 from rfl]
  simp only [integers_check_integers.l0, List.length_cons, List.length_nil]
  simp [num_int, want_eq, rd, w64, numE]
theorem ints2 (k : Nat) (c a b : Int) : integers_check_integers.f (k + 4) c [a, b] = some (numE (numE c (isI a)) (isI b)) := by
  unfold integers_check_integers.f
  simp only [List.length_cons, List.length_nil]
  simp only [integers_check_integers.l0, List.length_cons, List.length_nil]
  simp only [num_int, want_eq, rd, Option.bind_some]
  simp [w64, numE]
  rfl
theorem numE_two (a b : Bool) : numE (numE 0 a) b = if (a && b) = true then 0 else 2 := by cases a <;> cases b <;> decide
theorem numErr (a : Int) : formularyref07_NumberErr.f a = some (if isI a = true then 0 else 2) := by
  unfold formularyref07_NumberErr.f; rw [ref_int]; simp only [Option.bind_some]; split <;> rfl
theorem twoErr (a b : Int) : formularyref07_TwoErr.f a b = some (if (isI a && isI b) = true then 0 else 2) := by
  unfold formularyref07_TwoErr.f; rw [numErr, numErr]; cases isI a <;> cases isI b <;> rfl
theorem mul_bound {x a : Int} (hx : isI x = true) (ha : isI a = true) : -4611686018427387904 ≤ x * a ∧ x * a ≤ 4611686018427387904 := by
  rw [isI_iff] at hx ha
  have h1 : x.natAbs ≤ 2147483648 := by omega
  have h2 : a.natAbs ≤ 2147483648 := by omega
  have h3 : (x * a).natAbs ≤ 2147483648 * 2147483648 := by rw [Int.natAbs_mul]; exact Nat.mul_le_mul h1 h2
  omega

/-! ### operations -/
theorem natAbs_tdiv_le (a b : Int) : (a.tdiv b).natAbs ≤ a.natAbs := by
  rw [Int.natAbs_tdiv]; exact Nat.div_le_self _ _
theorem tmod_small (a : Int) {b : Int} (hb : b ≠ 0) : (a.tmod b).natAbs < b.natAbs := by
  rw [Int.natAbs_tmod]; exact Nat.mod_lt _ (by omega)
theorem tmod_le (a b : Int) : (a.tmod b).natAbs ≤ a.natAbs := by
  rw [Int.natAbs_tmod]; exact Nat.mod_le _ _
theorem mx_max (a b : Int) : mx a b = max a b := by unfold mx; omega
theorem mn_min (a b : Int) : mn a b = min a b := by unfold mn; omega
/-- the exact result of an operation -/
def exS (op a b : Int) : Int :=
  if op = 0 then a + b else if op = 1 then a - b else if op = 2 then a * b else if op = 3 then a.tdiv b else if op = 4 then a.tmod b
  else if op = 5 then (if b < 0 then -(a.natAbs : Int) else (a.natAbs : Int)) else if op = 6 then max (a - b) 0 else if op = 7 then min a b else max a b
theorem size_num {a : Int} (h : isI a = true) : integers_number_size.f a = some (a.natAbs : Int) := by
  rw [isI_iff] at h
  unfold integers_number_size.f
  rw [w64 (by omega) (by omega), mx_max]
  congr 1; omega
theorem size_base {a : Int} (h : isI a = true) : formularybase_Size.f a = some (a.natAbs : Int) := by
  rw [isI_iff] at h
  unfold formularybase_Size.f
  split
  · rw [w64 (by omega) (by omega)]; congr 1; omega
  · congr 1; omega
theorem exact_eq {op a b : Int} (ha : isI a = true) (hb : isI b = true) (hz : ¬ ((op = 3 ∨ op = 4) ∧ b = 0)) : integers_exact.f op a b = some (exS op a b) := by
  have hm := mul_bound ha hb
  have ha' := isI_iff.1 ha
  have hb' := isI_iff.1 hb
  have hd := natAbs_tdiv_le a b
  unfold integers_exact.f exS
  by_cases h0 : op = 0
  · rw [if_pos h0, if_pos h0, w64 (by omega) (by omega)]
  rw [if_neg h0, if_neg h0]
  by_cases h1 : op = 1
  · rw [if_pos h1, if_pos h1, w64 (by omega) (by omega)]
  rw [if_neg h1, if_neg h1]
  by_cases h2 : op = 2
  · rw [if_pos h2, if_pos h2, w64 (by omega) (by omega)]
  rw [if_neg h2, if_neg h2]
  by_cases h3 : op = 3
  · rw [if_pos h3, if_pos h3, if_neg (fun h => hz ⟨.inl h3, h⟩), w64 (by omega) (by omega)]
  rw [if_neg h3, if_neg h3]
  by_cases h4 : op = 4
  · rw [if_pos h4, if_pos h4, if_neg (fun h => hz ⟨.inr h4, h⟩)]
  rw [if_neg h4, if_neg h4]
  by_cases h5 : op = 5
  · rw [if_pos h5, if_pos h5, size_num ha]
    simp only [Option.bind_some]
    split
    · rw [w64 (by omega) (by omega)]
    · rfl
  rw [if_neg h5, if_neg h5]
  by_cases h6 : op = 6
  · rw [if_pos h6, if_pos h6, w64 (by omega) (by omega), mx_max]
  rw [if_neg h6, if_neg h6, mx_max, mn_min]
  split <;> rfl
/-- the result of an operation, and its error but for an overflow -/
def opS (op a b : Int) : Int × Int :=
  if ¬ (0 ≤ op ∧ op < 9) then (0, 15) else if (isI a && isI b) = false then (0, 2) else if (op = 3 ∨ op = 4) ∧ b = 0 then (0, 11) else (exS op a b, 0)
theorem divides_eq (op : Int) : integers_divides.f op = some (decide (op = 3 ∨ op = 4)) := by
  unfold integers_divides.f
  split
  · rename_i h; simp [h]
  · rename_i h
    by_cases h4 : op = 4
    · simp [h4]
    · simp [h, h4]
theorem kind_eq (op n : Int) : integers_check_kind.f 0 op n = some (if 0 ≤ op ∧ op < n then 0 else 15) := by
  unfold integers_check_kind.f
  simp only [want_eq, if_true, Option.bind_some]
  by_cases h : 0 ≤ op
  · rw [if_pos h]
    by_cases h2 : op < n
    · simp [h, h2]
    · simp [h2]
  · rw [if_neg h]; simp [h]
theorem numE_ne {c : Int} (h : c ≠ 0) (b : Bool) : numE c b = c := by rw [numE, if_neg h]
theorem op_eq (op a b : Int) (k : Nat) : integers_operation.f (k + 5) op a b = some (opS op a b) := by
  unfold integers_operation.f opS
  rw [kind_eq, divides_eq]
  simp only [Option.bind_some]
  rw [ints2 (k + 1)]
  simp only [Option.bind_some]
  by_cases hk : 0 ≤ op ∧ op < 9
  · rw [if_pos hk, if_neg (not_not_intro hk), numE_two]
    cases hb : isI a && isI b with
    | false =>
      rw [if_pos rfl]
      simp only [Bool.false_eq_true, if_false, want_eq]
      split <;> rfl
    | true =>
      rw [Bool.and_eq_true] at hb
      simp only [if_true, Bool.true_eq_false, if_false, want_eq, Option.bind_some]
      by_cases hd : op = 3 ∨ op = 4
      · simp only [hd, decide_true, true_and, if_true, bne_iff_ne, ne_eq]
        by_cases hz : b = 0
        · rw [if_pos hz, if_neg (not_not_intro hz)]; rfl
        · rw [if_neg hz, if_pos hz]
          simp only [integers_operation.j0, if_true]
          rw [exact_eq hb.1 hb.2 (fun h => hz h.2)]; rfl
      · simp only [hd, decide_false, false_and, if_false, Bool.false_eq_true]
        simp only [integers_operation.j0, if_true]
        rw [exact_eq hb.1 hb.2 (fun h => hd h.1)]; rfl
  · rw [if_neg hk, if_pos hk, numE_ne (c := 15) (by decide), numE_ne (c := 15) (by decide)]
    simp only [want_eq]
    split <;> rfl
/-- what Apply returns -/
def applyS (op a b : Int) : Int × Int := if (opS op a b).2 = 0 then (if isI (opS op a b).1 = true then ((opS op a b).1, 0) else (0, 28)) else (0, (opS op a b).2)
theorem apply_eq (op a b : Int) (k : Nat) : integers_Apply.f (k + 5) op a b = some (applyS op a b) := by
  unfold integers_Apply.f applyS integers_told.f
  rw [op_eq]
  simp only [Option.bind_some, num_int]
  split
  · split <;> rfl
  · rfl
theorem wrap32_in (n : Int) : -2147483648 ≤ wrap32 n ∧ wrap32 n ≤ 2147483647 := by unfold wrap32; omega
theorem wrapped_eq (op a b : Int) (k : Nat) : integers_Wrapped.f (k + 5) op a b = some (wrap32 (opS op a b).1, (opS op a b).2) := by
  unfold integers_Wrapped.f integers_number_wrapped.f
  rw [op_eq]
  have := wrap32_in (opS op a b).1
  simp only [Option.bind_some]
  rw [w64 (by omega) (by omega)]

theorem applyS_ok {op a b : Int} (ha : isI a = true) (hb : isI b = true) (h : 0 ≤ op ∧ op < 9) (hz : ¬ ((op = 3 ∨ op = 4) ∧ b = 0)) :
    applyS op a b = if isI (exS op a b) = true then (exS op a b, 0) else (0, 28) := by
  have : opS op a b = (exS op a b, 0) := by
    unfold opS
    rw [if_neg (not_not_intro h), ha, hb, if_neg (by decide), if_neg hz]
  unfold applyS
  rw [this, if_pos rfl]
theorem wrapS_ok {op a b : Int} (ha : isI a = true) (hb : isI b = true) (h : 0 ≤ op ∧ op < 9) (hz : ¬ ((op = 3 ∨ op = 4) ∧ b = 0)) (k : Nat) :
    integers_Wrapped.f (k + 5) op a b = some (wrap32 (exS op a b), 0) := by
  have : opS op a b = (exS op a b, 0) := by
    unfold opS
    rw [if_neg (not_not_intro h), ha, hb, if_neg (by decide), if_neg hz]
  rw [wrapped_eq, this]
theorem apply_at {k : Nat} (hk : 5 ≤ k) (op a b : Int) : integers_Apply.f k op a b = some (applyS op a b) := by
  obtain ⟨m, rfl⟩ : ∃ m, k = m + 5 := ⟨k - 5, by omega⟩
  exact apply_eq op a b m
theorem wrapped_at {k : Nat} (hk : 5 ≤ k) {op a b : Int} (ha : isI a = true) (hb : isI b = true) (h : 0 ≤ op ∧ op < 9) (hz : ¬ ((op = 3 ∨ op = 4) ∧ b = 0)) : integers_Wrapped.f k op a b = some (wrap32 (exS op a b), 0) := by
  obtain ⟨m, rfl⟩ : ∃ m, k = m + 5 := ⟨k - 5, by omega⟩
  exact wrapS_ok ha hb h hz m
theorem divided_zero {a : Int} (ha : isI a = true) (k : Nat) : integers_Divided.f (k + 5) a 0 = some (0, 0, 11) := by
  unfold integers_Divided.f
  rw [apply_eq]
  have : applyS 3 a 0 = (0, 11) := by simp [applyS, opS, ha, show isI 0 = true from rfl]
  rw [this]; rfl
theorem divided_ok {a b : Int} (ha : isI a = true) (hb : isI b = true) (hz : b ≠ 0) (k : Nat) :
    integers_Divided.f (k + 5) a b = some (if isI (a.tdiv b) = true then (a.tdiv b, a.tmod b, 0) else (0, 0, 28)) := by
  have ha' := isI_iff.1 ha
  have hm := tmod_le a b
  have he : a.tdiv b * b = a - a.tmod b := by have := Int.mul_tdiv_add_tmod a b; rw [Int.mul_comm b] at this; omega
  unfold integers_Divided.f
  rw [apply_eq, applyS_ok ha hb (by omega) (fun h => hz h.2)]
  have hx : exS 3 a b = a.tdiv b := rfl
  rw [hx]
  simp only [Option.bind_some]
  cases isI (a.tdiv b) with
  | true =>
    rw [if_pos rfl, if_pos rfl, he, w64 (x := a - a.tmod b) (by omega) (by omega), w64 (by omega) (by omega), if_pos rfl]
    rw [Option.some.injEq, Prod.mk.injEq, Prod.mk.injEq]
    exact ⟨rfl, by omega, rfl⟩
  | false => rfl
theorem divided_at {k : Nat} (hk : 5 ≤ k) {a b : Int} (ha : isI a = true) (hb : isI b = true) (hz : b ≠ 0) :
    integers_Divided.f k a b = some (if isI (a.tdiv b) = true then (a.tdiv b, a.tmod b, 0) else (0, 0, 28)) := by
  obtain ⟨m, rfl⟩ : ∃ m, k = m + 5 := ⟨k - 5, by omega⟩
  exact divided_ok ha hb hz m
theorem divided_zero_at {k : Nat} (hk : 5 ≤ k) {a : Int} (ha : isI a = true) : integers_Divided.f k a 0 = some (0, 0, 11) := by
  obtain ⟨m, rfl⟩ : ∃ m, k = m + 5 := ⟨k - 5, by omega⟩
  exact divided_zero ha m
theorem tmod_sign {a b : Int} : (0 ≤ a → 0 ≤ a.tmod b) ∧ (a ≤ 0 → a.tmod b ≤ 0) := by
  constructor
  · intro h; exact Int.tmod_nonneg b h
  · intro h
    have := Int.tmod_nonneg b (show 0 ≤ -a by omega)
    rw [Int.neg_tmod] at this; omega

theorem awake_true : formularylaw07_awake.f 40 = some true := by decide +kernel
theorem awake_any (k : Nat) : formularylaw07_awake.f (k + 40) = some true := at_rounds (g := formularylaw07_awake.f) formularylaw07_awake.mono (by omega) awake_true

section
variable {a b : Int} (ha : isI a = true) (hb : isI b = true)
include ha hb
theorem ex_j3 (k : Nat) (hk : 50 ≤ k) : formularylaw07_IntegersExact.j3 k a b false = some true := by
  have ha' := isI_iff.1 ha
  have hb' := isI_iff.1 hb
  obtain ⟨m, rfl⟩ : ∃ m, k = m + 1 := ⟨k - 1, by omega⟩
  simp only [formularylaw07_IntegersExact.j3]
  rw [if_neg (by decide), apply_at (by omega) 7 a b, apply_at (by omega) 8 a b, applyS_ok ha hb (by omega) (by omega), applyS_ok ha hb (by omega) (by omega)]
  have h7 : exS 7 a b = min a b := rfl
  have h8 : exS 8 a b = max a b := rfl
  have i7 : isI (min a b) = true := by rw [isI_iff]; omega
  have i8 : isI (max a b) = true := by rw [isI_iff]; omega
  rw [h7, h8, i7, i8]
  simp only [Option.bind_some, if_true]
  rw [if_pos (by omega)]
  by_cases h1 : min a b = a
  · rw [if_pos h1, if_pos (by omega)]
  · rw [if_neg h1, if_pos (by omega)]
    simp; omega
theorem ex_j2 (k : Nat) (hk : 51 ≤ k) : formularylaw07_IntegersExact.j2 k a b false = some true := by
  have ha' := isI_iff.1 ha
  have hb' := isI_iff.1 hb
  obtain ⟨m, rfl⟩ : ∃ m, k = m + 1 := ⟨k - 1, by omega⟩
  have hj3 := ex_j3 ha hb m (by omega)
  simp only [formularylaw07_IntegersExact.j2]
  rw [if_neg (by decide), apply_at (by omega) 6 a b, apply_at (by omega) 6 b a, apply_at (by omega) 1 a b, applyS_ok ha hb (by omega) (by omega), applyS_ok hb ha (by omega) (by omega), applyS_ok ha hb (by omega) (by omega)]
  have h1 : exS 6 a b = max (a - b) 0 := rfl
  have h2 : exS 6 b a = max (b - a) 0 := rfl
  have h3 : exS 1 a b = a - b := rfl
  rw [h1, h2, h3]
  simp only [Option.bind_some]
  cases g1 : isI (max (a - b) 0) with
  | false => simpa using hj3
  | true =>
    cases g2 : isI (max (b - a) 0) with
    | false => simpa using hj3
    | true =>
      cases g3 : isI (a - b) with
      | false => simpa using hj3
      | true =>
        simp only [if_true]
        rw [w64 (by omega) (by omega)]
        have : max (a - b) 0 - max (b - a) 0 = a - b := by omega
        rw [this, bne_self_eq_false]
        exact hj3
theorem ex_j1 (k : Nat) (hk : 52 ≤ k) : formularylaw07_IntegersExact.j1 k a b = some true := by
  have ha' := isI_iff.1 ha
  obtain ⟨m, rfl⟩ : ∃ m, k = m + 1 := ⟨k - 1, by omega⟩
  have hj2 := ex_j2 ha hb m (by omega)
  simp only [formularylaw07_IntegersExact.j1]
  rw [apply_at (by omega) 5 a a, applyS_ok ha ha (by omega) (by omega)]
  have h5 : exS 5 a a = a := by
    show (if a < 0 then -(a.natAbs : Int) else (a.natAbs : Int)) = a
    split <;> omega
  rw [h5, ha]
  simp only [Option.bind_some, if_true, bne_self_eq_false]
  exact hj2
theorem ex_j0 (k : Nat) (hk : 53 ≤ k) : formularylaw07_IntegersExact.j0 k a b false = some true := by
  have ha' := isI_iff.1 ha
  have hb' := isI_iff.1 hb
  obtain ⟨m, rfl⟩ : ∃ m, k = m + 1 := ⟨k - 1, by omega⟩
  have hj1 := ex_j1 ha hb m (by omega)
  simp only [formularylaw07_IntegersExact.j0]
  rw [if_neg (by decide)]
  by_cases hz : b = 0
  · subst hz
    rw [divided_zero_at (by omega) ha]
    simp only [Option.bind_some]
    rw [if_neg (by decide), if_pos trivial]; exact hj1
  · rw [divided_at (by omega) ha hb hz]
    simp only [Option.bind_some]
    cases hq : isI (a.tdiv b) with
    | false =>
      have hov : a = -2147483648 ∧ b = -1 := by
        have hd := natAbs_tdiv_le a b
        rw [isI_not] at hq
        have h1 : (a.tdiv b).natAbs = 2147483648 := by omega
        have h2 : a.natAbs = 2147483648 := by omega
        rw [Int.natAbs_tdiv, h2] at h1
        have h3 : b.natAbs = 1 := by
          rcases Nat.lt_or_ge 1 b.natAbs with h | h
          · have : Nat.div 2147483648 b.natAbs < 2147483648 := Nat.div_lt_self (by decide) h
            omega
          · omega
        have h4 : a = -2147483648 := by omega
        refine ⟨h4, ?_⟩
        rcases Int.natAbs_eq b with h | h
        · exfalso; apply hq; rw [h4, h, h3]; decide
        · omega
      rw [if_neg Bool.false_ne_true, if_neg (show ¬ ((0 : Int), (0 : Int), (28 : Int)).2.2 = 0 by decide), if_neg hz, if_pos hov.1, if_pos hov.2]
      exact hj1
    | true =>
      have hm := tmod_le a b
      have hs := tmod_small a hz
      have hsg := tmod_sign (a := a) (b := b)
      have he : a.tdiv b * b = a - a.tmod b := by have := Int.mul_tdiv_add_tmod a b; rw [Int.mul_comm b] at this; omega
      have hp : isI (a - a.tmod b) = true := by rw [isI_iff]; rcases Int.lt_or_le a 0 with h | h <;> omega
      have hr : isI (a.tmod b) = true := by rw [isI_iff]; rcases Int.lt_or_le a 0 with h | h <;> omega
      simp only [if_true]
      rw [apply_at (by omega) 2 (a.tdiv b) b, applyS_ok hq hb (by omega) (by omega)]
      have hx : exS 2 (a.tdiv b) b = a - a.tmod b := he
      rw [hx, hp, if_pos rfl]
      simp only [Option.bind_some]
      rw [apply_at (by omega) 0 _ _, applyS_ok hp hr (by omega) (by omega)]
      have hy : exS 0 (a - a.tmod b) (a.tmod b) = a := by show a - a.tmod b + a.tmod b = a; omega
      rw [hy, ha, if_pos rfl, size_base hr, size_base hb]
      simp only [Option.bind_some, if_true]
      rw [if_neg (by omega)]
      by_cases h0 : a.tmod b = 0
      · rw [if_pos h0]; exact hj1
      · rw [if_neg h0]
        rcases Int.lt_or_le a 0 with h | h
        · rw [if_pos (by omega), if_pos h]; exact hj1
        · rw [if_neg (by omega), if_neg (by omega)]; exact hj1
end
theorem IntegersExact : formularylaw07_IntegersExact.Pure := by
  intro a b _ _
  refine ⟨100, ?_⟩
  unfold formularylaw07_IntegersExact.f
  rw [awake_any 60, twoErr]
  simp only [Option.bind_some, if_true]
  cases hab : isI a && isI b with
  | false => simp
  | true =>
    rw [Bool.and_eq_true] at hab
    obtain ⟨ha, hb⟩ := hab
    have ha' := isI_iff.1 ha
    have hb' := isI_iff.1 hb
    have hj := ex_j0 ha hb 100 (by omega)
    rw [if_pos rfl, if_pos rfl, apply_at (by omega) 0 a b, wrapped_at (by omega) ha hb (by omega) (by omega), applyS_ok ha hb (by omega) (by omega)]
    have hx : exS 0 a b = a + b := rfl
    rw [hx]
    simp only [Option.bind_some, if_true]
    cases hs : isI (a + b) with
    | true =>
      have hs' := isI_iff.1 hs
      have hw : wrap32 (a + b) = a + b := by unfold wrap32; omega
      rw [hw]
      simp only [if_true]
      by_cases h : b ≥ 0
      · rw [if_pos h, if_pos (by omega)]; exact hj
      · rw [if_neg h, if_neg (by omega)]; exact hj
    | false =>
      have hs' := isI_not.1 hs
      have hw : (b ≥ 0 ∧ wrap32 (a + b) < a) ∨ (b < 0 ∧ a ≤ wrap32 (a + b)) := by unfold wrap32; omega
      simp only [Bool.false_eq_true, if_false]
      rcases hw with ⟨h1, h2⟩ | ⟨h1, h2⟩
      · rw [if_pos h1, if_neg (by omega), if_neg (by decide)]; exact hj
      · rw [if_neg (by omega), if_pos h2, if_neg (by decide)]; exact hj

end Go.Proofs.Ytgmlihjopinagaa.Pure
