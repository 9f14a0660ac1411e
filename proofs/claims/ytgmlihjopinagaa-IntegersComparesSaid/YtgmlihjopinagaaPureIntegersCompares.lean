/-
For every input the law IntegersCompares answers true: the answers to comparisons and logical operations are as the reference says, or the errors. No condition is added to the given statement.
-/
import Derived.Test.YtgmlihjopinagaaPIntegersComparesx9
namespace Go.Proofs.Ytgmlihjopinagaa.Pure
open Go.RowKit Go.Proofs.Ytgmlihjopinagaa.PIntegersCompares Go.Proofs.YtgmlihjopinagaaW.PrintWords Go.Proofs.YtgmlihjopinagaaW.PrintLast
set_option linter.unusedVariables false
set_option linter.unusedSimpArgs false

/-! ### what all of chapter 7 needs: numbers -/
def isI (n : Int) : Bool := decide (-2147483648 ≤ n) && decide (n ≤ 2147483647)
theorem isI_iff {n : Int} : isI n = true ↔ -2147483648 ≤ n ∧ n ≤ 2147483647 := by simp [isI]
theorem isI_not {n : Int} : isI n = false ↔ ¬ (-2147483648 ≤ n ∧ n ≤ 2147483647) := by
  rw [← Bool.not_eq_true, isI_iff]
theorem w64 {x : Int} (h1 : -9223372036854775808 ≤ x) (h2 : x ≤ 9223372036854775807) : wrap64 x = x := by unfold wrap64; omega
theorem num_int (n : Int) : integers_number_integer.f n = some (isI n) := by
  unfold integers_number_integer.f isI
  split
  · rename_i h; simp [h]
  · rename_i h; simp; omega
theorem within_eq (a b c : Int) : formularybase_Within.f a b c = some (decide (b ≤ a) && decide (a ≤ c)) := by
  unfold formularybase_Within.f
  split
  · rename_i h; simp; omega
  · rename_i h
    have : b ≤ a := by omega
    simp only [this, decide_true, Bool.true_and, Option.some.injEq]
    by_cases h2 : a ≤ c
    · simp [h2]
    · simp [h2]; omega
theorem ref_int (n : Int) : formularyref07_IsInteger.f n = some (isI n) := by
  unfold formularyref07_IsInteger.f; rw [within_eq]; rfl
theorem want_eq (c : Int) (b : Bool) (e : Int) : integers_check_want.f c b e = some (if c = 0 then (if b = true then c else e) else c) := by
  unfold integers_check_want.f; split
  · split <;> rfl
  · rfl
theorem err_eq (c : Int) : integers_check_err.f c = some c := rfl
/-- the error of numbers that should be INTEGERs -/
def numE (c : Int) (b : Bool) : Int := if c = 0 then (if b = true then c else 2) else c
theorem ints1 (k : Nat) (c a : Int) : integers_check_integers.f (k + 3) c [a] = some (numE c (isI a)) := by
  unfold integers_check_integers.f
  simp only [List.length_cons, List.length_nil]
  rw [show ((0 + 1 : Nat) : Int) = 1 from rfl]
  simp only [integers_check_integers.l0, List.length_cons, List.length_nil]
  simp [num_int, want_eq, rd, w64, numE]
theorem ints2 (k : Nat) (c a b : Int) : integers_check_integers.f (k + 4) c [a, b] = some (numE (numE c (isI a)) (isI b)) := by
  unfold integers_check_integers.f
  simp only [List.length_cons, List.length_nil]
  simp only [integers_check_integers.l0, List.length_cons, List.length_nil]
  simp only [num_int, want_eq, rd, Option.bind_some]
  simp [w64, numE]
  rfl
theorem numE_two (a b : Bool) : numE (numE 0 a) b = if (a && b) = true then 0 else 2 := by cases a <;> cases b <;> decide
theorem numErr (a : Int) : formularyref07_NumberErr.f a = some (if isI a = true then 0 else 2) := by
  unfold formularyref07_NumberErr.f; rw [ref_int]; simp only [Option.bind_some]; split <;> rfl
theorem twoErr (a b : Int) : formularyref07_TwoErr.f a b = some (if (isI a && isI b) = true then 0 else 2) := by
  unfold formularyref07_TwoErr.f; rw [numErr, numErr]; cases isI a <;> cases isI b <;> rfl
theorem mul_bound {x a : Int} (hx : isI x = true) (ha : isI a = true) : -4611686018427387904 ≤ x * a ∧ x * a ≤ 4611686018427387904 := by
  rw [isI_iff] at hx ha
  have h1 : x.natAbs ≤ 2147483648 := by omega
  have h2 : a.natAbs ≤ 2147483648 := by omega
  have h3 : (x * a).natAbs ≤ 2147483648 * 2147483648 := by rw [Int.natAbs_mul]; exact Nat.mul_le_mul h1 h2
  omega
/-! ### operations -/
theorem natAbs_tdiv_le (a b : Int) : (a.tdiv b).natAbs ≤ a.natAbs := by
  rw [Int.natAbs_tdiv]; exact Nat.div_le_self _ _
theorem tmod_small (a : Int) {b : Int} (hb : b ≠ 0) : (a.tmod b).natAbs < b.natAbs := by
  rw [Int.natAbs_tmod]; exact Nat.mod_lt _ (by omega)
theorem tmod_le (a b : Int) : (a.tmod b).natAbs ≤ a.natAbs := by
  rw [Int.natAbs_tmod]; exact Nat.mod_le _ _
theorem mx_max (a b : Int) : mx a b = max a b := by unfold mx; omega
theorem mn_min (a b : Int) : mn a b = min a b := by unfold mn; omega
/-- the exact result of an operation -/
def exS (op a b : Int) : Int :=
  if op = 0 then a + b else if op = 1 then a - b else if op = 2 then a * b else if op = 3 then a.tdiv b else if op = 4 then a.tmod b
  else if op = 5 then (if b < 0 then -(a.natAbs : Int) else (a.natAbs : Int)) else if op = 6 then max (a - b) 0 else if op = 7 then min a b else max a b
theorem size_num {a : Int} (h : isI a = true) : integers_number_size.f a = some (a.natAbs : Int) := by
  rw [isI_iff] at h
  unfold integers_number_size.f
  rw [w64 (by omega) (by omega), mx_max]
  congr 1; omega
theorem exact_eq {op a b : Int} (ha : isI a = true) (hb : isI b = true) (hz : ¬ ((op = 3 ∨ op = 4) ∧ b = 0)) : integers_exact.f op a b = some (exS op a b) := by
  have hm := mul_bound ha hb
  have ha' := isI_iff.1 ha
  have hb' := isI_iff.1 hb
  have hd := natAbs_tdiv_le a b
  unfold integers_exact.f exS
  by_cases h0 : op = 0
  · rw [if_pos h0, if_pos h0, w64 (by omega) (by omega)]
  rw [if_neg h0, if_neg h0]
  by_cases h1 : op = 1
  · rw [if_pos h1, if_pos h1, w64 (by omega) (by omega)]
  rw [if_neg h1, if_neg h1]
  by_cases h2 : op = 2
  · rw [if_pos h2, if_pos h2, w64 (by omega) (by omega)]
  rw [if_neg h2, if_neg h2]
  by_cases h3 : op = 3
  · rw [if_pos h3, if_pos h3, if_neg (fun h => hz ⟨.inl h3, h⟩), w64 (by omega) (by omega)]
  rw [if_neg h3, if_neg h3]
  by_cases h4 : op = 4
  · rw [if_pos h4, if_pos h4, if_neg (fun h => hz ⟨.inr h4, h⟩)]
  rw [if_neg h4, if_neg h4]
  by_cases h5 : op = 5
  · rw [if_pos h5, if_pos h5, size_num ha]
    simp only [Option.bind_some]
    split
    · rw [w64 (by omega) (by omega)]
    · rfl
  rw [if_neg h5, if_neg h5]
  by_cases h6 : op = 6
  · rw [if_pos h6, if_pos h6, w64 (by omega) (by omega), mx_max]
  rw [if_neg h6, if_neg h6, mx_max, mn_min]
  split <;> rfl
/-- the result of an operation, and its error but for an overflow -/
def opS (op a b : Int) : Int × Int :=
  if ¬ (0 ≤ op ∧ op < 9) then (0, 15) else if (isI a && isI b) = false then (0, 2) else if (op = 3 ∨ op = 4) ∧ b = 0 then (0, 11) else (exS op a b, 0)
theorem divides_eq (op : Int) : integers_divides.f op = some (decide (op = 3 ∨ op = 4)) := by
  unfold integers_divides.f
  split
  · rename_i h; simp [h]
  · rename_i h
    by_cases h4 : op = 4
    · simp [h4]
    · simp [h, h4]
theorem kind_eq (op n : Int) : integers_check_kind.f 0 op n = some (if 0 ≤ op ∧ op < n then 0 else 15) := by
  unfold integers_check_kind.f
  simp only [want_eq, if_true, Option.bind_some]
  by_cases h : 0 ≤ op
  · rw [if_pos h]
    by_cases h2 : op < n
    · simp [h, h2]
    · simp [h2]
  · rw [if_neg h]; simp [h]
theorem numE_ne {c : Int} (h : c ≠ 0) (b : Bool) : numE c b = c := by rw [numE, if_neg h]
theorem op_eq (op a b : Int) (k : Nat) : integers_operation.f (k + 5) op a b = some (opS op a b) := by
  unfold integers_operation.f opS
  rw [kind_eq, divides_eq]
  simp only [Option.bind_some]
  rw [ints2 (k + 1)]
  simp only [Option.bind_some]
  by_cases hk : 0 ≤ op ∧ op < 9
  · rw [if_pos hk, if_neg (not_not_intro hk), numE_two]
    cases hb : isI a && isI b with
    | false =>
      rw [if_pos rfl]
      simp only [Bool.false_eq_true, if_false, want_eq]
      split <;> rfl
    | true =>
      rw [Bool.and_eq_true] at hb
      simp only [if_true, Bool.true_eq_false, if_false, want_eq, Option.bind_some]
      by_cases hd : op = 3 ∨ op = 4
      · simp only [hd, decide_true, true_and, if_true, bne_iff_ne, ne_eq]
        by_cases hz : b = 0
        · rw [if_pos hz, if_neg (not_not_intro hz)]; rfl
        · rw [if_neg hz, if_pos hz]
          simp only [integers_operation.j0, if_true]
          rw [exact_eq hb.1 hb.2 (fun h => hz h.2)]; rfl
      · simp only [hd, decide_false, false_and, if_false, Bool.false_eq_true]
        simp only [integers_operation.j0, if_true]
        rw [exact_eq hb.1 hb.2 (fun h => hd h.1)]; rfl
  · rw [if_neg hk, if_pos hk, numE_ne (c := 15) (by decide), numE_ne (c := 15) (by decide)]
    simp only [want_eq]
    split <;> rfl
/-- what Apply returns -/
def applyS (op a b : Int) : Int × Int := if (opS op a b).2 = 0 then (if isI (opS op a b).1 = true then ((opS op a b).1, 0) else (0, 28)) else (0, (opS op a b).2)
theorem apply_eq (op a b : Int) (k : Nat) : integers_Apply.f (k + 5) op a b = some (applyS op a b) := by
  unfold integers_Apply.f applyS integers_told.f
  rw [op_eq]
  simp only [Option.bind_some, num_int]
  split
  · split <;> rfl
  · rfl
theorem wrap32_in (n : Int) : -2147483648 ≤ wrap32 n ∧ wrap32 n ≤ 2147483647 := by unfold wrap32; omega
theorem wrapped_eq (op a b : Int) (k : Nat) : integers_Wrapped.f (k + 5) op a b = some (wrap32 (opS op a b).1, (opS op a b).2) := by
  unfold integers_Wrapped.f integers_number_wrapped.f
  rw [op_eq]
  have := wrap32_in (opS op a b).1
  simp only [Option.bind_some]
  rw [w64 (by omega) (by omega)]
/-! ### the reference's operations -/
theorem operr (op n : Int) (h1 : 0 ≤ n) (h2 : n ≤ 100) : formularyref07_OpErr.f op n = some (if 0 ≤ op ∧ op < n then 0 else 15) := by
  unfold formularyref07_OpErr.f
  rw [w64 (by omega) (by omega), within_eq]
  simp only [Option.bind_some]
  by_cases h : 0 ≤ op ∧ op < n
  · rw [if_pos h, if_pos (by simp; omega)]
  · rw [if_neg h, if_neg (by simp; omega)]
theorem exS_bound {op a b : Int} (ha : isI a = true) (hb : isI b = true) : -4611686018427387904 ≤ exS op a b ∧ exS op a b ≤ 4611686018427387904 := by
  have hm := mul_bound ha hb
  have ha' := isI_iff.1 ha
  have hb' := isI_iff.1 hb
  have hd := natAbs_tdiv_le a b
  have hr := tmod_le a b
  unfold exS
  repeat' split
  all_goals omega
theorem awake_true : formularylaw07_awake.f 40 = some true := by decide +kernel
theorem awake_any (k : Nat) : formularylaw07_awake.f (k + 40) = some true := at_rounds (g := formularylaw07_awake.f) formularylaw07_awake.mono (by omega) awake_true
/-! ### comparisons, and logical operations -/
theorem cmp_eq (a b : Int) : cmp_Compare_int.f a b = some (if a < b then -1 else if a > b then 1 else 0) := by
  unfold cmp_Compare_int.f cmp_isNaN_int.f
  simp only [bne_self_eq_false, Option.bind_some, Bool.false_eq_true, if_false]
  split
  · rfl
  · split <;> rfl
/-- the answer to a comparison -/
def cmpS (op a b : Int) : Bool × Int :=
  if ¬ (0 ≤ op ∧ op < 6) then (false, 15) else if (isI a && isI b) = false then (false, 2)
  else (integers_Compare.tbl op (if a < b then -1 else if a > b then 1 else 0), 0)
theorem compare_eq (op a b : Int) (k : Nat) : integers_Compare.f (k + 5) op a b = some (cmpS op a b) := by
  unfold integers_Compare.f cmpS
  rw [kind_eq]
  simp only [Option.bind_some]
  rw [ints2 (k + 1)]
  simp only [Option.bind_some]
  by_cases hk : 0 ≤ op ∧ op < 6
  · rw [if_pos hk, if_neg (not_not_intro hk), numE_two]
    cases hb : isI a && isI b with
    | false => rfl
    | true =>
      simp only [if_true, Bool.true_eq_false, if_false]
      rw [if_pos hk, cmp_eq]
      simp only [Option.bind_some]
      have ho : -1 ≤ (if a < b then -1 else if a > b then 1 else 0 : Int) ∧ (if a < b then -1 else if a > b then 1 else 0 : Int) ≤ 1 := by
        by_cases h1 : a < b
        · rw [if_pos h1]; decide
        · rw [if_neg h1]
          by_cases h2 : a > b
          · rw [if_pos h2]; decide
          · rw [if_neg h2]; decide
      rw [if_pos ho]
  · rw [if_neg hk, if_pos hk, numE_ne (c := 15) (by decide), numE_ne (c := 15) (by decide)]; rfl
theorem ref_compare_eq (op a b : Int) : formularyref07_Compare.f op a b = some (cmpS op a b) := by
  unfold formularyref07_Compare.f cmpS
  rw [operr op 6 (by decide) (by decide), twoErr]
  simp only [Option.bind_some]
  by_cases hk : 0 ≤ op ∧ op < 6
  · rw [if_pos hk, if_neg (not_not_intro hk)]
    cases hb : isI a && isI b with
    | false => rfl
    | true =>
      have key : ∀ o : Int, (o = -1 ∨ o = 0 ∨ o = 1) → formularyref07_Compared.f op o = some (integers_Compare.tbl op o) := by
        intro o ho
        have h0 : op = 0 ∨ op = 1 ∨ op = 2 ∨ op = 3 ∨ op = 4 ∨ op = 5 := by omega
        rcases h0 with rfl | rfl | rfl | rfl | rfl | rfl <;> rcases ho with rfl | rfl | rfl <;> decide
      simp only [if_true, Bool.true_eq_false, if_false]
      unfold formularybase_Bit.f
      rcases Int.lt_trichotomy a b with h | h | h
      · have h2 : ¬ a > b := by omega
        rw [decide_eq_false h2, decide_eq_true h, if_pos h]
        simp only [Bool.false_eq_true, if_false, if_true, Option.bind_some]
        rw [show wrap64 (0 - 1) = -1 by decide +kernel, key _ (.inl rfl)]; rfl
      · have h1 : ¬ a < b := by omega
        have h2 : ¬ a > b := by omega
        rw [decide_eq_false h2, decide_eq_false h1, if_neg h1, if_neg h2]
        simp only [Bool.false_eq_true, if_false, Option.bind_some]
        rw [show wrap64 (0 - 0) = 0 by decide +kernel, key _ (.inr (.inl rfl))]; rfl
      · have h1 : ¬ a < b := by omega
        have h2 : a > b := h
        rw [decide_eq_true h2, decide_eq_false h1, if_neg h1, if_pos h2]
        simp only [Bool.false_eq_true, if_false, if_true, Option.bind_some]
        rw [show wrap64 (1 - 0) = 1 by decide +kernel, key _ (.inr (.inr rfl))]; rfl
  · rw [if_neg hk, if_pos hk]; rfl
theorem logic_same (op : Int) (p q : Bool) : integers_Logic.f op p q = formularyref07_Logic.f op p q ∧ ∃ r, integers_Logic.f op p q = some r := by
  unfold integers_Logic.f formularyref07_Logic.f
  rw [operr op 5 (by decide) (by decide)]
  simp only [Option.bind_some]
  by_cases hk : 0 ≤ op ∧ op < 5
  · rw [if_pos hk, if_pos rfl]
    have h0 : op = 0 ∨ op = 1 ∨ op = 2 ∨ op = 3 ∨ op = 4 := by omega
    rcases h0 with rfl | rfl | rfl | rfl | rfl <;> cases p <;> cases q <;> exact ⟨by decide, _, rfl⟩
  · rw [if_neg hk, if_neg (by omega), if_neg (by omega), if_neg (by omega), if_neg (by omega), if_neg (by omega), if_neg (by decide)]
    exact ⟨rfl, _, rfl⟩
theorem logic_round (op : Int) (i : Int) (h : 0 ≤ i ∧ i < 4) (k : Nat) : formularylaw07_IntegersCompares.l0 (k + 1) op i = formularylaw07_IntegersCompares.l0 k op (i + 1) := by
  conv => lhs; unfold formularylaw07_IntegersCompares.l0
  rw [if_pos h.2]
  obtain ⟨h1, r, h2⟩ := logic_same op ((wrap64 (Int.tdiv i 2)) == 1) ((Int.tmod i 2) == 1)
  rw [← h1, h2]
  simp only [Option.bind_some, if_true, bne_self_eq_false, Bool.false_eq_true, if_false]
  rw [w64 (by omega) (by omega)]
theorem IntegersCompares : formularylaw07_IntegersCompares.Pure := by
  intro op a b _ _ _
  refine ⟨100, ?_⟩
  unfold formularylaw07_IntegersCompares.f
  rw [awake_any 60, compare_eq op a b 95, ref_compare_eq]
  simp only [Option.bind_some, if_true, bne_self_eq_false, formularylaw07_IntegersCompares.j0]
  rw [if_neg (by decide), logic_round op 0 (by decide) 98, logic_round op (0 + 1) (by decide) 97, logic_round op (0 + 1 + 1) (by decide) 96, logic_round op (0 + 1 + 1 + 1) (by decide) 95]
  unfold formularylaw07_IntegersCompares.l0
  rw [if_neg (by decide)]

end Go.Proofs.Ytgmlihjopinagaa.Pure
