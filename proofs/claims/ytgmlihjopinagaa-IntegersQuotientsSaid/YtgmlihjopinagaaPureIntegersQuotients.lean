/-
For every input the law IntegersQuotients answers true: a quotient and what is left, and which ones are accepted, are as the reference says, or the errors. No condition is added to the given statement.
-/
import Derived.Test.YtgmlihjopinagaaPIntegersQuotientsx9
namespace Go.Proofs.Ytgmlihjopinagaa.Pure
open Go.RowKit Go.Proofs.Ytgmlihjopinagaa.PIntegersQuotients Go.Proofs.YtgmlihjopinagaaW.PrintWords Go.Proofs.YtgmlihjopinagaaW.PrintLast
set_option linter.unusedVariables false
set_option linter.unusedSimpArgs false

/-! ### what all of chapter 7 needs: numbers -/
def isI (n : Int) : Bool := decide (-2147483648 ≤ n) && decide (n ≤ 2147483647)
theorem isI_iff {n : Int} : isI n = true ↔ -2147483648 ≤ n ∧ n ≤ 2147483647 := by simp [isI]
theorem isI_not {n : Int} : isI n = false ↔ ¬ (-2147483648 ≤ n ∧ n ≤ 2147483647) := by
  rw [← Bool.not_eq_true, isI_iff]
theorem w64 {x : Int} (h1 : -9223372036854775808 ≤ x) (h2 : x ≤ 9223372036854775807) : wrap64 x = x := by unfold wrap64; omega
theorem num_int (n : Int) : integers_number_integer.f n = some (isI n) := by
  unfold integers_number_integer.f isI
  split
  · rename_i h; simp [h]
  · rename_i h; simp; omega
theorem within_eq (a b c : Int) : formularybase_Within.f a b c = some (decide (b ≤ a) && decide (a ≤ c)) := by
  unfold formularybase_Within.f
  split
  · rename_i h; simp; omega
  · rename_i h
    have : b ≤ a := by omega
    simp only [this, decide_true, Bool.true_and, Option.some.injEq]
    by_cases h2 : a ≤ c
    · simp [h2]
    · simp [h2]; omega
theorem ref_int (n : Int) : formularyref07_IsInteger.f n = some (isI n) := by
  unfold formularyref07_IsInteger.f; rw [within_eq]; rfl
theorem want_eq (c : Int) (b : Bool) (e : Int) : integers_check_want.f c b e = some (if c = 0 then (if b = true then c else e) else c) := by
  unfold integers_check_want.f; split
  · split <;> rfl
  · rfl
theorem err_eq (c : Int) : integers_check_err.f c = some c := rfl
/-- the error of numbers that should be INTEGERs -/
def numE (c : Int) (b : Bool) : Int := if c = 0 then (if b = true then c else 2) else c
theorem ints1 (k : Nat) (c a : Int) : integers_check_integers.f (k + 3) c [a] = some (numE c (isI a)) := by
  unfold integers_check_integers.f
  simp only [List.length_cons, List.length_nil]
  rw [show ((0 + 1 : Nat) : Int) = 1 from rfl]
  simp only [integers_check_integers.l0, List.length_cons, List.length_nil]
  simp [num_int, want_eq, rd, w64, numE]
theorem ints2 (k : Nat) (c a b : Int) : integers_check_integers.f (k + 4) c [a, b] = some (numE (numE c (isI a)) (isI b)) := by
  unfold integers_check_integers.f
  simp only [List.length_cons, List.length_nil]
  simp only [integers_check_integers.l0, List.length_cons, List.length_nil]
  simp only [num_int, want_eq, rd, Option.bind_some]
  simp [w64, numE]
  rfl
theorem numE_two (a b : Bool) : numE (numE 0 a) b = if (a && b) = true then 0 else 2 := by cases a <;> cases b <;> decide
theorem numErr (a : Int) : formularyref07_NumberErr.f a = some (if isI a = true then 0 else 2) := by
  unfold formularyref07_NumberErr.f; rw [ref_int]; simp only [Option.bind_some]; split <;> rfl
theorem twoErr (a b : Int) : formularyref07_TwoErr.f a b = some (if (isI a && isI b) = true then 0 else 2) := by
  unfold formularyref07_TwoErr.f; rw [numErr, numErr]; cases isI a <;> cases isI b <;> rfl
theorem mul_bound {x a : Int} (hx : isI x = true) (ha : isI a = true) : -4611686018427387904 ≤ x * a ∧ x * a ≤ 4611686018427387904 := by
  rw [isI_iff] at hx ha
  have h1 : x.natAbs ≤ 2147483648 := by omega
  have h2 : a.natAbs ≤ 2147483648 := by omega
  have h3 : (x * a).natAbs ≤ 2147483648 * 2147483648 := by rw [Int.natAbs_mul]; exact Nat.mul_le_mul h1 h2
  omega
/-! ### operations -/
theorem natAbs_tdiv_le (a b : Int) : (a.tdiv b).natAbs ≤ a.natAbs := by
  rw [Int.natAbs_tdiv]; exact Nat.div_le_self _ _
theorem tmod_small (a : Int) {b : Int} (hb : b ≠ 0) : (a.tmod b).natAbs < b.natAbs := by
  rw [Int.natAbs_tmod]; exact Nat.mod_lt _ (by omega)
theorem tmod_le (a b : Int) : (a.tmod b).natAbs ≤ a.natAbs := by
  rw [Int.natAbs_tmod]; exact Nat.mod_le _ _
theorem mx_max (a b : Int) : mx a b = max a b := by unfold mx; omega
theorem mn_min (a b : Int) : mn a b = min a b := by unfold mn; omega
/-- the exact result of an operation -/
def exS (op a b : Int) : Int :=
  if op = 0 then a + b else if op = 1 then a - b else if op = 2 then a * b else if op = 3 then a.tdiv b else if op = 4 then a.tmod b
  else if op = 5 then (if b < 0 then -(a.natAbs : Int) else (a.natAbs : Int)) else if op = 6 then max (a - b) 0 else if op = 7 then min a b else max a b
theorem size_num {a : Int} (h : isI a = true) : integers_number_size.f a = some (a.natAbs : Int) := by
  rw [isI_iff] at h
  unfold integers_number_size.f
  rw [w64 (by omega) (by omega), mx_max]
  congr 1; omega
theorem size_base {a : Int} (h : isI a = true) : formularybase_Size.f a = some (a.natAbs : Int) := by
  rw [isI_iff] at h
  unfold formularybase_Size.f
  split
  · rw [w64 (by omega) (by omega)]; congr 1; omega
  · congr 1; omega
theorem exact_eq {op a b : Int} (ha : isI a = true) (hb : isI b = true) (hz : ¬ ((op = 3 ∨ op = 4) ∧ b = 0)) : integers_exact.f op a b = some (exS op a b) := by
  have hm := mul_bound ha hb
  have ha' := isI_iff.1 ha
  have hb' := isI_iff.1 hb
  have hd := natAbs_tdiv_le a b
  unfold integers_exact.f exS
  by_cases h0 : op = 0
  · rw [if_pos h0, if_pos h0, w64 (by omega) (by omega)]
  rw [if_neg h0, if_neg h0]
  by_cases h1 : op = 1
  · rw [if_pos h1, if_pos h1, w64 (by omega) (by omega)]
  rw [if_neg h1, if_neg h1]
  by_cases h2 : op = 2
  · rw [if_pos h2, if_pos h2, w64 (by omega) (by omega)]
  rw [if_neg h2, if_neg h2]
  by_cases h3 : op = 3
  · rw [if_pos h3, if_pos h3, if_neg (fun h => hz ⟨.inl h3, h⟩), w64 (by omega) (by omega)]
  rw [if_neg h3, if_neg h3]
  by_cases h4 : op = 4
  · rw [if_pos h4, if_pos h4, if_neg (fun h => hz ⟨.inr h4, h⟩)]
  rw [if_neg h4, if_neg h4]
  by_cases h5 : op = 5
  · rw [if_pos h5, if_pos h5, size_num ha]
    simp only [Option.bind_some]
    split
    · rw [w64 (by omega) (by omega)]
    · rfl
  rw [if_neg h5, if_neg h5]
  by_cases h6 : op = 6
  · rw [if_pos h6, if_pos h6, w64 (by omega) (by omega), mx_max]
  rw [if_neg h6, if_neg h6, mx_max, mn_min]
  split <;> rfl
/-- the result of an operation, and its error but for an overflow -/
def opS (op a b : Int) : Int × Int :=
  if ¬ (0 ≤ op ∧ op < 9) then (0, 15) else if (isI a && isI b) = false then (0, 2) else if (op = 3 ∨ op = 4) ∧ b = 0 then (0, 11) else (exS op a b, 0)
theorem divides_eq (op : Int) : integers_divides.f op = some (decide (op = 3 ∨ op = 4)) := by
  unfold integers_divides.f
  split
  · rename_i h; simp [h]
  · rename_i h
    by_cases h4 : op = 4
    · simp [h4]
    · simp [h, h4]
theorem kind_eq (op n : Int) : integers_check_kind.f 0 op n = some (if 0 ≤ op ∧ op < n then 0 else 15) := by
  unfold integers_check_kind.f
  simp only [want_eq, if_true, Option.bind_some]
  by_cases h : 0 ≤ op
  · rw [if_pos h]
    by_cases h2 : op < n
    · simp [h, h2]
    · simp [h2]
  · rw [if_neg h]; simp [h]
theorem numE_ne {c : Int} (h : c ≠ 0) (b : Bool) : numE c b = c := by rw [numE, if_neg h]
theorem op_eq (op a b : Int) (k : Nat) : integers_operation.f (k + 5) op a b = some (opS op a b) := by
  unfold integers_operation.f opS
  rw [kind_eq, divides_eq]
  simp only [Option.bind_some]
  rw [ints2 (k + 1)]
  simp only [Option.bind_some]
  by_cases hk : 0 ≤ op ∧ op < 9
  · rw [if_pos hk, if_neg (not_not_intro hk), numE_two]
    cases hb : isI a && isI b with
    | false =>
      rw [if_pos rfl]
      simp only [Bool.false_eq_true, if_false, want_eq]
      split <;> rfl
    | true =>
      rw [Bool.and_eq_true] at hb
      simp only [if_true, Bool.true_eq_false, if_false, want_eq, Option.bind_some]
      by_cases hd : op = 3 ∨ op = 4
      · simp only [hd, decide_true, true_and, if_true, bne_iff_ne, ne_eq]
        by_cases hz : b = 0
        · rw [if_pos hz, if_neg (not_not_intro hz)]; rfl
        · rw [if_neg hz, if_pos hz]
          simp only [integers_operation.j0, if_true]
          rw [exact_eq hb.1 hb.2 (fun h => hz h.2)]; rfl
      · simp only [hd, decide_false, false_and, if_false, Bool.false_eq_true]
        simp only [integers_operation.j0, if_true]
        rw [exact_eq hb.1 hb.2 (fun h => hd h.1)]; rfl
  · rw [if_neg hk, if_pos hk, numE_ne (c := 15) (by decide), numE_ne (c := 15) (by decide)]
    simp only [want_eq]
    split <;> rfl
/-- what Apply returns -/
def applyS (op a b : Int) : Int × Int := if (opS op a b).2 = 0 then (if isI (opS op a b).1 = true then ((opS op a b).1, 0) else (0, 28)) else (0, (opS op a b).2)
theorem apply_eq (op a b : Int) (k : Nat) : integers_Apply.f (k + 5) op a b = some (applyS op a b) := by
  unfold integers_Apply.f applyS integers_told.f
  rw [op_eq]
  simp only [Option.bind_some, num_int]
  split
  · split <;> rfl
  · rfl
theorem wrap32_in (n : Int) : -2147483648 ≤ wrap32 n ∧ wrap32 n ≤ 2147483647 := by unfold wrap32; omega
theorem wrapped_eq (op a b : Int) (k : Nat) : integers_Wrapped.f (k + 5) op a b = some (wrap32 (opS op a b).1, (opS op a b).2) := by
  unfold integers_Wrapped.f integers_number_wrapped.f
  rw [op_eq]
  have := wrap32_in (opS op a b).1
  simp only [Option.bind_some]
  rw [w64 (by omega) (by omega)]
/-! ### the reference's operations -/
theorem quo_eq {a b : Int} (ha : isI a = true) (hb : isI b = true) (hz : b ≠ 0) : formularyref07_Quotient.f a b = some (a.tdiv b) := by
  have hd := natAbs_tdiv_le a b
  have ha' := isI_iff.1 ha
  unfold formularyref07_Quotient.f
  rw [size_base ha, size_base hb]
  simp only [Option.bind_some]
  have hq : Int.tdiv (a.natAbs : Int) (b.natAbs : Int) = ((a.tdiv b).natAbs : Int) := by
    rw [Int.natAbs_tdiv]; rfl
  rw [if_neg (by omega), hq, w64 (x := ((a.tdiv b).natAbs : Int)) (by omega) (by omega)]
  have hs : a.tdiv b = if (decide (a < 0)) != (decide (b < 0)) then -(((a.tdiv b).natAbs : Int)) else ((a.tdiv b).natAbs : Int) := by
    rcases Int.lt_or_le a 0 with h1 | h1 <;> rcases Int.lt_or_le b 0 with h2 | h2
    · have : 0 ≤ a.tdiv b := by
        have h := Int.tdiv_nonneg (a := -a) (b := -b) (by omega) (by omega)
        rwa [Int.neg_tdiv, Int.tdiv_neg, Int.neg_neg] at h
      rw [decide_eq_true h1, decide_eq_true h2]; show _ = ((a.tdiv b).natAbs : Int); omega
    · have : 0 ≤ -(a.tdiv b) := by
        have h := Int.tdiv_nonneg (a := -a) (b := b) (by omega) (by omega)
        rwa [Int.neg_tdiv] at h
      have h2' : ¬ b < 0 := by omega
      rw [decide_eq_true h1, decide_eq_false h2']; show _ = -((a.tdiv b).natAbs : Int); omega
    · have : 0 ≤ -(a.tdiv b) := by
        have h := Int.tdiv_nonneg (a := a) (b := -b) (by omega) (by omega)
        rwa [Int.tdiv_neg] at h
      have h1' : ¬ a < 0 := by omega
      rw [decide_eq_false h1', decide_eq_true h2]; show _ = -((a.tdiv b).natAbs : Int); omega
    · have := Int.tdiv_nonneg h1 h2
      have h1' : ¬ a < 0 := by omega
      have h2' : ¬ b < 0 := by omega
      rw [decide_eq_false h1', decide_eq_false h2']; show _ = ((a.tdiv b).natAbs : Int); omega
  by_cases hc : ((decide (a < 0)) != (decide (b < 0))) = true
  · rw [if_pos hc, w64 (by omega) (by omega)]
    rw [if_pos hc] at hs
    rw [← hs]
  · rw [if_neg hc]
    rw [if_neg hc] at hs
    rw [← hs]
theorem rest_eq {a b : Int} (ha : isI a = true) (hb : isI b = true) (hz : b ≠ 0) : formularyref07_Rest.f a b = some (a.tmod b) := by
  have ha' := isI_iff.1 ha
  have hm := tmod_le a b
  have he : b * a.tdiv b = a - a.tmod b := by have := Int.mul_tdiv_add_tmod a b; omega
  unfold formularyref07_Rest.f
  rw [quo_eq ha hb hz]
  simp only [Option.bind_some]
  rw [he, w64 (x := a - a.tmod b) (by omega) (by omega), w64 (by omega) (by omega)]
  congr 1; omega
theorem exS_bound {op a b : Int} (ha : isI a = true) (hb : isI b = true) : -4611686018427387904 ≤ exS op a b ∧ exS op a b ≤ 4611686018427387904 := by
  have hm := mul_bound ha hb
  have ha' := isI_iff.1 ha
  have hb' := isI_iff.1 hb
  have hd := natAbs_tdiv_le a b
  have hr := tmod_le a b
  unfold exS
  repeat' split
  all_goals omega
theorem applyS_ok {op a b : Int} (ha : isI a = true) (hb : isI b = true) (h : 0 ≤ op ∧ op < 9) (hz : ¬ ((op = 3 ∨ op = 4) ∧ b = 0)) :
    applyS op a b = if isI (exS op a b) = true then (exS op a b, 0) else (0, 28) := by
  have : opS op a b = (exS op a b, 0) := by
    unfold opS
    rw [if_neg (not_not_intro h), ha, hb, if_neg (by decide), if_neg hz]
  unfold applyS
  rw [this, if_pos rfl]
theorem wrapS_ok {op a b : Int} (ha : isI a = true) (hb : isI b = true) (h : 0 ≤ op ∧ op < 9) (hz : ¬ ((op = 3 ∨ op = 4) ∧ b = 0)) (k : Nat) :
    integers_Wrapped.f (k + 5) op a b = some (wrap32 (exS op a b), 0) := by
  have : opS op a b = (exS op a b, 0) := by
    unfold opS
    rw [if_neg (not_not_intro h), ha, hb, if_neg (by decide), if_neg hz]
  rw [wrapped_eq, this]
theorem apply_at {k : Nat} (hk : 5 ≤ k) (op a b : Int) : integers_Apply.f k op a b = some (applyS op a b) := by
  obtain ⟨m, rfl⟩ : ∃ m, k = m + 5 := ⟨k - 5, by omega⟩
  exact apply_eq op a b m
theorem wrapped_at {k : Nat} (hk : 5 ≤ k) {op a b : Int} (ha : isI a = true) (hb : isI b = true) (h : 0 ≤ op ∧ op < 9) (hz : ¬ ((op = 3 ∨ op = 4) ∧ b = 0)) : integers_Wrapped.f k op a b = some (wrap32 (exS op a b), 0) := by
  obtain ⟨m, rfl⟩ : ∃ m, k = m + 5 := ⟨k - 5, by omega⟩
  exact wrapS_ok ha hb h hz m
theorem divided_zero {a : Int} (ha : isI a = true) (k : Nat) : integers_Divided.f (k + 5) a 0 = some (0, 0, 11) := by
  unfold integers_Divided.f
  rw [apply_eq]
  have : applyS 3 a 0 = (0, 11) := by simp [applyS, opS, ha, show isI 0 = true from rfl]
  rw [this]; rfl
theorem divided_ok {a b : Int} (ha : isI a = true) (hb : isI b = true) (hz : b ≠ 0) (k : Nat) :
    integers_Divided.f (k + 5) a b = some (if isI (a.tdiv b) = true then (a.tdiv b, a.tmod b, 0) else (0, 0, 28)) := by
  have ha' := isI_iff.1 ha
  have hm := tmod_le a b
  have he : a.tdiv b * b = a - a.tmod b := by have := Int.mul_tdiv_add_tmod a b; rw [Int.mul_comm b] at this; omega
  unfold integers_Divided.f
  rw [apply_eq, applyS_ok ha hb (by omega) (fun h => hz h.2)]
  have hx : exS 3 a b = a.tdiv b := rfl
  rw [hx]
  simp only [Option.bind_some]
  cases isI (a.tdiv b) with
  | true =>
    rw [if_pos rfl, if_pos rfl, he, w64 (x := a - a.tmod b) (by omega) (by omega), w64 (by omega) (by omega), if_pos rfl]
    rw [Option.some.injEq, Prod.mk.injEq, Prod.mk.injEq]
    exact ⟨rfl, by omega, rfl⟩
  | false => rfl
theorem divided_at {k : Nat} (hk : 5 ≤ k) {a b : Int} (ha : isI a = true) (hb : isI b = true) (hz : b ≠ 0) :
    integers_Divided.f k a b = some (if isI (a.tdiv b) = true then (a.tdiv b, a.tmod b, 0) else (0, 0, 28)) := by
  obtain ⟨m, rfl⟩ : ∃ m, k = m + 5 := ⟨k - 5, by omega⟩
  exact divided_ok ha hb hz m
theorem divided_zero_at {k : Nat} (hk : 5 ≤ k) {a : Int} (ha : isI a = true) : integers_Divided.f k a 0 = some (0, 0, 11) := by
  obtain ⟨m, rfl⟩ : ∃ m, k = m + 5 := ⟨k - 5, by omega⟩
  exact divided_zero ha m
theorem tmod_sign {a b : Int} : (0 ≤ a → 0 ≤ a.tmod b) ∧ (a ≤ 0 → a.tmod b ≤ 0) := by
  constructor
  · intro h; exact Int.tmod_nonneg b h
  · intro h
    have := Int.tmod_nonneg b (show 0 ≤ -a by omega)
    rw [Int.neg_tmod] at this; omega
theorem awake_true : formularylaw07_awake.f 40 = some true := by decide +kernel
theorem awake_any (k : Nat) : formularylaw07_awake.f (k + 40) = some true := at_rounds (g := formularylaw07_awake.f) formularylaw07_awake.mono (by omega) awake_true
/-! ### quotients -/
theorem ints4 (k : Nat) (c a b p q : Int) : integers_check_integers.f (k + 6) c [a, b, p, q] = some (numE (numE (numE (numE c (isI a)) (isI b)) (isI p)) (isI q)) := by
  unfold integers_check_integers.f
  simp only [List.length_cons, List.length_nil]
  simp only [integers_check_integers.l0, List.length_cons, List.length_nil]
  simp only [num_int, want_eq, rd, Option.bind_some]
  simp [w64, numE]
  rfl
theorem numE_four (a b c d : Bool) : numE (numE (numE (numE 0 a) b) c) d = if (a && b && c && d) = true then 0 else 2 := by cases a <;> cases b <;> cases c <;> cases d <;> decide
theorem quo_unique {a b q r : Int} (hz : b ≠ 0) (h1 : q * b + r = a) (h2 : r.natAbs < b.natAbs) (h3 : r = 0 ∨ (r < 0 ↔ a < 0)) : q = a.tdiv b ∧ r = a.tmod b := by
  have hm := tmod_small a hz
  have hs := tmod_sign (a := a) (b := b)
  have he : a.tdiv b * b = a - a.tmod b := by have := Int.mul_tdiv_add_tmod a b; rw [Int.mul_comm b] at this; omega
  have hd : (q - a.tdiv b) * b = a.tmod b - r := by rw [Int.sub_mul]; omega
  have hl : (a.tmod b - r).natAbs < b.natAbs := by
    rcases Int.lt_or_le a 0 with h | h
    · have := hs.2 (by omega); omega
    · have := hs.1 h; omega
  rw [← hd, Int.natAbs_mul] at hl
  have h0 : (q - a.tdiv b).natAbs = 0 := by
    rcases Nat.eq_zero_or_pos (q - a.tdiv b).natAbs with h | h
    · exact h
    · have : 1 * b.natAbs ≤ (q - a.tdiv b).natAbs * b.natAbs := Nat.mul_le_mul_right _ h
      omega
  have hq : q = a.tdiv b := by omega
  refine ⟨hq, ?_⟩
  rw [hq, Int.sub_self, Int.zero_mul] at hd
  omega
theorem quo_holds (a : Int) {b : Int} (hz : b ≠ 0) : a.tdiv b * b + a.tmod b = a ∧ (a.tmod b).natAbs < b.natAbs ∧ (a.tmod b = 0 ∨ (a.tmod b < 0 ↔ a < 0)) := by
  have hm := tmod_small a hz
  have hs := tmod_sign (a := a) (b := b)
  have he := Int.mul_tdiv_add_tmod a b
  rw [Int.mul_comm b] at he
  refine ⟨he, hm, ?_⟩
  rcases Int.lt_or_le a 0 with h | h
  · have := hs.2 (by omega); omega
  · have := hs.1 h; omega
/-- which quotients are accepted -/
def quoS (a b q r : Int) : Int := if (isI a && isI b && isI q && isI r) = false then 2 else if b = 0 then 11 else if q = a.tdiv b ∧ r = a.tmod b then 0 else 19
theorem check_eq (a b q r : Int) (k : Nat) : integers_CheckQuotient.f (k + 6) a b q r = some (quoS a b q r) := by
  unfold integers_CheckQuotient.f quoS
  rw [ints4, numE_four]
  simp only [Option.bind_some]
  cases hI : isI a && isI b && isI q && isI r with
  | false => simp only [Bool.false_eq_true, if_false, if_true, want_eq]; rfl
  | true =>
    simp only [Bool.and_eq_true] at hI
    obtain ⟨⟨⟨ha, hb⟩, hq⟩, hr⟩ := hI
    have ha' := isI_iff.1 ha
    have hb' := isI_iff.1 hb
    have hr' := isI_iff.1 hr
    have hmq := mul_bound hq hb
    simp only [if_true, Bool.true_eq_false, if_false, want_eq, Option.bind_some]
    by_cases hz : b = 0
    · subst hz; rfl
    · have hbz : (b != 0) = true := by simpa using hz
      simp only [hbz, if_true, if_neg hz]
      have key : ∀ s : Bool, s = decide (r = 0 ∨ (r < 0 ↔ a < 0)) → integers_CheckQuotient.j0 (k + 6) a b 0 r s q r = some (if q = a.tdiv b ∧ r = a.tmod b then 0 else 19) := by
        intro s hs
        subst hs
        simp only [integers_CheckQuotient.j0]
        rw [w64 (x := q * b) (by omega) (by omega), w64 (by omega) (by omega), size_num hr, size_num hb]
        simp only [Option.bind_some, want_eq, err_eq, if_true, Bool.false_eq_true, if_false]
        by_cases h1 : q * b + r = a
        · rw [if_pos h1]
          by_cases h2 : r.natAbs < b.natAbs
          · rw [if_pos (by omega)]
            by_cases h3 : r = 0 ∨ (r < 0 ↔ a < 0)
            · rw [if_pos (decide_eq_true h3), if_pos (quo_unique hz h1 h2 h3)]
            · rw [if_neg (by simpa using h3), if_neg]
              rintro ⟨rfl, rfl⟩
              exact h3 (quo_holds a hz).2.2
          · rw [if_neg (by omega), if_neg]
            rintro ⟨rfl, rfl⟩
            exact h2 (quo_holds a hz).2.1
        · rw [if_neg h1, if_neg]
          rintro ⟨rfl, rfl⟩
          exact h1 (quo_holds a hz).1
      by_cases h0 : r = 0
      · rw [if_pos h0]; exact key _ (by simp [h0])
      · rw [if_neg h0]
        exact key _ (by rw [eq_comm]; by_cases h1 : r < 0 <;> by_cases h2 : a < 0 <;> simp [h0, h1, h2])
theorem ref_check_eq (a b q r : Int) : formularyref07_CheckQuotient.f a b q r = some (quoS a b q r) := by
  unfold formularyref07_CheckQuotient.f quoS
  rw [twoErr, twoErr]
  simp only [Option.bind_some]
  cases hab : isI a && isI b with
  | false => simp
  | true =>
    have hab' := hab
    rw [Bool.and_eq_true] at hab'
    cases hq : isI q with
    | false => simp
    | true =>
      cases hr : isI r with
      | false => simp
      | true =>
        simp only [Bool.and_self, if_true, Bool.true_eq_false, if_false]
        by_cases hz : b = 0
        · rw [if_pos hz, if_pos hz]
        · rw [if_neg hz, if_neg hz, quo_eq hab'.1 hab'.2 hz, rest_eq hab'.1 hab'.2 hz]
          simp only [Option.bind_some]
          by_cases h1 : q = a.tdiv b
          · rw [if_pos h1]
            by_cases h2 : r = a.tmod b
            · rw [if_pos h2, if_pos ⟨h1, h2⟩]
            · rw [if_neg h2, if_neg (fun h => h2 h.2)]
          · rw [if_neg h1, if_neg (fun h => h1 h.1)]
/-- a quotient and what is left -/
def divS (a b : Int) : Int × Int × Int := if (isI a && isI b) = false then (0, 0, 2) else if b = 0 then (0, 0, 11) else if isI (a.tdiv b) = true then (a.tdiv b, a.tmod b, 0) else (0, 0, 28)
theorem div_at {k : Nat} (hk : 5 ≤ k) (a b : Int) : integers_Divided.f k a b = some (divS a b) := by
  unfold divS
  cases hab : isI a && isI b with
  | false =>
    obtain ⟨m, rfl⟩ : ∃ m, k = m + 5 := ⟨k - 5, by omega⟩
    unfold integers_Divided.f
    have : applyS 3 a b = (0, 2) := by simp [applyS, opS, hab]
    rw [apply_eq, this]; rfl
  | true =>
    rw [Bool.and_eq_true] at hab
    simp only [Bool.true_eq_false, if_false]
    by_cases hz : b = 0
    · subst hz; rw [if_pos rfl]; exact divided_zero_at hk hab.1
    · rw [if_neg hz]; exact divided_at hk hab.1 hab.2 hz
theorem ref_div_eq (a b : Int) : formularyref07_Divided.f a b = some (divS a b) := by
  unfold formularyref07_Divided.f divS
  rw [twoErr]
  simp only [Option.bind_some]
  cases hab : isI a && isI b with
  | false => rfl
  | true =>
    rw [Bool.and_eq_true] at hab
    simp only [if_true, Bool.true_eq_false, if_false]
    by_cases hz : b = 0
    · rw [if_pos hz, if_pos hz]
    · rw [if_neg hz, if_neg hz, quo_eq hab.1 hab.2 hz, rest_eq hab.1 hab.2 hz]
      simp only [Option.bind_some, ref_int]
      split <;> rfl
theorem IntegersQuotients (a b q r : Int) (wa : (Lit.int .i64 a).wf = true) (wb : (Lit.int .i64 b).wf = true) (wq : (Lit.int .i64 q).wf = true) (wr : (Lit.int .i64 r).wf = true) :
    ∃ k, formularylaw07_IntegersQuotients.f k a b q r = some true := by
  refine ⟨100, ?_⟩
  unfold formularylaw07_IntegersQuotients.f
  rw [awake_any 60, div_at (by decide), ref_div_eq]
  simp only [Option.bind_some, if_true, beq_self_eq_true, Bool.not_true, Bool.or_self, Bool.false_eq_true, if_false]
  have hj : formularylaw07_IntegersQuotients.j0 100 a b false q r = some true := by
    simp only [formularylaw07_IntegersQuotients.j0]
    rw [if_neg (by decide), check_eq a b q r 93, ref_check_eq]
    simp
  by_cases h0 : (divS a b).2.2 = 0
  · rw [if_pos h0, check_eq _ _ _ _ 94]
    have : quoS a b (divS a b).1 (divS a b).2.1 = 0 := by
      unfold divS at h0 ⊢
      cases hab : isI a && isI b with
      | false => rw [hab] at h0; simp at h0
      | true =>
        rw [hab] at h0
        simp only [Bool.true_eq_false, if_false] at h0 ⊢
        by_cases hz : b = 0
        · rw [if_pos hz] at h0; simp at h0
        · rw [if_neg hz] at h0 ⊢
          cases hq : isI (a.tdiv b) with
          | false => rw [hq] at h0; simp at h0
          | true =>
            have hr : isI (a.tmod b) = true := by
              rw [Bool.and_eq_true] at hab
              have ha' := isI_iff.1 hab.1
              have hm := tmod_le a b
              have hs := tmod_sign (a := a) (b := b)
              rw [isI_iff]
              rcases Int.lt_or_le a 0 with h | h
              · have := hs.2 (by omega); omega
              · have := hs.1 h; omega
            simp [quoS, hab, hq, hr, hz]
    rw [this]
    simp only [Option.bind_some, bne_self_eq_false]
    exact hj
  · rw [if_neg h0]; exact hj

end Go.Proofs.Ytgmlihjopinagaa.Pure
