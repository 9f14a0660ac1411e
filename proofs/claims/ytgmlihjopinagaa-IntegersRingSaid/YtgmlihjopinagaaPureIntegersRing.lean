/-
For every input the law IntegersRing answers true: wrapped sums and products make a ring, a shift by one is a doubling, rotations come back, exclusive or undoes itself, and two numbers are the parts of their sum. No condition is added to the given statement.
-/
import Derived.Test.YtgmlihjopinagaaPIntegersRingx9
import Derived.Laws.BitsAllLaws
namespace Go.Proofs.Ytgmlihjopinagaa.Pure
open Go.RowKit Go.Proofs.Ytgmlihjopinagaa.PIntegersRing Go.Proofs.YtgmlihjopinagaaW.PrintWords Go.Proofs.YtgmlihjopinagaaW.PrintLast
set_option linter.unusedVariables false
set_option linter.unusedSimpArgs false

/-! ### what all of chapter 7 needs: numbers -/
def isI (n : Int) : Bool := decide (-2147483648 ≤ n) && decide (n ≤ 2147483647)
theorem isI_iff {n : Int} : isI n = true ↔ -2147483648 ≤ n ∧ n ≤ 2147483647 := by simp [isI]
theorem isI_not {n : Int} : isI n = false ↔ ¬ (-2147483648 ≤ n ∧ n ≤ 2147483647) := by
  rw [← Bool.not_eq_true, isI_iff]
theorem w64 {x : Int} (h1 : -9223372036854775808 ≤ x) (h2 : x ≤ 9223372036854775807) : wrap64 x = x := by unfold wrap64; omega
theorem num_int (n : Int) : integers_number_integer.f n = some (isI n) := by
  unfold integers_number_integer.f isI
  split
  · rename_i h; simp [h]
  · rename_i h; simp; omega
theorem within_eq (a b c : Int) : formularybase_Within.f a b c = some (decide (b ≤ a) && decide (a ≤ c)) := by
  unfold formularybase_Within.f
  split
  · rename_i h; simp; omega
  · rename_i h
    have : b ≤ a := by omega
    simp only [this, decide_true, Bool.true_and, Option.some.injEq]
    by_cases h2 : a ≤ c
    · simp [h2]
    · simp [h2]; omega
theorem ref_int (n : Int) : formularyref07_IsInteger.f n = some (isI n) := by
  unfold formularyref07_IsInteger.f; rw [within_eq]; rfl
theorem want_eq (c : Int) (b : Bool) (e : Int) : integers_check_want.f c b e = some (if c = 0 then (if b = true then c else e) else c) := by
  unfold integers_check_want.f; split
  · split <;> rfl
  · rfl
theorem err_eq (c : Int) : integers_check_err.f c = some c := rfl
/-- the error of numbers that should be INTEGERs -/
def numE (c : Int) (b : Bool) : Int := if c = 0 then (if b = true then c else 2) else c
theorem ints1 (k : Nat) (c a : Int) : integers_check_integers.f (k + 3) c [a] = some (numE c (isI a)) := by
  unfold integers_check_integers.f
  simp only [List.length_cons, List.length_nil]
  rw [show ((0 + 1 : Nat) : Int) = 1 from rfl]
  simp only [integers_check_integers.l0, List.length_cons, List.length_nil]
  simp [num_int, want_eq, rd, w64, numE]
theorem ints2 (k : Nat) (c a b : Int) : integers_check_integers.f (k + 4) c [a, b] = some (numE (numE c (isI a)) (isI b)) := by
  unfold integers_check_integers.f
  simp only [List.length_cons, List.length_nil]
  simp only [integers_check_integers.l0, List.length_cons, List.length_nil]
  simp only [num_int, want_eq, rd, Option.bind_some]
  simp [w64, numE]
  rfl
theorem numE_two (a b : Bool) : numE (numE 0 a) b = if (a && b) = true then 0 else 2 := by cases a <;> cases b <;> decide
theorem numErr (a : Int) : formularyref07_NumberErr.f a = some (if isI a = true then 0 else 2) := by
  unfold formularyref07_NumberErr.f; rw [ref_int]; simp only [Option.bind_some]; split <;> rfl
theorem twoErr (a b : Int) : formularyref07_TwoErr.f a b = some (if (isI a && isI b) = true then 0 else 2) := by
  unfold formularyref07_TwoErr.f; rw [numErr, numErr]; cases isI a <;> cases isI b <;> rfl
theorem mul_bound {x a : Int} (hx : isI x = true) (ha : isI a = true) : -4611686018427387904 ≤ x * a ∧ x * a ≤ 4611686018427387904 := by
  rw [isI_iff] at hx ha
  have h1 : x.natAbs ≤ 2147483648 := by omega
  have h2 : a.natAbs ≤ 2147483648 := by omega
  have h3 : (x * a).natAbs ≤ 2147483648 * 2147483648 := by rw [Int.natAbs_mul]; exact Nat.mul_le_mul h1 h2
  omega
/-! ### operations -/
theorem natAbs_tdiv_le (a b : Int) : (a.tdiv b).natAbs ≤ a.natAbs := by
  rw [Int.natAbs_tdiv]; exact Nat.div_le_self _ _
theorem tmod_small (a : Int) {b : Int} (hb : b ≠ 0) : (a.tmod b).natAbs < b.natAbs := by
  rw [Int.natAbs_tmod]; exact Nat.mod_lt _ (by omega)
theorem tmod_le (a b : Int) : (a.tmod b).natAbs ≤ a.natAbs := by
  rw [Int.natAbs_tmod]; exact Nat.mod_le _ _
theorem mx_max (a b : Int) : mx a b = max a b := by unfold mx; omega
theorem mn_min (a b : Int) : mn a b = min a b := by unfold mn; omega
/-- the exact result of an operation -/
def exS (op a b : Int) : Int :=
  if op = 0 then a + b else if op = 1 then a - b else if op = 2 then a * b else if op = 3 then a.tdiv b else if op = 4 then a.tmod b
  else if op = 5 then (if b < 0 then -(a.natAbs : Int) else (a.natAbs : Int)) else if op = 6 then max (a - b) 0 else if op = 7 then min a b else max a b
theorem size_num {a : Int} (h : isI a = true) : integers_number_size.f a = some (a.natAbs : Int) := by
  rw [isI_iff] at h
  unfold integers_number_size.f
  rw [w64 (by omega) (by omega), mx_max]
  congr 1; omega
theorem exact_eq {op a b : Int} (ha : isI a = true) (hb : isI b = true) (hz : ¬ ((op = 3 ∨ op = 4) ∧ b = 0)) : integers_exact.f op a b = some (exS op a b) := by
  have hm := mul_bound ha hb
  have ha' := isI_iff.1 ha
  have hb' := isI_iff.1 hb
  have hd := natAbs_tdiv_le a b
  unfold integers_exact.f exS
  by_cases h0 : op = 0
  · rw [if_pos h0, if_pos h0, w64 (by omega) (by omega)]
  rw [if_neg h0, if_neg h0]
  by_cases h1 : op = 1
  · rw [if_pos h1, if_pos h1, w64 (by omega) (by omega)]
  rw [if_neg h1, if_neg h1]
  by_cases h2 : op = 2
  · rw [if_pos h2, if_pos h2, w64 (by omega) (by omega)]
  rw [if_neg h2, if_neg h2]
  by_cases h3 : op = 3
  · rw [if_pos h3, if_pos h3, if_neg (fun h => hz ⟨.inl h3, h⟩), w64 (by omega) (by omega)]
  rw [if_neg h3, if_neg h3]
  by_cases h4 : op = 4
  · rw [if_pos h4, if_pos h4, if_neg (fun h => hz ⟨.inr h4, h⟩)]
  rw [if_neg h4, if_neg h4]
  by_cases h5 : op = 5
  · rw [if_pos h5, if_pos h5, size_num ha]
    simp only [Option.bind_some]
    split
    · rw [w64 (by omega) (by omega)]
    · rfl
  rw [if_neg h5, if_neg h5]
  by_cases h6 : op = 6
  · rw [if_pos h6, if_pos h6, w64 (by omega) (by omega), mx_max]
  rw [if_neg h6, if_neg h6, mx_max, mn_min]
  split <;> rfl
/-- the result of an operation, and its error but for an overflow -/
def opS (op a b : Int) : Int × Int :=
  if ¬ (0 ≤ op ∧ op < 9) then (0, 15) else if (isI a && isI b) = false then (0, 2) else if (op = 3 ∨ op = 4) ∧ b = 0 then (0, 11) else (exS op a b, 0)
theorem divides_eq (op : Int) : integers_divides.f op = some (decide (op = 3 ∨ op = 4)) := by
  unfold integers_divides.f
  split
  · rename_i h; simp [h]
  · rename_i h
    by_cases h4 : op = 4
    · simp [h4]
    · simp [h, h4]
theorem kind_eq (op n : Int) : integers_check_kind.f 0 op n = some (if 0 ≤ op ∧ op < n then 0 else 15) := by
  unfold integers_check_kind.f
  simp only [want_eq, if_true, Option.bind_some]
  by_cases h : 0 ≤ op
  · rw [if_pos h]
    by_cases h2 : op < n
    · simp [h, h2]
    · simp [h2]
  · rw [if_neg h]; simp [h]
theorem numE_ne {c : Int} (h : c ≠ 0) (b : Bool) : numE c b = c := by rw [numE, if_neg h]
theorem op_eq (op a b : Int) (k : Nat) : integers_operation.f (k + 5) op a b = some (opS op a b) := by
  unfold integers_operation.f opS
  rw [kind_eq, divides_eq]
  simp only [Option.bind_some]
  rw [ints2 (k + 1)]
  simp only [Option.bind_some]
  by_cases hk : 0 ≤ op ∧ op < 9
  · rw [if_pos hk, if_neg (not_not_intro hk), numE_two]
    cases hb : isI a && isI b with
    | false =>
      rw [if_pos rfl]
      simp only [Bool.false_eq_true, if_false, want_eq]
      split <;> rfl
    | true =>
      rw [Bool.and_eq_true] at hb
      simp only [if_true, Bool.true_eq_false, if_false, want_eq, Option.bind_some]
      by_cases hd : op = 3 ∨ op = 4
      · simp only [hd, decide_true, true_and, if_true, bne_iff_ne, ne_eq]
        by_cases hz : b = 0
        · rw [if_pos hz, if_neg (not_not_intro hz)]; rfl
        · rw [if_neg hz, if_pos hz]
          simp only [integers_operation.j0, if_true]
          rw [exact_eq hb.1 hb.2 (fun h => hz h.2)]; rfl
      · simp only [hd, decide_false, false_and, if_false, Bool.false_eq_true]
        simp only [integers_operation.j0, if_true]
        rw [exact_eq hb.1 hb.2 (fun h => hd h.1)]; rfl
  · rw [if_neg hk, if_pos hk, numE_ne (c := 15) (by decide), numE_ne (c := 15) (by decide)]
    simp only [want_eq]
    split <;> rfl
/-- what Apply returns -/
def applyS (op a b : Int) : Int × Int := if (opS op a b).2 = 0 then (if isI (opS op a b).1 = true then ((opS op a b).1, 0) else (0, 28)) else (0, (opS op a b).2)
theorem apply_eq (op a b : Int) (k : Nat) : integers_Apply.f (k + 5) op a b = some (applyS op a b) := by
  unfold integers_Apply.f applyS integers_told.f
  rw [op_eq]
  simp only [Option.bind_some, num_int]
  split
  · split <;> rfl
  · rfl
theorem wrap32_in (n : Int) : -2147483648 ≤ wrap32 n ∧ wrap32 n ≤ 2147483647 := by unfold wrap32; omega
theorem wrapped_eq (op a b : Int) (k : Nat) : integers_Wrapped.f (k + 5) op a b = some (wrap32 (opS op a b).1, (opS op a b).2) := by
  unfold integers_Wrapped.f integers_number_wrapped.f
  rw [op_eq]
  have := wrap32_in (opS op a b).1
  simp only [Option.bind_some]
  rw [w64 (by omega) (by omega)]
/-! ### the reference's operations -/
theorem mod_eq (n m : Int) (h1 : 0 < m) (h2 : m ≤ 4611686018427387904) : formularybase_Mod.f n m = some (n % m) := by
  have hs := tmod_small n (b := m) (by omega)
  have he := Int.emod_nonneg n (b := m) (by omega)
  have ht := Int.tmod_eq_emod (a := n) (b := m)
  unfold formularybase_Mod.f formularybase_Bit.f
  rw [if_neg (by omega)]
  by_cases h : n.tmod m < 0
  · have hneg : ¬ (0 ≤ n ∨ m ∣ n) := by
      intro hc; rw [if_pos hc] at ht; omega
    rw [if_neg hneg] at ht
    simp only [h, decide_true, if_true, Option.bind_some]
    rw [Int.mul_one, w64 (x := m) (by omega) (by omega), w64 (by omega) (by omega)]
    congr 1; omega
  · simp only [h, decide_false, Bool.false_eq_true, if_false, Option.bind_some]
    rw [Int.mul_zero, w64 (x := 0) (by omega) (by omega), w64 (by omega) (by omega)]
    congr 1
    by_cases hc : 0 ≤ n ∨ m ∣ n
    · rw [if_pos hc] at ht; omega
    · rw [if_neg hc] at ht
      have := Int.emod_lt_of_pos n h1
      omega
theorem exS_bound {op a b : Int} (ha : isI a = true) (hb : isI b = true) : -4611686018427387904 ≤ exS op a b ∧ exS op a b ≤ 4611686018427387904 := by
  have hm := mul_bound ha hb
  have ha' := isI_iff.1 ha
  have hb' := isI_iff.1 hb
  have hd := natAbs_tdiv_le a b
  have hr := tmod_le a b
  unfold exS
  repeat' split
  all_goals omega
theorem applyS_ok {op a b : Int} (ha : isI a = true) (hb : isI b = true) (h : 0 ≤ op ∧ op < 9) (hz : ¬ ((op = 3 ∨ op = 4) ∧ b = 0)) :
    applyS op a b = if isI (exS op a b) = true then (exS op a b, 0) else (0, 28) := by
  have : opS op a b = (exS op a b, 0) := by
    unfold opS
    rw [if_neg (not_not_intro h), ha, hb, if_neg (by decide), if_neg hz]
  unfold applyS
  rw [this, if_pos rfl]
theorem wrapS_ok {op a b : Int} (ha : isI a = true) (hb : isI b = true) (h : 0 ≤ op ∧ op < 9) (hz : ¬ ((op = 3 ∨ op = 4) ∧ b = 0)) (k : Nat) :
    integers_Wrapped.f (k + 5) op a b = some (wrap32 (exS op a b), 0) := by
  have : opS op a b = (exS op a b, 0) := by
    unfold opS
    rw [if_neg (not_not_intro h), ha, hb, if_neg (by decide), if_neg hz]
  rw [wrapped_eq, this]
theorem apply_at {k : Nat} (hk : 5 ≤ k) (op a b : Int) : integers_Apply.f k op a b = some (applyS op a b) := by
  obtain ⟨m, rfl⟩ : ∃ m, k = m + 5 := ⟨k - 5, by omega⟩
  exact apply_eq op a b m
theorem wrapped_at {k : Nat} (hk : 5 ≤ k) {op a b : Int} (ha : isI a = true) (hb : isI b = true) (h : 0 ≤ op ∧ op < 9) (hz : ¬ ((op = 3 ∨ op = 4) ∧ b = 0)) : integers_Wrapped.f k op a b = some (wrap32 (exS op a b), 0) := by
  obtain ⟨m, rfl⟩ : ∃ m, k = m + 5 := ⟨k - 5, by omega⟩
  exact wrapS_ok ha hb h hz m
theorem divided_zero {a : Int} (ha : isI a = true) (k : Nat) : integers_Divided.f (k + 5) a 0 = some (0, 0, 11) := by
  unfold integers_Divided.f
  rw [apply_eq]
  have : applyS 3 a 0 = (0, 11) := by simp [applyS, opS, ha, show isI 0 = true from rfl]
  rw [this]; rfl
theorem divided_ok {a b : Int} (ha : isI a = true) (hb : isI b = true) (hz : b ≠ 0) (k : Nat) :
    integers_Divided.f (k + 5) a b = some (if isI (a.tdiv b) = true then (a.tdiv b, a.tmod b, 0) else (0, 0, 28)) := by
  have ha' := isI_iff.1 ha
  have hm := tmod_le a b
  have he : a.tdiv b * b = a - a.tmod b := by have := Int.mul_tdiv_add_tmod a b; rw [Int.mul_comm b] at this; omega
  unfold integers_Divided.f
  rw [apply_eq, applyS_ok ha hb (by omega) (fun h => hz h.2)]
  have hx : exS 3 a b = a.tdiv b := rfl
  rw [hx]
  simp only [Option.bind_some]
  cases isI (a.tdiv b) with
  | true =>
    rw [if_pos rfl, if_pos rfl, he, w64 (x := a - a.tmod b) (by omega) (by omega), w64 (by omega) (by omega), if_pos rfl]
    rw [Option.some.injEq, Prod.mk.injEq, Prod.mk.injEq]
    exact ⟨rfl, by omega, rfl⟩
  | false => rfl
theorem divided_at {k : Nat} (hk : 5 ≤ k) {a b : Int} (ha : isI a = true) (hb : isI b = true) (hz : b ≠ 0) :
    integers_Divided.f k a b = some (if isI (a.tdiv b) = true then (a.tdiv b, a.tmod b, 0) else (0, 0, 28)) := by
  obtain ⟨m, rfl⟩ : ∃ m, k = m + 5 := ⟨k - 5, by omega⟩
  exact divided_ok ha hb hz m
theorem divided_zero_at {k : Nat} (hk : 5 ≤ k) {a : Int} (ha : isI a = true) : integers_Divided.f k a 0 = some (0, 0, 11) := by
  obtain ⟨m, rfl⟩ : ∃ m, k = m + 5 := ⟨k - 5, by omega⟩
  exact divided_zero ha m
theorem tmod_sign {a b : Int} : (0 ≤ a → 0 ≤ a.tmod b) ∧ (a ≤ 0 → a.tmod b ≤ 0) := by
  constructor
  · intro h; exact Int.tmod_nonneg b h
  · intro h
    have := Int.tmod_nonneg b (show 0 ≤ -a by omega)
    rw [Int.neg_tmod] at this; omega
/-! ### patterns of bits -/
def pat (a : Int) : Nat := (a % 4294967296).toNat
theorem pat_lt (a : Int) : pat a < 4294967296 := by unfold pat; omega
theorem pat_cast (a : Int) : ((pat a : Nat) : Int) = a % 4294967296 := by unfold pat; omega
theorem pattern_eq (a : Int) : integers_pattern.f a = some ((pat a : Nat) : Int) := by
  unfold integers_pattern.f
  rw [pat_cast]
  congr 1
  unfold wrap32
  omega
theorem signed_eq (x : Int) : integers_signed.f x = some (wrap32 x) := by
  unfold integers_signed.f
  have := wrap32_in x
  rw [w64 (by omega) (by omega)]
theorem wrap32_pat (a : Int) (h : isI a = true) : wrap32 ((pat a : Nat) : Int) = a := by
  rw [isI_iff] at h
  rw [pat_cast]
  unfold wrap32
  omega
def rotN (A s : Nat) : Nat := (A * 2 ^ s % 4294967296) ||| (A / 2 ^ (32 - s))
theorem or_lt32 {a b : Nat} (h1 : a < 4294967296) (h2 : b < 4294967296) : a ||| b < 4294967296 := Nat.or_lt_two_pow (n := 32) h1 h2
theorem rot_count (b : Int) : Go.bits .and .u64 (IntKind.u64.wrap b) 31 = b % 32 := by
  have hw : IntKind.u64.wrap b = b % 18446744073709551616 := by simp [IntKind.wrap, IntKind.bits, IntKind.signed]
  rw [hw]
  obtain ⟨n, hn⟩ := Int.eq_ofNat_of_zero_le (show 0 ≤ b % 18446744073709551616 by omega)
  rw [hn]
  have h := Go.u64_and_nat n 31 (by omega) (by decide)
  have h2 : n &&& 31 = n % 32 := Nat.and_two_pow_sub_one_eq_mod n 5
  rw [h2] at h
  refine h.trans ?_
  omega
theorem u64w {x : Int} (h1 : 0 ≤ x) (h2 : x < 18446744073709551616) : IntKind.u64.wrap x = x := by
  have : IntKind.u64.wrap x = x % 18446744073709551616 := by simp [IntKind.wrap, IntKind.bits, IntKind.signed]
  rw [this]; omega
theorem shl32 (A s : Nat) (hs : s ≤ 32) : shl .u32 (A : Int) (s : Int) = ((A * 2 ^ s % 4294967296 : Nat) : Int) := by
  unfold shl
  have : min (s : Int).toNat (IntKind.bits .u32) = s := by rw [Int.toNat_natCast]; exact Nat.min_eq_left hs
  rw [this, IntKind.wrap_u32]
  simp
theorem shr32 (A s : Nat) (hs : s ≤ 32) : shr .u32 (A : Int) (s : Int) = ((A / 2 ^ s : Nat) : Int) := by
  unfold shr
  have : min (s : Int).toNat (IntKind.bits .u32) = s := by rw [Int.toNat_natCast]; exact Nat.min_eq_left hs
  rw [this]
  simp
theorem rotate_eq {A : Nat} (hA : A < 4294967296) (b : Int) : bits_RotateLeft32.f (A : Int) b = some ((rotN A (b % 32).toNat : Nat) : Int) := by
  unfold bits_RotateLeft32.f
  rw [rot_count]
  obtain ⟨s, hs⟩ := Int.eq_ofNat_of_zero_le (show 0 ≤ b % 32 by omega)
  rw [hs, if_pos (by omega), u64w (x := 32 - (s : Int)) (by omega) (by omega), if_pos (by omega), Int.toNat_natCast, shl32 A s (by omega)]
  rw [show (32 : Int) - (s : Int) = ((32 - s : Nat) : Int) by omega, shr32 A (32 - s) (by omega)]
  have h2 : A / 2 ^ (32 - s) ≤ A := Nat.div_le_self _ _
  rw [Go.u32_or_nat _ _ (Nat.mod_lt _ (by decide)) (by omega)]
  rfl
/-- the pattern of an operation's result -/
def progP (op : Int) (A B : Nat) (b : Int) : Nat :=
  if op = 0 then A &&& B else if op = 1 then A ||| B else if op = 2 then A ^^^ B
  else if op = 3 then (if b < 0 then A / 2 ^ (-b).toNat else A * 2 ^ b.toNat % 4294967296)
  else if op = 4 then rotN A (b % 32).toNat
  else if op = 5 then A / 2 ^ b.toNat &&& 1 else if op = 6 then A ||| 2 ^ b.toNat else A &&& (4294967295 - 2 ^ b.toNat)
/-- what BitOp returns -/
def bitS (op a b : Int) : Int × Int :=
  if ¬ (0 ≤ op ∧ op < 8) then (0, 15) else if (isI a && isI b) = false then (0, 2)
  else if (op = 3 ∨ op = 4) ∧ ¬ (-32 ≤ b ∧ b ≤ 32) ∨ 5 ≤ op ∧ ¬ (0 ≤ b ∧ b < 32) then (0, 2)
  else (wrap32 ((progP op (pat a) (pat b) b : Nat) : Int), 0)
theorem two_pow_lt {b : Int} (h : 0 ≤ b ∧ b < 32) : 2 ^ b.toNat < 4294967296 := by
  have : 2 ^ b.toNat ≤ 2 ^ 31 := Nat.pow_le_pow_right (by decide) (by omega)
  omega
theorem shl_one {b : Int} (h : 0 ≤ b ∧ b < 32) : shl .u32 1 b = ((2 ^ b.toNat : Nat) : Int) := by
  have := shl32 1 b.toNat (by omega)
  rw [Int.toNat_of_nonneg h.1, Nat.one_mul, Nat.mod_eq_of_lt (two_pow_lt h)] at this
  exact this
theorem bit_eq (op a b : Int) (k : Nat) : integers_BitOp.f (k + 10) op a b = some (bitS op a b) := by
  unfold integers_BitOp.f bitS
  rw [kind_eq]
  simp only [Option.bind_some]
  rw [ints2 (k + 6)]
  simp only [Option.bind_some]
  by_cases hk : 0 ≤ op ∧ op < 8
  · rw [if_pos hk, if_neg (not_not_intro hk), numE_two]
    cases hb : isI a && isI b with
    | false => rfl
    | true =>
      rw [Bool.and_eq_true] at hb
      simp only [if_true, Bool.true_eq_false, if_false]
      rw [pattern_eq, pattern_eq]
      simp only [Option.bind_some]
      have hA := pat_lt a
      have hB := pat_lt b
      rw [Go.u32_and_nat _ _ hA hB, Go.u32_or_nat _ _ hA hB, Go.u32_xor_nat _ _ hA hB]
      simp only [signed_eq, Option.bind_some]
      by_cases h0 : op = 0
      · rw [if_pos h0, if_neg (by omega), progP, if_pos h0]
      rw [if_neg h0]
      by_cases h1 : op = 1
      · rw [if_pos h1, if_neg (by omega), progP, if_neg h0, if_pos h1]
      rw [if_neg h1]
      by_cases h2 : op = 2
      · rw [if_pos h2, if_neg (by omega), progP, if_neg h0, if_neg h1, if_pos h2]
      rw [if_neg h2]
      have hP : progP op (pat a) (pat b) b = if op = 3 then (if b < 0 then pat a / 2 ^ (-b).toNat else pat a * 2 ^ b.toNat % 4294967296) else if op = 4 then rotN (pat a) (b % 32).toNat
          else if op = 5 then pat a / 2 ^ b.toNat &&& 1 else if op = 6 then pat a ||| 2 ^ b.toNat else pat a &&& (4294967295 - 2 ^ b.toNat) := by rw [progP, if_neg h0, if_neg h1, if_neg h2]
      rw [hP]
      by_cases h34 : op = 3 ∨ op = 4
      · have hz : ∀ z : Bool, z = true → integers_BitOp.j0 (k + 10) op b 0 ((pat a : Nat) : Int) z = some (if (op = 3 ∨ op = 4) ∧ ¬ (-32 ≤ b ∧ b ≤ 32) ∨ 5 ≤ op ∧ ¬ (0 ≤ b ∧ b < 32) then (0, 2) else (wrap32 ((if op = 3 then (if b < 0 then pat a / 2 ^ (-b).toNat else pat a * 2 ^ b.toNat % 4294967296) else if op = 4 then rotN (pat a) (b % 32).toNat
          else if op = 5 then pat a / 2 ^ b.toNat &&& 1 else if op = 6 then pat a ||| 2 ^ b.toNat else pat a &&& (4294967295 - 2 ^ b.toNat) : Nat) : Int), 0)) := by
          intro z hz
          subst hz
          simp only [integers_BitOp.j0, if_true, want_eq, Option.bind_some]
          by_cases hr : -32 ≤ b ∧ b ≤ 32
          · rw [if_pos hr.1, decide_eq_true hr.2, if_pos rfl, if_neg (by omega)]
            simp only [integers_BitOp.j1, if_true]
            by_cases h4 : op = 4
            · rw [if_pos h4, if_neg (by omega), if_pos h4, rotate_eq hA]
              simp only [Option.bind_some, signed_eq]
            · have h3 : op = 3 := by omega
              rw [if_neg h4, if_pos h3]
              by_cases hn : b < 0
              · obtain ⟨m, hm⟩ := Int.eq_ofNat_of_zero_le (show 0 ≤ -b by omega)
                rw [if_pos hn, if_pos hn, w64 (by omega) (by omega), if_pos (by omega), hm, shr32 _ m (by omega), Int.toNat_natCast]
                simp only [signed_eq, Option.bind_some]
              · obtain ⟨m, hm⟩ := Int.eq_ofNat_of_zero_le (show 0 ≤ b by omega)
                rw [if_neg hn, if_neg hn, if_pos (by omega), hm, shl32 _ m (by omega), Int.toNat_natCast]
                simp only [signed_eq, Option.bind_some]
          · rw [if_pos (show (op = 3 ∨ op = 4) ∧ ¬ (-32 ≤ b ∧ b ≤ 32) ∨ 5 ≤ op ∧ ¬ (0 ≤ b ∧ b < 32) from .inl ⟨h34, hr⟩)]
            by_cases hl : -32 ≤ b
            · have : ¬ b ≤ 32 := fun h => hr ⟨hl, h⟩
              rw [if_pos hl, decide_eq_false this]; rfl
            · rw [if_neg hl]; rfl
        by_cases h3 : op = 3
        · rw [if_pos h3]; exact hz _ (by simp [h3])
        · rw [if_neg h3]; exact hz _ (by have : op = 4 := by omega
                                         simp [this])
      · have h3 : op ≠ 3 := fun h => h34 (.inl h)
        have h4 : op ≠ 4 := fun h => h34 (.inr h)
        have e4 : (op == 4) = false := by simp [h4]
        rw [if_neg h3, e4]
        simp only [integers_BitOp.j0, Bool.false_eq_true, if_false, want_eq, Option.bind_some, if_true]
        by_cases hr : 0 ≤ b ∧ b < 32
        · rw [if_pos hr.1, decide_eq_true hr.2, if_pos rfl, if_neg (by omega)]
          simp only [integers_BitOp.j2, if_true]
          have ht := two_pow_lt hr
          obtain ⟨m, hm⟩ := Int.eq_ofNat_of_zero_le hr.1
          have hd : pat a / 2 ^ m ≤ pat a := Nat.div_le_self _ _
          rw [shl_one hr, Go.u32_or_nat _ _ hA ht, Go.u32_andNot_nat _ _ hA ht, if_pos hr.1, if_neg h3, if_neg h4]
          have e1 : Go.bits .and .u32 (shr .u32 ((pat a : Nat) : Int) b) 1 = ((pat a / 2 ^ b.toNat &&& 1 : Nat) : Int) := by
            rw [hm, shr32 _ m (by omega), Int.toNat_natCast]
            exact Go.u32_and_nat _ 1 (by omega) (by decide)
          rw [e1]
          simp only [signed_eq, Option.bind_some]
          by_cases h5 : op = 5
          · rw [if_pos h5, if_pos h5]
          rw [if_neg h5, if_neg h5]
          by_cases h6 : op = 6
          · rw [if_pos h6, if_pos h6]
          · rw [if_neg h6, if_neg h6]
        · rw [if_pos (show (op = 3 ∨ op = 4) ∧ ¬ (-32 ≤ b ∧ b ≤ 32) ∨ 5 ≤ op ∧ ¬ (0 ≤ b ∧ b < 32) from .inr ⟨by omega, hr⟩)]
          by_cases hl : 0 ≤ b
          · have : ¬ b < 32 := fun h => hr ⟨hl, h⟩
            rw [if_pos hl, decide_eq_false this]; rfl
          · rw [if_neg hl]; rfl
  · rw [if_neg hk, if_pos hk, numE_ne (c := 15) (by decide), numE_ne (c := 15) (by decide)]; rfl
theorem awake_true : formularylaw07_awake.f 40 = some true := by decide +kernel
theorem awake_any (k : Nat) : formularylaw07_awake.f (k + 40) = some true := at_rounds (g := formularylaw07_awake.f) formularylaw07_awake.mono (by omega) awake_true
/-! ### the reference's bits -/
def b2i (b : Bool) : Int := ((b.toNat : Nat) : Int)
def bitL (g : Nat → Bool) (n : Nat) : List Int := (List.range n).map fun i => b2i (g i)
theorem bitL_len (g : Nat → Bool) (n : Nat) : (bitL g n).length = n := by simp [bitL]
theorem bitL_succ (g : Nat → Bool) (n : Nat) : bitL g (n + 1) = bitL g n ++ [b2i (g n)] := by simp [bitL, List.range_succ]
theorem bitL_rd (g : Nat → Bool) (n i : Nat) (h : i < n) : rd (bitL g n) (i : Int) = b2i (g i) := by simp [rd, bitL, List.getD, h]
theorem bitL_congr {g g' : Nat → Bool} {n : Nat} (h : ∀ i, i < n → g i = g' i) : bitL g n = bitL g' n := by
  unfold bitL
  apply List.map_congr_left
  intro i hi
  rw [h i (List.mem_range.1 hi)]
/-- the bits of an operation's result -/
def gbit (op : Int) (A B : Nat) (b : Int) (i : Nat) : Bool :=
  if op = 0 then A.testBit i && B.testBit i else if op = 1 then A.testBit i || B.testBit i else if op = 2 then A.testBit i ^^ B.testBit i
  else if op = 3 then decide (0 ≤ (i : Int) - b ∧ (i : Int) - b ≤ 31) && A.testBit ((i : Int) - b).toNat
  else if op = 4 then A.testBit (((i : Int) - b) % 32).toNat
  else if op = 5 then decide (i = 0) && A.testBit b.toNat else if op = 6 then A.testBit i || decide ((i : Int) = b) else A.testBit i && decide ((i : Int) ≠ b)
theorem high_bit {A : Nat} (hA : A < 4294967296) {i : Nat} (h : 32 ≤ i) : A.testBit i = false := by
  apply Nat.testBit_lt_two_pow
  have : 2 ^ 32 ≤ 2 ^ i := Nat.pow_le_pow_right (by decide) h
  omega
theorem rotN_bit {A : Nat} (hA : A < 4294967296) (s : Nat) (hs : s < 32) (i : Nat) (hi : i < 32) : (rotN A s).testBit i = A.testBit ((i + 32 - s) % 32) := by
  unfold rotN
  rw [Nat.testBit_or, show (4294967296 : Nat) = 2 ^ 32 from rfl, Nat.testBit_mod_two_pow, Nat.testBit_mul_two_pow, Nat.testBit_div_two_pow]
  by_cases h : s ≤ i
  · have h1 : (i + 32 - s) % 32 = i - s := by omega
    rw [h1, high_bit hA (show 32 ≤ i + (32 - s) by omega)]
    simp [hi, h]
  · have h1 : (i + 32 - s) % 32 = i + (32 - s) := by omega
    rw [h1]
    simp [h]
theorem progP_lt {op b : Int} {A B : Nat} (hA : A < 4294967296) (hB : B < 4294967296) (h6 : op = 6 → 0 ≤ b ∧ b < 32) : progP op A B b < 4294967296 := by
  unfold progP
  have hd : ∀ n, A / 2 ^ n < 4294967296 := fun n => Nat.lt_of_le_of_lt (Nat.div_le_self _ _) hA
  by_cases h0 : op = 0
  · rw [if_pos h0]; exact Nat.and_lt_two_pow (n := 32) _ hB
  rw [if_neg h0]
  by_cases h1 : op = 1
  · rw [if_pos h1]; exact or_lt32 hA hB
  rw [if_neg h1]
  by_cases h2 : op = 2
  · rw [if_pos h2]; exact Nat.xor_lt_two_pow (n := 32) hA hB
  rw [if_neg h2]
  by_cases h3 : op = 3
  · rw [if_pos h3]
    split
    · exact hd _
    · exact Nat.mod_lt _ (by decide)
  rw [if_neg h3]
  by_cases h4 : op = 4
  · rw [if_pos h4]; exact or_lt32 (Nat.mod_lt _ (by decide)) (hd _)
  rw [if_neg h4]
  by_cases h5 : op = 5
  · rw [if_pos h5]; exact Nat.and_lt_two_pow (n := 32) _ (by decide)
  rw [if_neg h5]
  by_cases h6' : op = 6
  · rw [if_pos h6']; exact or_lt32 hA (two_pow_lt (h6 h6'))
  · rw [if_neg h6']; exact Nat.lt_of_le_of_lt Nat.and_le_left hA
theorem progP_bit {op b : Int} {A B : Nat} (hk : 0 ≤ op ∧ op < 8) (hA : A < 4294967296) (h3 : op = 3 → -32 ≤ b ∧ b ≤ 32) (h5 : 5 ≤ op → 0 ≤ b ∧ b < 32) (i : Nat) (hi : i < 32) : (progP op A B b).testBit i = gbit op A B b i := by
  unfold progP gbit
  by_cases c0 : op = 0
  · rw [if_pos c0, if_pos c0, Nat.testBit_and]
  rw [if_neg c0, if_neg c0]
  by_cases c1 : op = 1
  · rw [if_pos c1, if_pos c1, Nat.testBit_or]
  rw [if_neg c1, if_neg c1]
  by_cases c2 : op = 2
  · rw [if_pos c2, if_pos c2, Nat.testBit_xor]
  rw [if_neg c2, if_neg c2]
  by_cases c3 : op = 3
  · have hb := h3 c3
    rw [if_pos c3, if_pos c3]
    by_cases hn : b < 0
    · rw [if_pos hn, Nat.testBit_div_two_pow]
      have e : ((i : Int) - b).toNat = i + (-b).toNat := by omega
      rw [e]
      by_cases hh : i + (-b).toNat ≤ 31
      · rw [decide_eq_true (by omega), Bool.true_and]
      · rw [decide_eq_false (by omega), high_bit hA (by omega)]; try simp
    · rw [if_neg hn, show (4294967296 : Nat) = 2 ^ 32 from rfl, Nat.testBit_mod_two_pow, Nat.testBit_mul_two_pow]
      have e : ((i : Int) - b).toNat = i - b.toNat := by omega
      rw [e, decide_eq_true hi, Bool.true_and]
      by_cases hh : b.toNat ≤ i
      · rw [decide_eq_true hh, decide_eq_true (by omega)]
      · rw [decide_eq_false hh, decide_eq_false (by omega)]; try simp
  rw [if_neg c3, if_neg c3]
  by_cases c4 : op = 4
  · rw [if_pos c4, if_pos c4, rotN_bit hA _ (by omega) i hi]
    congr 1; omega
  rw [if_neg c4, if_neg c4]
  by_cases c5 : op = 5
  · have hb := h5 (by omega)
    rw [if_pos c5, if_pos c5, Nat.testBit_and, Nat.testBit_div_two_pow]
    by_cases hz : i = 0
    · subst hz
      simp
    · rw [decide_eq_false hz]
      have : (1 : Nat).testBit i = false := by
        apply Nat.testBit_lt_two_pow
        have : 2 ^ 1 ≤ 2 ^ i := Nat.pow_le_pow_right (by decide) (by omega)
        omega
      rw [this, Bool.and_false, Bool.false_and]
  rw [if_neg c5, if_neg c5]
  by_cases c6 : op = 6
  · rw [if_pos c6, if_pos c6, Nat.testBit_or, Nat.testBit_two_pow]
    have hb := h5 (by omega)
    congr 1
    by_cases hz : (i : Int) = b
    · simp [hz]; omega
    · simp [hz]; omega
  · rw [if_neg c6, if_neg c6, Nat.testBit_and]
    have hb := h5 (by omega)
    have ht := two_pow_lt hb
    rw [show 4294967295 - 2 ^ b.toNat = 2 ^ 32 - (2 ^ b.toNat + 1) by omega, Nat.testBit_two_pow_sub_succ (by omega), Nat.testBit_two_pow, decide_eq_true hi, Bool.true_and]
    congr 1
    by_cases hz : (i : Int) = b
    · simp [hz]; omega
    · simp [hz]; omega
/-! ### the ring, and its bits -/
theorem wcong {x y : Int} (h : x % 4294967296 = y % 4294967296) : wrap32 x = wrap32 y := by unfold wrap32; omega
theorem wmod (x : Int) : wrap32 x % 4294967296 = x % 4294967296 := by unfold wrap32; omega
theorem wI (x : Int) : isI (wrap32 x) = true := by rw [isI_iff]; exact wrap32_in x
theorem wmul_l (x c : Int) : wrap32 (wrap32 x * c) = wrap32 (x * c) := by
  apply wcong; rw [Int.mul_emod, wmod, ← Int.mul_emod]
theorem wmul_r (x c : Int) : wrap32 (c * wrap32 x) = wrap32 (c * x) := by rw [Int.mul_comm, wmul_l, Int.mul_comm]
theorem wadd_l (x c : Int) : wrap32 (wrap32 x + c) = wrap32 (x + c) := by apply wcong; have := wmod x; omega
theorem wadd_r (x c : Int) : wrap32 (c + wrap32 x) = wrap32 (c + x) := by apply wcong; have := wmod x; omega
theorem pat_wrap {P : Nat} (h : P < 4294967296) : pat (wrap32 (P : Int)) = P := by
  unfold pat; rw [wmod]; omega
theorem and_or_sum : ∀ n A B : Nat, A < 2 ^ n → B < 2 ^ n → (A &&& B) + (A ||| B) = A + B := by
  intro n
  induction n with
  | zero => intro A B h1 h2; obtain rfl : A = 0 := by omega
            obtain rfl : B = 0 := by omega
            rfl
  | succ n ih =>
    intro A B h1 h2
    have h := ih (A / 2) (B / 2) (by omega) (by omega)
    have e1 : (A &&& B) / 2 = A / 2 &&& B / 2 := Nat.and_div_two
    have e2 : (A ||| B) / 2 = A / 2 ||| B / 2 := Nat.or_div_two
    have m1 : (A &&& B) % 2 = 1 ↔ A % 2 = 1 ∧ B % 2 = 1 := Nat.and_mod_two_eq_one
    have m2 : (A ||| B) % 2 = 1 ↔ A % 2 = 1 ∨ B % 2 = 1 := Nat.or_mod_two_eq_one
    rw [← e1, ← e2] at h
    omega
theorem rot_back {A : Nat} (hA : A < 4294967296) {s t : Nat} (hs : s < 32) (ht : t < 32) (h : (s + t) % 32 = 0) : rotN (rotN A s) t = A := by
  have h1 : rotN A s < 4294967296 := or_lt32 (Nat.mod_lt _ (by decide)) (Nat.lt_of_le_of_lt (Nat.div_le_self _ _) hA)
  have h2 : rotN (rotN A s) t < 4294967296 := or_lt32 (Nat.mod_lt _ (by decide)) (Nat.lt_of_le_of_lt (Nat.div_le_self _ _) h1)
  apply Nat.eq_of_testBit_eq
  intro i
  rcases Nat.lt_or_ge i 32 with hi | hi
  · rw [rotN_bit h1 t ht i hi, rotN_bit hA s hs _ (Nat.mod_lt _ (by decide))]
    congr 1; omega
  · rw [high_bit h2 hi, high_bit hA hi]
theorem bit_at {k : Nat} (hk : 10 ≤ k) (op a b : Int) : integers_BitOp.f k op a b = some (bitS op a b) := by
  obtain ⟨m, rfl⟩ : ∃ m, k = m + 10 := ⟨k - 10, by omega⟩
  exact bit_eq op a b m
theorem bitS_ok {op a b : Int} (ha : isI a = true) (hb : isI b = true) (hk : 0 ≤ op ∧ op < 8) (hr : ¬ ((op = 3 ∨ op = 4) ∧ ¬ (-32 ≤ b ∧ b ≤ 32) ∨ 5 ≤ op ∧ ¬ (0 ≤ b ∧ b < 32))) :
    bitS op a b = (wrap32 ((progP op (pat a) (pat b) b : Nat) : Int), 0) := by
  unfold bitS
  rw [if_neg (not_not_intro hk), ha, hb, if_neg (by decide), if_neg hr]
theorem ring_of {m : Nat} {a b c x t r y u v w : Int} (H1 : integers_BitOp.f m 3 a 1 = some (x, 0)) (H2 : integers_Wrapped.f m 0 a a = some (x, 0)) (H3 : formularybase_Mod.f c 33 = some t)
    (H4 : integers_BitOp.f m 4 a t = some (r, 0)) (H5 : integers_BitOp.f m 4 r (wrap64 (-t)) = some (a, 0)) (H6 : integers_BitOp.f m 2 a b = some (y, 0)) (H7 : integers_BitOp.f m 2 y b = some (a, 0))
    (H8 : integers_BitOp.f m 0 a b = some (u, 0)) (H9 : integers_BitOp.f m 1 a b = some (v, 0)) (H10 : integers_Wrapped.f m 0 u v = some (w, 0)) (H11 : integers_Wrapped.f m 0 a b = some (w, 0)) :
    formularylaw07_IntegersRing.j2 (m + 1) a b c false = some true := by
  simp only [formularylaw07_IntegersRing.j2]
  simp only [H1, H2, H3, H4, H5, H6, H7, H8, H9, H10, H11, Option.bind_some, Bool.false_eq_true, if_false, if_true, beq_self_eq_true]
section
variable {a b c : Int} (ha : isI a = true) (hb : isI b = true) (hc : isI c = true)
include ha hb hc
theorem ring_j2 (k : Nat) (hk : 40 ≤ k) : formularylaw07_IntegersRing.j2 k a b c false = some true := by
  obtain ⟨m, rfl⟩ : ∃ m, k = m + 1 := ⟨k - 1, by omega⟩
  have hA := pat_lt a
  have hB := pat_lt b
  have hc' := isI_iff.1 hc
  have h0 : 0 ≤ c % 33 ∧ c % 33 ≤ 32 := by omega
  have i1 : isI 1 = true := rfl
  have ik : isI (c % 33) = true := by rw [isI_iff]; omega
  have ikn : isI (-(c % 33)) = true := by rw [isI_iff]; omega
  have hx : pat a ^^^ pat b < 4294967296 := Nat.xor_lt_two_pow (n := 32) hA hB
  have hr : rotN (pat a) (c % 33 % 32).toNat < 4294967296 := or_lt32 (Nat.mod_lt _ (by decide)) (Nat.lt_of_le_of_lt (Nat.div_le_self _ _) hA)
  have p4 : ∀ x y : Nat, ∀ z : Int, progP 4 x y z = rotN x (z % 32).toNat := fun _ _ _ => by simp [progP]
  have p2 : ∀ x y : Nat, ∀ z : Int, progP 2 x y z = x ^^^ y := fun _ _ _ => by simp [progP]
  have p0 : ∀ x y : Nat, ∀ z : Int, progP 0 x y z = x &&& y := fun _ _ _ => by simp [progP]
  have p1 : ∀ x y : Nat, ∀ z : Int, progP 1 x y z = x ||| y := fun _ _ _ => by simp [progP]
  have p3 : progP 3 (pat a) (pat 1) 1 = pat a * 2 % 4294967296 := by simp [progP]
  have x0 : ∀ x y : Int, exS 0 x y = x + y := fun _ _ => by simp [exS]
  have H1 : integers_BitOp.f m 3 a 1 = some (wrap32 (a + a), 0) := by
    rw [bit_at (by omega) 3 a 1, bitS_ok ha i1 (by omega) (by omega), p3]
    have : wrap32 ((pat a * 2 % 4294967296 : Nat) : Int) = wrap32 (a + a) := by
      apply wcong
      have hp := pat_cast a
      omega
    rw [this]
  have H2 : integers_Wrapped.f m 0 a a = some (wrap32 (a + a), 0) := by rw [wrapped_at (by omega) ha ha (by omega) (by omega), x0]
  have H3 : formularybase_Mod.f c 33 = some (c % 33) := mod_eq _ _ (by decide) (by decide)
  have H4 : integers_BitOp.f m 4 a (c % 33) = some (wrap32 ((rotN (pat a) (c % 33 % 32).toNat : Nat) : Int), 0) := by
    rw [bit_at (by omega), bitS_ok ha ik (by omega) (by omega), p4]
  have H5 : integers_BitOp.f m 4 (wrap32 ((rotN (pat a) (c % 33 % 32).toNat : Nat) : Int)) (wrap64 (-(c % 33))) = some (a, 0) := by
    rw [w64 (by omega) (by omega), bit_at (by omega), bitS_ok (wI _) ikn (by omega) (by omega), p4, pat_wrap hr, rot_back hA (by omega) (by omega) (by omega), wrap32_pat a ha]
  have H6 : integers_BitOp.f m 2 a b = some (wrap32 ((pat a ^^^ pat b : Nat) : Int), 0) := by
    rw [bit_at (by omega), bitS_ok ha hb (by omega) (by omega), p2]
  have H7 : integers_BitOp.f m 2 (wrap32 ((pat a ^^^ pat b : Nat) : Int)) b = some (a, 0) := by
    rw [bit_at (by omega), bitS_ok (wI _) hb (by omega) (by omega), p2, pat_wrap hx, Nat.xor_assoc, Nat.xor_self, Nat.xor_zero, wrap32_pat a ha]
  have H8 : integers_BitOp.f m 0 a b = some (wrap32 ((pat a &&& pat b : Nat) : Int), 0) := by
    rw [bit_at (by omega), bitS_ok ha hb (by omega) (by omega), p0]
  have H9 : integers_BitOp.f m 1 a b = some (wrap32 ((pat a ||| pat b : Nat) : Int), 0) := by
    rw [bit_at (by omega), bitS_ok ha hb (by omega) (by omega), p1]
  have H10 : integers_Wrapped.f m 0 (wrap32 ((pat a &&& pat b : Nat) : Int)) (wrap32 ((pat a ||| pat b : Nat) : Int)) = some (wrap32 (a + b), 0) := by
    rw [wrapped_at (by omega) (wI _) (wI _) (by omega) (by omega), x0, wadd_l, wadd_r]
    have hs := and_or_sum 32 (pat a) (pat b) hA hB
    have : wrap32 (((pat a &&& pat b : Nat) : Int) + ((pat a ||| pat b : Nat) : Int)) = wrap32 (a + b) := by
      apply wcong
      have hp := pat_cast a
      have hq := pat_cast b
      omega
    rw [this]
  have H11 : integers_Wrapped.f m 0 a b = some (wrap32 (a + b), 0) := by rw [wrapped_at (by omega) ha hb (by omega) (by omega), x0]
  exact ring_of H1 H2 H3 H4 H5 H6 H7 H8 H9 H10 H11
theorem ring_end (k : Nat) (hk : 50 ≤ k) : formularylaw07_IntegersRing.l0 k a b c true [0, 2] 2 = some true := by
  obtain ⟨m, rfl⟩ : ∃ m, k = m + 1 := ⟨k - 1, by omega⟩
  unfold formularylaw07_IntegersRing.l0
  rw [if_neg (by decide), wrapped_at (by omega) hb hc (by omega) (by omega)]
  simp only [Option.bind_some]
  rw [wrapped_at (by omega) ha (wI _) (by omega) (by omega), wrapped_at (by omega) ha hb (by omega) (by omega), wrapped_at (by omega) ha hc (by omega) (by omega)]
  simp only [Option.bind_some]
  rw [wrapped_at (by omega) (wI _) (wI _) (by omega) (by omega)]
  simp only [Option.bind_some, if_true]
  have h0 : ∀ x y : Int, exS 0 x y = x + y := fun _ _ => rfl
  have h2 : ∀ x y : Int, exS 2 x y = x * y := fun _ _ => rfl
  have e : wrap32 (exS 2 a (wrap32 (exS 0 b c))) = wrap32 (exS 0 (wrap32 (exS 2 a b)) (wrap32 (exS 2 a c))) := by
    rw [h2, h0, h2, h2, h0, wmul_r, wadd_l, wadd_r, Int.mul_add]
  rw [e, bne_self_eq_false]
  exact ring_j2 ha hb hc m (by omega)
theorem ring_round (k : Nat) (hk : 30 ≤ k) (i : Int) (op : Int) (hi : 0 ≤ i ∧ i < 2) (ho : rd [0, 2] i = op) (hop : op = 0 ∨ op = 2) :
    formularylaw07_IntegersRing.l0 (k + 1) a b c true [0, 2] i = formularylaw07_IntegersRing.l0 k a b c true [0, 2] (i + 1) := by
  conv => lhs; unfold formularylaw07_IntegersRing.l0
  rw [if_pos (show i < (([0, 2] : List Int).length : Int) from hi.2), if_pos hi.1, ho]
  rw [wrapped_at (by omega) ha hb (by omega) (by omega), wrapped_at (by omega) hb ha (by omega) (by omega), wrapped_at (by omega) hb hc (by omega) (by omega)]
  simp only [Option.bind_some]
  rw [wrapped_at (by omega) (wI _) hc (by omega) (by omega), wrapped_at (by omega) ha (wI _) (by omega) (by omega)]
  simp only [Option.bind_some, if_true]
  have h0 : ∀ x y : Int, exS 0 x y = x + y := fun _ _ => rfl
  have h2 : ∀ x y : Int, exS 2 x y = x * y := fun _ _ => rfl
  have e1 : wrap32 (exS op a b) = wrap32 (exS op b a) := by
    rcases hop with rfl | rfl
    · rw [h0, h0, Int.add_comm]
    · rw [h2, h2, Int.mul_comm]
  have e2 : wrap32 (exS op (wrap32 (exS op a b)) c) = wrap32 (exS op a (wrap32 (exS op b c))) := by
    rcases hop with rfl | rfl
    · rw [h0, h0, h0, h0, wadd_l, wadd_r, Int.add_assoc]
    · rw [h2, h2, h2, h2, wmul_l, wmul_r, Int.mul_assoc]
  rw [e2, e1, if_pos rfl, w64 (by omega) (by omega), beq_self_eq_true]
end
theorem IntegersRing : formularylaw07_IntegersRing.Pure := by
  intro a b c _ _ _
  refine ⟨200, ?_⟩
  unfold formularylaw07_IntegersRing.f
  rw [awake_any 160, twoErr, numErr]
  simp only [Option.bind_some, if_true]
  cases hab : isI a && isI b with
  | false => rw [if_neg (by decide)]; rfl
  | true =>
    rw [Bool.and_eq_true] at hab
    obtain ⟨ha, hb⟩ := hab
    rw [if_pos (by decide)]
    cases hc : isI c with
    | false => rfl
    | true =>
      simp only [formularylaw07_IntegersRing.j0]
      rw [if_neg (by decide), ring_round ha hb hc 198 (by decide) 0 0 (by decide) rfl (.inl rfl), show ((0 : Int) + 1) = 1 from rfl, ring_round ha hb hc 197 (by decide) 1 2 (by decide) rfl (.inr rfl)]
      exact ring_end ha hb hc 197 (by decide)

end Go.Proofs.Ytgmlihjopinagaa.Pure
