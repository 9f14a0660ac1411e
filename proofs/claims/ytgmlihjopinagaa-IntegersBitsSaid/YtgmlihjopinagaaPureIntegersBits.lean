/-
For every input the law IntegersBits answers true: the result of an operation on bits is as the reference says, or the errors. No condition is added to the given statement.
-/
import Derived.Test.YtgmlihjopinagaaPIntegersBitsx10
import Derived.Laws.BitsAllLaws
namespace Go.Proofs.Ytgmlihjopinagaa.Pure
open Go.RowKit Go.Proofs.Ytgmlihjopinagaa.PIntegersBits Go.Proofs.YtgmlihjopinagaaW.PrintWords Go.Proofs.YtgmlihjopinagaaW.PrintLast
set_option linter.unusedVariables false
set_option linter.unusedSimpArgs false

/-! ### what all of chapter 7 needs: numbers -/
def isI (n : Int) : Bool := decide (-2147483648 ≤ n) && decide (n ≤ 2147483647)
theorem isI_iff {n : Int} : isI n = true ↔ -2147483648 ≤ n ∧ n ≤ 2147483647 := by simp [isI]
theorem isI_not {n : Int} : isI n = false ↔ ¬ (-2147483648 ≤ n ∧ n ≤ 2147483647) := by
  rw [← Bool.not_eq_true, isI_iff]
theorem w64 {x : Int} (h1 : -9223372036854775808 ≤ x) (h2 : x ≤ 9223372036854775807) : wrap64 x = x := by unfold wrap64; omega
theorem num_int (n : Int) : integers_number_integer.f n = some (isI n) := by
  unfold integers_number_integer.f isI
  split
  · rename_i h; simp [h]
  · rename_i h; simp; omega
theorem within_eq (a b c : Int) : formularybase_Within.f a b c = some (decide (b ≤ a) && decide (a ≤ c)) := by
  unfold formularybase_Within.f
  split
  · rename_i h; simp; omega
  · rename_i h
    have : b ≤ a := by omega
    simp only [this, decide_true, Bool.true_and, Option.some.injEq]
    by_cases h2 : a ≤ c
    · simp [h2]
    · simp [h2]; omega
theorem ref_int (n : Int) : formularyref07_IsInteger.f n = some (isI n) := by
  unfold formularyref07_IsInteger.f; rw [within_eq]; rfl
theorem want_eq (c : Int) (b : Bool) (e : Int) : integers_check_want.f c b e = some (if c = 0 then (if b = true then c else e) else c) := by
  unfold integers_check_want.f; split
  · split <;> rfl
  · rfl
theorem err_eq (c : Int) : integers_check_err.f c = some c := rfl
/-- the error of numbers that should be INTEGERs -/
def numE (c : Int) (b : Bool) : Int := if c = 0 then (if b = true then c else 2) else c
theorem ints1 (k : Nat) (c a : Int) : integers_check_integers.f (k + 3) c [a] = some (numE c (isI a)) := by
  unfold integers_check_integers.f
  simp only [List.length_cons, List.length_nil]
  rw [show ((0 + 1 : Nat) : Int) = 1 from rfl]
  simp only [integers_check_integers.l0, List.length_cons, List.length_nil]
  simp [num_int, want_eq, rd, w64, numE]
theorem ints2 (k : Nat) (c a b : Int) : integers_check_integers.f (k + 4) c [a, b] = some (numE (numE c (isI a)) (isI b)) := by
  unfold integers_check_integers.f
  simp only [List.length_cons, List.length_nil]
  simp only [integers_check_integers.l0, List.length_cons, List.length_nil]
  simp only [num_int, want_eq, rd, Option.bind_some]
  simp [w64, numE]
  rfl
theorem numE_two (a b : Bool) : numE (numE 0 a) b = if (a && b) = true then 0 else 2 := by cases a <;> cases b <;> decide
theorem numErr (a : Int) : formularyref07_NumberErr.f a = some (if isI a = true then 0 else 2) := by
  unfold formularyref07_NumberErr.f; rw [ref_int]; simp only [Option.bind_some]; split <;> rfl
theorem twoErr (a b : Int) : formularyref07_TwoErr.f a b = some (if (isI a && isI b) = true then 0 else 2) := by
  unfold formularyref07_TwoErr.f; rw [numErr, numErr]; cases isI a <;> cases isI b <;> rfl
theorem mul_bound {x a : Int} (hx : isI x = true) (ha : isI a = true) : -4611686018427387904 ≤ x * a ∧ x * a ≤ 4611686018427387904 := by
  rw [isI_iff] at hx ha
  have h1 : x.natAbs ≤ 2147483648 := by omega
  have h2 : a.natAbs ≤ 2147483648 := by omega
  have h3 : (x * a).natAbs ≤ 2147483648 * 2147483648 := by rw [Int.natAbs_mul]; exact Nat.mul_le_mul h1 h2
  omega
/-! ### operations -/
theorem natAbs_tdiv_le (a b : Int) : (a.tdiv b).natAbs ≤ a.natAbs := by
  rw [Int.natAbs_tdiv]; exact Nat.div_le_self _ _
theorem tmod_small (a : Int) {b : Int} (hb : b ≠ 0) : (a.tmod b).natAbs < b.natAbs := by
  rw [Int.natAbs_tmod]; exact Nat.mod_lt _ (by omega)
theorem tmod_le (a b : Int) : (a.tmod b).natAbs ≤ a.natAbs := by
  rw [Int.natAbs_tmod]; exact Nat.mod_le _ _
theorem mx_max (a b : Int) : mx a b = max a b := by unfold mx; omega
theorem mn_min (a b : Int) : mn a b = min a b := by unfold mn; omega
/-- the exact result of an operation -/
def exS (op a b : Int) : Int :=
  if op = 0 then a + b else if op = 1 then a - b else if op = 2 then a * b else if op = 3 then a.tdiv b else if op = 4 then a.tmod b
  else if op = 5 then (if b < 0 then -(a.natAbs : Int) else (a.natAbs : Int)) else if op = 6 then max (a - b) 0 else if op = 7 then min a b else max a b
theorem size_num {a : Int} (h : isI a = true) : integers_number_size.f a = some (a.natAbs : Int) := by
  rw [isI_iff] at h
  unfold integers_number_size.f
  rw [w64 (by omega) (by omega), mx_max]
  congr 1; omega
theorem exact_eq {op a b : Int} (ha : isI a = true) (hb : isI b = true) (hz : ¬ ((op = 3 ∨ op = 4) ∧ b = 0)) : integers_exact.f op a b = some (exS op a b) := by
  have hm := mul_bound ha hb
  have ha' := isI_iff.1 ha
  have hb' := isI_iff.1 hb
  have hd := natAbs_tdiv_le a b
  unfold integers_exact.f exS
  by_cases h0 : op = 0
  · rw [if_pos h0, if_pos h0, w64 (by omega) (by omega)]
  rw [if_neg h0, if_neg h0]
  by_cases h1 : op = 1
  · rw [if_pos h1, if_pos h1, w64 (by omega) (by omega)]
  rw [if_neg h1, if_neg h1]
  by_cases h2 : op = 2
  · rw [if_pos h2, if_pos h2, w64 (by omega) (by omega)]
  rw [if_neg h2, if_neg h2]
  by_cases h3 : op = 3
  · rw [if_pos h3, if_pos h3, if_neg (fun h => hz ⟨.inl h3, h⟩), w64 (by omega) (by omega)]
  rw [if_neg h3, if_neg h3]
  by_cases h4 : op = 4
  · rw [if_pos h4, if_pos h4, if_neg (fun h => hz ⟨.inr h4, h⟩)]
  rw [if_neg h4, if_neg h4]
  by_cases h5 : op = 5
  · rw [if_pos h5, if_pos h5, size_num ha]
    simp only [Option.bind_some]
    split
    · rw [w64 (by omega) (by omega)]
    · rfl
  rw [if_neg h5, if_neg h5]
  by_cases h6 : op = 6
  · rw [if_pos h6, if_pos h6, w64 (by omega) (by omega), mx_max]
  rw [if_neg h6, if_neg h6, mx_max, mn_min]
  split <;> rfl
/-- the result of an operation, and its error but for an overflow -/
def opS (op a b : Int) : Int × Int :=
  if ¬ (0 ≤ op ∧ op < 9) then (0, 15) else if (isI a && isI b) = false then (0, 2) else if (op = 3 ∨ op = 4) ∧ b = 0 then (0, 11) else (exS op a b, 0)
theorem divides_eq (op : Int) : integers_divides.f op = some (decide (op = 3 ∨ op = 4)) := by
  unfold integers_divides.f
  split
  · rename_i h; simp [h]
  · rename_i h
    by_cases h4 : op = 4
    · simp [h4]
    · simp [h, h4]
theorem kind_eq (op n : Int) : integers_check_kind.f 0 op n = some (if 0 ≤ op ∧ op < n then 0 else 15) := by
  unfold integers_check_kind.f
  simp only [want_eq, if_true, Option.bind_some]
  by_cases h : 0 ≤ op
  · rw [if_pos h]
    by_cases h2 : op < n
    · simp [h, h2]
    · simp [h2]
  · rw [if_neg h]; simp [h]
theorem numE_ne {c : Int} (h : c ≠ 0) (b : Bool) : numE c b = c := by rw [numE, if_neg h]
theorem op_eq (op a b : Int) (k : Nat) : integers_operation.f (k + 5) op a b = some (opS op a b) := by
  unfold integers_operation.f opS
  rw [kind_eq, divides_eq]
  simp only [Option.bind_some]
  rw [ints2 (k + 1)]
  simp only [Option.bind_some]
  by_cases hk : 0 ≤ op ∧ op < 9
  · rw [if_pos hk, if_neg (not_not_intro hk), numE_two]
    cases hb : isI a && isI b with
    | false =>
      rw [if_pos rfl]
      simp only [Bool.false_eq_true, if_false, want_eq]
      split <;> rfl
    | true =>
      rw [Bool.and_eq_true] at hb
      simp only [if_true, Bool.true_eq_false, if_false, want_eq, Option.bind_some]
      by_cases hd : op = 3 ∨ op = 4
      · simp only [hd, decide_true, true_and, if_true, bne_iff_ne, ne_eq]
        by_cases hz : b = 0
        · rw [if_pos hz, if_neg (not_not_intro hz)]; rfl
        · rw [if_neg hz, if_pos hz]
          simp only [integers_operation.j0, if_true]
          rw [exact_eq hb.1 hb.2 (fun h => hz h.2)]; rfl
      · simp only [hd, decide_false, false_and, if_false, Bool.false_eq_true]
        simp only [integers_operation.j0, if_true]
        rw [exact_eq hb.1 hb.2 (fun h => hd h.1)]; rfl
  · rw [if_neg hk, if_pos hk, numE_ne (c := 15) (by decide), numE_ne (c := 15) (by decide)]
    simp only [want_eq]
    split <;> rfl
/-- what Apply returns -/
def applyS (op a b : Int) : Int × Int := if (opS op a b).2 = 0 then (if isI (opS op a b).1 = true then ((opS op a b).1, 0) else (0, 28)) else (0, (opS op a b).2)
theorem apply_eq (op a b : Int) (k : Nat) : integers_Apply.f (k + 5) op a b = some (applyS op a b) := by
  unfold integers_Apply.f applyS integers_told.f
  rw [op_eq]
  simp only [Option.bind_some, num_int]
  split
  · split <;> rfl
  · rfl
theorem wrap32_in (n : Int) : -2147483648 ≤ wrap32 n ∧ wrap32 n ≤ 2147483647 := by unfold wrap32; omega
theorem wrapped_eq (op a b : Int) (k : Nat) : integers_Wrapped.f (k + 5) op a b = some (wrap32 (opS op a b).1, (opS op a b).2) := by
  unfold integers_Wrapped.f integers_number_wrapped.f
  rw [op_eq]
  have := wrap32_in (opS op a b).1
  simp only [Option.bind_some]
  rw [w64 (by omega) (by omega)]
/-! ### the reference's operations -/
theorem operr (op n : Int) (h1 : 0 ≤ n) (h2 : n ≤ 100) : formularyref07_OpErr.f op n = some (if 0 ≤ op ∧ op < n then 0 else 15) := by
  unfold formularyref07_OpErr.f
  rw [w64 (by omega) (by omega), within_eq]
  simp only [Option.bind_some]
  by_cases h : 0 ≤ op ∧ op < n
  · rw [if_pos h, if_pos (by simp; omega)]
  · rw [if_neg h, if_neg (by simp; omega)]
theorem power32 (k : Nat) : formularybase_Power.f (k + 40) 32 = some 4294967296 := at_rounds (g := fun k => formularybase_Power.f k 32) (formularybase_Power.mono 32) (by omega) (show formularybase_Power.f 40 32 = some 4294967296 by decide +kernel)
theorem mod_eq (n m : Int) (h1 : 0 < m) (h2 : m ≤ 4611686018427387904) : formularybase_Mod.f n m = some (n % m) := by
  have hs := tmod_small n (b := m) (by omega)
  have he := Int.emod_nonneg n (b := m) (by omega)
  have ht := Int.tmod_eq_emod (a := n) (b := m)
  unfold formularybase_Mod.f formularybase_Bit.f
  rw [if_neg (by omega)]
  by_cases h : n.tmod m < 0
  · have hneg : ¬ (0 ≤ n ∨ m ∣ n) := by
      intro hc; rw [if_pos hc] at ht; omega
    rw [if_neg hneg] at ht
    simp only [h, decide_true, if_true, Option.bind_some]
    rw [Int.mul_one, w64 (x := m) (by omega) (by omega), w64 (by omega) (by omega)]
    congr 1; omega
  · simp only [h, decide_false, Bool.false_eq_true, if_false, Option.bind_some]
    rw [Int.mul_zero, w64 (x := 0) (by omega) (by omega), w64 (by omega) (by omega)]
    congr 1
    by_cases hc : 0 ≤ n ∨ m ∣ n
    · rw [if_pos hc] at ht; omega
    · rw [if_neg hc] at ht
      have := Int.emod_lt_of_pos n h1
      omega
theorem wrap_eq (n : Int) (h1 : -4611686018427387904 ≤ n) (h2 : n ≤ 4611686018427387904) (k : Nat) : formularyref07_Wrap.f (k + 40) n = some (wrap32 n) := by
  unfold formularyref07_Wrap.f
  rw [power32]
  simp only [Option.bind_some]
  rw [w64 (by omega) (by omega), mod_eq _ _ (by omega) (by omega)]
  simp only [Option.bind_some]
  rw [w64 (by omega) (by omega)]
  unfold wrap32
  congr 1
theorem exS_bound {op a b : Int} (ha : isI a = true) (hb : isI b = true) : -4611686018427387904 ≤ exS op a b ∧ exS op a b ≤ 4611686018427387904 := by
  have hm := mul_bound ha hb
  have ha' := isI_iff.1 ha
  have hb' := isI_iff.1 hb
  have hd := natAbs_tdiv_le a b
  have hr := tmod_le a b
  unfold exS
  repeat' split
  all_goals omega
/-! ### patterns of bits -/
def pat (a : Int) : Nat := (a % 4294967296).toNat
theorem pat_lt (a : Int) : pat a < 4294967296 := by unfold pat; omega
theorem pat_cast (a : Int) : ((pat a : Nat) : Int) = a % 4294967296 := by unfold pat; omega
theorem pattern_eq (a : Int) : integers_pattern.f a = some ((pat a : Nat) : Int) := by
  unfold integers_pattern.f
  rw [pat_cast]
  congr 1
  unfold wrap32
  omega
theorem signed_eq (x : Int) : integers_signed.f x = some (wrap32 x) := by
  unfold integers_signed.f
  have := wrap32_in x
  rw [w64 (by omega) (by omega)]
theorem wrap32_pat (a : Int) (h : isI a = true) : wrap32 ((pat a : Nat) : Int) = a := by
  rw [isI_iff] at h
  rw [pat_cast]
  unfold wrap32
  omega
def rotN (A s : Nat) : Nat := (A * 2 ^ s % 4294967296) ||| (A / 2 ^ (32 - s))
theorem or_lt32 {a b : Nat} (h1 : a < 4294967296) (h2 : b < 4294967296) : a ||| b < 4294967296 := Nat.or_lt_two_pow (n := 32) h1 h2
theorem rot_count (b : Int) : Go.bits .and .u64 (IntKind.u64.wrap b) 31 = b % 32 := by
  have hw : IntKind.u64.wrap b = b % 18446744073709551616 := by simp [IntKind.wrap, IntKind.bits, IntKind.signed]
  rw [hw]
  obtain ⟨n, hn⟩ := Int.eq_ofNat_of_zero_le (show 0 ≤ b % 18446744073709551616 by omega)
  rw [hn]
  have h := Go.u64_and_nat n 31 (by omega) (by decide)
  have h2 : n &&& 31 = n % 32 := Nat.and_two_pow_sub_one_eq_mod n 5
  rw [h2] at h
  refine h.trans ?_
  omega
theorem u64w {x : Int} (h1 : 0 ≤ x) (h2 : x < 18446744073709551616) : IntKind.u64.wrap x = x := by
  have : IntKind.u64.wrap x = x % 18446744073709551616 := by simp [IntKind.wrap, IntKind.bits, IntKind.signed]
  rw [this]; omega
theorem shl32 (A s : Nat) (hs : s ≤ 32) : shl .u32 (A : Int) (s : Int) = ((A * 2 ^ s % 4294967296 : Nat) : Int) := by
  unfold shl
  have : min (s : Int).toNat (IntKind.bits .u32) = s := by rw [Int.toNat_natCast]; exact Nat.min_eq_left hs
  rw [this, IntKind.wrap_u32]
  simp
theorem shr32 (A s : Nat) (hs : s ≤ 32) : shr .u32 (A : Int) (s : Int) = ((A / 2 ^ s : Nat) : Int) := by
  unfold shr
  have : min (s : Int).toNat (IntKind.bits .u32) = s := by rw [Int.toNat_natCast]; exact Nat.min_eq_left hs
  rw [this]
  simp
theorem rotate_eq {A : Nat} (hA : A < 4294967296) (b : Int) : bits_RotateLeft32.f (A : Int) b = some ((rotN A (b % 32).toNat : Nat) : Int) := by
  unfold bits_RotateLeft32.f
  rw [rot_count]
  obtain ⟨s, hs⟩ := Int.eq_ofNat_of_zero_le (show 0 ≤ b % 32 by omega)
  rw [hs, if_pos (by omega), u64w (x := 32 - (s : Int)) (by omega) (by omega), if_pos (by omega), Int.toNat_natCast, shl32 A s (by omega)]
  rw [show (32 : Int) - (s : Int) = ((32 - s : Nat) : Int) by omega, shr32 A (32 - s) (by omega)]
  have h2 : A / 2 ^ (32 - s) ≤ A := Nat.div_le_self _ _
  rw [Go.u32_or_nat _ _ (Nat.mod_lt _ (by decide)) (by omega)]
  rfl
/-- the pattern of an operation's result -/
def progP (op : Int) (A B : Nat) (b : Int) : Nat :=
  if op = 0 then A &&& B else if op = 1 then A ||| B else if op = 2 then A ^^^ B
  else if op = 3 then (if b < 0 then A / 2 ^ (-b).toNat else A * 2 ^ b.toNat % 4294967296)
  else if op = 4 then rotN A (b % 32).toNat
  else if op = 5 then A / 2 ^ b.toNat &&& 1 else if op = 6 then A ||| 2 ^ b.toNat else A &&& (4294967295 - 2 ^ b.toNat)
/-- what BitOp returns -/
def bitS (op a b : Int) : Int × Int :=
  if ¬ (0 ≤ op ∧ op < 8) then (0, 15) else if (isI a && isI b) = false then (0, 2)
  else if (op = 3 ∨ op = 4) ∧ ¬ (-32 ≤ b ∧ b ≤ 32) ∨ 5 ≤ op ∧ ¬ (0 ≤ b ∧ b < 32) then (0, 2)
  else (wrap32 ((progP op (pat a) (pat b) b : Nat) : Int), 0)
theorem two_pow_lt {b : Int} (h : 0 ≤ b ∧ b < 32) : 2 ^ b.toNat < 4294967296 := by
  have : 2 ^ b.toNat ≤ 2 ^ 31 := Nat.pow_le_pow_right (by decide) (by omega)
  omega
theorem shl_one {b : Int} (h : 0 ≤ b ∧ b < 32) : shl .u32 1 b = ((2 ^ b.toNat : Nat) : Int) := by
  have := shl32 1 b.toNat (by omega)
  rw [Int.toNat_of_nonneg h.1, Nat.one_mul, Nat.mod_eq_of_lt (two_pow_lt h)] at this
  exact this
theorem bit_eq (op a b : Int) (k : Nat) : integers_BitOp.f (k + 10) op a b = some (bitS op a b) := by
  unfold integers_BitOp.f bitS
  rw [kind_eq]
  simp only [Option.bind_some]
  rw [ints2 (k + 6)]
  simp only [Option.bind_some]
  by_cases hk : 0 ≤ op ∧ op < 8
  · rw [if_pos hk, if_neg (not_not_intro hk), numE_two]
    cases hb : isI a && isI b with
    | false => rfl
    | true =>
      rw [Bool.and_eq_true] at hb
      simp only [if_true, Bool.true_eq_false, if_false]
      rw [pattern_eq, pattern_eq]
      simp only [Option.bind_some]
      have hA := pat_lt a
      have hB := pat_lt b
      rw [Go.u32_and_nat _ _ hA hB, Go.u32_or_nat _ _ hA hB, Go.u32_xor_nat _ _ hA hB]
      simp only [signed_eq, Option.bind_some]
      by_cases h0 : op = 0
      · rw [if_pos h0, if_neg (by omega), progP, if_pos h0]
      rw [if_neg h0]
      by_cases h1 : op = 1
      · rw [if_pos h1, if_neg (by omega), progP, if_neg h0, if_pos h1]
      rw [if_neg h1]
      by_cases h2 : op = 2
      · rw [if_pos h2, if_neg (by omega), progP, if_neg h0, if_neg h1, if_pos h2]
      rw [if_neg h2]
      have hP : progP op (pat a) (pat b) b = if op = 3 then (if b < 0 then pat a / 2 ^ (-b).toNat else pat a * 2 ^ b.toNat % 4294967296) else if op = 4 then rotN (pat a) (b % 32).toNat
          else if op = 5 then pat a / 2 ^ b.toNat &&& 1 else if op = 6 then pat a ||| 2 ^ b.toNat else pat a &&& (4294967295 - 2 ^ b.toNat) := by rw [progP, if_neg h0, if_neg h1, if_neg h2]
      rw [hP]
      by_cases h34 : op = 3 ∨ op = 4
      · have hz : ∀ z : Bool, z = true → integers_BitOp.j0 (k + 10) op b 0 ((pat a : Nat) : Int) z = some (if (op = 3 ∨ op = 4) ∧ ¬ (-32 ≤ b ∧ b ≤ 32) ∨ 5 ≤ op ∧ ¬ (0 ≤ b ∧ b < 32) then (0, 2) else (wrap32 ((if op = 3 then (if b < 0 then pat a / 2 ^ (-b).toNat else pat a * 2 ^ b.toNat % 4294967296) else if op = 4 then rotN (pat a) (b % 32).toNat
          else if op = 5 then pat a / 2 ^ b.toNat &&& 1 else if op = 6 then pat a ||| 2 ^ b.toNat else pat a &&& (4294967295 - 2 ^ b.toNat) : Nat) : Int), 0)) := by
          intro z hz
          subst hz
          simp only [integers_BitOp.j0, if_true, want_eq, Option.bind_some]
          by_cases hr : -32 ≤ b ∧ b ≤ 32
          · rw [if_pos hr.1, decide_eq_true hr.2, if_pos rfl, if_neg (by omega)]
            simp only [integers_BitOp.j1, if_true]
            by_cases h4 : op = 4
            · rw [if_pos h4, if_neg (by omega), if_pos h4, rotate_eq hA]
              simp only [Option.bind_some, signed_eq]
            · have h3 : op = 3 := by omega
              rw [if_neg h4, if_pos h3]
              by_cases hn : b < 0
              · obtain ⟨m, hm⟩ := Int.eq_ofNat_of_zero_le (show 0 ≤ -b by omega)
                rw [if_pos hn, if_pos hn, w64 (by omega) (by omega), if_pos (by omega), hm, shr32 _ m (by omega), Int.toNat_natCast]
                simp only [signed_eq, Option.bind_some]
              · obtain ⟨m, hm⟩ := Int.eq_ofNat_of_zero_le (show 0 ≤ b by omega)
                rw [if_neg hn, if_neg hn, if_pos (by omega), hm, shl32 _ m (by omega), Int.toNat_natCast]
                simp only [signed_eq, Option.bind_some]
          · rw [if_pos (show (op = 3 ∨ op = 4) ∧ ¬ (-32 ≤ b ∧ b ≤ 32) ∨ 5 ≤ op ∧ ¬ (0 ≤ b ∧ b < 32) from .inl ⟨h34, hr⟩)]
            by_cases hl : -32 ≤ b
            · have : ¬ b ≤ 32 := fun h => hr ⟨hl, h⟩
              rw [if_pos hl, decide_eq_false this]; rfl
            · rw [if_neg hl]; rfl
        by_cases h3 : op = 3
        · rw [if_pos h3]; exact hz _ (by simp [h3])
        · rw [if_neg h3]; exact hz _ (by have : op = 4 := by omega
                                         simp [this])
      · have h3 : op ≠ 3 := fun h => h34 (.inl h)
        have h4 : op ≠ 4 := fun h => h34 (.inr h)
        have e4 : (op == 4) = false := by simp [h4]
        rw [if_neg h3, e4]
        simp only [integers_BitOp.j0, Bool.false_eq_true, if_false, want_eq, Option.bind_some, if_true]
        by_cases hr : 0 ≤ b ∧ b < 32
        · rw [if_pos hr.1, decide_eq_true hr.2, if_pos rfl, if_neg (by omega)]
          simp only [integers_BitOp.j2, if_true]
          have ht := two_pow_lt hr
          obtain ⟨m, hm⟩ := Int.eq_ofNat_of_zero_le hr.1
          have hd : pat a / 2 ^ m ≤ pat a := Nat.div_le_self _ _
          rw [shl_one hr, Go.u32_or_nat _ _ hA ht, Go.u32_andNot_nat _ _ hA ht, if_pos hr.1, if_neg h3, if_neg h4]
          have e1 : Go.bits .and .u32 (shr .u32 ((pat a : Nat) : Int) b) 1 = ((pat a / 2 ^ b.toNat &&& 1 : Nat) : Int) := by
            rw [hm, shr32 _ m (by omega), Int.toNat_natCast]
            exact Go.u32_and_nat _ 1 (by omega) (by decide)
          rw [e1]
          simp only [signed_eq, Option.bind_some]
          by_cases h5 : op = 5
          · rw [if_pos h5, if_pos h5]
          rw [if_neg h5, if_neg h5]
          by_cases h6 : op = 6
          · rw [if_pos h6, if_pos h6]
          · rw [if_neg h6, if_neg h6]
        · rw [if_pos (show (op = 3 ∨ op = 4) ∧ ¬ (-32 ≤ b ∧ b ≤ 32) ∨ 5 ≤ op ∧ ¬ (0 ≤ b ∧ b < 32) from .inr ⟨by omega, hr⟩)]
          by_cases hl : 0 ≤ b
          · have : ¬ b < 32 := fun h => hr ⟨hl, h⟩
            rw [if_pos hl, decide_eq_false this]; rfl
          · rw [if_neg hl]; rfl
  · rw [if_neg hk, if_pos hk, numE_ne (c := 15) (by decide), numE_ne (c := 15) (by decide)]; rfl
theorem awake_true : formularylaw07_awake.f 40 = some true := by decide +kernel
theorem awake_any (k : Nat) : formularylaw07_awake.f (k + 40) = some true := at_rounds (g := formularylaw07_awake.f) formularylaw07_awake.mono (by omega) awake_true
/-! ### the reference's bits -/
theorem pow_loop_b (x4 : Int) (d : Nat) : ∀ j : Nat, (j : Int) + d = x4 → j + d ≤ 60 → ∀ k, formularybase_Power.l0 (k + d + 1) (2 ^ j) x4 (j : Int) = some ((2 : Int) ^ (j + d)) := by
  induction d with
  | zero =>
    intro j h1 h2 k
    simp only [formularybase_Power.l0]
    rw [if_neg (by omega)]
    rfl
  | succ d ih =>
    intro j h1 h2 k
    rw [show k + (d + 1) + 1 = (k + d + 1) + 1 by omega]
    simp only [formularybase_Power.l0]
    have hp : (2 : Int) ^ j ≤ 2 ^ 60 := by
      have : 2 ^ j ≤ 2 ^ 60 := Nat.pow_le_pow_right (by decide) (by omega)
      exact_mod_cast this
    have hq : (0 : Int) < 2 ^ j := Int.pow_pos (by decide)
    rw [if_pos (by omega), w64 (x := 2 ^ j + 2 ^ j) (by omega) (by omega), w64 (by omega) (by omega)]
    rw [show (2 : Int) ^ j + 2 ^ j = 2 ^ (j + 1) by rw [Int.pow_succ]; omega, show (j : Int) + 1 = ((j + 1 : Nat) : Int) by omega, show j + (d + 1) = (j + 1) + d by omega]
    exact ih (j + 1) (by omega) (by omega) k
theorem power_at {k : Nat} (n : Nat) (hn : n ≤ 60) (hk : n < k) : formularybase_Power.f k (n : Int) = some (((2 ^ n : Nat) : Int)) := by
  obtain ⟨m, rfl⟩ : ∃ m, k = m + n + 1 := ⟨k - n - 1, by omega⟩
  unfold formularybase_Power.f
  have h := pow_loop_b (n : Int) n 0 (by omega) (by omega) m
  rw [Int.pow_zero] at h
  refine h.trans ?_
  rw [Nat.zero_add]; push_cast; rfl
def b2i (b : Bool) : Int := ((b.toNat : Nat) : Int)
def bitL (g : Nat → Bool) (n : Nat) : List Int := (List.range n).map fun i => b2i (g i)
theorem bitL_len (g : Nat → Bool) (n : Nat) : (bitL g n).length = n := by simp [bitL]
theorem bitL_succ (g : Nat → Bool) (n : Nat) : bitL g (n + 1) = bitL g n ++ [b2i (g n)] := by simp [bitL, List.range_succ]
theorem bitL_rd (g : Nat → Bool) (n i : Nat) (h : i < n) : rd (bitL g n) (i : Int) = b2i (g i) := by simp [rd, bitL, List.getD, h]
theorem bitL_congr {g g' : Nat → Bool} {n : Nat} (h : ∀ i, i < n → g i = g' i) : bitL g n = bitL g' n := by
  unfold bitL
  apply List.map_congr_left
  intro i hi
  rw [h i (List.mem_range.1 hi)]
theorem bits_loop (A : Nat) (hA : A < 4294967296) (d : Nat) : ∀ i : Nat, i + d = 32 → ∀ k, 40 ≤ k → formularyref07_Bits.l0 (k + d) (A : Int) (bitL A.testBit i) (i : Int) = some (bitL A.testBit 32) := by
  induction d with
  | zero =>
    intro i h k hk
    obtain ⟨m, rfl⟩ : ∃ m, k = m + 1 := ⟨k - 1, by omega⟩
    obtain rfl : i = 32 := by omega
    simp only [Nat.add_zero, formularyref07_Bits.l0]
    rw [if_neg (by decide)]
  | succ d ih =>
    intro i h k hk
    rw [show k + (d + 1) = (k + d) + 1 by omega]
    simp only [formularyref07_Bits.l0]
    rw [if_pos (by omega), power_at i (by omega) (by omega)]
    simp only [Option.bind_some]
    have hp : 0 < 2 ^ i := Nat.pow_pos (by decide)
    rw [if_neg (by omega), bitL_len, if_pos (by omega)]
    have hd : Int.tdiv (A : Int) ((2 ^ i : Nat) : Int) = ((A / 2 ^ i : Nat) : Int) := rfl
    have hle : A / 2 ^ i ≤ A := Nat.div_le_self _ _
    rw [hd, w64 (x := ((A / 2 ^ i : Nat) : Int)) (by generalize A / 2 ^ i = q at *; omega) (by generalize A / 2 ^ i = q at *; omega), w64 (by omega) (by omega)]
    have hm : Int.tmod ((A / 2 ^ i : Nat) : Int) 2 = b2i (A.testBit i) := by
      rw [b2i, Nat.toNat_testBit]; rfl
    rw [hm, ← bitL_succ, show (i : Int) + 1 = ((i + 1 : Nat) : Int) by omega]
    exact ih (i + 1) (by omega) k hk
theorem bits_eq (a : Int) {k : Nat} (hk : 80 ≤ k) : formularyref07_Bits.f k a = some (bitL (pat a).testBit 32) := by
  obtain ⟨m, rfl⟩ : ∃ m, k = m + 40 := ⟨k - 40, by omega⟩
  unfold formularyref07_Bits.f
  rw [power32, Option.bind_some, mod_eq _ _ (by decide) (by decide), ← pat_cast, Option.bind_some]
  have := bits_loop (pat a) (pat_lt a) 32 0 (by omega) (m + 8) (by omega)
  exact this
theorem from_loop (P : Nat) (hP : P < 4294967296) (d : Nat) : ∀ i : Nat, i + d = 32 → ∀ k, 50 ≤ k → formularyref07_From.l0 (k + d) (bitL P.testBit 32) ((P % 2 ^ i : Nat) : Int) (i : Int) = some (wrap32 (P : Int)) := by
  induction d with
  | zero =>
    intro i h k hk
    obtain ⟨m, rfl⟩ : ∃ m, k = m + 1 := ⟨k - 1, by omega⟩
    obtain rfl : i = 32 := by omega
    simp only [Nat.add_zero, formularyref07_From.l0, bitL_len]
    obtain ⟨q, rfl⟩ : ∃ q, m = q + 40 := ⟨m - 40, by omega⟩
    rw [if_neg (by omega), Nat.mod_eq_of_lt (by omega), wrap_eq _ (by omega) (by omega)]
    rfl
  | succ d ih =>
    intro i h k hk
    rw [show k + (d + 1) = (k + d) + 1 by omega]
    simp only [formularyref07_From.l0, bitL_len]
    rw [if_pos (by omega), if_pos (by omega), power_at i (by omega) (by omega), bitL_rd _ _ _ (by omega)]
    simp only [Option.bind_some]
    have hs : P % 2 ^ (i + 1) = P % 2 ^ i + 2 ^ i * (P.testBit i).toNat := by rw [Nat.toNat_testBit]; exact Nat.mod_pow_succ
    have hlt : P % 2 ^ (i + 1) ≤ P := Nat.mod_le _ _
    have hle : 2 ^ i * (P.testBit i).toNat ≤ P := by omega
    have e : b2i (P.testBit i) * ((2 ^ i : Nat) : Int) = ((2 ^ i * (P.testBit i).toNat : Nat) : Int) := by
      unfold b2i; rw [← Int.natCast_mul, Nat.mul_comm]
    rw [e, w64 (x := ((2 ^ i * (P.testBit i).toNat : Nat) : Int)) (by omega) (by omega), w64 (by omega) (by omega), w64 (by omega) (by omega)]
    rw [show ((P % 2 ^ i : Nat) : Int) + ((2 ^ i * (P.testBit i).toNat : Nat) : Int) = ((P % 2 ^ (i + 1) : Nat) : Int) by rw [hs]; push_cast; rfl, show (i : Int) + 1 = ((i + 1 : Nat) : Int) by omega]
    exact ih (i + 1) (by omega) k hk
theorem from_eq {P : Nat} (hP : P < 4294967296) {k : Nat} (hk : 90 ≤ k) : formularyref07_From.f k (bitL P.testBit 32) = some (wrap32 (P : Int)) := by
  obtain ⟨m, rfl⟩ : ∃ m, k = m + 32 := ⟨k - 32, by omega⟩
  have := from_loop P hP 32 0 (by omega) m (by omega)
  rw [Nat.pow_zero, Nat.mod_one] at this
  exact this
/-- the bits of an operation's result -/
def gbit (op : Int) (A B : Nat) (b : Int) (i : Nat) : Bool :=
  if op = 0 then A.testBit i && B.testBit i else if op = 1 then A.testBit i || B.testBit i else if op = 2 then A.testBit i ^^ B.testBit i
  else if op = 3 then decide (0 ≤ (i : Int) - b ∧ (i : Int) - b ≤ 31) && A.testBit ((i : Int) - b).toNat
  else if op = 4 then A.testBit (((i : Int) - b) % 32).toNat
  else if op = 5 then decide (i = 0) && A.testBit b.toNat else if op = 6 then A.testBit i || decide ((i : Int) = b) else A.testBit i && decide ((i : Int) ≠ b)
theorem high_bit {A : Nat} (hA : A < 4294967296) {i : Nat} (h : 32 ≤ i) : A.testBit i = false := by
  apply Nat.testBit_lt_two_pow
  have : 2 ^ 32 ≤ 2 ^ i := Nat.pow_le_pow_right (by decide) h
  omega
theorem rotN_bit {A : Nat} (hA : A < 4294967296) (s : Nat) (hs : s < 32) (i : Nat) (hi : i < 32) : (rotN A s).testBit i = A.testBit ((i + 32 - s) % 32) := by
  unfold rotN
  rw [Nat.testBit_or, show (4294967296 : Nat) = 2 ^ 32 from rfl, Nat.testBit_mod_two_pow, Nat.testBit_mul_two_pow, Nat.testBit_div_two_pow]
  by_cases h : s ≤ i
  · have h1 : (i + 32 - s) % 32 = i - s := by omega
    rw [h1, high_bit hA (show 32 ≤ i + (32 - s) by omega)]
    simp [hi, h]
  · have h1 : (i + 32 - s) % 32 = i + (32 - s) := by omega
    rw [h1]
    simp [h]
theorem progP_lt {op b : Int} {A B : Nat} (hA : A < 4294967296) (hB : B < 4294967296) (h6 : op = 6 → 0 ≤ b ∧ b < 32) : progP op A B b < 4294967296 := by
  unfold progP
  have hd : ∀ n, A / 2 ^ n < 4294967296 := fun n => Nat.lt_of_le_of_lt (Nat.div_le_self _ _) hA
  by_cases h0 : op = 0
  · rw [if_pos h0]; exact Nat.and_lt_two_pow (n := 32) _ hB
  rw [if_neg h0]
  by_cases h1 : op = 1
  · rw [if_pos h1]; exact or_lt32 hA hB
  rw [if_neg h1]
  by_cases h2 : op = 2
  · rw [if_pos h2]; exact Nat.xor_lt_two_pow (n := 32) hA hB
  rw [if_neg h2]
  by_cases h3 : op = 3
  · rw [if_pos h3]
    split
    · exact hd _
    · exact Nat.mod_lt _ (by decide)
  rw [if_neg h3]
  by_cases h4 : op = 4
  · rw [if_pos h4]; exact or_lt32 (Nat.mod_lt _ (by decide)) (hd _)
  rw [if_neg h4]
  by_cases h5 : op = 5
  · rw [if_pos h5]; exact Nat.and_lt_two_pow (n := 32) _ (by decide)
  rw [if_neg h5]
  by_cases h6' : op = 6
  · rw [if_pos h6']; exact or_lt32 hA (two_pow_lt (h6 h6'))
  · rw [if_neg h6']; exact Nat.lt_of_le_of_lt Nat.and_le_left hA
theorem progP_bit {op b : Int} {A B : Nat} (hk : 0 ≤ op ∧ op < 8) (hA : A < 4294967296) (h3 : op = 3 → -32 ≤ b ∧ b ≤ 32) (h5 : 5 ≤ op → 0 ≤ b ∧ b < 32) (i : Nat) (hi : i < 32) : (progP op A B b).testBit i = gbit op A B b i := by
  unfold progP gbit
  by_cases c0 : op = 0
  · rw [if_pos c0, if_pos c0, Nat.testBit_and]
  rw [if_neg c0, if_neg c0]
  by_cases c1 : op = 1
  · rw [if_pos c1, if_pos c1, Nat.testBit_or]
  rw [if_neg c1, if_neg c1]
  by_cases c2 : op = 2
  · rw [if_pos c2, if_pos c2, Nat.testBit_xor]
  rw [if_neg c2, if_neg c2]
  by_cases c3 : op = 3
  · have hb := h3 c3
    rw [if_pos c3, if_pos c3]
    by_cases hn : b < 0
    · rw [if_pos hn, Nat.testBit_div_two_pow]
      have e : ((i : Int) - b).toNat = i + (-b).toNat := by omega
      rw [e]
      by_cases hh : i + (-b).toNat ≤ 31
      · rw [decide_eq_true (by omega), Bool.true_and]
      · rw [decide_eq_false (by omega), high_bit hA (by omega)]; try simp
    · rw [if_neg hn, show (4294967296 : Nat) = 2 ^ 32 from rfl, Nat.testBit_mod_two_pow, Nat.testBit_mul_two_pow]
      have e : ((i : Int) - b).toNat = i - b.toNat := by omega
      rw [e, decide_eq_true hi, Bool.true_and]
      by_cases hh : b.toNat ≤ i
      · rw [decide_eq_true hh, decide_eq_true (by omega)]
      · rw [decide_eq_false hh, decide_eq_false (by omega)]; try simp
  rw [if_neg c3, if_neg c3]
  by_cases c4 : op = 4
  · rw [if_pos c4, if_pos c4, rotN_bit hA _ (by omega) i hi]
    congr 1; omega
  rw [if_neg c4, if_neg c4]
  by_cases c5 : op = 5
  · have hb := h5 (by omega)
    rw [if_pos c5, if_pos c5, Nat.testBit_and, Nat.testBit_div_two_pow]
    by_cases hz : i = 0
    · subst hz
      simp
    · rw [decide_eq_false hz]
      have : (1 : Nat).testBit i = false := by
        apply Nat.testBit_lt_two_pow
        have : 2 ^ 1 ≤ 2 ^ i := Nat.pow_le_pow_right (by decide) (by omega)
        omega
      rw [this, Bool.and_false, Bool.false_and]
  rw [if_neg c5, if_neg c5]
  by_cases c6 : op = 6
  · rw [if_pos c6, if_pos c6, Nat.testBit_or, Nat.testBit_two_pow]
    have hb := h5 (by omega)
    congr 1
    by_cases hz : (i : Int) = b
    · simp [hz]; omega
    · simp [hz]; omega
  · rw [if_neg c6, if_neg c6, Nat.testBit_and]
    have hb := h5 (by omega)
    have ht := two_pow_lt hb
    rw [show 4294967295 - 2 ^ b.toNat = 2 ^ 32 - (2 ^ b.toNat + 1) by omega, Nat.testBit_two_pow_sub_succ (by omega), Nat.testBit_two_pow, decide_eq_true hi, Bool.true_and]
    congr 1
    by_cases hz : (i : Int) = b
    · simp [hz]; omega
    · simp [hz]; omega
theorem b2i_mul (a b : Bool) : wrap64 (b2i a * b2i b) = b2i (a && b) := by cases a <;> cases b <;> decide +kernel
theorem b2i_max (a b : Bool) : mx (b2i a) (b2i b) = b2i (a || b) := by cases a <;> cases b <;> decide +kernel
theorem b2i_ne (a b : Bool) : formularybase_Bit.f (b2i a != b2i b) = some (b2i (a ^^ b)) := by cases a <;> cases b <;> rfl
theorem b2i_one (a : Bool) : formularybase_Bit.f (b2i a == 1) = some (b2i a) := by cases a <;> rfl
theorem bit_b2i (p : Prop) [Decidable p] (b : Bool) (h : b = decide p) : formularybase_Bit.f b = some (b2i (decide p)) := by
  subst h; unfold formularybase_Bit.f b2i
  by_cases hp : p <;> simp [hp]
/-- what was written so far -/
def sofar (g : Nat → Bool) (i : Nat) : List Int := bitL g i ++ List.replicate (32 - i) 0
theorem sofar_len (g : Nat → Bool) {i : Nat} (h : i ≤ 32) : (sofar g i).length = 32 := by
  simp [sofar, bitL_len]; omega
theorem sofar_next (g : Nat → Bool) {i : Nat} (h : i < 32) : (sofar g i).set i (b2i (g i)) = sofar g (i + 1) := by
  unfold sofar
  rw [show 32 - i = (32 - (i + 1)) + 1 by omega, List.replicate_succ, List.set_append, bitL_len, if_neg (by omega), Nat.sub_self, List.set_cons_zero, bitL_succ, List.append_assoc]
  rfl
theorem sofar_skip (g : Nat → Bool) {i : Nat} (h : i < 32) (hg : g i = false) : sofar g i = sofar g (i + 1) := by
  rw [← sofar_next g h, hg]
  unfold sofar
  rw [show 32 - i = (32 - (i + 1)) + 1 by omega, List.replicate_succ, List.set_append, bitL_len, if_neg (by omega), Nat.sub_self, List.set_cons_zero]
  rfl
theorem bitop_step {op b : Int} {A B : Nat} (hk : 0 ≤ op ∧ op < 8) (h34 : op = 3 ∨ op = 4 → -32 ≤ b ∧ b ≤ 32) (h5 : 5 ≤ op → 0 ≤ b ∧ b < 32) {i : Nat} (hi : i < 32) (k : Nat) :
    formularyref07_BitOp.l0 (k + 1) op b (bitL A.testBit 32) (bitL B.testBit 32) (sofar (gbit op A B b) i) (i : Int) = formularyref07_BitOp.l0 k op b (bitL A.testBit 32) (bitL B.testBit 32) (sofar (gbit op A B b) (i + 1)) ((i + 1 : Nat) : Int) := by
  have hi0 : (0 : Int) ≤ (i : Int) := by omega
  have hi32 : (i : Int) < ((32 : Nat) : Int) := by omega
  have hw : wrap64 ((i : Int) + 1) = ((i + 1 : Nat) : Int) := by rw [w64 (by omega) (by omega)]; rfl
  have hn := sofar_next (gbit op A B b) hi
  rw [← hw]
  generalize hg : gbit op A B b i = gi at hn
  unfold gbit at hg
  rw [← hn]
  conv => lhs; unfold formularyref07_BitOp.l0
  simp only [bitL_len, sofar_len _ (Nat.le_of_lt hi), if_pos hi0, if_pos hi32, bitL_rd _ _ _ hi, Int.toNat_natCast]
  rw [if_pos (by omega)]
  by_cases c0 : op = 0
  · rw [if_pos c0] at hg ⊢
    rw [b2i_mul, hg]
  rw [if_neg c0] at hg ⊢
  by_cases c1 : op = 1
  · rw [if_pos c1] at hg ⊢
    rw [b2i_max, hg]
  rw [if_neg c1] at hg ⊢
  by_cases c2 : op = 2
  · rw [if_pos c2] at hg ⊢
    rw [b2i_ne, hg]; rfl
  rw [if_neg c2] at hg ⊢
  by_cases c3 : op = 3
  · have hb := h34 (.inl c3)
    rw [if_pos c3] at hg ⊢
    rw [w64 (by omega) (by omega), within_eq]
    simp only [Option.bind_some]
    by_cases hc : 0 ≤ (i : Int) - b ∧ (i : Int) - b ≤ 31
    · rw [decide_eq_true hc, Bool.true_and] at hg
      obtain ⟨m, hm⟩ := Int.eq_ofNat_of_zero_le hc.1
      rw [decide_eq_true hc.1, decide_eq_true hc.2, if_pos (by decide), if_pos hc.1, if_pos (by omega), hm, bitL_rd _ _ _ (by omega)]
      rw [hm, Int.toNat_natCast] at hg
      rw [hg]
    · rw [decide_eq_false hc, Bool.false_and] at hg
      have : (decide (0 ≤ (i : Int) - b) && decide ((i : Int) - b ≤ 31)) = false := by
        rw [← Bool.decide_and]; exact decide_eq_false hc
      rw [this, if_neg (by decide), hn]
      have hs := sofar_skip (gbit op A B b) hi (by unfold gbit; rw [if_neg c0, if_neg c1, if_neg c2, if_pos c3, decide_eq_false hc, Bool.false_and])
      rw [← hs]
  rw [if_neg c3] at hg ⊢
  by_cases c4 : op = 4
  · have hb := h34 (.inr c4)
    rw [if_pos c4] at hg ⊢
    rw [w64 (by omega) (by omega), mod_eq _ _ (by decide) (by decide)]
    simp only [Option.bind_some]
    obtain ⟨m, hm⟩ := Int.eq_ofNat_of_zero_le (show 0 ≤ ((i : Int) - b) % 32 by omega)
    rw [hm, Int.toNat_natCast] at hg
    rw [hm, if_pos (by omega), if_pos (by omega), bitL_rd _ _ _ (by omega), hg]
  rw [if_neg c4] at hg ⊢
  by_cases c5 : op = 5
  · have hb := h5 (by omega)
    rw [if_pos c5] at hg ⊢
    by_cases hz : i = 0
    · subst hz
      obtain ⟨m, hm⟩ := Int.eq_ofNat_of_zero_le hb.1
      rw [decide_eq_true rfl, Bool.true_and, hm, Int.toNat_natCast] at hg
      rw [if_pos (by rfl), if_pos hb.1, hm, if_pos (by omega), bitL_rd _ _ _ (by omega), b2i_one, hg]; rfl
    · rw [decide_eq_false hz, Bool.false_and] at hg
      rw [if_neg (by omega), ← hg]; rfl
  rw [if_neg c5] at hg ⊢
  by_cases c6 : op = 6
  · rw [if_pos c6] at hg ⊢
    rw [bit_b2i ((i : Int) = b) _ (by by_cases h : (i : Int) = b <;> simp [h])]
    simp only [Option.bind_some]
    rw [b2i_max, hg]
  · rw [if_neg c6] at hg ⊢
    rw [bit_b2i ((i : Int) ≠ b) _ (by by_cases h : (i : Int) = b <;> simp [h])]
    simp only [Option.bind_some]
    rw [b2i_mul, hg]
theorem bitop_loop {op b : Int} {A B : Nat} (hA : A < 4294967296) (hB : B < 4294967296) (hk : 0 ≤ op ∧ op < 8) (h34 : op = 3 ∨ op = 4 → -32 ≤ b ∧ b ≤ 32) (h5 : 5 ≤ op → 0 ≤ b ∧ b < 32) (d : Nat) :
    ∀ i : Nat, i + d = 32 → ∀ k, 100 ≤ k → formularyref07_BitOp.l0 (k + d) op b (bitL A.testBit 32) (bitL B.testBit 32) (sofar (gbit op A B b) i) (i : Int) = some (wrap32 ((progP op A B b : Nat) : Int), 0) := by
  induction d with
  | zero =>
    intro i h k hk'
    obtain ⟨m, rfl⟩ : ∃ m, k = m + 1 := ⟨k - 1, by omega⟩
    obtain rfl : i = 32 := by omega
    simp only [Nat.add_zero]
    unfold formularyref07_BitOp.l0
    rw [if_neg (by decide)]
    have e : sofar (gbit op A B b) 32 = bitL (progP op A B b).testBit 32 := by
      unfold sofar
      rw [Nat.sub_self, List.replicate_zero, List.append_nil]
      exact bitL_congr fun i hi => (progP_bit hk hA (fun h => h34 (.inl h)) h5 i hi).symm
    rw [e, from_eq (progP_lt hA hB (fun h => h5 (by omega))) (by omega)]
    rfl
  | succ d ih =>
    intro i h k hk'
    rw [show k + (d + 1) = (k + d) + 1 by omega, bitop_step hk h34 h5 (by omega)]
    exact ih (i + 1) (by omega) k hk'
theorem ref_bit_eq (op a b : Int) {k : Nat} (hk' : 200 ≤ k) : formularyref07_BitOp.f k op a b = some (bitS op a b) := by
  obtain ⟨m, rfl⟩ : ∃ m, k = m + 33 := ⟨k - 33, by omega⟩
  unfold formularyref07_BitOp.f bitS
  rw [operr op 8 (by decide) (by decide), twoErr]
  simp only [Option.bind_some]
  by_cases hk : 0 ≤ op ∧ op < 8
  · rw [if_pos hk, if_neg (not_not_intro hk), if_pos rfl]
    cases hab : isI a && isI b with
    | false => rfl
    | true =>
      have hj : ∀ z : Bool, z = decide ((op = 3 ∨ op = 4) ∧ ¬ (-32 ≤ b ∧ b ≤ 32) ∨ 5 ≤ op ∧ ¬ (0 ≤ b ∧ b < 32)) → formularyref07_BitOp.j0 (m + 33) op a b z =
          some (if (op = 3 ∨ op = 4) ∧ ¬ (-32 ≤ b ∧ b ≤ 32) ∨ 5 ≤ op ∧ ¬ (0 ≤ b ∧ b < 32) then (0, 2) else (wrap32 ((progP op (pat a) (pat b) b : Nat) : Int), 0)) := by
        intro z hz
        subst hz
        simp only [formularyref07_BitOp.j0]
        by_cases hc : (op = 3 ∨ op = 4) ∧ ¬ (-32 ≤ b ∧ b ≤ 32) ∨ 5 ≤ op ∧ ¬ (0 ≤ b ∧ b < 32)
        · rw [if_pos hc, decide_eq_true hc]; rfl
        · rw [if_neg hc, decide_eq_false hc, if_neg (by decide), bits_eq a (by omega), bits_eq b (by omega)]
          simp only [Option.bind_some]
          rw [if_pos (by decide)]
          have := bitop_loop (A := pat a) (B := pat b) (pat_lt a) (pat_lt b) hk (b := b) (fun h => Decidable.byContradiction fun hn => hc (.inl ⟨h, hn⟩)) (fun h => Decidable.byContradiction fun hn => hc (.inr ⟨h, hn⟩)) 32 0 (by omega) m (by omega)
          exact this
      simp only [if_true, Bool.true_eq_false, if_false, within_eq, Option.bind_some]
      by_cases c3 : op = 3
      · rw [if_pos c3]
        by_cases hr : -32 ≤ b ∧ b ≤ 32
        · rw [decide_eq_true hr.1, decide_eq_true hr.2, if_pos (by decide), if_neg (by omega)]
          exact hj _ (by rw [eq_comm, decide_eq_false]; omega)
        · have : (decide (-32 ≤ b) && decide (b ≤ 32)) = false := by rw [← Bool.decide_and]; exact decide_eq_false hr
          rw [this, if_neg (by decide)]
          exact hj _ (by rw [eq_comm, decide_eq_true]; omega)
      rw [if_neg c3]
      by_cases c4 : op = 4
      · rw [if_pos c4]
        by_cases hr : -32 ≤ b ∧ b ≤ 32
        · rw [decide_eq_true hr.1, decide_eq_true hr.2, if_pos (by decide), if_neg (by omega)]
          exact hj _ (by rw [eq_comm, decide_eq_false]; omega)
        · have : (decide (-32 ≤ b) && decide (b ≤ 32)) = false := by rw [← Bool.decide_and]; exact decide_eq_false hr
          rw [this, if_neg (by decide)]
          exact hj _ (by rw [eq_comm, decide_eq_true]; omega)
      rw [if_neg c4]
      by_cases c5 : op ≥ 5
      · rw [if_pos c5]
        by_cases hr : 0 ≤ b ∧ b ≤ 31
        · rw [decide_eq_true hr.1, decide_eq_true hr.2]
          exact hj _ (by rw [eq_comm]; show decide _ = false; rw [decide_eq_false]; omega)
        · have : (decide (0 ≤ b) && decide (b ≤ 31)) = false := by rw [← Bool.decide_and]; exact decide_eq_false hr
          rw [this]
          exact hj _ (by rw [eq_comm]; show decide _ = true; rw [decide_eq_true]; omega)
      · rw [if_neg c5]
        exact hj _ (by rw [eq_comm, decide_eq_false]; omega)
  · rw [if_neg hk, if_pos hk]; rfl
theorem IntegersBits : formularylaw07_IntegersBits.Pure := by
  intro op a b _ _ _
  refine ⟨300, ?_⟩
  unfold formularylaw07_IntegersBits.f
  rw [awake_any 260, bit_eq op a b 290, ref_bit_eq op a b (by decide)]
  simp

end Go.Proofs.Ytgmlihjopinagaa.Pure
