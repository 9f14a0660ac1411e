/-
For every input the law IntegersFields answers true: a field, and a number with another field, are as the reference says, or the errors; the field that was put is there. No condition is added to the given statement.
-/
import Derived.Test.YtgmlihjopinagaaPIntegersFieldsx9
import Derived.Laws.BitsAllLaws
namespace Go.Proofs.Ytgmlihjopinagaa.Pure
open Go.RowKit Go.Proofs.Ytgmlihjopinagaa.PIntegersFields Go.Proofs.YtgmlihjopinagaaW.PrintWords Go.Proofs.YtgmlihjopinagaaW.PrintLast
set_option linter.unusedVariables false
set_option linter.unusedSimpArgs false

/-! ### what all of chapter 7 needs: numbers -/
def isI (n : Int) : Bool := decide (-2147483648 ≤ n) && decide (n ≤ 2147483647)
theorem isI_iff {n : Int} : isI n = true ↔ -2147483648 ≤ n ∧ n ≤ 2147483647 := by simp [isI]
theorem isI_not {n : Int} : isI n = false ↔ ¬ (-2147483648 ≤ n ∧ n ≤ 2147483647) := by
  rw [← Bool.not_eq_true, isI_iff]
theorem w64 {x : Int} (h1 : -9223372036854775808 ≤ x) (h2 : x ≤ 9223372036854775807) : wrap64 x = x := by unfold wrap64; omega
theorem num_int (n : Int) : integers_number_integer.f n = some (isI n) := by
  unfold integers_number_integer.f isI
  split
  · rename_i h; simp [h]
  · rename_i h; simp; omega
theorem within_eq (a b c : Int) : formularybase_Within.f a b c = some (decide (b ≤ a) && decide (a ≤ c)) := by
  unfold formularybase_Within.f
  split
  · rename_i h; simp; omega
  · rename_i h
    have : b ≤ a := by omega
    simp only [this, decide_true, Bool.true_and, Option.some.injEq]
    by_cases h2 : a ≤ c
    · simp [h2]
    · simp [h2]; omega
theorem ref_int (n : Int) : formularyref07_IsInteger.f n = some (isI n) := by
  unfold formularyref07_IsInteger.f; rw [within_eq]; rfl
theorem want_eq (c : Int) (b : Bool) (e : Int) : integers_check_want.f c b e = some (if c = 0 then (if b = true then c else e) else c) := by
  unfold integers_check_want.f; split
  · split <;> rfl
  · rfl
theorem err_eq (c : Int) : integers_check_err.f c = some c := rfl
/-- the error of numbers that should be INTEGERs -/
def numE (c : Int) (b : Bool) : Int := if c = 0 then (if b = true then c else 2) else c
theorem ints1 (k : Nat) (c a : Int) : integers_check_integers.f (k + 3) c [a] = some (numE c (isI a)) := by
  unfold integers_check_integers.f
  simp only [List.length_cons, List.length_nil]
  rw [show ((0 + 1 : Nat) : Int) = 1 from rfl]
  simp only [integers_check_integers.l0, List.length_cons, List.length_nil]
  simp [num_int, want_eq, rd, w64, numE]
theorem ints2 (k : Nat) (c a b : Int) : integers_check_integers.f (k + 4) c [a, b] = some (numE (numE c (isI a)) (isI b)) := by
  unfold integers_check_integers.f
  simp only [List.length_cons, List.length_nil]
  simp only [integers_check_integers.l0, List.length_cons, List.length_nil]
  simp only [num_int, want_eq, rd, Option.bind_some]
  simp [w64, numE]
  rfl
theorem numE_two (a b : Bool) : numE (numE 0 a) b = if (a && b) = true then 0 else 2 := by cases a <;> cases b <;> decide
theorem numErr (a : Int) : formularyref07_NumberErr.f a = some (if isI a = true then 0 else 2) := by
  unfold formularyref07_NumberErr.f; rw [ref_int]; simp only [Option.bind_some]; split <;> rfl
theorem mul_bound {x a : Int} (hx : isI x = true) (ha : isI a = true) : -4611686018427387904 ≤ x * a ∧ x * a ≤ 4611686018427387904 := by
  rw [isI_iff] at hx ha
  have h1 : x.natAbs ≤ 2147483648 := by omega
  have h2 : a.natAbs ≤ 2147483648 := by omega
  have h3 : (x * a).natAbs ≤ 2147483648 * 2147483648 := by rw [Int.natAbs_mul]; exact Nat.mul_le_mul h1 h2
  omega
/-! ### operations -/
theorem natAbs_tdiv_le (a b : Int) : (a.tdiv b).natAbs ≤ a.natAbs := by
  rw [Int.natAbs_tdiv]; exact Nat.div_le_self _ _
theorem tmod_small (a : Int) {b : Int} (hb : b ≠ 0) : (a.tmod b).natAbs < b.natAbs := by
  rw [Int.natAbs_tmod]; exact Nat.mod_lt _ (by omega)
theorem tmod_le (a b : Int) : (a.tmod b).natAbs ≤ a.natAbs := by
  rw [Int.natAbs_tmod]; exact Nat.mod_le _ _
theorem mx_max (a b : Int) : mx a b = max a b := by unfold mx; omega
theorem mn_min (a b : Int) : mn a b = min a b := by unfold mn; omega
/-- the exact result of an operation -/
def exS (op a b : Int) : Int :=
  if op = 0 then a + b else if op = 1 then a - b else if op = 2 then a * b else if op = 3 then a.tdiv b else if op = 4 then a.tmod b
  else if op = 5 then (if b < 0 then -(a.natAbs : Int) else (a.natAbs : Int)) else if op = 6 then max (a - b) 0 else if op = 7 then min a b else max a b
theorem size_num {a : Int} (h : isI a = true) : integers_number_size.f a = some (a.natAbs : Int) := by
  rw [isI_iff] at h
  unfold integers_number_size.f
  rw [w64 (by omega) (by omega), mx_max]
  congr 1; omega
theorem exact_eq {op a b : Int} (ha : isI a = true) (hb : isI b = true) (hz : ¬ ((op = 3 ∨ op = 4) ∧ b = 0)) : integers_exact.f op a b = some (exS op a b) := by
  have hm := mul_bound ha hb
  have ha' := isI_iff.1 ha
  have hb' := isI_iff.1 hb
  have hd := natAbs_tdiv_le a b
  unfold integers_exact.f exS
  by_cases h0 : op = 0
  · rw [if_pos h0, if_pos h0, w64 (by omega) (by omega)]
  rw [if_neg h0, if_neg h0]
  by_cases h1 : op = 1
  · rw [if_pos h1, if_pos h1, w64 (by omega) (by omega)]
  rw [if_neg h1, if_neg h1]
  by_cases h2 : op = 2
  · rw [if_pos h2, if_pos h2, w64 (by omega) (by omega)]
  rw [if_neg h2, if_neg h2]
  by_cases h3 : op = 3
  · rw [if_pos h3, if_pos h3, if_neg (fun h => hz ⟨.inl h3, h⟩), w64 (by omega) (by omega)]
  rw [if_neg h3, if_neg h3]
  by_cases h4 : op = 4
  · rw [if_pos h4, if_pos h4, if_neg (fun h => hz ⟨.inr h4, h⟩)]
  rw [if_neg h4, if_neg h4]
  by_cases h5 : op = 5
  · rw [if_pos h5, if_pos h5, size_num ha]
    simp only [Option.bind_some]
    split
    · rw [w64 (by omega) (by omega)]
    · rfl
  rw [if_neg h5, if_neg h5]
  by_cases h6 : op = 6
  · rw [if_pos h6, if_pos h6, w64 (by omega) (by omega), mx_max]
  rw [if_neg h6, if_neg h6, mx_max, mn_min]
  split <;> rfl
/-- the result of an operation, and its error but for an overflow -/
def opS (op a b : Int) : Int × Int :=
  if ¬ (0 ≤ op ∧ op < 9) then (0, 15) else if (isI a && isI b) = false then (0, 2) else if (op = 3 ∨ op = 4) ∧ b = 0 then (0, 11) else (exS op a b, 0)
theorem divides_eq (op : Int) : integers_divides.f op = some (decide (op = 3 ∨ op = 4)) := by
  unfold integers_divides.f
  split
  · rename_i h; simp [h]
  · rename_i h
    by_cases h4 : op = 4
    · simp [h4]
    · simp [h, h4]
theorem kind_eq (op n : Int) : integers_check_kind.f 0 op n = some (if 0 ≤ op ∧ op < n then 0 else 15) := by
  unfold integers_check_kind.f
  simp only [want_eq, if_true, Option.bind_some]
  by_cases h : 0 ≤ op
  · rw [if_pos h]
    by_cases h2 : op < n
    · simp [h, h2]
    · simp [h2]
  · rw [if_neg h]; simp [h]
theorem numE_ne {c : Int} (h : c ≠ 0) (b : Bool) : numE c b = c := by rw [numE, if_neg h]
theorem op_eq (op a b : Int) (k : Nat) : integers_operation.f (k + 5) op a b = some (opS op a b) := by
  unfold integers_operation.f opS
  rw [kind_eq, divides_eq]
  simp only [Option.bind_some]
  rw [ints2 (k + 1)]
  simp only [Option.bind_some]
  by_cases hk : 0 ≤ op ∧ op < 9
  · rw [if_pos hk, if_neg (not_not_intro hk), numE_two]
    cases hb : isI a && isI b with
    | false =>
      rw [if_pos rfl]
      simp only [Bool.false_eq_true, if_false, want_eq]
      split <;> rfl
    | true =>
      rw [Bool.and_eq_true] at hb
      simp only [if_true, Bool.true_eq_false, if_false, want_eq, Option.bind_some]
      by_cases hd : op = 3 ∨ op = 4
      · simp only [hd, decide_true, true_and, if_true, bne_iff_ne, ne_eq]
        by_cases hz : b = 0
        · rw [if_pos hz, if_neg (not_not_intro hz)]; rfl
        · rw [if_neg hz, if_pos hz]
          simp only [integers_operation.j0, if_true]
          rw [exact_eq hb.1 hb.2 (fun h => hz h.2)]; rfl
      · simp only [hd, decide_false, false_and, if_false, Bool.false_eq_true]
        simp only [integers_operation.j0, if_true]
        rw [exact_eq hb.1 hb.2 (fun h => hd h.1)]; rfl
  · rw [if_neg hk, if_pos hk, numE_ne (c := 15) (by decide), numE_ne (c := 15) (by decide)]
    simp only [want_eq]
    split <;> rfl
/-- what Apply returns -/
def applyS (op a b : Int) : Int × Int := if (opS op a b).2 = 0 then (if isI (opS op a b).1 = true then ((opS op a b).1, 0) else (0, 28)) else (0, (opS op a b).2)
theorem apply_eq (op a b : Int) (k : Nat) : integers_Apply.f (k + 5) op a b = some (applyS op a b) := by
  unfold integers_Apply.f applyS integers_told.f
  rw [op_eq]
  simp only [Option.bind_some, num_int]
  split
  · split <;> rfl
  · rfl
theorem wrap32_in (n : Int) : -2147483648 ≤ wrap32 n ∧ wrap32 n ≤ 2147483647 := by unfold wrap32; omega
theorem wrapped_eq (op a b : Int) (k : Nat) : integers_Wrapped.f (k + 5) op a b = some (wrap32 (opS op a b).1, (opS op a b).2) := by
  unfold integers_Wrapped.f integers_number_wrapped.f
  rw [op_eq]
  have := wrap32_in (opS op a b).1
  simp only [Option.bind_some]
  rw [w64 (by omega) (by omega)]
/-! ### the reference's operations -/
theorem power32 (k : Nat) : formularybase_Power.f (k + 40) 32 = some 4294967296 := at_rounds (g := fun k => formularybase_Power.f k 32) (formularybase_Power.mono 32) (by omega) (show formularybase_Power.f 40 32 = some 4294967296 by decide +kernel)
theorem mod_eq (n m : Int) (h1 : 0 < m) (h2 : m ≤ 4611686018427387904) : formularybase_Mod.f n m = some (n % m) := by
  have hs := tmod_small n (b := m) (by omega)
  have he := Int.emod_nonneg n (b := m) (by omega)
  have ht := Int.tmod_eq_emod (a := n) (b := m)
  unfold formularybase_Mod.f formularybase_Bit.f
  rw [if_neg (by omega)]
  by_cases h : n.tmod m < 0
  · have hneg : ¬ (0 ≤ n ∨ m ∣ n) := by
      intro hc; rw [if_pos hc] at ht; omega
    rw [if_neg hneg] at ht
    simp only [h, decide_true, if_true, Option.bind_some]
    rw [Int.mul_one, w64 (x := m) (by omega) (by omega), w64 (by omega) (by omega)]
    congr 1; omega
  · simp only [h, decide_false, Bool.false_eq_true, if_false, Option.bind_some]
    rw [Int.mul_zero, w64 (x := 0) (by omega) (by omega), w64 (by omega) (by omega)]
    congr 1
    by_cases hc : 0 ≤ n ∨ m ∣ n
    · rw [if_pos hc] at ht; omega
    · rw [if_neg hc] at ht
      have := Int.emod_lt_of_pos n h1
      omega
theorem wrap_eq (n : Int) (h1 : -4611686018427387904 ≤ n) (h2 : n ≤ 4611686018427387904) (k : Nat) : formularyref07_Wrap.f (k + 40) n = some (wrap32 n) := by
  unfold formularyref07_Wrap.f
  rw [power32]
  simp only [Option.bind_some]
  rw [w64 (by omega) (by omega), mod_eq _ _ (by omega) (by omega)]
  simp only [Option.bind_some]
  rw [w64 (by omega) (by omega)]
  unfold wrap32
  congr 1
theorem exS_bound {op a b : Int} (ha : isI a = true) (hb : isI b = true) : -4611686018427387904 ≤ exS op a b ∧ exS op a b ≤ 4611686018427387904 := by
  have hm := mul_bound ha hb
  have ha' := isI_iff.1 ha
  have hb' := isI_iff.1 hb
  have hd := natAbs_tdiv_le a b
  have hr := tmod_le a b
  unfold exS
  repeat' split
  all_goals omega
/-! ### patterns of bits -/
def pat (a : Int) : Nat := (a % 4294967296).toNat
theorem pat_lt (a : Int) : pat a < 4294967296 := by unfold pat; omega
theorem pat_cast (a : Int) : ((pat a : Nat) : Int) = a % 4294967296 := by unfold pat; omega
theorem pattern_eq (a : Int) : integers_pattern.f a = some ((pat a : Nat) : Int) := by
  unfold integers_pattern.f
  rw [pat_cast]
  congr 1
  unfold wrap32
  omega
theorem signed_eq (x : Int) : integers_signed.f x = some (wrap32 x) := by
  unfold integers_signed.f
  have := wrap32_in x
  rw [w64 (by omega) (by omega)]
theorem wrap32_pat (a : Int) (h : isI a = true) : wrap32 ((pat a : Nat) : Int) = a := by
  rw [isI_iff] at h
  rw [pat_cast]
  unfold wrap32
  omega
def rotN (A s : Nat) : Nat := (A * 2 ^ s % 4294967296) ||| (A / 2 ^ (32 - s))
theorem or_lt32 {a b : Nat} (h1 : a < 4294967296) (h2 : b < 4294967296) : a ||| b < 4294967296 := Nat.or_lt_two_pow (n := 32) h1 h2
theorem rot_count (b : Int) : Go.bits .and .u64 (IntKind.u64.wrap b) 31 = b % 32 := by
  have hw : IntKind.u64.wrap b = b % 18446744073709551616 := by simp [IntKind.wrap, IntKind.bits, IntKind.signed]
  rw [hw]
  obtain ⟨n, hn⟩ := Int.eq_ofNat_of_zero_le (show 0 ≤ b % 18446744073709551616 by omega)
  rw [hn]
  have h := Go.u64_and_nat n 31 (by omega) (by decide)
  have h2 : n &&& 31 = n % 32 := Nat.and_two_pow_sub_one_eq_mod n 5
  rw [h2] at h
  refine h.trans ?_
  omega
theorem u64w {x : Int} (h1 : 0 ≤ x) (h2 : x < 18446744073709551616) : IntKind.u64.wrap x = x := by
  have : IntKind.u64.wrap x = x % 18446744073709551616 := by simp [IntKind.wrap, IntKind.bits, IntKind.signed]
  rw [this]; omega
theorem shl32 (A s : Nat) (hs : s ≤ 32) : shl .u32 (A : Int) (s : Int) = ((A * 2 ^ s % 4294967296 : Nat) : Int) := by
  unfold shl
  have : min (s : Int).toNat (IntKind.bits .u32) = s := by rw [Int.toNat_natCast]; exact Nat.min_eq_left hs
  rw [this, IntKind.wrap_u32]
  simp
theorem shr32 (A s : Nat) (hs : s ≤ 32) : shr .u32 (A : Int) (s : Int) = ((A / 2 ^ s : Nat) : Int) := by
  unfold shr
  have : min (s : Int).toNat (IntKind.bits .u32) = s := by rw [Int.toNat_natCast]; exact Nat.min_eq_left hs
  rw [this]
  simp
theorem rotate_eq {A : Nat} (hA : A < 4294967296) (b : Int) : bits_RotateLeft32.f (A : Int) b = some ((rotN A (b % 32).toNat : Nat) : Int) := by
  unfold bits_RotateLeft32.f
  rw [rot_count]
  obtain ⟨s, hs⟩ := Int.eq_ofNat_of_zero_le (show 0 ≤ b % 32 by omega)
  rw [hs, if_pos (by omega), u64w (x := 32 - (s : Int)) (by omega) (by omega), if_pos (by omega), Int.toNat_natCast, shl32 A s (by omega)]
  rw [show (32 : Int) - (s : Int) = ((32 - s : Nat) : Int) by omega, shr32 A (32 - s) (by omega)]
  have h2 : A / 2 ^ (32 - s) ≤ A := Nat.div_le_self _ _
  rw [Go.u32_or_nat _ _ (Nat.mod_lt _ (by decide)) (by omega)]
  rfl
/-- the pattern of an operation's result -/
def progP (op : Int) (A B : Nat) (b : Int) : Nat :=
  if op = 0 then A &&& B else if op = 1 then A ||| B else if op = 2 then A ^^^ B
  else if op = 3 then (if b < 0 then A / 2 ^ (-b).toNat else A * 2 ^ b.toNat % 4294967296)
  else if op = 4 then rotN A (b % 32).toNat
  else if op = 5 then A / 2 ^ b.toNat &&& 1 else if op = 6 then A ||| 2 ^ b.toNat else A &&& (4294967295 - 2 ^ b.toNat)
/-- what BitOp returns -/
def bitS (op a b : Int) : Int × Int :=
  if ¬ (0 ≤ op ∧ op < 8) then (0, 15) else if (isI a && isI b) = false then (0, 2)
  else if (op = 3 ∨ op = 4) ∧ ¬ (-32 ≤ b ∧ b ≤ 32) ∨ 5 ≤ op ∧ ¬ (0 ≤ b ∧ b < 32) then (0, 2)
  else (wrap32 ((progP op (pat a) (pat b) b : Nat) : Int), 0)
theorem two_pow_lt {b : Int} (h : 0 ≤ b ∧ b < 32) : 2 ^ b.toNat < 4294967296 := by
  have : 2 ^ b.toNat ≤ 2 ^ 31 := Nat.pow_le_pow_right (by decide) (by omega)
  omega
theorem shl_one {b : Int} (h : 0 ≤ b ∧ b < 32) : shl .u32 1 b = ((2 ^ b.toNat : Nat) : Int) := by
  have := shl32 1 b.toNat (by omega)
  rw [Int.toNat_of_nonneg h.1, Nat.one_mul, Nat.mod_eq_of_lt (two_pow_lt h)] at this
  exact this
theorem bit_eq (op a b : Int) (k : Nat) : integers_BitOp.f (k + 10) op a b = some (bitS op a b) := by
  unfold integers_BitOp.f bitS
  rw [kind_eq]
  simp only [Option.bind_some]
  rw [ints2 (k + 6)]
  simp only [Option.bind_some]
  by_cases hk : 0 ≤ op ∧ op < 8
  · rw [if_pos hk, if_neg (not_not_intro hk), numE_two]
    cases hb : isI a && isI b with
    | false => rfl
    | true =>
      rw [Bool.and_eq_true] at hb
      simp only [if_true, Bool.true_eq_false, if_false]
      rw [pattern_eq, pattern_eq]
      simp only [Option.bind_some]
      have hA := pat_lt a
      have hB := pat_lt b
      rw [Go.u32_and_nat _ _ hA hB, Go.u32_or_nat _ _ hA hB, Go.u32_xor_nat _ _ hA hB]
      simp only [signed_eq, Option.bind_some]
      by_cases h0 : op = 0
      · rw [if_pos h0, if_neg (by omega), progP, if_pos h0]
      rw [if_neg h0]
      by_cases h1 : op = 1
      · rw [if_pos h1, if_neg (by omega), progP, if_neg h0, if_pos h1]
      rw [if_neg h1]
      by_cases h2 : op = 2
      · rw [if_pos h2, if_neg (by omega), progP, if_neg h0, if_neg h1, if_pos h2]
      rw [if_neg h2]
      have hP : progP op (pat a) (pat b) b = if op = 3 then (if b < 0 then pat a / 2 ^ (-b).toNat else pat a * 2 ^ b.toNat % 4294967296) else if op = 4 then rotN (pat a) (b % 32).toNat
          else if op = 5 then pat a / 2 ^ b.toNat &&& 1 else if op = 6 then pat a ||| 2 ^ b.toNat else pat a &&& (4294967295 - 2 ^ b.toNat) := by rw [progP, if_neg h0, if_neg h1, if_neg h2]
      rw [hP]
      by_cases h34 : op = 3 ∨ op = 4
      · have hz : ∀ z : Bool, z = true → integers_BitOp.j0 (k + 10) op b 0 ((pat a : Nat) : Int) z = some (if (op = 3 ∨ op = 4) ∧ ¬ (-32 ≤ b ∧ b ≤ 32) ∨ 5 ≤ op ∧ ¬ (0 ≤ b ∧ b < 32) then (0, 2) else (wrap32 ((if op = 3 then (if b < 0 then pat a / 2 ^ (-b).toNat else pat a * 2 ^ b.toNat % 4294967296) else if op = 4 then rotN (pat a) (b % 32).toNat
          else if op = 5 then pat a / 2 ^ b.toNat &&& 1 else if op = 6 then pat a ||| 2 ^ b.toNat else pat a &&& (4294967295 - 2 ^ b.toNat) : Nat) : Int), 0)) := by
          intro z hz
          subst hz
          simp only [integers_BitOp.j0, if_true, want_eq, Option.bind_some]
          by_cases hr : -32 ≤ b ∧ b ≤ 32
          · rw [if_pos hr.1, decide_eq_true hr.2, if_pos rfl, if_neg (by omega)]
            simp only [integers_BitOp.j1, if_true]
            by_cases h4 : op = 4
            · rw [if_pos h4, if_neg (by omega), if_pos h4, rotate_eq hA]
              simp only [Option.bind_some, signed_eq]
            · have h3 : op = 3 := by omega
              rw [if_neg h4, if_pos h3]
              by_cases hn : b < 0
              · obtain ⟨m, hm⟩ := Int.eq_ofNat_of_zero_le (show 0 ≤ -b by omega)
                rw [if_pos hn, if_pos hn, w64 (by omega) (by omega), if_pos (by omega), hm, shr32 _ m (by omega), Int.toNat_natCast]
                simp only [signed_eq, Option.bind_some]
              · obtain ⟨m, hm⟩ := Int.eq_ofNat_of_zero_le (show 0 ≤ b by omega)
                rw [if_neg hn, if_neg hn, if_pos (by omega), hm, shl32 _ m (by omega), Int.toNat_natCast]
                simp only [signed_eq, Option.bind_some]
          · rw [if_pos (show (op = 3 ∨ op = 4) ∧ ¬ (-32 ≤ b ∧ b ≤ 32) ∨ 5 ≤ op ∧ ¬ (0 ≤ b ∧ b < 32) from .inl ⟨h34, hr⟩)]
            by_cases hl : -32 ≤ b
            · have : ¬ b ≤ 32 := fun h => hr ⟨hl, h⟩
              rw [if_pos hl, decide_eq_false this]; rfl
            · rw [if_neg hl]; rfl
        by_cases h3 : op = 3
        · rw [if_pos h3]; exact hz _ (by simp [h3])
        · rw [if_neg h3]; exact hz _ (by have : op = 4 := by omega
                                         simp [this])
      · have h3 : op ≠ 3 := fun h => h34 (.inl h)
        have h4 : op ≠ 4 := fun h => h34 (.inr h)
        have e4 : (op == 4) = false := by simp [h4]
        rw [if_neg h3, e4]
        simp only [integers_BitOp.j0, Bool.false_eq_true, if_false, want_eq, Option.bind_some, if_true]
        by_cases hr : 0 ≤ b ∧ b < 32
        · rw [if_pos hr.1, decide_eq_true hr.2, if_pos rfl, if_neg (by omega)]
          simp only [integers_BitOp.j2, if_true]
          have ht := two_pow_lt hr
          obtain ⟨m, hm⟩ := Int.eq_ofNat_of_zero_le hr.1
          have hd : pat a / 2 ^ m ≤ pat a := Nat.div_le_self _ _
          rw [shl_one hr, Go.u32_or_nat _ _ hA ht, Go.u32_andNot_nat _ _ hA ht, if_pos hr.1, if_neg h3, if_neg h4]
          have e1 : Go.bits .and .u32 (shr .u32 ((pat a : Nat) : Int) b) 1 = ((pat a / 2 ^ b.toNat &&& 1 : Nat) : Int) := by
            rw [hm, shr32 _ m (by omega), Int.toNat_natCast]
            exact Go.u32_and_nat _ 1 (by omega) (by decide)
          rw [e1]
          simp only [signed_eq, Option.bind_some]
          by_cases h5 : op = 5
          · rw [if_pos h5, if_pos h5]
          rw [if_neg h5, if_neg h5]
          by_cases h6 : op = 6
          · rw [if_pos h6, if_pos h6]
          · rw [if_neg h6, if_neg h6]
        · rw [if_pos (show (op = 3 ∨ op = 4) ∧ ¬ (-32 ≤ b ∧ b ≤ 32) ∨ 5 ≤ op ∧ ¬ (0 ≤ b ∧ b < 32) from .inr ⟨by omega, hr⟩)]
          by_cases hl : 0 ≤ b
          · have : ¬ b < 32 := fun h => hr ⟨hl, h⟩
            rw [if_pos hl, decide_eq_false this]; rfl
          · rw [if_neg hl]; rfl
  · rw [if_neg hk, if_pos hk, numE_ne (c := 15) (by decide), numE_ne (c := 15) (by decide)]; rfl
theorem awake_true : formularylaw07_awake.f 40 = some true := by decide +kernel
theorem awake_any (k : Nat) : formularylaw07_awake.f (k + 40) = some true := at_rounds (g := formularylaw07_awake.f) formularylaw07_awake.mono (by omega) awake_true
/-! ### the reference's bits -/
theorem pow_loop_b (x4 : Int) (d : Nat) : ∀ j : Nat, (j : Int) + d = x4 → j + d ≤ 60 → ∀ k, formularybase_Power.l0 (k + d + 1) (2 ^ j) x4 (j : Int) = some ((2 : Int) ^ (j + d)) := by
  induction d with
  | zero =>
    intro j h1 h2 k
    simp only [formularybase_Power.l0]
    rw [if_neg (by omega)]
    rfl
  | succ d ih =>
    intro j h1 h2 k
    rw [show k + (d + 1) + 1 = (k + d + 1) + 1 by omega]
    simp only [formularybase_Power.l0]
    have hp : (2 : Int) ^ j ≤ 2 ^ 60 := by
      have : 2 ^ j ≤ 2 ^ 60 := Nat.pow_le_pow_right (by decide) (by omega)
      exact_mod_cast this
    have hq : (0 : Int) < 2 ^ j := Int.pow_pos (by decide)
    rw [if_pos (by omega), w64 (x := 2 ^ j + 2 ^ j) (by omega) (by omega), w64 (by omega) (by omega)]
    rw [show (2 : Int) ^ j + 2 ^ j = 2 ^ (j + 1) by rw [Int.pow_succ]; omega, show (j : Int) + 1 = ((j + 1 : Nat) : Int) by omega, show j + (d + 1) = (j + 1) + d by omega]
    exact ih (j + 1) (by omega) (by omega) k
theorem power_at {k : Nat} (n : Nat) (hn : n ≤ 60) (hk : n < k) : formularybase_Power.f k (n : Int) = some (((2 ^ n : Nat) : Int)) := by
  obtain ⟨m, rfl⟩ : ∃ m, k = m + n + 1 := ⟨k - n - 1, by omega⟩
  unfold formularybase_Power.f
  have h := pow_loop_b (n : Int) n 0 (by omega) (by omega) m
  rw [Int.pow_zero] at h
  refine h.trans ?_
  rw [Nat.zero_add]; push_cast; rfl
def b2i (b : Bool) : Int := ((b.toNat : Nat) : Int)
def bitL (g : Nat → Bool) (n : Nat) : List Int := (List.range n).map fun i => b2i (g i)
theorem bitL_len (g : Nat → Bool) (n : Nat) : (bitL g n).length = n := by simp [bitL]
theorem bitL_succ (g : Nat → Bool) (n : Nat) : bitL g (n + 1) = bitL g n ++ [b2i (g n)] := by simp [bitL, List.range_succ]
theorem bitL_rd (g : Nat → Bool) (n i : Nat) (h : i < n) : rd (bitL g n) (i : Int) = b2i (g i) := by simp [rd, bitL, List.getD, h]
theorem bitL_congr {g g' : Nat → Bool} {n : Nat} (h : ∀ i, i < n → g i = g' i) : bitL g n = bitL g' n := by
  unfold bitL
  apply List.map_congr_left
  intro i hi
  rw [h i (List.mem_range.1 hi)]
theorem bits_loop (A : Nat) (hA : A < 4294967296) (d : Nat) : ∀ i : Nat, i + d = 32 → ∀ k, 40 ≤ k → formularyref07_Bits.l0 (k + d) (A : Int) (bitL A.testBit i) (i : Int) = some (bitL A.testBit 32) := by
  induction d with
  | zero =>
    intro i h k hk
    obtain ⟨m, rfl⟩ : ∃ m, k = m + 1 := ⟨k - 1, by omega⟩
    obtain rfl : i = 32 := by omega
    simp only [Nat.add_zero, formularyref07_Bits.l0]
    rw [if_neg (by decide)]
  | succ d ih =>
    intro i h k hk
    rw [show k + (d + 1) = (k + d) + 1 by omega]
    simp only [formularyref07_Bits.l0]
    rw [if_pos (by omega), power_at i (by omega) (by omega)]
    simp only [Option.bind_some]
    have hp : 0 < 2 ^ i := Nat.pow_pos (by decide)
    rw [if_neg (by omega), bitL_len, if_pos (by omega)]
    have hd : Int.tdiv (A : Int) ((2 ^ i : Nat) : Int) = ((A / 2 ^ i : Nat) : Int) := rfl
    have hle : A / 2 ^ i ≤ A := Nat.div_le_self _ _
    rw [hd, w64 (x := ((A / 2 ^ i : Nat) : Int)) (by generalize A / 2 ^ i = q at *; omega) (by generalize A / 2 ^ i = q at *; omega), w64 (by omega) (by omega)]
    have hm : Int.tmod ((A / 2 ^ i : Nat) : Int) 2 = b2i (A.testBit i) := by
      rw [b2i, Nat.toNat_testBit]; rfl
    rw [hm, ← bitL_succ, show (i : Int) + 1 = ((i + 1 : Nat) : Int) by omega]
    exact ih (i + 1) (by omega) k hk
theorem bits_eq (a : Int) {k : Nat} (hk : 80 ≤ k) : formularyref07_Bits.f k a = some (bitL (pat a).testBit 32) := by
  obtain ⟨m, rfl⟩ : ∃ m, k = m + 40 := ⟨k - 40, by omega⟩
  unfold formularyref07_Bits.f
  rw [power32, Option.bind_some, mod_eq _ _ (by decide) (by decide), ← pat_cast, Option.bind_some]
  have := bits_loop (pat a) (pat_lt a) 32 0 (by omega) (m + 8) (by omega)
  exact this
theorem from_loop (P : Nat) (hP : P < 4294967296) (d : Nat) : ∀ i : Nat, i + d = 32 → ∀ k, 50 ≤ k → formularyref07_From.l0 (k + d) (bitL P.testBit 32) ((P % 2 ^ i : Nat) : Int) (i : Int) = some (wrap32 (P : Int)) := by
  induction d with
  | zero =>
    intro i h k hk
    obtain ⟨m, rfl⟩ : ∃ m, k = m + 1 := ⟨k - 1, by omega⟩
    obtain rfl : i = 32 := by omega
    simp only [Nat.add_zero, formularyref07_From.l0, bitL_len]
    obtain ⟨q, rfl⟩ : ∃ q, m = q + 40 := ⟨m - 40, by omega⟩
    rw [if_neg (by omega), Nat.mod_eq_of_lt (by omega), wrap_eq _ (by omega) (by omega)]
    rfl
  | succ d ih =>
    intro i h k hk
    rw [show k + (d + 1) = (k + d) + 1 by omega]
    simp only [formularyref07_From.l0, bitL_len]
    rw [if_pos (by omega), if_pos (by omega), power_at i (by omega) (by omega), bitL_rd _ _ _ (by omega)]
    simp only [Option.bind_some]
    have hs : P % 2 ^ (i + 1) = P % 2 ^ i + 2 ^ i * (P.testBit i).toNat := by rw [Nat.toNat_testBit]; exact Nat.mod_pow_succ
    have hlt : P % 2 ^ (i + 1) ≤ P := Nat.mod_le _ _
    have hle : 2 ^ i * (P.testBit i).toNat ≤ P := by omega
    have e : b2i (P.testBit i) * ((2 ^ i : Nat) : Int) = ((2 ^ i * (P.testBit i).toNat : Nat) : Int) := by
      unfold b2i; rw [← Int.natCast_mul, Nat.mul_comm]
    rw [e, w64 (x := ((2 ^ i * (P.testBit i).toNat : Nat) : Int)) (by omega) (by omega), w64 (by omega) (by omega), w64 (by omega) (by omega)]
    rw [show ((P % 2 ^ i : Nat) : Int) + ((2 ^ i * (P.testBit i).toNat : Nat) : Int) = ((P % 2 ^ (i + 1) : Nat) : Int) by rw [hs]; push_cast; rfl, show (i : Int) + 1 = ((i + 1 : Nat) : Int) by omega]
    exact ih (i + 1) (by omega) k hk
theorem from_eq {P : Nat} (hP : P < 4294967296) {k : Nat} (hk : 90 ≤ k) : formularyref07_From.f k (bitL P.testBit 32) = some (wrap32 (P : Int)) := by
  obtain ⟨m, rfl⟩ : ∃ m, k = m + 32 := ⟨k - 32, by omega⟩
  have := from_loop P hP 32 0 (by omega) m (by omega)
  rw [Nat.pow_zero, Nat.mod_one] at this
  exact this
/-- the bits of an operation's result -/
def gbit (op : Int) (A B : Nat) (b : Int) (i : Nat) : Bool :=
  if op = 0 then A.testBit i && B.testBit i else if op = 1 then A.testBit i || B.testBit i else if op = 2 then A.testBit i ^^ B.testBit i
  else if op = 3 then decide (0 ≤ (i : Int) - b ∧ (i : Int) - b ≤ 31) && A.testBit ((i : Int) - b).toNat
  else if op = 4 then A.testBit (((i : Int) - b) % 32).toNat
  else if op = 5 then decide (i = 0) && A.testBit b.toNat else if op = 6 then A.testBit i || decide ((i : Int) = b) else A.testBit i && decide ((i : Int) ≠ b)
theorem high_bit {A : Nat} (hA : A < 4294967296) {i : Nat} (h : 32 ≤ i) : A.testBit i = false := by
  apply Nat.testBit_lt_two_pow
  have : 2 ^ 32 ≤ 2 ^ i := Nat.pow_le_pow_right (by decide) h
  omega
theorem rotN_bit {A : Nat} (hA : A < 4294967296) (s : Nat) (hs : s < 32) (i : Nat) (hi : i < 32) : (rotN A s).testBit i = A.testBit ((i + 32 - s) % 32) := by
  unfold rotN
  rw [Nat.testBit_or, show (4294967296 : Nat) = 2 ^ 32 from rfl, Nat.testBit_mod_two_pow, Nat.testBit_mul_two_pow, Nat.testBit_div_two_pow]
  by_cases h : s ≤ i
  · have h1 : (i + 32 - s) % 32 = i - s := by omega
    rw [h1, high_bit hA (show 32 ≤ i + (32 - s) by omega)]
    simp [hi, h]
  · have h1 : (i + 32 - s) % 32 = i + (32 - s) := by omega
    rw [h1]
    simp [h]
theorem progP_lt {op b : Int} {A B : Nat} (hA : A < 4294967296) (hB : B < 4294967296) (h6 : op = 6 → 0 ≤ b ∧ b < 32) : progP op A B b < 4294967296 := by
  unfold progP
  have hd : ∀ n, A / 2 ^ n < 4294967296 := fun n => Nat.lt_of_le_of_lt (Nat.div_le_self _ _) hA
  by_cases h0 : op = 0
  · rw [if_pos h0]; exact Nat.and_lt_two_pow (n := 32) _ hB
  rw [if_neg h0]
  by_cases h1 : op = 1
  · rw [if_pos h1]; exact or_lt32 hA hB
  rw [if_neg h1]
  by_cases h2 : op = 2
  · rw [if_pos h2]; exact Nat.xor_lt_two_pow (n := 32) hA hB
  rw [if_neg h2]
  by_cases h3 : op = 3
  · rw [if_pos h3]
    split
    · exact hd _
    · exact Nat.mod_lt _ (by decide)
  rw [if_neg h3]
  by_cases h4 : op = 4
  · rw [if_pos h4]; exact or_lt32 (Nat.mod_lt _ (by decide)) (hd _)
  rw [if_neg h4]
  by_cases h5 : op = 5
  · rw [if_pos h5]; exact Nat.and_lt_two_pow (n := 32) _ (by decide)
  rw [if_neg h5]
  by_cases h6' : op = 6
  · rw [if_pos h6']; exact or_lt32 hA (two_pow_lt (h6 h6'))
  · rw [if_neg h6']; exact Nat.lt_of_le_of_lt Nat.and_le_left hA
theorem progP_bit {op b : Int} {A B : Nat} (hk : 0 ≤ op ∧ op < 8) (hA : A < 4294967296) (h3 : op = 3 → -32 ≤ b ∧ b ≤ 32) (h5 : 5 ≤ op → 0 ≤ b ∧ b < 32) (i : Nat) (hi : i < 32) : (progP op A B b).testBit i = gbit op A B b i := by
  unfold progP gbit
  by_cases c0 : op = 0
  · rw [if_pos c0, if_pos c0, Nat.testBit_and]
  rw [if_neg c0, if_neg c0]
  by_cases c1 : op = 1
  · rw [if_pos c1, if_pos c1, Nat.testBit_or]
  rw [if_neg c1, if_neg c1]
  by_cases c2 : op = 2
  · rw [if_pos c2, if_pos c2, Nat.testBit_xor]
  rw [if_neg c2, if_neg c2]
  by_cases c3 : op = 3
  · have hb := h3 c3
    rw [if_pos c3, if_pos c3]
    by_cases hn : b < 0
    · rw [if_pos hn, Nat.testBit_div_two_pow]
      have e : ((i : Int) - b).toNat = i + (-b).toNat := by omega
      rw [e]
      by_cases hh : i + (-b).toNat ≤ 31
      · rw [decide_eq_true (by omega), Bool.true_and]
      · rw [decide_eq_false (by omega), high_bit hA (by omega)]; try simp
    · rw [if_neg hn, show (4294967296 : Nat) = 2 ^ 32 from rfl, Nat.testBit_mod_two_pow, Nat.testBit_mul_two_pow]
      have e : ((i : Int) - b).toNat = i - b.toNat := by omega
      rw [e, decide_eq_true hi, Bool.true_and]
      by_cases hh : b.toNat ≤ i
      · rw [decide_eq_true hh, decide_eq_true (by omega)]
      · rw [decide_eq_false hh, decide_eq_false (by omega)]; try simp
  rw [if_neg c3, if_neg c3]
  by_cases c4 : op = 4
  · rw [if_pos c4, if_pos c4, rotN_bit hA _ (by omega) i hi]
    congr 1; omega
  rw [if_neg c4, if_neg c4]
  by_cases c5 : op = 5
  · have hb := h5 (by omega)
    rw [if_pos c5, if_pos c5, Nat.testBit_and, Nat.testBit_div_two_pow]
    by_cases hz : i = 0
    · subst hz
      simp
    · rw [decide_eq_false hz]
      have : (1 : Nat).testBit i = false := by
        apply Nat.testBit_lt_two_pow
        have : 2 ^ 1 ≤ 2 ^ i := Nat.pow_le_pow_right (by decide) (by omega)
        omega
      rw [this, Bool.and_false, Bool.false_and]
  rw [if_neg c5, if_neg c5]
  by_cases c6 : op = 6
  · rw [if_pos c6, if_pos c6, Nat.testBit_or, Nat.testBit_two_pow]
    have hb := h5 (by omega)
    congr 1
    by_cases hz : (i : Int) = b
    · simp [hz]; omega
    · simp [hz]; omega
  · rw [if_neg c6, if_neg c6, Nat.testBit_and]
    have hb := h5 (by omega)
    have ht := two_pow_lt hb
    rw [show 4294967295 - 2 ^ b.toNat = 2 ^ 32 - (2 ^ b.toNat + 1) by omega, Nat.testBit_two_pow_sub_succ (by omega), Nat.testBit_two_pow, decide_eq_true hi, Bool.true_and]
    congr 1
    by_cases hz : (i : Int) = b
    · simp [hz]; omega
    · simp [hz]; omega
/-! ### wrapped numbers -/
theorem wcong {x y : Int} (h : x % 4294967296 = y % 4294967296) : wrap32 x = wrap32 y := by unfold wrap32; omega
theorem wmod (x : Int) : wrap32 x % 4294967296 = x % 4294967296 := by unfold wrap32; omega
theorem wI (x : Int) : isI (wrap32 x) = true := by rw [isI_iff]; exact wrap32_in x
theorem pat_wrap {P : Nat} (h : P < 4294967296) : pat (wrap32 (P : Int)) = P := by
  unfold pat; rw [wmod]; omega
/-! ### fields -/
def fOK (at' c : Int) : Bool := decide (0 ≤ at' ∧ 0 ≤ c ∧ at' + c ≤ 32)
theorem fOK_iff {x c : Int} : fOK x c = true ↔ 0 ≤ x ∧ 0 ≤ c ∧ x + c ≤ 32 := by simp [fOK]
theorem has_eq (x c : Int) : integers_check_field.has x c = fOK x c := by
  unfold integers_check_field.has integers_check_field.ins
  rw [Bool.eq_iff_iff, fOK_iff]
  simp only [Bool.and_eq_true, decide_eq_true_eq]
  omega
theorem field_want (e x c : Int) : integers_check_field.f e x c = some (numE e (fOK x c)) := by
  unfold integers_check_field.f numE
  rw [want_eq, has_eq]
theorem fieldErr_eq (a x c : Int) : formularyref07_fieldErr.f a x c = some (if (isI a && fOK x c) = true then 0 else 2) := by
  unfold formularyref07_fieldErr.f
  rw [numErr, within_eq, within_eq]
  simp only [Option.bind_some]
  cases isI a with
  | false => rfl
  | true =>
    simp only [Bool.true_and, if_true]
    by_cases h1 : 0 ≤ x ∧ x ≤ 32
    · rw [if_pos (by simp [h1.1, h1.2])]
      by_cases h2 : 0 ≤ c ∧ c ≤ 32
      · rw [if_pos (by simp [h2.1, h2.2]), w64 (by omega) (by omega)]
        by_cases h3 : x + c > 32
        · rw [if_pos h3, if_neg (by rw [fOK_iff]; omega)]
        · rw [if_neg h3, if_pos (by rw [fOK_iff]; omega)]
      · rw [if_neg (by simp; omega), if_neg (by rw [fOK_iff]; omega)]
    · rw [if_neg (by simp; omega), if_neg (by rw [fOK_iff]; omega)]
def mask (x c : Nat) : Nat := (2 ^ c - 1) * 2 ^ x
theorem mask_lt {x c : Nat} (h : x + c ≤ 32) : mask x c < 4294967296 := by
  unfold mask
  have h1 : 2 ^ c * 2 ^ x ≤ 2 ^ 32 := by rw [← Nat.pow_add]; exact Nat.pow_le_pow_right (by decide) (by omega)
  have h2 : 0 < 2 ^ x := Nat.pow_pos (by decide)
  have h3 : 0 < 2 ^ c := Nat.pow_pos (by decide)
  have h4 : (2 ^ c - 1) * 2 ^ x = 2 ^ c * 2 ^ x - 2 ^ x := by rw [Nat.sub_mul, Nat.one_mul]
  omega
theorem mask_bit (x c i : Nat) : (mask x c).testBit i = (decide (x ≤ i) && decide (i - x < c)) := by
  unfold mask
  rw [Nat.testBit_mul_two_pow, Nat.testBit_two_pow_sub_one]
theorem shl64 (A s : Nat) (hs : s ≤ 64) (h : A * 2 ^ s < 18446744073709551616) : shl .u64 (A : Int) (s : Int) = ((A * 2 ^ s : Nat) : Int) := by
  unfold shl
  have : min (s : Int).toNat (IntKind.bits .u64) = s := by rw [Int.toNat_natCast]; exact Nat.min_eq_left hs
  rw [this]
  have e : (A : Int) * 2 ^ s = ((A * 2 ^ s : Nat) : Int) := by push_cast; rfl
  rw [e, u64w (by omega) (by omega)]
theorem field_mask {x c : Nat} (h : x + c ≤ 32) : integers_field.f (x : Int) (c : Int) = some ((mask x c : Nat) : Int) := by
  have hm := mask_lt h
  have h1 : 2 ^ c ≤ 2 ^ 32 := Nat.pow_le_pow_right (by decide) (by omega)
  have h3 : 0 < 2 ^ c := Nat.pow_pos (by decide)
  unfold integers_field.f
  rw [if_pos (by omega), if_pos (by omega)]
  have e1 : shl .u64 1 (c : Int) = ((2 ^ c : Nat) : Int) := by
    have := shl64 1 c (by omega) (by omega)
    rw [Nat.one_mul] at this; exact this
  rw [e1, u64w (by omega) (by omega)]
  have e2 : ((2 ^ c : Nat) : Int) - 1 = ((2 ^ c - 1 : Nat) : Int) := by omega
  rw [e2, shl64 _ x (by omega) (by unfold mask at hm; omega)]
  have : (2 ^ c - 1) * 2 ^ x = mask x c := rfl
  rw [this]
  congr 1; omega
theorem shr64 (A s : Nat) (hs : s ≤ 64) : shr .u64 (A : Int) (s : Int) = ((A / 2 ^ s : Nat) : Int) := by
  unfold shr
  have : min (s : Int).toNat (IntKind.bits .u64) = s := by rw [Int.toNat_natCast]; exact Nat.min_eq_left hs
  rw [this]
  simp
/-- the field's bits -/
def fld (A x c : Nat) : Nat := A / 2 ^ x % 2 ^ c
theorem fld_bit (A x c i : Nat) : (fld A x c).testBit i = (decide (i < c) && A.testBit (i + x)) := by
  unfold fld; rw [Nat.testBit_mod_two_pow, Nat.testBit_div_two_pow]
theorem fld_lt (A x c : Nat) : fld A x c < 2 ^ c := Nat.mod_lt _ (Nat.pow_pos (by decide))
theorem fld_lt32 {A x c : Nat} (h : c ≤ 32) : fld A x c < 4294967296 := by
  have h1 := fld_lt A x c
  have h2 : 2 ^ c ≤ 2 ^ 32 := Nat.pow_le_pow_right (by decide) h
  omega
theorem fld_and (A x c : Nat) : (A &&& mask x c) / 2 ^ x = fld A x c := by
  apply Nat.eq_of_testBit_eq
  intro i
  rw [Nat.testBit_div_two_pow, Nat.testBit_and, mask_bit, fld_bit, decide_eq_true (by omega : x ≤ i + x), Bool.true_and, show i + x - x = i by omega, Bool.and_comm]
/-- a number with another field -/
def setF (A x c V : Nat) : Nat := (A &&& (4294967295 - mask x c)) ||| ((V * 2 ^ x % 4294967296) &&& mask x c)
theorem setF_bit {A x c V : Nat} (h : x + c ≤ 32) (i : Nat) (hi : i < 32) : (setF A x c V).testBit i = if x ≤ i ∧ i < x + c then V.testBit (i - x) else A.testBit i := by
  have hm := mask_lt h
  unfold setF
  rw [Nat.testBit_or, Nat.testBit_and, Nat.testBit_and, mask_bit, show 4294967295 - mask x c = 2 ^ 32 - (mask x c + 1) by omega, Nat.testBit_two_pow_sub_succ (by omega), mask_bit, decide_eq_true hi, Bool.true_and,
    show (4294967296 : Nat) = 2 ^ 32 from rfl, Nat.testBit_mod_two_pow, Nat.testBit_mul_two_pow, decide_eq_true hi, Bool.true_and]
  by_cases h1 : x ≤ i
  · by_cases h2 : i < x + c
    · rw [if_pos ⟨h1, h2⟩, decide_eq_true h1, decide_eq_true (show i - x < c by omega)]; simp
    · rw [if_neg (fun hh => h2 hh.2), decide_eq_true h1, decide_eq_false (show ¬ i - x < c by omega)]; simp
  · rw [if_neg (fun hh => h1 hh.1), decide_eq_false h1]; simp
theorem setF_lt {A x c V : Nat} (hA : A < 4294967296) (h : x + c ≤ 32) : setF A x c V < 4294967296 :=
  or_lt32 (Nat.lt_of_le_of_lt Nat.and_le_left hA) (Nat.lt_of_le_of_lt Nat.and_le_right (mask_lt h))
def fieldS (a x c : Int) : Int × Int := if (isI a && fOK x c) = true then (wrap32 ((fld (pat a) x.toNat c.toNat : Nat) : Int), 0) else (0, 2)
theorem numE_cases (a b : Bool) : numE (numE 0 a) b = if (a && b) = true then 0 else 2 := numE_two a b
theorem field_of {k : Nat} {a x c : Int} {p m q r : Int} (h1 : integers_check_integers.f k 0 [a] = some 0) (h2 : integers_check_field.f 0 x c = some 0) (h3 : integers_pattern.f a = some p) (h4 : integers_field.f x c = some m)
    (h5 : 0 ≤ x) (h6 : (shr .u64 (IntKind.u64.wrap (Go.bits .and .u32 p m)) x) % 4294967296 = q) (h7 : integers_signed.f q = some r) : integers_FieldOf.f k a x c = some (r, 0) := by
  unfold integers_FieldOf.f
  rw [h1, Option.bind_some, h2, Option.bind_some, if_pos (show (0 : Int) = 0 from rfl), h3, Option.bind_some, h4, Option.bind_some, if_pos h5, h6, h7, Option.bind_some]
theorem field_bad {k : Nat} {a x c e e2 : Int} (h1 : integers_check_integers.f k 0 [a] = some e) (h2 : integers_check_field.f e x c = some e2) (he : e2 ≠ 0) : integers_FieldOf.f k a x c = some (0, e2) := by
  unfold integers_FieldOf.f
  rw [h1, Option.bind_some, h2, Option.bind_some, if_neg he]
  rfl
theorem fieldOf_at {k : Nat} (hk : 10 ≤ k) (a x c : Int) : integers_FieldOf.f k a x c = some (fieldS a x c) := by
  obtain ⟨m, rfl⟩ : ∃ m, k = m + 3 := ⟨k - 3, by omega⟩
  unfold fieldS
  cases hb : isI a && fOK x c with
  | false =>
    rw [if_neg (by decide)]
    exact field_bad (ints1 m 0 a) (by rw [field_want, numE_two, hb, if_neg (by decide)]) (by decide)
  | true =>
    rw [Bool.and_eq_true, fOK_iff] at hb
    obtain ⟨ha, h0, h1, h2⟩ := hb
    have hf : fOK x c = true := by rw [fOK_iff]; exact ⟨h0, h1, h2⟩
    obtain ⟨x, rfl⟩ := Int.eq_ofNat_of_zero_le h0
    obtain ⟨c, rfl⟩ := Int.eq_ofNat_of_zero_le h1
    have hx : x + c ≤ 32 := by omega
    have hA := pat_lt a
    have hle : pat a &&& mask x c ≤ pat a := Nat.and_le_left
    have hl := fld_lt32 (A := pat a) (x := x) (c := c) (by omega)
    rw [if_pos rfl, Int.toNat_natCast, Int.toNat_natCast]
    refine field_of (q := ((fld (pat a) x c : Nat) : Int)) (by rw [ints1, ha]; rfl) (by rw [field_want, hf]; rfl) (pattern_eq a) (field_mask hx) h0 ?_ (signed_eq _)
    have e1 : Go.bits .and .u32 ((pat a : Nat) : Int) ((mask x c : Nat) : Int) = ((pat a &&& mask x c : Nat) : Int) := Go.u32_and_nat _ _ hA (mask_lt hx)
    have e2 : IntKind.u64.wrap ((pat a &&& mask x c : Nat) : Int) = ((pat a &&& mask x c : Nat) : Int) := u64w (by omega) (by omega)
    have e3 : shr .u64 ((pat a &&& mask x c : Nat) : Int) (x : Int) = ((fld (pat a) x c : Nat) : Int) := by rw [shr64 _ x (by omega), fld_and]
    have e4 : ((fld (pat a) x c : Nat) : Int) % 4294967296 = ((fld (pat a) x c : Nat) : Int) := by omega
    rw [e1, e2, e3, e4]
def withS (a x c v : Int) : Int × Int := if (isI a && fOK x c && isI v) = true then (wrap32 ((setF (pat a) x.toNat c.toNat (pat v) : Nat) : Int), 0) else (0, 2)
theorem with_of {k : Nat} {a x c v : Int} {p m z q r : Int} (h1 : integers_check_integers.f k 0 [a] = some 0) (h2 : integers_check_field.f 0 x c = some 0) (h2' : integers_check_integers.f k 0 [v] = some 0) (h4 : integers_field.f x c = some m) (h3 : integers_pattern.f a = some p)
    (h3' : integers_pattern.f v = some z) (h5 : 0 ≤ x) (h6 : Go.bits .or .u32 (Go.bits .andNot .u32 p m) (Go.bits .and .u32 ((shl .u64 (IntKind.u64.wrap z) x) % 4294967296) m) = q) (h7 : integers_signed.f q = some r) :
    integers_WithField.f k a x c v = some (r, 0) := by
  unfold integers_WithField.f
  rw [h1, Option.bind_some, h2, Option.bind_some, h2', Option.bind_some, if_pos (show (0 : Int) = 0 from rfl), h4, Option.bind_some, h3, Option.bind_some, h3', Option.bind_some, if_pos h5, h6, h7, Option.bind_some]
theorem with_bad {k : Nat} {a x c v e e2 e3 : Int} (h1 : integers_check_integers.f k 0 [a] = some e) (h2 : integers_check_field.f e x c = some e2) (h3 : integers_check_integers.f k e2 [v] = some e3) (he : e3 ≠ 0) : integers_WithField.f k a x c v = some (0, e3) := by
  unfold integers_WithField.f
  rw [h1, Option.bind_some, h2, Option.bind_some, h3, Option.bind_some, if_neg he]
  rfl
theorem withField_at {k : Nat} (hk : 10 ≤ k) (a x c v : Int) : integers_WithField.f k a x c v = some (withS a x c v) := by
  obtain ⟨m, rfl⟩ : ∃ m, k = m + 3 := ⟨k - 3, by omega⟩
  unfold withS
  cases hb : isI a && fOK x c && isI v with
  | false =>
    rw [if_neg (by decide)]
    have e : numE (numE (numE 0 (isI a)) (fOK x c)) (isI v) = 2 := by revert hb; cases isI a <;> cases fOK x c <;> cases isI v <;> decide
    exact with_bad (ints1 m 0 a) (field_want _ _ _) (by rw [ints1, e]) (by decide)
  | true =>
    rw [Bool.and_eq_true, Bool.and_eq_true, fOK_iff] at hb
    obtain ⟨⟨ha, h0, h1, h2⟩, hv⟩ := hb
    have hf : fOK x c = true := by rw [fOK_iff]; exact ⟨h0, h1, h2⟩
    obtain ⟨x, rfl⟩ := Int.eq_ofNat_of_zero_le h0
    obtain ⟨c, rfl⟩ := Int.eq_ofNat_of_zero_le h1
    have hx : x + c ≤ 32 := by omega
    have hA := pat_lt a
    have hV := pat_lt v
    have hm := mask_lt hx
    rw [if_pos rfl, Int.toNat_natCast, Int.toNat_natCast]
    refine with_of (q := ((setF (pat a) x c (pat v) : Nat) : Int)) (by rw [ints1, ha]; rfl) (by rw [field_want, hf]; rfl) (by rw [ints1, hv]; rfl) (field_mask hx) (pattern_eq a) (pattern_eq v) h0 ?_ (signed_eq _)
    have hp : pat v * 2 ^ x < 18446744073709551616 := by
      have h3 : 2 ^ x ≤ 4294967296 := Nat.pow_le_pow_right (n := 2) (j := 32) (by decide) (by omega)
      have h4 : pat v * 2 ^ x ≤ 4294967295 * 4294967296 := Nat.mul_le_mul (by omega) h3
      exact Nat.lt_of_le_of_lt h4 (by decide)
    have e1 : IntKind.u64.wrap ((pat v : Nat) : Int) = ((pat v : Nat) : Int) := u64w (by omega) (by omega)
    have e2 : shl .u64 ((pat v : Nat) : Int) (x : Int) = ((pat v * 2 ^ x : Nat) : Int) := shl64 _ x (by omega) hp
    have e3 : ((pat v * 2 ^ x : Nat) : Int) % 4294967296 = ((pat v * 2 ^ x % 4294967296 : Nat) : Int) := by generalize pat v * 2 ^ x = q; omega
    have e4 : Go.bits .andNot .u32 ((pat a : Nat) : Int) ((mask x c : Nat) : Int) = ((pat a &&& (4294967295 - mask x c) : Nat) : Int) := Go.u32_andNot_nat _ _ hA hm
    have e5 : Go.bits .and .u32 ((pat v * 2 ^ x % 4294967296 : Nat) : Int) ((mask x c : Nat) : Int) = ((pat v * 2 ^ x % 4294967296 &&& mask x c : Nat) : Int) := Go.u32_and_nat _ _ (Nat.mod_lt _ (by decide)) hm
    have e6 : Go.bits .or .u32 ((pat a &&& (4294967295 - mask x c) : Nat) : Int) ((pat v * 2 ^ x % 4294967296 &&& mask x c : Nat) : Int) = ((setF (pat a) x c (pat v) : Nat) : Int) :=
      Go.u32_or_nat _ _ (Nat.lt_of_le_of_lt Nat.and_le_left hA) (Nat.lt_of_le_of_lt Nat.and_le_right hm)
    rw [e1, e2, e3, e4, e5, e6]
theorem from_loop_n (n P : Nat) (hn : n ≤ 32) (hP : P < 2 ^ n) (d : Nat) : ∀ i : Nat, i + d = n → ∀ k, 50 ≤ k → formularyref07_From.l0 (k + d) (bitL P.testBit n) ((P % 2 ^ i : Nat) : Int) (i : Int) = some (wrap32 (P : Int)) := by
  have h32 : 2 ^ n ≤ 2 ^ 32 := Nat.pow_le_pow_right (by decide) hn
  induction d with
  | zero =>
    intro i h k hk
    obtain ⟨m, rfl⟩ : ∃ m, k = m + 1 := ⟨k - 1, by omega⟩
    obtain rfl : i = n := by omega
    simp only [Nat.add_zero, formularyref07_From.l0, bitL_len]
    obtain ⟨q, rfl⟩ : ∃ q, m = q + 40 := ⟨m - 40, by omega⟩
    rw [if_neg (by omega), Nat.mod_eq_of_lt hP, wrap_eq _ (by omega) (by omega)]
    rfl
  | succ d ih =>
    intro i h k hk
    rw [show k + (d + 1) = (k + d) + 1 by omega]
    simp only [formularyref07_From.l0, bitL_len]
    rw [if_pos (by omega), if_pos (by omega), power_at i (by omega) (by omega), bitL_rd _ _ _ (by omega)]
    simp only [Option.bind_some]
    have hs : P % 2 ^ (i + 1) = P % 2 ^ i + 2 ^ i * (P.testBit i).toNat := by rw [Nat.toNat_testBit]; exact Nat.mod_pow_succ
    have hlt : P % 2 ^ (i + 1) ≤ P := Nat.mod_le _ _
    have hle : 2 ^ i * (P.testBit i).toNat ≤ P := by omega
    have e : b2i (P.testBit i) * ((2 ^ i : Nat) : Int) = ((2 ^ i * (P.testBit i).toNat : Nat) : Int) := by
      unfold b2i; rw [← Int.natCast_mul, Nat.mul_comm]
    rw [e, w64 (x := ((2 ^ i * (P.testBit i).toNat : Nat) : Int)) (by omega) (by omega), w64 (by omega) (by omega), w64 (by omega) (by omega)]
    rw [show ((P % 2 ^ i : Nat) : Int) + ((2 ^ i * (P.testBit i).toNat : Nat) : Int) = ((P % 2 ^ (i + 1) : Nat) : Int) by rw [hs]; push_cast; rfl, show (i : Int) + 1 = ((i + 1 : Nat) : Int) by omega]
    exact ih (i + 1) (by omega) k hk
theorem from_n {n P : Nat} (hn : n ≤ 32) (hP : P < 2 ^ n) {k : Nat} (hk : 90 ≤ k) : formularyref07_From.f k (bitL P.testBit n) = some (wrap32 (P : Int)) := by
  obtain ⟨m, rfl⟩ : ∃ m, k = m + n := ⟨k - n, by omega⟩
  have := from_loop_n n P hn hP n 0 (by omega) m (by omega)
  rw [Nat.pow_zero, Nat.mod_one] at this
  exact this
theorem bitL_cut (g : Nat → Bool) (n x c : Nat) (h : x + c ≤ n) : ((bitL g n).take (x + c)).drop x = bitL (fun i => g (i + x)) c := by
  unfold bitL
  rw [← List.map_take, ← List.map_drop, List.take_range, Nat.min_eq_left h]
  apply List.ext_getElem
  · simp
  · intro i h1 h2
    simp [Nat.add_comm]
theorem ref_fieldOf_at {k : Nat} (hk : 90 ≤ k) (a x c : Int) : formularyref07_FieldOf.f k a x c = some (fieldS a x c) := by
  unfold formularyref07_FieldOf.f fieldS
  rw [fieldErr_eq, Option.bind_some]
  cases hb : isI a && fOK x c with
  | false => rfl
  | true =>
    rw [Bool.and_eq_true, fOK_iff] at hb
    obtain ⟨ha, h0, h1, h2⟩ := hb
    obtain ⟨x, rfl⟩ := Int.eq_ofNat_of_zero_le h0
    obtain ⟨c, rfl⟩ := Int.eq_ofNat_of_zero_le h1
    simp only [if_true]
    rw [bits_eq a (by omega), Option.bind_some, w64 (by omega) (by omega), if_pos h0, if_pos (by omega), bitL_len, if_pos (by omega)]
    have e : (((x : Int) + (c : Int)).toNat) = x + c := by omega
    rw [e, Int.toNat_natCast, Int.toNat_natCast, bitL_cut _ _ _ _ (by omega)]
    have e2 : bitL (fun i => (pat a).testBit (i + x)) c = bitL (fld (pat a) x c).testBit c := bitL_congr fun i hi => by rw [fld_bit, decide_eq_true hi, Bool.true_and]
    rw [e2, from_n (by omega) (fld_lt _ _ _) hk]
    rfl
theorem bitL_set (g : Nat → Bool) {n j : Nat} (h : j < n) (v : Bool) : (bitL g n).set j (b2i v) = bitL (fun q => if q = j then v else g q) n := by
  unfold bitL
  apply List.ext_getElem
  · simp
  · intro i h1 h2
    simp only [List.getElem_set, List.getElem_map, List.getElem_range]
    by_cases hj : j = i
    · subst hj; simp
    · rw [if_neg hj, if_neg (fun h => hj h.symm)]
theorem with_loop {A V x c : Nat} (hA : A < 4294967296) (h : x + c ≤ 32) (d : Nat) : ∀ i : Nat, i + d = c → ∀ k, 95 ≤ k →
    formularyref07_WithField.l0 (k + d) (x : Int) (c : Int) (bitL (fun j => if x ≤ j ∧ j < x + i then V.testBit (j - x) else A.testBit j) 32) (bitL V.testBit 32) (i : Int) = some (wrap32 ((setF A x c V : Nat) : Int), 0) := by
  induction d with
  | zero =>
    intro i hi k hk
    obtain ⟨m, rfl⟩ : ∃ m, k = m + 1 := ⟨k - 1, by omega⟩
    obtain rfl : i = c := by omega
    simp only [Nat.add_zero, formularyref07_WithField.l0]
    rw [if_neg (by omega)]
    have e : bitL (fun j => if x ≤ j ∧ j < x + i then V.testBit (j - x) else A.testBit j) 32 = bitL (setF A x i V).testBit 32 := bitL_congr fun j hj => (setF_bit h j hj).symm
    rw [e, from_n (by decide) (setF_lt hA h) (by omega)]
    rfl
  | succ d ih =>
    intro i hi k hk
    rw [show k + (d + 1) = (k + d) + 1 by omega]
    simp only [formularyref07_WithField.l0, bitL_len]
    rw [if_pos (by omega), if_pos (by omega), if_pos (by omega), w64 (x := (x : Int) + (i : Int)) (by omega) (by omega), if_pos (by omega), if_pos (by omega), w64 (by omega) (by omega), bitL_rd _ _ _ (by omega)]
    rw [show ((x : Int) + (i : Int)).toNat = x + i by omega, bitL_set _ (by omega), show (i : Int) + 1 = ((i + 1 : Nat) : Int) by omega]
    have e : bitL (fun q => if q = x + i then V.testBit i else if x ≤ q ∧ q < x + i then V.testBit (q - x) else A.testBit q) 32 = bitL (fun j => if x ≤ j ∧ j < x + (i + 1) then V.testBit (j - x) else A.testBit j) 32 := by
      apply bitL_congr
      intro q hq
      by_cases h1 : q = x + i
      · rw [if_pos h1, if_pos (by omega), h1, show x + i - x = i by omega]
      · rw [if_neg h1]
        by_cases h2 : x ≤ q ∧ q < x + i
        · rw [if_pos h2, if_pos (by omega)]
        · rw [if_neg h2, if_neg (by omega)]
    rw [e]
    exact ih (i + 1) (by omega) k hk
theorem ref_with_at {k : Nat} (hk : 200 ≤ k) (a x c v : Int) : formularyref07_WithField.f k a x c v = some (withS a x c v) := by
  unfold formularyref07_WithField.f withS
  rw [fieldErr_eq, Option.bind_some, numErr]
  cases hb : isI a && fOK x c with
  | false => rfl
  | true =>
    rw [Bool.and_eq_true, fOK_iff] at hb
    obtain ⟨ha, h0, h1, h2⟩ := hb
    simp only [if_true, Option.bind_some, Bool.true_and]
    cases hv : isI v with
    | false => rfl
    | true =>
      obtain ⟨x, rfl⟩ := Int.eq_ofNat_of_zero_le h0
      obtain ⟨c, rfl⟩ := Int.eq_ofNat_of_zero_le h1
      simp only [if_true]
      rw [bits_eq a (by omega), bits_eq v (by omega), Option.bind_some, Option.bind_some, Int.toNat_natCast, Int.toNat_natCast]
      obtain ⟨m, rfl⟩ : ∃ m, k = m + c := ⟨k - c, by omega⟩
      have := with_loop (A := pat a) (V := pat v) (x := x) (c := c) (pat_lt a) (by omega) c 0 (by omega) m (by omega)
      have e : bitL (fun j => if x ≤ j ∧ j < x + 0 then (pat v).testBit (j - x) else (pat a).testBit j) 32 = bitL (pat a).testBit 32 := bitL_congr fun j hj => by rw [if_neg (by omega)]
      rw [e] at this
      exact this
theorem IntegersFields (a x c v : Int) (_ : (Lit.int .i64 a).wf = true) (_ : (Lit.int .i64 x).wf = true) (_ : (Lit.int .i64 c).wf = true) (_ : (Lit.int .i64 v).wf = true) :
    ∃ k, formularylaw07_IntegersFields.f k a x c v = some true := by
  refine ⟨300, ?_⟩
  unfold formularylaw07_IntegersFields.f
  rw [awake_any 260, fieldOf_at (by decide), withField_at (by decide), ref_fieldOf_at (by decide), ref_with_at (by decide)]
  simp only [Option.bind_some, if_true, bne_self_eq_false]
  simp only [formularylaw07_IntegersFields.j0]
  rw [if_neg (by decide)]
  have hskip : formularylaw07_IntegersFields.j1 299 (fieldS a x c).1 (withS a x c v).1 true a x c v = some true := rfl
  by_cases h0 : (fieldS a x c).2 = 0
  · rw [if_pos h0]
    by_cases h1 : (withS a x c v).2 = 0
    · rw [h1]
      simp only [bne_self_eq_false, formularylaw07_IntegersFields.j1]
      rw [if_neg (by decide)]
      have hb : (isI a && fOK x c && isI v) = true := by
        cases h : isI a && fOK x c && isI v with
        | true => rfl
        | false => rw [withS, h] at h1; simp at h1
      have hb' := hb
      rw [Bool.and_eq_true, Bool.and_eq_true, fOK_iff] at hb'
      obtain ⟨⟨ha, g0, g1, g2⟩, hv⟩ := hb'
      have hf : fOK x c = true := by rw [fOK_iff]; exact ⟨g0, g1, g2⟩
      have hf0 : fOK 0 c = true := by rw [fOK_iff]; omega
      have hA := pat_lt a
      have hV := pat_lt v
      have e1 : fieldS a x c = (wrap32 ((fld (pat a) x.toNat c.toNat : Nat) : Int), 0) := by simp [fieldS, ha, hf]
      have e2 : withS a x c v = (wrap32 ((setF (pat a) x.toNat c.toNat (pat v) : Nat) : Int), 0) := by simp [withS, ha, hf, hv]
      have hx : x.toNat + c.toNat ≤ 32 := by omega
      rw [e1, e2]
      simp only []
      rw [withField_at (by decide), fieldOf_at (by decide), fieldOf_at (by decide)]
      have e3 : withS a x c (wrap32 ((fld (pat a) x.toNat c.toNat : Nat) : Int)) = (a, 0) := by
        have hs : setF (pat a) x.toNat c.toNat (fld (pat a) x.toNat c.toNat) = pat a := by
          apply Nat.eq_of_testBit_eq
          intro i
          rcases Nat.lt_or_ge i 32 with hi | hi
          · rw [setF_bit hx i hi]
            by_cases hc : x.toNat ≤ i ∧ i < x.toNat + c.toNat
            · rw [if_pos hc, fld_bit, decide_eq_true (by omega), Bool.true_and, show i - x.toNat + x.toNat = i by omega]
            · rw [if_neg hc]
          · rw [high_bit (setF_lt hA hx) hi, high_bit hA hi]
        simp only [withS, ha, hf, wI, Bool.and_self, if_true]
        rw [pat_wrap (fld_lt32 (by omega)), hs, wrap32_pat a ha]
      have e4 : fieldS (wrap32 ((setF (pat a) x.toNat c.toNat (pat v) : Nat) : Int)) x c = (wrap32 ((fld (pat v) 0 c.toNat : Nat) : Int), 0) := by
        have hs : fld (setF (pat a) x.toNat c.toNat (pat v)) x.toNat c.toNat = fld (pat v) 0 c.toNat := by
          apply Nat.eq_of_testBit_eq
          intro i
          rw [fld_bit, fld_bit]
          by_cases hi : i < c.toNat
          · rw [setF_bit hx _ (by omega), if_pos (by omega), show i + x.toNat - x.toNat = i + 0 by omega]
          · rw [decide_eq_false hi, Bool.false_and, Bool.false_and]
        simp only [fieldS, wI, hf, Bool.and_self, if_true]
        rw [pat_wrap (setF_lt hA hx), hs]
      have e5 : fieldS v 0 c = (wrap32 ((fld (pat v) 0 c.toNat : Nat) : Int), 0) := by simp [fieldS, hv, hf0]
      rw [e3, e4, e5]
      simp
    · have : ((withS a x c v).2 != 0) = true := by simpa using h1
      rw [this]; exact hskip
  · rw [if_neg h0]; exact hskip

end Go.Proofs.Ytgmlihjopinagaa.Pure
