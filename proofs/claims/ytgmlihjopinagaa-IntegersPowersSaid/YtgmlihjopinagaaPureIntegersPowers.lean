/-
For every input the law IntegersPowers answers true: a power is as the reference says, and a further factor makes the next power. No condition is added to the given statement.
-/
import Derived.Test.YtgmlihjopinagaaPIntegersPowersx12
namespace Go.Proofs.Ytgmlihjopinagaa.Pure
open Go.RowKit Go.Proofs.Ytgmlihjopinagaa.PIntegersPowers Go.Proofs.YtgmlihjopinagaaW.PrintWords Go.Proofs.YtgmlihjopinagaaW.PrintLast
set_option linter.unusedVariables false
set_option linter.unusedSimpArgs false

/-! ### what all of chapter 7 needs: numbers -/
def isI (n : Int) : Bool := decide (-2147483648 ≤ n) && decide (n ≤ 2147483647)
theorem isI_iff {n : Int} : isI n = true ↔ -2147483648 ≤ n ∧ n ≤ 2147483647 := by simp [isI]
theorem isI_not {n : Int} : isI n = false ↔ ¬ (-2147483648 ≤ n ∧ n ≤ 2147483647) := by
  rw [← Bool.not_eq_true, isI_iff]
theorem w64 {x : Int} (h1 : -9223372036854775808 ≤ x) (h2 : x ≤ 9223372036854775807) : wrap64 x = x := by unfold wrap64; omega
theorem num_int (n : Int) : integers_number_integer.f n = some (isI n) := by
  unfold integers_number_integer.f isI
  split
  · rename_i h; simp [h]
  · rename_i h; simp; omega
theorem within_eq (a b c : Int) : formularybase_Within.f a b c = some (decide (b ≤ a) && decide (a ≤ c)) := by
  unfold formularybase_Within.f
  split
  · rename_i h; simp; omega
  · rename_i h
    have : b ≤ a := by omega
    simp only [this, decide_true, Bool.true_and, Option.some.injEq]
    by_cases h2 : a ≤ c
    · simp [h2]
    · simp [h2]; omega
theorem ref_int (n : Int) : formularyref07_IsInteger.f n = some (isI n) := by
  unfold formularyref07_IsInteger.f; rw [within_eq]; rfl
theorem want_eq (c : Int) (b : Bool) (e : Int) : integers_check_want.f c b e = some (if c = 0 then (if b = true then c else e) else c) := by
  unfold integers_check_want.f; split
  · split <;> rfl
  · rfl
theorem err_eq (c : Int) : integers_check_err.f c = some c := rfl
/-- the error of numbers that should be INTEGERs -/
def numE (c : Int) (b : Bool) : Int := if c = 0 then (if b = true then c else 2) else c
theorem ints1 (k : Nat) (c a : Int) : integers_check_integers.f (k + 3) c [a] = some (numE c (isI a)) := by
  unfold integers_check_integers.f
  simp only [List.length_cons, List.length_nil]
  rw [show ((0 + 1 : Nat) : Int) = 1 from rfl]
  simp only [integers_check_integers.l0, List.length_cons, List.length_nil]
  simp [num_int, want_eq, rd, w64, numE]
theorem ints2 (k : Nat) (c a b : Int) : integers_check_integers.f (k + 4) c [a, b] = some (numE (numE c (isI a)) (isI b)) := by
  unfold integers_check_integers.f
  simp only [List.length_cons, List.length_nil]
  simp only [integers_check_integers.l0, List.length_cons, List.length_nil]
  simp only [num_int, want_eq, rd, Option.bind_some]
  simp [w64, numE]
  rfl
theorem numE_two (a b : Bool) : numE (numE 0 a) b = if (a && b) = true then 0 else 2 := by cases a <;> cases b <;> decide
theorem numErr (a : Int) : formularyref07_NumberErr.f a = some (if isI a = true then 0 else 2) := by
  unfold formularyref07_NumberErr.f; rw [ref_int]; simp only [Option.bind_some]; split <;> rfl
theorem twoErr (a b : Int) : formularyref07_TwoErr.f a b = some (if (isI a && isI b) = true then 0 else 2) := by
  unfold formularyref07_TwoErr.f; rw [numErr, numErr]; cases isI a <;> cases isI b <;> rfl

/-! ### powers -/
theorem pow_next (a : Int) (i : Nat) : a ^ (i + 1) = a ^ i * a := Int.pow_succ a i
theorem natAbs_pow_ge {a : Int} (ha : 2 ≤ a.natAbs) (i : Nat) : 2 ^ i ≤ (a ^ i).natAbs := by
  rw [Int.natAbs_pow]
  exact Nat.pow_le_pow_left ha i
theorem pow_large {a : Int} (ha : 2 ≤ a.natAbs) (i : Nat) (h : isI (a ^ i) = true) : i ≤ 31 := by
  have h1 := natAbs_pow_ge ha i
  rw [isI_iff] at h
  have h2 : (a ^ i).natAbs ≤ 2147483648 := by omega
  rcases Nat.lt_or_ge i 32 with h3 | h3
  · omega
  · have h4 : 2 ^ 32 ≤ 2 ^ i := Nat.pow_le_pow_right (by decide) h3
    omega
/-- what has left the INTEGERs does not come back -/
theorem pow_gone {a : Int} (ha : 2 ≤ a.natAbs) (i : Nat) (h : isI (a ^ i) = false) : ∀ d, isI (a ^ (i + d)) = false := by
  intro d
  cases d with
  | zero => exact h
  | succ d =>
    rw [isI_not] at h ⊢
    have h1 : 2147483648 ≤ (a ^ i).natAbs := by omega
    have h2 : (a ^ (i + (d + 1))).natAbs = (a ^ i).natAbs * (a ^ (d + 1)).natAbs := by rw [Int.pow_add, Int.natAbs_mul]
    have h3 := natAbs_pow_ge ha (d + 1)
    have h4 : 2 ≤ (a ^ (d + 1)).natAbs := by
      have : 2 ^ 1 ≤ 2 ^ (d + 1) := Nat.pow_le_pow_right (by decide) (by omega)
      omega
    have h5 : 2147483648 * 2 ≤ (a ^ i).natAbs * (a ^ (d + 1)).natAbs := Nat.mul_le_mul h1 h4
    omega
theorem mul_bound {x a : Int} (hx : isI x = true) (ha : isI a = true) : -4611686018427387904 ≤ x * a ∧ x * a ≤ 4611686018427387904 := by
  rw [isI_iff] at hx ha
  have h1 : x.natAbs ≤ 2147483648 := by omega
  have h2 : a.natAbs ≤ 2147483648 := by omega
  have h3 : (x * a).natAbs ≤ 2147483648 * 2147483648 := by rw [Int.natAbs_mul]; exact Nat.mul_le_mul h1 h2
  omega
/-- the power of a number, or an overflow -/
def powR (a : Int) (n : Nat) : Int × Int := if isI (a ^ n) = true then (a ^ n, 0) else (0, 28)
theorem pow_loop {a : Int} (hI : isI a = true) (ha : 2 ≤ a.natAbs) (n : Nat) (hn : n ≤ 2147483648) (d : Nat) :
    ∀ i : Nat, i + d = 32 → i ≤ n → isI (a ^ i) = true → ∀ k, integers_PowerOf.l0 (k + d + 1) a (a ^ i) (n : Int) (i : Int) = some (powR a n) := by
  induction d with
  | zero => intro i h1 _ h3; have := pow_large ha i h3; omega
  | succ d ih =>
    intro i h1 h2 h3 k
    rw [show k + (d + 1) + 1 = (k + d + 1) + 1 by omega]
    simp only [integers_PowerOf.l0]
    have hb := mul_bound h3 hI
    rw [w64 (by omega) (by omega), ← pow_next]
    by_cases hlt : i < n
    · rw [if_pos (by omega), num_int]
      simp only [Option.bind_some]
      cases hz : isI (a ^ (i + 1)) with
      | true =>
        simp only [if_true]
        rw [w64 (by omega) (by omega), show ((i : Int) + 1) = ((i + 1 : Nat) : Int) by omega]
        exact ih (i + 1) (by omega) (by omega) hz k
      | false =>
        simp only [Bool.false_eq_true, if_false]
        have := pow_gone ha (i + 1) hz (n - (i + 1))
        rw [show i + 1 + (n - (i + 1)) = n by omega] at this
        rw [powR, this]; rfl
    · have e : i = n := by omega
      subst e
      rw [if_neg (by omega), powR, h3]; rfl
theorem ref_loop {a : Int} (hI : isI a = true) (ha : 2 ≤ a.natAbs) (n : Nat) (hn : n ≤ 2147483648) (d : Nat) :
    ∀ i : Nat, i + d = 32 → i ≤ n → isI (a ^ i) = true → ∀ k, formularyref07_product.l0 (k + d + 1) a (n : Int) (a ^ i) (i : Int) = some (powR a n) := by
  induction d with
  | zero => intro i h1 _ h3; have := pow_large ha i h3; omega
  | succ d ih =>
    intro i h1 h2 h3 k
    rw [show k + (d + 1) + 1 = (k + d + 1) + 1 by omega]
    simp only [formularyref07_product.l0]
    have hb := mul_bound h3 hI
    rw [w64 (by omega) (by omega), ← pow_next]
    by_cases hlt : i < n
    · rw [if_pos (by omega), ref_int]
      simp only [Option.bind_some]
      cases hz : isI (a ^ (i + 1)) with
      | true =>
        simp only [if_true]
        rw [w64 (by omega) (by omega), show ((i : Int) + 1) = ((i + 1 : Nat) : Int) by omega]
        exact ih (i + 1) (by omega) (by omega) hz k
      | false =>
        simp only [Bool.false_eq_true, if_false]
        have := pow_gone ha (i + 1) hz (n - (i + 1))
        rw [show i + 1 + (n - (i + 1)) = n by omega] at this
        rw [powR, this]; rfl
    · have e : i = n := by omega
      subst e
      rw [if_neg (by omega), powR, h3]; rfl
theorem i64_and1 (n : Int) : Go.bits .and .i64 n 1 = n % 2 := by
  have h1 : (BitVec.ofInt 64 1).toNat = 2 ^ 1 - 1 := by decide
  have key : (BitVec.ofInt 64 n &&& BitVec.ofInt 64 1).toNat = (n % ((2 ^ 64 : Nat) : Int)).toNat % 2 ^ 1 := by
    rw [BitVec.toNat_and, BitVec.toNat_ofInt, h1, Nat.and_two_pow_sub_one_eq_mod]
  show IntKind.i64.wrap ((BitVec.ofInt 64 n &&& BitVec.ofInt 64 1).toNat : Nat) = n % 2
  rw [key, IntKind.wrap_i64]
  omega
theorem neg_one_pow (n : Nat) : (-1 : Int) ^ n = 1 - 2 * ((n : Int) % 2) := by
  induction n with
  | zero => rfl
  | succ n ih => rw [pow_next, ih]; omega
theorem one_pow' (n : Nat) : (1 : Int) ^ n = 1 := Int.one_pow
/-- a power that is a whole number -/
theorem power_up {a : Int} (hI : isI a = true) (n : Nat) (hn : n ≤ 2147483647) (k : Nat) : integers_PowerOf.f (k + 40) a (n : Int) = some (powR a n) := by
  have hIn : isI (n : Int) = true := by rw [isI_iff]; omega
  unfold integers_PowerOf.f
  rw [ints2 (k + 36), numE_two, hI, hIn]
  simp only [Bool.and_self, if_true, Option.bind_some, want_eq]
  have hn0 : decide ((n : Int) ≥ 0) = true := by simp
  have hj : ∀ z : Int, z = 0 → integers_PowerOf.j0 (k + 40) a n z = some (powR a n) := by
    intro z hz
    subst hz
    simp only [integers_PowerOf.j0, if_true]
    by_cases h0 : n = 0
    · subst h0
      simp only [integers_PowerOf.j1]
      simp [powR, isI]
    · rw [if_neg (by omega)]
      simp only [integers_PowerOf.j1]
      by_cases h1 : a = 1
      · subst h1; simp [powR, one_pow', isI]
      · rw [if_neg (by simpa using h1)]
        by_cases h2 : a = -1
        · subst h2
          rw [if_pos rfl, i64_and1, w64 (x := 2 * _) (by omega) (by omega), w64 (by omega) (by omega), powR, neg_one_pow, if_pos (by rw [isI_iff]; omega)]
        · rw [if_neg h2, if_neg (by omega)]
          by_cases h3 : a = 0
          · subst h3
            rw [if_pos rfl, powR, Int.zero_pow h0]; rfl
          · rw [if_neg h3]
            have ha : 2 ≤ a.natAbs := by omega
            have := pow_loop hI ha n (by omega) 32 0 (by omega) (by omega) (by rw [Int.pow_zero]; rfl) (k + 5)
            rw [Int.pow_zero] at this
            exact this
  by_cases hz : a = 0
  · rw [if_pos hz]; exact hj _ (by simp)
  · rw [if_neg hz]; exact hj _ (by simp)
theorem product_up {a : Int} (hI : isI a = true) (n : Nat) (hn : n ≤ 2147483648) (k : Nat) : formularyref07_product.f (k + 35) a (n : Int) = some (powR a n) := by
  unfold formularyref07_product.f
  by_cases h0 : a = 0
  · subst h0
    rw [if_pos rfl]
    simp only [formularyref07_product.j0]
    rw [if_pos trivial, if_neg (by decide)]
    unfold formularybase_Bit.f
    by_cases hz : n = 0
    · subst hz; rfl
    · rw [powR, Int.zero_pow hz, if_neg (by simpa using hz)]; rfl
  · rw [if_neg h0]
    simp only [formularyref07_product.j0]
    by_cases h1 : a = 1
    · subst h1
      rw [if_pos (by rfl), if_pos rfl, powR, one_pow']; rfl
    · rw [if_neg (by simpa using h1)]
      by_cases h2 : a = -1
      · subst h2
        have ht : Int.tmod (n : Int) 2 = (n : Int) % 2 := Int.tmod_eq_emod_of_nonneg (by omega)
        rw [if_pos rfl, ht, w64 (x := 2 * _) (by omega) (by omega), w64 (by omega) (by omega), powR, neg_one_pow, if_pos (by rw [isI_iff]; omega)]
      · rw [if_neg h2]
        have ha : 2 ≤ a.natAbs := by omega
        have := ref_loop hI ha n hn 32 0 (by omega) (by omega) (by rw [Int.pow_zero]; rfl) (k + 1)
        rw [Int.pow_zero] at this
        exact this

theorem want0 (b : Bool) (e : Int) : integers_check_want.f 0 b e = some (if b = true then 0 else e) := by rw [want_eq, if_pos rfl]
theorem numE_err (a b : Bool) (h : (a && b) = false) : numE (numE 0 a) b = 2 := by rw [numE_two, h]; rfl
/-- what a power is -/
def powS (a n : Int) : Int × Int :=
  if (isI a && isI n) = false then (0, 2)
  else if 0 ≤ n then powR a n.toNat
  else if a = 0 then (0, 11)
  else if a = 1 ∨ a = -1 then powR a (-n).toNat
  else (0, 0)
theorem power_eq (a n : Int) (k : Nat) : integers_PowerOf.f (k + 40) a n = some (powS a n) := by
  unfold powS
  cases hb : isI a && isI n with
  | false =>
    rw [if_pos rfl]
    unfold integers_PowerOf.f
    rw [ints2 (k + 36), numE_err _ _ hb]
    simp only [Option.bind_some, want_eq]
    have hj : ∀ z : Int, z = 2 → integers_PowerOf.j0 (k + 40) a n z = some (0, 2) := by
      intro z hz; subst hz; rfl
    split
    · exact hj _ rfl
    · exact hj _ rfl
  | true =>
    rw [if_neg (by decide)]
    rw [Bool.and_eq_true] at hb
    obtain ⟨hI, hN⟩ := hb
    have hN' := isI_iff.1 hN
    by_cases h0 : 0 ≤ n
    · rw [if_pos h0]
      obtain ⟨m, rfl⟩ := Int.eq_ofNat_of_zero_le h0
      rw [Int.toNat_natCast]
      exact power_up hI m (by omega) k
    · rw [if_neg h0]
      unfold integers_PowerOf.f
      rw [ints2 (k + 36), numE_two, hI, hN]
      simp only [Bool.and_self, if_true, Option.bind_some, want_eq]
      by_cases hz : a = 0
      · rw [if_pos hz, if_pos hz]
        have : decide (n ≥ 0) = false := by simp; omega
        rw [this]; rfl
      · rw [if_neg hz, if_neg hz]
        simp only [integers_PowerOf.j0]
        simp only [if_true]
        rw [if_neg (by omega)]
        simp only [integers_PowerOf.j1]
        by_cases h1 : a = 1
        · subst h1
          rw [if_pos (by rfl), if_pos (.inl rfl), powR, one_pow']; rfl
        · rw [if_neg (by simpa using h1)]
          by_cases h2 : a = -1
          · subst h2
            rw [if_pos rfl, if_pos (.inr rfl), i64_and1, w64 (x := 2 * _) (by omega) (by omega), w64 (by omega) (by omega), powR, neg_one_pow, if_pos (by rw [isI_iff]; omega)]
            rw [Option.some.injEq, Prod.mk.injEq]
            exact ⟨by omega, rfl⟩
          · rw [if_neg h2, if_pos (by omega), if_neg (by omega)]
theorem ref_power_eq (a n : Int) (k : Nat) : formularyref07_PowerOf.f (k + 40) a n = some (powS a n) := by
  unfold powS formularyref07_PowerOf.f
  rw [twoErr]
  simp only [Option.bind_some]
  cases hb : isI a && isI n with
  | false => rw [if_pos rfl]; rfl
  | true =>
    rw [Bool.and_eq_true] at hb
    obtain ⟨hI, hN⟩ := hb
    have hN' := isI_iff.1 hN
    simp only [if_true, Bool.true_eq_false, if_false]
    by_cases h0 : 0 ≤ n
    · rw [if_pos h0, if_pos h0]
      obtain ⟨m, rfl⟩ := Int.eq_ofNat_of_zero_le h0
      rw [Int.toNat_natCast, product_up hI m (by omega) (k + 5)]; rfl
    · rw [if_neg h0, if_neg h0]
      by_cases hz : a = 0
      · rw [if_pos hz, if_pos hz]
      · rw [if_neg hz, if_neg hz]
        obtain ⟨m, hm⟩ := Int.eq_ofNat_of_zero_le (show 0 ≤ -n by omega)
        rw [w64 (by omega) (by omega), hm, Int.toNat_natCast]
        by_cases h1 : a = 1
        · rw [if_pos h1, if_pos (.inl h1), product_up hI m (by omega) (k + 5)]; rfl
        · rw [if_neg h1]
          by_cases h2 : a = -1
          · rw [if_pos h2, if_pos (.inr h2), product_up hI m (by omega) (k + 5)]; rfl
          · rw [if_neg h2, if_neg (by omega)]
theorem kind_eq (op n : Int) : integers_check_kind.f 0 op n = some (if 0 ≤ op ∧ op < n then 0 else 15) := by
  unfold integers_check_kind.f
  simp only [want_eq, if_true, Option.bind_some]
  by_cases h : 0 ≤ op
  · rw [if_pos h]
    by_cases h2 : op < n
    · simp [h, h2]
    · simp [h2]
  · rw [if_neg h]; simp [h]
theorem mul_apply {p a : Int} (hp : isI p = true) (ha : isI a = true) (k : Nat) : integers_Apply.f (k + 5) 2 p a = some (if isI (p * a) = true then (p * a, 0) else (0, 28)) := by
  have hb := mul_bound hp ha
  unfold integers_Apply.f integers_operation.f
  have hd : integers_divides.f 2 = some false := by decide
  rw [kind_eq, if_pos (by omega)]
  simp only [Option.bind_some, hd]
  rw [ints2 (k + 1), numE_two, hp, ha]
  simp only [Option.bind_some, Bool.and_self, if_true, Bool.false_eq_true, if_false]
  rw [want_eq]
  simp only [Bool.and_self, if_true, Option.bind_some, integers_operation.j0]
  have he : integers_exact.f 2 p a = some (p * a) := by
    unfold integers_exact.f
    rw [if_neg (by decide), if_neg (by decide), if_pos rfl, w64 (by omega) (by omega)]
  rw [he]
  simp only [Option.bind_some]
  unfold integers_told.f
  simp only [num_int, if_true, Option.bind_some]
  split <;> rfl
theorem awake_true : formularylaw07_awake.f 40 = some true := by decide +kernel
theorem awake_any (k : Nat) : formularylaw07_awake.f (k + 40) = some true := at_rounds (g := formularylaw07_awake.f) formularylaw07_awake.mono (by omega) awake_true
theorem IntegersPowers : formularylaw07_IntegersPowers.Pure := by
  intro a n _ _
  refine ⟨100, ?_⟩
  unfold formularylaw07_IntegersPowers.f
  rw [awake_any 60, power_eq a n 60, ref_power_eq a n 60]
  simp only [Option.bind_some, if_true, bne_self_eq_false]
  simp only [formularylaw07_IntegersPowers.j0]
  rw [if_neg (by decide)]
  by_cases h0 : (powS a n).2 = 0
  · rw [if_pos h0, within_eq]
    simp only [Option.bind_some, formularylaw07_IntegersPowers.j1]
    by_cases hr : 0 ≤ n ∧ n ≤ 2147483646
    · have e : (decide (0 ≤ n) && decide (n ≤ 2147483646)) = true := by simp [hr.1, hr.2]
      rw [e, if_neg (by decide), w64 (by omega) (by omega), power_eq a (n + 1) 58]
      cases hI : isI a with
      | false => simp [powS, hI] at h0
      | true =>
        have hn : isI n = true := by rw [isI_iff]; omega
        have hn1 : isI (n + 1) = true := by rw [isI_iff]; omega
        have e1 : powS a n = powR a n.toNat := by simp [powS, hI, hn, hr.1]
        have e2 : powS a (n + 1) = powR a (n.toNat + 1) := by
          have : (n + 1).toNat = n.toNat + 1 := by omega
          simp [powS, hI, hn1, show 0 ≤ n + 1 by omega, this]
        rw [e1] at h0 ⊢
        rw [e2]
        have hp : isI (a ^ n.toNat) = true := by
          cases hq : isI (a ^ n.toNat) with
          | true => rfl
          | false => rw [powR, hq] at h0; simp at h0
        have e3 : powR a n.toNat = (a ^ n.toNat, 0) := by rw [powR, if_pos hp]
        rw [e3]
        simp only [Option.bind_some]
        rw [mul_apply hp hI 93]
        simp only [Option.bind_some, powR, pow_next]
        simp
    · have e : (decide (0 ≤ n) && decide (n ≤ 2147483646)) = false := by
        by_cases h : 0 ≤ n
        · simp [h]; omega
        · simp [h]
      rw [e, if_pos (by decide)]
  · rw [if_neg h0]
    simp only [formularylaw07_IntegersPowers.j1, if_true]

end Go.Proofs.Ytgmlihjopinagaa.Pure
