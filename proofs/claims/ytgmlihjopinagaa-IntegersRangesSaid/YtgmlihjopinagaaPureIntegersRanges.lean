/-
The law IntegersRanges over the printed functions: the range of results is as the reference says, and results of members are in it.
-/
import Derived.Test.YtgmlihjopinagaaPIntegersRangesx13
namespace Go.Proofs.Ytgmlihjopinagaa.Pure
set_option linter.unusedSectionVars false
open Go.RowKit Go.Proofs.Ytgmlihjopinagaa.PIntegersRanges Go.Proofs.YtgmlihjopinagaaW.PrintWords Go.Proofs.YtgmlihjopinagaaW.PrintLast
set_option linter.unusedVariables false
set_option linter.unusedSimpArgs false

def isI (n : Int) : Bool := decide (-2147483648 ≤ n) && decide (n ≤ 2147483647)
theorem isI_iff {n : Int} : isI n = true ↔ -2147483648 ≤ n ∧ n ≤ 2147483647 := by simp [isI]
theorem w64 {x : Int} (h1 : -9223372036854775808 ≤ x) (h2 : x ≤ 9223372036854775807) : wrap64 x = x := by unfold wrap64; omega
theorem num_int (n : Int) : integers_number_integer.f n = some (isI n) := by
  unfold integers_number_integer.f isI
  split
  · rename_i h; simp [h]
  · rename_i h; simp; omega
theorem within_eq (a b c : Int) : formularybase_Within.f a b c = some (decide (b ≤ a) && decide (a ≤ c)) := by
  unfold formularybase_Within.f
  split
  · rename_i h; simp; omega
  · rename_i h
    have : b ≤ a := by omega
    simp only [this, decide_true, Bool.true_and, Option.some.injEq]
    by_cases h2 : a ≤ c
    · simp [h2]
    · simp [h2]; omega
theorem ref_int (n : Int) : fr7_IsInteger.f n = some (isI n) := by
  unfold fr7_IsInteger.f; rw [within_eq]; rfl
theorem want_eq (c : Int) (b : Bool) (e : Int) : integers_check_want.f c b e = some (if c = 0 then (if b = true then c else e) else c) := by
  unfold integers_check_want.f; split
  · split <;> rfl
  · rfl
theorem err_eq (c : Int) : integers_check_err.f c = some c := rfl
/-- the error of numbers that should be INTEGERs -/
def numE (c : Int) (b : Bool) : Int := if c = 0 then (if b = true then c else 2) else c
theorem ints2 (k : Nat) (c a b : Int) : integers_check_integers.f (k + 4) c [a, b] = some (numE (numE c (isI a)) (isI b)) := by
  unfold integers_check_integers.f
  simp only [List.length_cons, List.length_nil]
  simp only [integers_check_integers.l0, List.length_cons, List.length_nil]
  simp only [num_int, want_eq, rd, Option.bind_some]
  simp [w64, numE]
  rfl
theorem numE_two (a b : Bool) : numE (numE 0 a) b = if (a && b) = true then 0 else 2 := by cases a <;> cases b <;> decide
theorem mul_bound {x a : Int} (hx : isI x = true) (ha : isI a = true) : -4611686018427387904 ≤ x * a ∧ x * a ≤ 4611686018427387904 := by
  rw [isI_iff] at hx ha
  have h1 : x.natAbs ≤ 2147483648 := by omega
  have h2 : a.natAbs ≤ 2147483648 := by omega
  have h3 : (x * a).natAbs ≤ 2147483648 * 2147483648 := by rw [Int.natAbs_mul]; exact Nat.mul_le_mul h1 h2
  omega
theorem natAbs_tdiv_le (a b : Int) : (a.tdiv b).natAbs ≤ a.natAbs := by
  rw [Int.natAbs_tdiv]; exact Nat.div_le_self _ _
theorem tmod_small (a : Int) {b : Int} (hb : b ≠ 0) : (a.tmod b).natAbs < b.natAbs := by
  rw [Int.natAbs_tmod]; exact Nat.mod_lt _ (by omega)
theorem tmod_le (a b : Int) : (a.tmod b).natAbs ≤ a.natAbs := by
  rw [Int.natAbs_tmod]; exact Nat.mod_le _ _
theorem mx_max (a b : Int) : mx a b = max a b := by unfold mx; omega
theorem mn_min (a b : Int) : mn a b = min a b := by unfold mn; omega
/-- the exact result of an operation -/
def exS (op a b : Int) : Int :=
  if op = 0 then a + b else if op = 1 then a - b else if op = 2 then a * b else if op = 3 then a.tdiv b else if op = 4 then a.tmod b
  else if op = 5 then (if b < 0 then -(a.natAbs : Int) else (a.natAbs : Int)) else if op = 6 then max (a - b) 0 else if op = 7 then min a b else max a b
theorem size_num {a : Int} (h : isI a = true) : integers_number_size.f a = some (a.natAbs : Int) := by
  rw [isI_iff] at h
  unfold integers_number_size.f
  rw [w64 (by omega) (by omega), mx_max]
  congr 1; omega
theorem size_base {a : Int} (h : isI a = true) : formularybase_Size.f a = some (a.natAbs : Int) := by
  rw [isI_iff] at h
  unfold formularybase_Size.f
  split
  · rw [w64 (by omega) (by omega)]; congr 1; omega
  · congr 1; omega
theorem exact_eq {op a b : Int} (ha : isI a = true) (hb : isI b = true) (hz : ¬ ((op = 3 ∨ op = 4) ∧ b = 0)) : integers_exact.f op a b = some (exS op a b) := by
  have hm := mul_bound ha hb
  have ha' := isI_iff.1 ha
  have hb' := isI_iff.1 hb
  have hd := natAbs_tdiv_le a b
  unfold integers_exact.f exS
  by_cases h0 : op = 0
  · rw [if_pos h0, if_pos h0, w64 (by omega) (by omega)]
  rw [if_neg h0, if_neg h0]
  by_cases h1 : op = 1
  · rw [if_pos h1, if_pos h1, w64 (by omega) (by omega)]
  rw [if_neg h1, if_neg h1]
  by_cases h2 : op = 2
  · rw [if_pos h2, if_pos h2, w64 (by omega) (by omega)]
  rw [if_neg h2, if_neg h2]
  by_cases h3 : op = 3
  · rw [if_pos h3, if_pos h3, if_neg (fun h => hz ⟨.inl h3, h⟩), w64 (by omega) (by omega)]
  rw [if_neg h3, if_neg h3]
  by_cases h4 : op = 4
  · rw [if_pos h4, if_pos h4, if_neg (fun h => hz ⟨.inr h4, h⟩)]
  rw [if_neg h4, if_neg h4]
  by_cases h5 : op = 5
  · rw [if_pos h5, if_pos h5, size_num ha]
    simp only [Option.bind_some]
    split
    · rw [w64 (by omega) (by omega)]
    · rfl
  rw [if_neg h5, if_neg h5]
  by_cases h6 : op = 6
  · rw [if_pos h6, if_pos h6, w64 (by omega) (by omega), mx_max]
  rw [if_neg h6, if_neg h6, mx_max, mn_min]
  split <;> rfl
/-- the result of an operation, and its error but for an overflow -/
def opS (op a b : Int) : Int × Int :=
  if ¬ (0 ≤ op ∧ op < 9) then (0, 15) else if (isI a && isI b) = false then (0, 2) else if (op = 3 ∨ op = 4) ∧ b = 0 then (0, 11) else (exS op a b, 0)
theorem divides_eq (op : Int) : integers_divides.f op = some (decide (op = 3 ∨ op = 4)) := by
  unfold integers_divides.f
  split
  · rename_i h; simp [h]
  · rename_i h
    by_cases h4 : op = 4
    · simp [h4]
    · simp [h, h4]
theorem kind_eq (op n : Int) : integers_check_kind.f 0 op n = some (if 0 ≤ op ∧ op < n then 0 else 15) := by
  unfold integers_check_kind.f
  simp only [want_eq, if_true, Option.bind_some]
  by_cases h : 0 ≤ op
  · rw [if_pos h]
    by_cases h2 : op < n
    · simp [h, h2]
    · simp [h2]
  · rw [if_neg h]; simp [h]
theorem numE_ne {c : Int} (h : c ≠ 0) (b : Bool) : numE c b = c := by rw [numE, if_neg h]
theorem op_eq (op a b : Int) (k : Nat) : integers_operation.f (k + 5) op a b = some (opS op a b) := by
  unfold integers_operation.f opS
  rw [kind_eq, divides_eq]
  simp only [Option.bind_some]
  rw [ints2 (k + 1)]
  simp only [Option.bind_some]
  by_cases hk : 0 ≤ op ∧ op < 9
  · rw [if_pos hk, if_neg (not_not_intro hk), numE_two]
    cases hb : isI a && isI b with
    | false =>
      rw [if_pos rfl]
      simp only [Bool.false_eq_true, if_false, want_eq]
      split <;> rfl
    | true =>
      rw [Bool.and_eq_true] at hb
      simp only [if_true, Bool.true_eq_false, if_false, want_eq, Option.bind_some]
      by_cases hd : op = 3 ∨ op = 4
      · simp only [hd, decide_true, true_and, if_true, bne_iff_ne, ne_eq]
        by_cases hz : b = 0
        · rw [if_pos hz, if_neg (not_not_intro hz)]; rfl
        · rw [if_neg hz, if_pos hz]
          simp only [integers_operation.j0, if_true]
          rw [exact_eq hb.1 hb.2 (fun h => hz h.2)]; rfl
      · simp only [hd, decide_false, false_and, if_false, Bool.false_eq_true]
        simp only [integers_operation.j0, if_true]
        rw [exact_eq hb.1 hb.2 (fun h => hd h.1)]; rfl
  · rw [if_neg hk, if_pos hk, numE_ne (c := 15) (by decide), numE_ne (c := 15) (by decide)]
    simp only [want_eq]
    split <;> rfl
/-- what Apply returns -/
def applyS (op a b : Int) : Int × Int := if (opS op a b).2 = 0 then (if isI (opS op a b).1 = true then ((opS op a b).1, 0) else (0, 28)) else (0, (opS op a b).2)
theorem apply_eq (op a b : Int) (k : Nat) : integers_Apply.f (k + 5) op a b = some (applyS op a b) := by
  unfold integers_Apply.f applyS integers_told.f
  rw [op_eq]
  simp only [Option.bind_some, num_int]
  split
  · split <;> rfl
  · rfl
theorem operr (op n : Int) (h1 : 0 ≤ n) (h2 : n ≤ 100) : fr7_OpErr.f op n = some (if 0 ≤ op ∧ op < n then 0 else 15) := by
  unfold fr7_OpErr.f
  rw [w64 (by omega) (by omega), within_eq]
  simp only [Option.bind_some]
  by_cases h : 0 ≤ op ∧ op < n
  · rw [if_pos h, if_pos (by simp; omega)]
  · rw [if_neg h, if_neg (by simp; omega)]
theorem quo_eq {a b : Int} (ha : isI a = true) (hb : isI b = true) (hz : b ≠ 0) : fr7_Quotient.f a b = some (a.tdiv b) := by
  have hd := natAbs_tdiv_le a b
  have ha' := isI_iff.1 ha
  unfold fr7_Quotient.f
  rw [size_base ha, size_base hb]
  simp only [Option.bind_some]
  have hq : Int.tdiv (a.natAbs : Int) (b.natAbs : Int) = ((a.tdiv b).natAbs : Int) := by
    rw [Int.natAbs_tdiv]; rfl
  rw [if_neg (by omega), hq, w64 (x := ((a.tdiv b).natAbs : Int)) (by omega) (by omega)]
  have hs : a.tdiv b = if (decide (a < 0)) != (decide (b < 0)) then -(((a.tdiv b).natAbs : Int)) else ((a.tdiv b).natAbs : Int) := by
    rcases Int.lt_or_le a 0 with h1 | h1 <;> rcases Int.lt_or_le b 0 with h2 | h2
    · have : 0 ≤ a.tdiv b := by
        have h := Int.tdiv_nonneg (a := -a) (b := -b) (by omega) (by omega)
        rwa [Int.neg_tdiv, Int.tdiv_neg, Int.neg_neg] at h
      rw [decide_eq_true h1, decide_eq_true h2]; show _ = ((a.tdiv b).natAbs : Int); omega
    · have : 0 ≤ -(a.tdiv b) := by
        have h := Int.tdiv_nonneg (a := -a) (b := b) (by omega) (by omega)
        rwa [Int.neg_tdiv] at h
      have h2' : ¬ b < 0 := by omega
      rw [decide_eq_true h1, decide_eq_false h2']; show _ = -((a.tdiv b).natAbs : Int); omega
    · have : 0 ≤ -(a.tdiv b) := by
        have h := Int.tdiv_nonneg (a := a) (b := -b) (by omega) (by omega)
        rwa [Int.tdiv_neg] at h
      have h1' : ¬ a < 0 := by omega
      rw [decide_eq_false h1', decide_eq_true h2]; show _ = -((a.tdiv b).natAbs : Int); omega
    · have := Int.tdiv_nonneg h1 h2
      have h1' : ¬ a < 0 := by omega
      have h2' : ¬ b < 0 := by omega
      rw [decide_eq_false h1', decide_eq_false h2']; show _ = ((a.tdiv b).natAbs : Int); omega
  by_cases hc : ((decide (a < 0)) != (decide (b < 0))) = true
  · rw [if_pos hc, w64 (by omega) (by omega)]
    rw [if_pos hc] at hs
    rw [← hs]
  · rw [if_neg hc]
    rw [if_neg hc] at hs
    rw [← hs]
theorem rest_eq {a b : Int} (ha : isI a = true) (hb : isI b = true) (hz : b ≠ 0) : fr7_Rest.f a b = some (a.tmod b) := by
  have ha' := isI_iff.1 ha
  have hm := tmod_le a b
  have he : b * a.tdiv b = a - a.tmod b := by have := Int.mul_tdiv_add_tmod a b; omega
  unfold fr7_Rest.f
  rw [quo_eq ha hb hz]
  simp only [Option.bind_some]
  rw [he, w64 (x := a - a.tmod b) (by omega) (by omega), w64 (by omega) (by omega)]
  congr 1; omega
theorem ref_exact_eq {op a b : Int} (ha : isI a = true) (hb : isI b = true) (k : Nat) : fr7_Exact.f (k + 1) op a b = some (if (op = 3 ∨ op = 4) ∧ b = 0 then (0, 11) else (exS op a b, 0)) := by
  have hm := mul_bound ha hb
  have ha' := isI_iff.1 ha
  have hb' := isI_iff.1 hb
  have key : ∀ z : Bool, z = decide ((op = 3 ∨ op = 4) ∧ b = 0) → fr7_Exact.j0 (k + 1) op a b z = some (if (op = 3 ∨ op = 4) ∧ b = 0 then (0, 11) else (exS op a b, 0)) := by
    intro z hz
    simp only [fr7_Exact.j0]
    by_cases hc : (op = 3 ∨ op = 4) ∧ b = 0
    · rw [if_pos hc, hz, decide_eq_true hc]; rfl
    · rw [if_neg hc, hz, decide_eq_false hc, if_neg (by decide)]
      unfold exS
      by_cases h0 : op = 0
      · rw [if_pos h0, if_pos h0, w64 (by omega) (by omega)]
      rw [if_neg h0, if_neg h0]
      by_cases h1 : op = 1
      · rw [if_pos h1, if_pos h1, w64 (by omega) (by omega)]
      rw [if_neg h1, if_neg h1]
      by_cases h2 : op = 2
      · rw [if_pos h2, if_pos h2, w64 (by omega) (by omega)]
      rw [if_neg h2, if_neg h2]
      by_cases h3 : op = 3
      · rw [if_pos h3, if_pos h3, quo_eq ha hb (fun h => hc ⟨.inl h3, h⟩)]; rfl
      rw [if_neg h3, if_neg h3]
      by_cases h4 : op = 4
      · rw [if_pos h4, if_pos h4, rest_eq ha hb (fun h => hc ⟨.inr h4, h⟩)]; rfl
      rw [if_neg h4, if_neg h4]
      by_cases h5 : op = 5
      · rw [if_pos h5, if_pos h5, size_base ha]
        simp only [Option.bind_some]
        split
        · rw [w64 (by omega) (by omega)]
        · rfl
      rw [if_neg h5, if_neg h5]
      by_cases h6 : op = 6
      · rw [if_pos h6, if_pos h6, w64 (by omega) (by omega), mx_max]
      rw [if_neg h6, if_neg h6, mx_max, mn_min]
      split <;> rfl
  unfold fr7_Exact.f
  by_cases h3 : op = 3
  · rw [if_pos h3]; exact key _ (by by_cases hz : b = 0 <;> simp [h3, hz])
  · rw [if_neg h3]
    by_cases h4 : op = 4
    · rw [if_pos h4]; exact key _ (by by_cases hz : b = 0 <;> simp [h4, hz])
    · rw [if_neg h4]; exact key _ (by simp [h3, h4])
theorem mod_eq (n m : Int) (h1 : 0 < m) (h2 : m ≤ 4611686018427387904) : formularybase_Mod.f n m = some (n % m) := by
  have hs := tmod_small n (b := m) (by omega)
  have he := Int.emod_nonneg n (b := m) (by omega)
  have ht := Int.tmod_eq_emod (a := n) (b := m)
  unfold formularybase_Mod.f formularybase_Bit.f
  rw [if_neg (by omega)]
  by_cases h : n.tmod m < 0
  · have hneg : ¬ (0 ≤ n ∨ m ∣ n) := by
      intro hc; rw [if_pos hc] at ht; omega
    rw [if_neg hneg] at ht
    simp only [h, decide_true, if_true, Option.bind_some]
    rw [Int.mul_one, w64 (x := m) (by omega) (by omega), w64 (by omega) (by omega)]
    congr 1; omega
  · simp only [h, decide_false, Bool.false_eq_true, if_false, Option.bind_some]
    rw [Int.mul_zero, w64 (x := 0) (by omega) (by omega), w64 (by omega) (by omega)]
    congr 1
    by_cases hc : 0 ≤ n ∨ m ∣ n
    · rw [if_pos hc] at ht; omega
    · rw [if_neg hc] at ht
      have := Int.emod_lt_of_pos n h1
      omega
theorem applyS_ok {op a b : Int} (ha : isI a = true) (hb : isI b = true) (h : 0 ≤ op ∧ op < 9) (hz : ¬ ((op = 3 ∨ op = 4) ∧ b = 0)) :
    applyS op a b = if isI (exS op a b) = true then (exS op a b, 0) else (0, 28) := by
  have : opS op a b = (exS op a b, 0) := by
    unfold opS
    rw [if_neg (not_not_intro h), ha, hb, if_neg (by decide), if_neg hz]
  unfold applyS
  rw [this, if_pos rfl]
theorem apply_at {k : Nat} (hk : 5 ≤ k) (op a b : Int) : integers_Apply.f k op a b = some (applyS op a b) := by
  obtain ⟨m, rfl⟩ : ∃ m, k = m + 5 := ⟨k - 5, by omega⟩
  exact apply_eq op a b m
theorem awake_true : formularylaw07_awake.f 40 = some true := by decide +kernel
theorem awake_any (k : Nat) : formularylaw07_awake.f (k + 40) = some true := at_rounds (g := formularylaw07_awake.f) formularylaw07_awake.mono (by omega) awake_true
theorem foldl_mn (l : List Int) : ∀ z, l.foldl mn z ≤ z ∧ (∀ v ∈ l, l.foldl mn z ≤ v) ∧ (l.foldl mn z = z ∨ l.foldl mn z ∈ l) := by
  induction l with
  | nil => intro z; exact ⟨Int.le_refl _, fun v h => by simp at h, .inl rfl⟩
  | cons a l ih =>
    intro z
    obtain ⟨h1, h2, h3⟩ := ih (mn z a)
    rw [List.foldl_cons]
    have hm : mn z a ≤ z ∧ mn z a ≤ a ∧ (mn z a = z ∨ mn z a = a) := by rw [mn_min]; omega
    refine ⟨by omega, fun v hv => ?_, ?_⟩
    · rcases List.mem_cons.1 hv with rfl | hv
      · omega
      · exact h2 v hv
    · rcases h3 with h3 | h3
      · rcases hm.2.2 with h4 | h4
        · exact .inl (h3.trans h4)
        · exact .inr (by rw [h3, h4]; exact List.mem_cons_self)
      · exact .inr (List.mem_cons_of_mem _ h3)
theorem foldl_mx (l : List Int) : ∀ z, z ≤ l.foldl mx z ∧ (∀ v ∈ l, v ≤ l.foldl mx z) ∧ (l.foldl mx z = z ∨ l.foldl mx z ∈ l) := by
  induction l with
  | nil => intro z; exact ⟨Int.le_refl _, fun v h => by simp at h, .inl rfl⟩
  | cons a l ih =>
    intro z
    obtain ⟨h1, h2, h3⟩ := ih (mx z a)
    rw [List.foldl_cons]
    have hm : z ≤ mx z a ∧ a ≤ mx z a ∧ (mx z a = z ∨ mx z a = a) := by rw [mx_max]; omega
    refine ⟨by omega, fun v hv => ?_, ?_⟩
    · rcases List.mem_cons.1 hv with rfl | hv
      · omega
      · exact h2 v hv
    · rcases h3 with h3 | h3
      · rcases hm.2.2 with h4 | h4
        · exact .inl (h3.trans h4)
        · exact .inr (by rw [h3, h4]; exact List.mem_cons_self)
      · exact .inr (List.mem_cons_of_mem _ h3)
theorem rd_mem {l : List Int} (h : l ≠ []) : rd l 0 ∈ l := by
  cases l with
  | nil => exact absurd rfl h
  | cons a l => simp [rd]
theorem around_spec {l : List Int} (h : l ≠ []) : ∃ lo hi, integers_around.f l = some (lo, hi) ∧ lo ∈ l ∧ hi ∈ l ∧ ∀ v ∈ l, lo ≤ v ∧ v ≤ hi := by
  obtain ⟨_, h2, h3⟩ := foldl_mn l (rd l 0)
  obtain ⟨_, g2, g3⟩ := foldl_mx l (rd l 0)
  refine ⟨_, _, by rw [integers_around.f, if_neg h], ?_, ?_, fun v hv => ⟨h2 v hv, g2 v hv⟩⟩
  · rcases h3 with h3 | h3
    · rw [h3]; exact rd_mem h
    · exact h3
  · rcases g3 with g3 | g3
    · rw [g3]; exact rd_mem h
    · exact g3
/-- what a range of results is: all results lie in it, and its ends are results at members of two lists -/
structure IsR (op : Int) (E F : List Int) (x0 x1 y0 y1 : Int) (lo hi : Int) : Prop where
  low : ∃ a ∈ E, ∃ b ∈ F, exS op a b = lo
  high : ∃ a ∈ E, ∃ b ∈ F, exS op a b = hi
  all : ∀ a b, x0 ≤ a → a ≤ x1 → y0 ≤ b → b ≤ y1 → lo ≤ exS op a b ∧ exS op a b ≤ hi
/-- a list of values that tells a range of results -/
structure Tells (op : Int) (E F : List Int) (x0 x1 y0 y1 : Int) (l : List Int) : Prop where
  ne : l ≠ []
  one : ∀ v ∈ l, ∃ a ∈ E, ∃ b ∈ F, exS op a b = v
  lower : ∀ a b, x0 ≤ a → a ≤ x1 → y0 ≤ b → b ≤ y1 → ∃ v ∈ l, v ≤ exS op a b
  upper : ∀ a b, x0 ≤ a → a ≤ x1 → y0 ≤ b → b ≤ y1 → ∃ v ∈ l, exS op a b ≤ v
theorem Tells.isR {op : Int} {E F : List Int} {x0 x1 y0 y1 : Int} {l : List Int} (h : Tells op E F x0 x1 y0 y1 l) :
    ∃ lo hi, integers_around.f l = some (lo, hi) ∧ IsR op E F x0 x1 y0 y1 lo hi := by
  obtain ⟨lo, hi, h1, h2, h3, h4⟩ := around_spec h.ne
  refine ⟨lo, hi, h1, h.one lo h2, h.one hi h3, fun a b g1 g2 g3 g4 => ?_⟩
  obtain ⟨v, hv, hv2⟩ := h.lower a b g1 g2 g3 g4
  obtain ⟨u, hu, hu2⟩ := h.upper a b g1 g2 g3 g4
  have := h4 v hv
  have := h4 u hu
  omega
def inR (n x0 x1 : Int) : Bool := decide (x0 ≤ n) && decide (n ≤ x1)
theorem inR_iff {n x0 x1 : Int} : inR n x0 x1 = true ↔ x0 ≤ n ∧ n ≤ x1 := by simp [inR]
def endsL (x0 x1 : Int) : List Int := [x0, x1] ++ ((if inR (-1) x0 x1 = true then [-1] else []) ++ ((if inR 0 x0 x1 = true then [0] else []) ++ (if inR 1 x0 x1 = true then [1] else [])))
theorem ends_step (l : List Int) (n x0 x1 : Int) (hn : -1 ≤ n ∧ n ≤ 1) (hl : l.length ≤ 10) (k : Nat) :
    fr7_ends.l0 (k + 1) l n x0 x1 = fr7_ends.l0 k (l ++ (if inR n x0 x1 = true then [n] else [])) (n + 1) x0 x1 := by
  conv => lhs; unfold fr7_ends.l0
  rw [if_pos hn.2, within_eq]
  have e : (decide (x0 ≤ n) && decide (n ≤ x1)) = inR n x0 x1 := rfl
  rw [e]
  simp only [Option.bind_some]
  rw [w64 (by omega) (by omega)]
  cases inR n x0 x1 with
  | true => rw [if_pos rfl, if_pos rfl, if_pos (by omega)]
  | false => rw [if_neg (by decide), if_neg (by decide), List.append_nil]
theorem ends_eq (x0 x1 : Int) {k : Nat} (hk : 5 ≤ k) : fr7_ends.f k x0 x1 = some (endsL x0 x1) := by
  obtain ⟨m, rfl⟩ : ∃ m, k = m + 4 := ⟨k - 4, by omega⟩
  unfold fr7_ends.f
  have hl : ∀ (b : Bool) (n : Int), (if b = true then [n] else []).length ≤ 1 := fun b n => by cases b <;> simp
  rw [show m + 4 = (m + 3) + 1 by omega, ends_step _ _ _ _ (by omega) (by simp)]
  rw [show m + 3 = (m + 2) + 1 by omega, ends_step _ _ _ _ (by omega) (by have := hl (inR (-1) x0 x1) (-1); simp only [List.length_append, List.length_cons, List.length_nil]; omega)]
  rw [show m + 2 = (m + 1) + 1 by omega, ends_step _ _ _ _ (by omega) (by have := hl (inR (-1) x0 x1) (-1); have := hl (inR (-1 + 1) x0 x1) (-1 + 1); simp only [List.length_append, List.length_cons, List.length_nil]; omega)]
  unfold fr7_ends.l0
  rw [if_neg (by decide)]
  simp only [endsL, List.append_assoc, show ((-1 : Int) + 1) = 0 from rfl, show ((0 : Int) + 1) = 1 from rfl]
theorem ends_mem {n x0 x1 : Int} (h : n ∈ endsL x0 x1) (hx : x0 ≤ x1) : x0 ≤ n ∧ n ≤ x1 := by
  unfold endsL at h
  simp only [List.mem_append, List.mem_cons, List.not_mem_nil, or_false] at h
  rcases h with (rfl | rfl) | h | h | h
  · omega
  · omega
  all_goals
    split at h
    · rename_i hi
      rw [inR_iff] at hi
      simp only [List.mem_cons, List.not_mem_nil, or_false] at h
      omega
    · simp at h
theorem ends_lo (x0 x1 : Int) : x0 ∈ endsL x0 x1 := by simp [endsL]
theorem ends_hi (x0 x1 : Int) : x1 ∈ endsL x0 x1 := by simp [endsL]
theorem ends_at {n x0 x1 : Int} (hn : n = -1 ∨ n = 0 ∨ n = 1) (h : x0 ≤ n ∧ n ≤ x1) : n ∈ endsL x0 x1 := by
  have hi := inR_iff.2 h
  unfold endsL
  rcases hn with rfl | rfl | rfl <;> simp [hi]
theorem ends_ne (x0 x1 : Int) : endsL x0 x1 ≠ [] := by simp [endsL]
theorem ends_len (x0 x1 : Int) : (endsL x0 x1).length ≤ 5 := by
  unfold endsL
  have hl : ∀ (b : Bool) (n : Int), (if b = true then [n] else []).length ≤ 1 := fun b n => by cases b <;> simp
  have := hl (inR (-1) x0 x1) (-1); have := hl (inR 0 x0 x1) 0; have := hl (inR 1 x0 x1) 1
  simp only [List.length_append, List.length_cons, List.length_nil]
  omega
def membersL (x0 : Int) (n : Nat) : List Int := (List.range n).map fun (i : Nat) => x0 + (i : Int)
theorem membersL_len (x0 : Int) (n : Nat) : (membersL x0 n).length = n := by simp [membersL]
theorem members_loop (x0 x1 : Int) (h1 : -2147483648 ≤ x0) (h2 : x1 ≤ 2147483647) (d : Nat) : ∀ i : Nat, x0 + (i : Int) + d = x1 + 1 → i + d ≤ 300 → ∀ k, fr7_members.l0 (k + d + 1) (membersL x0 i) (x0 + (i : Int)) x0 x1 = some (membersL x0 (i + d)) := by
  induction d with
  | zero =>
    intro i hi hl k
    unfold fr7_members.l0
    rw [if_neg (by omega)]; rfl
  | succ d ih =>
    intro i hi hl k
    rw [show k + (d + 1) + 1 = (k + d + 1) + 1 by omega]
    conv => lhs; unfold fr7_members.l0
    rw [if_pos (by omega), membersL_len, if_pos (by omega), w64 (by omega) (by omega)]
    have e : membersL x0 i ++ [x0 + (i : Int)] = membersL x0 (i + 1) := by simp [membersL, List.range_succ]
    rw [e, show x0 + (i : Int) + 1 = x0 + ((i + 1 : Nat) : Int) by omega, ih (i + 1) (by omega) (by omega), show i + 1 + d = i + (d + 1) by omega]
theorem members_eq {x0 x1 : Int} (h1 : -2147483648 ≤ x0) (h2 : x1 ≤ 2147483647) (h3 : x0 ≤ x1) (h4 : x1 - x0 < 200) {k : Nat} (hk : 250 ≤ k) : fr7_members.f k x0 x1 = some (membersL x0 (x1 - x0 + 1).toNat) := by
  obtain ⟨m, rfl⟩ : ∃ m, k = m + (x1 - x0 + 1).toNat + 1 := ⟨k - (x1 - x0 + 1).toNat - 1, by omega⟩
  unfold fr7_members.f
  have := members_loop x0 x1 h1 h2 (x1 - x0 + 1).toNat 0 (by omega) (by omega) m
  rw [show x0 + ((0 : Nat) : Int) = x0 by omega, Nat.zero_add] at this
  exact this
theorem members_mem {a x0 x1 : Int} (h : x0 ≤ x1) : a ∈ membersL x0 (x1 - x0 + 1).toNat ↔ x0 ≤ a ∧ a ≤ x1 := by
  unfold membersL
  rw [List.mem_map]
  constructor
  · rintro ⟨i, hi, rfl⟩
    rw [List.mem_range] at hi
    omega
  · intro ha
    exact ⟨(a - x0).toNat, List.mem_range.2 (by omega), by omega⟩
theorem mul_between {lo a hi : Int} (h1 : lo ≤ a) (h2 : a ≤ hi) (b : Int) : (lo * b ≤ a * b ∧ a * b ≤ hi * b) ∨ (hi * b ≤ a * b ∧ a * b ≤ lo * b) := by
  rcases Int.le_total 0 b with hb | hb
  · exact .inl ⟨Int.mul_le_mul_of_nonneg_right h1 hb, Int.mul_le_mul_of_nonneg_right h2 hb⟩
  · exact .inr ⟨Int.mul_le_mul_of_nonpos_right h2 hb, Int.mul_le_mul_of_nonpos_right h1 hb⟩
theorem div_mono {a c b : Int} (h : a ≤ c) (hb : 0 < b) : a.tdiv b ≤ c.tdiv b := by
  have key : ∀ {p q : Int}, 0 ≤ p → p ≤ q → p.tdiv b ≤ q.tdiv b := by
    intro p q hp hq
    obtain ⟨p, rfl⟩ := Int.eq_ofNat_of_zero_le hp
    obtain ⟨q, rfl⟩ := Int.eq_ofNat_of_zero_le (show 0 ≤ q by omega)
    obtain ⟨b, rfl⟩ := Int.eq_ofNat_of_zero_le (show 0 ≤ b by omega)
    show ((p / b : Nat) : Int) ≤ ((q / b : Nat) : Int)
    have := Nat.div_le_div_right (c := b) (show p ≤ q by omega)
    omega
  rcases Int.le_total 0 a with ha | ha
  · exact key ha h
  · rcases Int.le_total 0 c with hc | hc
    · have h1 := Int.tdiv_nonneg (a := -a) (b := b) (by omega) (by omega)
      rw [Int.neg_tdiv] at h1
      have h2 := Int.tdiv_nonneg hc (show 0 ≤ b by omega)
      omega
    · have := key (p := -c) (q := -a) (by omega) (by omega)
      rw [Int.neg_tdiv, Int.neg_tdiv] at this
      omega
theorem div_anti {a p q : Int} (ha : 0 ≤ a) (hp : 0 < p) (hq : p ≤ q) : a.tdiv q ≤ a.tdiv p := by
  obtain ⟨a, rfl⟩ := Int.eq_ofNat_of_zero_le ha
  obtain ⟨p, rfl⟩ := Int.eq_ofNat_of_zero_le (show 0 ≤ p by omega)
  obtain ⟨q, rfl⟩ := Int.eq_ofNat_of_zero_le (show 0 ≤ q by omega)
  show ((a / q : Nat) : Int) ≤ ((a / p : Nat) : Int)
  have := Nat.div_le_div_left (a := a) (show p ≤ q by omega) (by omega)
  omega
theorem div_between {a p b q : Int} (hp : 0 < p) (h1 : p ≤ b) (h2 : b ≤ q) : (a.tdiv p ≤ a.tdiv b ∧ a.tdiv b ≤ a.tdiv q) ∨ (a.tdiv q ≤ a.tdiv b ∧ a.tdiv b ≤ a.tdiv p) := by
  rcases Int.le_total 0 a with ha | ha
  · exact .inr ⟨div_anti ha (by omega) h2, div_anti ha hp h1⟩
  · have g1 := div_anti (a := -a) (by omega) hp h1
    have g2 := div_anti (a := -a) (by omega) (show 0 < b by omega) h2
    rw [Int.neg_tdiv, Int.neg_tdiv] at g1 g2
    exact .inl ⟨by omega, by omega⟩
/-- the four corners of a quotient, the divisor keeping its sign -/
theorem div_corners {x0 a x1 p b q : Int} (h1 : x0 ≤ a) (h2 : a ≤ x1) (g1 : p ≤ b) (g2 : b ≤ q) (hs : 0 < p ∨ q < 0) :
    (∃ v ∈ [x0.tdiv p, x0.tdiv q, x1.tdiv p, x1.tdiv q], v ≤ a.tdiv b) ∧ (∃ v ∈ [x0.tdiv p, x0.tdiv q, x1.tdiv p, x1.tdiv q], a.tdiv b ≤ v) := by
  rcases hs with hs | hs
  · have e := div_between (a := a) hs g1 g2
    have m1 := div_mono h1 hs
    have m2 := div_mono h2 hs
    have m3 := div_mono (b := q) h1 (by omega)
    have m4 := div_mono (b := q) h2 (by omega)
    rcases e with e | e
    · exact ⟨⟨x0.tdiv p, by simp, by omega⟩, ⟨x1.tdiv q, by simp, by omega⟩⟩
    · exact ⟨⟨x0.tdiv q, by simp, by omega⟩, ⟨x1.tdiv p, by simp, by omega⟩⟩
  · have e := div_between (a := a) (p := -q) (b := -b) (q := -p) (by omega) (by omega) (by omega)
    have m1 := div_mono (b := -p) h1 (by omega)
    have m2 := div_mono (b := -p) h2 (by omega)
    have m3 := div_mono (b := -q) h1 (by omega)
    have m4 := div_mono (b := -q) h2 (by omega)
    simp only [Int.tdiv_neg] at e m1 m2 m3 m4
    rcases e with e | e
    · exact ⟨⟨x1.tdiv p, by simp, by omega⟩, ⟨x0.tdiv q, by simp, by omega⟩⟩
    · exact ⟨⟨x1.tdiv q, by simp, by omega⟩, ⟨x0.tdiv p, by simp, by omega⟩⟩
theorem ex0 (a b : Int) : exS 0 a b = a + b := by simp [exS]
theorem ex1 (a b : Int) : exS 1 a b = a - b := by simp [exS]
theorem ex2 (a b : Int) : exS 2 a b = a * b := by simp [exS]
theorem ex3 (a b : Int) : exS 3 a b = a.tdiv b := by simp [exS]
theorem ex4 (a b : Int) : exS 4 a b = a.tmod b := by simp [exS]
theorem ex5 (a b : Int) : exS 5 a b = if b < 0 then -(a.natAbs : Int) else (a.natAbs : Int) := by simp [exS]
theorem ex6 (a b : Int) : exS 6 a b = max (a - b) 0 := by simp [exS]
theorem ex7 (a b : Int) : exS 7 a b = min a b := by simp [exS]
theorem ex8 (a b : Int) : exS 8 a b = max a b := by simp [exS]
section
variable {x0 x1 y0 y1 : Int}
theorem tells_corners {op : Int} (hop : op = 0 ∨ op = 2 ∨ op = 7 ∨ op = 8) (hx : x0 ≤ x1) (hy : y0 ≤ y1) :
    Tells op (endsL x0 x1) (endsL y0 y1) x0 x1 y0 y1 [exS op x0 y0, exS op x0 y1, exS op x1 y0, exS op x1 y1] where
  ne := by simp
  one := by
    intro v hv
    simp only [List.mem_cons, List.not_mem_nil, or_false] at hv
    rcases hv with rfl | rfl | rfl | rfl
    · exact ⟨x0, ends_lo _ _, y0, ends_lo _ _, rfl⟩
    · exact ⟨x0, ends_lo _ _, y1, ends_hi _ _, rfl⟩
    · exact ⟨x1, ends_hi _ _, y0, ends_lo _ _, rfl⟩
    · exact ⟨x1, ends_hi _ _, y1, ends_hi _ _, rfl⟩
  lower := by
    intro a b h1 h2 h3 h4
    rcases hop with rfl | rfl | rfl | rfl
    · exact ⟨exS 0 x0 y0, by simp, by rw [ex0, ex0]; omega⟩
    · simp only [ex2]
      have e := mul_between h1 h2 b
      have e0 := mul_between h3 h4 x0
      have e1 := mul_between h3 h4 x1
      simp only [Int.mul_comm y0, Int.mul_comm y1, Int.mul_comm b] at e0 e1
      rcases e with e | e
      · rcases e0 with e0 | e0
        · exact ⟨x0 * y0, by simp, by omega⟩
        · exact ⟨x0 * y1, by simp, by omega⟩
      · rcases e1 with e1 | e1
        · exact ⟨x1 * y0, by simp, by omega⟩
        · exact ⟨x1 * y1, by simp, by omega⟩
    · exact ⟨exS 7 x0 y0, by simp, by rw [ex7, ex7]; omega⟩
    · exact ⟨exS 8 x0 y0, by simp, by rw [ex8, ex8]; omega⟩
  upper := by
    intro a b h1 h2 h3 h4
    rcases hop with rfl | rfl | rfl | rfl
    · exact ⟨exS 0 x1 y1, by simp, by rw [ex0, ex0]; omega⟩
    · simp only [ex2]
      have e := mul_between h1 h2 b
      have e0 := mul_between h3 h4 x0
      have e1 := mul_between h3 h4 x1
      simp only [Int.mul_comm y0, Int.mul_comm y1, Int.mul_comm b] at e0 e1
      rcases e with e | e
      · rcases e1 with e1 | e1
        · exact ⟨x1 * y1, by simp, by omega⟩
        · exact ⟨x1 * y0, by simp, by omega⟩
      · rcases e0 with e0 | e0
        · exact ⟨x0 * y1, by simp, by omega⟩
        · exact ⟨x0 * y0, by simp, by omega⟩
    · exact ⟨exS 7 x1 y1, by simp, by rw [ex7, ex7]; omega⟩
    · exact ⟨exS 8 x1 y1, by simp, by rw [ex8, ex8]; omega⟩
theorem tells_div (hx : x0 ≤ x1) (hy : y0 ≤ y1) (hs : 0 < y0 ∨ y1 < 0) :
    Tells 3 (endsL x0 x1) (endsL y0 y1) x0 x1 y0 y1 [x0.tdiv y0, x0.tdiv y1, x1.tdiv y0, x1.tdiv y1] where
  ne := by simp
  one := by
    intro v hv
    simp only [List.mem_cons, List.not_mem_nil, or_false] at hv
    rcases hv with rfl | rfl | rfl | rfl
    · exact ⟨x0, ends_lo _ _, y0, ends_lo _ _, ex3 _ _⟩
    · exact ⟨x0, ends_lo _ _, y1, ends_hi _ _, ex3 _ _⟩
    · exact ⟨x1, ends_hi _ _, y0, ends_lo _ _, ex3 _ _⟩
    · exact ⟨x1, ends_hi _ _, y1, ends_hi _ _, ex3 _ _⟩
  lower := fun a b h1 h2 h3 h4 => by rw [ex3]; exact (div_corners h1 h2 h3 h4 hs).1
  upper := fun a b h1 h2 h3 h4 => by rw [ex3]; exact (div_corners h1 h2 h3 h4 hs).2
variable (hx0 : isI x0 = true) (hx1 : isI x1 = true) (hy0 : isI y0 = true) (hy1 : isI y1 = true) (hx : x0 ≤ x1) (hy : y0 ≤ y1)
include hx0 hx1 hx in
theorem sizes_spec (k : Nat) : ∃ s t, integers_span_sizes.f (k + 1) x0 x1 = some (s, t) ∧ (∃ a ∈ endsL x0 x1, (a.natAbs : Int) = s) ∧ (∃ a ∈ endsL x0 x1, (a.natAbs : Int) = t) ∧
    (∀ a, x0 ≤ a → a ≤ x1 → s ≤ (a.natAbs : Int) ∧ (a.natAbs : Int) ≤ t) ∧ 0 ≤ s ∧ t ≤ 2147483648 := by
  have hx0' := isI_iff.1 hx0
  have hx1' := isI_iff.1 hx1
  obtain ⟨lo, hi, h1, h2, h3, h4⟩ := around_spec (l := [(x0.natAbs : Int), (x1.natAbs : Int)]) (by simp)
  have g0 := h4 (x0.natAbs : Int) (by simp)
  have g1 := h4 (x1.natAbs : Int) (by simp)
  simp only [List.mem_cons, List.not_mem_nil, or_false] at h2 h3
  have hhi : ∃ a ∈ endsL x0 x1, (a.natAbs : Int) = hi := by
    rcases h3 with h3 | h3
    · exact ⟨x0, ends_lo _ _, h3.symm⟩
    · exact ⟨x1, ends_hi _ _, h3.symm⟩
  unfold integers_span_sizes.f integers_span_contains.f
  rw [size_num hx0, size_num hx1]
  simp only [Option.bind_some, h1]
  by_cases hz : x0 ≤ 0 ∧ 0 ≤ x1
  · refine ⟨0, hi, ?_, ⟨0, ends_at (.inr (.inl rfl)) hz, rfl⟩, hhi, fun a _ _ => ⟨by omega, by omega⟩, by omega, by omega⟩
    rw [if_pos hz.1, decide_eq_true hz.2]
    simp only [Option.bind_some, if_true, integers_span_has.f, integers_span_sizes.j0, mn_min, mx_max]
    rw [show min lo 0 = 0 by omega, show max hi 0 = hi by omega]
  · refine ⟨lo, hi, ?_, ?_, hhi, fun a _ _ => ⟨by omega, by omega⟩, by omega, by omega⟩
    · by_cases h0 : x0 ≤ 0
      · rw [if_pos h0, decide_eq_false (fun h => hz ⟨h0, h⟩)]; rfl
      · rw [if_neg h0]; rfl
    · rcases h2 with h2 | h2
      · exact ⟨x0, ends_lo _ _, h2.symm⟩
      · exact ⟨x1, ends_hi _ _, h2.symm⟩
include hx0 hx1 hx hy in
theorem results_sign (k : Nat) : ∃ lo hi, integers_results.f (k + 2) 5 x0 x1 y0 y1 = some (lo, hi) ∧ IsR 5 (endsL x0 x1) (endsL y0 y1) x0 x1 y0 y1 lo hi := by
  obtain ⟨s, t, h1, ⟨p, hp, hp2⟩, ⟨q, hq, hq2⟩, h4, h5, h6⟩ := sizes_spec hx0 hx1 hx (k + 1)
  unfold integers_results.f
  rw [if_neg (by decide), if_neg (by decide), if_pos rfl, h1]
  simp only [Option.bind_some]
  have hst := h4 x0 (by omega) hx
  have w1 : wrap64 (-s) = -s := w64 (by omega) (by omega)
  have w2 : wrap64 (-t) = -t := w64 (by omega) (by have := h4 x0 (by omega) hx; omega)
  have key : ∀ l : List Int, Tells 5 (endsL x0 x1) (endsL y0 y1) x0 x1 y0 y1 l → ∃ lo hi, ((integers_around.f l).bind fun b => some (b.1, b.2)) = some (lo, hi) ∧ IsR 5 (endsL x0 x1) (endsL y0 y1) x0 x1 y0 y1 lo hi := by
    intro l hl
    obtain ⟨lo, hi, g1, g2⟩ := hl.isR
    exact ⟨lo, hi, by rw [g1]; rfl, g2⟩
  have hs0 : ∀ a, x0 ≤ a → a ≤ x1 → s ≤ (a.natAbs : Int) ∧ (a.natAbs : Int) ≤ t := h4
  by_cases hpos : y1 ≥ 0
  · rw [if_pos hpos, if_pos (by simp)]
    simp only [integers_results.j0, List.nil_append]
    by_cases hneg : y0 < 0
    · rw [if_pos hneg, Option.bind_some, if_pos (by simp), w1, w2]
      apply key
      refine ⟨by simp, ?_, ?_, ?_⟩
      · intro v hv
        simp only [List.cons_append, List.nil_append, List.mem_cons, List.not_mem_nil, or_false] at hv
        rcases hv with rfl | rfl | rfl | rfl
        · exact ⟨p, hp, y1, ends_hi _ _, by rw [ex5, if_neg (by omega)]; exact hp2⟩
        · exact ⟨q, hq, y1, ends_hi _ _, by rw [ex5, if_neg (by omega)]; exact hq2⟩
        · exact ⟨p, hp, y0, ends_lo _ _, by rw [ex5, if_pos hneg, hp2]⟩
        · exact ⟨q, hq, y0, ends_lo _ _, by rw [ex5, if_pos hneg, hq2]⟩
      · intro a b g1 g2 g3 g4
        have := hs0 a g1 g2
        exact ⟨-t, by simp, by rw [ex5]; split <;> omega⟩
      · intro a b g1 g2 g3 g4
        have := hs0 a g1 g2
        exact ⟨t, by simp, by rw [ex5]; split <;> omega⟩
    · rw [if_neg hneg]
      apply key
      refine ⟨by simp, ?_, ?_, ?_⟩
      · intro v hv
        simp only [List.mem_cons, List.not_mem_nil, or_false] at hv
        rcases hv with rfl | rfl
        · exact ⟨p, hp, y1, ends_hi _ _, by rw [ex5, if_neg (by omega)]; exact hp2⟩
        · exact ⟨q, hq, y1, ends_hi _ _, by rw [ex5, if_neg (by omega)]; exact hq2⟩
      · intro a b g1 g2 g3 g4
        have := hs0 a g1 g2
        exact ⟨s, by simp, by rw [ex5, if_neg (by omega)]; omega⟩
      · intro a b g1 g2 g3 g4
        have := hs0 a g1 g2
        exact ⟨t, by simp, by rw [ex5, if_neg (by omega)]; omega⟩
  · rw [if_neg hpos]
    simp only [integers_results.j0, List.nil_append]
    have hneg : y0 < 0 := by omega
    rw [if_pos hneg, Option.bind_some, if_pos (by simp), w1, w2]
    apply key
    refine ⟨by simp, ?_, ?_, ?_⟩
    · intro v hv
      simp only [List.mem_cons, List.not_mem_nil, or_false] at hv
      rcases hv with rfl | rfl
      · exact ⟨p, hp, y0, ends_lo _ _, by rw [ex5, if_pos hneg, hp2]⟩
      · exact ⟨q, hq, y0, ends_lo _ _, by rw [ex5, if_pos hneg, hq2]⟩
    · intro a b g1 g2 g3 g4
      have := hs0 a g1 g2
      exact ⟨-t, by simp, by rw [ex5, if_pos (by omega)]; omega⟩
    · intro a b g1 g2 g3 g4
      have := hs0 a g1 g2
      exact ⟨-s, by simp, by rw [ex5, if_pos (by omega)]; omega⟩
include hx0 hx1 hx hy in
theorem results_div (hs : 0 < y0 ∨ y1 < 0) (k : Nat) : ∃ lo hi, integers_results.f (k + 3) 3 x0 x1 y0 y1 = some (lo, hi) ∧ IsR 3 (endsL x0 x1) (endsL y0 y1) x0 x1 y0 y1 lo hi := by
  have hx0' := isI_iff.1 hx0
  have hx1' := isI_iff.1 hx1
  obtain ⟨lo, hi, g1, g2⟩ := (tells_div hx hy hs).isR
  refine ⟨lo, hi, ?_, g2⟩
  have hparts : integers_span_parts.f y0 y1 = some [⟨y0, y1⟩] := by
    unfold integers_span_parts.f
    rcases hs with hs | hs
    · rw [if_neg (by omega), if_pos (by omega), if_pos (by simp), mx_max, show max y0 1 = y0 by omega]; rfl
    · rw [if_pos (by omega), if_pos (by simp), Option.bind_some, if_neg (by omega), mn_min, show min y1 (-1) = y1 by omega]; rfl
  unfold integers_results.f
  rw [if_neg (by decide), if_neg (by decide), if_neg (by decide), if_pos rfl, hparts, Option.bind_some]
  have r0 : rd_T82 [⟨y0, y1⟩] 0 = ⟨y0, y1⟩ := rfl
  have q : ∀ a b : Int, isI a = true → wrap64 (a.tdiv b) = a.tdiv b := by
    intro a b ha
    have ha' := isI_iff.1 ha
    have := natAbs_tdiv_le a b
    exact w64 (by omega) (by omega)
  rw [show k + 3 = (k + 2) + 1 by omega]
  unfold integers_results.l0
  rw [if_pos (by simp), if_pos (by omega), if_pos (by simp), r0, if_neg (show ¬ y0 = 0 by omega), if_neg (show ¬ y1 = 0 by omega), Option.bind_some, if_pos (by simp), q _ _ hx0, q _ _ hx0, q _ _ hx1, q _ _ hx1, List.nil_append]
  rw [show k + 2 = (k + 1) + 1 by omega]
  unfold integers_results.l0
  rw [if_neg (by simp [wrap64]), g1]
  rfl
include hx0 hx1 hy0 hy1 hx hy in
theorem results_corners {op : Int} (hop : op = 0 ∨ op = 2 ∨ op = 7 ∨ op = 8) (k : Nat) : ∃ lo hi, integers_results.f k op x0 x1 y0 y1 = some (lo, hi) ∧ IsR op (endsL x0 x1) (endsL y0 y1) x0 x1 y0 y1 lo hi := by
  obtain ⟨lo, hi, g1, g2⟩ := (tells_corners hop hx hy).isR
  refine ⟨lo, hi, ?_, g2⟩
  unfold integers_results.f
  rw [if_neg (by omega), if_neg (by omega), if_neg (by omega), if_neg (by omega), if_neg (by omega), exact_eq hx0 hy0 (by omega), exact_eq hx0 hy1 (by omega), exact_eq hx1 hy0 (by omega), exact_eq hx1 hy1 (by omega)]
  simp only [Option.bind_some, g1]
include hx0 hx1 hy0 hy1 hx hy in
theorem results_sub (k : Nat) : ∃ lo hi, integers_results.f k 1 x0 x1 y0 y1 = some (lo, hi) ∧ IsR 1 (endsL x0 x1) (endsL y0 y1) x0 x1 y0 y1 lo hi := by
  have hx0' := isI_iff.1 hx0
  have hx1' := isI_iff.1 hx1
  have hy0' := isI_iff.1 hy0
  have hy1' := isI_iff.1 hy1
  refine ⟨x0 - y1, x1 - y0, ?_, ⟨x0, ends_lo _ _, y1, ends_hi _ _, ex1 _ _⟩, ⟨x1, ends_hi _ _, y0, ends_lo _ _, ex1 _ _⟩, fun a b _ _ _ _ => by rw [ex1]; omega⟩
  unfold integers_results.f
  rw [if_pos rfl, w64 (by omega) (by omega), w64 (by omega) (by omega)]
include hx0 hx1 hy0 hy1 hx hy in
theorem results_dim (k : Nat) : ∃ lo hi, integers_results.f k 6 x0 x1 y0 y1 = some (lo, hi) ∧ IsR 6 (endsL x0 x1) (endsL y0 y1) x0 x1 y0 y1 lo hi := by
  have hx0' := isI_iff.1 hx0
  have hx1' := isI_iff.1 hx1
  have hy0' := isI_iff.1 hy0
  have hy1' := isI_iff.1 hy1
  refine ⟨max (x0 - y1) 0, max (x1 - y0) 0, ?_, ⟨x0, ends_lo _ _, y1, ends_hi _ _, ex6 _ _⟩, ⟨x1, ends_hi _ _, y0, ends_lo _ _, ex6 _ _⟩, fun a b _ _ _ _ => by rw [ex6]; omega⟩
  unfold integers_results.f
  rw [if_neg (by decide), if_pos rfl, w64 (by omega) (by omega), w64 (by omega) (by omega), mx_max, mx_max]
end
section
variable {x0 x1 y0 y1 : Int}
/-- the pairs that the loops of remainders have seen, ahead of (A, B) -/
def seen (x0 y0 A B a b : Int) : Prop := (a = x0 ∧ b = y0) ∨ a < A ∨ (a = A ∧ b < B)
structure IsM (x0 x1 y0 y1 A B lo hi : Int) : Prop where
  low : ∃ a b, x0 ≤ a ∧ a ≤ x1 ∧ y0 ≤ b ∧ b ≤ y1 ∧ a.tmod b = lo
  high : ∃ a b, x0 ≤ a ∧ a ≤ x1 ∧ y0 ≤ b ∧ b ≤ y1 ∧ a.tmod b = hi
  all : ∀ a b, x0 ≤ a → a ≤ x1 → y0 ≤ b → b ≤ y1 → seen x0 y0 A B a b → lo ≤ a.tmod b ∧ a.tmod b ≤ hi
variable (hx0 : isI x0 = true) (hx1 : isI x1 = true) (hy0 : isI y0 = true) (hy1 : isI y1 = true) (hx : x0 ≤ x1) (hy : y0 ≤ y1) (hz : ¬ (y0 ≤ 0 ∧ 0 ≤ y1))
include hy0 hy1 hz in
theorem mod_l2 (A : Int) (hA : x0 ≤ A ∧ A ≤ x1) (d : Nat) : ∀ b : Int, y0 ≤ b → b + d = y1 + 1 → ∀ lo hi, IsM x0 x1 y0 y1 A b lo hi → ∀ k, ∃ lo' hi',
    integers_results.l2 (k + d + 1) A b x0 x1 y0 y1 lo hi = integers_results.l1 k (wrap64 (A + 1)) x0 x1 y0 y1 lo' hi' ∧ IsM x0 x1 y0 y1 A (y1 + 1) lo' hi' := by
  have hy0' := isI_iff.1 hy0
  have hy1' := isI_iff.1 hy1
  induction d with
  | zero =>
    intro b h1 h2 lo hi h k
    have hb : b = y1 + 1 := by omega
    subst hb
    refine ⟨lo, hi, ?_, h⟩
    conv => lhs; unfold integers_results.l2
    rw [if_neg (by omega)]
  | succ d ih =>
    intro b h1 h2 lo hi h k
    have hm : IsM x0 x1 y0 y1 A (b + 1) (min lo (A.tmod b)) (max hi (A.tmod b)) := by
      refine ⟨?_, ?_, ?_⟩
      · rcases Int.le_total lo (A.tmod b) with q | q
        · rw [Int.min_eq_left q]; exact h.low
        · rw [Int.min_eq_right q]; exact ⟨A, b, hA.1, hA.2, h1, by omega, rfl⟩
      · rcases Int.le_total hi (A.tmod b) with q | q
        · rw [Int.max_eq_right q]; exact ⟨A, b, hA.1, hA.2, h1, by omega, rfl⟩
        · rw [Int.max_eq_left q]; exact h.high
      · intro p q g1 g2 g3 g4 hs
        by_cases hpq : p = A ∧ q = b
        · rw [hpq.1, hpq.2]; omega
        · have := h.all p q g1 g2 g3 g4 (by unfold seen at hs ⊢; omega)
          omega
    obtain ⟨lo', hi', e, g⟩ := ih (b + 1) (by omega) (by omega) (min lo (A.tmod b)) (max hi (A.tmod b)) hm k
    refine ⟨lo', hi', ?_, g⟩
    rw [← e, show k + (d + 1) + 1 = (k + d + 1) + 1 by omega]
    conv => lhs; unfold integers_results.l2
    rw [if_pos (by omega), if_neg (by omega), integers_span_has.f, Option.bind_some, mn_min, mx_max, w64 (by omega) (by omega)]
include hx0 hx1 hy0 hy1 hy hz in
theorem mod_l1 (d : Nat) : ∀ A : Int, x0 ≤ A → A + d = x1 + 1 → ∀ lo hi, IsM x0 x1 y0 y1 A y0 lo hi → ∀ k, ∃ lo' hi',
    integers_results.l1 (k + d * ((y1 - y0 + 1).toNat + 2) + 1) A x0 x1 y0 y1 lo hi = some (lo', hi') ∧ IsM x0 x1 y0 y1 (x1 + 1) y0 lo' hi' := by
  have hx0' := isI_iff.1 hx0
  have hx1' := isI_iff.1 hx1
  induction d with
  | zero =>
    intro A h1 h2 lo hi h k
    have hb : A = x1 + 1 := by omega
    subst hb
    refine ⟨lo, hi, ?_, h⟩
    unfold integers_results.l1
    rw [if_neg (by omega)]
  | succ d ih =>
    intro A h1 h2 lo hi h k
    obtain ⟨lo1, hi1, e1, g1⟩ := mod_l2 hy0 hy1 hz A ⟨h1, by omega⟩ (y1 - y0 + 1).toNat y0 (by omega) (by omega) lo hi h (k + d * ((y1 - y0 + 1).toNat + 2) + 1)
    obtain ⟨lo', hi', e, g⟩ := ih (A + 1) (by omega) (by omega) lo1 hi1 ⟨g1.low, g1.high, fun p q p1 p2 p3 p4 hs => g1.all p q p1 p2 p3 p4 (by unfold seen at hs ⊢; omega)⟩ k
    refine ⟨lo', hi', ?_, g⟩
    rw [← e, Nat.succ_mul, show k + (d * ((y1 - y0 + 1).toNat + 2) + ((y1 - y0 + 1).toNat + 2)) + 1 = (k + d * ((y1 - y0 + 1).toNat + 2) + 1 + (y1 - y0 + 1).toNat + 1) + 1 by omega]
    conv => lhs; unfold integers_results.l1
    rw [if_pos (by omega), e1, w64 (by omega) (by omega)]
include hx0 hx1 hy0 hy1 hx hy hz in
theorem results_mod (h1 : x1 - x0 < 200) (h2 : y1 - y0 < 200) {k : Nat} (hk : 50000 ≤ k) :
    ∃ lo hi, integers_results.f k 4 x0 x1 y0 y1 = some (lo, hi) ∧ IsR 4 (membersL x0 (x1 - x0 + 1).toNat) (membersL y0 (y1 - y0 + 1).toNat) x0 x1 y0 y1 lo hi := by
  have hb : (x1 - x0 + 1).toNat * ((y1 - y0 + 1).toNat + 2) ≤ 200 * 202 := Nat.mul_le_mul (by omega) (by omega)
  obtain ⟨lo0, hi0, e0, m1, m2, m3⟩ := around_spec (l := [exS 4 x0 y0]) (by simp)
  simp only [List.mem_cons, List.not_mem_nil, or_false] at m1 m2
  obtain ⟨lo, hi, e, g⟩ := mod_l1 hx0 hx1 hy0 hy1 hy hz (x1 - x0 + 1).toNat x0 (by omega) (by omega) lo0 hi0
    ⟨⟨x0, y0, by omega, hx, by omega, hy, by rw [m1, ex4]⟩, ⟨x0, y0, by omega, hx, by omega, hy, by rw [m2, ex4]⟩,
      fun p q p1 p2 p3 p4 hs => by
        have hpq : p = x0 ∧ q = y0 := by unfold seen at hs; omega
        rw [hpq.1, hpq.2, m1, m2, ex4]; omega⟩ (k - (x1 - x0 + 1).toNat * ((y1 - y0 + 1).toNat + 2) - 1)
  rw [show k - (x1 - x0 + 1).toNat * ((y1 - y0 + 1).toNat + 2) - 1 + (x1 - x0 + 1).toNat * ((y1 - y0 + 1).toNat + 2) + 1 = k by omega] at e
  refine ⟨lo, hi, ?_, ?_, ?_, ?_⟩
  · unfold integers_results.f
    rw [if_neg (by decide), if_neg (by decide), if_neg (by decide), if_neg (by decide), if_pos rfl, exact_eq hx0 hy0 (by omega), Option.bind_some, e0, Option.bind_some]
    exact e
  · obtain ⟨a, b, q1, q2, q3, q4, q5⟩ := g.low
    exact ⟨a, (members_mem hx).2 ⟨q1, q2⟩, b, (members_mem hy).2 ⟨q3, q4⟩, by rw [ex4, q5]⟩
  · obtain ⟨a, b, q1, q2, q3, q4, q5⟩ := g.high
    exact ⟨a, (members_mem hx).2 ⟨q1, q2⟩, b, (members_mem hy).2 ⟨q3, q4⟩, by rw [ex4, q5]⟩
  · intro a b q1 q2 q3 q4
    rw [ex4]
    exact g.all a b q1 q2 q3 q4 (by unfold seen; omega)
end
theorem rd_at (l : List Int) (i : Nat) (h : i < l.length) : rd l (i : Int) ∈ l := by
  unfold rd
  rw [Int.toNat_natCast, List.getD_eq_getElem?_getD, List.getElem?_eq_getElem h]
  exact List.getElem_mem h
theorem mem_rd {l : List Int} {a : Int} (h : a ∈ l) : ∃ i : Nat, i < l.length ∧ rd l (i : Int) = a := by
  obtain ⟨i, hi, e⟩ := List.getElem_of_mem h
  exact ⟨i, hi, by unfold rd; rw [Int.toNat_natCast, List.getD_eq_getElem?_getD, List.getElem?_eq_getElem hi]; exact e⟩
structure Got (op : Int) (E F : List Int) (i j : Nat) (lo hi : Int) : Prop where
  low : ∃ a ∈ E, ∃ b ∈ F, exS op a b = lo
  high : ∃ a ∈ E, ∃ b ∈ F, exS op a b = hi
  all : ∀ p q : Nat, p < E.length → q < F.length → (p < i ∨ (p = i ∧ q < j)) → lo ≤ exS op (rd E p) (rd F q) ∧ exS op (rd E p) (rd F q) ≤ hi
section
variable {op : Int} {E F : List Int} (hE : ∀ a ∈ E, isI a = true) (hF : ∀ b ∈ F, isI b = true ∧ ¬ ((op = 3 ∨ op = 4) ∧ b = 0)) (lE : E.length ≤ 1000) (lF : F.length ≤ 1000)
include hE hF lE lF in
theorem ref_l1 (c0 c1 : Int) (i : Nat) (hi : i < E.length) (d : Nat) : ∀ j : Nat, j + d = F.length → ∀ lo h, (i = 0 ∧ j = 0) ∨ Got op E F i j lo h → ∀ k, ∃ lo' h',
    fr7_RangeOf.l1 (k + d + 1) op E F (i : Int) (j : Int) c0 c1 lo h = fr7_RangeOf.l0 k op E F ((i + 1 : Nat) : Int) c0 c1 lo' h' ∧ ((i = 0 ∧ F.length = 0) ∨ Got op E F i F.length lo' h') := by
  induction d with
  | zero =>
    intro j hj lo h g k
    have hb : j = F.length := by omega
    subst hb
    refine ⟨lo, h, ?_, g⟩
    conv => lhs; unfold fr7_RangeOf.l1
    rw [if_neg (by omega), w64 (by omega) (by omega)]; rfl
  | succ d ih =>
    intro j hj lo h g k
    have mi := rd_at E i hi
    have mj := rd_at F j (by omega)
    have hex := ref_exact_eq (op := op) (hE _ mi) (hF _ mj).1 (k + d)
    rw [if_neg (hF _ mj).2] at hex
    have step : ∀ lo2 h2, Got op E F i (j + 1) lo2 h2 → ∃ lo' h', fr7_RangeOf.l1 (k + d + 1) op E F (i : Int) (wrap64 ((j : Int) + 1)) c0 c1 lo2 h2 = fr7_RangeOf.l0 k op E F ((i + 1 : Nat) : Int) c0 c1 lo' h' ∧ ((i = 0 ∧ F.length = 0) ∨ Got op E F i F.length lo' h') := by
      intro lo2 h2 g2
      rw [w64 (by omega) (by omega)]
      exact ih (j + 1) (by omega) lo2 h2 (.inr g2) k
    rw [show k + (d + 1) + 1 = (k + d + 1) + 1 by omega]
    unfold fr7_RangeOf.l1
    rw [if_pos (by omega), if_pos (by omega), if_pos (by omega), if_pos (by omega), hex]
    simp only [Option.bind_some, mn_min, mx_max]
    have first : i = 0 → j = 0 → Got op E F i (j + 1) (min (exS op (rd E (i : Int)) (rd F (j : Int))) (exS op (rd E (i : Int)) (rd F (j : Int)))) (max (exS op (rd E (i : Int)) (rd F (j : Int))) (exS op (rd E (i : Int)) (rd F (j : Int)))) := by
      intro h0 h1
      rw [Int.min_self, Int.max_self]
      refine ⟨⟨_, mi, _, mj, rfl⟩, ⟨_, mi, _, mj, rfl⟩, fun p q _ _ hpq => ?_⟩
      have : p = i ∧ q = j := by omega
      rw [this.1, this.2]; omega
    have other : Got op E F i j lo h → Got op E F i (j + 1) (min lo (exS op (rd E (i : Int)) (rd F (j : Int)))) (max h (exS op (rd E (i : Int)) (rd F (j : Int)))) := by
      intro g
      refine ⟨?_, ?_, fun p q p1 q1 hpq => ?_⟩
      · rcases Int.le_total lo (exS op (rd E (i : Int)) (rd F (j : Int))) with q | q
        · rw [Int.min_eq_left q]; exact g.low
        · rw [Int.min_eq_right q]; exact ⟨_, mi, _, mj, rfl⟩
      · rcases Int.le_total h (exS op (rd E (i : Int)) (rd F (j : Int))) with q | q
        · rw [Int.max_eq_right q]; exact ⟨_, mi, _, mj, rfl⟩
        · rw [Int.max_eq_left q]; exact g.high
      · by_cases hq : p = i ∧ q = j
        · rw [hq.1, hq.2]; omega
        · have := g.all p q p1 q1 (by omega)
          omega
    by_cases h0 : i = 0
    · rw [if_pos (by omega)]
      by_cases h1 : j = 0
      · rw [if_pos (by omega)]
        exact step _ _ (first h0 h1)
      · rw [if_neg (by omega)]
        exact step _ _ (other (g.resolve_left (by omega)))
    · rw [if_neg (by omega)]
      exact step _ _ (other (g.resolve_left (by omega)))
include hE hF lE lF in
theorem ref_l0 (c0 c1 : Int) (neF : F.length ≠ 0) (d : Nat) : ∀ i : Nat, i + d = E.length → ∀ lo h, i = 0 ∨ Got op E F i 0 lo h → ∀ k, ∃ lo' h',
    fr7_RangeOf.l0 (k + d * (F.length + 2) + 1) op E F (i : Int) c0 c1 lo h = some (if (isI lo' && isI h') = true then (lo', h', 0) else (c0, c1, 28)) ∧ (E.length = 0 ∨ Got op E F E.length 0 lo' h') := by
  induction d with
  | zero =>
    intro i hi lo h g k
    have hb : i = E.length := by omega
    subst hb
    refine ⟨lo, h, ?_, g⟩
    unfold fr7_RangeOf.l0
    rw [if_neg (by omega), ref_int, ref_int]
    cases isI lo <;> cases isI h <;> rfl
  | succ d ih =>
    intro i hi lo h g k
    obtain ⟨lo1, h1, e1, g1⟩ := ref_l1 hE hF lE lF c0 c1 i (by omega) F.length 0 (by omega) lo h (g.imp (fun h => ⟨h, rfl⟩) id) (k + d * (F.length + 2) + 1)
    have g1 := g1.resolve_left (fun h => neF h.2)
    obtain ⟨lo', h', e, g'⟩ := ih (i + 1) (by omega) lo1 h1 (.inr ⟨g1.low, g1.high, fun p q p1 q1 hpq => g1.all p q p1 q1 (by omega)⟩) k
    refine ⟨lo', h', ?_, g'⟩
    rw [← e, Nat.succ_mul, show k + (d * (F.length + 2) + (F.length + 2)) + 1 = (k + d * (F.length + 2) + 1 + F.length + 1) + 1 by omega]
    conv => lhs; unfold fr7_RangeOf.l0
    rw [if_pos (by omega)]
    exact e1
include hE hF lE lF in
/-- the reference's loops find the range that is one -/
theorem ref_j2 {x0 x1 y0 y1 lo hi : Int} (sE : ∀ a ∈ E, x0 ≤ a ∧ a ≤ x1) (sF : ∀ b ∈ F, y0 ≤ b ∧ b ≤ y1) (neE : E.length ≠ 0) (neF : F.length ≠ 0) (h : IsR op E F x0 x1 y0 y1 lo hi)
    {k : Nat} (hk : E.length * (F.length + 2) + 2 ≤ k) : fr7_RangeOf.j2 k op E F 0 0 = some (if (isI lo && isI hi) = true then (lo, hi, 0) else (0, 0, 28)) := by
  obtain ⟨m, rfl⟩ : ∃ m, k = m + E.length * (F.length + 2) + 1 + 1 := ⟨k - E.length * (F.length + 2) - 2, by omega⟩
  obtain ⟨lo', h', e, g⟩ := ref_l0 hE hF lE lF 0 0 neF E.length 0 (by omega) 0 0 (.inl rfl) m
  have g := g.resolve_left neE
  have all : ∀ a ∈ E, ∀ b ∈ F, lo' ≤ exS op a b ∧ exS op a b ≤ h' := by
    intro a ha b hb
    obtain ⟨i, hi, rfl⟩ := mem_rd ha
    obtain ⟨j, hj, rfl⟩ := mem_rd hb
    exact g.all i j hi hj (.inl hi)
  have e1 : lo' = lo := by
    obtain ⟨a, ha, b, hb, q⟩ := h.low
    obtain ⟨a', ha', b', hb', q'⟩ := g.low
    have := (all a ha b hb).1
    have := (h.all a' b' (sE a' ha').1 (sE a' ha').2 (sF b' hb').1 (sF b' hb').2).1
    omega
  have e2 : h' = hi := by
    obtain ⟨a, ha, b, hb, q⟩ := h.high
    obtain ⟨a', ha', b', hb', q'⟩ := g.high
    have := (all a ha b hb).2
    have := (h.all a' b' (sE a' ha').1 (sE a' ha').2 (sF b' hb').1 (sF b' hb').2).2
    omega
  subst e1 e2
  unfold fr7_RangeOf.j2
  exact e
end
def rngE (a b : Int) : Int := if (isI a && isI b) = true then (if a ≤ b then 0 else 17) else 2
theorem span_at {k : Nat} (hk : 4 ≤ k) (c a b : Int) : integers_check_span.f k c a b = some (if c = 0 then rngE a b else c) := by
  obtain ⟨m, rfl⟩ : ∃ m, k = m + 4 := ⟨k - 4, by omega⟩
  unfold integers_check_span.f
  rw [ints2]
  simp only [Option.bind_some, want_eq]
  by_cases hc : c = 0
  · subst hc
    rw [numE_two, if_pos rfl, rngE]
    cases isI a && isI b with
    | false => rfl
    | true => by_cases h : a ≤ b <;> simp [h]
  · rw [numE_ne hc, numE_ne hc, if_neg hc, if_neg hc]
theorem rngErr_at {k : Nat} (hk : 1 ≤ k) (a b : Int) : fr7_rangeErr.f k a b = some (rngE a b) := by
  obtain ⟨m, rfl⟩ : ∃ m, k = m + 1 := ⟨k - 1, by omega⟩
  unfold fr7_rangeErr.f fr7_rangeErr.j0 rngE
  rw [ref_int, ref_int]
  cases isI a with
  | false => rfl
  | true =>
    cases isI b with
    | false => rfl
    | true => by_cases h : a ≤ b
              · simp [h, show ¬ a > b by omega]
              · simp [h, show a > b by omega]
theorem contains_eq (a b : Int) : integers_span_contains.f a b 0 = some (decide (a ≤ 0) && decide (0 ≤ b)) := by
  unfold integers_span_contains.f
  by_cases h : a ≤ 0 <;> simp [h]
def firstE (op x0 x1 y0 y1 : Int) : Int :=
  if ¬ (0 ≤ op ∧ op < 9) then 15 else if rngE x0 x1 ≠ 0 then rngE x0 x1 else if rngE y0 y1 ≠ 0 then rngE y0 y1 else if (op = 3 ∨ op = 4) ∧ (y0 ≤ 0 ∧ 0 ≤ y1) then 11 else 0
theorem prog_eq {k : Nat} (hk : 4 ≤ k) (op x0 x1 y0 y1 : Int) : integers_RangeOf.f k op x0 x1 y0 y1 = integers_RangeOf.j0 k op (firstE op x0 x1 y0 y1) x0 x1 y0 y1 := by
  unfold integers_RangeOf.f
  rw [kind_eq, Option.bind_some, span_at hk, Option.bind_some, span_at hk, Option.bind_some, divides_eq, Option.bind_some]
  have key : ∀ (P : Prop) [Decidable P], ((if decide (op = 3 ∨ op = 4) = true then ((integers_span_contains.f y0 y1 0).bind fun t233 => (some (!t233))) else some true) : Option Bool) = some (!decide ((op = 3 ∨ op = 4) ∧ (y0 ≤ 0 ∧ 0 ≤ y1))) := by
    intro P _
    rw [contains_eq]
    by_cases h : op = 3 ∨ op = 4
    · by_cases h1 : y0 ≤ 0 <;> by_cases h2 : 0 ≤ y1 <;> simp [h, h1, h2]
    · simp [h]
  have c0 : (if (if (if 0 ≤ op ∧ op < 9 then (0 : Int) else 15) = 0 then rngE x0 x1 else (if 0 ≤ op ∧ op < 9 then (0 : Int) else 15)) = 0 then rngE y0 y1 else (if (if 0 ≤ op ∧ op < 9 then (0 : Int) else 15) = 0 then rngE x0 x1 else (if 0 ≤ op ∧ op < 9 then (0 : Int) else 15))) =
      (if ¬ (0 ≤ op ∧ op < 9) then 15 else if rngE x0 x1 ≠ 0 then rngE x0 x1 else rngE y0 y1) := by
    by_cases h : 0 ≤ op ∧ op < 9
    · rw [if_pos h, if_neg (not_not_intro h), if_pos rfl]
      by_cases h1 : rngE x0 x1 = 0
      · rw [if_pos h1, if_neg (not_not_intro h1)]
      · rw [if_neg h1, if_pos h1]
    · rw [if_neg h, if_pos h, if_neg (show ¬ (15 : Int) = 0 by decide), if_neg (show ¬ (15 : Int) = 0 by decide)]
  rw [c0]
  have fin : ∀ b : Bool, (b = (!decide ((op = 3 ∨ op = 4) ∧ (y0 ≤ 0 ∧ 0 ≤ y1)))) → (if (if ¬ (0 ≤ op ∧ op < 9) then (15 : Int) else if rngE x0 x1 ≠ 0 then rngE x0 x1 else rngE y0 y1) = 0 then (if b = true then (if ¬ (0 ≤ op ∧ op < 9) then (15 : Int) else if rngE x0 x1 ≠ 0 then rngE x0 x1 else rngE y0 y1) else 11) else (if ¬ (0 ≤ op ∧ op < 9) then (15 : Int) else if rngE x0 x1 ≠ 0 then rngE x0 x1 else rngE y0 y1)) = firstE op x0 x1 y0 y1 := by
    intro b hb
    unfold firstE
    by_cases h : 0 ≤ op ∧ op < 9
    · rw [if_neg (not_not_intro h), if_neg (not_not_intro h)]
      by_cases h1 : rngE x0 x1 = 0
      · rw [if_neg (not_not_intro h1), if_neg (not_not_intro h1)]
        by_cases h2 : rngE y0 y1 = 0
        · rw [if_pos h2, if_neg (not_not_intro h2), hb, h2]
          by_cases h3 : (op = 3 ∨ op = 4) ∧ (y0 ≤ 0 ∧ 0 ≤ y1)
          · rw [if_pos h3, decide_eq_true h3]; rfl
          · rw [if_neg h3, decide_eq_false h3]; rfl
        · rw [if_neg h2, if_pos h2]
      · rw [if_pos h1, if_pos h1, if_neg h1]
    · rw [if_pos h, if_pos h, if_neg (by decide)]
  by_cases hd : op = 3 ∨ op = 4
  · rw [decide_eq_true hd, if_pos rfl, contains_eq, Option.bind_some, want_eq, Option.bind_some, fin]
    by_cases h1 : y0 ≤ 0 <;> by_cases h2 : 0 ≤ y1 <;> simp [hd, h1, h2]
  · rw [decide_eq_false hd, if_neg (by decide), want_eq, Option.bind_some, fin]
    simp [hd]
theorem ref_eq {k : Nat} (hk : 2 ≤ k) (op x0 x1 y0 y1 : Int) : fr7_RangeOf.f k op x0 x1 y0 y1 = if firstE op x0 x1 y0 y1 = 0 then fr7_RangeOf.j0 k op false x0 x1 y0 y1 0 0 else some (0, 0, firstE op x0 x1 y0 y1) := by
  unfold fr7_RangeOf.f firstE
  rw [operr op 9 (by decide) (by decide), Option.bind_some]
  by_cases h : 0 ≤ op ∧ op < 9
  · rw [if_pos h, if_pos rfl, if_neg (not_not_intro h), rngErr_at (by omega), Option.bind_some]
    by_cases h1 : rngE x0 x1 = 0
    · rw [if_pos h1, if_neg (not_not_intro h1), rngErr_at (by omega), Option.bind_some]
      by_cases h2 : rngE y0 y1 = 0
      · rw [if_pos h2, if_neg (not_not_intro h2), within_eq, Option.bind_some]
        have hj : ∀ b : Bool, (b = decide (y0 ≤ 0 ∧ 0 ≤ y1)) → (op = 3 ∨ op = 4) → fr7_RangeOf.j0 k op b x0 x1 y0 y1 0 0 = (if (if (op = 3 ∨ op = 4) ∧ (y0 ≤ 0 ∧ 0 ≤ y1) then (11 : Int) else 0) = 0 then fr7_RangeOf.j0 k op false x0 x1 y0 y1 0 0 else some (0, 0, if (op = 3 ∨ op = 4) ∧ (y0 ≤ 0 ∧ 0 ≤ y1) then (11 : Int) else 0)) := by
          intro b hb hd
          subst hb
          obtain ⟨m, rfl⟩ : ∃ m, k = m + 1 := ⟨k - 1, by omega⟩
          by_cases hz : y0 ≤ 0 ∧ 0 ≤ y1
          · rw [if_pos (show (op = 3 ∨ op = 4) ∧ (y0 ≤ 0 ∧ 0 ≤ y1) from ⟨hd, hz⟩), if_neg (by decide), decide_eq_true hz]
            rw [fr7_RangeOf.j0]
            rw [if_pos rfl]
          · rw [if_neg (show ¬ ((op = 3 ∨ op = 4) ∧ (y0 ≤ 0 ∧ 0 ≤ y1)) from fun g => hz g.2), if_pos rfl, decide_eq_false hz]
        by_cases h3 : op = 3
        · rw [if_pos h3]
          exact hj _ (by by_cases h1 : y0 ≤ 0 <;> by_cases h2 : 0 ≤ y1 <;> simp [h1, h2]) (.inl h3)
        · rw [if_neg h3]
          by_cases h4 : op = 4
          · rw [if_pos h4]
            exact hj _ (by by_cases h1 : y0 ≤ 0 <;> by_cases h2 : 0 ≤ y1 <;> simp [h1, h2]) (.inr h4)
          · rw [if_neg h4, if_neg (show ¬ ((op = 3 ∨ op = 4) ∧ (y0 ≤ 0 ∧ 0 ≤ y1)) by omega), if_pos rfl]
      · rw [if_neg h2, if_pos h2, if_neg h2]
    · rw [if_neg h1, if_pos h1, if_neg h1]
  · rw [if_neg h, if_neg (by decide), if_pos h, if_neg (by decide)]
theorem firstE_zero {op x0 x1 y0 y1 : Int} (h : firstE op x0 x1 y0 y1 = 0) :
    (0 ≤ op ∧ op < 9) ∧ (isI x0 = true ∧ isI x1 = true ∧ x0 ≤ x1) ∧ (isI y0 = true ∧ isI y1 = true ∧ y0 ≤ y1) ∧ ((op = 3 ∨ op = 4) → ¬ (y0 ≤ 0 ∧ 0 ≤ y1)) := by
  have rz : ∀ {a b : Int}, rngE a b = 0 → isI a = true ∧ isI b = true ∧ a ≤ b := by
    intro a b hr
    unfold rngE at hr
    by_cases h1 : (isI a && isI b) = true
    · rw [if_pos h1] at hr
      rw [Bool.and_eq_true] at h1
      by_cases h2 : a ≤ b
      · exact ⟨h1.1, h1.2, h2⟩
      · rw [if_neg h2] at hr; omega
    · rw [if_neg h1] at hr; omega
  unfold firstE at h
  by_cases h0 : 0 ≤ op ∧ op < 9
  · rw [if_neg (not_not_intro h0)] at h
    by_cases h1 : rngE x0 x1 = 0
    · rw [if_neg (not_not_intro h1)] at h
      by_cases h2 : rngE y0 y1 = 0
      · rw [if_neg (not_not_intro h2)] at h
        refine ⟨h0, rz h1, rz h2, fun hd hz => ?_⟩
        rw [if_pos ⟨hd, hz⟩] at h
        omega
      · rw [if_pos h2] at h; exact absurd h h2
    · rw [if_pos h1] at h; exact absurd h h1
  · rw [if_pos h0] at h; omega
theorem prog_j1 {k : Nat} {op x0 x1 y0 y1 lo hi : Int} (h : integers_results.f k op x0 x1 y0 y1 = some (lo, hi)) : integers_RangeOf.j1 (k + 1) op 0 x0 x1 y0 y1 = some (if (isI lo && isI hi) = true then (lo, hi, 0) else (0, 0, 28)) := by
  rw [integers_RangeOf.j1]
  rw [if_pos rfl, h, Option.bind_some, num_int, Option.bind_some]
  cases isI lo with
  | false => simp [want_eq, err_eq]
  | true =>
    rw [if_pos rfl, num_int, Option.bind_some, want_eq]
    cases isI hi <;> simp [err_eq]
/-- what a range of results is that was told -/
structure Good (op x0 x1 y0 y1 lo hi : Int) : Prop where
  kind : 0 ≤ op ∧ op < 9
  xs : isI x0 = true ∧ isI x1 = true ∧ x0 ≤ x1
  ys : isI y0 = true ∧ isI y1 = true ∧ y0 ≤ y1
  zero : (op = 3 ∨ op = 4) → ¬ (y0 ≤ 0 ∧ 0 ≤ y1)
  ends : isI lo = true ∧ isI hi = true
  all : ∀ a b, x0 ≤ a → a ≤ x1 → y0 ≤ b → b ≤ y1 → lo ≤ exS op a b ∧ exS op a b ≤ hi
theorem isI_in {a x0 x1 : Int} (h0 : isI x0 = true) (h1 : isI x1 = true) (h : x0 ≤ a ∧ a ≤ x1) : isI a = true := by
  rw [isI_iff] at h0 h1 ⊢
  omega
theorem range_both {op x0 x1 y0 y1 : Int} {k : Nat} (hk : 100000 ≤ k) :
    (∃ e, e ≠ 0 ∧ integers_RangeOf.f k op x0 x1 y0 y1 = some (0, 0, e) ∧ fr7_RangeOf.f k op x0 x1 y0 y1 = some (0, 0, e)) ∨
    ∃ lo hi, integers_RangeOf.f k op x0 x1 y0 y1 = some (lo, hi, 0) ∧ fr7_RangeOf.f k op x0 x1 y0 y1 = some (lo, hi, 0) ∧ Good op x0 x1 y0 y1 lo hi := by
  rw [prog_eq (by omega), ref_eq (by omega)]
  by_cases h0 : firstE op x0 x1 y0 y1 = 0
  · rw [if_pos h0, h0]
    obtain ⟨hop, ⟨hx0, hx1, hx⟩, ⟨hy0, hy1, hy⟩, hz⟩ := firstE_zero h0
    have hx0' := isI_iff.1 hx0
    have hx1' := isI_iff.1 hx1
    have hy0' := isI_iff.1 hy0
    have hy1' := isI_iff.1 hy1
    have core : ∀ lo hi : Int, ∀ E F : List Int, IsR op E F x0 x1 y0 y1 lo hi →
        integers_RangeOf.j0 k op 0 x0 x1 y0 y1 = some (if (isI lo && isI hi) = true then (lo, hi, 0) else (0, 0, 28)) →
        fr7_RangeOf.j0 k op false x0 x1 y0 y1 0 0 = some (if (isI lo && isI hi) = true then (lo, hi, 0) else (0, 0, 28)) →
        (∃ e, e ≠ 0 ∧ integers_RangeOf.j0 k op 0 x0 x1 y0 y1 = some (0, 0, e) ∧ fr7_RangeOf.j0 k op false x0 x1 y0 y1 0 0 = some (0, 0, e)) ∨
        ∃ lo hi, integers_RangeOf.j0 k op 0 x0 x1 y0 y1 = some (lo, hi, 0) ∧ fr7_RangeOf.j0 k op false x0 x1 y0 y1 0 0 = some (lo, hi, 0) ∧ Good op x0 x1 y0 y1 lo hi := by
      intro lo hi E F h e1 e2
      by_cases hb : (isI lo && isI hi) = true
      · rw [if_pos hb] at e1 e2
        rw [Bool.and_eq_true] at hb
        exact .inr ⟨lo, hi, e1, e2, hop, ⟨hx0, hx1, hx⟩, ⟨hy0, hy1, hy⟩, hz, hb, h.all⟩
      · rw [if_neg hb] at e1 e2
        exact .inl ⟨28, by decide, e1, e2⟩
    obtain ⟨m, rfl⟩ : ∃ m, k = m + 3 := ⟨k - 3, by omega⟩
    have n0 : ∀ b : Int, y0 ≤ b ∧ b ≤ y1 → ¬ ((op = 3 ∨ op = 4) ∧ b = 0) := fun b hb h => hz h.1 (by omega)
    by_cases h4 : op = 4
    · subst h4
      by_cases hw : x1 - x0 < 200 ∧ y1 - y0 < 200
      · obtain ⟨lo, hi, e, h⟩ := results_mod hx0 hx1 hy0 hy1 hx hy (hz (.inr rfl)) hw.1 hw.2 (k := m + 1) (by omega)
        refine core lo hi _ _ h ?_ ?_
        · rw [integers_RangeOf.j0]
          rw [if_pos rfl, if_pos rfl, w64 (by omega) (by omega), if_pos hw.1, w64 (by omega) (by omega), decide_eq_true hw.2, want_eq, Option.bind_some]
          exact prog_j1 e
        · rw [fr7_RangeOf.j0]
          rw [if_neg (by decide), ends_eq _ _ (by omega), ends_eq _ _ (by omega), Option.bind_some, Option.bind_some, if_pos rfl, w64 (by omega) (by omega), if_neg (by omega), w64 (by omega) (by omega), decide_eq_false (by omega)]
          rw [fr7_RangeOf.j1]
          rw [if_neg (by decide), members_eq hx0'.1 hx1'.2 hx hw.1 (by omega), members_eq hy0'.1 hy1'.2 hy hw.2 (by omega), Option.bind_some, Option.bind_some]
          have hb : (x1 - x0 + 1).toNat * ((y1 - y0 + 1).toNat + 2) ≤ 200 * 202 := Nat.mul_le_mul (by omega) (by omega)
          refine ref_j2 (fun a ha => isI_in hx0 hx1 ((members_mem hx).1 ha)) (fun b hb => ⟨isI_in hy0 hy1 ((members_mem hy).1 hb), n0 b ((members_mem hy).1 hb)⟩) ?_ ?_
            (fun a ha => (members_mem hx).1 ha) (fun b hb => (members_mem hy).1 hb) ?_ ?_ h ?_
          all_goals
            simp only [membersL_len]
            omega
      · refine .inl ⟨8, by decide, ?_, ?_⟩
        · rw [integers_RangeOf.j0]
          rw [if_pos rfl, if_pos rfl, w64 (by omega) (by omega), w64 (by omega) (by omega)]
          by_cases h1 : x1 - x0 < 200
          · rw [if_pos h1, decide_eq_false (fun h2 => hw ⟨h1, h2⟩), want_eq]
            rfl
          · rw [if_neg h1, want_eq]
            rfl
        · rw [fr7_RangeOf.j0]
          rw [if_neg (by decide), ends_eq _ _ (by omega), ends_eq _ _ (by omega), Option.bind_some, Option.bind_some, if_pos rfl, w64 (by omega) (by omega), w64 (by omega) (by omega)]
          by_cases h1 : x1 - x0 < 200
          · rw [if_neg (by omega), decide_eq_true (by omega)]
            rfl
          · rw [if_pos (by omega)]
            rfl
    · have hr : ∃ lo hi, integers_results.f (m + 1) op x0 x1 y0 y1 = some (lo, hi) ∧ IsR op (endsL x0 x1) (endsL y0 y1) x0 x1 y0 y1 lo hi := by
        have cases9 : op = 0 ∨ op = 1 ∨ op = 2 ∨ op = 3 ∨ op = 5 ∨ op = 6 ∨ op = 7 ∨ op = 8 := by omega
        rcases cases9 with rfl | rfl | rfl | rfl | rfl | rfl | rfl | rfl
        · exact results_corners hx0 hx1 hy0 hy1 hx hy (by omega) _
        · exact results_sub hx0 hx1 hy0 hy1 hx hy _
        · exact results_corners hx0 hx1 hy0 hy1 hx hy (by omega) _
        · have := hz (.inl rfl)
          obtain ⟨n, hn⟩ : ∃ n, m + 1 = n + 3 := ⟨m - 2, by omega⟩
          rw [hn]
          exact results_div hx0 hx1 hx hy (by omega) _
        · obtain ⟨n, hn⟩ : ∃ n, m + 1 = n + 2 := ⟨m - 1, by omega⟩
          rw [hn]
          exact results_sign hx0 hx1 hx hy _
        · exact results_dim hx0 hx1 hy0 hy1 hx hy _
        · exact results_corners hx0 hx1 hy0 hy1 hx hy (by omega) _
        · exact results_corners hx0 hx1 hy0 hy1 hx hy (by omega) _
      obtain ⟨lo, hi, e, h⟩ := hr
      have l1 := ends_len x0 x1
      have l2 := ends_len y0 y1
      have p1 := List.length_pos_iff.2 (ends_ne x0 x1)
      have p2 := List.length_pos_iff.2 (ends_ne y0 y1)
      refine core lo hi _ _ h ?_ ?_
      · rw [integers_RangeOf.j0]
        rw [if_pos rfl, if_neg h4, want_eq, Option.bind_some]
        exact prog_j1 e
      · rw [fr7_RangeOf.j0]
        rw [if_neg (by decide), ends_eq _ _ (by omega), ends_eq _ _ (by omega), Option.bind_some, Option.bind_some, if_neg h4]
        have hb : (endsL x0 x1).length * ((endsL y0 y1).length + 2) ≤ 5 * 7 := Nat.mul_le_mul l1 (by omega)
        exact ref_j2 (fun a ha => isI_in hx0 hx1 (ends_mem ha hx)) (fun b hb => ⟨isI_in hy0 hy1 (ends_mem hb hy), n0 b (ends_mem hb hy)⟩) (by omega) (by omega)
          (fun a ha => ends_mem ha hx) (fun b hb => ends_mem hb hy) (by omega) (by omega) h (by omega)
  · rw [if_neg h0]
    refine .inl ⟨_, h0, ?_, rfl⟩
    obtain ⟨m, rfl⟩ : ∃ m, k = m + 1 := ⟨k - 1, by omega⟩
    rw [integers_RangeOf.j0]
    rw [if_neg h0, err_eq]; rfl
theorem IntegersRanges (a0 a1_0 a1_1 a1_2 a1_3 a2_0 a2_1 : Int) (w0 : (Lit.int .i64 a0).wf = true) (w1 : (Lit.int .i64 a1_0).wf = true) (w2 : (Lit.int .i64 a1_1).wf = true) (w3 : (Lit.int .i64 a1_2).wf = true) (w4 : (Lit.int .i64 a1_3).wf = true) (w5 : (Lit.int .i64 a2_0).wf = true) (w6 : (Lit.int .i64 a2_1).wf = true) :
    ∃ k, formularylaw07_IntegersRanges.f k a0 a1_0 a1_1 a1_2 a1_3 a2_0 a2_1 = some true := by
  refine ⟨99999 + 1 + 40, ?_⟩
  unfold formularylaw07_IntegersRanges.f
  rw [awake_any, Option.bind_some, if_pos rfl]
  rcases range_both (op := a0) (x0 := a1_0) (x1 := a1_1) (y0 := a1_2) (y1 := a1_3) (k := 99999 + 1 + 40) (by omega) with ⟨e, he, e1, e2⟩ | ⟨lo, hi, e1, e2, g⟩
  · rw [e1, e2, Option.bind_some, Option.bind_some, if_pos rfl]
    rw [show 99999 + 1 + 40 = (99999 + 40) + 1 by omega]
    rw [formularylaw07_IntegersRanges.j0]
    rw [if_neg (by simp), if_neg he]
  · rw [e1, e2, Option.bind_some, Option.bind_some, if_pos rfl]
    rw [show 99999 + 1 + 40 = (99999 + 40) + 1 by omega]
    rw [formularylaw07_IntegersRanges.j0]
    obtain ⟨hx0, hx1, hx⟩ := g.xs
    obtain ⟨hy0, hy1, hy⟩ := g.ys
    have hx0' := isI_iff.1 hx0
    have hx1' := isI_iff.1 hx1
    have hy0' := isI_iff.1 hy0
    have hy1' := isI_iff.1 hy1
    have m1 := Int.emod_nonneg a2_0 (show a1_1 - a1_0 + 1 ≠ 0 by omega)
    have m2 := Int.emod_lt_of_pos a2_0 (show 0 < a1_1 - a1_0 + 1 by omega)
    have m3 := Int.emod_nonneg a2_1 (show a1_3 - a1_2 + 1 ≠ 0 by omega)
    have m4 := Int.emod_lt_of_pos a2_1 (show 0 < a1_3 - a1_2 + 1 by omega)
    rw [if_neg (by simp), if_pos rfl, w64 (x := a1_1 - a1_0) (by omega) (by omega), w64 (x := a1_1 - a1_0 + 1) (by omega) (by omega), mod_eq _ _ (by omega) (by omega), Option.bind_some,
      w64 (x := a1_3 - a1_2) (by omega) (by omega), w64 (x := a1_3 - a1_2 + 1) (by omega) (by omega), mod_eq _ _ (by omega) (by omega), Option.bind_some,
      w64 (x := a1_0 + _) (by omega) (by omega), w64 (x := a1_2 + _) (by omega) (by omega), apply_at (by omega), Option.bind_some]
    generalize ha : a1_0 + a2_0 % (a1_1 - a1_0 + 1) = a
    generalize hb : a1_2 + a2_1 % (a1_3 - a1_2 + 1) = b
    have ia := isI_in hx0 hx1 (a := a) (by omega)
    have ib := isI_in hy0 hy1 (a := b) (by omega)
    have hab := g.all a b (by omega) (by omega) (by omega) (by omega)
    have hi' := isI_in g.ends.1 g.ends.2 hab
    rw [applyS_ok ia ib g.kind (fun h => g.zero h.1 (by omega)), if_pos hi']
    rw [if_pos rfl, within_eq, Option.bind_some, decide_eq_true hab.1, decide_eq_true hab.2]
    rfl

end Go.Proofs.Ytgmlihjopinagaa.Pure
