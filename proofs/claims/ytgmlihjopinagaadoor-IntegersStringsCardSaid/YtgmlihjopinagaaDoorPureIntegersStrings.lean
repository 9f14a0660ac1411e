/-
IntegersStrings, the plain law: for every INTEGER, value and string (of at most 60 bytes) the law's printed function answers true.
-/
import Derived.Test.YtgmlihjopinagaaDoorPIntegersStringsx5
import Derived.Lib.ItoaLen
namespace Go.Proofs.YtgmlihjopinagaaDoor.Pure
open Go.RowKit Go.Proofs.YtgmlihjopinagaaDoor.PIntegersStrings Go.Proofs.YtgmlihjopinagaaDoorW.PrintWords Go.Proofs.YtgmlihjopinagaaDoorW.PrintLast
set_option linter.unusedVariables false
set_option linter.unusedSimpArgs false

/-! ### what all of chapter 7 needs: numbers -/
def isI (n : Int) : Bool := decide (-2147483648 ≤ n) && decide (n ≤ 2147483647)
theorem isI_iff {n : Int} : isI n = true ↔ -2147483648 ≤ n ∧ n ≤ 2147483647 := by simp [isI]
theorem isI_not {n : Int} : isI n = false ↔ ¬ (-2147483648 ≤ n ∧ n ≤ 2147483647) := by
  rw [← Bool.not_eq_true, isI_iff]
theorem w64 {x : Int} (h1 : -9223372036854775808 ≤ x) (h2 : x ≤ 9223372036854775807) : wrap64 x = x := by unfold wrap64; omega
theorem num_int (n : Int) : integers_number_integer.f n = some (isI n) := by
  unfold integers_number_integer.f isI
  split
  · rename_i h; simp [h]
  · rename_i h; simp; omega
theorem within_eq (a b c : Int) : formularybase_Within.f a b c = some (decide (b ≤ a) && decide (a ≤ c)) := by
  unfold formularybase_Within.f
  split
  · rename_i h; simp; omega
  · rename_i h
    have : b ≤ a := by omega
    simp only [this, decide_true, Bool.true_and, Option.some.injEq]
    by_cases h2 : a ≤ c
    · simp [h2]
    · simp [h2]; omega
theorem ref_int (n : Int) : formularyref07_IsInteger.f n = some (isI n) := by
  unfold formularyref07_IsInteger.f; rw [within_eq]; rfl
theorem want_eq (c : Int) (b : Bool) (e : Int) : integers_check_want.f c b e = some (if c = 0 then (if b = true then c else e) else c) := by
  unfold integers_check_want.f; split
  · split <;> rfl
  · rfl
theorem err_eq (c : Int) : integers_check_err.f c = some c := rfl
/-- the error of numbers that should be INTEGERs -/
def numE (c : Int) (b : Bool) : Int := if c = 0 then (if b = true then c else 2) else c
theorem ints1 (k : Nat) (c a : Int) : integers_check_integers.f (k + 3) c [a] = some (numE c (isI a)) := by
  unfold integers_check_integers.f
  simp only [List.length_cons, List.length_nil]
  rw [show ((0 + 1 : Nat) : Int) = 1 from rfl]
  simp only [integers_check_integers.l0, List.length_cons, List.length_nil]
  simp [num_int, want_eq, rd, w64, numE]
theorem ints2 (k : Nat) (c a b : Int) : integers_check_integers.f (k + 4) c [a, b] = some (numE (numE c (isI a)) (isI b)) := by
  unfold integers_check_integers.f
  simp only [List.length_cons, List.length_nil]
  simp only [integers_check_integers.l0, List.length_cons, List.length_nil]
  simp only [num_int, want_eq, rd, Option.bind_some]
  simp [w64, numE]
  rfl
theorem numE_two (a b : Bool) : numE (numE 0 a) b = if (a && b) = true then 0 else 2 := by cases a <;> cases b <;> decide
theorem numErr (a : Int) : formularyref07_NumberErr.f a = some (if isI a = true then 0 else 2) := by
  unfold formularyref07_NumberErr.f; rw [ref_int]; simp only [Option.bind_some]; split <;> rfl
theorem mul_bound {x a : Int} (hx : isI x = true) (ha : isI a = true) : -4611686018427387904 ≤ x * a ∧ x * a ≤ 4611686018427387904 := by
  rw [isI_iff] at hx ha
  have h1 : x.natAbs ≤ 2147483648 := by omega
  have h2 : a.natAbs ≤ 2147483648 := by omega
  have h3 : (x * a).natAbs ≤ 2147483648 * 2147483648 := by rw [Int.natAbs_mul]; exact Nat.mul_le_mul h1 h2
  omega
/-! ### strings of digits -/
def isDg (c : UInt8) : Bool := decide (48 ≤ c.toNat) && decide (c.toNat ≤ 57)
theorem isDg_iff {c : UInt8} : isDg c = true ↔ 48 ≤ c.toNat ∧ c.toNat ≤ 57 := by simp [isDg]
def valL (acc : Nat) (l : List UInt8) : Nat := l.foldl (fun a c => a * 10 + (c.toNat - 48)) acc
theorem valL_nil (acc : Nat) : valL acc [] = acc := rfl
theorem valL_cons (acc : Nat) (c : UInt8) (r : List UInt8) : valL acc (c :: r) = valL (acc * 10 + (c.toNat - 48)) r := by unfold valL; rw [List.foldl_cons]
theorem valL_append (l m : List UInt8) (acc : Nat) : valL acc (l ++ m) = valL (valL acc l) m := by unfold valL; rw [List.foldl_append]
theorem valL_ge : ∀ (l : List UInt8) (acc : Nat), acc ≤ valL acc l
  | [], acc => Nat.le_refl _
  | c :: r, acc => by
    rw [valL_cons]
    exact Nat.le_trans (Nat.le_trans (Nat.le_mul_of_pos_right acc (by decide)) (Nat.le_add_right _ _)) (valL_ge r _)
theorem contains_fin : ∀ n : Fin 256, digs.contains (UInt8.ofNat n.val) = isDg (UInt8.ofNat n.val) := by decide +kernel
theorem contains_digs (c : UInt8) : digs.contains c = isDg c := by
  have h := contains_fin ⟨c.toNat, c.toNat_lt⟩
  simpa using h
theorem pu10 : ∀ (l : List UInt8) (acc : Nat), acc < 18446744073709551616 → l.all isDg = true → Lib.parseUint10 acc l = if valL acc l < 18446744073709551616 then .ok (valL acc l) else .range
  | [], acc, h, _ => by
    rw [valL_nil, if_pos h]; rfl
  | c :: r, acc, h, ha => by
    simp only [List.all_cons, Bool.and_eq_true] at ha
    have hc := isDg_iff.1 ha.1
    have ih := fun h => pu10 r (acc * 10 + (c.toNat - 48)) h ha.2
    have hg := valL_ge r (acc * 10 + (c.toNat - 48))
    rw [valL_cons, Lib.parseUint10, if_pos hc]
    generalize valL (acc * 10 + (c.toNat - 48)) r = z at *
    generalize c.toNat - 48 = d at *
    split
    · rw [if_neg (by omega)]
    · split
      · rw [if_neg (by omega)]
      · exact ih (by omega)
def body (l : List UInt8) : List UInt8 := match l with | [] => [] | c :: r => if c = 43 ∨ c = 45 then r else c :: r
theorem body_cons (c : UInt8) (r : List UInt8) : body (c :: r) = if c = 43 ∨ c = 45 then r else c :: r := rfl
theorem restL_eq (l : List UInt8) : restL l = body l := by
  cases l with
  | nil => rfl
  | cons c r =>
    have hp : ∀ x : UInt8, Lib.trimPrefix (c :: r) [x] = if x = c then r else c :: r := by
      intro x
      simp [Lib.trimPrefix, Lib.hasPrefix, List.isPrefixOf]
    unfold restL
    rw [hp, hp, body_cons]
    by_cases h : c = 45
    · subst h
      rw [if_pos rfl, if_neg (by simp), if_pos (.inr rfl)]
    · rw [if_neg (Ne.symm h), if_pos (by simp)]
      by_cases h2 : c = 43
      · rw [if_pos h2.symm, if_pos (.inl h2)]
      · rw [if_neg (Ne.symm h2), if_neg (by simp [h, h2])]
theorem dw_nil {p : UInt8 → Bool} : ∀ {l : List UInt8}, l.dropWhile p = [] ↔ l.all p = true
  | [] => by simp
  | c :: r => by
    rw [List.dropWhile_cons]
    by_cases h : p c = true
    · rw [if_pos h, dw_nil]; simp [h]
    · rw [if_neg h]; simp [h]
theorem dw_head {p : UInt8 → Bool} : ∀ {l : List UInt8} {c : UInt8} {r : List UInt8}, l.dropWhile p = c :: r → p c = false
  | [], c, r, h => by simp at h
  | a :: l, c, r, h => by
    rw [List.dropWhile_cons] at h
    by_cases hp : p a = true
    · rw [if_pos hp] at h; exact dw_head h
    · rw [if_neg hp] at h
      simp only [List.cons.injEq] at h
      rw [← h.1]; simpa using hp
theorem trimS_nil (l : List UInt8) : Lib.trimS l digs = [] ↔ l.all isDg = true := by
  have e : (digs.contains ·) = isDg := funext contains_digs
  unfold Lib.trimS Lib.trimLeftS Lib.trimRightS
  rw [e, dw_nil, List.all_reverse]
  constructor
  · intro h
    cases hd : l.reverse.dropWhile isDg with
    | nil => have := dw_nil.1 hd; rwa [List.all_reverse] at this
    | cons c r =>
      have h1 := dw_head hd
      rw [hd] at h
      simp [h1] at h
  · intro h
    rw [dw_nil.2 (by rwa [List.all_reverse])]
    rfl
theorem digB_eq (l : List UInt8) : digB l = ((body l).all isDg && !(body l).isEmpty) := by
  unfold digB
  rw [restL_eq]
  by_cases h : Lib.trimS (body l) digs = []
  · rw [if_pos h, (trimS_nil _).1 h]; simp
  · rw [if_neg h, Bool.eq_false_iff.2 (fun x => h ((trimS_nil _).2 x))]; simp
/-- the number, or the error, at the end -/
def finN (n : Int) : Int × Int := if isI n = true then (n, 0) else (0, 28)
theorem fin_eq (n : Int) : (if -2147483648 ≤ n ∧ n ≤ 2147483647 then some (n, (0 : Int)) else some (0, 28)) = some (finN n) := by
  unfold finN
  by_cases h : isI n = true
  · rw [if_pos h, if_pos (isI_iff.1 h)]
  · rw [if_neg h, if_neg (isI_not.1 (Bool.eq_false_iff.2 h))]
theorem fin_big {n : Int} (h : ¬ (-2147483648 ≤ n ∧ n ≤ 2147483647)) : finN n = (0, 28) := by
  unfold finN
  rw [if_neg (by rw [isI_iff]; exact h)]
/-- what a string is -/
def PI (l : List UInt8) : Int × Int :=
  if l = [] then (0, 17) else if 40 < l.length then (0, 8) else
  if ((body l).all isDg && !(body l).isEmpty) = true then finN (if l.head? = some 45 then -(valL 0 (body l) : Int) else (valL 0 (body l) : Int)) else (0, 7)
theorem PI_impl (s : ByteArray) (h : s.size ≤ 281474976710656) : integers_ParseInteger.f s = some (PI s.data.toList) := by
  have hz : s.size = s.data.toList.length := Lib.size_eq s
  unfold integers_ParseInteger.f errP
  rw [if_pos h, digB_eq, hz]
  generalize s.data.toList = l
  cases l with
  | nil => decide
  | cons c r =>
    unfold PI wantF
    simp only [List.isEmpty_cons, Bool.not_false, if_true]
    by_cases h40 : 40 < (c :: r).length
    · rw [if_neg (List.cons_ne_nil c r), if_pos h40, decide_eq_false (by omega)]
      rfl
    · rw [if_neg (List.cons_ne_nil c r), if_neg h40, decide_eq_true (by omega)]
      simp only [if_true]
      by_cases hd : ((body (c :: r)).all isDg && !(body (c :: r)).isEmpty) = true
      · rw [if_pos hd, if_pos hd, if_pos rfl]
        simp only [Bool.and_eq_true] at hd
        have hb : body (c :: r) ≠ [] := by intro e; rw [e] at hd; simp at hd
        have hm : Lib.parseMag (if c.toNat = 43 ∨ c.toNat = 45 then r else c :: r) = if valL 0 (body (c :: r)) < 18446744073709551616 then .ok (valL 0 (body (c :: r))) else .range := by
          have e : (if c.toNat = 43 ∨ c.toNat = 45 then r else c :: r) = body (c :: r) := by
            rw [body_cons]
            have e1 : c.toNat = 43 ↔ c = 43 := ⟨fun h => UInt8.toNat_inj.1 h, fun h => by rw [h]; rfl⟩
            have e2 : c.toNat = 45 ↔ c = 45 := ⟨fun h => UInt8.toNat_inj.1 h, fun h => by rw [h]; rfl⟩
            simp only [e1, e2]
          rw [e]
          unfold Lib.parseMag
          rw [if_neg hb, pu10 _ _ (by omega) hd.1]
        have hif : ∀ A B : Int, (if (c :: r).head? = some 45 then A else B) = if c.toNat = 45 then A else B := fun A B => by
          by_cases h : c = 45
          · subst h; rfl
          · have : ¬ c.toNat = 45 := fun e => h (UInt8.toNat_inj.1 e)
            rw [if_neg this, if_neg (by simpa using h)]
        simp only [Lib.atoiAll]
        rw [hm, hif]
        generalize valL 0 (body (c :: r)) = v
        by_cases hv : v < 18446744073709551616
        · rw [if_pos hv]
          by_cases hg : c.toNat = 45
          · simp only [hg, not_true, false_and, if_false, true_and, if_true]
            by_cases hb2 : 9223372036854775808 < v
            · rw [if_pos hb2, fin_big (by omega)]
            · rw [if_neg hb2]
              exact fin_eq _
          · simp only [hg, not_false_eq_true, false_and, if_false, true_and]
            by_cases hb2 : 9223372036854775808 ≤ v
            · rw [if_pos hb2, fin_big (by omega)]
            · rw [if_neg hb2]
              exact fin_eq _
        · rw [if_neg hv]
          by_cases hg : c.toNat = 45
          · rw [if_pos hg, fin_big (by omega)]
          · rw [if_neg hg, fin_big (by omega)]
      · rw [if_neg hd, if_neg hd, if_neg (by decide)]
/-! ### the reference's reading -/
theorem mono_le {α : Type} {f : Nat → Option α} (h : ∀ k, LeO (f k) (f (k + 1))) {m : Nat} {r : α} (hm : f m = some r) : ∀ k, m ≤ k → f k = some r := by
  intro k hk
  obtain ⟨d, rfl⟩ := Nat.exists_eq_add_of_le hk
  clear hk
  induction d with
  | zero => exact hm
  | succ d ih => exact h _ _ ih
theorem power40 (k : Nat) (hk : 45 ≤ k) : formularybase_Power.f k 40 = some 1099511627776 :=
  mono_le (f := fun k => formularybase_Power.f k 40) (formularybase_Power.mono 40) (m := 45) (by decide +kernel) k hk
theorem bt_list (s : ByteArray) (i : Nat) (h : i < s.data.toList.length) : bt s (i : Int) = (s.data.toList[i].toNat : Int) := by
  have hz : s.size = s.data.toList.length := Lib.size_eq s
  have h1 : (i : Int).toNat < s.size := by rw [hz]; simpa using h
  rw [← bt_at s i h1]
  rfl
theorem mn_nat (a b : Nat) : mn (a : Int) (b : Int) = ((min a b : Nat) : Int) := by unfold mn; omega
theorem valL_min (l : List UInt8) : ∀ a P : Nat, min (valL a l) P = min (valL (min a P) l) P := by
  induction l with
  | nil => intro a P; rw [valL_nil, valL_nil]; omega
  | cons c r ih =>
    intro a P
    rw [valL_cons, valL_cons, ih (a * 10 + (c.toNat - 48)), ih (min a P * 10 + (c.toNat - 48))]
    have : min (a * 10 + (c.toNat - 48)) P = min (min a P * 10 + (c.toNat - 48)) P := by
      generalize c.toNat - 48 = d
      omega
    rw [this]
theorem fin_min (neg : Bool) (v : Nat) : finN (if neg = true then -((min v 1099511627776 : Nat) : Int) else ((min v 1099511627776 : Nat) : Int)) = finN (if neg = true then -(v : Int) else (v : Int)) := by
  by_cases h : v ≤ 1099511627776
  · rw [Nat.min_eq_left h]
  · rw [Nat.min_eq_right (by omega)]
    cases neg
    · rw [if_neg (by decide), if_neg (by decide), fin_big (by omega), fin_big (by omega)]
    · rw [if_pos rfl, if_pos rfl, fin_big (by omega), fin_big (by omega)]
theorem refLoop (s : ByteArray) (neg : Bool) (hz : s.size ≤ 1000) : ∀ (d i a k : Nat), s.size - i = d → i ≤ s.size → d + 46 ≤ k → a ≤ 1099511627776 →
    formularyref07_Parse.l0 k s neg (a : Int) (i : Int) = some (if (s.data.toList.drop i).all isDg = true then finN (if neg = true then -((min (valL a (s.data.toList.drop i)) 1099511627776 : Nat) : Int) else ((min (valL a (s.data.toList.drop i)) 1099511627776 : Nat) : Int)) else (0, 7)) := by
  have hs : s.size = s.data.toList.length := Lib.size_eq s
  intro d
  induction d with
  | zero =>
    intro i a k hd hi hk ha
    obtain ⟨k, rfl⟩ : ∃ m, k = m + 1 := ⟨k - 1, by omega⟩
    simp only [formularyref07_Parse.l0]
    rw [if_neg (by omega), List.drop_eq_nil_of_le (by omega), valL_nil, Nat.min_eq_left ha]
    simp only [ref_int, Option.bind_some, List.all_nil, if_true]
    unfold finN
    cases neg
    · simp only [Bool.false_eq_true, if_false]; split <;> rfl
    · simp only [if_true]; rw [w64 (by omega) (by omega)]; split <;> rfl
  | succ d ih =>
    intro i a k hd hi hk ha
    obtain ⟨k, rfl⟩ : ∃ m, k = m + 1 := ⟨k - 1, by omega⟩
    have hlt : i < s.data.toList.length := by omega
    have g1 : s.size - (i + 1) = d := by omega
    have g2 : i + 1 ≤ s.size := by omega
    have g3 : d + 46 ≤ k := by omega
    have g4 : 45 ≤ k := by omega
    simp only [formularyref07_Parse.l0]
    rw [if_pos (by omega), if_pos (by omega), bt_list s i hlt, List.drop_eq_getElem_cons hlt, power40 k g4]
    have hc : isDg s.data.toList[i] = (decide (48 ≤ s.data.toList[i].toNat) && decide (s.data.toList[i].toNat ≤ 57)) := rfl
    rw [List.all_cons, valL_cons, hc]
    generalize s.data.toList[i].toNat = c
    simp only [Option.bind_some]
    by_cases h1 : (c : Int) < 48
    · rw [if_pos h1, decide_eq_false (by omega)]; rfl
    · rw [if_neg h1]
      by_cases h2 : (c : Int) > 57
      · rw [if_pos h2, decide_eq_false (p := c ≤ 57) (by omega)]; simp
      · rw [if_neg h2, decide_eq_true (by omega), decide_eq_true (p := c ≤ 57) (by omega)]
        have e1 : mn (wrap64 (wrap64 (10 * (a : Int)) + ((c : Int) - 48) % 256)) 1099511627776 = ((min (a * 10 + (c - 48)) 1099511627776 : Nat) : Int) := by
          rw [w64 (x := 10 * (a : Int)) (by omega) (by omega), w64 (by omega) (by omega), ← mn_nat]
          congr 1
          omega
        have e2 : wrap64 ((i : Int) + 1) = ((i + 1 : Nat) : Int) := by rw [w64 (by omega) (by omega)]; rfl
        rw [e1, e2, ih (i + 1) _ k g1 g2 g3 (Nat.min_le_right _ _), ← valL_min]
        simp
theorem extract_list (s : ByteArray) (i : Nat) : (s.extract i s.size).data.toList = s.data.toList.drop i := by
  have hs : s.size = s.data.toList.length := Lib.size_eq s
  rw [ByteArray.data_extract, Array.toList_extract]
  simp only [List.extract_eq_take_drop]
  exact List.take_of_length_le (by rw [List.length_drop]; omega)
theorem PI_ref (s : ByteArray) (k : Nat) (hk : 200 ≤ k) : formularyref07_Parse.f k s = some (PI s.data.toList) := by
  have hs : s.size = s.data.toList.length := Lib.size_eq s
  obtain ⟨k, rfl⟩ : ∃ m, k = m + 2 := ⟨k - 2, by omega⟩
  unfold formularyref07_Parse.f PI
  by_cases h0 : s.data.toList = []
  · rw [if_pos h0, if_pos (by rw [hs, h0]; rfl)]
  · have hp : 0 < s.data.toList.length := List.length_pos_iff.2 h0
    rw [if_neg h0, if_neg (by omega)]
    by_cases h40 : 40 < s.data.toList.length
    · rw [if_pos h40, if_pos (by omega)]
    · rw [if_neg h40, if_neg (by omega), if_pos (by omega), show bt s 0 = _ from bt_list s 0 hp]
      have tail : ∀ (t : ByteArray) (neg : Bool), t.size ≤ 40 → formularyref07_Parse.j1 (k + 1) t neg = some (if (t.data.toList.all isDg && !t.data.toList.isEmpty) = true then finN (if neg = true then -(valL 0 t.data.toList : Int) else (valL 0 t.data.toList : Int)) else (0, 7)) := by
        intro t neg ht
        have hts : t.size = t.data.toList.length := Lib.size_eq t
        simp only [formularyref07_Parse.j1]
        by_cases hte : t.data.toList = []
        · rw [if_pos (by rw [hts, hte]; rfl), hte]; rfl
        · have := List.length_pos_iff.2 hte
          have e := refLoop t neg (by omega) t.size 0 0 k (by omega) (by omega) (by omega) (by omega)
          rw [if_neg (by omega), show formularyref07_Parse.l0 k t neg 0 0 = _ from e, List.drop_zero, fin_min]
          have he : t.data.toList.isEmpty = false := by simpa using hte
          rw [he, Bool.not_false, Bool.and_true]
      have hx := extract_list s 1
      have hxs : (s.extract 1 s.size).size ≤ 40 := by rw [Lib.size_eq, hx, List.length_drop]; omega
      obtain ⟨c, r, hl⟩ := List.exists_cons_of_ne_nil h0
      have hg : s.data.toList[0].toNat = c.toNat := by simp [hl]
      rw [hg, hl]
      have t1 := tail (s.extract 1 s.size) true hxs
      have t2 := tail (s.extract 1 s.size) false hxs
      have t3 := tail s false (by omega)
      rw [hl] at hx
      simp only [List.drop_succ_cons, List.drop_zero] at hx
      rw [hx] at t1 t2
      rw [hl] at t3
      have c1 : c.toNat = 45 ↔ c = 45 := ⟨fun h => UInt8.toNat_inj.1 h, fun h => by rw [h]; rfl⟩
      have c2 : c.toNat = 43 ↔ c = 43 := ⟨fun h => UInt8.toNat_inj.1 h, fun h => by rw [h]; rfl⟩
      by_cases hm : c = 45
      · have : (c.toNat : Int) = 45 := by have := c1.2 hm; omega
        rw [if_pos this]
        simp only [formularyref07_Parse.j0, if_true]
        rw [if_pos (by omega), t1, show body (c :: r) = r by rw [body_cons, if_pos (.inr hm)], if_pos (show (c :: r).head? = some 45 by rw [hm]; rfl)]
        simp
      · have : ¬ (c.toNat : Int) = 45 := by have := mt c1.1 hm; omega
        rw [if_neg this]
        simp only [formularyref07_Parse.j0, beq_iff_eq]
        by_cases hp2 : c = 43
        · have : (c.toNat : Int) = 43 := by have := c2.2 hp2; omega
          rw [if_pos this, if_pos (by omega), t2, show body (c :: r) = r by rw [body_cons, if_pos (.inl hp2)], if_neg (show ¬ (c :: r).head? = some 45 by simpa using hm)]
          simp
        · have : ¬ (c.toNat : Int) = 43 := by have := mt c2.1 hp2; omega
          rw [if_neg this, t3, show body (c :: r) = c :: r by rw [body_cons, if_neg (by simp [hm, hp2])], if_neg (show ¬ (c :: r).head? = some 45 by simpa using hm)]
          simp
/-! ### the numerals -/
theorem dg_byte {u : Nat} (h : u < 10) : (UInt8.ofNat (48 + u)).toNat = 48 + u := by
  have : (UInt8.ofNat (48 + u)).toNat = (48 + u) % 256 := UInt8.toNat_ofNat' ..
  rw [this]; omega
theorem dec_facts : ∀ u : Nat, (Lib.decDigits u).all isDg = true ∧ valL 0 (Lib.decDigits u) = u ∧ Lib.decDigits u ≠ [] := by
  intro u
  induction u using Nat.strongRecOn with
  | _ u ih =>
    rw [Lib.decDigits]
    by_cases h : u < 10
    · rw [dif_pos h]
      have hb := dg_byte h
      refine ⟨?_, ?_, by simp⟩
      · simp only [List.all_cons, List.all_nil, Bool.and_true]
        rw [isDg_iff, hb]; omega
      · rw [valL_cons, valL_nil, hb]; omega
    · rw [dif_neg h]
      obtain ⟨i1, i2, i3⟩ := ih (u / 10) (by omega)
      have hb := dg_byte (u := u % 10) (by omega)
      refine ⟨?_, ?_, by simp⟩
      · simp only [List.all_append, List.all_cons, List.all_nil, Bool.and_true, i1, Bool.true_and]
        rw [isDg_iff, hb]; omega
      · rw [valL_append, i2, valL_cons, valL_nil, hb]; omega
theorem body_digits {l : List UInt8} (h : l.all isDg = true) : body l = l := by
  cases l with
  | nil => rfl
  | cons c r =>
    simp only [List.all_cons, Bool.and_eq_true] at h
    have hc := isDg_iff.1 h.1
    rw [body_cons, if_neg]
    rintro (rfl | rfl)
    · exact absurd hc (by decide)
    · exact absurd hc (by decide)
theorem PI_itoa (n : Int) (h : isI n = true) : PI (Lib.itoa n) = (n, 0) := by
  have hb := isI_iff.1 h
  have hl := Lib.itoa_length_le n (by omega) (by omega)
  have hne : Lib.itoa n ≠ [] := by
    unfold Lib.itoa
    split
    · simp
    · exact (dec_facts _).2.2
  unfold PI
  rw [if_neg hne, if_neg (by omega)]
  unfold Lib.itoa
  by_cases hn : n < 0
  · obtain ⟨d1, d2, d3⟩ := dec_facts n.natAbs
    rw [if_pos hn, show body (45 :: Lib.decDigits n.natAbs) = Lib.decDigits n.natAbs by rw [body_cons, if_pos (.inr rfl)], d1, d2]
    have he : (Lib.decDigits n.natAbs).isEmpty = false := by simpa using d3
    rw [he, if_pos (by rfl), if_pos (by rfl)]
    have : -((n.natAbs : Nat) : Int) = n := by omega
    rw [this]; unfold finN; rw [if_pos h]
  · obtain ⟨d1, d2, d3⟩ := dec_facts n.toNat
    rw [if_neg hn, body_digits d1, d1, d2]
    have he : (Lib.decDigits n.toNat).isEmpty = false := by simpa using d3
    rw [he, if_pos (by rfl), if_neg]
    · have : ((n.toNat : Nat) : Int) = n := by omega
      rw [this]; unfold finN; rw [if_pos h]
    · intro e
      cases hd : Lib.decDigits n.toNat with
      | nil => exact d3 hd
      | cons c r =>
        rw [hd] at d1 e
        simp only [List.head?_cons, Option.some.injEq] at e
        subst e
        simp only [List.all_cons, Bool.and_eq_true] at d1
        exact absurd (isDg_iff.1 d1.1) (by decide)
theorem ba_append (a b : List UInt8) : (ByteArray.mk a.toArray) ++ (ByteArray.mk b.toArray) = ByteArray.mk (a ++ b).toArray := by
  apply ByteArray.ext
  rw [ByteArray.data_append]
  simp
theorem ba_size (a : List UInt8) : (ByteArray.mk a.toArray).size = a.length := by rw [Lib.size_eq]
theorem digit_piece : ∀ i : Fin 10, ((⟨#[48, 49, 50, 51, 52, 53, 54, 55, 56, 57]⟩ : ByteArray).extract i.val (i.val + 1)).data.toList = [UInt8.ofNat (48 + i.val)] := by decide +kernel
theorem dec_len (u : Nat) (h : u < 18446744073709551616) : (Lib.decDigits u).length ≤ 20 := by rw [Lib.decDigits_length]; exact Lib.nDigits_le20 u h
theorem dec_step {u : Nat} (h : ¬ u < 10) : Lib.decDigits u = Lib.decDigits (u / 10) ++ Lib.decDigits (u % 10) := by
  rw [Lib.decDigits, dif_neg h, Lib.decDigits_one (i := u % 10) (by omega)]
theorem decimal_nat : ∀ (u : Nat), u < 10000000000 → ∀ k, u < 10 ^ k → formularybase_Decimal.f (k + 2) (u : Int) = some ⟨(Lib.decDigits u).toArray⟩ := by
  intro u
  induction u using Nat.strongRecOn with
  | _ u ih =>
    intro hu k hk
    rw [formularybase_Decimal.f, if_neg (by omega)]
    by_cases h : u < 10
    · rw [if_neg (by omega), if_pos (by omega), w64 (by omega) (by omega), if_pos (by omega), if_pos (by omega), Lib.decDigits, dif_pos h]
      congr 1
      apply ByteArray.ext
      apply Array.toList_inj.1
      have := digit_piece ⟨u, h⟩
      simpa using this
    · obtain ⟨k, rfl⟩ : ∃ m, k = m + 1 := ⟨k - 1, by
        rcases k with _ | k
        · simp at hk; omega
        · omega⟩
      have h10 : u / 10 < 10 ^ k := by rw [Nat.pow_succ] at hk; omega
      have e1 : wrap64 (Int.tdiv (u : Int) 10) = ((u / 10 : Nat) : Int) := by rw [Int.tdiv_eq_ediv_of_nonneg (by omega), w64 (by omega) (by omega)]; rfl
      have e2 : Int.tmod (u : Int) 10 = ((u % 10 : Nat) : Int) := by rw [Int.tmod_eq_emod_of_nonneg (by omega)]; rfl
      have i1 := ih (u / 10) (by omega) (by omega) k h10
      have hk1 : 1 ≤ k := by
        rcases k with _ | k
        · simp at hk; omega
        · omega
      have hk10 : 10 ≤ 10 ^ k := Nat.pow_le_pow_right (n := 10) (by decide) hk1
      have i2 := ih (u % 10) (by omega) (by omega) k (by omega)
      have l1 := dec_len (u / 10) (by omega)
      have l2 := dec_len (u % 10) (by omega)
      rw [if_pos (by omega), e1, e2]
      rw [show k + 1 + 1 = k + 2 from rfl, i1, i2]
      simp only [Option.bind_some, ba_size, ba_append]
      rw [if_pos (by omega), ← dec_step h]
theorem decimal_neg : ∀ (m : Nat), 1 ≤ m → m < 10000000000 → ∀ k, m < 10 ^ k → formularybase_Decimal.f (k + 3) (-(m : Int)) = some ⟨(45 :: Lib.decDigits m).toArray⟩ := by
  intro m
  induction m using Nat.strongRecOn with
  | _ m ih =>
    intro h1 hm k hk
    rw [formularybase_Decimal.f, if_pos (by omega)]
    have l0 := dec_len m (by omega)
    by_cases h : m < 10
    · have e := decimal_nat m hm k hk
      rw [if_pos (by omega), w64 (by omega) (by omega), Int.neg_neg, e]
      simp only [Option.bind_some, ba_size]
      rw [if_pos (by omega), show (⟨#[45]⟩ : ByteArray) = ByteArray.mk ([45] : List UInt8).toArray from rfl, ba_append]
      rfl
    · obtain ⟨k, rfl⟩ : ∃ m, k = m + 1 := ⟨k - 1, by
        rcases k with _ | k
        · simp at hk; omega
        · omega⟩
      have h10 : m / 10 < 10 ^ k := by rw [Nat.pow_succ] at hk; omega
      have e1 : wrap64 (Int.tdiv (-(m : Int)) 10) = -((m / 10 : Nat) : Int) := by rw [Int.neg_tdiv, Int.tdiv_eq_ediv_of_nonneg (by omega), w64 (by omega) (by omega)]; rfl
      have e2 : wrap64 (-(Int.tmod (-(m : Int)) 10)) = ((m % 10 : Nat) : Int) := by rw [Int.neg_tmod, Int.neg_neg, Int.tmod_eq_emod_of_nonneg (by omega), w64 (by omega) (by omega)]; rfl
      have hk10 : 10 ^ 1 ≤ 10 ^ (k + 1) := Nat.pow_le_pow_right (by decide) (Nat.le_add_left 1 k)
      have i1 := ih (m / 10) (by omega) (by omega) (by omega) k h10
      have i2 := decimal_nat (m % 10) (by omega) (k + 1) (by omega)
      have l1 := dec_len (m / 10) (by omega)
      have l2 := dec_len (m % 10) (by omega)
      rw [if_neg (by omega), e1, e2]
      rw [show k + 1 + 2 = k + 3 from rfl, i1]
      rw [show k + 1 + 2 = k + 3 from rfl] at i2
      rw [i2]
      simp only [Option.bind_some, ba_size, ba_append, List.length_cons]
      rw [if_pos (by omega), List.cons_append, ← dec_step h]
theorem decimal_int (n : Int) (h : isI n = true) (k : Nat) (hk : 20 ≤ k) : formularybase_Decimal.f k n = some ⟨(Lib.itoa n).toArray⟩ := by
  have hb := isI_iff.1 h
  have hp : 10000000000 ≤ 10 ^ (k - 3) := Nat.le_trans (show 10000000000 ≤ 10 ^ 10 by decide) (Nat.pow_le_pow_right (by decide) (by omega))
  have hp2 : 10 ^ (k - 3) ≤ 10 ^ (k - 2) := Nat.pow_le_pow_right (by decide) (by omega)
  unfold Lib.itoa
  by_cases hn : n < 0
  · rw [if_pos hn]
    have := decimal_neg n.natAbs (by omega) (by omega) (k - 3) (by omega)
    rw [show k - 3 + 3 = k by omega, show -((n.natAbs : Nat) : Int) = n by omega] at this
    exact this
  · rw [if_neg hn]
    have := decimal_nat n.toNat (by omega) (k - 2) (by omega)
    rw [show k - 2 + 2 = k by omega, show ((n.toNat : Nat) : Int) = n by omega] at this
    exact this
/-! ### values -/
theorem format_eq (k : Nat) (n : Int) (h0 : -9223372036854775808 ≤ n) (h1 : n ≤ 9223372036854775807) : integers_FormatInteger.f (k + 3) n = some (if isI n = true then (⟨(Lib.itoa n).toArray⟩, 0) else (⟨#[]⟩, 2)) := by
  unfold integers_FormatInteger.f
  rw [ints1]
  simp only [Option.bind_some, numE, if_true]
  by_cases h : isI n = true
  · rw [if_pos h, if_pos rfl, if_pos ⟨h0, h1⟩, if_pos h]
  · rw [if_neg h, if_neg (by decide), if_neg h]
theorem value_eq (k : Nat) (n : Int) : integers_ValueOf.f (k + 3) n = some (if isI n = true then (0, n % 4294967296, 0, ⟨#[]⟩, 0) else (0, 0, 0, ⟨#[]⟩, 2)) := by
  unfold integers_ValueOf.f
  rw [ints1]
  simp only [Option.bind_some, numE, if_true]
  by_cases h : isI n = true
  · rw [if_pos h, if_pos rfl, if_pos h]
    have : IntKind.u64.wrap (wrap32 n % 4294967296) = n % 4294967296 := by rw [IntKind.wrap_u64]; unfold wrap32; omega
    simp only [integers_pattern.f, Option.bind_some, this]
  · rw [if_neg h, if_neg (by decide), if_neg h]
    rfl
theorem integer_eq (n : Int) : formularybase_Integer.f n = some (0, n % 4294967296, 0, ⟨#[]⟩) := by
  unfold formularybase_Integer.f
  have : wrap32 n % 4294967296 = n % 4294967296 := by unfold wrap32; omega
  rw [this]
theorem number_eq (k : Nat) (t a b : Int) (s : ByteArray) : integers_NumberOf.f (k + 1) t a b s =
    some (if t = 0 then (if a / 4294967296 = 0 ∧ b = 0 ∧ s.toList = [] then (wrap64 (wrap32 (a % 4294967296)), 0) else (0, 3)) else (0, 27)) := by
  unfold integers_NumberOf.f
  simp only [integers_NumberOf.j0, want_eq, integers_signed.f, integers_check_err.f, Option.bind_some, if_true, beq_iff_eq, List.isEmpty_iff]
  by_cases ht : t = 0
  · simp only [if_pos ht]
    by_cases ha : a / 4294967296 = 0
    · by_cases hb : b = 0
      · by_cases hs : s.toList = []
        · simp [ha, hb, hs]
        · simp [ha, hb, hs]
      · simp [ha, hb]
    · simp [ha]
  · simp only [if_neg ht]
    by_cases ha : a / 4294967296 = 0
    · by_cases hb : b = 0
      · simp [ha, hb]
      · simp [ha, hb]
    · simp [ha]
theorem back_num (n : Int) (h : isI n = true) : wrap64 (wrap32 (n % 4294967296 % 4294967296)) = n := by
  have hb := isI_iff.1 h
  unfold wrap64 wrap32
  omega
theorem last_eq (k : Nat) (t a b : Int) (s : ByteArray) (ha : 0 ≤ a) : formularylaw07_IntegersStrings.j2 (k + 2) t a b s = some true := by
  simp only [formularylaw07_IntegersStrings.j2, number_eq, Option.bind_some, formularybase_IntegerOf.f]
  by_cases ht : t = 0
  · simp only [if_pos ht]
    by_cases h1 : a ≥ 4294967296
    · have : ¬ a / 4294967296 = 0 := by omega
      simp [h1, this]
    · have : a / 4294967296 = 0 := by omega
      by_cases hb : b = 0
      · by_cases hs : s.toList = []
        · simp [h1, this, hb, hs]
        · simp [h1, this, hb, hs]
      · simp [h1, this, hb]
  · simp [ht]
theorem strings_core (a0 a10 a11 a12 : Int) (a13 a2 : ByteArray) (h0 : -9223372036854775808 ≤ a0) (h1 : a0 ≤ 9223372036854775807) (ha : 0 ≤ a11) : formularylaw07_IntegersStrings.f 1000 a0 a10 a11 a12 a13 a2 = some true := by
  have j1 : formularylaw07_IntegersStrings.j1 999 a0 false a10 a11 a12 a13 = some true := by
    rw [formularylaw07_IntegersStrings.j1, if_neg (by decide), format_eq 995 a0 h0 h1, value_eq 995, numErr]
    simp only [Option.bind_some]
    by_cases h : isI a0 = true
    · simp only [if_pos h, if_true]
      rw [PI_impl _ (by rw [ba_size]; have := Lib.itoa_length_le a0 h0 h1; omega)]
      rw [show ((ByteArray.mk (Lib.itoa a0).toArray).data.toList) = Lib.itoa a0 by simp, PI_itoa a0 h]
      have hd : a0 % 4294967296 / 4294967296 = 0 := by omega
      have he : (ByteArray.mk #[]).toList = [] := by decide +kernel
      have nm : integers_NumberOf.f 998 0 (a0 % 4294967296) 0 ⟨#[]⟩ = some (a0, 0) := by
        rw [number_eq 997, if_pos rfl, if_pos ⟨hd, rfl, he⟩, back_num a0 h]
      rw [nm]
      simp only [Option.bind_some, if_true]
      rw [decimal_int a0 h 998 (by omega), integer_eq]
      simp only [Option.bind_some, if_true]
      simp only [beq_self_eq_true, Bool.not_true, Bool.or_self, Bool.false_eq_true, if_false, if_true]
      exact last_eq 996 a10 a11 a12 a13 ha
    · simp only [if_neg h, if_true]
      have he : (ByteArray.mk #[]).toList = [] := by decide +kernel
      rw [if_neg (by decide), if_pos he]
      simp only [beq_self_eq_true, Bool.not_true, Bool.or_self, Bool.false_eq_true, if_false, if_true, he]
      exact last_eq 996 a10 a11 a12 a13 ha
  have hj : ∀ b : Bool, (b = false → a2.size ≤ 60) → formularylaw07_IntegersStrings.j0 1000 a0 a2 b a10 a11 a12 a13 = some true := by
    intro b hb
    rw [formularylaw07_IntegersStrings.j0]
    cases b with
    | true => rw [if_pos rfl]
    | false =>
      rw [if_neg (by decide), PI_impl a2 (by have := hb rfl; omega), PI_ref a2 999 (by omega)]
      simp only [Option.bind_some, if_true, bne_self_eq_false]
      exact j1
  unfold formularylaw07_IntegersStrings.f
  simp only [formularylaw07_awake.f, Option.bind_some, if_true]
  by_cases h60 : (a2.size : Int) > 60
  · rw [if_pos h60]; exact hj _ (fun h => by cases h)
  · rw [if_neg h60]; exact hj _ (fun _ => by omega)
theorem IntegersStrings (a0 a10 a11 a12 : Int) (a13 a2 : ByteArray) (w0 : (Lit.int .i64 a0).wf = true) (w10 : (Lit.int .i64 a10).wf = true) (w11 : (Lit.int .u64 a11).wf = true) (w12 : (Lit.int .u64 a12).wf = true) (w13 : a13.size ≤ maxLen) (w2 : a2.size ≤ 140737488351232) :
    ∃ k, formularylaw07_IntegersStrings.f k a0 a10 a11 a12 a13 a2 = some true := by
  have h0 : -9223372036854775808 ≤ a0 ∧ a0 ≤ 9223372036854775807 := by simpa [Lit.wf, IntKind.min, IntKind.max, IntKind.signed, IntKind.bits] using w0
  have h1 : 0 ≤ a11 ∧ a11 ≤ 18446744073709551615 := by simpa [Lit.wf, IntKind.min, IntKind.max, IntKind.signed, IntKind.bits] using w11
  exact ⟨1000, strings_core a0 a10 a11 a12 a13 a2 h0.1 h0.2 h1.1⟩

end Go.Proofs.YtgmlihjopinagaaDoor.Pure
