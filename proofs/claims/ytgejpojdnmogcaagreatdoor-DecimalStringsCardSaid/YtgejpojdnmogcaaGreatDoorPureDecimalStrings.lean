/-
The plain law of DecimalStrings.
-/
import Derived.Test.YtgejpojdnmogcaaGreatDoorPDecimalStringsx8
import Derived.Lib.ItoaLen
namespace Go.Proofs.YtgejpojdnmogcaaGreatDoor.Pure
open Go.RowKit Go.Proofs.YtgejpojdnmogcaaGreatDoor.PDecimalStrings Go.Proofs.YtgejpojdnmogcaaGreatDoorW.PrintWords Go.Proofs.YtgejpojdnmogcaaGreatDoorW.PrintLast
set_option linter.unusedVariables false
set_option linter.unusedSimpArgs false

/-! ### numbers, bytes, lists -/
theorem w64 {x : Int} (h1 : -9223372036854775808 ≤ x) (h2 : x ≤ 9223372036854775807) : wrap64 x = x := by unfold wrap64; omega
def isDg (c : UInt8) : Bool := decide (48 ≤ c.toNat) && decide (c.toNat ≤ 57)
theorem isDg_iff {c : UInt8} : isDg c = true ↔ 48 ≤ c.toNat ∧ c.toNat ≤ 57 := by simp [isDg]
def digs : List UInt8 := [48, 49, 50, 51, 52, 53, 54, 55, 56, 57]
theorem contains_fin : ∀ n : Fin 256, digs.contains (UInt8.ofNat n.val) = isDg (UInt8.ofNat n.val) := by decide +kernel
theorem contains_digs (c : UInt8) : digs.contains c = isDg c := by
  have h := contains_fin ⟨c.toNat, c.toNat_lt⟩
  simpa using h
theorem dw_nil {p : UInt8 → Bool} : ∀ {l : List UInt8}, l.dropWhile p = [] ↔ l.all p = true
  | [] => by simp
  | c :: r => by
    rw [List.dropWhile_cons]
    by_cases h : p c = true
    · rw [if_pos h, dw_nil]; simp [h]
    · rw [if_neg h]; simp [h]
theorem dw_head {p : UInt8 → Bool} : ∀ {l : List UInt8} {c : UInt8} {r : List UInt8}, l.dropWhile p = c :: r → p c = false
  | [], c, r, h => by simp at h
  | a :: l, c, r, h => by
    rw [List.dropWhile_cons] at h
    by_cases hp : p a = true
    · rw [if_pos hp] at h; exact dw_head h
    · rw [if_neg hp] at h
      simp only [List.cons.injEq] at h
      rw [← h.1]; simpa using hp
theorem trimS_nil (l : List UInt8) : Lib.trimS l digs = [] ↔ l.all isDg = true := by
  have e : (digs.contains ·) = isDg := funext contains_digs
  unfold Lib.trimS Lib.trimLeftS Lib.trimRightS
  rw [e, dw_nil, List.all_reverse]
  constructor
  · intro h
    cases hd : l.reverse.dropWhile isDg with
    | nil => have := dw_nil.1 hd; rwa [List.all_reverse] at this
    | cons c r =>
      have h1 := dw_head hd
      rw [hd] at h
      simp [h1] at h
  · intro h
    rw [dw_nil.2 (by rwa [List.all_reverse])]
    rfl
theorem bt_list (s : ByteArray) (i : Nat) (h : i < s.data.toList.length) : bt s (i : Int) = (s.data.toList[i].toNat : Int) := by
  have hz : s.size = s.data.toList.length := Lib.size_eq s
  have h1 : (i : Int).toNat < s.size := by rw [hz]; simpa using h
  rw [← bt_at s i h1]
  rfl
theorem extract_drop (s : ByteArray) (i : Nat) : (s.extract i s.size).data.toList = s.data.toList.drop i := by
  have hs : s.size = s.data.toList.length := Lib.size_eq s
  rw [ByteArray.data_extract, Array.toList_extract]
  simp only [List.extract_eq_take_drop]
  exact List.take_of_length_le (by rw [List.length_drop]; omega)
theorem extract_take (s : ByteArray) (i : Nat) : (s.extract 0 i).data.toList = s.data.toList.take i := by
  rw [ByteArray.data_extract, Array.toList_extract]
  simp only [List.extract_eq_take_drop, List.drop_zero, Nat.sub_zero]
theorem ba_eta (s : ByteArray) : (ByteArray.mk s.data.toList.toArray) = s := by
  apply ByteArray.ext
  simp
theorem ba_of {s : ByteArray} {l : List UInt8} (h : s.data.toList = l) : s = ⟨l.toArray⟩ := by rw [← h, ba_eta]
theorem ba_list (l : List UInt8) : (ByteArray.mk l.toArray).data.toList = l := by simp
theorem ba_size (a : List UInt8) : (ByteArray.mk a.toArray).size = a.length := by rw [Lib.size_eq]
theorem ba_append (a b : List UInt8) : (ByteArray.mk a.toArray) ++ (ByteArray.mk b.toArray) = ByteArray.mk (a ++ b).toArray := by
  apply ByteArray.ext
  rw [ByteArray.data_append]
  simp
theorem toL (s : ByteArray) : s.toList = s.data.toList := Lib.toList_data s
theorem within_eq (a b c : Int) : formularybase_Within.f a b c = some (decide (b ≤ a) && decide (a ≤ c)) := by
  unfold formularybase_Within.f
  split
  · rename_i h; simp; omega
  · rename_i h
    have : b ≤ a := by omega
    simp only [this, decide_true, Bool.true_and, Option.some.injEq]
    by_cases h2 : a ≤ c
    · simp [h2]
    · simp [h2]; omega
theorem bit_eq (b : Bool) : formularybase_Bit.f b = some (if b = true then 1 else 0) := by
  unfold formularybase_Bit.f; split <;> rfl
/-! ### canonical numbers -/
def leadL (l : List UInt8) : List UInt8 := l.dropWhile (· == 48)
def tailL (l : List UInt8) : List UInt8 := (l.reverse.dropWhile (· == 48)).reverse
/-- the canonical number of digits -/
def canP (neg : Bool) (l : List UInt8) (e : Int) : Bool × List UInt8 × Int :=
  if tailL (leadL l) = [] then (neg, [48], 0) else (neg, tailL (leadL l), e + ((leadL l).length : Int) - ((tailL (leadL l)).length : Int))
theorem leadL_len (l : List UInt8) : (leadL l).length ≤ l.length := by
  unfold leadL
  induction l with
  | nil => simp
  | cons c r ih =>
    rw [List.dropWhile_cons]
    split
    · simp only [List.length_cons]; omega
    · exact Nat.le_refl _
theorem tailL_len (l : List UInt8) : (tailL l).length ≤ l.length := by
  have := leadL_len l.reverse
  unfold tailL
  unfold leadL at this
  simpa using this
theorem tailL_nil (l : List UInt8) : tailL l = [] ↔ l.all (· == 48) = true := by
  unfold tailL
  rw [List.reverse_eq_nil_iff, dw_nil, List.all_reverse]
theorem leadL_head {l : List UInt8} {c : UInt8} {r : List UInt8} (h : leadL l = c :: r) : c ≠ 48 := by
  have := dw_head h
  simpa using this
theorem tail_lead_nil (l : List UInt8) : tailL (leadL l) = [] ↔ leadL l = [] := by
  rw [tailL_nil]
  constructor
  · intro h
    cases hl : leadL l with
    | nil => rfl
    | cons c r =>
      have hc := leadL_head hl
      rw [hl] at h
      simp [hc] at h
  · intro h; rw [h]; rfl
theorem tailL_append (l : List UInt8) (c : UInt8) : tailL (l ++ [c]) = if c = 48 then tailL l else l ++ [c] := by
  unfold tailL
  rw [List.reverse_append]
  simp only [List.reverse_cons, List.reverse_nil, List.nil_append, List.singleton_append, List.dropWhile_cons]
  by_cases h : c = 48
  · subst h; simp
  · simp [h]
theorem canonical_impl (neg : Bool) (s : ByteArray) (e : Int) (hs : s.size ≤ 100000) (h0 : -100000 ≤ e) (h1 : e ≤ 100000) :
    decimal_canonical.f neg s e = some ((canP neg s.data.toList e).1, ⟨(canP neg s.data.toList e).2.1.toArray⟩, (canP neg s.data.toList e).2.2) := by
  have hz : s.size = s.data.toList.length := Lib.size_eq s
  have hl := leadL_len s.data.toList
  have ht := tailL_len (leadL s.data.toList)
  unfold decimal_canonical.f strings_TrimLeft.f strings_TrimRight.f canP
  rw [if_pos rfl, Option.bind_some]
  have e1 : Lib.trimLeftB s.data.toList 48 = leadL s.data.toList := rfl
  have e2 : ∀ l : List UInt8, Lib.trimRightB l 48 = tailL l := fun l => rfl
  rw [e1, ba_size, if_pos ⟨rfl, by omega⟩]
  simp only [Option.bind_some, ba_list, e2, toL]
  by_cases h : tailL (leadL s.data.toList) = []
  · rw [if_pos h, if_pos h]
  · rw [if_neg h, if_neg h, ba_size]
    rw [w64 (x := e + _) (by omega) (by omega), w64 (by omega) (by omega)]
theorem again_impl (neg : Bool) (s : ByteArray) (e : Int) (hs : s.size ≤ 100000) (h0 : -100000 ≤ e) (h1 : e ≤ 100000) :
    decimal_again.f neg s e = some ((canP neg s.data.toList e).1, ⟨(canP neg s.data.toList e).2.1.toArray⟩, (canP neg s.data.toList e).2.2) := by
  unfold decimal_again.f
  rw [canonical_impl neg s e hs h0 h1]
  rfl
/-! the reference's -/
theorem lead_ref : ∀ (n : Nat) (s : ByteArray) (k : Nat), s.size = n → n < k → formularyref09_lead.l0 k s = some ⟨(leadL s.data.toList).toArray⟩ := by
  intro n
  induction n with
  | zero =>
    intro s k hs hk
    obtain ⟨k, rfl⟩ : ∃ m, k = m + 1 := ⟨k - 1, by omega⟩
    have hl : s.data.toList = [] := List.eq_nil_of_length_eq_zero (by rw [← Lib.size_eq]; exact hs)
    rw [formularyref09_lead.l0, if_neg (by omega), ba_of hl, ba_list]
    rfl
  | succ n ih =>
    intro s k hs hk
    obtain ⟨k, rfl⟩ : ∃ m, k = m + 1 := ⟨k - 1, by omega⟩
    have hz : s.size = s.data.toList.length := Lib.size_eq s
    have hp : 0 < s.data.toList.length := by omega
    rw [formularyref09_lead.l0, if_pos (by omega), if_pos (by omega), show bt s 0 = _ from bt_list s 0 hp, if_pos (show (1 : Int) ≤ (s.size : Int) by omega)]
    obtain ⟨c, r, hl⟩ := List.exists_cons_of_ne_nil (List.length_pos_iff.1 hp)
    have hg : s.data.toList[0].toNat = c.toNat := by simp [hl]
    have hx := extract_drop s 1
    rw [hl] at hx
    simp only [List.drop_succ_cons, List.drop_zero] at hx
    have hlen : (s.extract 1 s.size).size = n := by
      rw [Lib.size_eq, hx]
      rw [hl] at hz
      simp only [List.length_cons] at hz
      omega
    rw [hg]
    by_cases hc : c = 48
    · rw [if_pos (by rw [hc]; rfl), ih _ k hlen (by omega), hx, hl, hc]
      rfl
    · have : ¬ (c.toNat : Int) = 48 := fun h => hc (UInt8.toNat_inj.1 (show c.toNat = 48 by omega))
      rw [if_neg this]
      have e : leadL s.data.toList = s.data.toList := by
        rw [hl]; unfold leadL; rw [List.dropWhile_cons, if_neg (by simpa using hc)]
      rw [e, ba_eta]
theorem lead_f (s : ByteArray) (k : Nat) (hk : s.size < k) : formularyref09_lead.f k s = some ⟨(leadL s.data.toList).toArray⟩ := lead_ref s.size s k rfl hk
theorem canonL : ∀ (n : Nat) (l : List UInt8) (neg : Bool) (e : Int) (k : Nat), l.length = n → n ≤ 100000 → n < k → tailL l ≠ [] → -10000000 ≤ e → e + n ≤ 10000000 →
    formularyref09_Canon.l0 k neg ⟨l.toArray⟩ e = some (neg, ⟨(tailL l).toArray⟩, e + (l.length : Int) - ((tailL l).length : Int)) := by
  intro n
  induction n with
  | zero =>
    intro l neg e k hl _ _ ht
    rw [List.eq_nil_of_length_eq_zero hl] at ht
    exact absurd rfl ht
  | succ n ih =>
    intro l neg e k hl hn hk ht he he2
    obtain ⟨k, rfl⟩ : ∃ m, k = m + 1 := ⟨k - 1, by omega⟩
    rcases List.eq_nil_or_concat l with rfl | ⟨q, c, rfl⟩
    · simp at hl
    · rw [List.concat_eq_append] at *
      have hq : q.length = n := by rw [List.length_append] at hl; simp at hl; omega
      have hw : wrap64 (((ByteArray.mk (q ++ [c]).toArray).size : Int) - 1) = (n : Int) := by rw [ba_size, hl, w64 (by omega) (by omega)]; omega
      have hbt : bt (ByteArray.mk (q ++ [c]).toArray) (n : Int) = (c.toNat : Int) := by
        have hi : n < (ByteArray.mk (q ++ [c]).toArray).data.toList.length := by rw [ba_list, hl]; omega
        rw [bt_list _ n hi]
        simp [← hq]
      rw [formularyref09_Canon.l0, hw, hbt, ba_size, hl, if_pos (by omega), if_pos (by omega), if_pos (show (n : Int) ≤ ((n + 1 : Nat) : Int) by omega)]
      by_cases hc : c = 48
      · have hcn : (c.toNat : Int) = 48 := by rw [hc]; rfl
        have ht' : tailL q ≠ [] := by rw [tailL_append, if_pos hc] at ht; exact ht
        have hx : (ByteArray.mk (q ++ [c]).toArray).extract 0 n = ⟨q.toArray⟩ := by
          apply ba_of
          rw [extract_take, ba_list, ← hq]
          simp
        rw [if_pos hcn, show ((n : Int)).toNat = n by omega, hx, w64 (by omega) (by omega), ih q neg (e + 1) k hq (by omega) (by omega) ht' (by omega) (by omega), tailL_append, if_pos hc]
        congr 3
        omega
      · have hcn : ¬ (c.toNat : Int) = 48 := fun h => hc (UInt8.toNat_inj.1 (show c.toNat = 48 by omega))
        rw [if_neg hcn, tailL_append, if_neg hc]
        congr 3
        omega
theorem canon_ref (neg : Bool) (s : ByteArray) (e : Int) (k : Nat) (hs : s.size ≤ 100000) (hk : s.size < k) (h0 : -100000 ≤ e) (h1 : e ≤ 100000) :
    formularyref09_Canon.f k neg s e = some ((canP neg s.data.toList e).1, ⟨(canP neg s.data.toList e).2.1.toArray⟩, (canP neg s.data.toList e).2.2) := by
  have hz : s.size = s.data.toList.length := Lib.size_eq s
  have hl := leadL_len s.data.toList
  unfold formularyref09_Canon.f canP
  rw [lead_f s k hk]
  simp only [Option.bind_some, toL, ba_list]
  by_cases h : leadL s.data.toList = []
  · rw [if_pos h, if_pos ((tail_lead_nil _).2 h)]
  · have ht : tailL (leadL s.data.toList) ≠ [] := fun x => h ((tail_lead_nil _).1 x)
    rw [if_neg h, if_neg ht, canonL _ (leadL s.data.toList) neg e k rfl (by omega) (by omega) ht (by omega) (by omega)]
/-! ### the errors of a number -/
def errD (l : List UInt8) (e : Int) : Int := if l = [] then 17 else if 800 < l.length then 8 else if l.all isDg = true then (if -1200 ≤ e ∧ e ≤ 1200 then 0 else 2) else 3
theorem errLoop (s : ByteArray) (neg : Bool) (e : Int) : ∀ (d i k : Nat), s.size - i = d → i ≤ s.size → s.size ≤ 1000 → d < k →
    formularyref09_DecimalErr.l0 k (i : Int) neg s e = some (if (s.data.toList.drop i).all isDg = true then (if -1200 ≤ e ∧ e ≤ 1200 then 0 else 2) else 3) := by
  have hs : s.size = s.data.toList.length := Lib.size_eq s
  intro d
  induction d with
  | zero =>
    intro i k hd hi hz hk
    obtain ⟨k, rfl⟩ : ∃ m, k = m + 1 := ⟨k - 1, by omega⟩
    rw [formularyref09_DecimalErr.l0, if_neg (by omega), within_eq, List.drop_eq_nil_of_le (by omega)]
    simp only [Option.bind_some, List.all_nil, if_true, Bool.and_eq_true, decide_eq_true_eq]
    split <;> rfl
  | succ d ih =>
    intro i k hd hi hz hk
    obtain ⟨k, rfl⟩ : ∃ m, k = m + 1 := ⟨k - 1, by omega⟩
    have hlt : i < s.data.toList.length := by omega
    have g1 : s.size - (i + 1) = d := by omega
    have g2 : i + 1 ≤ s.size := by omega
    have g3 : d < k := by omega
    have e2 : wrap64 ((i : Int) + 1) = ((i + 1 : Nat) : Int) := by rw [w64 (by omega) (by omega)]; rfl
    rw [formularyref09_DecimalErr.l0, if_pos (by omega), if_pos (by omega), bt_list s i hlt, List.drop_eq_getElem_cons hlt, List.all_cons]
    have hc : isDg s.data.toList[i] = (decide (48 ≤ s.data.toList[i].toNat) && decide (s.data.toList[i].toNat ≤ 57)) := rfl
    rw [hc, e2]
    generalize s.data.toList[i].toNat = c
    by_cases h1 : (c : Int) < 48
    · rw [if_pos h1, decide_eq_false (by omega)]; rfl
    · rw [if_neg h1]
      by_cases h2 : (c : Int) > 57
      · rw [if_pos h2, decide_eq_false (p := c ≤ 57) (by omega)]; simp
      · rw [if_neg h2, decide_eq_true (by omega), decide_eq_true (p := c ≤ 57) (by omega), ih (i + 1) k g1 g2 hz g3]
        simp
theorem err_ref (neg : Bool) (s : ByteArray) (e : Int) (k : Nat) (hk : 1001 ≤ k) : formularyref09_DecimalErr.f k neg s e = some (errD s.data.toList e) := by
  have hs : s.size = s.data.toList.length := Lib.size_eq s
  unfold formularyref09_DecimalErr.f errD
  by_cases h0 : s.data.toList = []
  · rw [if_pos h0, if_pos (by rw [hs, h0]; rfl)]
  · have hp : 0 < s.data.toList.length := List.length_pos_iff.2 h0
    rw [if_neg h0, if_neg (by omega)]
    by_cases h8 : 800 < s.data.toList.length
    · rw [if_pos h8, if_pos (by omega)]
    · have h := errLoop s neg e s.size 0 k (by omega) (by omega) (by omega) (by omega)
      rw [List.drop_zero] at h
      rw [if_neg h8, if_neg (by omega), show formularyref09_DecimalErr.l0 k 0 neg s e = _ from h]
theorem when_eq (b : Bool) (e : Int) : decimal_when.f b e = some (if b = true then e else 0) := by unfold decimal_when.f; split <;> rfl
theorem exponentErr_eq (e : Int) : decimal_exponentErr.f e = some (if -1200 ≤ e ∧ e ≤ 1200 then 0 else 2) := by
  unfold decimal_exponentErr.f
  simp only [when_eq, Option.bind_some, decide_eq_true_eq]
  by_cases h1 : e < -1200
  · rw [if_pos h1, if_pos trivial, if_neg (by omega)]
  · rw [if_neg h1]
    by_cases h2 : e > 1200
    · rw [if_pos h2, if_neg (by omega)]
    · rw [if_neg h2, if_pos (by omega)]
theorem areDigits_eq (s : ByteArray) (h : s.size ≤ 9223372036854775807) : decimal_areDigits.f s = some (s.data.toList.all isDg) := by
  unfold decimal_areDigits.f strings_Trim.f
  rw [if_pos ⟨h, by decide, by decide⟩]
  simp only [Option.bind_some, toL, ba_list]
  rw [show ([48, 49, 50, 51, 52, 53, 54, 55, 56, 57] : List UInt8) = digs from rfl]
  congr 1
  by_cases h : s.data.toList.all isDg = true
  · rw [(trimS_nil _).2 h, h]; rfl
  · have : Lib.trimS s.data.toList digs ≠ [] := fun x => h ((trimS_nil _).1 x)
    rw [Bool.eq_false_iff.2 h]
    cases hh : Lib.trimS s.data.toList digs with
    | nil => exact absurd hh this
    | cons => rfl
/-- the first error of some -/
def firstE : List Int → Int
  | [] => 0
  | e :: r => if e = 0 then firstE r else e
theorem soonerLoop (l : List Int) (hl : l.length ≤ 1000) : ∀ (d i k : Nat), l.length - i = d → i ≤ l.length → d < k → decimal_sooner.l0 k l (l.length : Int) (i : Int) = some (firstE (l.drop i)) := by
  intro d
  induction d with
  | zero =>
    intro i k hd hi hk
    obtain ⟨k, rfl⟩ : ∃ m, k = m + 1 := ⟨k - 1, by omega⟩
    rw [decimal_sooner.l0, if_neg (by omega), List.drop_eq_nil_of_le (by omega)]; rfl
  | succ d ih =>
    intro i k hd hi hk
    obtain ⟨k, rfl⟩ : ∃ m, k = m + 1 := ⟨k - 1, by omega⟩
    have hlt : i < l.length := by omega
    have hr : rd l (i : Int) = l[i] := by simp [rd, hlt]
    have e2 : wrap64 ((i : Int) + 1) = ((i + 1 : Nat) : Int) := by rw [w64 (by omega) (by omega)]; rfl
    rw [decimal_sooner.l0, if_pos (by omega), if_pos (by omega), if_pos (by omega), hr, e2, ih (i + 1) k (by omega) (by omega) (by omega), List.drop_eq_getElem_cons hlt, firstE]
    by_cases h : l[i] = 0
    · rw [if_pos h, if_pos h]
    · rw [if_neg h, if_neg h]
theorem sooner_eq (l : List Int) (hl : l.length ≤ 1000) (k : Nat) (hk : l.length < k) : decimal_sooner.f k l = some (firstE l) := by
  have h := soonerLoop l hl l.length 0 k (by omega) (by omega) (by omega)
  rw [List.drop_zero] at h
  exact h
theorem check_impl (neg : Bool) (s : ByteArray) (e : Int) (k : Nat) (hk : 10 ≤ k) (h : s.size ≤ 9223372036854775807) : decimal_CheckDecimal.f k neg s e = some (errD s.data.toList e) := by
  have hs : s.size = s.data.toList.length := Lib.size_eq s
  unfold decimal_CheckDecimal.f
  simp only [when_eq, Option.bind_some, areDigits_eq s h, exponentErr_eq, toL]
  rw [sooner_eq _ (by simp) k (by simp; omega)]
  simp only [Option.bind_some]
  congr 1
  unfold errD
  by_cases h0 : s.data.toList = []
  · rw [if_pos h0, h0]; simp [firstE]
  · have hp : 0 < s.data.toList.length := List.length_pos_iff.2 h0
    have he : s.data.toList.isEmpty = false := by simpa using h0
    rw [if_neg h0, he]
    by_cases h8 : 800 < s.data.toList.length
    · rw [if_pos h8]
      have : decide ((s.size : Int) > 800) = true := decide_eq_true (by omega)
      rw [this]
      rfl
    · rw [if_neg h8]
      have : decide ((s.size : Int) > 800) = false := decide_eq_false (by omega)
      rw [this]
      by_cases hd : s.data.toList.all isDg = true
      · rw [if_pos hd, hd]
        simp only [firstE, Bool.false_eq_true, if_false, if_true, Bool.not_true]
        by_cases he2 : -1200 ≤ e ∧ e ≤ 1200
        · rw [if_pos he2]; rfl
        · rw [if_neg he2]; rfl
      · rw [if_neg hd, Bool.eq_false_iff.2 hd]
        rfl
/-! ### the order of two numbers -/
/-! ### the reference's order -/
/-! ### DecimalNumbers -/
/-- the canonical number with its error -/
def canR (neg : Bool) (l : List UInt8) (e : Int) : Bool × ByteArray × Int × Int :=
  if -1200 ≤ (canP neg l e).2.2 ∧ (canP neg l e).2.2 ≤ 1200 then ((canP neg l e).1, ⟨(canP neg l e).2.1.toArray⟩, (canP neg l e).2.2, 0) else (false, ⟨#[]⟩, 0, 2)
theorem err_bounds {a : ByteArray} {e : Int} (ha : errD a.data.toList e = 0) : a.size ≤ 800 ∧ -1200 ≤ e ∧ e ≤ 1200 := by
  have hza : a.size = a.data.toList.length := Lib.size_eq a
  unfold errD at ha; (repeat' split at ha) <;> first | exact absurd ha (by decide) | omega
theorem canonicalR (neg : Bool) (a : ByteArray) (e : Int) (k : Nat) (hk : 2000 ≤ k) (h0 : errD a.data.toList e = 0) :
    formularyref09_Canonical.f k neg a e = some (canR neg a.data.toList e) := by
  obtain ⟨b1, b2, b3⟩ := err_bounds h0
  unfold formularyref09_Canonical.f
  rw [canon_ref neg a e k (by omega) (by omega) (by omega) (by omega)]
  simp only [Option.bind_some, within_eq]
  unfold canR
  by_cases hc : -1200 ≤ (canP neg a.data.toList e).2.2 ∧ (canP neg a.data.toList e).2.2 ≤ 1200
  · rw [if_pos hc, if_pos (by simpa using hc)]
  · rw [if_neg hc, if_neg (by simpa using hc)]
def isI (n : Int) : Bool := decide (-2147483648 ≤ n) && decide (n ≤ 2147483647)
theorem isI_iff {n : Int} : isI n = true ↔ -2147483648 ≤ n ∧ n ≤ 2147483647 := by simp [isI]
def valL (acc : Nat) (l : List UInt8) : Nat := l.foldl (fun a c => a * 10 + (c.toNat - 48)) acc
theorem valL_nil (acc : Nat) : valL acc [] = acc := rfl
theorem valL_cons (acc : Nat) (c : UInt8) (r : List UInt8) : valL acc (c :: r) = valL (acc * 10 + (c.toNat - 48)) r := by unfold valL; rw [List.foldl_cons]
theorem valL_append (l m : List UInt8) (acc : Nat) : valL acc (l ++ m) = valL (valL acc l) m := by unfold valL; rw [List.foldl_append]
theorem valL_ge : ∀ (l : List UInt8) (acc : Nat), acc ≤ valL acc l
  | [], acc => Nat.le_refl _
  | c :: r, acc => by
    rw [valL_cons]
    exact Nat.le_trans (Nat.le_trans (Nat.le_mul_of_pos_right acc (by decide)) (Nat.le_add_right _ _)) (valL_ge r _)
theorem pu10 : ∀ (l : List UInt8) (acc : Nat), acc < 18446744073709551616 → l.all isDg = true → Lib.parseUint10 acc l = if valL acc l < 18446744073709551616 then .ok (valL acc l) else .range
  | [], acc, h, _ => by
    rw [valL_nil, if_pos h]; rfl
  | c :: r, acc, h, ha => by
    simp only [List.all_cons, Bool.and_eq_true] at ha
    have hc := isDg_iff.1 ha.1
    have ih := fun h => pu10 r (acc * 10 + (c.toNat - 48)) h ha.2
    have hg := valL_ge r (acc * 10 + (c.toNat - 48))
    rw [valL_cons, Lib.parseUint10, if_pos hc]
    generalize valL (acc * 10 + (c.toNat - 48)) r = z at *
    generalize c.toNat - 48 = d at *
    split
    · rw [if_neg (by omega)]
    · split
      · rw [if_neg (by omega)]
      · exact ih (by omega)
def body (l : List UInt8) : List UInt8 := match l with | [] => [] | c :: r => if c = 43 ∨ c = 45 then r else c :: r
theorem body_cons (c : UInt8) (r : List UInt8) : body (c :: r) = if c = 43 ∨ c = 45 then r else c :: r := rfl
theorem dg_byte {u : Nat} (h : u < 10) : (UInt8.ofNat (48 + u)).toNat = 48 + u := by
  have : (UInt8.ofNat (48 + u)).toNat = (48 + u) % 256 := UInt8.toNat_ofNat' ..
  rw [this]; omega
theorem dec_facts : ∀ u : Nat, (Lib.decDigits u).all isDg = true ∧ valL 0 (Lib.decDigits u) = u ∧ Lib.decDigits u ≠ [] := by
  intro u
  induction u using Nat.strongRecOn with
  | _ u ih =>
    rw [Lib.decDigits]
    by_cases h : u < 10
    · rw [dif_pos h]
      have hb := dg_byte h
      refine ⟨?_, ?_, by simp⟩
      · simp only [List.all_cons, List.all_nil, Bool.and_true]
        rw [isDg_iff, hb]; omega
      · rw [valL_cons, valL_nil, hb]; omega
    · rw [dif_neg h]
      obtain ⟨i1, i2, i3⟩ := ih (u / 10) (by omega)
      have hb := dg_byte (u := u % 10) (by omega)
      refine ⟨?_, ?_, by simp⟩
      · simp only [List.all_append, List.all_cons, List.all_nil, Bool.and_true, i1, Bool.true_and]
        rw [isDg_iff, hb]; omega
      · rw [valL_append, i2, valL_cons, valL_nil, hb]; omega
theorem body_digits {l : List UInt8} (h : l.all isDg = true) : body l = l := by
  cases l with
  | nil => rfl
  | cons c r =>
    simp only [List.all_cons, Bool.and_eq_true] at h
    have hc := isDg_iff.1 h.1
    rw [body_cons, if_neg]
    rintro (rfl | rfl)
    · exact absurd hc (by decide)
    · exact absurd hc (by decide)
theorem digit_piece : ∀ i : Fin 10, ((⟨#[48, 49, 50, 51, 52, 53, 54, 55, 56, 57]⟩ : ByteArray).extract i.val (i.val + 1)).data.toList = [UInt8.ofNat (48 + i.val)] := by decide +kernel
theorem dec_len (u : Nat) (h : u < 18446744073709551616) : (Lib.decDigits u).length ≤ 20 := by rw [Lib.decDigits_length]; exact Lib.nDigits_le20 u h
theorem dec_step {u : Nat} (h : ¬ u < 10) : Lib.decDigits u = Lib.decDigits (u / 10) ++ Lib.decDigits (u % 10) := by
  rw [Lib.decDigits, dif_neg h, Lib.decDigits_one (i := u % 10) (by omega)]
theorem decimal_nat : ∀ (u : Nat), u < 10000000000 → ∀ k, u < 10 ^ k → formularybase_Decimal.f (k + 2) (u : Int) = some ⟨(Lib.decDigits u).toArray⟩ := by
  intro u
  induction u using Nat.strongRecOn with
  | _ u ih =>
    intro hu k hk
    rw [formularybase_Decimal.f, if_neg (by omega)]
    by_cases h : u < 10
    · rw [if_neg (by omega), if_pos (by omega), w64 (by omega) (by omega), if_pos (by omega), if_pos (by omega), Lib.decDigits, dif_pos h]
      congr 1
      apply ByteArray.ext
      apply Array.toList_inj.1
      have := digit_piece ⟨u, h⟩
      simpa using this
    · obtain ⟨k, rfl⟩ : ∃ m, k = m + 1 := ⟨k - 1, by
        rcases k with _ | k
        · simp at hk; omega
        · omega⟩
      have h10 : u / 10 < 10 ^ k := by rw [Nat.pow_succ] at hk; omega
      have e1 : wrap64 (Int.tdiv (u : Int) 10) = ((u / 10 : Nat) : Int) := by rw [Int.tdiv_eq_ediv_of_nonneg (by omega), w64 (by omega) (by omega)]; rfl
      have e2 : Int.tmod (u : Int) 10 = ((u % 10 : Nat) : Int) := by rw [Int.tmod_eq_emod_of_nonneg (by omega)]; rfl
      have i1 := ih (u / 10) (by omega) (by omega) k h10
      have hk1 : 1 ≤ k := by
        rcases k with _ | k
        · simp at hk; omega
        · omega
      have hk10 : 10 ≤ 10 ^ k := Nat.pow_le_pow_right (n := 10) (by decide) hk1
      have i2 := ih (u % 10) (by omega) (by omega) k (by omega)
      have l1 := dec_len (u / 10) (by omega)
      have l2 := dec_len (u % 10) (by omega)
      rw [if_pos (by omega), e1, e2]
      rw [show k + 1 + 1 = k + 2 from rfl, i1, i2]
      simp only [Option.bind_some, ba_size, ba_append]
      rw [if_pos (by omega), ← dec_step h]
theorem decimal_neg : ∀ (m : Nat), 1 ≤ m → m < 10000000000 → ∀ k, m < 10 ^ k → formularybase_Decimal.f (k + 3) (-(m : Int)) = some ⟨(45 :: Lib.decDigits m).toArray⟩ := by
  intro m
  induction m using Nat.strongRecOn with
  | _ m ih =>
    intro h1 hm k hk
    rw [formularybase_Decimal.f, if_pos (by omega)]
    have l0 := dec_len m (by omega)
    by_cases h : m < 10
    · have e := decimal_nat m hm k hk
      rw [if_pos (by omega), w64 (by omega) (by omega), Int.neg_neg, e]
      simp only [Option.bind_some, ba_size]
      rw [if_pos (by omega), show (⟨#[45]⟩ : ByteArray) = ByteArray.mk ([45] : List UInt8).toArray from rfl, ba_append]
      rfl
    · obtain ⟨k, rfl⟩ : ∃ m, k = m + 1 := ⟨k - 1, by
        rcases k with _ | k
        · simp at hk; omega
        · omega⟩
      have h10 : m / 10 < 10 ^ k := by rw [Nat.pow_succ] at hk; omega
      have e1 : wrap64 (Int.tdiv (-(m : Int)) 10) = -((m / 10 : Nat) : Int) := by rw [Int.neg_tdiv, Int.tdiv_eq_ediv_of_nonneg (by omega), w64 (by omega) (by omega)]; rfl
      have e2 : wrap64 (-(Int.tmod (-(m : Int)) 10)) = ((m % 10 : Nat) : Int) := by rw [Int.neg_tmod, Int.neg_neg, Int.tmod_eq_emod_of_nonneg (by omega), w64 (by omega) (by omega)]; rfl
      have hk10 : 10 ^ 1 ≤ 10 ^ (k + 1) := Nat.pow_le_pow_right (by decide) (Nat.le_add_left 1 k)
      have i1 := ih (m / 10) (by omega) (by omega) (by omega) k h10
      have i2 := decimal_nat (m % 10) (by omega) (k + 1) (by omega)
      have l1 := dec_len (m / 10) (by omega)
      have l2 := dec_len (m % 10) (by omega)
      rw [if_neg (by omega), e1, e2]
      rw [show k + 1 + 2 = k + 3 from rfl, i1]
      rw [show k + 1 + 2 = k + 3 from rfl] at i2
      rw [i2]
      simp only [Option.bind_some, ba_size, ba_append, List.length_cons]
      rw [if_pos (by omega), List.cons_append, ← dec_step h]
theorem decimal_int (n : Int) (h : isI n = true) (k : Nat) (hk : 20 ≤ k) : formularybase_Decimal.f k n = some ⟨(Lib.itoa n).toArray⟩ := by
  have hb := isI_iff.1 h
  have hp : 10000000000 ≤ 10 ^ (k - 3) := Nat.le_trans (show 10000000000 ≤ 10 ^ 10 by decide) (Nat.pow_le_pow_right (by decide) (by omega))
  have hp2 : 10 ^ (k - 3) ≤ 10 ^ (k - 2) := Nat.pow_le_pow_right (by decide) (by omega)
  unfold Lib.itoa
  by_cases hn : n < 0
  · rw [if_pos hn]
    have := decimal_neg n.natAbs (by omega) (by omega) (k - 3) (by omega)
    rw [show k - 3 + 3 = k by omega, show -((n.natAbs : Nat) : Int) = n by omega] at this
    exact this
  · rw [if_neg hn]
    have := decimal_nat n.toNat (by omega) (k - 2) (by omega)
    rw [show k - 2 + 2 = k by omega, show ((n.toNat : Nat) : Int) = n by omega] at this
    exact this
/-! ### values -/
/-! ### strings of numbers -/
def notED (c : UInt8) : Bool := !(c == 69 || c == 68)
theorem dg_notED {c : UInt8} (h : isDg c = true) : notED c = true := by
  have := isDg_iff.1 h
  unfold notED
  have h1 : (c == 69) = false := beq_eq_false_iff_ne.2 (fun q => by rw [q] at this; exact absurd this (by decide))
  have h2 : (c == 68) = false := beq_eq_false_iff_ne.2 (fun q => by rw [q] at this; exact absurd this (by decide))
  rw [h1, h2]; rfl
def tp (b : UInt8) : List UInt8 → List UInt8
  | [] => []
  | c :: r => if c = b then r else c :: r
theorem tp_eq (s : ByteArray) (b : UInt8) : strings_TrimPrefix.f s (⟨#[b]⟩ : ByteArray) = some ⟨(tp b s.data.toList).toArray⟩ := by
  have hz : s.size = s.data.toList.length := Lib.size_eq s
  have h1 : (⟨#[b]⟩ : ByteArray).size = 1 := rfl
  unfold strings_TrimPrefix.f stringslite_TrimPrefix.f stringslite_HasPrefix.f
  rw [h1]
  have e0 : s = ⟨s.data.toList.toArray⟩ := ba_of rfl
  cases hl : s.data.toList with
  | nil =>
    rw [if_neg (by rw [hz, hl]; simp)]
    simp only [Option.bind_some]
    rw [if_neg (by decide)]
    simp only [Option.bind_some, tp]
    rw [e0, hl]
  | cons c r =>
    have h2 : ((1 : Nat) : Int) ≤ (s.size : Int) := by rw [hz, hl, List.length_cons]; omega
    have h3 : (s.size : Int) ≥ ((1 : Nat) : Int) := h2
    have e1 : (s.extract 0 ((1 : Nat) : Int).toNat).data.toList = [c] := by
      rw [show ((1 : Nat) : Int).toNat = 1 from rfl, extract_take, hl]; rfl
    have e2 : ((s.extract 0 ((1 : Nat) : Int).toNat).toList == (⟨#[b]⟩ : ByteArray).toList) = (c == b) := by
      rw [toL, toL, e1]
      show ([c] == [b]) = _
      simp
    rw [if_pos h3, if_pos (by decide), if_pos h2, e2]
    simp only [Option.bind_some]
    by_cases hc : c = b
    · subst hc
      rw [beq_self_eq_true, if_pos rfl, if_pos (by decide), if_pos h2]
      simp only [Option.bind_some, tp, if_true]
      congr 1
      apply ba_of
      rw [show ((1 : Nat) : Int).toNat = 1 from rfl, extract_drop, hl]; rfl
    · rw [if_neg (by simpa using hc)]
      simp only [Option.bind_some, tp, if_neg hc]
      rw [← hl, ← e0]
theorem tp_cons (b c : UInt8) (r : List UInt8) : tp b (c :: r) = if c = b then r else c :: r := rfl
theorem tp_same (b : UInt8) (l : List UInt8) : tp b l = l ↔ l.head? ≠ some b := by
  cases l with
  | nil => simp [tp]
  | cons c r =>
    rw [tp_cons]
    by_cases h : c = b
    · rw [if_pos h, h]
      simp only [List.head?_cons, ne_eq, not_true, iff_false]
      intro q
      have := congrArg List.length q
      simp at this
    · rw [if_neg h]; simp [h]
theorem body_tp (l : List UInt8) : body l = if tp 45 l = l then tp 43 l else tp 45 l := by
  cases l with
  | nil => rfl
  | cons c r =>
    by_cases h : c = 45
    · subst h
      rw [if_neg (by rw [tp_same]; simp)]
      rfl
    · rw [if_pos (by rw [tp_same]; simpa using h), body_cons]
      rw [tp_cons]
      by_cases h2 : c = 43
      · rw [if_pos (.inl h2), if_pos h2]
      · rw [if_neg (by rintro (q | q); exact h2 q; exact h q), if_neg h2]
/-- a sign -/
def ngL (l : List UInt8) : Bool := l.head? == some 45
theorem indexAny_split : ∀ r : List UInt8, Lib.indexAny r [69, 68] = if r.dropWhile notED = [] then -1 else ((r.takeWhile notED).length : Int)
  | [] => rfl
  | c :: r => by
    have ih := indexAny_split r
    have hc : ([69, 68] : List UInt8).contains c = !notED c := by unfold notED; simp only [List.contains, List.elem]; cases c == 69 <;> cases c == 68 <;> rfl
    rw [Lib.indexAny, hc, ih, List.dropWhile_cons, List.takeWhile_cons]
    cases notED c
    · simp
    · simp only [Bool.not_true, Bool.false_eq_true, if_false, if_true]
      by_cases h : r.dropWhile notED = []
      · rw [if_pos h, if_pos h]; rfl
      · rw [if_neg h, if_neg h]
        have : (((r.takeWhile notED).length : Int) == -1) = false := beq_eq_false_iff_ne.2 (by omega)
        rw [this]; simp
theorem index_dot : ∀ m : List UInt8, Lib.index m [46] = if m.dropWhile (· != 46) = [] then -1 else ((m.takeWhile (· != 46)).length : Int)
  | [] => rfl
  | c :: r => by
    have ih := index_dot r
    have hc : ([46] : List UInt8).isPrefixOf (c :: r) = (46 == c) := by simp [List.isPrefixOf]
    rw [Lib.index, hc, ih, List.dropWhile_cons, List.takeWhile_cons]
    by_cases h0 : c = 46
    · subst h0; simp
    · have h1 : (46 == c) = false := beq_eq_false_iff_ne.2 (fun q => h0 q.symm)
      have h2 : (c != 46) = true := bne_iff_ne.2 h0
      rw [h1, h2]
      simp only [Bool.false_eq_true, if_false, if_true]
      by_cases h : r.dropWhile (· != 46) = []
      · rw [if_pos h, if_pos h]; rfl
      · rw [if_neg h, if_neg h]
        have : (((r.takeWhile (· != 46)).length : Int) == -1) = false := beq_eq_false_iff_ne.2 (by omega)
        rw [this]; simp
def wL (m : List UInt8) : List UInt8 := m.takeWhile (· != 46)
def pL (m : List UInt8) : List UInt8 := (m.dropWhile (· != 46)).drop 1
theorem take_tw {p : UInt8 → Bool} : ∀ l : List UInt8, l.take (l.takeWhile p).length = l.takeWhile p
  | [] => rfl
  | c :: r => by
    rw [List.takeWhile_cons]
    split
    · rw [List.length_cons, List.take_succ_cons, take_tw r]
    · rfl
theorem drop_tw {p : UInt8 → Bool} : ∀ l : List UInt8, l.drop (l.takeWhile p).length = l.dropWhile p
  | [] => rfl
  | c :: r => by
    rw [List.takeWhile_cons, List.dropWhile_cons]
    split
    · rw [List.length_cons, List.drop_succ_cons, drop_tw r]
    · rfl
theorem cut_eq (m : List UInt8) : (Lib.cut m [46]).1 = wL m ∧ (Lib.cut m [46]).2.1 = pL m := by
  unfold Lib.cut wL pL
  rw [index_dot]
  by_cases h : m.dropWhile (· != 46) = []
  · rw [if_pos h, if_neg (by decide), h]
    refine ⟨?_, rfl⟩
    have := List.takeWhile_append_dropWhile (p := fun x : UInt8 => x != 46) (l := m)
    rw [h, List.append_nil] at this
    exact this.symm
  · rw [if_neg h, if_pos (by omega), Int.toNat_natCast]
    refine ⟨take_tw m, ?_⟩
    rw [← List.drop_drop, drop_tw]; rfl
/-- the exponent that stands behind E or D -/
def powL (t : List UInt8) : Option Int := if body t = [] ∨ 4 < (body t).length ∨ (body t).all isDg ≠ true then none else some (if ngL t = true then -(valL 0 (body t) : Int) else (valL 0 (body t) : Int))
theorem valL_lt : ∀ (l : List UInt8) (a : Nat), l.all isDg = true → valL a l < (a + 1) * 10 ^ l.length
  | [], a, _ => by rw [valL_nil]; simp
  | c :: r, a, h => by
    simp only [List.all_cons, Bool.and_eq_true] at h
    have hc := isDg_iff.1 h.1
    have ih := valL_lt r (a * 10 + (c.toNat - 48)) h.2
    rw [valL_cons, List.length_cons, Nat.pow_succ']
    have : (a * 10 + (c.toNat - 48) + 1) ≤ (a + 1) * 10 := by omega
    calc _ < (a * 10 + (c.toNat - 48) + 1) * 10 ^ r.length := ih
      _ ≤ ((a + 1) * 10) * 10 ^ r.length := Nat.mul_le_mul_right _ this
      _ = (a + 1) * (10 * 10 ^ r.length) := by rw [Nat.mul_assoc]
theorem val4 {l : List UInt8} (h : l.all isDg = true) (hl : l.length ≤ 4) : valL 0 l < 10000 := by
  have h1 := valL_lt l 0 h
  have h2 : 10 ^ l.length ≤ 10 ^ 4 := Nat.pow_le_pow_right (by decide) hl
  have e : (10 : Nat) ^ 4 = 10000 := rfl
  omega
theorem atoi_pow {t : List UInt8} (h0 : body t ≠ []) (h4 : (body t).length ≤ 4) (hd : (body t).all isDg = true) : Lib.atoiAll t = .ok (if ngL t = true then -(valL 0 (body t) : Int) else (valL 0 (body t) : Int)) := by
  cases t with
  | nil => exact absurd rfl h0
  | cons c r =>
    have hv := val4 hd h4
    have e : (if c.toNat = 43 ∨ c.toNat = 45 then r else c :: r) = body (c :: r) := by
      rw [body_cons]
      have e1 : c.toNat = 43 ↔ c = 43 := ⟨fun h => UInt8.toNat_inj.1 h, fun h => by rw [h]; rfl⟩
      have e2 : c.toNat = 45 ↔ c = 45 := ⟨fun h => UInt8.toNat_inj.1 h, fun h => by rw [h]; rfl⟩
      simp only [e1, e2]
    have hm : Lib.parseMag (body (c :: r)) = .ok (valL 0 (body (c :: r))) := by
      unfold Lib.parseMag
      rw [if_neg h0, pu10 _ _ (by omega) hd, if_pos (by omega)]
    have hn : ngL (c :: r) = decide (c.toNat = 45) := by
      unfold ngL
      by_cases q : c = 45
      · subst q; rfl
      · rw [decide_eq_false (show ¬ c.toNat = 45 from fun z => q (UInt8.toNat_inj.1 z))]; simpa using q
    simp only [Lib.atoiAll]
    rw [e, hm, hn]
    generalize valL 0 (body (c :: r)) = v at *
    simp only
    by_cases q : c.toNat = 45
    · simp only [q, not_true, false_and, if_false, true_and, decide_true, if_true]
      rw [if_neg (by omega)]
    · simp only [q, not_false_eq_true, false_and, if_false, true_and, decide_false, Bool.false_eq_true]
      rw [if_neg (by omega)]
/-! ### scan -/
theorem body_len (l : List UInt8) : (body l).length ≤ l.length := by
  cases l with
  | nil => exact Nat.le_refl _
  | cons c r => rw [body_cons]; split <;> simp
def mL (l : List UInt8) : List UInt8 := (body l).takeWhile notED
def qL (l : List UInt8) : List UInt8 := (body l).dropWhile notED
theorem mq_len (l : List UInt8) : (mL l).length + (qL l).length = (body l).length := by
  unfold mL qL
  have := congrArg List.length (List.takeWhile_append_dropWhile (p := notED) (l := body l))
  rw [List.length_append] at this
  exact this
theorem wp_len (m : List UInt8) : (wL m).length + (pL m).length ≤ m.length := by
  unfold wL pL
  have := congrArg List.length (List.takeWhile_append_dropWhile (p := fun x : UInt8 => x != 46) (l := m))
  rw [List.length_append] at this
  rw [List.length_drop]; omega
/-- what scan gives of a mantissa and an exponent -/
def endS (neg : Bool) (m : List UInt8) (e : Int) : Bool × ByteArray × Int × Bool := (neg, ⟨(wL m ++ pL m).toArray⟩, e - ((pL m).length : Int), !(wL m ++ pL m).isEmpty && (wL m ++ pL m).all isDg)
def scanL (l : List UInt8) : Bool × ByteArray × Int × Bool :=
  match qL l with
  | [] => endS (ngL l) (mL l) 0
  | _ :: t => match powL t with
    | none => (ngL l, ⟨#[]⟩, 0, false)
    | some e => endS (ngL l) (mL l) e
theorem finish_scan (neg : Bool) (m : List UInt8) (e : Int) (hm : m.length ≤ 100000) (he : -100000 ≤ e ∧ e ≤ 100000) :
    ((strings_Cut.f ⟨m.toArray⟩ (⟨#[46]⟩ : ByteArray)).bind fun bt119 => (if bt119.1.size + bt119.2.1.size ≤ 9223372036854775807 then (if (bt119.1 ++ bt119.2.1).toList = ([] : List UInt8) then (some (neg, bt119.1 ++ bt119.2.1, wrap64 (e - (bt119.2.1.size : Int)), false)) else ((decimal_areDigits.f (bt119.1 ++ bt119.2.1)).bind fun t122 => (some (neg, bt119.1 ++ bt119.2.1, wrap64 (e - (bt119.2.1.size : Int)), t122)))) else (none))) = some (endS neg m e) := by
  have hw := wp_len m
  obtain ⟨c1, c2⟩ := cut_eq m
  unfold strings_Cut.f
  rw [ba_size, if_pos (by omega)]
  simp only [Option.bind_some, ba_list]
  rw [c1, c2]
  simp only [ba_size, ba_append, toL, ba_list]
  rw [if_pos (by omega), w64 (by omega) (by omega)]
  unfold endS
  by_cases h : wL m ++ pL m = []
  · rw [if_pos h, h]; rfl
  · rw [if_neg h, areDigits_eq _ (by rw [ba_size, List.length_append]; omega), ba_list]
    have : (wL m ++ pL m).isEmpty = false := by simpa using h
    rw [this]; rfl
theorem scan_impl (s : ByteArray) (k : Nat) (hk : 10 ≤ k) (hs : s.size ≤ 10000) : decimal_scan.f k s = some (scanL s.data.toList) := by
  have hz : s.size = s.data.toList.length := Lib.size_eq s
  obtain ⟨k, rfl⟩ : ∃ m, k = m + 1 + 1 + 1 := ⟨k - 3, by omega⟩
  have hb := body_len s.data.toList
  have start : decimal_scan.f (k + 1 + 1 + 1) s = decimal_scan.j0 (k + 1 + 1 + 1) ⟨(body s.data.toList).toArray⟩ (ngL s.data.toList) (⟨#[]⟩ : ByteArray) 0 := by
    unfold decimal_scan.f
    rw [tp_eq, tp_eq]
    simp only [Option.bind_some, toL, ba_list]
    rw [body_tp]
    by_cases h : tp 45 s.data.toList = s.data.toList
    · have hn : ngL s.data.toList = false := by have := (tp_same 45 s.data.toList).1 h; unfold ngL; simpa using this
      rw [if_pos h, if_pos h, h, hn, bne_self_eq_false]
    · have hn : ngL s.data.toList = true := by
        have : s.data.toList.head? = some 45 := Classical.byContradiction fun q => h ((tp_same 45 _).2 q)
        unfold ngL; rw [this]; rfl
      have hne : (tp 45 s.data.toList != s.data.toList) = true := bne_iff_ne.2 h
      rw [if_neg h, if_neg h, hn, hne]
  rw [start, decimal_scan.j0]
  unfold scanL
  have hlen := mq_len s.data.toList
  unfold strings_IndexAny.f
  rw [ba_size, if_pos ⟨rfl, by omega⟩]
  simp only [Option.bind_some, ba_list]
  rw [indexAny_split]
  have em : mL s.data.toList = (body s.data.toList).takeWhile notED := rfl
  have eq : qL s.data.toList = (body s.data.toList).dropWhile notED := rfl
  rw [← em, ← eq]
  have hcat : body s.data.toList = mL s.data.toList ++ qL s.data.toList := (List.takeWhile_append_dropWhile (p := notED)).symm
  cases hq : qL s.data.toList with
  | nil =>
    rw [hq, List.append_nil] at hcat
    rw [if_pos rfl, if_neg (by decide), hcat]
    exact finish_scan _ _ 0 (by omega) (by omega)
  | cons c t =>
    rw [hq] at hcat
    rw [hq, List.length_cons] at hlen
    have hb2 := body_len t
    rw [if_neg (List.cons_ne_nil c t), if_pos (by omega), if_pos (by omega), if_pos (by omega), w64 (by omega) (by omega), if_pos (by omega), if_pos (by omega)]
    have et : (ByteArray.mk (body s.data.toList).toArray).extract (((mL s.data.toList).length : Int) + 1).toNat (body s.data.toList).length = ⟨t.toArray⟩ := by
      apply ba_of
      rw [show (((mL s.data.toList).length : Int) + 1).toNat = (mL s.data.toList).length + 1 by omega]
      have := extract_drop (ByteArray.mk (body s.data.toList).toArray) ((mL s.data.toList).length + 1)
      rw [ba_size, ba_list] at this
      rw [this, hcat, ← List.drop_drop, List.drop_left]; rfl
    have em2 : (ByteArray.mk (body s.data.toList).toArray).extract 0 ((mL s.data.toList).length : Int).toNat = ⟨(mL s.data.toList).toArray⟩ := by
      apply ba_of
      rw [Int.toNat_natCast, extract_take, ba_list, hcat, List.take_left]
    rw [et, em2, tp_eq, tp_eq]
    simp only [Option.bind_some, toL, ba_list]
    have key : ∀ d : List UInt8, d = body t → decimal_scan.j1 (k + 1 + 1) ⟨(mL s.data.toList).toArray⟩ ⟨t.toArray⟩ ⟨d.toArray⟩ (ngL s.data.toList) (⟨#[]⟩ : ByteArray) 0 = some (match powL t with
        | none => (ngL s.data.toList, ⟨#[]⟩, 0, false)
        | some e => endS (ngL s.data.toList) (mL s.data.toList) e) := by
      rintro d rfl
      rw [decimal_scan.j1, toL, ba_list, ba_size]
      by_cases h0 : body t = []
      · have : powL t = none := by unfold powL; rw [if_pos (.inl h0)]
        rw [this, if_pos h0, decimal_scan.j2, if_pos rfl]
      · rw [if_neg h0]
        by_cases h4 : 4 < (body t).length
        · have : powL t = none := by unfold powL; rw [if_pos (.inr (.inl h4))]
          rw [this, if_pos (by omega), decimal_scan.j2, if_pos rfl]
        · rw [if_neg (by omega), areDigits_eq _ (by rw [ba_size]; omega), ba_list, Option.bind_some, decimal_scan.j2]
          by_cases hd : (body t).all isDg = true
          · have hv := val4 hd (by omega)
            have hp : powL t = some (if ngL t = true then -(valL 0 (body t) : Int) else (valL 0 (body t) : Int)) := by
              unfold powL; rw [if_neg (by rintro (q | q | q); exact h0 q; exact h4 q; exact q hd)]
            rw [hd, if_neg (by decide), hp]
            unfold strconv_Atoi.f
            rw [ba_list, atoi_pow h0 (by omega) hd]
            simp only
            rw [if_pos (by rw [ba_size]; omega), Option.bind_some]
            exact finish_scan _ _ _ (by omega) (by split <;> omega)
          · have : powL t = none := by unfold powL; rw [if_pos (.inr (.inr hd))]
            rw [Bool.eq_false_iff.2 hd, this, if_pos (by rfl)]
    rw [body_tp] at key
    by_cases h : tp 45 t = t
    · rw [if_pos h] at key ⊢
      exact key _ rfl
    · rw [if_neg h] at key ⊢
      exact key _ rfl
/-- what a string is read as -/
def fail7 : Bool × ByteArray × Int × Int := (false, ⟨#[]⟩, 0, 7)
def finL (neg : Bool) (d : List UInt8) (e : Int) : Bool × ByteArray × Int × Int :=
  if 800 < (canP neg d e).2.1.length then (false, ⟨#[]⟩, 0, 8) else if -1200 ≤ (canP neg d e).2.2 ∧ (canP neg d e).2.2 ≤ 1200 then ((canP neg d e).1, ⟨(canP neg d e).2.1.toArray⟩, (canP neg d e).2.2, 0) else (false, ⟨#[]⟩, 0, 2)
def parseL (l : List UInt8) : Bool × ByteArray × Int × Int :=
  match (match qL l with | [] => some 0 | _ :: t => powL t) with
  | none => fail7
  | some e => if wL (mL l) ++ pL (mL l) ≠ [] ∧ (wL (mL l) ++ pL (mL l)).all isDg = true then finL (ngL l) (wL (mL l) ++ pL (mL l)) (e - ((pL (mL l)).length : Int)) else fail7
theorem powL_range {t : List UInt8} {e : Int} (h : powL t = some e) : -10000 ≤ e ∧ e ≤ 10000 := by
  unfold powL at h
  split at h
  · cases h
  · rename_i q
    have q1 : ¬ 4 < (body t).length := fun z => q (.inr (.inl z))
    have q2 : (body t).all isDg = true := Classical.byContradiction fun z => q (.inr (.inr z))
    have hv := val4 q2 (by omega)
    have := Option.some.inj h
    rw [← this]; split <;> omega
theorem parse_end (neg : Bool) (m : List UInt8) (e : Int) (k : Nat) (hk : 10 ≤ k) (hm : m.length ≤ 1000) (he : -10000 ≤ e ∧ e ≤ 10000) :
    (if (endS neg m e).2.2.2 = true then ((decimal_again.f (endS neg m e).1 (endS neg m e).2.1 (endS neg m e).2.2.1).bind fun bt140 => ((decimal_when.f (decide ((bt140.2.1.size : Int) > 800)) 8).bind fun t143 => ((decimal_exponentErr.f bt140.2.2).bind fun t144 => ((decimal_sooner.f k (([t143, t144] : List Int))).bind fun t148 => (if t148 = 0 then (some (bt140.1, bt140.2.1, bt140.2.2, 0)) else (some (false, (⟨#[]⟩ : ByteArray), 0, t148))))))) else (some (false, (⟨#[]⟩ : ByteArray), 0, 7))) =
      some (if wL m ++ pL m ≠ [] ∧ (wL m ++ pL m).all isDg = true then finL neg (wL m ++ pL m) (e - ((pL m).length : Int)) else fail7) := by
  have hw := wp_len m
  unfold endS
  simp only
  by_cases h : wL m ++ pL m ≠ [] ∧ (wL m ++ pL m).all isDg = true
  · have hb : (!(wL m ++ pL m).isEmpty && (wL m ++ pL m).all isDg) = true := by
      rw [h.2, Bool.and_true]; simpa using h.1
    rw [if_pos hb, if_pos h, again_impl _ _ _ (by rw [ba_size, List.length_append]; omega) (by omega) (by omega), ba_list]
    simp only [Option.bind_some, ba_size, when_eq, exponentErr_eq]
    rw [sooner_eq _ (by simp) k (by simp; omega)]
    simp only [Option.bind_some, firstE]
    unfold finL
    generalize canP neg (wL m ++ pL m) (e - ((pL m).length : Int)) = c
    by_cases h8 : 800 < c.2.1.length
    · rw [if_pos h8, decide_eq_true (by omega)]; rfl
    · rw [if_neg h8, decide_eq_false (by omega)]
      by_cases hr : -1200 ≤ c.2.2 ∧ c.2.2 ≤ 1200
      · rw [if_pos hr, if_pos hr]; rfl
      · rw [if_neg hr, if_neg hr]; rfl
  · have hb : (!(wL m ++ pL m).isEmpty && (wL m ++ pL m).all isDg) = false := by
      apply Bool.eq_false_iff.2
      intro q
      rw [Bool.and_eq_true] at q
      exact h ⟨by simpa using q.1, q.2⟩
    rw [hb, if_neg (by decide), if_neg h]; rfl
theorem parse_impl (s : ByteArray) (k : Nat) (hk : 10 ≤ k) : decimal_ParseDecimal.f k s = some (if 900 < s.size then (false, ⟨#[]⟩, 0, 8) else parseL s.data.toList) := by
  have hz : s.size = s.data.toList.length := Lib.size_eq s
  unfold decimal_ParseDecimal.f
  by_cases h : 900 < s.size
  · rw [if_pos (by omega), if_pos h]
  · rw [if_neg (by omega), if_neg h, scan_impl s k hk (by omega), Option.bind_some]
    have hb := body_len s.data.toList
    have hlen := mq_len s.data.toList
    unfold scanL parseL
    cases hq : qL s.data.toList with
    | nil => exact parse_end _ _ 0 k hk (by omega) (by omega)
    | cons c t =>
      simp only
      cases hp : powL t with
      | none => simp only; rw [if_neg (by decide)]; rfl
      | some e => exact parse_end _ _ e k hk (by omega) (powL_range hp)
/-! ### the reference reads a string -/
theorem bt_mk (l : List UInt8) (i : Nat) (c : UInt8) (r : List UInt8) (h : l.drop i = c :: r) : bt ⟨l.toArray⟩ (i : Int) = (c.toNat : Int) ∧ i < l.length := by
  have hi : i < l.length := by
    apply Classical.byContradiction
    intro q
    rw [List.drop_eq_nil_of_le (by omega)] at h
    cases h
  have h2 : i < (ByteArray.mk l.toArray).data.toList.length := by rw [ba_list]; exact hi
  refine ⟨?_, hi⟩
  rw [bt_list _ i h2]
  rw [List.drop_eq_getElem_cons hi] at h
  have := List.head_eq_of_cons_eq h
  simp [← this]
def bd (i acc : Nat) : Prop := (i = 0 → acc = 0) ∧ (i = 1 → acc < 10) ∧ (i = 2 → acc < 100) ∧ (i = 3 → acc < 1000) ∧ (i = 4 → acc < 10000)
theorem bd_lt {i acc : Nat} (h : bd i acc) (hi : i ≤ 4) : acc < 10000 := by unfold bd at h; omega
theorem bd_step {i acc d : Nat} (h : bd i acc) (hi : i ≤ 3) (hd : d ≤ 9) : bd (i + 1) (acc * 10 + d) := by unfold bd at *; omega
theorem drop_succ_of {l r : List UInt8} {c : UInt8} {i : Nat} (h : l.drop i = c :: r) : l.drop (i + 1) = r := by
  have h2 := congrArg List.tail h
  rw [List.tail_drop] at h2
  exact h2
theorem powLoop (neg : Bool) (b : List UInt8) : ∀ (r : List UInt8) (i acc k : Nat), b.drop i = r → i ≤ b.length → b.length ≤ 4 → bd i acc → r.length < k →
    formularyref09_power.l0 k ⟨b.toArray⟩ neg (acc : Int) (i : Int) = some (if r.all isDg = true then (if neg = true then -(valL acc r : Int) else (valL acc r : Int), true) else (0, false))
  | [], i, acc, k, hr, hi, hb, ha, hk => by
    obtain ⟨k, rfl⟩ : ∃ m, k = m + 1 := ⟨k - 1, by omega⟩
    have hn : i = b.length := by
      have := congrArg List.length hr
      rw [List.length_drop] at this
      simp at this
      omega
    have ha2 := bd_lt ha (by omega)
    have hall : ([] : List UInt8).all isDg = true := rfl
    rw [formularyref09_power.l0, ba_size, if_neg (by omega), if_pos hall, valL_nil, w64 (x := -(acc : Int)) (by omega) (by omega)]
    cases neg
    · rfl
    · rfl
  | c :: r, i, acc, k, hr, hi, hb, ha, hk => by
    rw [List.length_cons] at hk
    obtain ⟨k, rfl⟩ : ∃ m, k = m + 1 := ⟨k - 1, by omega⟩
    obtain ⟨hbt, hlt⟩ := bt_mk b i c r hr
    have ha2 := bd_lt ha (by omega)
    rw [formularyref09_power.l0, ba_size, if_pos (by omega), if_pos (by omega), hbt, List.all_cons]
    by_cases hd : isDg c = true
    · have hc := isDg_iff.1 hd
      have ed : ((c.toNat : Int) - 48) % 256 = ((c.toNat - 48 : Nat) : Int) := by omega
      have hd9 : c.toNat - 48 ≤ 9 := by omega
      have e1 : wrap64 (wrap64 (10 * (acc : Int)) + ((c.toNat : Int) - 48) % 256) = ((acc * 10 + (c.toNat - 48) : Nat) : Int) := by
        rw [ed]
        generalize c.toNat - 48 = d at *
        rw [w64 (x := 10 * (acc : Int)) (by omega) (by omega), w64 (by omega) (by omega)]; omega
      have ha3 := bd_step (d := c.toNat - 48) ha (by omega) (by omega)
      have e2 : wrap64 ((i : Int) + 1) = ((i + 1 : Nat) : Int) := by rw [w64 (by omega) (by omega)]; rfl
      have h6 : i + 1 ≤ b.length := hlt
      have h7 : r.length < k := Nat.lt_of_succ_lt_succ hk
      have ih := powLoop neg b r (i + 1) (acc * 10 + (c.toNat - 48)) k (drop_succ_of hr) h6 hb ha3 h7
      rw [if_neg (by omega), if_neg (by omega), e1, e2, ih, hd, valL_cons, Bool.true_and]
    · have hc : c.toNat < 48 ∨ 57 < c.toNat := by
        have : ¬ (48 ≤ c.toNat ∧ c.toNat ≤ 57) := fun q => hd (isDg_iff.2 q)
        omega
      have hall : ¬ (isDg c && r.all isDg) = true := by rw [Bool.eq_false_iff.2 hd]; simp
      rw [if_neg hall]
      by_cases h1 : (c.toNat : Int) < 48
      · rw [if_pos h1]
      · rw [if_neg h1, if_pos (by omega)]
theorem power_ref (t : List UInt8) (k : Nat) (hk : 20 ≤ k) (ht : t.length ≤ 10000) : formularyref09_power.f k ⟨t.toArray⟩ = some (match powL t with | none => (0, false) | some v => (v, true)) := by
  obtain ⟨k, rfl⟩ : ∃ m, k = m + 1 + 1 := ⟨k - 2, by omega⟩
  have h1 : formularyref09_power.f (k + 1 + 1) ⟨t.toArray⟩ = formularyref09_power.j1 (k + 1) ⟨(body t).toArray⟩ (ngL t) := by
    unfold formularyref09_power.f
    cases t with
    | nil => rw [ba_size, if_neg (by decide), formularyref09_power.j0, if_neg (by decide)]; rfl
    | cons c r =>
      obtain ⟨hbt, _⟩ := bt_mk (c :: r) 0 c r rfl
      have hbt' : bt ⟨(c :: r).toArray⟩ 0 = (c.toNat : Int) := hbt
      have hx : (ByteArray.mk (c :: r).toArray).extract 1 (c :: r).length = ⟨r.toArray⟩ := by
        apply ba_of
        have := extract_drop (ByteArray.mk (c :: r).toArray) 1
        rw [ba_size, ba_list] at this
        rw [this]; rfl
      rw [ba_size, if_pos (by rw [List.length_cons]; omega), if_pos (by rw [List.length_cons]; omega), hbt']
      by_cases h43 : c = 43
      · subst h43
        rw [if_pos (by decide), formularyref09_power.j0, if_pos rfl, ba_size, if_pos (by rw [List.length_cons]; omega), if_pos (by rw [List.length_cons]; omega), hbt', hx]; rfl
      · rw [if_neg (fun q => h43 (UInt8.toNat_inj.1 (show c.toNat = 43 by omega)))]
        by_cases h45 : c = 45
        · subst h45
          rw [formularyref09_power.j0, if_pos (by decide), ba_size, if_pos (by rw [List.length_cons]; omega), if_pos (by rw [List.length_cons]; omega), hbt', hx]; rfl
        · have h2 : ((c.toNat : Int) == 45) = false := beq_eq_false_iff_ne.2 (fun q => h45 (UInt8.toNat_inj.1 (show c.toNat = 45 by omega)))
          have h3 : ngL (c :: r) = false := by unfold ngL; simpa using h45
          rw [h2, formularyref09_power.j0, if_neg (by decide), body_cons, if_neg (by rintro (q | q); exact h43 q; exact h45 q), h3]
  rw [h1, formularyref09_power.j1, ba_size, within_eq, Option.bind_some]
  unfold powL
  by_cases h0 : body t = []
  · rw [if_pos (show body t = [] ∨ 4 < (body t).length ∨ (body t).all isDg ≠ true from .inl h0), h0, if_neg (by decide)]
  · have hp := List.length_pos_iff.2 h0
    by_cases h4 : 4 < (body t).length
    · have h9 : ¬ (decide ((1 : Int) ≤ ((body t).length : Int)) && decide (((body t).length : Int) ≤ 4)) = true := by rw [Bool.and_eq_true]; rintro ⟨_, q⟩; have := of_decide_eq_true q; omega
      rw [if_pos (show body t = [] ∨ 4 < (body t).length ∨ (body t).all isDg ≠ true from .inr (.inl h4)), if_neg h9]
    · have h9 : (decide ((1 : Int) ≤ ((body t).length : Int)) && decide (((body t).length : Int) ≤ 4)) = true := by rw [decide_eq_true (by omega), decide_eq_true (by omega)]; rfl
      rw [if_pos h9]
      have := powLoop (ngL t) (body t) (body t) 0 0 k rfl (by omega) (by omega) ⟨fun _ => rfl, by omega, by omega, by omega, by omega⟩ (by omega)
      rw [show formularyref09_power.l0 k ⟨(body t).toArray⟩ (ngL t) 0 0 = _ from this]
      by_cases hd : (body t).all isDg = true
      · rw [if_pos hd, if_neg (show ¬ (body t = [] ∨ 4 < (body t).length ∨ (body t).all isDg ≠ true) from fun q => q.elim h0 fun q => q.elim h4 fun q => q hd)]
      · rw [if_neg hd, if_pos (show body t = [] ∨ 4 < (body t).length ∨ (body t).all isDg ≠ true from .inr (.inr hd))]
def mant : Bool → List UInt8 → List UInt8 × Nat × List UInt8
  | _, [] => ([], 0, [])
  | p, c :: r => if isDg c = true then (c :: (mant p r).1, (if p = true then 1 else 0) + (mant p r).2.1, (mant p r).2.2) else if c = 46 ∧ p = false then mant true r else ([], 0, c :: r)
def contL (neg : Bool) (d : List UInt8) (n : Nat) (q : List UInt8) : Bool × ByteArray × Int × Int :=
  if d = [] then fail7 else match q with
    | [] => finL neg d (0 - (n : Int))
    | c :: t => if c = 69 ∨ c = 68 then (match powL t with | none => fail7 | some v => finL neg d (v - (n : Int))) else fail7
theorem j5_ref (neg : Bool) (d : List UInt8) (n : Nat) (e : Int) (k : Nat) (hk : 1100 ≤ k) (hd : d.length ≤ 1000) (hn : n ≤ 1000) (he : -10000 ≤ e ∧ e ≤ 10000) :
    formularyref09_Parse.j5 (k + 1) neg ⟨d.toArray⟩ (n : Int) e false ⟨#[]⟩ 0 = some (finL neg d (e - (n : Int))) := by
  rw [formularyref09_Parse.j5, w64 (by omega) (by omega), canon_ref neg _ _ k (by rw [ba_size]; omega) (by rw [ba_size]; omega) (by omega) (by omega), ba_list]
  simp only [Option.bind_some, ba_size, within_eq]
  unfold finL
  generalize canP neg d (e - (n : Int)) = c
  by_cases h8 : 800 < c.2.1.length
  · rw [if_pos (by omega), if_pos h8]
  · rw [if_neg (by omega), if_neg h8]
    by_cases hr : -1200 ≤ c.2.2 ∧ c.2.2 ≤ 1200
    · rw [if_pos hr, if_pos (by simpa using hr)]
    · rw [if_neg hr, if_neg (by simpa using hr)]
theorem stop_ref (neg : Bool) (l acc : List UInt8) (n : Nat) (p : Bool) (i k : Nat) (hk : 1150 ≤ k) (hl : l.length ≤ 1000) (hi : i ≤ l.length) (ha : acc.length ≤ i) (hn : n ≤ i) :
    formularyref09_Parse.j3 (k + 1) ⟨l.toArray⟩ neg ⟨acc.toArray⟩ (n : Int) p (i : Int) false false ⟨#[]⟩ 0 = some (contL neg acc n (l.drop i)) := by
  obtain ⟨k, rfl⟩ : ∃ m, k = m + 1 + 1 := ⟨k - 2, by omega⟩
  rw [formularyref09_Parse.j3, if_neg (by decide), toL, ba_list, ba_size]
  unfold contL
  by_cases h0 : acc = []
  · rw [if_pos h0, if_pos h0]; rfl
  · rw [if_neg h0, if_neg h0]
    cases hq : l.drop i with
    | nil =>
      have : l.length ≤ i := by
        have := congrArg List.length hq
        rw [List.length_drop] at this
        simp at this; omega
      rw [if_neg (by omega), j5_ref neg acc n 0 (k + 1) (by omega) (by omega) (by omega) (by omega)]
    | cons c t =>
      obtain ⟨hbt, hlt⟩ := bt_mk l i c t hq
      have htl : t.length ≤ 1000 := by
        have := congrArg List.length hq
        rw [List.length_drop] at this
        simp at this; omega
      rw [if_pos (by omega), if_pos (by omega), hbt]
      have e2 : wrap64 ((i : Int) + 1) = ((i + 1 : Nat) : Int) := by rw [w64 (by omega) (by omega)]; rfl
      have hx : (ByteArray.mk l.toArray).extract (((i + 1 : Nat) : Int)).toNat l.length = ⟨t.toArray⟩ := by
        apply ba_of
        have := extract_drop (ByteArray.mk l.toArray) (i + 1)
        rw [ba_size, ba_list] at this
        rw [Int.toNat_natCast, this, drop_succ_of hq]
      have go : formularyref09_Parse.j4 (k + 1 + 1) ⟨l.toArray⟩ neg ⟨acc.toArray⟩ (n : Int) (i : Int) false false ⟨#[]⟩ 0 = some (match powL t with | none => fail7 | some v => finL neg acc (v - (n : Int))) := by
        rw [formularyref09_Parse.j4, if_neg (by decide), e2, if_pos (by omega), ba_size, if_pos (by omega), hx, power_ref t (k + 1) (by omega) (by omega)]
        cases hp : powL t with
        | none => simp only [Option.bind_some]; rw [if_neg (by decide)]; rfl
        | some v =>
          simp only [Option.bind_some, if_true]
          rw [j5_ref neg acc n v k (by omega) (by omega) (by omega) (powL_range hp)]
      by_cases h69 : c = 69
      · subst h69
        rw [if_pos (by decide)]
        exact go
      · rw [if_neg (fun q => h69 (UInt8.toNat_inj.1 (show c.toNat = 69 by omega)))]
        by_cases h68 : c = 68
        · subst h68
          have hb : (((68 : UInt8).toNat : Int) != 68) = false := by decide
          rw [hb]
          exact go
        · have hb : ((c.toNat : Int) != 68) = true := bne_iff_ne.2 (fun q => h68 (UInt8.toNat_inj.1 (show c.toNat = 68 by omega)))
          rw [hb]
          have hno : ¬ (c = 69 ∨ c = 68) := fun q => q.elim h69 h68
          simp only [hno, if_false]
          rw [formularyref09_Parse.j4, if_pos rfl]; rfl
theorem parseLoop (neg : Bool) (l : List UInt8) (hl : l.length ≤ 1000) : ∀ (r acc : List UInt8) (n : Nat) (p : Bool) (i k : Nat), l.drop i = r → i ≤ l.length → acc.length ≤ i → n ≤ i → 2 * r.length + 1200 ≤ k →
    formularyref09_Parse.l0 k ⟨l.toArray⟩ neg ⟨acc.toArray⟩ (n : Int) p (i : Int) false ⟨#[]⟩ 0 = some (contL neg (acc ++ (mant p r).1) (n + (mant p r).2.1) (mant p r).2.2)
  | [], acc, n, p, i, k, hr, hi, ha, hn, hk => by
    obtain ⟨k, rfl⟩ : ∃ m, k = m + 1 + 1 := ⟨k - 2, by omega⟩
    have : l.length ≤ i := by
      have := congrArg List.length hr
      rw [List.length_drop] at this
      simp at this; omega
    rw [formularyref09_Parse.l0, ba_size, if_neg (by omega), stop_ref neg l acc n p i k (by omega) hl hi ha hn, hr]
    simp [mant]
  | c :: r, acc, n, p, i, k, hr, hi, ha, hn, hk => by
    rw [List.length_cons] at hk
    obtain ⟨k, rfl⟩ : ∃ m, k = m + 1 + 1 := ⟨k - 2, by omega⟩
    obtain ⟨hbt, hlt⟩ := bt_mk l i c r hr
    have e2 : wrap64 ((i : Int) + 1) = ((i + 1 : Nat) : Int) := by rw [w64 (by omega) (by omega)]; rfl
    have hr2 : l.drop (i + 1) = r := drop_succ_of hr
    have hst := stop_ref neg l acc n p i k (by omega) hl hi ha hn
    rw [hr] at hst
    rw [formularyref09_Parse.l0, ba_size, if_pos (by omega), if_pos (by omega), hbt]
    by_cases hd : isDg c = true
    · have hc := isDg_iff.1 hd
      have hx : (ByteArray.mk l.toArray).extract ((i : Nat) : Int).toNat (((i + 1 : Nat) : Int)).toNat = ⟨[c].toArray⟩ := by
        apply ba_of
        rw [Int.toNat_natCast, Int.toNat_natCast]
        have : (ByteArray.mk l.toArray).extract i (i + 1) = ((ByteArray.mk l.toArray).extract i (i + 1)) := rfl
        have h2 := Lib.extract_toList (ByteArray.mk l.toArray) i (i + 1)
        rw [← toL, h2, ba_list, hr, show i + 1 - i = 1 by omega]; rfl
      rw [if_pos (by omega), if_pos (by omega), formularyref09_Parse.j3, if_pos rfl, if_pos (by omega), ba_size, if_pos (by omega), hbt, if_neg (by omega), e2, if_pos (by omega), if_pos (by omega), hx, bit_eq]
      simp only [ba_size, ba_append, Option.bind_some]
      rw [if_pos (by simp; omega)]
      have e3 : wrap64 ((n : Int) + (if p = true then 1 else 0)) = ((n + (if p = true then 1 else 0) : Nat) : Int) := by
        rw [w64 (by split <;> omega) (by split <;> omega)]; split <;> simp
      rw [e3, parseLoop neg l hl r (acc ++ [c]) (n + (if p = true then 1 else 0)) p (i + 1) k hr2 (by omega) (by simp; omega) (by split <;> omega) (by omega)]
      rw [mant, if_pos hd]
      simp only [List.append_assoc, List.cons_append, List.nil_append, Nat.add_assoc]
    · have hc : c.toNat < 48 ∨ 57 < c.toNat := by
        have : ¬ (48 ≤ c.toNat ∧ c.toNat ≤ 57) := fun q => hd (isDg_iff.2 q)
        omega
      have hstep : formularyref09_Parse.j3 (k + 1) ⟨l.toArray⟩ neg ⟨acc.toArray⟩ (n : Int) p (i : Int) (if c = 46 then !p else false) false ⟨#[]⟩ 0 = some (contL neg (acc ++ (mant p (c :: r)).1) (n + (mant p (c :: r)).2.1) (mant p (c :: r)).2.2) := by
        rw [mant, if_neg hd]
        by_cases h46 : c = 46
        · rw [if_pos h46]
          cases p
          · rw [if_pos ⟨h46, rfl⟩, formularyref09_Parse.j3, if_pos (by rfl), if_pos (by omega), ba_size, if_pos (by omega), hbt, if_pos (by rw [h46]; rfl), e2]
            exact parseLoop neg l hl r acc n true (i + 1) k hr2 (by omega) (by omega) (by omega) (by omega)
          · rw [if_neg (by rintro ⟨_, q⟩; cases q)]
            simp only [Bool.not_true, List.append_nil, Nat.add_zero]
            exact hst
        · rw [if_neg h46, if_neg (by rintro ⟨q, _⟩; exact h46 q)]
          simp only [List.append_nil, Nat.add_zero]
          exact hst
      by_cases h46 : c = 46
      · rw [if_pos h46] at hstep
        have hb : (c.toNat : Int) = 46 := by rw [h46]; rfl
        rw [if_neg (by omega), if_pos hb, hstep]
      · rw [if_neg h46] at hstep
        have hb : ¬ (c.toNat : Int) = 46 := fun q => h46 (UInt8.toNat_inj.1 (show c.toNat = 46 by omega))
        by_cases h1 : (c.toNat : Int) ≥ 48
        · rw [if_pos h1, if_neg (by omega), if_neg hb, hstep]
        · rw [if_neg h1, if_neg hb, hstep]
theorem parse_ref0 (s : ByteArray) (k : Nat) (hk : 5000 ≤ k) : formularyref09_Parse.f k s = some (if 900 < s.size then (false, ⟨#[]⟩, 0, 8) else contL (ngL s.data.toList) (mant false (body s.data.toList)).1 (mant false (body s.data.toList)).2.1 (mant false (body s.data.toList)).2.2) := by
  have hz : s.size = s.data.toList.length := Lib.size_eq s
  obtain ⟨k, rfl⟩ : ∃ m, k = m + 1 + 1 := ⟨k - 2, by omega⟩
  unfold formularyref09_Parse.f
  by_cases h9 : 900 < s.size
  · rw [if_pos (by omega), if_pos h9]
  · rw [if_neg (by omega), if_neg h9]
    have hb := body_len s.data.toList
    have fin : formularyref09_Parse.j1 (k + 1) ⟨(body s.data.toList).toArray⟩ (ngL s.data.toList) false ⟨#[]⟩ 0 = some (contL (ngL s.data.toList) (mant false (body s.data.toList)).1 (mant false (body s.data.toList)).2.1 (mant false (body s.data.toList)).2.2) := by
      rw [formularyref09_Parse.j1]
      have := parseLoop (ngL s.data.toList) (body s.data.toList) (by omega) (body s.data.toList) [] 0 false 0 k rfl (by omega) (by simp) (by omega) (by omega)
      rw [List.nil_append, Nat.zero_add] at this
      exact this
    rw [← fin]
    have es : s = ⟨s.data.toList.toArray⟩ := ba_of rfl
    rw [hz]
    generalize s.data.toList = t at *
    subst es
    cases t with
    | nil => rw [if_neg (by decide), formularyref09_Parse.j0, if_neg (by decide)]; rfl
    | cons c r =>
      obtain ⟨hbt, _⟩ := bt_mk (c :: r) 0 c r rfl
      have hbt' : bt ⟨(c :: r).toArray⟩ 0 = (c.toNat : Int) := hbt
      have hx : (ByteArray.mk (c :: r).toArray).extract 1 (c :: r).length = ⟨r.toArray⟩ := by
        apply ba_of
        have := extract_drop (ByteArray.mk (c :: r).toArray) 1
        rw [ba_size, ba_list] at this
        rw [this]; rfl
      rw [if_pos (by rw [List.length_cons]; omega), if_pos (by rw [List.length_cons]; omega), hbt']
      by_cases h43 : c = 43
      · subst h43
        rw [if_pos (by decide), formularyref09_Parse.j0, if_pos rfl, ba_size, if_pos (by rw [List.length_cons]; omega), if_pos (by rw [List.length_cons]; omega), hbt', hx]; rfl
      · rw [if_neg (fun q => h43 (UInt8.toNat_inj.1 (show c.toNat = 43 by omega)))]
        by_cases h45 : c = 45
        · subst h45
          rw [formularyref09_Parse.j0, if_pos (by decide), ba_size, if_pos (by rw [List.length_cons]; omega), if_pos (by rw [List.length_cons]; omega), hbt', hx]; rfl
        · have h2 : ((c.toNat : Int) == 45) = false := beq_eq_false_iff_ne.2 (fun q => h45 (UInt8.toNat_inj.1 (show c.toNat = 45 by omega)))
          have h3 : ngL (c :: r) = false := by unfold ngL; simpa using h45
          rw [h2, formularyref09_Parse.j0, if_neg (by decide), body_cons, if_neg (by rintro (q | q); exact h43 q; exact h45 q), h3]
/-! ### DecimalStrings -/
theorem notED_iff {c : UInt8} : notED c = true ↔ ¬ (c = 69 ∨ c = 68) := by
  unfold notED
  simp
theorem not46 {c : UInt8} (h : isDg c = true) : ¬ c = 46 := fun q => by rw [q] at h; exact absurd h (by decide)
theorem mantT : ∀ r : List UInt8, (r.takeWhile notED).all isDg = true → mant true r = (r.takeWhile notED, (r.takeWhile notED).length, r.dropWhile notED)
  | [], _ => rfl
  | c :: r, h => by
    rw [List.takeWhile_cons] at h
    rw [mant, List.takeWhile_cons, List.dropWhile_cons]
    by_cases hn : notED c = true
    · rw [if_pos hn, List.all_cons, Bool.and_eq_true] at h
      rw [if_pos h.1, if_pos hn, if_pos hn, mantT r h.2, List.length_cons, if_pos rfl, Nat.add_comm 1]
    · have hd : ¬ isDg c = true := fun q => hn (dg_notED q)
      rw [if_neg hd, if_neg (by rintro ⟨_, q⟩; cases q), if_neg hn, if_neg hn]; rfl
theorem mantT' : ∀ r : List UInt8, ¬ (r.takeWhile notED).all isDg = true → ∃ c q, (mant true r).2.2 = c :: q ∧ ¬ (c = 69 ∨ c = 68)
  | [], h => absurd rfl h
  | c :: r, h => by
    rw [List.takeWhile_cons] at h
    rw [mant]
    by_cases hn : notED c = true
    · rw [if_pos hn, List.all_cons] at h
      by_cases hd : isDg c = true
      · rw [if_pos hd]
        exact mantT' r (fun q => h (by rw [hd, q]; rfl))
      · rw [if_neg hd, if_neg (by rintro ⟨_, q⟩; cases q)]
        exact ⟨c, r, rfl, notED_iff.1 hn⟩
    · rw [if_neg hn] at h; exact absurd rfl h
theorem wL_cons (c : UInt8) (m : List UInt8) (h : ¬ c = 46) : wL (c :: m) = c :: wL m ∧ pL (c :: m) = pL m := by
  unfold wL pL
  have hb : (c != 46) = true := bne_iff_ne.2 h
  rw [List.takeWhile_cons, List.dropWhile_cons, if_pos hb, if_pos hb]
  exact ⟨rfl, rfl⟩
theorem wL_dot (m : List UInt8) : wL (46 :: m) = [] ∧ pL (46 :: m) = m := ⟨rfl, rfl⟩
theorem mantF : ∀ r : List UInt8, (wL (r.takeWhile notED) ++ pL (r.takeWhile notED)).all isDg = true → mant false r = (wL (r.takeWhile notED) ++ pL (r.takeWhile notED), (pL (r.takeWhile notED)).length, r.dropWhile notED)
  | [], _ => rfl
  | c :: r, h => by
    rw [List.takeWhile_cons] at h
    rw [mant, List.takeWhile_cons, List.dropWhile_cons]
    by_cases hn : notED c = true
    · rw [if_pos hn] at h
      rw [if_pos hn, if_pos hn]
      by_cases h46 : c = 46
      · subst h46
        obtain ⟨e1, e2⟩ := wL_dot (r.takeWhile notED)
        rw [e1, e2, List.nil_append] at h ⊢
        rw [if_neg (by decide), if_pos ⟨rfl, rfl⟩, mantT r h]
      · obtain ⟨e1, e2⟩ := wL_cons c (r.takeWhile notED) h46
        rw [e1, e2, List.cons_append, List.all_cons, Bool.and_eq_true] at h
        rw [e1, e2, List.cons_append, if_pos h.1, mantF r h.2]
        simp
    · have hd : ¬ isDg c = true := fun q => hn (dg_notED q)
      have h46 : ¬ c = 46 := fun q => hn (by rw [q]; decide)
      rw [if_neg hd, if_neg (fun q => h46 q.1), if_neg hn, if_neg hn]; rfl
theorem mantF' : ∀ r : List UInt8, ¬ (wL (r.takeWhile notED) ++ pL (r.takeWhile notED)).all isDg = true → ∃ c q, (mant false r).2.2 = c :: q ∧ ¬ (c = 69 ∨ c = 68)
  | [], h => absurd rfl h
  | c :: r, h => by
    rw [List.takeWhile_cons] at h
    rw [mant]
    by_cases hn : notED c = true
    · rw [if_pos hn] at h
      by_cases h46 : c = 46
      · subst h46
        obtain ⟨e1, e2⟩ := wL_dot (r.takeWhile notED)
        rw [e1, e2, List.nil_append] at h
        rw [if_neg (by decide), if_pos ⟨rfl, rfl⟩]
        exact mantT' r h
      · obtain ⟨e1, e2⟩ := wL_cons c (r.takeWhile notED) h46
        rw [e1, e2, List.cons_append, List.all_cons] at h
        by_cases hd : isDg c = true
        · rw [if_pos hd]
          exact mantF' r (fun q => h (by rw [hd, q]; rfl))
        · rw [if_neg hd, if_neg (fun q => h46 q.1)]
          exact ⟨c, r, rfl, notED_iff.1 hn⟩
    · rw [if_neg hn] at h; exact absurd rfl h
theorem parse_eq (l : List UInt8) : contL (ngL l) (mant false (body l)).1 (mant false (body l)).2.1 (mant false (body l)).2.2 = parseL l := by
  have em : mL l = (body l).takeWhile notED := rfl
  have eq : qL l = (body l).dropWhile notED := rfl
  unfold parseL
  rw [em]
  by_cases hd : (wL ((body l).takeWhile notED) ++ pL ((body l).takeWhile notED)).all isDg = true
  · rw [mantF (body l) hd]
    simp only
    unfold contL
    by_cases h0 : wL ((body l).takeWhile notED) ++ pL ((body l).takeWhile notED) = []
    · rw [if_pos h0]
      split
      · rfl
      · rw [if_neg (fun q => q.1 h0)]
    · rw [if_neg h0, ← eq]
      cases hq : qL l with
      | nil => simp only; rw [if_pos ⟨h0, hd⟩]
      | cons c t =>
        have hc : c = 69 ∨ c = 68 := by
          rw [eq] at hq
          have := dw_head hq
          apply Classical.byContradiction
          intro q
          rw [notED_iff.2 q] at this
          cases this
        simp only
        rw [if_pos hc]
        cases powL t with
        | none => rfl
        | some v => simp only; rw [if_pos ⟨h0, hd⟩]
  · obtain ⟨c, q, hm, hc⟩ := mantF' (body l) hd
    have hL : contL (ngL l) (mant false (body l)).1 (mant false (body l)).2.1 (mant false (body l)).2.2 = fail7 := by
      rw [hm]
      unfold contL
      split
      · rfl
      · simp only; rw [if_neg hc]
    rw [hL]
    split
    · rfl
    · rw [if_neg (fun q => hd q.2)]
/-- the string of a number -/
def fmtL (neg : Bool) (d : List UInt8) (e : Int) : List UInt8 := (if neg = true then 45 :: d else d) ++ (if e = 0 then [] else 69 :: Lib.itoa e)
theorem isI_small {e : Int} (h : -1200 ≤ e ∧ e ≤ 1200) : isI e = true := isI_iff.2 (by omega)
theorem itoa_small {e : Int} (h : -1200 ≤ e ∧ e ≤ 1200) : (Lib.itoa e).length ≤ 30 := by
  have := Lib.itoa_length_le e (by omega) (by omega)
  omega
theorem b45 : (⟨#[45]⟩ : ByteArray) = ⟨[(45 : UInt8)].toArray⟩ := rfl
theorem b69 : (⟨#[69]⟩ : ByteArray) = ⟨[(69 : UInt8)].toArray⟩ := rfl
theorem fmt_impl (neg : Bool) (a : ByteArray) (e : Int) (ha : a.size ≤ 800) (he : -1200 ≤ e ∧ e ≤ 1200) : decimal_format.f neg a e = some ⟨(fmtL neg a.data.toList e).toArray⟩ := by
  have hz : a.size = a.data.toList.length := Lib.size_eq a
  have hi := itoa_small he
  have ea : a = ⟨a.data.toList.toArray⟩ := ba_of rfl
  unfold decimal_format.f strconv_Itoa.f fmtL
  rw [if_pos (show -9223372036854775808 ≤ e ∧ e ≤ 9223372036854775807 by omega)]
  rw [hz] at ha
  generalize a.data.toList = l at *
  subst ea
  rw [b45, b69]
  simp only [Option.bind_some, ba_size, ba_append]
  cases neg
  · rw [if_neg (by decide)]
    by_cases h0 : e = 0
    · rw [if_pos h0, if_pos h0]; simp
    · rw [if_neg h0, if_neg h0, if_pos (by omega), if_pos (by simp; omega)]; simp
  · rw [if_pos rfl, if_pos (by omega)]
    by_cases h0 : e = 0
    · rw [if_pos h0, if_pos h0]; simp
    · rw [if_neg h0, if_neg h0, if_pos (by omega), if_pos (by simp; omega)]; simp
theorem fmt_ref (neg : Bool) (a : ByteArray) (e : Int) (k : Nat) (hk : 30 ≤ k) (ha : a.size ≤ 800) (he : -1200 ≤ e ∧ e ≤ 1200) : formularyref09_Format.f k neg a e = some ⟨(fmtL neg a.data.toList e).toArray⟩ := by
  have hz : a.size = a.data.toList.length := Lib.size_eq a
  have hi := itoa_small he
  have ea : a = ⟨a.data.toList.toArray⟩ := ba_of rfl
  unfold formularyref09_Format.f fmtL
  rw [decimal_int e (isI_small he) k (by omega)]
  rw [hz] at ha
  generalize a.data.toList = l at *
  subst ea
  rw [b45, b69]
  simp only [Option.bind_some, ba_size, ba_append]
  cases neg
  · rw [if_neg (by decide)]
    by_cases h0 : e = 0
    · rw [if_pos h0, if_pos h0]; simp
    · rw [if_neg h0, if_neg h0, if_pos (by omega), if_pos (by simp; omega)]; simp
  · rw [if_pos rfl, if_pos (by omega)]
    by_cases h0 : e = 0
    · rw [if_pos h0, if_pos h0]; simp
    · rw [if_neg h0, if_neg h0, if_pos (by simp; omega), if_pos (by simp; omega)]; simp
theorem nd4 {u : Nat} (h : u < 10000) : Lib.nDigits u ≤ 4 := by
  by_cases h1 : u < 10
  · rw [Lib.nDigits_small h1]; omega
  · rw [Lib.nDigits_big h1]
    by_cases h2 : u / 10 < 10
    · rw [Lib.nDigits_small h2]; omega
    · rw [Lib.nDigits_big h2]
      by_cases h3 : u / 10 / 10 < 10
      · rw [Lib.nDigits_small h3]; omega
      · rw [Lib.nDigits_big h3, Lib.nDigits_small (by omega)]; omega
theorem pow_itoa {e : Int} (he : -1200 ≤ e ∧ e ≤ 1200) : powL (Lib.itoa e) = some e := by
  unfold Lib.itoa
  by_cases hn : e < 0
  · rw [if_pos hn]
    obtain ⟨d1, d2, d3⟩ := dec_facts e.natAbs
    have hb : body (45 :: Lib.decDigits e.natAbs) = Lib.decDigits e.natAbs := by rw [body_cons, if_pos (.inr rfl)]
    have h4 : (Lib.decDigits e.natAbs).length ≤ 4 := by rw [Lib.decDigits_length]; exact nd4 (by omega)
    unfold powL
    rw [hb, if_neg (fun q => q.elim d3 fun q => q.elim (by omega) fun q => q d1), d2, if_pos (by rfl)]
    congr 1; omega
  · rw [if_neg hn]
    obtain ⟨d1, d2, d3⟩ := dec_facts e.toNat
    have h4 : (Lib.decDigits e.toNat).length ≤ 4 := by rw [Lib.decDigits_length]; exact nd4 (by omega)
    unfold powL
    rw [body_digits d1, if_neg (fun q => q.elim d3 fun q => q.elim (by omega) fun q => q d1), d2]
    have hg : ngL (Lib.decDigits e.toNat) = false := by
      cases hd : Lib.decDigits e.toNat with
      | nil => rfl
      | cons c r =>
        rw [hd] at d1
        simp only [List.all_cons, Bool.and_eq_true] at d1
        unfold ngL
        have : c ≠ 45 := fun q => by rw [q] at d1; exact absurd d1.1 (by decide)
        simpa using this
    rw [hg, if_neg (by decide)]
    congr 1; omega
theorem tw_all {p : UInt8 → Bool} : ∀ {d x : List UInt8}, (∀ c ∈ d, p c = true) → (d ++ x).takeWhile p = d ++ x.takeWhile p ∧ (d ++ x).dropWhile p = x.dropWhile p
  | [], _, _ => ⟨rfl, rfl⟩
  | c :: d, x, h => by
    have ih := tw_all (d := d) (x := x) (fun z hz => h z (by simp [hz]))
    have hc := h c (by simp)
    rw [List.cons_append, List.takeWhile_cons, List.dropWhile_cons, if_pos hc, if_pos hc, ih.1, ih.2]
    exact ⟨rfl, rfl⟩
theorem parse_fmt (neg : Bool) (d : List UInt8) (e : Int) (h : errD d e = 0) : parseL (fmtL neg d e) = canR neg d e := by
  have hf : d ≠ [] ∧ d.length ≤ 800 ∧ d.all isDg = true ∧ -1200 ≤ e ∧ e ≤ 1200 := by
    unfold errD at h; (repeat' split at h) <;> first | exact absurd h (by decide) | (refine ⟨by assumption, by omega, by assumption, by omega, by omega⟩)
  obtain ⟨h0, h8, hd, he⟩ := hf
  have hall := List.all_eq_true.1 hd
  have hbn : body (fmtL neg d e) = d ++ (if e = 0 then [] else 69 :: Lib.itoa e) ∧ ngL (fmtL neg d e) = neg := by
    unfold fmtL
    cases neg
    · rw [if_neg (by decide)]
      cases d with
      | nil => exact absurd rfl h0
      | cons c r =>
        have hc := hall c (by simp)
        have h43 : c ≠ 43 := fun q => by rw [q] at hc; exact absurd hc (by decide)
        have h45 : c ≠ 45 := fun q => by rw [q] at hc; exact absurd hc (by decide)
        rw [List.cons_append, body_cons, if_neg (fun q => q.elim h43 h45)]
        refine ⟨rfl, ?_⟩
        unfold ngL
        simpa using h45
    · rw [if_pos rfl, List.cons_append, body_cons, if_pos (.inr rfl)]
      exact ⟨rfl, rfl⟩
  obtain ⟨t1, t2⟩ := tw_all (p := notED) (x := if e = 0 then [] else 69 :: Lib.itoa e) (fun c hc => dg_notED (hall c hc))
  obtain ⟨u1, u2⟩ := tw_all (p := fun x : UInt8 => x != 46) (d := d) (x := []) (fun c hc => bne_iff_ne.2 (not46 (hall c hc)))
  have hx : (if e = 0 then ([] : List UInt8) else 69 :: Lib.itoa e).takeWhile notED = [] ∧ (if e = 0 then ([] : List UInt8) else 69 :: Lib.itoa e).dropWhile notED = (if e = 0 then [] else 69 :: Lib.itoa e) := by
    by_cases z : e = 0
    · rw [if_pos z]; exact ⟨rfl, rfl⟩
    · rw [if_neg z]; exact ⟨rfl, rfl⟩
  rw [hx.1, List.append_nil] at t1
  rw [hx.2] at t2
  rw [List.append_nil] at u1 u2
  have em : mL (fmtL neg d e) = d := by unfold mL; rw [hbn.1, t1]
  have eq : qL (fmtL neg d e) = if e = 0 then [] else 69 :: Lib.itoa e := by unfold qL; rw [hbn.1, t2]
  have ew : wL d = d := by unfold wL; rw [u1]; simp
  have ep : pL d = [] := by unfold pL; rw [u2]; rfl
  unfold parseL
  rw [em, eq, hbn.2, ew, ep, List.append_nil]
  have hm : (match (if e = 0 then ([] : List UInt8) else 69 :: Lib.itoa e) with | [] => some (0 : Int) | _ :: t => powL t) = some e := by
    by_cases z : e = 0
    · rw [if_pos z, z]
    · rw [if_neg z]; exact pow_itoa he
  rw [hm]
  simp only
  rw [if_pos ⟨h0, hd⟩]
  unfold finL canR
  have hl : (canP neg d (e - (([] : List UInt8).length : Int))).2.1.length ≤ 800 := by
    have h1 := leadL_len d
    have h2 := tailL_len (leadL d)
    unfold canP
    split
    · simp
    · simp only; omega
  rw [if_neg (by omega)]
  simp
theorem fmt_size (neg : Bool) (d : List UInt8) (e : Int) (h : errD d e = 0) : (ByteArray.mk (fmtL neg d e).toArray).size ≤ 900 := by
  have hf : d.length ≤ 800 ∧ -1200 ≤ e ∧ e ≤ 1200 := by
    unfold errD at h; (repeat' split at h) <;> first | exact absurd h (by decide) | omega
  have hi := itoa_small hf.2
  rw [ba_size]
  unfold fmtL
  rw [List.length_append]
  cases neg <;> by_cases z : e = 0 <;> simp [z] <;> omega
theorem law2_j0 (s : ByteArray) (neg : Bool) (a : ByteArray) (e : Int) (x : Bool) (k : Nat) (hk : 6000 ≤ k) (ha : a.size ≤ 9223372036854775807) : formularylaw09_DecimalStrings.j0 k s x neg a e = some true := by
  obtain ⟨k, rfl⟩ : ∃ m, k = m + 1 + 1 + 1 := ⟨k - 3, by omega⟩
  rw [formularylaw09_DecimalStrings.j0]
  cases x
  case true => rw [if_pos rfl]
  rw [if_neg (by decide), parse_impl s _ (by omega), parse_ref0 s _ (by omega), parse_eq]
  simp only [Option.bind_some, if_true, beq_self_eq_true, Bool.not_true, Bool.or_self]
  rw [formularylaw09_DecimalStrings.j1, if_neg (by decide)]
  unfold decimal_FormatDecimal.f
  rw [check_impl neg a e _ (by omega) ha, err_ref neg a e _ (by omega)]
  simp only [Option.bind_some]
  by_cases h0 : errD a.data.toList e = 0
  · obtain ⟨b1, b2, b3⟩ := err_bounds h0
    simp only [if_pos h0]
    rw [fmt_impl neg a e b1 ⟨b2, b3⟩, fmt_ref neg a e _ (by omega) b1 ⟨b2, b3⟩]
    simp only [Option.bind_some, if_true, bne_self_eq_false]
    rw [formularylaw09_DecimalStrings.j2, if_neg (by decide), canonicalR neg a e _ (by omega) h0, parse_impl _ _ (by omega), if_neg (by have := fmt_size neg a.data.toList e h0; omega), ba_list, parse_fmt neg _ e h0]
    simp
  · simp only [if_neg h0]
    simp [toL]
theorem strings_core (s : ByteArray) (neg : Bool) (a : ByteArray) (e : Int) (ha : a.size ≤ 9223372036854775807) : formularylaw09_DecimalStrings.f 6000 s neg a e = some true := by
  unfold formularylaw09_DecimalStrings.f formularylaw09_awake.f
  have hs : ∃ q, formularylaw09_short.f neg a e = some q := by
    unfold formularylaw09_short.f
    split
    · exact ⟨_, rfl⟩
    · rw [within_eq]; exact ⟨_, rfl⟩
  obtain ⟨q1, h1⟩ := hs
  rw [Option.bind_some, if_pos rfl, h1, within_eq]
  simp only [Option.bind_some, law2_j0 s neg a e _ 6000 (Nat.le_refl _) ha]
  split
  · split <;> rfl
  · rfl
theorem DecimalStrings (a0 : ByteArray) (a1_0 : Bool) (a1_1 : ByteArray) (a1_2 : Int) (w0 : a0.size ≤ 140737488351232) (w1_1 : a1_1.size ≤ maxLen) (w1_2 : (Lit.int .i64 a1_2).wf = true) :
    ∃ k, formularylaw09_DecimalStrings.f k a0 a1_0 a1_1 a1_2 = some true := by
  have h : maxLen ≤ 9223372036854775807 := by decide
  exact ⟨6000, strings_core a0 a1_0 a1_1 a1_2 (Nat.le_trans w1_1 h)⟩

end Go.Proofs.YtgejpojdnmogcaaGreatDoor.Pure
