/-
The plain law of DecimalNumbers.
-/
import Derived.Test.YtgejpojdnmogcaaGreatDoorPDecimalNumbersx7
namespace Go.Proofs.YtgejpojdnmogcaaGreatDoor.Pure
open Go.RowKit Go.Proofs.YtgejpojdnmogcaaGreatDoor.PDecimalNumbers Go.Proofs.YtgejpojdnmogcaaGreatDoorW.PrintWords Go.Proofs.YtgejpojdnmogcaaGreatDoorW.PrintLast
set_option linter.unusedVariables false
set_option linter.unusedSimpArgs false

/-! ### numbers, bytes, lists -/
theorem w64 {x : Int} (h1 : -9223372036854775808 ≤ x) (h2 : x ≤ 9223372036854775807) : wrap64 x = x := by unfold wrap64; omega
def isDg (c : UInt8) : Bool := decide (48 ≤ c.toNat) && decide (c.toNat ≤ 57)
theorem isDg_iff {c : UInt8} : isDg c = true ↔ 48 ≤ c.toNat ∧ c.toNat ≤ 57 := by simp [isDg]
def digs : List UInt8 := [48, 49, 50, 51, 52, 53, 54, 55, 56, 57]
theorem contains_fin : ∀ n : Fin 256, digs.contains (UInt8.ofNat n.val) = isDg (UInt8.ofNat n.val) := by decide +kernel
theorem contains_digs (c : UInt8) : digs.contains c = isDg c := by
  have h := contains_fin ⟨c.toNat, c.toNat_lt⟩
  simpa using h
theorem dw_nil {p : UInt8 → Bool} : ∀ {l : List UInt8}, l.dropWhile p = [] ↔ l.all p = true
  | [] => by simp
  | c :: r => by
    rw [List.dropWhile_cons]
    by_cases h : p c = true
    · rw [if_pos h, dw_nil]; simp [h]
    · rw [if_neg h]; simp [h]
theorem dw_head {p : UInt8 → Bool} : ∀ {l : List UInt8} {c : UInt8} {r : List UInt8}, l.dropWhile p = c :: r → p c = false
  | [], c, r, h => by simp at h
  | a :: l, c, r, h => by
    rw [List.dropWhile_cons] at h
    by_cases hp : p a = true
    · rw [if_pos hp] at h; exact dw_head h
    · rw [if_neg hp] at h
      simp only [List.cons.injEq] at h
      rw [← h.1]; simpa using hp
theorem trimS_nil (l : List UInt8) : Lib.trimS l digs = [] ↔ l.all isDg = true := by
  have e : (digs.contains ·) = isDg := funext contains_digs
  unfold Lib.trimS Lib.trimLeftS Lib.trimRightS
  rw [e, dw_nil, List.all_reverse]
  constructor
  · intro h
    cases hd : l.reverse.dropWhile isDg with
    | nil => have := dw_nil.1 hd; rwa [List.all_reverse] at this
    | cons c r =>
      have h1 := dw_head hd
      rw [hd] at h
      simp [h1] at h
  · intro h
    rw [dw_nil.2 (by rwa [List.all_reverse])]
    rfl
theorem bt_list (s : ByteArray) (i : Nat) (h : i < s.data.toList.length) : bt s (i : Int) = (s.data.toList[i].toNat : Int) := by
  have hz : s.size = s.data.toList.length := Lib.size_eq s
  have h1 : (i : Int).toNat < s.size := by rw [hz]; simpa using h
  rw [← bt_at s i h1]
  rfl
theorem extract_drop (s : ByteArray) (i : Nat) : (s.extract i s.size).data.toList = s.data.toList.drop i := by
  have hs : s.size = s.data.toList.length := Lib.size_eq s
  rw [ByteArray.data_extract, Array.toList_extract]
  simp only [List.extract_eq_take_drop]
  exact List.take_of_length_le (by rw [List.length_drop]; omega)
theorem extract_take (s : ByteArray) (i : Nat) : (s.extract 0 i).data.toList = s.data.toList.take i := by
  rw [ByteArray.data_extract, Array.toList_extract]
  simp only [List.extract_eq_take_drop, List.drop_zero, Nat.sub_zero]
theorem ba_eta (s : ByteArray) : (ByteArray.mk s.data.toList.toArray) = s := by
  apply ByteArray.ext
  simp
theorem ba_of {s : ByteArray} {l : List UInt8} (h : s.data.toList = l) : s = ⟨l.toArray⟩ := by rw [← h, ba_eta]
theorem ba_list (l : List UInt8) : (ByteArray.mk l.toArray).data.toList = l := by simp
theorem ba_size (a : List UInt8) : (ByteArray.mk a.toArray).size = a.length := by rw [Lib.size_eq]
theorem ba_append (a b : List UInt8) : (ByteArray.mk a.toArray) ++ (ByteArray.mk b.toArray) = ByteArray.mk (a ++ b).toArray := by
  apply ByteArray.ext
  rw [ByteArray.data_append]
  simp
theorem toL (s : ByteArray) : s.toList = s.data.toList := Lib.toList_data s
theorem within_eq (a b c : Int) : formularybase_Within.f a b c = some (decide (b ≤ a) && decide (a ≤ c)) := by
  unfold formularybase_Within.f
  split
  · rename_i h; simp; omega
  · rename_i h
    have : b ≤ a := by omega
    simp only [this, decide_true, Bool.true_and, Option.some.injEq]
    by_cases h2 : a ≤ c
    · simp [h2]
    · simp [h2]; omega
theorem bit_eq (b : Bool) : formularybase_Bit.f b = some (if b = true then 1 else 0) := by
  unfold formularybase_Bit.f; split <;> rfl
/-! ### canonical numbers -/
def leadL (l : List UInt8) : List UInt8 := l.dropWhile (· == 48)
def tailL (l : List UInt8) : List UInt8 := (l.reverse.dropWhile (· == 48)).reverse
/-- the canonical number of digits -/
def canP (neg : Bool) (l : List UInt8) (e : Int) : Bool × List UInt8 × Int :=
  if tailL (leadL l) = [] then (neg, [48], 0) else (neg, tailL (leadL l), e + ((leadL l).length : Int) - ((tailL (leadL l)).length : Int))
theorem leadL_len (l : List UInt8) : (leadL l).length ≤ l.length := by
  unfold leadL
  induction l with
  | nil => simp
  | cons c r ih =>
    rw [List.dropWhile_cons]
    split
    · simp only [List.length_cons]; omega
    · exact Nat.le_refl _
theorem tailL_len (l : List UInt8) : (tailL l).length ≤ l.length := by
  have := leadL_len l.reverse
  unfold tailL
  unfold leadL at this
  simpa using this
theorem tailL_nil (l : List UInt8) : tailL l = [] ↔ l.all (· == 48) = true := by
  unfold tailL
  rw [List.reverse_eq_nil_iff, dw_nil, List.all_reverse]
theorem leadL_head {l : List UInt8} {c : UInt8} {r : List UInt8} (h : leadL l = c :: r) : c ≠ 48 := by
  have := dw_head h
  simpa using this
theorem tail_lead_nil (l : List UInt8) : tailL (leadL l) = [] ↔ leadL l = [] := by
  rw [tailL_nil]
  constructor
  · intro h
    cases hl : leadL l with
    | nil => rfl
    | cons c r =>
      have hc := leadL_head hl
      rw [hl] at h
      simp [hc] at h
  · intro h; rw [h]; rfl
theorem tailL_append (l : List UInt8) (c : UInt8) : tailL (l ++ [c]) = if c = 48 then tailL l else l ++ [c] := by
  unfold tailL
  rw [List.reverse_append]
  simp only [List.reverse_cons, List.reverse_nil, List.nil_append, List.singleton_append, List.dropWhile_cons]
  by_cases h : c = 48
  · subst h; simp
  · simp [h]
theorem canonical_impl (neg : Bool) (s : ByteArray) (e : Int) (hs : s.size ≤ 100000) (h0 : -100000 ≤ e) (h1 : e ≤ 100000) :
    decimal_canonical.f neg s e = some ((canP neg s.data.toList e).1, ⟨(canP neg s.data.toList e).2.1.toArray⟩, (canP neg s.data.toList e).2.2) := by
  have hz : s.size = s.data.toList.length := Lib.size_eq s
  have hl := leadL_len s.data.toList
  have ht := tailL_len (leadL s.data.toList)
  unfold decimal_canonical.f strings_TrimLeft.f strings_TrimRight.f canP
  rw [if_pos rfl, Option.bind_some]
  have e1 : Lib.trimLeftB s.data.toList 48 = leadL s.data.toList := rfl
  have e2 : ∀ l : List UInt8, Lib.trimRightB l 48 = tailL l := fun l => rfl
  rw [e1, ba_size, if_pos ⟨rfl, by omega⟩]
  simp only [Option.bind_some, ba_list, e2, toL]
  by_cases h : tailL (leadL s.data.toList) = []
  · rw [if_pos h, if_pos h]
  · rw [if_neg h, if_neg h, ba_size]
    rw [w64 (x := e + _) (by omega) (by omega), w64 (by omega) (by omega)]
theorem again_impl (neg : Bool) (s : ByteArray) (e : Int) (hs : s.size ≤ 100000) (h0 : -100000 ≤ e) (h1 : e ≤ 100000) :
    decimal_again.f neg s e = some ((canP neg s.data.toList e).1, ⟨(canP neg s.data.toList e).2.1.toArray⟩, (canP neg s.data.toList e).2.2) := by
  unfold decimal_again.f
  rw [canonical_impl neg s e hs h0 h1]
  rfl
/-! the reference's -/
theorem lead_ref : ∀ (n : Nat) (s : ByteArray) (k : Nat), s.size = n → n < k → formularyref09_lead.l0 k s = some ⟨(leadL s.data.toList).toArray⟩ := by
  intro n
  induction n with
  | zero =>
    intro s k hs hk
    obtain ⟨k, rfl⟩ : ∃ m, k = m + 1 := ⟨k - 1, by omega⟩
    have hl : s.data.toList = [] := List.eq_nil_of_length_eq_zero (by rw [← Lib.size_eq]; exact hs)
    rw [formularyref09_lead.l0, if_neg (by omega), ba_of hl, ba_list]
    rfl
  | succ n ih =>
    intro s k hs hk
    obtain ⟨k, rfl⟩ : ∃ m, k = m + 1 := ⟨k - 1, by omega⟩
    have hz : s.size = s.data.toList.length := Lib.size_eq s
    have hp : 0 < s.data.toList.length := by omega
    rw [formularyref09_lead.l0, if_pos (by omega), if_pos (by omega), show bt s 0 = _ from bt_list s 0 hp, if_pos (show (1 : Int) ≤ (s.size : Int) by omega)]
    obtain ⟨c, r, hl⟩ := List.exists_cons_of_ne_nil (List.length_pos_iff.1 hp)
    have hg : s.data.toList[0].toNat = c.toNat := by simp [hl]
    have hx := extract_drop s 1
    rw [hl] at hx
    simp only [List.drop_succ_cons, List.drop_zero] at hx
    have hlen : (s.extract 1 s.size).size = n := by
      rw [Lib.size_eq, hx]
      rw [hl] at hz
      simp only [List.length_cons] at hz
      omega
    rw [hg]
    by_cases hc : c = 48
    · rw [if_pos (by rw [hc]; rfl), ih _ k hlen (by omega), hx, hl, hc]
      rfl
    · have : ¬ (c.toNat : Int) = 48 := fun h => hc (UInt8.toNat_inj.1 (show c.toNat = 48 by omega))
      rw [if_neg this]
      have e : leadL s.data.toList = s.data.toList := by
        rw [hl]; unfold leadL; rw [List.dropWhile_cons, if_neg (by simpa using hc)]
      rw [e, ba_eta]
theorem lead_f (s : ByteArray) (k : Nat) (hk : s.size < k) : formularyref09_lead.f k s = some ⟨(leadL s.data.toList).toArray⟩ := lead_ref s.size s k rfl hk
theorem canonL : ∀ (n : Nat) (l : List UInt8) (neg : Bool) (e : Int) (k : Nat), l.length = n → n ≤ 100000 → n < k → tailL l ≠ [] → -10000000 ≤ e → e + n ≤ 10000000 →
    formularyref09_Canon.l0 k neg ⟨l.toArray⟩ e = some (neg, ⟨(tailL l).toArray⟩, e + (l.length : Int) - ((tailL l).length : Int)) := by
  intro n
  induction n with
  | zero =>
    intro l neg e k hl _ _ ht
    rw [List.eq_nil_of_length_eq_zero hl] at ht
    exact absurd rfl ht
  | succ n ih =>
    intro l neg e k hl hn hk ht he he2
    obtain ⟨k, rfl⟩ : ∃ m, k = m + 1 := ⟨k - 1, by omega⟩
    rcases List.eq_nil_or_concat l with rfl | ⟨q, c, rfl⟩
    · simp at hl
    · rw [List.concat_eq_append] at *
      have hq : q.length = n := by rw [List.length_append] at hl; simp at hl; omega
      have hw : wrap64 (((ByteArray.mk (q ++ [c]).toArray).size : Int) - 1) = (n : Int) := by rw [ba_size, hl, w64 (by omega) (by omega)]; omega
      have hbt : bt (ByteArray.mk (q ++ [c]).toArray) (n : Int) = (c.toNat : Int) := by
        have hi : n < (ByteArray.mk (q ++ [c]).toArray).data.toList.length := by rw [ba_list, hl]; omega
        rw [bt_list _ n hi]
        simp [← hq]
      rw [formularyref09_Canon.l0, hw, hbt, ba_size, hl, if_pos (by omega), if_pos (by omega), if_pos (show (n : Int) ≤ ((n + 1 : Nat) : Int) by omega)]
      by_cases hc : c = 48
      · have hcn : (c.toNat : Int) = 48 := by rw [hc]; rfl
        have ht' : tailL q ≠ [] := by rw [tailL_append, if_pos hc] at ht; exact ht
        have hx : (ByteArray.mk (q ++ [c]).toArray).extract 0 n = ⟨q.toArray⟩ := by
          apply ba_of
          rw [extract_take, ba_list, ← hq]
          simp
        rw [if_pos hcn, show ((n : Int)).toNat = n by omega, hx, w64 (by omega) (by omega), ih q neg (e + 1) k hq (by omega) (by omega) ht' (by omega) (by omega), tailL_append, if_pos hc]
        congr 3
        omega
      · have hcn : ¬ (c.toNat : Int) = 48 := fun h => hc (UInt8.toNat_inj.1 (show c.toNat = 48 by omega))
        rw [if_neg hcn, tailL_append, if_neg hc]
        congr 3
        omega
theorem canon_ref (neg : Bool) (s : ByteArray) (e : Int) (k : Nat) (hs : s.size ≤ 100000) (hk : s.size < k) (h0 : -100000 ≤ e) (h1 : e ≤ 100000) :
    formularyref09_Canon.f k neg s e = some ((canP neg s.data.toList e).1, ⟨(canP neg s.data.toList e).2.1.toArray⟩, (canP neg s.data.toList e).2.2) := by
  have hz : s.size = s.data.toList.length := Lib.size_eq s
  have hl := leadL_len s.data.toList
  unfold formularyref09_Canon.f canP
  rw [lead_f s k hk]
  simp only [Option.bind_some, toL, ba_list]
  by_cases h : leadL s.data.toList = []
  · rw [if_pos h, if_pos ((tail_lead_nil _).2 h)]
  · have ht : tailL (leadL s.data.toList) ≠ [] := fun x => h ((tail_lead_nil _).1 x)
    rw [if_neg h, if_neg ht, canonL _ (leadL s.data.toList) neg e k rfl (by omega) (by omega) ht (by omega) (by omega)]
/-! ### the errors of a number -/
def errD (l : List UInt8) (e : Int) : Int := if l = [] then 17 else if 800 < l.length then 8 else if l.all isDg = true then (if -1200 ≤ e ∧ e ≤ 1200 then 0 else 2) else 3
theorem errLoop (s : ByteArray) (neg : Bool) (e : Int) : ∀ (d i k : Nat), s.size - i = d → i ≤ s.size → s.size ≤ 1000 → d < k →
    formularyref09_DecimalErr.l0 k (i : Int) neg s e = some (if (s.data.toList.drop i).all isDg = true then (if -1200 ≤ e ∧ e ≤ 1200 then 0 else 2) else 3) := by
  have hs : s.size = s.data.toList.length := Lib.size_eq s
  intro d
  induction d with
  | zero =>
    intro i k hd hi hz hk
    obtain ⟨k, rfl⟩ : ∃ m, k = m + 1 := ⟨k - 1, by omega⟩
    rw [formularyref09_DecimalErr.l0, if_neg (by omega), within_eq, List.drop_eq_nil_of_le (by omega)]
    simp only [Option.bind_some, List.all_nil, if_true, Bool.and_eq_true, decide_eq_true_eq]
    split <;> rfl
  | succ d ih =>
    intro i k hd hi hz hk
    obtain ⟨k, rfl⟩ : ∃ m, k = m + 1 := ⟨k - 1, by omega⟩
    have hlt : i < s.data.toList.length := by omega
    have g1 : s.size - (i + 1) = d := by omega
    have g2 : i + 1 ≤ s.size := by omega
    have g3 : d < k := by omega
    have e2 : wrap64 ((i : Int) + 1) = ((i + 1 : Nat) : Int) := by rw [w64 (by omega) (by omega)]; rfl
    rw [formularyref09_DecimalErr.l0, if_pos (by omega), if_pos (by omega), bt_list s i hlt, List.drop_eq_getElem_cons hlt, List.all_cons]
    have hc : isDg s.data.toList[i] = (decide (48 ≤ s.data.toList[i].toNat) && decide (s.data.toList[i].toNat ≤ 57)) := rfl
    rw [hc, e2]
    generalize s.data.toList[i].toNat = c
    by_cases h1 : (c : Int) < 48
    · rw [if_pos h1, decide_eq_false (by omega)]; rfl
    · rw [if_neg h1]
      by_cases h2 : (c : Int) > 57
      · rw [if_pos h2, decide_eq_false (p := c ≤ 57) (by omega)]; simp
      · rw [if_neg h2, decide_eq_true (by omega), decide_eq_true (p := c ≤ 57) (by omega), ih (i + 1) k g1 g2 hz g3]
        simp
theorem err_ref (neg : Bool) (s : ByteArray) (e : Int) (k : Nat) (hk : 1001 ≤ k) : formularyref09_DecimalErr.f k neg s e = some (errD s.data.toList e) := by
  have hs : s.size = s.data.toList.length := Lib.size_eq s
  unfold formularyref09_DecimalErr.f errD
  by_cases h0 : s.data.toList = []
  · rw [if_pos h0, if_pos (by rw [hs, h0]; rfl)]
  · have hp : 0 < s.data.toList.length := List.length_pos_iff.2 h0
    rw [if_neg h0, if_neg (by omega)]
    by_cases h8 : 800 < s.data.toList.length
    · rw [if_pos h8, if_pos (by omega)]
    · have h := errLoop s neg e s.size 0 k (by omega) (by omega) (by omega) (by omega)
      rw [List.drop_zero] at h
      rw [if_neg h8, if_neg (by omega), show formularyref09_DecimalErr.l0 k 0 neg s e = _ from h]
theorem when_eq (b : Bool) (e : Int) : decimal_when.f b e = some (if b = true then e else 0) := by unfold decimal_when.f; split <;> rfl
theorem exponentErr_eq (e : Int) : decimal_exponentErr.f e = some (if -1200 ≤ e ∧ e ≤ 1200 then 0 else 2) := by
  unfold decimal_exponentErr.f
  simp only [when_eq, Option.bind_some, decide_eq_true_eq]
  by_cases h1 : e < -1200
  · rw [if_pos h1, if_pos trivial, if_neg (by omega)]
  · rw [if_neg h1]
    by_cases h2 : e > 1200
    · rw [if_pos h2, if_neg (by omega)]
    · rw [if_neg h2, if_pos (by omega)]
theorem areDigits_eq (s : ByteArray) (h : s.size ≤ 9223372036854775807) : decimal_areDigits.f s = some (s.data.toList.all isDg) := by
  unfold decimal_areDigits.f strings_Trim.f
  rw [if_pos ⟨h, by decide, by decide⟩]
  simp only [Option.bind_some, toL, ba_list]
  rw [show ([48, 49, 50, 51, 52, 53, 54, 55, 56, 57] : List UInt8) = digs from rfl]
  congr 1
  by_cases h : s.data.toList.all isDg = true
  · rw [(trimS_nil _).2 h, h]; rfl
  · have : Lib.trimS s.data.toList digs ≠ [] := fun x => h ((trimS_nil _).1 x)
    rw [Bool.eq_false_iff.2 h]
    cases hh : Lib.trimS s.data.toList digs with
    | nil => exact absurd hh this
    | cons => rfl
/-- the first error of some -/
def firstE : List Int → Int
  | [] => 0
  | e :: r => if e = 0 then firstE r else e
theorem soonerLoop (l : List Int) (hl : l.length ≤ 1000) : ∀ (d i k : Nat), l.length - i = d → i ≤ l.length → d < k → decimal_sooner.l0 k l (l.length : Int) (i : Int) = some (firstE (l.drop i)) := by
  intro d
  induction d with
  | zero =>
    intro i k hd hi hk
    obtain ⟨k, rfl⟩ : ∃ m, k = m + 1 := ⟨k - 1, by omega⟩
    rw [decimal_sooner.l0, if_neg (by omega), List.drop_eq_nil_of_le (by omega)]; rfl
  | succ d ih =>
    intro i k hd hi hk
    obtain ⟨k, rfl⟩ : ∃ m, k = m + 1 := ⟨k - 1, by omega⟩
    have hlt : i < l.length := by omega
    have hr : rd l (i : Int) = l[i] := by simp [rd, hlt]
    have e2 : wrap64 ((i : Int) + 1) = ((i + 1 : Nat) : Int) := by rw [w64 (by omega) (by omega)]; rfl
    rw [decimal_sooner.l0, if_pos (by omega), if_pos (by omega), if_pos (by omega), hr, e2, ih (i + 1) k (by omega) (by omega) (by omega), List.drop_eq_getElem_cons hlt, firstE]
    by_cases h : l[i] = 0
    · rw [if_pos h, if_pos h]
    · rw [if_neg h, if_neg h]
theorem sooner_eq (l : List Int) (hl : l.length ≤ 1000) (k : Nat) (hk : l.length < k) : decimal_sooner.f k l = some (firstE l) := by
  have h := soonerLoop l hl l.length 0 k (by omega) (by omega) (by omega)
  rw [List.drop_zero] at h
  exact h
theorem check_impl (neg : Bool) (s : ByteArray) (e : Int) (k : Nat) (hk : 10 ≤ k) (h : s.size ≤ 9223372036854775807) : decimal_CheckDecimal.f k neg s e = some (errD s.data.toList e) := by
  have hs : s.size = s.data.toList.length := Lib.size_eq s
  unfold decimal_CheckDecimal.f
  simp only [when_eq, Option.bind_some, areDigits_eq s h, exponentErr_eq, toL]
  rw [sooner_eq _ (by simp) k (by simp; omega)]
  simp only [Option.bind_some]
  congr 1
  unfold errD
  by_cases h0 : s.data.toList = []
  · rw [if_pos h0, h0]; simp [firstE]
  · have hp : 0 < s.data.toList.length := List.length_pos_iff.2 h0
    have he : s.data.toList.isEmpty = false := by simpa using h0
    rw [if_neg h0, he]
    by_cases h8 : 800 < s.data.toList.length
    · rw [if_pos h8]
      have : decide ((s.size : Int) > 800) = true := decide_eq_true (by omega)
      rw [this]
      rfl
    · rw [if_neg h8]
      have : decide ((s.size : Int) > 800) = false := decide_eq_false (by omega)
      rw [this]
      by_cases hd : s.data.toList.all isDg = true
      · rw [if_pos hd, hd]
        simp only [firstE, Bool.false_eq_true, if_false, if_true, Bool.not_true]
        by_cases he2 : -1200 ≤ e ∧ e ≤ 1200
        · rw [if_pos he2]; rfl
        · rw [if_neg he2]; rfl
      · rw [if_neg hd, Bool.eq_false_iff.2 hd]
        rfl
/-! ### the order of two numbers -/
def cmpI (a b : Int) : Int := if a < b then -1 else if b < a then 1 else 0
theorem cmpInt_eq (a b : Int) : cmp_Compare_int.f a b = some (cmpI a b) := by
  unfold cmp_Compare_int.f cmp_isNaN_int.f cmpI
  simp only [Option.bind_some, bne_self_eq_false, Bool.false_eq_true, if_false]
  split
  · rfl
  · by_cases h : a > b
    · rw [if_pos h, if_pos h]
    · rw [if_neg h, if_neg h]
theorem orLoop (l : List Int) (hl : l.length ≤ 1000) : ∀ (d i k : Nat), l.length - i = d → i ≤ l.length → d < k → cmp_Or_int.l0 k 0 l (l.length : Int) (i : Int) = some (firstE (l.drop i)) := by
  intro d
  induction d with
  | zero =>
    intro i k hd hi hk
    obtain ⟨k, rfl⟩ : ∃ m, k = m + 1 := ⟨k - 1, by omega⟩
    rw [cmp_Or_int.l0, if_neg (by omega), List.drop_eq_nil_of_le (by omega)]; rfl
  | succ d ih =>
    intro i k hd hi hk
    obtain ⟨k, rfl⟩ : ∃ m, k = m + 1 := ⟨k - 1, by omega⟩
    have hlt : i < l.length := by omega
    have hr : rd l (i : Int) = l[i] := by simp [rd, hlt]
    have e2 : wrap64 ((i : Int) + 1) = ((i + 1 : Nat) : Int) := by rw [w64 (by omega) (by omega)]; rfl
    rw [cmp_Or_int.l0, if_pos (by omega), if_pos (by omega), if_pos (by omega), hr, e2, ih (i + 1) k (by omega) (by omega) (by omega), List.drop_eq_getElem_cons hlt, firstE]
    by_cases h : l[i] = 0
    · rw [if_pos h, if_pos h]
    · rw [if_neg h, if_neg h]
theorem or_eq (a b : Int) (k : Nat) (hk : 5 ≤ k) : cmp_Or_int.f k [a, b] = some (if a = 0 then b else a) := by
  have h := orLoop [a, b] (by simp) 2 0 k (by simp) (by simp) (by omega)
  rw [List.drop_zero] at h
  rw [show cmp_Or_int.f k [a, b] = _ from h]
  congr 1
  unfold firstE
  split
  · unfold firstE
    split
    · rename_i h; rw [h]; rfl
    · rfl
  · rfl
/-- the order of the sizes of two canonical numbers -/
def sizeC (a : List UInt8) (e : Int) (b : List UInt8) (f : Int) : Int := if cmpI ((a.length : Int) + e) ((b.length : Int) + f) = 0 then Lib.compareBytes a b else cmpI ((a.length : Int) + e) ((b.length : Int) + f)
theorem sizes_impl (na nb : Bool) (a b : List UInt8) (e f : Int) (k : Nat) (hk : 5 ≤ k) (ha : a.length ≤ 1000000) (hb : b.length ≤ 1000000) (he : -1000000 ≤ e ∧ e ≤ 1000000) (hf : -1000000 ≤ f ∧ f ≤ 1000000) :
    decimal_sizes.f k na ⟨a.toArray⟩ e nb ⟨b.toArray⟩ f = some (sizeC a e b f) := by
  unfold decimal_sizes.f strings_Compare.f sizeC
  rw [ba_size, ba_size, w64 (by omega) (by omega), w64 (by omega) (by omega), cmpInt_eq]
  simp only [Option.bind_some, ba_list]
  rw [or_eq _ _ k hk]
  rfl
/-- the sign of a canonical number -/
def sgnC (x : Bool × List UInt8 × Int) : Int := if x.2.1 = [48] then 0 else if x.1 = true then -1 else 1
theorem sgn_impl (neg : Bool) (a : List UInt8) (e : Int) : decimal_Compare_1.f neg ⟨a.toArray⟩ e = some (sgnC (neg, a, e)) := by
  unfold decimal_Compare_1.f decimal_isZero.f sgnC
  simp only [Option.bind_some, toL, ba_list, beq_iff_eq]
  split
  · rfl
  · cases neg <;> rfl
/-- the order of two canonical numbers -/
def cmpC (x y : Bool × List UInt8 × Int) : Int := if sgnC x ≠ sgnC y ∨ sgnC x = 0 then cmpI (sgnC x) (sgnC y) else sgnC x * sizeC x.2.1 x.2.2 y.2.1 y.2.2
theorem compareBytes_range : ∀ a b : List UInt8, -1 ≤ Lib.compareBytes a b ∧ Lib.compareBytes a b ≤ 1
  | [], [] => by simp [Lib.compareBytes]
  | [], _ :: _ => by simp [Lib.compareBytes]
  | _ :: _, [] => by simp [Lib.compareBytes]
  | a :: ar, b :: bs => by
    have := compareBytes_range ar bs
    unfold Lib.compareBytes
    split
    · simp
    · split
      · simp
      · exact this
theorem cmpI_range (a b : Int) : -1 ≤ cmpI a b ∧ cmpI a b ≤ 1 := by unfold cmpI; split <;> (try split) <;> omega
theorem sizeC_range (a b : List UInt8) (e f : Int) : -1 ≤ sizeC a e b f ∧ sizeC a e b f ≤ 1 := by
  unfold sizeC
  split
  · exact compareBytes_range a b
  · exact cmpI_range _ _
theorem sgnC_cases (x : Bool × List UInt8 × Int) : sgnC x = 0 ∨ sgnC x = 1 ∨ sgnC x = -1 := by unfold sgnC; split <;> (try split) <;> omega
theorem can_bounds (neg : Bool) (l : List UInt8) (e : Int) : (canP neg l e).2.1.length ≤ l.length + 1 ∧ ((canP neg l e).2.2 = 0 ∨ (e ≤ (canP neg l e).2.2 ∧ (canP neg l e).2.2 ≤ e + l.length)) := by
  have hl := leadL_len l
  have ht := tailL_len (leadL l)
  unfold canP
  split
  · simp
  · simp only; omega
theorem compare_impl (na nb : Bool) (a b : ByteArray) (e f : Int) (k : Nat) (hk : 20 ≤ k) (ha : errD a.data.toList e = 0) (hb : errD b.data.toList f = 0) (ha2 : a.size ≤ 9223372036854775807) (hb2 : b.size ≤ 9223372036854775807) :
    decimal_Compare.f k na a e nb b f = some (cmpC (canP na a.data.toList e) (canP nb b.data.toList f), 0) := by
  obtain ⟨k, rfl⟩ : ∃ m, k = m + 1 := ⟨k - 1, by omega⟩
  have hza : a.size = a.data.toList.length := Lib.size_eq a
  have hzb : b.size = b.data.toList.length := Lib.size_eq b
  have ea : a.data.toList.length ≤ 800 ∧ -1200 ≤ e ∧ e ≤ 1200 := by unfold errD at ha; (repeat' split at ha) <;> first | omega | exact absurd ha (by decide)
  have eb : b.data.toList.length ≤ 800 ∧ -1200 ≤ f ∧ f ≤ 1200 := by unfold errD at hb; (repeat' split at hb) <;> first | omega | exact absurd hb (by decide)
  unfold decimal_Compare.f
  rw [check_impl na a e (k + 1) (by omega) ha2, check_impl nb b f (k + 1) (by omega) hb2, ha, hb]
  simp only [Option.bind_some]
  rw [sooner_eq _ (by simp) (k + 1) (by simp; omega)]
  simp only [Option.bind_some, firstE, if_true]
  rw [again_impl na a e (by omega) (by omega) (by omega), again_impl nb b f (by omega) (by omega) (by omega)]
  have ca := can_bounds na a.data.toList e
  have cb := can_bounds nb b.data.toList f
  generalize canP na a.data.toList e = x at *
  generalize canP nb b.data.toList f = y at *
  obtain ⟨xn, xd, xe⟩ := x
  obtain ⟨yn, yd, ye⟩ := y
  simp only at ca cb
  simp only [Option.bind_some, sgn_impl]
  have hsz := sizes_impl xn yn xd yd xe ye k (by omega) (by omega) (by omega) (by omega) (by omega)
  have hr := sizeC_range xd yd xe ye
  have hs := sgnC_cases (xn, xd, xe)
  unfold cmpC
  simp only
  by_cases hq : sgnC (xn, xd, xe) = sgnC (yn, yd, ye)
  · rw [if_pos hq]
    by_cases h0 : sgnC (xn, xd, xe) = 0
    · have : (sgnC (xn, xd, xe) == 0) = true := by simpa using h0
      rw [this, decimal_Compare.j0, if_pos rfl, sgn_impl]
      simp only [Option.bind_some, cmpInt_eq]
      rw [if_pos (.inr h0)]
    · have : (sgnC (xn, xd, xe) == 0) = false := by simpa using h0
      rw [this, decimal_Compare.j0, if_neg (by decide), hsz]
      simp only [Option.bind_some]
      rw [if_neg (by simp [hq, h0] at *; omega)]
      congr 2
      rcases hs with h | h | h <;> rw [h] <;> exact w64 (by omega) (by omega)
  · rw [if_neg hq, decimal_Compare.j0, if_pos rfl, sgn_impl]
    simp only [Option.bind_some, cmpInt_eq]
    rw [if_pos (.inl hq)]
/-! ### the reference's order -/
def nz : List UInt8 → Prop
  | [] => True
  | c :: r => (r = [] → c ≠ 48) ∧ nz r
theorem nz_append : ∀ (l : List UInt8) (c : UInt8), c ≠ 48 → nz (l ++ [c])
  | [], c, h => ⟨fun _ => h, trivial⟩
  | a :: r, c, h => ⟨fun q => by simp at q, nz_append r c h⟩
theorem tail_spec : ∀ (n : Nat) (l : List UInt8), l.length = n → nz (tailL l) ∧ ∃ p, l = tailL l ++ List.replicate p 48 := by
  intro n
  induction n with
  | zero => intro l h; rw [List.eq_nil_of_length_eq_zero h]; exact ⟨trivial, 0, rfl⟩
  | succ n ih =>
    intro l h
    rcases List.eq_nil_or_concat l with rfl | ⟨q, c, rfl⟩
    · simp at h
    · rw [List.concat_eq_append] at *
      have hq : q.length = n := by rw [List.length_append] at h; simp at h; omega
      rw [tailL_append]
      by_cases hc : c = 48
      · rw [if_pos hc]
        obtain ⟨h1, p, h2⟩ := ih q hq
        refine ⟨h1, p + 1, ?_⟩
        rw [List.replicate_succ', ← List.append_assoc, ← h2, hc]
      · rw [if_neg hc]
        exact ⟨nz_append q c hc, 0, by simp⟩
theorem bl_self : ∀ l : List UInt8, Op.bytesLess l l = false
  | [] => rfl
  | a :: r => by rw [Op.bytesLess, bl_self r]; simp
/-- zeros against a trimmed list -/
theorem zeros_less : ∀ (B : List UInt8) (P Q : Nat), nz B → B ≠ [] → (∀ c ∈ B, 48 ≤ c.toNat) → P = B.length + Q →
    Op.bytesLess (List.replicate P 48) (B ++ List.replicate Q 48) = true ∧ Op.bytesLess (B ++ List.replicate Q 48) (List.replicate P 48) = false
  | [], _, _, _, h, _, _ => absurd rfl h
  | b :: r, P, Q, hn, _, hd, hP => by
    obtain ⟨P, rfl⟩ : ∃ m, P = m + 1 := ⟨P - 1, by simp at hP; omega⟩
    have hb := hd b (by simp)
    rw [List.replicate_succ, List.cons_append, Op.bytesLess, Op.bytesLess]
    by_cases h : b = 48
    · subst h
      have hr : r ≠ [] := fun q => hn.1 q rfl
      obtain ⟨h1, h2⟩ := zeros_less r P Q hn.2 hr (fun c hc => hd c (by simp [hc])) (by simp at hP; omega)
      rw [h1, h2]
      simp
    · have h3 : (48 : UInt8) < b := by
        rw [UInt8.lt_iff_toNat_lt]
        have : b.toNat ≠ (48 : UInt8).toNat := fun q => h (UInt8.toNat_inj.mp q)
        have e : (48 : UInt8).toNat = 48 := rfl
        omega
      have h4 : ¬ b < 48 := by rw [UInt8.lt_iff_toNat_lt] at *; omega
      simp [h, h3, h4]
def i01 (b : Bool) : Int := if b = true then 1 else 0
theorem padded : ∀ (A B : List UInt8) (P Q : Nat), nz A → nz B → (∀ c ∈ A, 48 ≤ c.toNat) → (∀ c ∈ B, 48 ≤ c.toNat) → A.length + P = B.length + Q →
    i01 (Op.bytesLess (B ++ List.replicate Q 48) (A ++ List.replicate P 48)) - i01 (Op.bytesLess (A ++ List.replicate P 48) (B ++ List.replicate Q 48)) = Lib.compareBytes A B
  | [], [], P, Q, _, _, _, _, h => by
    have : P = Q := by simpa using h
    subst this
    rw [bl_self]; rfl
  | [], b :: r, P, Q, _, hB, _, dB, h => by
    obtain ⟨h1, h2⟩ := zeros_less (b :: r) P Q hB (by simp) dB (by simpa using h)
    rw [List.nil_append, h1, h2]; rfl
  | a :: r, [], P, Q, hA, _, dA, _, h => by
    obtain ⟨h1, h2⟩ := zeros_less (a :: r) Q P hA (by simp) dA (by simpa using h.symm)
    rw [List.nil_append, h1, h2]; rfl
  | a :: A, b :: B, P, Q, hA, hB, dA, dB, h => by
    have ih := padded A B P Q hA.2 hB.2 (fun c hc => dA c (by simp [hc])) (fun c hc => dB c (by simp [hc])) (by simp at h; omega)
    rw [List.cons_append, List.cons_append, Op.bytesLess, Op.bytesLess, Lib.compareBytes]
    by_cases h1 : a < b
    · have h2 : ¬ b < a := by rw [UInt8.lt_iff_toNat_lt] at *; omega
      have h3 : b ≠ a := fun q => h2 (by rw [q] at h1 ⊢; exact h1)
      simp [h1, h2, h3, i01]
    · by_cases h2 : b < a
      · have h3 : a ≠ b := fun q => h1 (by rw [q] at h2 ⊢; exact h2)
        simp [h1, h2, h3, i01]
      · have h3 : a = b := by
          rw [UInt8.lt_iff_toNat_lt] at h1 h2
          exact UInt8.toNat_inj.mp (by omega)
        subst h3
        simp only [h1, if_false, decide_false, Bool.false_or, beq_self_eq_true, Bool.true_and]
        exact ih
theorem zerosL : ∀ (d : Nat) (n : Nat) (i : Nat) (k : Nat), n - i = d → i ≤ n → n ≤ 100000 → d < k →
    formularyref09_Zeros.l0 k (n : Int) ⟨(List.replicate i 48).toArray⟩ (i : Int) = some ⟨(List.replicate n 48).toArray⟩ := by
  intro d
  induction d with
  | zero =>
    intro n i k hd hi hn hk
    obtain ⟨k, rfl⟩ : ∃ m, k = m + 1 := ⟨k - 1, by omega⟩
    have : i = n := by omega
    subst this
    rw [formularyref09_Zeros.l0, if_neg (by omega)]
  | succ d ih =>
    intro n i k hd hi hn hk
    obtain ⟨k, rfl⟩ : ∃ m, k = m + 1 := ⟨k - 1, by omega⟩
    have e1 : (ByteArray.mk (List.replicate i (48 : UInt8)).toArray) ++ (⟨#[48]⟩ : ByteArray) = ByteArray.mk (List.replicate (i + 1) (48 : UInt8)).toArray := by
      rw [show (⟨#[48]⟩ : ByteArray) = ByteArray.mk [(48 : UInt8)].toArray from rfl, ba_append, List.replicate_succ']
    have e2 : wrap64 ((i : Int) + 1) = ((i + 1 : Nat) : Int) := by rw [w64 (by omega) (by omega)]; rfl
    rw [formularyref09_Zeros.l0, if_pos (by omega), ba_size, List.length_replicate, if_pos (by omega), e1, e2]
    exact ih n (i + 1) k (by omega) (by omega) hn (by omega)
theorem zeros_f (n : Nat) (k : Nat) (hn : n ≤ 100000) (hk : n < k) : formularyref09_Zeros.f k (n : Int) = some ⟨(List.replicate n 48).toArray⟩ :=
  zerosL n n 0 k (by omega) (by omega) hn (by omega)
theorem lead_dig {l : List UInt8} (h : l.all isDg = true) : ∀ c ∈ leadL l, 48 ≤ c.toNat := by
  intro c hc
  have : c ∈ l := (List.dropWhile_suffix (p := fun x : UInt8 => x == 48)).subset hc
  exact (isDg_iff.1 (List.all_eq_true.1 h c this)).1
theorem tail_dig {l : List UInt8} (h : ∀ c ∈ l, 48 ≤ c.toNat) : ∀ c ∈ tailL l, 48 ≤ c.toNat := by
  intro c hc
  obtain ⟨_, p, h2⟩ := tail_spec _ l rfl
  exact h c (by rw [h2]; exact List.mem_append_left _ hc)
/-- the reference's sizes of two numbers -/
theorem sizes_ref (na nb : Bool) (a b : ByteArray) (e f : Int) (k : Nat) (hk : 2000 ≤ k) (ha : a.size ≤ 800) (hb : b.size ≤ 800) (he : -1200 ≤ e ∧ e ≤ 1200) (hf : -1200 ≤ f ∧ f ≤ 1200)
    (da : a.data.toList.all isDg = true) (db : b.data.toList.all isDg = true) :
    formularyref09_sizes.f k na a e nb b f = some (if cmpI (((leadL a.data.toList).length : Int) + e) (((leadL b.data.toList).length : Int) + f) = 0 then Lib.compareBytes (tailL (leadL a.data.toList)) (tailL (leadL b.data.toList)) else cmpI (((leadL a.data.toList).length : Int) + e) (((leadL b.data.toList).length : Int) + f)) := by
  have hza : a.size = a.data.toList.length := Lib.size_eq a
  have hzb : b.size = b.data.toList.length := Lib.size_eq b
  have hla := leadL_len a.data.toList
  have hlb := leadL_len b.data.toList
  have dA := lead_dig da
  have dB := lead_dig db
  unfold formularyref09_sizes.f
  rw [lead_f a k (by omega), lead_f b k (by omega)]
  simp only [Option.bind_some, ba_size]
  generalize leadL a.data.toList = A at *
  generalize leadL b.data.toList = B at *
  rw [w64 (x := (A.length : Int) + e) (by omega) (by omega), w64 (x := (A.length : Int) + e - (B.length : Int)) (by omega) (by omega), w64 (by omega) (by omega)]
  by_cases h0 : (A.length : Int) + e - (B.length : Int) - f = 0
  · have hc : cmpI ((A.length : Int) + e) ((B.length : Int) + f) = 0 := by unfold cmpI; rw [if_neg (by omega), if_neg (by omega)]
    rw [if_pos h0, if_pos hc]
    have hm : mx (A.length : Int) (B.length : Int) = ((max A.length B.length : Nat) : Int) := by unfold mx; split <;> omega
    have e1 : wrap64 (mx (A.length : Int) (B.length : Int) - (A.length : Int)) = ((max A.length B.length - A.length : Nat) : Int) := by rw [hm, w64 (by omega) (by omega)]; omega
    have e2 : wrap64 (mx (A.length : Int) (B.length : Int) - (B.length : Int)) = ((max A.length B.length - B.length : Nat) : Int) := by rw [hm, w64 (by omega) (by omega)]; omega
    rw [e1, e2, zeros_f _ k (by omega) (by omega), zeros_f _ k (by omega) (by omega)]
    simp only [Option.bind_some, ba_size, List.length_replicate, ba_append, bit_eq, toL, ba_list]
    rw [if_pos (by omega), if_pos (by omega)]
    obtain ⟨nA, p, sA⟩ := tail_spec _ A rfl
    obtain ⟨nB, q, sB⟩ := tail_spec _ B rfl
    have tA := tail_dig dA
    have tB := tail_dig dB
    have hPQ : A.length + (max A.length B.length - A.length) = B.length + (max A.length B.length - B.length) := by omega
    generalize max A.length B.length - A.length = P at *
    generalize max A.length B.length - B.length = Q at *
    have lA : A.length = (tailL A).length + p := by have := congrArg List.length sA; rw [List.length_append, List.length_replicate] at this; exact this
    have lB : B.length = (tailL B).length + q := by have := congrArg List.length sB; rw [List.length_append, List.length_replicate] at this; exact this
    have eA : A ++ List.replicate P 48 = tailL A ++ List.replicate (p + P) 48 := by rw [← List.replicate_append_replicate, ← List.append_assoc, ← sA]
    have eB : B ++ List.replicate Q 48 = tailL B ++ List.replicate (q + Q) 48 := by rw [← List.replicate_append_replicate, ← List.append_assoc, ← sB]
    have hp := padded (tailL A) (tailL B) (p + P) (q + Q) nA nB tA tB (by omega)
    have hr := compareBytes_range (tailL A) (tailL B)
    rw [eA, eB]
    unfold i01 at hp
    rw [hp, w64 (by omega) (by omega)]
  · have hc : ¬ cmpI ((A.length : Int) + e) ((B.length : Int) + f) = 0 := by unfold cmpI; split <;> (try split) <;> omega
    rw [if_neg h0, if_neg hc, bit_eq]
    simp only [Option.bind_some]
    unfold cmpI
    by_cases h1 : (A.length : Int) + e < (B.length : Int) + f
    · rw [if_pos h1, if_neg (by simp; omega)]; simp [wrap64]
    · rw [if_neg h1, if_pos (by simp; omega), if_pos (by omega)]; simp [wrap64]
/-! ### DecimalNumbers -/
theorem isZero_ref (neg : Bool) (a : ByteArray) (e : Int) (k : Nat) (hk : a.size < k) : formularyref09_IsZero.f k neg a e = some (leadL a.data.toList).isEmpty := by
  unfold formularyref09_IsZero.f
  rw [lead_f a k hk]
  simp only [Option.bind_some, toL, ba_list]
theorem tail_ne48 {l : List UInt8} (h : nz l) : l ≠ [48] := by
  rintro rfl
  exact h.1 rfl rfl
theorem sgn_can (neg : Bool) (l : List UInt8) (e : Int) : sgnC (canP neg l e) = if leadL l = [] then 0 else if neg = true then -1 else 1 := by
  unfold sgnC canP
  by_cases h : leadL l = []
  · rw [if_pos ((tail_lead_nil _).2 h), if_pos h]; rfl
  · rw [if_neg (fun q => h ((tail_lead_nil _).1 q)), if_neg h, if_neg (tail_ne48 (tail_spec _ _ rfl).1)]
theorem cmpI_neg (a b : Int) : cmpI b a = -cmpI a b := by unfold cmpI; (repeat' split) <;> omega
theorem cmpB_neg : ∀ a b : List UInt8, Lib.compareBytes b a = -Lib.compareBytes a b
  | [], [] => rfl
  | [], _ :: _ => rfl
  | _ :: _, [] => rfl
  | a :: ar, b :: br => by
    have ih := cmpB_neg ar br
    rw [Lib.compareBytes, Lib.compareBytes, ih]
    simp only [UInt8.lt_iff_toNat_lt]
    (repeat' split) <;> omega
theorem sizeC_neg (a b : List UInt8) (e f : Int) : sizeC b f a e = -sizeC a e b f := by
  unfold sizeC
  have h := cmpI_neg ((a.length : Int) + e) ((b.length : Int) + f)
  have h2 := cmpB_neg a b
  rw [h, h2]
  by_cases q : cmpI ((a.length : Int) + e) ((b.length : Int) + f) = 0
  · rw [if_pos q, if_pos (by omega)]
  · rw [if_neg q, if_neg (by omega)]
theorem cmpC_neg (x y : Bool × List UInt8 × Int) : cmpC y x = -cmpC x y := by
  unfold cmpC
  by_cases h : sgnC x = sgnC y
  · by_cases h0 : sgnC x = 0
    · rw [if_pos (Or.inr h0), if_pos (Or.inr (by omega)), cmpI_neg]
    · rw [if_neg (show ¬ (sgnC y ≠ sgnC x ∨ sgnC y = 0) by omega), if_neg (show ¬ (sgnC x ≠ sgnC y ∨ sgnC x = 0) by omega), sizeC_neg, ← h, Int.mul_neg]
  · rw [if_pos (Or.inl h), if_pos (Or.inl (fun q => h q.symm)), cmpI_neg]
theorem cmpC_range (x y : Bool × List UInt8 × Int) : -1 ≤ cmpC x y ∧ cmpC x y ≤ 1 := by
  unfold cmpC
  have h1 := cmpI_range (sgnC x) (sgnC y)
  have h2 := sizeC_range x.2.1 y.2.1 x.2.2 y.2.2
  split
  · exact h1
  · rcases sgnC_cases x with h | h | h <;> rw [h] <;> omega
theorem compare_ref (na nb : Bool) (a b : ByteArray) (e f : Int) (k : Nat) (hk : 2010 ≤ k) (ha : errD a.data.toList e = 0) (hb : errD b.data.toList f = 0) :
    formularyref09_Compare.f k na a e nb b f = some (cmpC (canP na a.data.toList e) (canP nb b.data.toList f)) := by
  obtain ⟨k, rfl⟩ : ∃ m, k = m + 1 := ⟨k - 1, by omega⟩
  have hza : a.size = a.data.toList.length := Lib.size_eq a
  have hzb : b.size = b.data.toList.length := Lib.size_eq b
  have ea : a.data.toList.length ≤ 800 ∧ (-1200 ≤ e ∧ e ≤ 1200) ∧ a.data.toList.all isDg = true := by
    unfold errD at ha; (repeat' split at ha) <;> first | exact absurd ha (by decide) | (refine ⟨by omega, by omega, ?_⟩; assumption)
  have eb : b.data.toList.length ≤ 800 ∧ (-1200 ≤ f ∧ f ≤ 1200) ∧ b.data.toList.all isDg = true := by
    unfold errD at hb; (repeat' split at hb) <;> first | exact absurd hb (by decide) | (refine ⟨by omega, by omega, ?_⟩; assumption)
  have hs := sizes_ref na nb a b e f k (by omega) (by omega) (by omega) ea.2.1 eb.2.1 ea.2.2 eb.2.2
  have sA := sgn_can na a.data.toList e
  have sB := sgn_can nb b.data.toList f
  unfold formularyref09_Compare.f
  rw [isZero_ref na a e (k + 1) (by omega), isZero_ref nb b f (k + 1) (by omega)]
  simp only [Option.bind_some]
  by_cases za : leadL a.data.toList = []
  · rw [if_pos za] at sA
    rw [if_pos (by rw [za]; rfl)]
    by_cases zb : leadL b.data.toList = []
    · rw [if_pos zb] at sB
      rw [zb, List.isEmpty_nil, formularyref09_Compare.j0, if_pos rfl]
      unfold cmpC
      rw [sA, sB]
      rfl
    · rw [if_neg zb] at sB
      have zb2 : (leadL b.data.toList).isEmpty = false := by simpa using zb
      rw [zb2, formularyref09_Compare.j0, if_neg (by decide), isZero_ref na a e k (by omega)]
      simp only [Option.bind_some]
      rw [if_pos (by rw [za]; rfl), bit_eq]
      unfold cmpC
      rw [sA, sB]
      cases nb <;> simp [wrap64, cmpI]
  · rw [if_neg za] at sA
    have za2 : (leadL a.data.toList).isEmpty = false := by simpa using za
    rw [za2, if_neg (by decide), formularyref09_Compare.j0, if_neg (by decide), isZero_ref na a e k (by omega), isZero_ref nb b f k (by omega), za2]
    simp only [Option.bind_some]
    rw [if_neg (by decide)]
    by_cases zb : leadL b.data.toList = []
    · rw [if_pos zb] at sB
      rw [if_pos (by rw [zb]; rfl), bit_eq]
      unfold cmpC
      rw [sA, sB]
      cases na <;> simp [wrap64, cmpI]
    · rw [if_neg zb] at sB
      have zb2 : (leadL b.data.toList).isEmpty = false := by simpa using zb
      rw [zb2, if_neg (by decide)]
      by_cases hn : na = nb
      · subst hn
        rw [if_neg (by simp), hs]
        simp only [Option.bind_some]
        have hl := leadL_len a.data.toList
        have cA : canP na a.data.toList e = (na, tailL (leadL a.data.toList), e + ((leadL a.data.toList).length : Int) - ((tailL (leadL a.data.toList)).length : Int)) := by unfold canP; rw [if_neg (fun q => za ((tail_lead_nil _).1 q))]
        have cB : canP na b.data.toList f = (na, tailL (leadL b.data.toList), f + ((leadL b.data.toList).length : Int) - ((tailL (leadL b.data.toList)).length : Int)) := by unfold canP; rw [if_neg (fun q => zb ((tail_lead_nil _).1 q))]
        have hz : sizeC (canP na a.data.toList e).2.1 (canP na a.data.toList e).2.2 (canP na b.data.toList f).2.1 (canP na b.data.toList f).2.2 = if cmpI (((leadL a.data.toList).length : Int) + e) (((leadL b.data.toList).length : Int) + f) = 0 then Lib.compareBytes (tailL (leadL a.data.toList)) (tailL (leadL b.data.toList)) else cmpI (((leadL a.data.toList).length : Int) + e) (((leadL b.data.toList).length : Int) + f) := by
          rw [cA, cB]
          unfold sizeC
          simp only
          rw [show ((tailL (leadL a.data.toList)).length : Int) + (e + ((leadL a.data.toList).length : Int) - ((tailL (leadL a.data.toList)).length : Int)) = ((leadL a.data.toList).length : Int) + e by omega,
            show ((tailL (leadL b.data.toList)).length : Int) + (f + ((leadL b.data.toList).length : Int) - ((tailL (leadL b.data.toList)).length : Int)) = ((leadL b.data.toList).length : Int) + f by omega]
        have hr := sizeC_range (canP na a.data.toList e).2.1 (canP na b.data.toList f).2.1 (canP na a.data.toList e).2.2 (canP na b.data.toList f).2.2
        rw [← hz]
        unfold cmpC
        rw [sA, sB]
        generalize sizeC (canP na a.data.toList e).2.1 (canP na a.data.toList e).2.2 (canP na b.data.toList f).2.1 (canP na b.data.toList f).2.2 = z at *
        cases na
        · simp
        · rw [if_pos rfl, w64 (by omega) (by omega)]; simp
      · have hn2 : (na != nb) = true := by simpa using hn
        rw [if_pos hn2, bit_eq]
        unfold cmpC
        rw [sA, sB]
        cases na <;> cases nb <;> simp [wrap64, cmpI] at *
/-- the canonical number with its error -/
def canR (neg : Bool) (l : List UInt8) (e : Int) : Bool × ByteArray × Int × Int :=
  if -1200 ≤ (canP neg l e).2.2 ∧ (canP neg l e).2.2 ≤ 1200 then ((canP neg l e).1, ⟨(canP neg l e).2.1.toArray⟩, (canP neg l e).2.2, 0) else (false, ⟨#[]⟩, 0, 2)
theorem err_bounds {a : ByteArray} {e : Int} (ha : errD a.data.toList e = 0) : a.size ≤ 800 ∧ -1200 ≤ e ∧ e ≤ 1200 := by
  have hza : a.size = a.data.toList.length := Lib.size_eq a
  unfold errD at ha; (repeat' split at ha) <;> first | exact absurd ha (by decide) | omega
theorem canonicalI (neg : Bool) (a : ByteArray) (e : Int) (k : Nat) (hk : 10 ≤ k) (h : a.size ≤ 9223372036854775807) :
    decimal_Canonical.f k neg a e = some (if errD a.data.toList e = 0 then canR neg a.data.toList e else (false, ⟨#[]⟩, 0, errD a.data.toList e)) := by
  unfold decimal_Canonical.f
  rw [check_impl neg a e k hk h, Option.bind_some]
  by_cases h0 : errD a.data.toList e = 0
  · obtain ⟨b1, b2, b3⟩ := err_bounds h0
    rw [if_pos h0, if_pos h0, again_impl neg a e (by omega) (by omega) (by omega)]
    simp only [Option.bind_some, exponentErr_eq]
    unfold canR
    by_cases hc : -1200 ≤ (canP neg a.data.toList e).2.2 ∧ (canP neg a.data.toList e).2.2 ≤ 1200
    · rw [if_pos hc, if_pos rfl, if_pos hc]
    · rw [if_neg hc, if_neg (by decide), if_neg hc]
  · rw [if_neg h0, if_neg h0]
theorem canonicalR (neg : Bool) (a : ByteArray) (e : Int) (k : Nat) (hk : 2000 ≤ k) (h0 : errD a.data.toList e = 0) :
    formularyref09_Canonical.f k neg a e = some (canR neg a.data.toList e) := by
  obtain ⟨b1, b2, b3⟩ := err_bounds h0
  unfold formularyref09_Canonical.f
  rw [canon_ref neg a e k (by omega) (by omega) (by omega) (by omega)]
  simp only [Option.bind_some, within_eq]
  unfold canR
  by_cases hc : -1200 ≤ (canP neg a.data.toList e).2.2 ∧ (canP neg a.data.toList e).2.2 ≤ 1200
  · rw [if_pos hc, if_pos (by simpa using hc)]
  · rw [if_neg hc, if_neg (by simpa using hc)]
theorem compareE (na nb : Bool) (a b : ByteArray) (e f : Int) (k : Nat) (hk : 20 ≤ k) (ha2 : a.size ≤ 9223372036854775807) (hb2 : b.size ≤ 9223372036854775807) (hq : errD a.data.toList e ≠ 0 ∨ errD b.data.toList f ≠ 0) :
    decimal_Compare.f k na a e nb b f = some (0, if errD a.data.toList e = 0 then errD b.data.toList f else errD a.data.toList e) := by
  unfold decimal_Compare.f
  rw [check_impl na a e k (by omega) ha2, check_impl nb b f k (by omega) hb2]
  simp only [Option.bind_some]
  rw [sooner_eq _ (by simp) k (by simp; omega)]
  simp only [Option.bind_some, firstE]
  by_cases h0 : errD a.data.toList e = 0
  · have h1 : errD b.data.toList f ≠ 0 := by rcases hq with h | h; exact absurd h0 h; exact h
    simp [h0, h1]
  · simp [h0]
theorem law_j0 (na nb : Bool) (a b : ByteArray) (e f : Int) (x : Bool) (k : Nat) (hk : 3000 ≤ k) (ha : a.size ≤ 9223372036854775807) (hb : b.size ≤ 9223372036854775807) :
    formularylaw09_DecimalNumbers.j0 k x na a e nb b f = some true := by
  obtain ⟨k, rfl⟩ : ∃ m, k = m + 1 + 1 := ⟨k - 2, by omega⟩
  rw [formularylaw09_DecimalNumbers.j0]
  cases x
  case true => rw [if_pos rfl]
  rw [if_neg (by decide), check_impl na a e _ (by omega) ha, err_ref na a e _ (by omega), canonicalI na a e _ (by omega) ha]
  simp only [Option.bind_some, if_true]
  by_cases h0 : errD a.data.toList e = 0
  · simp only [if_pos h0]
    rw [canonicalR na a e _ (by omega) h0]
    simp only [Option.bind_some, if_true, beq_self_eq_true, Bool.not_true, Bool.or_self]
    by_cases h1 : errD b.data.toList f = 0
    · rw [compare_impl na nb a b e f _ (by omega) h0 h1 ha hb]
      simp only [Option.bind_some]
      rw [formularylaw09_DecimalNumbers.j1, if_neg (by decide), err_ref nb b f _ (by omega), Option.bind_some, if_pos h1, compare_impl nb na b a f e _ (by omega) h1 h0 hb ha, compare_ref na nb a b e f _ (by omega) h0 h1]
      have hr := cmpC_range (canP na a.data.toList e) (canP nb b.data.toList f)
      simp only [Option.bind_some, if_true]
      rw [cmpC_neg, w64 (by omega) (by omega)]
      simp
    · rw [compareE na nb a b e f _ (by omega) ha hb (Or.inr h1)]
      simp only [Option.bind_some]
      rw [formularylaw09_DecimalNumbers.j1, if_neg (by decide), err_ref nb b f _ (by omega), Option.bind_some, if_neg h1, if_pos h0, if_pos rfl]
      rfl
  · simp only [if_neg h0]
    rw [compareE na nb a b e f _ (by omega) ha hb (Or.inl h0)]
    simp [h0, toL]
theorem numbers_core (na nb : Bool) (a b : ByteArray) (e f : Int) (ha : a.size ≤ 9223372036854775807) (hb : b.size ≤ 9223372036854775807) :
    formularylaw09_DecimalNumbers.f 3000 na a e nb b f = some true := by
  unfold formularylaw09_DecimalNumbers.f formularylaw09_awake.f
  have hs : ∀ n (d : ByteArray) (g : Int), ∃ q, formularylaw09_short.f n d g = some q := by
    intro n d g
    unfold formularylaw09_short.f
    split
    · exact ⟨_, rfl⟩
    · rw [within_eq]; exact ⟨_, rfl⟩
  obtain ⟨q1, h1⟩ := hs na a e
  obtain ⟨q2, h2⟩ := hs nb b f
  rw [Option.bind_some, if_pos rfl, h1, h2]
  simp only [Option.bind_some]
  rw [law_j0 na nb a b e f _ 3000 (Nat.le_refl _) ha hb, law_j0 na nb a b e f _ 3000 (Nat.le_refl _) ha hb]
  split <;> rfl
theorem DecimalNumbers (a0_0 : Bool) (a0_1 : ByteArray) (a0_2 : Int) (a1_0 : Bool) (a1_1 : ByteArray) (a1_2 : Int) (w0_1 : a0_1.size ≤ maxLen) (w0_2 : (Lit.int .i64 a0_2).wf = true) (w1_1 : a1_1.size ≤ maxLen) (w1_2 : (Lit.int .i64 a1_2).wf = true) :
    ∃ k, formularylaw09_DecimalNumbers.f k a0_0 a0_1 a0_2 a1_0 a1_1 a1_2 = some true := by
  have h : maxLen ≤ 9223372036854775807 := by decide
  exact ⟨3000, numbers_core a0_0 a1_0 a0_1 a1_1 a0_2 a1_2 (Nat.le_trans w0_1 h) (Nat.le_trans w1_1 h)⟩

end Go.Proofs.YtgejpojdnmogcaaGreatDoor.Pure
